/- The law FnRxBusy: for every input the call returns true, and each argument reads behind the call as it read before. Conditions: none. -/
import Derived.Test.YtjladmhjpikdhaaMFnRxBusy1
import Derived.Test.YtjladmhjpikdhaaProg
import Derived.ChangeSlices
import Derived.Test.YtjladmhjpikdhaaRows
import Derived.WalkKit
import Derived.ProofKit
import Derived.OpenShut
import Derived.ShutString
import Derived.ChangeOld
import Derived.Below
import Derived.SizedLaws
/- The program's types, as far as they are used. Conditions: none. -/
set_option linter.unusedVariables false
namespace Go.Proofs.YtjladmhjpikdhaaE
open Go
def tys : List (Nat × TyI) := [
(2, ⟨false, [.i .i64 0], none, [], []⟩),
(3, ⟨false, [.i .i64 0], none, [], []⟩),
(4, ⟨false, [.b false], none, [], []⟩),
(5, ⟨false, [.i .u8 0], none, [], []⟩),
(6, ⟨false, [.i .u8 0], none, [], []⟩),  -- internal/abi.BoundsErrorCode
(7, ⟨true, [.i .i64 0, .i .i64 0, .b false, .i .u8 0], none, [], [(0, 2), (1, 3), (2, 4), (3, 6)]⟩),
(8, ⟨true, [.i .i64 0, .i .i64 0, .b false, .i .u8 0], none, [], [(0, 2), (1, 3), (2, 4), (3, 6)]⟩),  -- runtime.boundsError
(12, ⟨false, [.i .u64 0], none, [], []⟩),
(21, ⟨false, [.i .i32 0], none, [], []⟩),
(22, ⟨false, [.r .u8 []], (some (.u8, 5)), [], []⟩),
(23, ⟨true, [.i .i64 0, .r .u8 []], none, [5], [(0, 3), (1, 22)]⟩),
(24, ⟨true, [.i .i64 0, .r .u8 []], none, [5], [(0, 3), (1, 22)]⟩),  -- loop.example/linkboy/impl.SegJoin
(25, ⟨true, [.i .i64 0, .i .i64 0, .i .i64 0, .r .u8 [], .b false, .b false, .b false], none, [5], [(0, 3), (1, 3), (2, 24), (4, 4), (5, 4), (6, 4)]⟩),
(26, ⟨true, [.i .i64 0, .i .i64 0, .i .i64 0, .r .u8 [], .b false, .b false, .b false], none, [5], [(0, 3), (1, 3), (2, 24), (4, 4), (5, 4), (6, 4)]⟩),  -- loop.example/linkboy/impl.RxState
(28, ⟨true, [.i .i64 0, .i .i64 0, .i .i64 0, .b false, .b false, .i .i64 0, .i .i64 0, .i .i64 0, .r .u8 []], none, [5], [(0, 3), (1, 3), (2, 3), (3, 4), (4, 4), (5, 3), (6, 3), (7, 3), (8, 22)]⟩),
(29, ⟨true, [.i .i64 0, .i .i64 0, .i .i64 0, .b false, .b false, .i .i64 0, .i .i64 0, .i .i64 0, .r .u8 []], none, [5], [(0, 3), (1, 3), (2, 3), (3, 4), (4, 4), (5, 3), (6, 3), (7, 3), (8, 22)]⟩),  -- loop.example/linkboy/impl.FrmFrame
(38, ⟨false, [.r .frm []], (some (.frm, 29)), [], []⟩),
(44, ⟨true, [.i .i64 0, .r .u8 []], none, [5], [(0, 3), (1, 22)]⟩),  -- loop.example/linkboy/laws.SegJoin
(45, ⟨true, [.i .i64 0, .i .i64 0, .i .i64 0, .r .u8 [], .b false, .b false, .b false], none, [5], [(0, 3), (1, 3), (2, 44), (4, 4), (5, 4), (6, 4)]⟩),
(46, ⟨true, [.i .i64 0, .i .i64 0, .i .i64 0, .r .u8 [], .b false, .b false, .b false], none, [5], [(0, 3), (1, 3), (2, 44), (4, 4), (5, 4), (6, 4)]⟩),  -- loop.example/linkboy/laws.RxState
(54, ⟨true, [.i .i64 0, .i .i64 0, .i .i64 0, .i .i64 0, .i .i64 0], none, [], [(0, 3), (1, 3), (2, 3), (3, 3), (4, 3)]⟩),
(55, ⟨true, [.i .i64 0, .i .i64 0, .i .i64 0, .i .i64 0, .i .i64 0], none, [], [(0, 3), (1, 3), (2, 3), (3, 3), (4, 3)]⟩),  -- loop.example/linkboy/laws.CfgOpts
(56, ⟨true, [.i .i64 0, .i .i64 0, .i .i64 0, .b false, .b false, .i .i64 0, .i .i64 0, .i .i64 0, .r .u8 []], none, [5], [(0, 3), (1, 3), (2, 3), (3, 4), (4, 4), (5, 3), (6, 3), (7, 3), (8, 22)]⟩),  -- loop.example/linkboy/laws.FrmFrame
(58, ⟨false, [.r .byr []], (some (.byr, 22)), [], []⟩),
(61, ⟨true, [.i .i64 0, .i .i64 0, .i .i64 0, .i .i64 0, .i .i64 0], none, [], [(0, 3), (1, 3), (2, 3), (3, 3), (4, 3)]⟩),  -- loop.example/linkboy/impl.CfgOpts
(74, ⟨true, [.i .i64 0, .i .i64 0, .r .u8 []], none, [5], [(0, 3), (1, 3), (2, 22)]⟩),
(75, ⟨true, [.i .i64 0, .i .i64 0, .r .u8 []], none, [5], [(0, 3), (1, 3), (2, 22)]⟩),  -- loop.example/linkboy/impl.SegPart
(99, ⟨false, [.r .i64 []], (some (.i64, 3)), [], []⟩),
(103, ⟨true, [.r .u8 [], .i .i64 0], none, [5], [(0, 22), (1, 3)]⟩),
(104, ⟨true, [.r .u8 [], .i .i64 0], none, [5], [(0, 22), (1, 3)]⟩),  -- loop.example/linkboy/spec.l20Rd
(118, ⟨false, [.i .u32 0], none, [], []⟩),
(119, ⟨false, [.i .u8 0], none, [], []⟩),  -- internal/abi.TFlag
(120, ⟨false, [.i .u8 0], none, [], []⟩),  -- internal/abi.Kind
(123, ⟨false, [.i .i32 0], none, [], []⟩),  -- internal/abi.NameOff
(124, ⟨false, [.i .i32 0], none, [], []⟩)  -- internal/abi.TypeOff
]
set_option maxRecDepth 100000 in
theorem tys_ok : tysB Try.prog tys = true := by kernel_rfl
theorem mixed : Try.prog.follows .mixedOrders = true := by kernel_rfl
end Go.Proofs.YtjladmhjpikdhaaE

/- Contracts: A. Conditions: none. -/
set_option linter.unusedVariables false
namespace Go.Proofs.YtjladmhjpikdhaaE
open Go
/-! impl.in -/
def c_impl_in : Ent := ctr (α := (Int) × (Int) × (Int)) (ρ := (Bool)) [] [] (rs rInt (rs rInt (rs1 rInt))) (fun x_ => (fun (a : Int) (b : Int) (c : Int) => (True)) x_.1 x_.2.1 x_.2.2) (fun x_ r_ => (fun x_ => (fun (a : Int) (b : Int) (c : Int) => ((fun r_ => (fun (r : Bool) => (r = decide (b ≤ a ∧ a ≤ c))) r_))) x_.1 x_.2.1 x_.2.2) x_ r_) (fun r_ => (fun (r : Bool) => ([rB.to r])) r_) (fun r_ => (fun (r : Bool) => ([])) r_)
def V_impl_in : Env := ⟨tys, [], [], [], [], []⟩
/-! spec.l1In -/
def c_spec_l1In : Ent := ctr (α := (Int) × (Int) × (Int)) (ρ := (Bool)) [] [] (rs rInt (rs rInt (rs1 rInt))) (fun x_ => (fun (a : Int) (b : Int) (c : Int) => (True)) x_.1 x_.2.1 x_.2.2) (fun x_ r_ => (fun x_ => (fun (a : Int) (b : Int) (c : Int) => ((fun r_ => (fun (r : Bool) => (r = decide (b ≤ a ∧ a ≤ c))) r_))) x_.1 x_.2.1 x_.2.2) x_ r_) (fun r_ => (fun (r : Bool) => ([rB.to r])) r_) (fun r_ => (fun (r : Bool) => ([])) r_)
def V_spec_l1In : Env := ⟨tys, [], [], [], [], []⟩
end Go.Proofs.YtjladmhjpikdhaaE

/- Contracts: B. Conditions: none. -/
set_option linter.unusedVariables false
namespace Go.Proofs.YtjladmhjpikdhaaE
open Go
/-! slices.Clone[[]byte,byte] -/
def c_slices_Clone_byte_byte : Ent := ctr (α := (List Int)) (ρ := (List Int)) [] [(0, 0)] (rs1 rBytes) (fun x_ => (fun (l : List Int) => (l.length ≤ LIM)) x_) (fun x_ r_ => (fun x_ => (fun (l : List Int) => ((fun r_ => (fun (r : List Int) => (r = l)) r_))) x_) x_ r_) (fun r_ => (fun (r : List Int) => ([(rO 5 .u8).to r])) r_) (fun r_ => (fun (r : List Int) => ([])) r_)
def V_slices_Clone_byte_byte : Env := ⟨tys, [], [(2, [0]), (5, [1])], [], [], []⟩
/-! slices.Clip[[]byte,byte] -/
def c_slices_Clip_byte_byte : Ent := ctr (α := (List Int)) (ρ := (List Int)) [(0, 0)] [(0, 0)] (rs1 (rO 5 .u8)) (fun x_ => (fun (l : List Int) => (True)) x_) (fun x_ r_ => (fun x_ => (fun (l : List Int) => ((fun r_ => (fun (r : List Int) => (r = l)) r_))) x_) x_ r_) (fun r_ => (fun (r : List Int) => ([(rO 5 .u8).to r])) r_) (fun r_ => (fun (r : List Int) => ([])) r_)
def V_slices_Clip_byte_byte : Env := ⟨tys, [], [], [], [], []⟩
/-! impl.clone[byte] -/
def c_impl_clone_byte : Ent := ctr (α := (List Int)) (ρ := (List Int)) [] [(0, 0)] (rs1 rBytes) (fun x_ => (fun (l : List Int) => (l.length ≤ LIM)) x_) (fun x_ r_ => (fun x_ => (fun (l : List Int) => ((fun r_ => (fun (r : List Int) => (r = l)) r_))) x_) x_ r_) (fun r_ => (fun (r : List Int) => ([(rO 5 .u8).to r])) r_) (fun r_ => (fun (r : List Int) => ([])) r_)
def V_impl_clone_byte : Env := ⟨tys, [(99, c_slices_Clip_byte_byte), (100, c_slices_Clone_byte_byte)], [(4, [0]), (5, [1])], [], [], []⟩
end Go.Proofs.YtjladmhjpikdhaaE

/- Contracts: F. Conditions: none. -/
set_option linter.unusedVariables false
namespace Go.Proofs.YtjladmhjpikdhaaE
open Go
/-! impl.isNumber -/
def c_impl_isNumber : Ent := ctr (α := (Int)) (ρ := (Bool)) [] [] (rs1 rInt) (fun x_ => (fun (n : Int) => (True)) x_) (fun x_ r_ => (fun x_ => (fun (n : Int) => ((fun r_ => (fun (r : Bool) => (r = decide (0 ≤ n ∧ n ≤ 7))) r_))) x_) x_ r_) (fun r_ => (fun (r : Bool) => ([rB.to r])) r_) (fun r_ => (fun (r : Bool) => ([])) r_)
def V_impl_isNumber : Env := ⟨tys, [(65, c_impl_in)], [], [], [], []⟩
/-! slices.Equal[[]byte,byte] -/
def c_slices_Equal_byte_byte : Ent := ctr (α := (List Int) × (List Int)) (ρ := (Bool)) [] [] (rs rBytes (rs1 rBytes)) (fun x_ => (fun (a : List Int) (b : List Int) => (a.length ≤ LIM)) x_.1 x_.2) (fun x_ r_ => (fun x_ => (fun (a : List Int) (b : List Int) => ((fun r_ => (fun (r : Bool) => (r = decide (a = b))) r_))) x_.1 x_.2) x_ r_) (fun r_ => (fun (r : Bool) => ([rB.to r])) r_) (fun r_ => (fun (r : Bool) => ([])) r_)
def l_slices_Equal_byte_byte_0 : LoopD ((List Int) × (List Int) × (Int)) ((Unit)) ((Unit)) where
  head := ⟨[0, 1, 12, 13], [], []⟩
  st := fun x_ => (fun (a : List Int) (b : List Int) (i : Int) => (⟨mkSlots 26 [(0, .v false [.d (.r .u8 a)]), (1, .v false [.d (.r .u8 b)]), (12, num .i64 a.length), (13, num .i64 i)], [], []⟩)) x_.1 x_.2.1 x_.2.2
  pre := fun x_ => (fun (a : List Int) (b : List Int) (i : Int) => (a.length = b.length ∧ i = 0 ∧ a.length ≤ LIM)) x_.1 x_.2.1 x_.2.2
  nk := ⟨[], [], []⟩
  nst := fun r_ => (fun (u : Unit) => (⟨mkSlots 26 [], [], []⟩)) r_
  npost := fun x_ r_ => (fun x_ => (fun (a0 : List Int) (b0 : List Int) (i0 : Int) => ((fun r_ => (fun (u : Unit) => (a0 = b0)) r_))) x_.1 x_.2.1 x_.2.2) x_ r_
  rk := ⟨[4], [], []⟩
  rst := fun r_ => (fun (u : Unit) => (⟨mkSlots 26 [(4, boo false)], [], []⟩)) r_
  rpost := fun x_ r_ => (fun x_ => (fun (a0 : List Int) (b0 : List Int) (i0 : Int) => ((fun r_ => (fun (u : Unit) => (a0 ≠ b0)) r_))) x_.1 x_.2.1 x_.2.2) x_ r_
def i_slices_Equal_byte_byte_0 (x : (List Int) × (List Int) × (Int)) (n : Nat) (s : (List Int) × (List Int) × (Int)) : Prop := (fun x_ => (fun (a0 : List Int) (b0 : List Int) (i0 : Int) => ((fun s_ => (fun (a : List Int) (b : List Int) (i : Int) => (a = a0 ∧ b = b0 ∧ a.length = b.length ∧ a.length ≤ LIM ∧ 0 ≤ i ∧ i + n = a.length ∧ a.take i.toNat = b.take i.toNat)) s_.1 s_.2.1 s_.2.2))) x_.1 x_.2.1 x_.2.2) x s
def V_slices_Equal_byte_byte : Env := ⟨tys, [], [], [], [], [(0, l_slices_Equal_byte_byte_0.L)]⟩
/-! impl.CfgOk -/
def c_impl_CfgOk : Ent := ctr (α := (Cfg)) (ρ := (Bool)) [] [] (rs1 rCfg) (fun x_ => (fun (c : Cfg) => (True)) x_) (fun x_ r_ => (fun x_ => (fun (c : Cfg) => ((fun r_ => (fun (r : Bool) => (r = decide (CfgP c))) r_))) x_) x_ r_) (fun r_ => (fun (r : Bool) => ([rB.to r])) r_) (fun r_ => (fun (r : Bool) => ([])) r_)
def V_impl_CfgOk : Env := ⟨tys, [(65, c_impl_in)], [], [(1, 0)], [], []⟩
/-! spec.CfgOk -/
def c_spec_CfgOk : Ent := ctr (α := (Cfg)) (ρ := (Bool)) [] [] (rs1 rCfg) (fun x_ => (fun (c : Cfg) => (True)) x_) (fun x_ r_ => (fun x_ => (fun (c : Cfg) => ((fun r_ => (fun (r : Bool) => (r = decide (CfgP c))) r_))) x_) x_ r_) (fun r_ => (fun (r : Bool) => ([rB.to r])) r_) (fun r_ => (fun (r : Bool) => ([])) r_)
def V_spec_CfgOk : Env := ⟨tys, [(59, c_spec_l1In)], [], [(1, 0)], [], []⟩
/-! impl.pieceOk -/
def c_impl_pieceOk : Ent := ctr (α := (Int) × (Int) × (List Int)) (ρ := (Bool)) [] [] (rs rInt (rs rInt (rs1 rBytes))) (fun x_ => (fun (s : Int) (n : Int) (d : List Int) => (True)) x_.1 x_.2.1 x_.2.2) (fun x_ r_ => (fun x_ => (fun (s : Int) (n : Int) (d : List Int) => ((fun r_ => (fun (r : Bool) => (r = decide (SegP s n d.length))) r_))) x_.1 x_.2.1 x_.2.2) x_ r_) (fun r_ => (fun (r : Bool) => ([rB.to r])) r_) (fun r_ => (fun (r : Bool) => ([])) r_)
def V_impl_pieceOk : Env := ⟨tys, [(65, c_impl_in)], [], [], [], []⟩
/-! spec.l2Seg -/
def c_spec_l2Seg : Ent := ctr (α := (Frm)) (ρ := (Bool)) [] [] (rs1 rFrm) (fun x_ => (fun (f : Frm) => (True)) x_) (fun x_ r_ => (fun x_ => (fun (f : Frm) => ((fun r_ => (fun (r : Bool) => (r = decide (SegP f.seg f.len f.data.length))) r_))) x_) x_ r_) (fun r_ => (fun (r : Bool) => ([rB.to r])) r_) (fun r_ => (fun (r : Bool) => ([])) r_)
def V_spec_l2Seg : Env := ⟨tys, [(59, c_spec_l1In)], [], [(1, 0)], [], []⟩
/-! (impl.FrmFrame).same -/
def c_impl_FrmFrame_same : Ent := ctr (α := (Frm) × (Frm)) (ρ := (Bool)) [] [] (rs rFrm (rs1 rFrm)) (fun x_ => (fun (f : Frm) (g : Frm) => (f.data.length ≤ LIM)) x_.1 x_.2) (fun x_ r_ => (fun x_ => (fun (f : Frm) (g : Frm) => ((fun r_ => (fun (r : Bool) => (r = decide (f = g))) r_))) x_.1 x_.2) x_ r_) (fun r_ => (fun (r : Bool) => ([rB.to r])) r_) (fun r_ => (fun (r : Bool) => ([])) r_)
def V_impl_FrmFrame_same : Env := ⟨tys, [(94, c_slices_Equal_byte_byte)], [], [(2, 0), (3, 1)], [], []⟩
/-! impl.FrmOk -/
def c_impl_FrmOk : Ent := ctr (α := (Frm)) (ρ := (Bool)) [] [] (rs1 rFrm) (fun x_ => (fun (f : Frm) => (f.data.length ≤ LIM)) x_) (fun x_ r_ => (fun x_ => (fun (f : Frm) => ((fun r_ => (fun (r : Bool) => (r = decide (FrmP f))) r_))) x_) x_ r_) (fun r_ => (fun (r : Bool) => ([rB.to r])) r_) (fun r_ => (fun (r : Bool) => ([])) r_)
def V_impl_FrmOk : Env := ⟨tys, [(63, c_impl_isNumber), (64, c_impl_pieceOk), (65, c_impl_in), (66, c_impl_FrmFrame_same)], [], [(1, 0), (3, 1)], [(5, ([1], [])), (8, ([1], [])), (11, ([1], []))], []⟩
/-! spec.FrmOk -/
def c_spec_FrmOk : Ent := ctr (α := (Frm)) (ρ := (Bool)) [] [] (rs1 rFrm) (fun x_ => (fun (f : Frm) => (True)) x_) (fun x_ r_ => (fun x_ => (fun (f : Frm) => ((fun r_ => (fun (r : Bool) => (r = decide (FrmP f))) r_))) x_) x_ r_) (fun r_ => (fun (r : Bool) => ([rB.to r])) r_) (fun r_ => (fun (r : Bool) => ([])) r_)
def V_spec_FrmOk : Env := ⟨tys, [(59, c_spec_l1In), (87, c_spec_l2Seg)], [], [(1, 0)], [], []⟩
end Go.Proofs.YtjladmhjpikdhaaE

/- Contracts: G. Conditions: none. -/
set_option linter.unusedVariables false
namespace Go.Proofs.YtjladmhjpikdhaaE
open Go
/-! impl.PartOk -/
def c_impl_PartOk : Ent := ctr (α := (Part)) (ρ := (Bool)) [] [] (rs1 rPart) (fun x_ => (fun (p : Part) => (True)) x_) (fun x_ r_ => (fun x_ => (fun (p : Part) => ((fun r_ => (fun (v : Bool) => (v = decide (PartP p))) r_))) x_) x_ r_) (fun r_ => (fun (v : Bool) => ([rB.to v])) r_) (fun r_ => (fun (v : Bool) => ([])) r_)
def V_impl_PartOk : Env := ⟨tys, [(64, c_impl_pieceOk)], [], [(1, 0)], [], []⟩
/-! impl.JoinOk -/
def c_impl_JoinOk : Ent := ctr (α := (JoinS)) (ρ := (Bool)) [] [] (rs1 rJoin) (fun x_ => (fun (j : JoinS) => (True)) x_) (fun x_ r_ => (fun x_ => (fun (j : JoinS) => ((fun r_ => (fun (v : Bool) => (v = decide (JoinP j))) r_))) x_) x_ r_) (fun r_ => (fun (v : Bool) => ([rB.to v])) r_) (fun r_ => (fun (v : Bool) => ([])) r_)
def V_impl_JoinOk : Env := ⟨tys, [(65, c_impl_in)], [], [(1, 0)], [], []⟩
/-! spec.JoinOk -/
def c_spec_JoinOk : Ent := ctr (α := (JoinS)) (ρ := (Bool)) [] [] (rs1 rJoin) (fun x_ => (fun (j : JoinS) => (True)) x_) (fun x_ r_ => (fun x_ => (fun (j : JoinS) => ((fun r_ => (fun (v : Bool) => (v = decide (JoinP j))) r_))) x_) x_ r_) (fun r_ => (fun (v : Bool) => ([rB.to v])) r_) (fun r_ => (fun (v : Bool) => ([])) r_)
def V_spec_JoinOk : Env := ⟨tys, [(59, c_spec_l1In)], [], [(1, 0)], [], []⟩
/-! impl.far -/
def c_impl_far : Ent := ctr (α := (Int) × (Int)) (ρ := (Int)) [] [] (rs rInt (rs1 rInt)) (fun x_ => (fun (a : Int) (b : Int) => (0 ≤ a ∧ a ≤ 7 ∧ 0 ≤ b ∧ b ≤ 7)) x_.1 x_.2) (fun x_ r_ => (fun x_ => (fun (a : Int) (b : Int) => ((fun r_ => (fun (x : Int) => (x = (b - a + 8) % 8)) r_))) x_.1 x_.2) x_ r_) (fun r_ => (fun (x : Int) => ([rInt.to x])) r_) (fun r_ => (fun (x : Int) => ([])) r_)
def V_impl_far : Env := ⟨tys, [], [], [], [], []⟩
/-! impl.NumFar -/
def c_impl_NumFar : Ent := ctr (α := (Int) × (Int)) (ρ := (Int)) [] [] (rs rInt (rs1 rInt)) (fun x_ => (fun (a : Int) (b : Int) => (True)) x_.1 x_.2) (fun x_ r_ => (fun x_ => (fun (a : Int) (b : Int) => ((fun r_ => (fun (x : Int) => (x = if 0 ≤ a ∧ a ≤ 7 ∧ 0 ≤ b ∧ b ≤ 7 then (b - a + 8) % 8 else -1)) r_))) x_.1 x_.2) x_ r_) (fun r_ => (fun (x : Int) => ([rInt.to x])) r_) (fun r_ => (fun (x : Int) => ([])) r_)
def V_impl_NumFar : Env := ⟨tys, [(63, c_impl_isNumber), (88, c_impl_far)], [], [], [], []⟩
/-! spec.NumFar -/
def c_spec_NumFar : Ent := ctr (α := (Int) × (Int)) (ρ := (Int)) [] [] (rs rInt (rs1 rInt)) (fun x_ => (fun (a : Int) (b : Int) => (True)) x_.1 x_.2) (fun x_ r_ => (fun x_ => (fun (a : Int) (b : Int) => ((fun r_ => (fun (x : Int) => (x = if 0 ≤ a ∧ a ≤ 7 ∧ 0 ≤ b ∧ b ≤ 7 then (b - a + 8) % 8 else -1)) r_))) x_.1 x_.2) x_ r_) (fun r_ => (fun (x : Int) => ([rInt.to x])) r_) (fun r_ => (fun (x : Int) => ([])) r_)
def V_spec_NumFar : Env := ⟨tys, [(59, c_spec_l1In)], [], [], [], []⟩
/-! impl.NumNext -/
def c_impl_NumNext : Ent := ctr (α := (Int)) (ρ := (Int)) [] [] (rs1 rInt) (fun x_ => (fun (n : Int) => (0 ≤ n ∧ n ≤ 100000)) x_) (fun x_ r_ => (fun x_ => (fun (n : Int) => ((fun r_ => (fun (x : Int) => (x = (n + 1) % 8)) r_))) x_) x_ r_) (fun r_ => (fun (x : Int) => ([rInt.to x])) r_) (fun r_ => (fun (x : Int) => ([])) r_)
def V_impl_NumNext : Env := ⟨tys, [], [], [], [], []⟩
/-! impl.NumOf -/
def c_impl_NumOf : Ent := ctr (α := (Int)) (ρ := (Int)) [] [] (rs1 rInt) (fun x_ => (fun (n : Int) => (True)) x_) (fun x_ r_ => (fun x_ => (fun (n : Int) => ((fun r_ => (fun (x : Int) => (x = if n < 0 then -1 else n % 8)) r_))) x_) x_ r_) (fun r_ => (fun (x : Int) => ([rInt.to x])) r_) (fun r_ => (fun (x : Int) => ([])) r_)
def V_impl_NumOf : Env := ⟨tys, [], [], [], [], []⟩
/-! spec.NumNext -/
def c_spec_NumNext : Ent := ctr (α := (Int)) (ρ := (Int)) [] [] (rs1 rInt) (fun x_ => (fun (n : Int) => (0 ≤ n ∧ n ≤ 100000)) x_) (fun x_ r_ => (fun x_ => (fun (n : Int) => ((fun r_ => (fun (x : Int) => (x = (n + 1) % 8)) r_))) x_) x_ r_) (fun r_ => (fun (x : Int) => ([rInt.to x])) r_) (fun r_ => (fun (x : Int) => ([])) r_)
def V_spec_NumNext : Env := ⟨tys, [], [], [], [], []⟩
/-! spec.NumOf -/
def c_spec_NumOf : Ent := ctr (α := (Int)) (ρ := (Int)) [] [] (rs1 rInt) (fun x_ => (fun (n : Int) => (True)) x_) (fun x_ r_ => (fun x_ => (fun (n : Int) => ((fun r_ => (fun (x : Int) => (x = if n < 0 then -1 else n % 8)) r_))) x_) x_ r_) (fun r_ => (fun (x : Int) => ([rInt.to x])) r_) (fun r_ => (fun (x : Int) => ([])) r_)
def V_spec_NumOf : Env := ⟨tys, [], [], [], [], []⟩
/-! impl.goOrWait -/
def c_impl_goOrWait : Ent := ctr (α := (Bool)) (ρ := (Int)) [] [] (rs1 rB) (fun x_ => (fun (b : Bool) => (True)) x_) (fun x_ r_ => (fun x_ => (fun (b : Bool) => ((fun r_ => (fun (x : Int) => (x = goWait b)) r_))) x_) x_ r_) (fun r_ => (fun (x : Int) => ([rInt.to x])) r_) (fun r_ => (fun (x : Int) => ([])) r_)
def V_impl_goOrWait : Env := ⟨tys, [], [], [], [], []⟩
/-! impl.RxOk -/
def c_impl_RxOk : Ent := ctr (α := (RxS)) (ρ := (Bool)) [] [] (rs1 rRx) (fun x_ => (fun (r : RxS) => (True)) x_) (fun x_ r_ => (fun x_ => (fun (r : RxS) => ((fun r_ => (fun (v : Bool) => (v = decide (RxP r))) r_))) x_) x_ r_) (fun r_ => (fun (v : Bool) => ([rB.to v])) r_) (fun r_ => (fun (v : Bool) => ([])) r_)
def V_impl_RxOk : Env := ⟨tys, [(63, c_impl_isNumber), (65, c_impl_in), (70, c_impl_NumOf), (71, c_impl_JoinOk)], [], [(1, 0)], [], []⟩
/-! spec.RxOk -/
def c_spec_RxOk : Ent := ctr (α := (RxS)) (ρ := (Bool)) [] [] (rs1 rRx) (fun x_ => (fun (r : RxS) => (True)) x_) (fun x_ r_ => (fun x_ => (fun (r : RxS) => ((fun r_ => (fun (v : Bool) => (v = decide (RxP r))) r_))) x_) x_ r_) (fun r_ => (fun (v : Bool) => ([rB.to v])) r_) (fun r_ => (fun (v : Bool) => ([])) r_)
def V_spec_RxOk : Env := ⟨tys, [(59, c_spec_l1In), (60, c_spec_NumOf), (61, c_spec_JoinOk)], [], [(1, 0)], [], []⟩
/-! (impl.RxState).say -/
def c_impl_RxState_say : Ent := ctr (α := (RxS) × (Int) × (Bool)) (ρ := (Frm)) [] [] (rs rRx (rs rInt (rs1 rB))) (fun x_ => (fun (r : RxS) (w : Int) (f : Bool) => (True)) x_.1 x_.2.1 x_.2.2) (fun x_ r_ => (fun x_ => (fun (r : RxS) (w : Int) (f : Bool) => ((fun r_ => (fun (g : Frm) => (g = sayF r w f)) r_))) x_.1 x_.2.1 x_.2.2) x_ r_) (fun r_ => (fun (g : Frm) => ([rFrm.to g])) r_) (fun r_ => (fun (g : Frm) => ([])) r_)
def V_impl_RxState_say : Env := ⟨tys, [], [], [(3, 0), (6, 1)], [], []⟩
/-! spec.l7Say -/
def c_spec_l7Say : Ent := ctr (α := (RxS) × (Bool)) (ρ := (Frm)) [] [] (rs rRx (rs1 rB)) (fun x_ => (fun (r : RxS) (f : Bool) => (True)) x_.1 x_.2) (fun x_ r_ => (fun x_ => (fun (r : RxS) (f : Bool) => ((fun r_ => (fun (g : Frm) => (g = sayF r (goWait r.busy) f)) r_))) x_.1 x_.2) x_ r_) (fun r_ => (fun (g : Frm) => ([rFrm.to g])) r_) (fun r_ => (fun (g : Frm) => ([])) r_)
def V_spec_l7Say : Env := ⟨tys, [], [], [(2, 0), (4, 1), (5, 2)], [], []⟩
end Go.Proofs.YtjladmhjpikdhaaE

/- Contracts: H. Conditions: none. -/
set_option linter.unusedVariables false
namespace Go.Proofs.YtjladmhjpikdhaaE
open Go
/-! laws.liBytes -/
def c_laws_liBytes : Ent := ctr (α := (List Int) × (List Int)) (ρ := (Bool)) [] [] (rs (rR .u8) (rs1 (rR .u8))) (fun x_ => (fun (a : List Int) (b : List Int) => (a.length ≤ LIM ∧ True)) x_.1 x_.2) (fun x_ r_ => (fun x_ => (fun (a : List Int) (b : List Int) => ((fun r_ => (fun (r : Bool) => (r = decide (a = b))) r_))) x_.1 x_.2) x_ r_) (fun r_ => (fun (r : Bool) => ([rB.to r])) r_) (fun r_ => (fun (r : Bool) => ([])) r_)
def l_laws_liBytes_0 : LoopD ((List Int) × (List Int) × (Int)) ((Unit)) ((Unit)) where
  head := ⟨[0, 1, 5], [], []⟩
  st := fun x_ => (fun (a : List Int) (b : List Int) (i : Int) => (⟨mkSlots 26 [(0, .v false [.d (.r .u8 a)]), (1, .v false [.d (.r .u8 b)]), (5, num .i64 i)], [], []⟩)) x_.1 x_.2.1 x_.2.2
  pre := fun x_ => (fun (a : List Int) (b : List Int) (i : Int) => (a.length = b.length ∧ i = 0 ∧ a.length ≤ LIM ∧ True)) x_.1 x_.2.1 x_.2.2
  nk := ⟨[], [], []⟩
  nst := fun r_ => (fun (u : Unit) => (⟨mkSlots 26 [], [], []⟩)) r_
  npost := fun x_ r_ => (fun x_ => (fun (a0 : List Int) (b0 : List Int) (i0 : Int) => ((fun r_ => (fun (u : Unit) => (a0 = b0)) r_))) x_.1 x_.2.1 x_.2.2) x_ r_
  rk := ⟨[4], [], []⟩
  rst := fun r_ => (fun (u : Unit) => (⟨mkSlots 26 [(4, boo false)], [], []⟩)) r_
  rpost := fun x_ r_ => (fun x_ => (fun (a0 : List Int) (b0 : List Int) (i0 : Int) => ((fun r_ => (fun (u : Unit) => (a0 ≠ b0)) r_))) x_.1 x_.2.1 x_.2.2) x_ r_
def i_laws_liBytes_0 (x : (List Int) × (List Int) × (Int)) (n : Nat) (s : (List Int) × (List Int) × (Int)) : Prop := (fun x_ => (fun (a0 : List Int) (b0 : List Int) (i0 : Int) => ((fun s_ => (fun (a : List Int) (b : List Int) (i : Int) => (a = a0 ∧ b = b0 ∧ a.length = b.length ∧ a.length ≤ LIM ∧ (True) ∧ 0 ≤ i ∧ i + n = a.length ∧ a.take i.toNat = b.take i.toNat)) s_.1 s_.2.1 s_.2.2))) x_.1 x_.2.1 x_.2.2) x s
def V_laws_liBytes : Env := ⟨tys, [], [], [], [], [(0, l_laws_liBytes_0.L)]⟩
/-! laws.liJoin -/
def c_laws_liJoin : Ent := ctr (α := (JoinS) × (JoinS)) (ρ := (Bool)) [] [] (rs rJoin (rs1 rJoin)) (fun x_ => (fun (a : JoinS) (b : JoinS) => (a.got.length ≤ LIM)) x_.1 x_.2) (fun x_ r_ => (fun x_ => (fun (a : JoinS) (b : JoinS) => ((fun r_ => (fun (r : Bool) => (r = decide (a = b))) r_))) x_.1 x_.2) x_ r_) (fun r_ => (fun (r : Bool) => ([rB.to r])) r_) (fun r_ => (fun (r : Bool) => ([])) r_)
def V_laws_liJoin : Env := ⟨tys, [(53, c_laws_liBytes)], [], [(2, 0), (3, 1)], [], []⟩
/-! laws.liRx -/
def c_laws_liRx : Ent := ctr (α := (RxS) × (RxS)) (ρ := (Bool)) [] [] (rs rRx (rs1 rRx)) (fun x_ => (fun (a : RxS) (b : RxS) => (a.join.got.length ≤ LIM)) x_.1 x_.2) (fun x_ r_ => (fun x_ => (fun (a : RxS) (b : RxS) => ((fun r_ => (fun (r : Bool) => (r = decide (a = b))) r_))) x_.1 x_.2) x_ r_) (fun r_ => (fun (r : Bool) => ([rB.to r])) r_) (fun r_ => (fun (r : Bool) => ([])) r_)
def V_laws_liRx : Env := ⟨tys, [(26, c_laws_liJoin)], [], [(2, 0), (3, 1)], [], []⟩
/-! laws.liFrame -/
def c_laws_liFrame : Ent := ctr (α := (Frm) × (Frm)) (ρ := (Bool)) [] [] (rs rFrm (rs1 rFrm)) (fun x_ => (fun (a : Frm) (b : Frm) => (a.data.length ≤ LIM)) x_.1 x_.2) (fun x_ r_ => (fun x_ => (fun (a : Frm) (b : Frm) => ((fun r_ => (fun (r : Bool) => (r = decide (a = b))) r_))) x_.1 x_.2) x_ r_) (fun r_ => (fun (r : Bool) => ([rB.to r])) r_) (fun r_ => (fun (r : Bool) => ([])) r_)
def V_laws_liFrame : Env := ⟨tys, [(53, c_laws_liBytes)], [], [(2, 0), (3, 1)], [], []⟩
/-! laws.liFrames -/
def c_laws_liFrames : Ent := ctr (α := (List Frm) × (List Frm)) (ρ := (Bool)) [] [] (rs (rR .frm) (rs1 (rR .frm))) (fun x_ => (fun (a : List Frm) (b : List Frm) => (a.length ≤ LIM ∧ ∀ y ∈ a, y.data.length ≤ LIM)) x_.1 x_.2) (fun x_ r_ => (fun x_ => (fun (a : List Frm) (b : List Frm) => ((fun r_ => (fun (r : Bool) => (r = decide (a = b))) r_))) x_.1 x_.2) x_ r_) (fun r_ => (fun (r : Bool) => ([rB.to r])) r_) (fun r_ => (fun (r : Bool) => ([])) r_)
def l_laws_liFrames_0 : LoopD ((List Frm) × (List Frm) × (Int)) ((Unit)) ((Unit)) where
  head := ⟨[0, 1, 5], [], []⟩
  st := fun x_ => (fun (a : List Frm) (b : List Frm) (i : Int) => (⟨mkSlots 27 [(0, .v false [.d (.r .frm a)]), (1, .v false [.d (.r .frm b)]), (5, num .i64 i)], [], []⟩)) x_.1 x_.2.1 x_.2.2
  pre := fun x_ => (fun (a : List Frm) (b : List Frm) (i : Int) => (a.length = b.length ∧ i = 0 ∧ a.length ≤ LIM ∧ ∀ y ∈ a, y.data.length ≤ LIM)) x_.1 x_.2.1 x_.2.2
  nk := ⟨[], [], []⟩
  nst := fun r_ => (fun (u : Unit) => (⟨mkSlots 27 [], [], []⟩)) r_
  npost := fun x_ r_ => (fun x_ => (fun (a0 : List Frm) (b0 : List Frm) (i0 : Int) => ((fun r_ => (fun (u : Unit) => (a0 = b0)) r_))) x_.1 x_.2.1 x_.2.2) x_ r_
  rk := ⟨[4], [], []⟩
  rst := fun r_ => (fun (u : Unit) => (⟨mkSlots 27 [(4, boo false)], [], []⟩)) r_
  rpost := fun x_ r_ => (fun x_ => (fun (a0 : List Frm) (b0 : List Frm) (i0 : Int) => ((fun r_ => (fun (u : Unit) => (a0 ≠ b0)) r_))) x_.1 x_.2.1 x_.2.2) x_ r_
def i_laws_liFrames_0 (x : (List Frm) × (List Frm) × (Int)) (n : Nat) (s : (List Frm) × (List Frm) × (Int)) : Prop := (fun x_ => (fun (a0 : List Frm) (b0 : List Frm) (i0 : Int) => ((fun s_ => (fun (a : List Frm) (b : List Frm) (i : Int) => (a = a0 ∧ b = b0 ∧ a.length = b.length ∧ a.length ≤ LIM ∧ (∀ y ∈ a, y.data.length ≤ LIM) ∧ 0 ≤ i ∧ i + n = a.length ∧ a.take i.toNat = b.take i.toNat)) s_.1 s_.2.1 s_.2.2))) x_.1 x_.2.1 x_.2.2) x s
def V_laws_liFrames : Env := ⟨tys, [(15, c_laws_liFrame)], [], [], [], [(0, l_laws_liFrames_0.L)]⟩
/-! laws.liOk -/
def c_laws_liOk : Ent := ctr (α := Unit) (ρ := (Bool)) [] [] rs0 (fun x_ => (True)) (fun x_ r_ => (fun x_ => ((fun r_ => (fun (r : Bool) => (r = true)) r_))) x_ r_) (fun r_ => (fun (r : Bool) => ([rB.to r])) r_) (fun r_ => (fun (r : Bool) => ([])) r_)
def V_laws_liOk : Env := ⟨tys, [(62, c_impl_CfgOk)], [], [], [], []⟩
/-! (impl.RxState).copyOf -/
def c_impl_RxState_copyOf : Ent := ctr (α := (RxS)) (ρ := (RxS)) [] [] (rs1 rRx) (fun x_ => (fun (r : RxS) => (r.join.got.length ≤ LIM)) x_) (fun x_ r_ => (fun x_ => (fun (r : RxS) => ((fun r_ => (fun (x : RxS) => (x = r)) r_))) x_) x_ r_) (fun r_ => (fun (x : RxS) => ([rRx.to x])) r_) (fun r_ => (fun (x : RxS) => ([])) r_)
def V_impl_RxState_copyOf : Env := ⟨tys, [(95, c_impl_clone_byte)], [], [(1, 0), (2, 1)], [], []⟩
/-! spec.l7Copy -/
def c_spec_l7Copy : Ent := ctr (α := (RxS)) (ρ := (RxS)) [] [] (rs1 rRx) (fun x_ => (fun (r : RxS) => (r.join.got.length ≤ LIM)) x_) (fun x_ r_ => (fun x_ => (fun (r : RxS) => ((fun r_ => (fun (x : RxS) => (x = r)) r_))) x_) x_ r_) (fun r_ => (fun (x : RxS) => ([rRx.to x])) r_) (fun r_ => (fun (x : RxS) => ([])) r_)
def V_spec_l7Copy : Env := ⟨tys, [], [(5, [0])], [(1, 0), (2, 1), (3, 2)], [], []⟩
/-! impl.RxAck -/
def c_impl_RxAck : Ent := ctr (α := (RxS)) (ρ := (Frm)) [] [] (rs1 rRx) (fun x_ => (fun (r : RxS) => (True)) x_) (fun x_ r_ => (fun x_ => (fun (r : RxS) => ((fun r_ => (fun (f : Frm) => (f = rxAck r)) r_))) x_) x_ r_) (fun r_ => (fun (f : Frm) => ([rFrm.to f])) r_) (fun r_ => (fun (f : Frm) => ([])) r_)
def V_impl_RxAck : Env := ⟨tys, [(25, c_impl_RxOk), (56, c_impl_RxState_say), (57, c_impl_goOrWait)], [], [(1, 0), (2, 1)], [(3, ([1], []))], []⟩
/-! impl.RxBusy -/
def c_impl_RxBusy : Ent := ctr (α := (RxS) × (Bool)) (ρ := (BusyR)) [] [] (rs rRx (rs1 rB)) (fun x_ => (fun (r : RxS) (b : Bool) => (r.join.got.length ≤ LIM)) x_.1 x_.2) (fun x_ r_ => (fun x_ => (fun (r : RxS) (b : Bool) => ((fun r_ => (fun (q : BusyR) => (q = rxBusy r b)) r_))) x_.1 x_.2) x_ r_) (fun r_ => (fun (q : BusyR) => ([rRx.to q.r, (rR .frm).to q.says])) r_) (fun r_ => (fun (q : BusyR) => ([])) r_)
def V_impl_RxBusy : Env := ⟨tys, [(25, c_impl_RxOk), (56, c_impl_RxState_say), (57, c_impl_goOrWait), (68, c_impl_RxState_copyOf)], [], [(2, 0), (4, 1), (6, 2)], [(7, ([1], []))], []⟩
/-! spec.RxAck -/
def c_spec_RxAck : Ent := ctr (α := (RxS)) (ρ := (Frm)) [] [] (rs1 rRx) (fun x_ => (fun (r : RxS) => (True)) x_) (fun x_ r_ => (fun x_ => (fun (r : RxS) => ((fun r_ => (fun (f : Frm) => (f = rxAck r)) r_))) x_) x_ r_) (fun r_ => (fun (f : Frm) => ([rFrm.to f])) r_) (fun r_ => (fun (f : Frm) => ([])) r_)
def V_spec_RxAck : Env := ⟨tys, [(17, c_spec_RxOk), (58, c_spec_l7Say)], [], [(1, 0), (2, 1)], [], []⟩
/-! spec.RxBusy -/
def c_spec_RxBusy : Ent := ctr (α := (RxS) × (Bool)) (ρ := (BusyR)) [] [] (rs rRx (rs1 rB)) (fun x_ => (fun (r : RxS) (b : Bool) => (r.join.got.length ≤ LIM)) x_.1 x_.2) (fun x_ r_ => (fun x_ => (fun (r : RxS) (b : Bool) => ((fun r_ => (fun (q : BusyR) => (q = rxBusy r b)) r_))) x_.1 x_.2) x_ r_) (fun r_ => (fun (q : BusyR) => ([rRx.to q.r, (rR .frm).to q.says])) r_) (fun r_ => (fun (q : BusyR) => ([])) r_)
def V_spec_RxBusy : Env := ⟨tys, [(17, c_spec_RxOk), (58, c_spec_l7Say), (69, c_spec_l7Copy)], [], [(2, 0), (4, 1), (6, 2)], [(8, ([1], []))], []⟩
end Go.Proofs.YtjladmhjpikdhaaE

/- Contracts: C. Conditions: none. -/
set_option linter.unusedVariables false
namespace Go.Proofs.YtjladmhjpikdhaaE
open Go
/-- Who reads stands well, at p at most. -/
def RdOk (r : RdS) (p : Int) : Prop := Bytes r.b ∧ r.b.length ≤ 2000 ∧ 0 ≤ r.p ∧ r.p ≤ p
/-- Who read on, n steps at most. -/
def RdOn (r q : RdS) (n : Int) : Prop := q.b = r.b ∧ r.p ≤ q.p ∧ q.p ≤ r.p + n

/-! spec.l20Open -/
def c_spec_l20Open : Ent := ctr (α := (List Int)) (ρ := (RdS)) [] [] (rs1 rBytes) (fun x_ => (fun (l : List Int) => (Bytes l)) x_) (fun x_ r_ => (fun x_ => (fun (l : List Int) => ((fun r_ => (fun (q : RdS) => (q = ⟨l.take 2000, 0⟩)) r_))) x_) x_ r_) (fun r_ => (fun (q : RdS) => ([rRd.to q])) r_) (fun r_ => (fun (q : RdS) => ([])) r_)
def V_spec_l20Open : Env := ⟨tys, [], [], [(10, 0)], [], []⟩
/-! (*spec.l20Rd).pick -/
def c_spec_l20Rd_pick : Ent := ctr (α := (RdS) × (Int)) (ρ := (Int) × (RdS)) [] [] (rs rRd (rs1 rInt)) (fun x_ => (fun (r : RdS) (n : Int) => (RdOk r 1000000000 ∧ n ≤ 1000000000)) x_.1 x_.2) (fun x_ r_ => (fun x_ => (fun (r : RdS) (n : Int) => ((fun r_ => (fun (x : Int) (q : RdS) => (q = ⟨r.b, r.p + 1⟩ ∧ 0 ≤ x ∧ (1 ≤ n → x < n) ∧ (n < 1 → x = 0))) r_.1 r_.2))) x_.1 x_.2) x_ r_) (fun r_ => (fun (x : Int) (q : RdS) => ([rInt.to x])) r_.1 r_.2) (fun r_ => (fun (x : Int) (q : RdS) => ([(rdC q).map .d])) r_.1 r_.2)
def V_spec_l20Rd_pick : Env := ⟨tys, [], [], [], [], []⟩
end Go.Proofs.YtjladmhjpikdhaaE

/- Contracts: D. Conditions: none. -/
set_option linter.unusedVariables false
namespace Go.Proofs.YtjladmhjpikdhaaE
open Go
/-! spec.l20Bytes -/
def c_spec_l20Bytes : Ent := ctr (α := (RdS) × (Int)) (ρ := (List Int) × (RdS)) [] [(0, 0)] (rs rRd (rs1 rInt)) (fun x_ => (fun (r : RdS) (n : Int) => (RdOk r 100000000 ∧ 0 ≤ n ∧ n ≤ 900)) x_.1 x_.2) (fun x_ r_ => (fun x_ => (fun (r : RdS) (n : Int) => ((fun r_ => (fun (l : List Int) (q : RdS) => (Bytes l ∧ (l.length : Int) ≤ n ∧ RdOn r q (1 + 3 * n))) r_.1 r_.2))) x_.1 x_.2) x_ r_) (fun r_ => (fun (l : List Int) (q : RdS) => ([(rO 5 .u8).to l])) r_.1 r_.2) (fun r_ => (fun (l : List Int) (q : RdS) => ([(rdC q).map .d])) r_.1 r_.2)
def l_spec_l20Bytes_0 : LoopD ((List Int) × (Int) × (RdS)) ((List Int) × (RdS)) ((Empty)) where
  head := ⟨[0, 5, 6], [0], [0]⟩
  st := fun x_ => (fun (o : List Int) (k : Int) (r : RdS) => (⟨mkSlots 30 [(0, .pb 0 0 0), (5, .v false [.ref 0 0]), (6, num .i64 k)], [⟨0, some ⟨5, .u8, o⟩⟩], [⟨0, some ((rdC r).map .d)⟩]⟩)) x_.1 x_.2.1 x_.2.2
  pre := fun x_ => (fun (o : List Int) (k : Int) (r : RdS) => (Bytes o ∧ o.length = 0 ∧ 0 ≤ k ∧ k ≤ 900 ∧ RdOk r 200000000)) x_.1 x_.2.1 x_.2.2
  nk := ⟨[0, 5], [0], [0]⟩
  nst := fun r_ => (fun (o : List Int) (r : RdS) => (⟨mkSlots 30 [(0, .pb 0 0 0), (5, .v false [.ref 0 0])], [⟨0, some ⟨5, .u8, o⟩⟩], [⟨0, some ((rdC r).map .d)⟩]⟩)) r_.1 r_.2
  npost := fun x_ r_ => (fun x_ => (fun (o0 : List Int) (k0 : Int) (r0 : RdS) => ((fun r_ => (fun (o : List Int) (r : RdS) => (Bytes o ∧ (o.length : Int) = k0 ∧ RdOn r0 r (3 * k0))) r_.1 r_.2))) x_.1 x_.2.1 x_.2.2) x_ r_
  rk := ⟨[], [], []⟩
  rst := fun _ => ⟨[], [], []⟩
  rpost := fun _ _ => False
def i_spec_l20Bytes_0 (x : (List Int) × (Int) × (RdS)) (n : Nat) (s : (List Int) × (Int) × (RdS)) : Prop := (fun x_ => (fun (o0 : List Int) (k0 : Int) (r0 : RdS) => ((fun s_ => (fun (o : List Int) (k : Int) (r : RdS) => (Bytes o ∧ (n : Int) = k ∧ (o.length : Int) = k0 - k ∧ k ≤ k0 ∧ k0 ≤ 900 ∧ RdOk r0 200000000 ∧ RdOn r0 r (3 * (k0 - k)))) s_.1 s_.2.1 s_.2.2))) x_.1 x_.2.1 x_.2.2) x s
def V_spec_l20Bytes : Env := ⟨tys, [(67, c_spec_l20Rd_pick)], [(7, [0])], [], [], [(0, l_spec_l20Bytes_0.L)]⟩
end Go.Proofs.YtjladmhjpikdhaaE

/- Contracts: J. Conditions: none. -/
set_option linter.unusedVariables false
set_option maxHeartbeats 4000000
namespace Go.Proofs.YtjladmhjpikdhaaE
open Go
/-! (*spec.l20Rd).odd -/
def c_spec_l20Rd_odd : Ent := ctr (α := (RdS) × (Int)) (ρ := (Bool) × (RdS)) [] [] (rs rRd (rs1 rInt)) (fun x_ => (fun (r : RdS) (n : Int) => (RdOk r 900000000 ∧ n ≤ 1000000000)) x_.1 x_.2) (fun x_ r_ => (fun x_ => (fun (r : RdS) (n : Int) => ((fun r_ => (fun (b : Bool) (q : RdS) => (q.b = r.b ∧ r.p ≤ q.p ∧ q.p ≤ r.p + 1)) r_.1 r_.2))) x_.1 x_.2) x_ r_) (fun r_ => (fun (b : Bool) (q : RdS) => ([rB.to b])) r_.1 r_.2) (fun r_ => (fun (b : Bool) (q : RdS) => ([(rdC q).map .d])) r_.1 r_.2)
def V_spec_l20Rd_odd : Env := ⟨tys, [(67, c_spec_l20Rd_pick)], [], [], [], []⟩
/-! spec.l20Join -/
def c_spec_l20Join : Ent := ctr (α := (RdS) × (Int)) (ρ := (JoinS) × (RdS)) [] [] (rs rRd (rs1 rInt)) (fun x_ => (fun (r : RdS) (n : Int) => (RdOk r 50000000 ∧ n ≤ 1000)) x_.1 x_.2) (fun x_ r_ => (fun x_ => (fun (r : RdS) (n : Int) => ((fun r_ => (fun (j : JoinS) (q : RdS) => (Bytes j.got ∧ j.got.length ≤ 1000 ∧ RdOn r q 500)) r_.1 r_.2))) x_.1 x_.2) x_ r_) (fun r_ => (fun (j : JoinS) (q : RdS) => ([rJoin.to j])) r_.1 r_.2) (fun r_ => (fun (j : JoinS) (q : RdS) => ([(rdC q).map .d])) r_.1 r_.2)
def V_spec_l20Join : Env := ⟨tys, [(67, c_spec_l20Rd_pick), (92, c_spec_l20Rd_odd), (98, c_spec_l20Bytes)], [], [(4, 1), (5, 2)], [], []⟩
/-! spec.l20Rx -/
def c_spec_l20Rx : Ent := ctr (α := (RdS) × (Int)) (ρ := (RxS) × (RdS)) [] [] (rs rRd (rs1 rInt)) (fun x_ => (fun (r : RdS) (n : Int) => (RdOk r 40000000 ∧ n ≤ 1000)) x_.1 x_.2) (fun x_ r_ => (fun x_ => (fun (r : RdS) (n : Int) => ((fun r_ => (fun (x : RxS) (q : RdS) => (Bytes x.join.got ∧ x.join.got.length ≤ 1000 ∧ RdOn r q 2000)) r_.1 r_.2))) x_.1 x_.2) x_ r_) (fun r_ => (fun (x : RxS) (q : RdS) => ([rRx.to x])) r_.1 r_.2) (fun r_ => (fun (x : RxS) (q : RdS) => ([(rdC q).map .d])) r_.1 r_.2)
def V_spec_l20Rx : Env := ⟨tys, [(67, c_spec_l20Rd_pick), (91, c_spec_l20Join), (92, c_spec_l20Rd_odd), (93, c_spec_NumNext)], [], [(4, 1), (6, 2)], [(9, ([0, 2], []))], []⟩
/-! spec.DrawRxAck -/
def c_spec_DrawRxAck : Ent := ctr (α := (List Int)) (ρ := (RxS)) [] [] (rs1 rBytes) (fun x_ => (fun (l : List Int) => (Bytes l)) x_) (fun x_ r_ => (fun x_ => (fun (l : List Int) => ((fun r_ => (fun (x : RxS) => (Bytes x.join.got ∧ x.join.got.length ≤ 1000)) r_))) x_) x_ r_) (fun r_ => (fun (x : RxS) => ([rRx.to x])) r_) (fun r_ => (fun (x : RxS) => ([])) r_)
def V_spec_DrawRxAck : Env := ⟨tys, [(54, c_spec_l20Rx), (55, c_spec_l20Open)], [], [(2, 0), (4, 1)], [], []⟩
/-! spec.DrawRxBusy -/
def c_spec_DrawRxBusy : Ent := ctr (α := (List Int)) (ρ := (RxS) × (Bool)) [] [] (rs1 rBytes) (fun x_ => (fun (l : List Int) => (Bytes l)) x_) (fun x_ r_ => (fun x_ => (fun (l : List Int) => ((fun r_ => (fun (x : RxS) (b : Bool) => (Bytes x.join.got ∧ x.join.got.length ≤ 1000)) r_.1 r_.2))) x_) x_ r_) (fun r_ => (fun (x : RxS) (b : Bool) => ([rRx.to x, rB.to b])) r_.1 r_.2) (fun r_ => (fun (x : RxS) (b : Bool) => ([])) r_.1 r_.2)
def V_spec_DrawRxBusy : Env := ⟨tys, [(54, c_spec_l20Rx), (55, c_spec_l20Open), (67, c_spec_l20Rd_pick)], [], [(2, 0), (6, 1)], [], []⟩
end Go.Proofs.YtjladmhjpikdhaaE

/- Contracts: LawRx1. Conditions: none. -/
set_option linter.unusedVariables false
set_option maxHeartbeats 4000000
namespace Go.Proofs.YtjladmhjpikdhaaE
open Go
theorem at_frm0 (x : Frm) (l : List Frm) : at_frm (x :: l) 0 = x := rfl
theorem rxBusy_says (r : RxS) (b : Bool) : ∀ y ∈ (rxBusy r b).says, y.data.length ≤ LIM := by
  intro y hy
  unfold rxBusy at hy
  split at hy
  · split at hy
    · simp at hy
    · simp at hy; subst hy; simp [sayF]
  · simp at hy

/-! laws.FnRxAck -/
def c_laws_FnRxAck : Ent := ctr (α := (List Int)) (ρ := (Bool)) [] [] (rs1 rBytes) (fun x_ => (fun (l : List Int) => (Bytes l)) x_) (fun x_ r_ => (fun x_ => (fun (l : List Int) => ((fun r_ => (fun (r : Bool) => (r = true)) r_))) x_) x_ r_) (fun r_ => (fun (r : Bool) => ([rB.to r])) r_) (fun r_ => (fun (r : Bool) => ([])) r_)
def V_laws_FnRxAck : Env := ⟨tys, [(13, c_spec_DrawRxAck), (14, c_impl_RxAck), (15, c_laws_liFrame), (16, c_spec_RxAck), (17, c_spec_RxOk), (18, c_laws_liOk), (19, c_impl_FrmOk)], [], [(3, 0), (4, 1)], [], []⟩
/-! laws.FnRxBusy -/
def c_laws_FnRxBusy : Ent := ctr (α := (List Int)) (ρ := (Bool)) [] [] (rs1 rBytes) (fun x_ => (fun (l : List Int) => (Bytes l)) x_) (fun x_ r_ => (fun x_ => (fun (l : List Int) => ((fun r_ => (fun (r : Bool) => (r = true)) r_))) x_) x_ r_) (fun r_ => (fun (r : Bool) => ([rB.to r])) r_) (fun r_ => (fun (r : Bool) => ([])) r_)
def V_laws_FnRxBusy : Env := ⟨tys, [(17, c_spec_RxOk), (18, c_laws_liOk), (20, c_spec_DrawRxBusy), (21, c_impl_RxBusy), (22, c_spec_RxBusy), (23, c_laws_liRx), (24, c_laws_liFrames), (25, c_impl_RxOk), (26, c_laws_liJoin)], [], [(3, 0), (5, 1), (7, 2)], [], []⟩
end Go.Proofs.YtjladmhjpikdhaaE

/- Calls answer what is promised: A. Conditions: none. -/
set_option linter.unusedVariables false
namespace Go.Proofs.YtjladmhjpikdhaaE
open Go
theorem vF_impl_in (a : Int) (b : Int) (c : Int) (K : List Arg → List (List AC) → Prop) (hp : True) (hk : ∀ (r : Bool), (r = decide (b ≤ a ∧ a ≤ c)) → K ([rB.to r]) ([])) :
if ((decide (a ≥ b)) = true) then
   ((true = true) ∧
   (K [(aB (decide (a ≤ c)))] []))
  else
   ((true = true) ∧
   (K [(aB false)] [])) := by
  simp only [decide_eq_true_eq]
  split
  · exact ⟨trivial, hk _ (by simp_all)⟩
  · exact ⟨trivial, hk _ (by simp; omega)⟩
theorem w_impl_in : Valid Try.prog 65 c_impl_in :=
  valid_ctr2 (V := V_impl_in) (tysB_ok tys_ok) (CallsL.nil _) mixed 0 0 Try.func65 rfl (by kernel_rfl)
    (fun c hc => by
      obtain rfl := Option.some.inj hc
      exact ⟨trivial, ⟨trivial, trivial⟩⟩)
    (fun x K hp hk => ⟨_, by kernel_rfl, vF_impl_in x.1 x.2.1 x.2.2 K hp (fun r h => hk r h)⟩)
theorem vF_spec_l1In (a : Int) (b : Int) (c : Int) (K : List Arg → List (List AC) → Prop) (hp : True) (hk : ∀ (r : Bool), (r = decide (b ≤ a ∧ a ≤ c)) → K ([rB.to r]) ([])) :
if ((decide (a ≥ b)) = true) then
   ((true = true) ∧
   (K [(aB (decide (a ≤ c)))] []))
  else
   ((true = true) ∧
   (K [(aB false)] [])) := by
  simp only [decide_eq_true_eq]
  split
  · exact ⟨trivial, hk _ (by simp_all)⟩
  · exact ⟨trivial, hk _ (by simp; omega)⟩
theorem w_spec_l1In : Valid Try.prog 59 c_spec_l1In :=
  valid_ctr2 (V := V_spec_l1In) (tysB_ok tys_ok) (CallsL.nil _) mixed 0 0 Try.func59 rfl (by kernel_rfl)
    (fun c hc => by
      obtain rfl := Option.some.inj hc
      exact ⟨trivial, ⟨trivial, trivial⟩⟩)
    (fun x K hp hk => ⟨_, by kernel_rfl, vF_spec_l1In x.1 x.2.1 x.2.2 K hp (fun r h => hk r h)⟩)
end Go.Proofs.YtjladmhjpikdhaaE

/- Calls answer what is promised: B. Conditions: none. -/
set_option linter.unusedVariables false
namespace Go.Proofs.YtjladmhjpikdhaaE
open Go
theorem vF_slices_Clone_byte_byte (l : List Int) (K : List Arg → List (List AC) → Prop) (hp : l.length ≤ LIM) (hk : ∀ (r : List Int), (r = l) → K ([(rO 5 .u8).to r]) ([])) :
∀ b : Bool,
  ((b = true) → (l = ([] : (List Int)))) →
  if (b = true) then
   ((true = true) ∧
   (K [(Arg.v false [(AC.own (RC.mk (5 : Nat) RK.u8 ([] : (List Int))))])] []))
  else
   ((((0 : Nat) + (List.length l)) ≤ (137438953472 : Nat)) ∧
   ((true = true) ∧
    (K [(Arg.v false [(AC.own (RC.mk (5 : Nat) RK.u8 (([] : (List Int)) ++ l)))])] []))) := by
  intro b hb
  have hL : l.length ≤ 137438953472 := hp
  split
  · rename_i h
    exact ⟨rfl, hk _ (hb h).symm⟩
  · exact ⟨by omega, rfl, hk _ rfl⟩
theorem w_slices_Clone_byte_byte : Valid Try.prog 100 c_slices_Clone_byte_byte :=
  valid_ctr2 (V := V_slices_Clone_byte_byte) (tysB_ok tys_ok) (CallsL.nil _) mixed 2 0 Try.func100 rfl (by kernel_rfl)
    (fun c hc => by
      obtain rfl := Option.some.inj hc
      exact ⟨trivial, ⟨⟨trivial, ⟨⟨trivial, trivial⟩, trivial⟩⟩, ⟨trivial, trivial⟩⟩⟩)
    (fun x K hp hk => ⟨_, by kernel_rfl, vF_slices_Clone_byte_byte x K hp (fun r h => hk r h)⟩)
theorem vF_slices_Clip_byte_byte (l : List Int) (K : List Arg → List (List AC) → Prop) (hp : True) (hk : ∀ (r : List Int), (r = l) → K ([(rO 5 .u8).to r]) ([])) :
(((((List.length l) : Nat) : Int) = (((List.length l) : Nat) : Int)) ∧
   ((((List.length l) : Nat) : Int) = (((List.length l) : Nat) : Int))) ∧
  ((true = true) ∧
   (K [(Arg.v false [(AC.own (RC.mk (5 : Nat) RK.u8 l))])] [])) := by
  exact ⟨⟨rfl, rfl⟩, rfl, hk _ rfl⟩
theorem w_slices_Clip_byte_byte : Valid Try.prog 99 c_slices_Clip_byte_byte :=
  valid_ctr2 (V := V_slices_Clip_byte_byte) (tysB_ok tys_ok) (CallsL.nil _) mixed 0 0 Try.func99 rfl (by kernel_rfl)
    (fun c hc => by
      obtain rfl := Option.some.inj hc
      exact ⟨trivial, ⟨trivial, trivial⟩⟩)
    (fun x K hp hk => ⟨_, by kernel_rfl, vF_slices_Clip_byte_byte x K hp (fun r h => hk r h)⟩)
theorem vF_impl_clone_byte (l : List Int) (K : List Arg → List (List AC) → Prop) (hp : l.length ≤ LIM) (hk : ∀ (r : List Int), (r = l) → K ([(rO 5 .u8).to r]) ([])) :
(true = true) ∧
  (((List.length l) ≤ (137438953472 : Nat)) ∧
   (∀ r : (List Int),
    (r = l) →
    (true = true) ∧
    ((true = true) ∧
     (True ∧
      (∀ r1 : (List Int),
       (r1 = r) →
       (true = true) ∧
       ((true = true) ∧
        (K [(Arg.v false [(AC.own (RC.mk (5 : Nat) RK.u8 r1))])] []))))))) := by
  exact ⟨rfl, hp, fun r hr => ⟨rfl, rfl, trivial, fun r1 hr1 => ⟨rfl, rfl, hk r1 (hr1.trans hr)⟩⟩⟩
theorem w_impl_clone_byte : Valid Try.prog 95 c_impl_clone_byte :=
  valid_ctr2 (V := V_impl_clone_byte) (tysB_ok tys_ok) (CallsL.cons w_slices_Clip_byte_byte (CallsL.cons w_slices_Clone_byte_byte (CallsL.nil _))) mixed 2 0 Try.func95 rfl (by kernel_rfl)
    (fun c hc => by
      obtain rfl := Option.some.inj hc
      exact ⟨trivial, ⟨trivial, trivial⟩⟩)
    (fun x K hp hk => ⟨_, by kernel_rfl, vF_impl_clone_byte x K hp (fun r h => hk r h)⟩)
end Go.Proofs.YtjladmhjpikdhaaE

/- Calls answer what is promised: F. Conditions: none. -/
set_option linter.unusedVariables false
namespace Go.Proofs.YtjladmhjpikdhaaE
open Go
theorem vF_impl_isNumber (n : Int) (K : List Arg → List (List AC) → Prop) (hp : True) (hk : ∀ (r : Bool), (r = decide (0 ≤ n ∧ n ≤ 7)) → K ([rB.to r]) ([])) :
(true = true) ∧
  (True ∧
   (∀ r : Bool,
    (r = (decide (((0 : Int) ≤ n) ∧ (n ≤ (7 : Int))))) →
    (true = true) ∧
    ((true = true) ∧
     (K [(aB r)] [])))) := by
  exact ⟨rfl, trivial, fun r hr => ⟨rfl, rfl, hk r hr⟩⟩
theorem w_impl_isNumber : Valid Try.prog 63 c_impl_isNumber :=
  valid_ctr2 (V := V_impl_isNumber) (tysB_ok tys_ok) (CallsL.cons w_impl_in (CallsL.nil _)) mixed 0 0 Try.func63 rfl (by kernel_rfl)
    (fun c hc => by
      obtain rfl := Option.some.inj hc
      exact ⟨trivial, ⟨trivial, trivial⟩⟩)
    (fun x K hp hk => ⟨_, by kernel_rfl, vF_impl_isNumber x K hp (fun r h => hk r h)⟩)
theorem vF_slices_Equal_byte_byte (a : List Int) (b : List Int) (K : List Arg → List (List AC) → Prop) (hp : a.length ≤ LIM) (hk : ∀ (r : Bool), (r = decide (a = b)) → K ([rB.to r]) ([])) :
if (((((List.length a) : Nat) : Int) != (((List.length b) : Nat) : Int)) = true) then
   ((true = true) ∧
   (K [(aB false)] []))
  else
   (∃ s : (Prod (List Int) (Prod (List Int) Int)),
   ((St.mk (mkSlots 26 [(0, (T.v false [(Cm.d (D.r RK.u8 a))])), (1, (T.v false [(Cm.d (D.r RK.u8 b))])), (12, (num IntKind.i64 (((List.length a) : Nat) : Int))), (13, (num IntKind.i64 (0 : Int)))]) [] []) = (St.mk (mkSlots 26 [(0, (T.v false [(Cm.d (D.r RK.u8 s.fst))])), (1, (T.v false [(Cm.d (D.r RK.u8 s.snd.fst))])), (12, (num IntKind.i64 (((List.length s.fst) : Nat) : Int))), (13, (num IntKind.i64 s.snd.snd))]) [] [])) ∧
   ((((List.length s.fst) = (List.length s.snd.fst)) ∧
     ((s.snd.snd = (0 : Int)) ∧
      ((List.length s.fst) ≤ (137438953472 : Nat)))) ∧
    ((∀ r : Unit,
      (s.fst = s.snd.fst) →
      (true = true) ∧
      (K [(aB true)] [])) ∧
     (∀ r : Unit,
      (s.fst ≠ s.snd.fst) →
      (true = true) ∧
      (K [(aB false)] []))))) := by
  refine iteI (fun h => ?_) (fun h => ?_)
  · refine ⟨by trivial, hk false ?_⟩
    symm; rw [decide_eq_false_iff_not]; rintro rfl; simp at h
  · have h1 : a.length = b.length := by simp at h; omega
    refine ⟨(a, b, 0), rfl, ⟨h1, rfl, hp⟩, fun _ hr => ⟨by trivial, hk true (by simp; exact hr)⟩, fun _ hr => ⟨by trivial, hk false (by simp; exact hr)⟩⟩
theorem vL_slices_Equal_byte_byte_0 (a0 : List Int) (b0 : List Int) (i0 : Int) (a : List Int) (b : List Int) (i : Int) (n : Nat) (hp : (fun (a : List Int) (b : List Int) (i : Int) => (a.length = b.length ∧ i = 0 ∧ a.length ≤ LIM)) a0 b0 i0) (hi : a = a0 ∧ b = b0 ∧ a.length = b.length ∧ a.length ≤ LIM ∧ 0 ≤ i ∧ i + n = a.length ∧ a.take i.toNat = b.take i.toNat) :
if ((decide (i < (((List.length a) : Nat) : Int))) = true) then
   ((((0 : Int) ≤ i) ∧
    (i < (((List.length a) : Nat) : Int))) ∧
   ((((0 : Int) ≤ i) ∧
     (i < (((List.length b) : Nat) : Int))) ∧
    (if (((at_u8 a (Int.toNat i)) != (at_u8 b (Int.toNat i))) = true) then
      (∃ r : Unit,
      ((St.mk (mkSlots 26 [(4, (boo false))]) [] []) = (St.mk (mkSlots 26 [(4, (boo false))]) [] [])) ∧
      (a0 ≠ b0))
     else
      (∃ s : (Prod (List Int) (Prod (List Int) Int)),
      ((St.mk (mkSlots 26 [(0, (T.v false [(Cm.d (D.r RK.u8 a))])), (1, (T.v false [(Cm.d (D.r RK.u8 b))])), (12, (num IntKind.i64 (((List.length a) : Nat) : Int))), (13, (num IntKind.i64 (IntKind.wrap IntKind.i64 (i + (1 : Int)))))]) [] []) = (St.mk (mkSlots 26 [(0, (T.v false [(Cm.d (D.r RK.u8 s.fst))])), (1, (T.v false [(Cm.d (D.r RK.u8 s.snd.fst))])), (12, (num IntKind.i64 (((List.length s.fst) : Nat) : Int))), (13, (num IntKind.i64 s.snd.snd))]) [] [])) ∧
      (∃ m : Nat,
       (m < n) ∧
       ((s.fst = a0) ∧
        ((s.snd.fst = b0) ∧
         (((List.length s.fst) = (List.length s.snd.fst)) ∧
          (((List.length s.fst) ≤ (137438953472 : Nat)) ∧
           (((0 : Int) ≤ s.snd.snd) ∧
            (((s.snd.snd + ((m : Nat) : Int)) = (((List.length s.fst) : Nat) : Int)) ∧
             ((List.take (Int.toNat s.snd.snd) s.fst) = (List.take (Int.toNat s.snd.snd) s.snd.fst)))))))))))))
  else
   (∃ r : Unit,
   ((St.mk (mkSlots 26 []) [] []) = (St.mk (mkSlots 26 []) [] [])) ∧
   (a0 = b0)) := by
  try dsimp only at hp
  obtain ⟨rfl, rfl, h1, h2, h3, h4, h5⟩ := hi
  have hL : a.length ≤ 137438953472 := h2
  obtain ⟨i, rfl⟩ : ∃ m : Nat, i = m := ⟨i.toNat, by omega⟩
  rw [wr (x := (i : Int) + 1) (by omega) (by omega)]
  simp only [Int.toNat_natCast] at h5 ⊢
  refine iteI (fun h => ?_) (fun h => ?_)
  · have hi : i < a.length := by simp at h; omega
    refine ⟨⟨by omega, by omega⟩, ⟨by omega, by omega⟩, ?_⟩
    have ea : a.take (i + 1) = a.take i ++ [at_u8 a i] := by
      rw [List.take_succ_eq_append_getElem hi]; congr 2; show _ = a.getD i 0; rw [List.getD_eq_getElem?_getD, List.getElem?_eq_getElem hi]; rfl
    have eb : b.take (i + 1) = b.take i ++ [at_u8 b i] := by
      rw [List.take_succ_eq_append_getElem (by omega)]; congr 2; show _ = b.getD i 0; rw [List.getD_eq_getElem?_getD, List.getElem?_eq_getElem (by omega)]; rfl
    refine iteI (fun hx => ?_) (fun hx => ?_)
    · refine ⟨(), by trivial, fun he => ?_⟩
      simp [he] at hx
    · refine ⟨(a, b, (i : Int) + 1), rfl, n - 1, by omega, rfl, rfl, h1, h2, by dsimp only; omega, by dsimp only; omega, ?_⟩
      dsimp only
      rw [show ((i : Int) + 1).toNat = i + 1 by omega, ea, eb, h5]
      simp at hx
      rw [hx]
  · have hi : i = a.length := by simp at h; omega
    subst hi
    refine ⟨(), by trivial, ?_⟩
    rw [List.take_length, h1, List.take_length] at h5
    exact h5
theorem vS_slices_Equal_byte_byte_0 (a0 : List Int) (b0 : List Int) (i0 : Int) (hp : (fun (a : List Int) (b : List Int) (i : Int) => (a.length = b.length ∧ i = 0 ∧ a.length ≤ LIM)) a0 b0 i0) : ∃ n : Nat, (fun (a : List Int) (b : List Int) (i : Int) => (a = a0 ∧ b = b0 ∧ a.length = b.length ∧ a.length ≤ LIM ∧ 0 ≤ i ∧ i + n = a.length ∧ a.take i.toNat = b.take i.toNat)) a0 b0 i0 := by
  try dsimp only at hp
  try dsimp only
  obtain ⟨h1, h2, h3⟩ := hp
  exact ⟨a0.length, rfl, rfl, h1, h3, by omega, by omega, by subst h2; simp⟩
theorem w_slices_Equal_byte_byte : Valid Try.prog 94 c_slices_Equal_byte_byte :=
  valid_ctr2 (V := V_slices_Equal_byte_byte) (tysB_ok tys_ok) (CallsL.nil _) mixed 0 0 Try.func94 rfl (by kernel_rfl)
    (fun c hc => by
      obtain rfl := Option.some.inj hc
      exact ⟨trivial, ⟨⟨trivial, ⟨⟨trivial, trivial⟩, trivial⟩⟩, ⟨⟨trivial, ⟨LoopD.ok2 (V := V_slices_Equal_byte_byte) l_slices_Equal_byte_byte_0 (LoopsM.cons 0 l_slices_Equal_byte_byte_0 LoopsM.nil) 0 _ i_slices_Equal_byte_byte_0 (fun x hx => vS_slices_Equal_byte_byte_0 x.1 x.2.1 x.2.2 hx) (fun x hx n s hi => ⟨_, by kernel_rfl, vL_slices_Equal_byte_byte_0 x.1 x.2.1 x.2.2 s.1 s.2.1 s.2.2 n hx hi⟩), ⟨trivial, ⟨⟨trivial, trivial⟩, ⟨⟨trivial, ⟨trivial, ⟨⟨trivial, trivial⟩, trivial⟩⟩⟩, trivial⟩⟩⟩⟩⟩, ⟨trivial, trivial⟩⟩⟩⟩)
    (fun x K hp hk => ⟨_, by kernel_rfl, vF_slices_Equal_byte_byte x.1 x.2 K hp (fun r h => hk r h)⟩)
theorem vF_impl_CfgOk (c : Cfg) (K : List Arg → List (List AC) → Prop) (hp : True) (hk : ∀ (r : Bool), (r = decide (CfgP c)) → K ([rB.to r]) ([])) :
(true = true) ∧
  (True ∧
   (∀ r : Bool,
    (r = (decide (((1 : Int) ≤ c.mode) ∧ (c.mode ≤ (2 : Int))))) →
    (true = true) ∧
    (if (r = true) then
      ((true = true) ∧
      (True ∧
       (∀ r1 : Bool,
        (r1 = (decide (((1 : Int) ≤ c.win) ∧ (c.win ≤ (4 : Int))))) →
        (true = true) ∧
        (if (r1 = true) then
          ((true = true) ∧
          (True ∧
           (∀ r2 : Bool,
            (r2 = (decide (((1 : Int) ≤ c.mps) ∧ (c.mps ≤ (8 : Int))))) →
            (true = true) ∧
            (if (r2 = true) then
              ((true = true) ∧
              (True ∧
               (∀ r3 : Bool,
                (r3 = (decide (((1 : Int) ≤ c.mtu) ∧ (c.mtu ≤ (24 : Int))))) →
                (true = true) ∧
                (if (r3 = true) then
                  ((true = true) ∧
                  (True ∧
                   (∀ r4 : Bool,
                    (r4 = (decide (((1 : Int) ≤ c.try_) ∧ (c.try_ ≤ (5 : Int))))) →
                    (true = true) ∧
                    ((true = true) ∧
                     (K [(aB r4)] [])))))
                 else
                  ((true = true) ∧
                  (K [(aB false)] []))))))
             else
              ((true = true) ∧
              (K [(aB false)] []))))))
         else
          ((true = true) ∧
          (K [(aB false)] []))))))
     else
      ((true = true) ∧
      (K [(aB false)] []))))) := by
  repeat' first
    | exact rfl
    | trivial
    | apply And.intro
    | (intro r hr; subst hr)
    | intro r
    | exact hp
    | (refine iteI (fun h => ?_) (fun h => ?_))
  all_goals first
    | exact hk _ (by grind [CfgP, IntKind.wrap_i64])
    | omega
theorem w_impl_CfgOk : Valid Try.prog 62 c_impl_CfgOk :=
  valid_ctr2 (V := V_impl_CfgOk) (tysB_ok tys_ok) (CallsL.cons w_impl_in (CallsL.nil _)) mixed 0 1 Try.func62 rfl (by kernel_rfl)
    (fun c hc => by
      obtain rfl := Option.some.inj hc
      exact ⟨trivial, ⟨trivial, trivial⟩⟩)
    (fun x K hp hk => ⟨_, by kernel_rfl, vF_impl_CfgOk x K hp (fun r h => hk r h)⟩)
theorem vF_spec_CfgOk (c : Cfg) (K : List Arg → List (List AC) → Prop) (hp : True) (hk : ∀ (r : Bool), (r = decide (CfgP c)) → K ([rB.to r]) ([])) :
(true = true) ∧
  (True ∧
   (∀ r : Bool,
    (r = (decide (((1 : Int) ≤ c.mode) ∧ (c.mode ≤ (2 : Int))))) →
    (true = true) ∧
    (if (r = true) then
      ((true = true) ∧
      (True ∧
       (∀ r1 : Bool,
        (r1 = (decide (((1 : Int) ≤ c.win) ∧ (c.win ≤ (4 : Int))))) →
        (true = true) ∧
        (if (r1 = true) then
          ((true = true) ∧
          (True ∧
           (∀ r2 : Bool,
            (r2 = (decide (((1 : Int) ≤ c.mps) ∧ (c.mps ≤ (8 : Int))))) →
            (true = true) ∧
            (if (r2 = true) then
              ((true = true) ∧
              (True ∧
               (∀ r3 : Bool,
                (r3 = (decide (((1 : Int) ≤ c.mtu) ∧ (c.mtu ≤ (24 : Int))))) →
                (true = true) ∧
                (if (r3 = true) then
                  ((true = true) ∧
                  (True ∧
                   (∀ r4 : Bool,
                    (r4 = (decide (((1 : Int) ≤ c.try_) ∧ (c.try_ ≤ (5 : Int))))) →
                    (true = true) ∧
                    ((true = true) ∧
                     (K [(aB r4)] [])))))
                 else
                  ((true = true) ∧
                  (K [(aB false)] []))))))
             else
              ((true = true) ∧
              (K [(aB false)] []))))))
         else
          ((true = true) ∧
          (K [(aB false)] []))))))
     else
      ((true = true) ∧
      (K [(aB false)] []))))) := by
  repeat' first
    | exact rfl
    | trivial
    | apply And.intro
    | (intro r hr; subst hr)
    | intro r
    | exact hp
    | (refine iteI (fun h => ?_) (fun h => ?_))
  all_goals first
    | exact hk _ (by grind [CfgP, IntKind.wrap_i64])
    | omega
theorem w_spec_CfgOk : Valid Try.prog 47 c_spec_CfgOk :=
  valid_ctr2 (V := V_spec_CfgOk) (tysB_ok tys_ok) (CallsL.cons w_spec_l1In (CallsL.nil _)) mixed 0 1 Try.func47 rfl (by kernel_rfl)
    (fun c hc => by
      obtain rfl := Option.some.inj hc
      exact ⟨trivial, ⟨trivial, trivial⟩⟩)
    (fun x K hp hk => ⟨_, by kernel_rfl, vF_spec_CfgOk x K hp (fun r h => hk r h)⟩)
theorem vF_impl_pieceOk (s : Int) (n : Int) (d : List Int) (K : List Arg → List (List AC) → Prop) (hp : True) (hk : ∀ (r : Bool), (r = decide (SegP s n d.length)) → K ([rB.to r]) ([])) :
if ((s == (0 : Int)) = true) then
   (if ((decide ((((List.length d) : Nat) : Int) ≤ (8 : Int))) = true) then
    ((true = true) ∧
    (K [(aB (n == (((List.length d) : Nat) : Int)))] []))
   else
    ((true = true) ∧
    (K [(aB false)] [])))
  else
   (if ((s == (1 : Int)) = true) then
    ((true = true) ∧
    (True ∧
     (∀ r : Bool,
      (r = (decide (((1 : Int) ≤ (((List.length d) : Nat) : Int)) ∧ ((((List.length d) : Nat) : Int) ≤ (8 : Int))))) →
      (true = true) ∧
      (if (r = true) then
        ((true = true) ∧
        (True ∧
         (∀ r1 : Bool,
          (r1 = (decide (((IntKind.wrap IntKind.i64 ((((List.length d) : Nat) : Int) + (1 : Int))) ≤ n) ∧ (n ≤ (24 : Int))))) →
          (true = true) ∧
          ((true = true) ∧
           (K [(aB r1)] [])))))
       else
        ((true = true) ∧
        (K [(aB false)] []))))))
   else
    (if ((s == (2 : Int)) = true) then
     (if ((s == (2 : Int)) = true) then
      ((true = true) ∧
      (True ∧
       (∀ r : Bool,
        (r = (decide (((1 : Int) ≤ (((List.length d) : Nat) : Int)) ∧ ((((List.length d) : Nat) : Int) ≤ (8 : Int))))) →
        (true = true) ∧
        (if (r = true) then
          ((true = true) ∧
          (K [(aB (n == (0 : Int)))] []))
         else
          ((true = true) ∧
          (K [(aB false)] []))))))
     else
      ((true = true) ∧
      (K [(aB false)] [])))
    else
     (if ((s == (3 : Int)) = true) then
      ((true = true) ∧
      (True ∧
       (∀ r : Bool,
        (r = (decide (((1 : Int) ≤ (((List.length d) : Nat) : Int)) ∧ ((((List.length d) : Nat) : Int) ≤ (8 : Int))))) →
        (true = true) ∧
        (if (r = true) then
          ((true = true) ∧
          (K [(aB (n == (0 : Int)))] []))
         else
          ((true = true) ∧
          (K [(aB false)] []))))))
     else
      ((true = true) ∧
      (K [(aB false)] []))))) := by
  repeat' first
    | exact rfl
    | trivial
    | apply And.intro
    | (intro r hr; subst hr)
    | intro r
    | exact hp
    | (refine iteI (fun h => ?_) (fun h => ?_))
  all_goals first
    | exact hk _ (by grind [SegP, IntKind.wrap_i64])
    | omega
theorem w_impl_pieceOk : Valid Try.prog 64 c_impl_pieceOk :=
  valid_ctr2 (V := V_impl_pieceOk) (tysB_ok tys_ok) (CallsL.cons w_impl_in (CallsL.nil _)) mixed 0 0 Try.func64 rfl (by kernel_rfl)
    (fun c hc => by
      obtain rfl := Option.some.inj hc
      exact ⟨trivial, ⟨trivial, ⟨⟨trivial, ⟨trivial, ⟨⟨trivial, trivial⟩, ⟨trivial, ⟨⟨trivial, trivial⟩, ⟨⟨trivial, ⟨trivial, trivial⟩⟩, ⟨⟨trivial, trivial⟩, trivial⟩⟩⟩⟩⟩⟩⟩, ⟨trivial, trivial⟩⟩⟩⟩)
    (fun x K hp hk => ⟨_, by kernel_rfl, vF_impl_pieceOk x.1 x.2.1 x.2.2 K hp (fun r h => hk r h)⟩)
theorem vF_spec_l2Seg (f : Frm) (K : List Arg → List (List AC) → Prop) (hp : True) (hk : ∀ (r : Bool), (r = decide (SegP f.seg f.len f.data.length)) → K ([rB.to r]) ([])) :
(true = true) ∧
  (True ∧
   (∀ r : Bool,
    (r = (decide (((0 : Int) ≤ f.seg) ∧ (f.seg ≤ (3 : Int))))) →
    (true = true) ∧
    (if ((!r) = true) then
      ((true = true) ∧
      (K [(aB false)] []))
     else
      (if (((((List.length f.data) : Nat) : Int) == (0 : Int)) = true) then
       (if ((f.len != (0 : Int)) = true) then
        ((true = true) ∧
        (K [(aB false)] []))
       else
        (if ((decide ((((List.length f.data) : Nat) : Int) > (8 : Int))) = true) then
         ((true = true) ∧
         (K [(aB false)] []))
        else
         (if ((f.seg == (0 : Int)) = true) then
          ((true = true) ∧
          (K [(aB (f.len == (((List.length f.data) : Nat) : Int)))] []))
         else
          (if ((f.seg == (1 : Int)) = true) then
           ((true = true) ∧
           (True ∧
            (∀ r1 : Bool,
             (r1 = (decide (((IntKind.wrap IntKind.i64 ((((List.length f.data) : Nat) : Int) + (1 : Int))) ≤ f.len) ∧ (f.len ≤ (24 : Int))))) →
             (true = true) ∧
             (if (r1 = true) then
               ((true = true) ∧
               (K [(aB (decide ((((List.length f.data) : Nat) : Int) > (0 : Int))))] []))
              else
               ((true = true) ∧
               (K [(aB false)] []))))))
          else
           (if ((f.len == (0 : Int)) = true) then
            ((true = true) ∧
            (K [(aB (decide ((((List.length f.data) : Nat) : Int) > (0 : Int))))] []))
           else
            ((true = true) ∧
            (K [(aB false)] [])))))))
      else
       (if ((decide ((((List.length f.data) : Nat) : Int) > (8 : Int))) = true) then
        ((true = true) ∧
        (K [(aB false)] []))
       else
        (if ((f.seg == (0 : Int)) = true) then
         ((true = true) ∧
         (K [(aB (f.len == (((List.length f.data) : Nat) : Int)))] []))
        else
         (if ((f.seg == (1 : Int)) = true) then
          ((true = true) ∧
          (True ∧
           (∀ r1 : Bool,
            (r1 = (decide (((IntKind.wrap IntKind.i64 ((((List.length f.data) : Nat) : Int) + (1 : Int))) ≤ f.len) ∧ (f.len ≤ (24 : Int))))) →
            (true = true) ∧
            (if (r1 = true) then
              ((true = true) ∧
              (K [(aB (decide ((((List.length f.data) : Nat) : Int) > (0 : Int))))] []))
             else
              ((true = true) ∧
              (K [(aB false)] []))))))
         else
          (if ((f.len == (0 : Int)) = true) then
           ((true = true) ∧
           (K [(aB (decide ((((List.length f.data) : Nat) : Int) > (0 : Int))))] []))
          else
           ((true = true) ∧
           (K [(aB false)] [])))))))))) := by
  repeat' first
    | exact rfl
    | trivial
    | apply And.intro
    | (intro r hr; subst hr)
    | intro r
    | exact hp
    | (refine iteI (fun h => ?_) (fun h => ?_))
  all_goals first
    | exact hk _ (by grind [SegP, IntKind.wrap_i64])
    | omega
theorem w_spec_l2Seg : Valid Try.prog 87 c_spec_l2Seg :=
  valid_ctr2 (V := V_spec_l2Seg) (tysB_ok tys_ok) (CallsL.cons w_spec_l1In (CallsL.nil _)) mixed 0 1 Try.func87 rfl (by kernel_rfl)
    (fun c hc => by
      obtain rfl := Option.some.inj hc
      exact ⟨trivial, ⟨⟨trivial, ⟨⟨trivial, trivial⟩, trivial⟩⟩, ⟨⟨trivial, ⟨trivial, ⟨⟨trivial, trivial⟩, ⟨trivial, ⟨⟨trivial, trivial⟩, trivial⟩⟩⟩⟩⟩, ⟨trivial, trivial⟩⟩⟩⟩)
    (fun x K hp hk => ⟨_, by kernel_rfl, vF_spec_l2Seg x K hp (fun r h => hk r h)⟩)
theorem vF_impl_FrmFrame_same (f : Frm) (g : Frm) (K : List Arg → List (List AC) → Prop) (hp : f.data.length ≤ LIM) (hk : ∀ (r : Bool), (r = decide (f = g)) → K ([rB.to r]) ([])) :
if ((f.kind == g.kind) = true) then
   (if ((f.seq == g.seq) = true) then
    (if ((f.ack == g.ack) = true) then
     (if ((f.poll == g.poll) = true) then
      (if ((f.final == g.final) = true) then
       (if ((f.say == g.say) = true) then
        (if ((f.seg == g.seg) = true) then
         (if ((f.len == g.len) = true) then
          ((true = true) ∧
          (((List.length (Go.Proofs.YtjladmhjpikdhaaE.Frm.data f)) ≤ (137438953472 : Nat)) ∧
           (∀ r : Bool,
            (r = (decide ((Go.Proofs.YtjladmhjpikdhaaE.Frm.data f) = (Go.Proofs.YtjladmhjpikdhaaE.Frm.data g)))) →
            (true = true) ∧
            ((true = true) ∧
             (K [(aB r)] [])))))
         else
          ((true = true) ∧
          (K [(aB false)] [])))
        else
         ((true = true) ∧
         (K [(aB false)] [])))
       else
        ((true = true) ∧
        (K [(aB false)] [])))
      else
       ((true = true) ∧
       (K [(aB false)] [])))
     else
      ((true = true) ∧
      (K [(aB false)] [])))
    else
     ((true = true) ∧
     (K [(aB false)] [])))
   else
    ((true = true) ∧
    (K [(aB false)] [])))
  else
   ((true = true) ∧
   (K [(aB false)] [])) := by
  obtain ⟨_, _, _, _, _, _, _, _, _⟩ := f
  obtain ⟨_, _, _, _, _, _, _, _, _⟩ := g

  repeat' first
    | exact rfl
    | trivial
    | apply And.intro
    | (intro r hr; subst hr)
    | intro r
    | exact hp
    | (refine iteI (fun h => ?_) (fun h => ?_))
  all_goals first
    | exact hk _ (by grind [IntKind.wrap_i64])
    | omega
theorem w_impl_FrmFrame_same : Valid Try.prog 66 c_impl_FrmFrame_same :=
  valid_ctr2 (V := V_impl_FrmFrame_same) (tysB_ok tys_ok) (CallsL.cons w_slices_Equal_byte_byte (CallsL.nil _)) mixed 0 2 Try.func66 rfl (by kernel_rfl)
    (fun c hc => by
      obtain rfl := Option.some.inj hc
      exact ⟨trivial, ⟨trivial, trivial⟩⟩)
    (fun x K hp hk => ⟨_, by kernel_rfl, vF_impl_FrmFrame_same x.1 x.2 K hp (fun r h => hk r h)⟩)
theorem vF_impl_FrmOk (f : Frm) (K : List Arg → List (List AC) → Prop) (hp : f.data.length ≤ LIM) (hk : ∀ (r : Bool), (r = decide (FrmP f)) → K ([rB.to r]) ([])) :
if ((f.kind == (1 : Int)) = true) then
   ((true = true) ∧
   ((true = true) ∧
    ((true = true) ∧
     ((true = true) ∧
      ((true = true) ∧
       ((true = true) ∧
        ((true = true) ∧
         ((true = true) ∧
          ((true = true) ∧
           ((true = true) ∧
            ((true = true) ∧
             ((true = true) ∧
              ((true = true) ∧
               (True ∧
                (∀ r : Bool,
                 (r = (decide (((0 : Int) ≤ f.seq) ∧ (f.seq ≤ (7 : Int))))) →
                 (true = true) ∧
                 (if (r = true) then
                   ((true = true) ∧
                   (True ∧
                    (∀ r1 : Bool,
                     (r1 = (decide (((0 : Int) ≤ f.ack) ∧ (f.ack ≤ (7 : Int))))) →
                     (true = true) ∧
                     (if (r1 = true) then
                       ((true = true) ∧
                       (True ∧
                        (∀ r2 : Bool,
                         (r2 = (decide (SegP f.seg f.len (((List.length (Go.Proofs.YtjladmhjpikdhaaE.Frm.data f)) : Nat) : Int)))) →
                         (true = true) ∧
                         (if (r2 = true) then
                           ((true = true) ∧
                           (((List.length f.data) ≤ (137438953472 : Nat)) ∧
                            (∀ r3 : Bool,
                             (r3 = (decide ((Frm.mk f.kind f.seq f.ack false f.final (0 : Int) f.seg f.len f.data) = (Frm.mk f.kind f.seq f.ack f.poll f.final f.say f.seg f.len f.data)))) →
                             (true = true) ∧
                             ((true = true) ∧
                              (K [(aB r3)] [])))))
                          else
                           ((true = true) ∧
                           (K [(aB false)] []))))))
                      else
                       ((true = true) ∧
                       (K [(aB false)] []))))))
                  else
                   ((true = true) ∧
                   (K [(aB false)] []))))))))))))))))))
  else
   (if ((f.kind == (2 : Int)) = true) then
    ((true = true) ∧
    ((true = true) ∧
     ((true = true) ∧
      ((true = true) ∧
       ((true = true) ∧
        ((true = true) ∧
         ((true = true) ∧
          ((true = true) ∧
           ((true = true) ∧
            (True ∧
             (∀ r : Bool,
              (r = (decide (((0 : Int) ≤ f.ack) ∧ (f.ack ≤ (7 : Int))))) →
              (true = true) ∧
              (if (r = true) then
                (if (f.poll = true) then
                 (if ((!f.final) = true) then
                  ((true = true) ∧
                  (True ∧
                   (∀ r1 : Bool,
                    (r1 = (decide (((0 : Int) ≤ f.say) ∧ (f.say ≤ (2 : Int))))) →
                    (true = true) ∧
                    (if (r1 = true) then
                      ((true = true) ∧
                      (((List.length ([] : (List Int))) ≤ (137438953472 : Nat)) ∧
                       (∀ r2 : Bool,
                        (r2 = (decide ((Frm.mk f.kind (0 : Int) f.ack f.poll f.final f.say (0 : Int) (0 : Int) ([] : (List Int))) = (Frm.mk f.kind f.seq f.ack f.poll f.final f.say f.seg f.len f.data)))) →
                        (true = true) ∧
                        ((true = true) ∧
                         (K [(aB r2)] [])))))
                     else
                      ((true = true) ∧
                      (K [(aB false)] []))))))
                 else
                  ((true = true) ∧
                  (K [(aB false)] [])))
                else
                 ((true = true) ∧
                 (True ∧
                  (∀ r1 : Bool,
                   (r1 = (decide (((0 : Int) ≤ f.say) ∧ (f.say ≤ (2 : Int))))) →
                   (true = true) ∧
                   (if (r1 = true) then
                     ((true = true) ∧
                     (((List.length ([] : (List Int))) ≤ (137438953472 : Nat)) ∧
                      (∀ r2 : Bool,
                       (r2 = (decide ((Frm.mk f.kind (0 : Int) f.ack f.poll f.final f.say (0 : Int) (0 : Int) ([] : (List Int))) = (Frm.mk f.kind f.seq f.ack f.poll f.final f.say f.seg f.len f.data)))) →
                       (true = true) ∧
                       ((true = true) ∧
                        (K [(aB r2)] [])))))
                    else
                     ((true = true) ∧
                     (K [(aB false)] [])))))))
               else
                ((true = true) ∧
                (K [(aB false)] []))))))))))))))
   else
    (if ((f.kind == (3 : Int)) = true) then
     ((true = true) ∧
     ((true = true) ∧
      ((true = true) ∧
       ((true = true) ∧
        ((true = true) ∧
         ((true = true) ∧
          ((true = true) ∧
           (True ∧
            (∀ r : Bool,
             (r = (decide (SegP f.seg f.len (((List.length (Go.Proofs.YtjladmhjpikdhaaE.Frm.data f)) : Nat) : Int)))) →
             (true = true) ∧
             (if (r = true) then
               ((true = true) ∧
               (((List.length f.data) ≤ (137438953472 : Nat)) ∧
                (∀ r1 : Bool,
                 (r1 = (decide ((Frm.mk f.kind (0 : Int) (0 : Int) false false (0 : Int) f.seg f.len f.data) = (Frm.mk f.kind f.seq f.ack f.poll f.final f.say f.seg f.len f.data)))) →
                 (true = true) ∧
                 ((true = true) ∧
                  (K [(aB r1)] [])))))
              else
               ((true = true) ∧
               (K [(aB false)] []))))))))))))
    else
     (if ((f.kind == (4 : Int)) = true) then
      ((true = true) ∧
      (True ∧
       (∀ r : Bool,
        (r = (decide (((1 : Int) ≤ f.len) ∧ (f.len ≤ (255 : Int))))) →
        (true = true) ∧
        (if (r = true) then
          ((true = true) ∧
          (((List.length ([] : (List Int))) ≤ (137438953472 : Nat)) ∧
           (∀ r1 : Bool,
            (r1 = (decide ((Frm.mk f.kind (0 : Int) (0 : Int) false false (0 : Int) (0 : Int) f.len ([] : (List Int))) = (Frm.mk f.kind f.seq f.ack f.poll f.final f.say f.seg f.len f.data)))) →
            (true = true) ∧
            ((true = true) ∧
             (K [(aB r1)] [])))))
         else
          ((true = true) ∧
          (K [(aB false)] []))))))
     else
      ((true = true) ∧
      (K [(aB false)] []))))) := by
  repeat' first
    | exact rfl
    | trivial
    | apply And.intro
    | (intro r hr; subst hr)
    | intro r
    | exact hp
    | (refine iteI (fun h => ?_) (fun h => ?_))
  all_goals first
    | exact hk _ (by grind [FrmP, IntKind.wrap_i64])
    | omega
theorem w_impl_FrmOk : Valid Try.prog 19 c_impl_FrmOk :=
  valid_ctr2 (V := V_impl_FrmOk) (tysB_ok tys_ok) (CallsL.cons w_impl_isNumber (CallsL.cons w_impl_pieceOk (CallsL.cons w_impl_in (CallsL.cons w_impl_FrmFrame_same (CallsL.nil _))))) mixed 0 2 Try.func19 rfl (by kernel_rfl)
    (fun c hc => by
      obtain rfl := Option.some.inj hc
      exact ⟨trivial, ⟨trivial, ⟨trivial, ⟨⟨trivial, ⟨trivial, ⟨⟨trivial, trivial⟩, ⟨trivial, ⟨⟨trivial, trivial⟩, ⟨trivial, ⟨⟨trivial, trivial⟩, ⟨trivial, ⟨⟨trivial, trivial⟩, trivial⟩⟩⟩⟩⟩⟩⟩⟩⟩, ⟨trivial, trivial⟩⟩⟩⟩⟩)
    (fun x K hp hk => ⟨_, by kernel_rfl, vF_impl_FrmOk x K hp (fun r h => hk r h)⟩)
theorem vF_spec_FrmOk (f : Frm) (K : List Arg → List (List AC) → Prop) (hp : True) (hk : ∀ (r : Bool), (r = decide (FrmP f)) → K ([rB.to r]) ([])) :
if ((f.kind == (1 : Int)) = true) then
   ((true = true) ∧
   (True ∧
    (∀ r : Bool,
     (r = (decide (((0 : Int) ≤ f.seq) ∧ (f.seq ≤ (7 : Int))))) →
     (true = true) ∧
     (if (r = true) then
       ((true = true) ∧
       (True ∧
        (∀ r1 : Bool,
         (r1 = (decide (((0 : Int) ≤ f.ack) ∧ (f.ack ≤ (7 : Int))))) →
         (true = true) ∧
         (if (r1 = true) then
           (if ((!f.poll) = true) then
            (if ((f.say == (0 : Int)) = true) then
             ((true = true) ∧
             (True ∧
              (∀ r2 : Bool,
               (r2 = (decide (SegP f.seg f.len (((List.length f.data) : Nat) : Int)))) →
               (true = true) ∧
               ((true = true) ∧
                (K [(aB r2)] [])))))
            else
             ((true = true) ∧
             (K [(aB false)] [])))
           else
            ((true = true) ∧
            (K [(aB false)] [])))
          else
           ((true = true) ∧
           (K [(aB false)] []))))))
      else
       ((true = true) ∧
       (K [(aB false)] []))))))
  else
   (if ((f.kind == (2 : Int)) = true) then
    (if ((f.seq == (0 : Int)) = true) then
     ((true = true) ∧
     (True ∧
      (∀ r : Bool,
       (r = (decide (((0 : Int) ≤ f.ack) ∧ (f.ack ≤ (7 : Int))))) →
       (true = true) ∧
       (if (r = true) then
         (if (f.poll = true) then
          (if ((!f.final) = true) then
           ((true = true) ∧
           (True ∧
            (∀ r1 : Bool,
             (r1 = (decide (((0 : Int) ≤ f.say) ∧ (f.say ≤ (2 : Int))))) →
             (true = true) ∧
             (if (r1 = true) then
               (if ((f.seg == (0 : Int)) = true) then
                (if ((f.len == (0 : Int)) = true) then
                 ((true = true) ∧
                 (K [(aB ((((List.length f.data) : Nat) : Int) == (0 : Int)))] []))
                else
                 ((true = true) ∧
                 (K [(aB false)] [])))
               else
                ((true = true) ∧
                (K [(aB false)] [])))
              else
               ((true = true) ∧
               (K [(aB false)] []))))))
          else
           ((true = true) ∧
           (K [(aB false)] [])))
         else
          ((true = true) ∧
          (True ∧
           (∀ r1 : Bool,
            (r1 = (decide (((0 : Int) ≤ f.say) ∧ (f.say ≤ (2 : Int))))) →
            (true = true) ∧
            (if (r1 = true) then
              (if ((f.seg == (0 : Int)) = true) then
               (if ((f.len == (0 : Int)) = true) then
                ((true = true) ∧
                (K [(aB ((((List.length f.data) : Nat) : Int) == (0 : Int)))] []))
               else
                ((true = true) ∧
                (K [(aB false)] [])))
              else
               ((true = true) ∧
               (K [(aB false)] [])))
             else
              ((true = true) ∧
              (K [(aB false)] [])))))))
        else
         ((true = true) ∧
         (K [(aB false)] []))))))
    else
     ((true = true) ∧
     (K [(aB false)] [])))
   else
    (if ((f.kind == (3 : Int)) = true) then
     (if ((f.seq == (0 : Int)) = true) then
      (if ((f.ack == (0 : Int)) = true) then
       (if ((!f.poll) = true) then
        (if ((!f.final) = true) then
         (if ((f.say == (0 : Int)) = true) then
          ((true = true) ∧
          (True ∧
           (∀ r : Bool,
            (r = (decide (SegP f.seg f.len (((List.length f.data) : Nat) : Int)))) →
            (true = true) ∧
            ((true = true) ∧
             (K [(aB r)] [])))))
         else
          ((true = true) ∧
          (K [(aB false)] [])))
        else
         ((true = true) ∧
         (K [(aB false)] [])))
       else
        ((true = true) ∧
        (K [(aB false)] [])))
      else
       ((true = true) ∧
       (K [(aB false)] [])))
     else
      ((true = true) ∧
      (K [(aB false)] [])))
    else
     (if ((f.kind == (4 : Int)) = true) then
      (if ((f.seq == (0 : Int)) = true) then
       (if ((f.ack == (0 : Int)) = true) then
        (if ((!f.poll) = true) then
         (if ((!f.final) = true) then
          (if ((f.say == (0 : Int)) = true) then
           (if ((f.seg == (0 : Int)) = true) then
            ((true = true) ∧
            (True ∧
             (∀ r : Bool,
              (r = (decide (((1 : Int) ≤ f.len) ∧ (f.len ≤ (255 : Int))))) →
              (true = true) ∧
              (if (r = true) then
                ((true = true) ∧
                (K [(aB ((((List.length f.data) : Nat) : Int) == (0 : Int)))] []))
               else
                ((true = true) ∧
                (K [(aB false)] []))))))
           else
            ((true = true) ∧
            (K [(aB false)] [])))
          else
           ((true = true) ∧
           (K [(aB false)] [])))
         else
          ((true = true) ∧
          (K [(aB false)] [])))
        else
         ((true = true) ∧
         (K [(aB false)] [])))
       else
        ((true = true) ∧
        (K [(aB false)] [])))
      else
       ((true = true) ∧
       (K [(aB false)] [])))
     else
      ((true = true) ∧
      (K [(aB false)] []))))) := by
  repeat' first
    | exact rfl
    | trivial
    | apply And.intro
    | (intro r hr; subst hr)
    | intro r
    | exact hp
    | (refine iteI (fun h => ?_) (fun h => ?_))
  all_goals first
    | exact hk _ (by grind [FrmP, IntKind.wrap_i64])
    | omega
theorem w_spec_FrmOk : Valid Try.prog 48 c_spec_FrmOk :=
  valid_ctr2 (V := V_spec_FrmOk) (tysB_ok tys_ok) (CallsL.cons w_spec_l1In (CallsL.cons w_spec_l2Seg (CallsL.nil _))) mixed 0 1 Try.func48 rfl (by kernel_rfl)
    (fun c hc => by
      obtain rfl := Option.some.inj hc
      exact ⟨trivial, ⟨⟨trivial, ⟨trivial, ⟨⟨trivial, trivial⟩, ⟨trivial, ⟨⟨trivial, trivial⟩, ⟨trivial, ⟨⟨trivial, trivial⟩, trivial⟩⟩⟩⟩⟩⟩⟩, ⟨trivial, trivial⟩⟩⟩)
    (fun x K hp hk => ⟨_, by kernel_rfl, vF_spec_FrmOk x K hp (fun r h => hk r h)⟩)
end Go.Proofs.YtjladmhjpikdhaaE

/- Calls answer what is promised: G. Conditions: none. -/
set_option linter.unusedVariables false
namespace Go.Proofs.YtjladmhjpikdhaaE
open Go
theorem vF_impl_PartOk (p : Part) (K : List Arg → List (List AC) → Prop) (hp : True) (hk : ∀ (v : Bool), (v = decide (PartP p)) → K ([rB.to v]) ([])) :
(true = true) ∧
  (True ∧
   (∀ r : Bool,
    (r = (decide (SegP p.seg p.len (((List.length (Go.Proofs.YtjladmhjpikdhaaE.Part.data p)) : Nat) : Int)))) →
    (true = true) ∧
    ((true = true) ∧
     (K [(aB r)] [])))) := by
  repeat' first
    | exact rfl
    | trivial
    | apply And.intro
    | (intro r hr; subst hr)
    | intro r
    | exact hp
    | (refine iteI (fun h => ?_) (fun h => ?_))
  all_goals first
    | exact hk _ (by grind [PartP, SegP, IntKind.wrap_i64])
    | omega
    | grind [PartP, SegP, IntKind.wrap_i64]
theorem w_impl_PartOk : Valid Try.prog 89 c_impl_PartOk :=
  valid_ctr2 (V := V_impl_PartOk) (tysB_ok tys_ok) (CallsL.cons w_impl_pieceOk (CallsL.nil _)) mixed 0 1 Try.func89 rfl (by kernel_rfl)
    (fun c hc => by
      obtain rfl := Option.some.inj hc
      exact ⟨trivial, ⟨trivial, trivial⟩⟩)
    (fun x K hp hk => ⟨_, by kernel_rfl, vF_impl_PartOk x K hp (fun v h => hk v h)⟩)
theorem vF_impl_JoinOk (j : JoinS) (K : List Arg → List (List AC) → Prop) (hp : True) (hk : ∀ (v : Bool), (v = decide (JoinP j)) → K ([rB.to v]) ([])) :
if ((j.len == (0 : Int)) = true) then
   (if (((((List.length j.got) : Nat) : Int) == (0 : Int)) = true) then
    ((true = true) ∧
    (K [(aB true)] []))
   else
    ((true = true) ∧
    (True ∧
     (∀ r : Bool,
      (r = (decide (((2 : Int) ≤ j.len) ∧ (j.len ≤ (24 : Int))))) →
      (true = true) ∧
      (if (r = true) then
        ((true = true) ∧
        (True ∧
         (∀ r1 : Bool,
          (r1 = (decide (((1 : Int) ≤ (((List.length j.got) : Nat) : Int)) ∧ ((((List.length j.got) : Nat) : Int) ≤ (IntKind.wrap IntKind.i64 (j.len - (1 : Int))))))) →
          (true = true) ∧
          ((true = true) ∧
           (K [(aB r1)] [])))))
       else
        ((true = true) ∧
        (K [(aB false)] [])))))))
  else
   ((true = true) ∧
   (True ∧
    (∀ r : Bool,
     (r = (decide (((2 : Int) ≤ j.len) ∧ (j.len ≤ (24 : Int))))) →
     (true = true) ∧
     (if (r = true) then
       ((true = true) ∧
       (True ∧
        (∀ r1 : Bool,
         (r1 = (decide (((1 : Int) ≤ (((List.length j.got) : Nat) : Int)) ∧ ((((List.length j.got) : Nat) : Int) ≤ (IntKind.wrap IntKind.i64 (j.len - (1 : Int))))))) →
         (true = true) ∧
         ((true = true) ∧
          (K [(aB r1)] [])))))
      else
       ((true = true) ∧
       (K [(aB false)] [])))))) := by
  repeat' first
    | exact rfl
    | trivial
    | apply And.intro
    | (intro r hr; subst hr)
    | intro r
    | exact hp
    | (refine iteI (fun h => ?_) (fun h => ?_))
  all_goals first
    | exact hk _ (by grind [JoinP, IntKind.wrap_i64])
    | omega
    | grind [JoinP, IntKind.wrap_i64]
theorem w_impl_JoinOk : Valid Try.prog 71 c_impl_JoinOk :=
  valid_ctr2 (V := V_impl_JoinOk) (tysB_ok tys_ok) (CallsL.cons w_impl_in (CallsL.nil _)) mixed 0 1 Try.func71 rfl (by kernel_rfl)
    (fun c hc => by
      obtain rfl := Option.some.inj hc
      exact ⟨trivial, ⟨trivial, trivial⟩⟩)
    (fun x K hp hk => ⟨_, by kernel_rfl, vF_impl_JoinOk x K hp (fun v h => hk v h)⟩)
theorem vF_spec_JoinOk (j : JoinS) (K : List Arg → List (List AC) → Prop) (hp : True) (hk : ∀ (v : Bool), (v = decide (JoinP j)) → K ([rB.to v]) ([])) :
if ((j.len == (0 : Int)) = true) then
   (if (((((List.length j.got) : Nat) : Int) == (0 : Int)) = true) then
    ((true = true) ∧
    (K [(aB true)] []))
   else
    ((true = true) ∧
    (True ∧
     (∀ r : Bool,
      (r = (decide (((2 : Int) ≤ j.len) ∧ (j.len ≤ (24 : Int))))) →
      (true = true) ∧
      (if (r = true) then
        ((true = true) ∧
        (True ∧
         (∀ r1 : Bool,
          (r1 = (decide (((1 : Int) ≤ (((List.length j.got) : Nat) : Int)) ∧ ((((List.length j.got) : Nat) : Int) ≤ (IntKind.wrap IntKind.i64 (j.len - (1 : Int))))))) →
          (true = true) ∧
          ((true = true) ∧
           (K [(aB r1)] [])))))
       else
        ((true = true) ∧
        (K [(aB false)] [])))))))
  else
   ((true = true) ∧
   (True ∧
    (∀ r : Bool,
     (r = (decide (((2 : Int) ≤ j.len) ∧ (j.len ≤ (24 : Int))))) →
     (true = true) ∧
     (if (r = true) then
       ((true = true) ∧
       (True ∧
        (∀ r1 : Bool,
         (r1 = (decide (((1 : Int) ≤ (((List.length j.got) : Nat) : Int)) ∧ ((((List.length j.got) : Nat) : Int) ≤ (IntKind.wrap IntKind.i64 (j.len - (1 : Int))))))) →
         (true = true) ∧
         ((true = true) ∧
          (K [(aB r1)] [])))))
      else
       ((true = true) ∧
       (K [(aB false)] [])))))) := by
  repeat' first
    | exact rfl
    | trivial
    | apply And.intro
    | (intro r hr; subst hr)
    | intro r
    | exact hp
    | (refine iteI (fun h => ?_) (fun h => ?_))
  all_goals first
    | exact hk _ (by grind [JoinP, IntKind.wrap_i64])
    | omega
    | grind [JoinP, IntKind.wrap_i64]
theorem w_spec_JoinOk : Valid Try.prog 61 c_spec_JoinOk :=
  valid_ctr2 (V := V_spec_JoinOk) (tysB_ok tys_ok) (CallsL.cons w_spec_l1In (CallsL.nil _)) mixed 0 1 Try.func61 rfl (by kernel_rfl)
    (fun c hc => by
      obtain rfl := Option.some.inj hc
      exact ⟨trivial, ⟨trivial, trivial⟩⟩)
    (fun x K hp hk => ⟨_, by kernel_rfl, vF_spec_JoinOk x K hp (fun v h => hk v h)⟩)
theorem vF_impl_far (a : Int) (b : Int) (K : List Arg → List (List AC) → Prop) (hp : 0 ≤ a ∧ a ≤ 7 ∧ 0 ≤ b ∧ b ≤ 7) (hk : ∀ (x : Int), (x = (b - a + 8) % 8) → K ([rInt.to x]) ([])) :
((8 : Int) ≠ (0 : Int)) ∧
  ((true = true) ∧
   (K [(aI IntKind.i64 (Int.tmod (IntKind.wrap IntKind.i64 ((IntKind.wrap IntKind.i64 (b - a)) + (8 : Int))) (8 : Int)))] [])) := by
  refine ⟨by decide, by trivial, hk _ ?_⟩
  rw [wr (x := b - a) (by omega) (by omega), wr (by omega) (by omega), Int.tmod_eq_emod_of_nonneg (by omega)]
theorem w_impl_far : Valid Try.prog 88 c_impl_far :=
  valid_ctr2 (V := V_impl_far) (tysB_ok tys_ok) (CallsL.nil _) mixed 0 0 Try.func88 rfl (by kernel_rfl)
    (fun c hc => by
      obtain rfl := Option.some.inj hc
      exact ⟨trivial, ⟨trivial, trivial⟩⟩)
    (fun x K hp hk => ⟨_, by kernel_rfl, vF_impl_far x.1 x.2 K hp (fun x h => hk x h)⟩)
theorem vF_impl_NumFar (a : Int) (b : Int) (K : List Arg → List (List AC) → Prop) (hp : True) (hk : ∀ (x : Int), (x = if 0 ≤ a ∧ a ≤ 7 ∧ 0 ≤ b ∧ b ≤ 7 then (b - a + 8) % 8 else -1) → K ([rInt.to x]) ([])) :
(true = true) ∧
  (True ∧
   (∀ r : Bool,
    (r = (decide (((0 : Int) ≤ a) ∧ (a ≤ (7 : Int))))) →
    (true = true) ∧
    (if ((!r) = true) then
      ((true = true) ∧
      (K [(aI IntKind.i64 (-1 : Int))] []))
     else
      ((true = true) ∧
      (True ∧
       (∀ r1 : Bool,
        (r1 = (decide (((0 : Int) ≤ b) ∧ (b ≤ (7 : Int))))) →
        (true = true) ∧
        (if ((!r1) = true) then
          ((true = true) ∧
          (K [(aI IntKind.i64 (-1 : Int))] []))
         else
          ((true = true) ∧
          ((((0 : Int) ≤ a) ∧
            ((a ≤ (7 : Int)) ∧
             (((0 : Int) ≤ b) ∧
              (b ≤ (7 : Int))))) ∧
           (∀ r2 : Int,
            (r2 = (((b - a) + (8 : Int)) % (8 : Int))) →
            (true = true) ∧
            ((true = true) ∧
             (K [(aI IntKind.i64 r2)] [])))))))))))) := by
  repeat' first
    | exact rfl
    | trivial
    | apply And.intro
    | (intro r hr; subst hr)
    | intro r
    | exact hp
    | (refine iteI (fun h => ?_) (fun h => ?_))
  all_goals first
    | exact hk _ (by grind [Int.tmod_eq_emod_of_nonneg, IntKind.wrap_i64])
    | omega
    | grind [Int.tmod_eq_emod_of_nonneg, IntKind.wrap_i64]
theorem w_impl_NumFar : Valid Try.prog 50 c_impl_NumFar :=
  valid_ctr2 (V := V_impl_NumFar) (tysB_ok tys_ok) (CallsL.cons w_impl_isNumber (CallsL.cons w_impl_far (CallsL.nil _))) mixed 0 0 Try.func50 rfl (by kernel_rfl)
    (fun c hc => by
      obtain rfl := Option.some.inj hc
      exact ⟨trivial, ⟨⟨trivial, ⟨⟨trivial, trivial⟩, trivial⟩⟩, ⟨trivial, trivial⟩⟩⟩)
    (fun x K hp hk => ⟨_, by kernel_rfl, vF_impl_NumFar x.1 x.2 K hp (fun x h => hk x h)⟩)
theorem vF_spec_NumFar (a : Int) (b : Int) (K : List Arg → List (List AC) → Prop) (hp : True) (hk : ∀ (x : Int), (x = if 0 ≤ a ∧ a ≤ 7 ∧ 0 ≤ b ∧ b ≤ 7 then (b - a + 8) % 8 else -1) → K ([rInt.to x]) ([])) :
(true = true) ∧
  (True ∧
   (∀ r : Bool,
    (r = (decide (((0 : Int) ≤ a) ∧ (a ≤ (7 : Int))))) →
    (true = true) ∧
    (if ((!r) = true) then
      ((true = true) ∧
      (K [(aI IntKind.i64 (-1 : Int))] []))
     else
      ((true = true) ∧
      (True ∧
       (∀ r1 : Bool,
        (r1 = (decide (((0 : Int) ≤ b) ∧ (b ≤ (7 : Int))))) →
        (true = true) ∧
        (if ((!r1) = true) then
          ((true = true) ∧
          (K [(aI IntKind.i64 (-1 : Int))] []))
         else
          (((8 : Int) ≠ (0 : Int)) ∧
          ((true = true) ∧
           (K [(aI IntKind.i64 (Int.tmod (IntKind.wrap IntKind.i64 ((IntKind.wrap IntKind.i64 (b - a)) + (8 : Int))) (8 : Int)))] [])))))))))) := by
  refine ⟨by trivial, trivial, fun r hr => ⟨by trivial, iteI (fun h => ?_) (fun h => ?_)⟩⟩
  · exact ⟨by trivial, hk _ (by subst hr; rw [if_neg]; simp at h; omega)⟩
  · refine ⟨by trivial, trivial, fun r1 hr1 => ⟨by trivial, iteI (fun h1 => ?_) (fun h1 => ?_)⟩⟩
    · exact ⟨by trivial, hk _ (by subst hr1; rw [if_neg]; simp at h1; omega)⟩
    · subst hr; subst hr1
      simp at h h1
      refine ⟨by decide, by trivial, hk _ ?_⟩
      rw [if_pos (by omega), wr (x := b - a) (by omega) (by omega), wr (by omega) (by omega), Int.tmod_eq_emod_of_nonneg (by omega)]
theorem w_spec_NumFar : Valid Try.prog 101 c_spec_NumFar :=
  valid_ctr2 (V := V_spec_NumFar) (tysB_ok tys_ok) (CallsL.cons w_spec_l1In (CallsL.nil _)) mixed 0 0 Try.func101 rfl (by kernel_rfl)
    (fun c hc => by
      obtain rfl := Option.some.inj hc
      exact ⟨trivial, ⟨⟨trivial, ⟨⟨trivial, trivial⟩, trivial⟩⟩, ⟨trivial, trivial⟩⟩⟩)
    (fun x K hp hk => ⟨_, by kernel_rfl, vF_spec_NumFar x.1 x.2 K hp (fun x h => hk x h)⟩)
theorem vF_impl_NumNext (n : Int) (K : List Arg → List (List AC) → Prop) (hp : 0 ≤ n ∧ n ≤ 100000) (hk : ∀ (x : Int), (x = (n + 1) % 8) → K ([rInt.to x]) ([])) :
((8 : Int) ≠ (0 : Int)) ∧
  ((true = true) ∧
   (K [(aI IntKind.i64 (Int.tmod (IntKind.wrap IntKind.i64 (n + (1 : Int))) (8 : Int)))] [])) := by
  repeat' first
    | exact rfl
    | trivial
    | apply And.intro
    | (intro r hr; subst hr)
    | intro r
    | exact hp
    | (refine iteI (fun h => ?_) (fun h => ?_))
  all_goals first
    | exact hk _ (by grind [Int.tmod_eq_emod_of_nonneg, IntKind.wrap_i64])
    | omega
    | grind [Int.tmod_eq_emod_of_nonneg, IntKind.wrap_i64]
theorem w_impl_NumNext : Valid Try.prog 52 c_impl_NumNext :=
  valid_ctr2 (V := V_impl_NumNext) (tysB_ok tys_ok) (CallsL.nil _) mixed 0 0 Try.func52 rfl (by kernel_rfl)
    (fun c hc => by
      obtain rfl := Option.some.inj hc
      exact ⟨trivial, ⟨trivial, trivial⟩⟩)
    (fun x K hp hk => ⟨_, by kernel_rfl, vF_impl_NumNext x K hp (fun x h => hk x h)⟩)
theorem vF_impl_NumOf (n : Int) (K : List Arg → List (List AC) → Prop) (hp : True) (hk : ∀ (x : Int), (x = if n < 0 then -1 else n % 8) → K ([rInt.to x]) ([])) :
if ((decide (n < (0 : Int))) = true) then
   ((true = true) ∧
   (K [(aI IntKind.i64 (-1 : Int))] []))
  else
   (((8 : Int) ≠ (0 : Int)) ∧
   ((true = true) ∧
    (K [(aI IntKind.i64 (Int.tmod n (8 : Int)))] []))) := by
  repeat' first
    | exact rfl
    | trivial
    | apply And.intro
    | (intro r hr; subst hr)
    | intro r
    | exact hp
    | (refine iteI (fun h => ?_) (fun h => ?_))
  all_goals first
    | exact hk _ (by grind [Int.tmod_eq_emod_of_nonneg, IntKind.wrap_i64])
    | omega
    | grind [Int.tmod_eq_emod_of_nonneg, IntKind.wrap_i64]
theorem w_impl_NumOf : Valid Try.prog 70 c_impl_NumOf :=
  valid_ctr2 (V := V_impl_NumOf) (tysB_ok tys_ok) (CallsL.nil _) mixed 0 0 Try.func70 rfl (by kernel_rfl)
    (fun c hc => by
      obtain rfl := Option.some.inj hc
      exact ⟨trivial, ⟨⟨trivial, ⟨⟨trivial, trivial⟩, trivial⟩⟩, ⟨trivial, trivial⟩⟩⟩)
    (fun x K hp hk => ⟨_, by kernel_rfl, vF_impl_NumOf x K hp (fun x h => hk x h)⟩)
theorem vF_spec_NumNext (n : Int) (K : List Arg → List (List AC) → Prop) (hp : 0 ≤ n ∧ n ≤ 100000) (hk : ∀ (x : Int), (x = (n + 1) % 8) → K ([rInt.to x]) ([])) :
((8 : Int) ≠ (0 : Int)) ∧
  ((true = true) ∧
   (K [(aI IntKind.i64 (Int.tmod (IntKind.wrap IntKind.i64 (n + (1 : Int))) (8 : Int)))] [])) := by
  repeat' first
    | exact rfl
    | trivial
    | apply And.intro
    | (intro r hr; subst hr)
    | intro r
    | exact hp
    | (refine iteI (fun h => ?_) (fun h => ?_))
  all_goals first
    | exact hk _ (by grind [Int.tmod_eq_emod_of_nonneg, IntKind.wrap_i64])
    | omega
    | grind [Int.tmod_eq_emod_of_nonneg, IntKind.wrap_i64]
theorem w_spec_NumNext : Valid Try.prog 93 c_spec_NumNext :=
  valid_ctr2 (V := V_spec_NumNext) (tysB_ok tys_ok) (CallsL.nil _) mixed 0 0 Try.func93 rfl (by kernel_rfl)
    (fun c hc => by
      obtain rfl := Option.some.inj hc
      exact ⟨trivial, ⟨trivial, trivial⟩⟩)
    (fun x K hp hk => ⟨_, by kernel_rfl, vF_spec_NumNext x K hp (fun x h => hk x h)⟩)
theorem vF_spec_NumOf (n : Int) (K : List Arg → List (List AC) → Prop) (hp : True) (hk : ∀ (x : Int), (x = if n < 0 then -1 else n % 8) → K ([rInt.to x]) ([])) :
if ((decide (n < (0 : Int))) = true) then
   ((true = true) ∧
   (K [(aI IntKind.i64 (-1 : Int))] []))
  else
   (((8 : Int) ≠ (0 : Int)) ∧
   ((true = true) ∧
    (K [(aI IntKind.i64 (Int.tmod n (8 : Int)))] []))) := by
  repeat' first
    | exact rfl
    | trivial
    | apply And.intro
    | (intro r hr; subst hr)
    | intro r
    | exact hp
    | (refine iteI (fun h => ?_) (fun h => ?_))
  all_goals first
    | exact hk _ (by grind [Int.tmod_eq_emod_of_nonneg, IntKind.wrap_i64])
    | omega
    | grind [Int.tmod_eq_emod_of_nonneg, IntKind.wrap_i64]
theorem w_spec_NumOf : Valid Try.prog 60 c_spec_NumOf :=
  valid_ctr2 (V := V_spec_NumOf) (tysB_ok tys_ok) (CallsL.nil _) mixed 0 0 Try.func60 rfl (by kernel_rfl)
    (fun c hc => by
      obtain rfl := Option.some.inj hc
      exact ⟨trivial, ⟨⟨trivial, ⟨⟨trivial, trivial⟩, trivial⟩⟩, ⟨trivial, trivial⟩⟩⟩)
    (fun x K hp hk => ⟨_, by kernel_rfl, vF_spec_NumOf x K hp (fun x h => hk x h)⟩)
theorem vF_impl_goOrWait (b : Bool) (K : List Arg → List (List AC) → Prop) (hp : True) (hk : ∀ (x : Int), (x = goWait b) → K ([rInt.to x]) ([])) :
if (b = true) then
   ((true = true) ∧
   (K [(aI IntKind.i64 (2 : Int))] []))
  else
   ((true = true) ∧
   (K [(aI IntKind.i64 (0 : Int))] [])) := by
  repeat' first
    | exact rfl
    | trivial
    | apply And.intro
    | (intro r hr; subst hr)
    | intro r
    | exact hp
    | (refine iteI (fun h => ?_) (fun h => ?_))
  all_goals first
    | exact hk _ (by grind [goWait, Int.tmod_eq_emod_of_nonneg, IntKind.wrap_i64])
    | omega
    | grind [goWait, Int.tmod_eq_emod_of_nonneg, IntKind.wrap_i64]
theorem w_impl_goOrWait : Valid Try.prog 57 c_impl_goOrWait :=
  valid_ctr2 (V := V_impl_goOrWait) (tysB_ok tys_ok) (CallsL.nil _) mixed 0 0 Try.func57 rfl (by kernel_rfl)
    (fun c hc => by
      obtain rfl := Option.some.inj hc
      exact ⟨trivial, ⟨⟨trivial, ⟨⟨trivial, trivial⟩, trivial⟩⟩, ⟨trivial, trivial⟩⟩⟩)
    (fun x K hp hk => ⟨_, by kernel_rfl, vF_impl_goOrWait x K hp (fun x h => hk x h)⟩)
theorem vF_impl_RxOk (r : RxS) (K : List Arg → List (List AC) → Prop) (hp : True) (hk : ∀ (v : Bool), (v = decide (RxP r)) → K ([rB.to v]) ([])) :
(true = true) ∧
  (True ∧
   (∀ r1 : Bool,
    (r1 = (decide (((0 : Int) ≤ r.expect) ∧ (r.expect ≤ (7 : Int))))) →
    (true = true) ∧
    ((true = true) ∧
     (if (r1 = true) then
       ((true = true) ∧
       (True ∧
        (∀ r2 : Bool,
         (r2 = (decide (((0 : Int) ≤ r.count) ∧ (r.count ≤ (9999 : Int))))) →
         (true = true) ∧
         ((true = true) ∧
          (if (r2 = true) then
            ((true = true) ∧
            (True ∧
             (∀ r3 : Int,
              (r3 = (if (r.count < (0 : Int)) then (-1 : Int) else (r.count % (8 : Int)))) →
              (true = true) ∧
              ((true = true) ∧
               (if ((r3 == r.expect) = true) then
                 ((true = true) ∧
                 (True ∧
                  (∀ r4 : Bool,
                   (r4 = (decide (JoinP (JoinS.mk r.join.len r.join.got)))) →
                   (true = true) ∧
                   ((true = true) ∧
                    ((true = true) ∧
                     (K [(aB r4)] []))))))
                else
                 ((true = true) ∧
                 (K [(aB false)] [])))))))
           else
            ((true = true) ∧
            (K [(aB false)] [])))))))
      else
       ((true = true) ∧
       (K [(aB false)] [])))))) := by
  repeat' first
    | exact rfl
    | trivial
    | apply And.intro
    | (intro r hr; subst hr)
    | intro r
    | exact hp
    | (refine iteI (fun h => ?_) (fun h => ?_))
  all_goals first
    | exact hk _ (by grind [RxP, JoinP, IntKind.wrap_i64])
    | omega
    | grind [RxP, JoinP, IntKind.wrap_i64]
theorem w_impl_RxOk : Valid Try.prog 25 c_impl_RxOk :=
  valid_ctr2 (V := V_impl_RxOk) (tysB_ok tys_ok) (CallsL.cons w_impl_isNumber (CallsL.cons w_impl_in (CallsL.cons w_impl_NumOf (CallsL.cons w_impl_JoinOk (CallsL.nil _))))) mixed 0 1 Try.func25 rfl (by kernel_rfl)
    (fun c hc => by
      obtain rfl := Option.some.inj hc
      exact ⟨trivial, ⟨trivial, trivial⟩⟩)
    (fun x K hp hk => ⟨_, by kernel_rfl, vF_impl_RxOk x K hp (fun v h => hk v h)⟩)
theorem vF_spec_RxOk (r : RxS) (K : List Arg → List (List AC) → Prop) (hp : True) (hk : ∀ (v : Bool), (v = decide (RxP r)) → K ([rB.to v]) ([])) :
(true = true) ∧
  (True ∧
   (∀ r1 : Bool,
    (r1 = (decide (((0 : Int) ≤ r.expect) ∧ (r.expect ≤ (7 : Int))))) →
    (true = true) ∧
    ((true = true) ∧
     (if (r1 = true) then
       ((true = true) ∧
       (True ∧
        (∀ r2 : Bool,
         (r2 = (decide (((0 : Int) ≤ r.count) ∧ (r.count ≤ (9999 : Int))))) →
         (true = true) ∧
         ((true = true) ∧
          (if (r2 = true) then
            ((true = true) ∧
            (True ∧
             (∀ r3 : Int,
              (r3 = (if (r.count < (0 : Int)) then (-1 : Int) else (r.count % (8 : Int)))) →
              (true = true) ∧
              ((true = true) ∧
               (if ((r3 == r.expect) = true) then
                 ((true = true) ∧
                 (True ∧
                  (∀ r4 : Bool,
                   (r4 = (decide (JoinP (JoinS.mk r.join.len r.join.got)))) →
                   (true = true) ∧
                   ((true = true) ∧
                    ((true = true) ∧
                     (K [(aB r4)] []))))))
                else
                 ((true = true) ∧
                 (K [(aB false)] [])))))))
           else
            ((true = true) ∧
            (K [(aB false)] [])))))))
      else
       ((true = true) ∧
       (K [(aB false)] [])))))) := by
  repeat' first
    | exact rfl
    | trivial
    | apply And.intro
    | (intro r hr; subst hr)
    | intro r
    | exact hp
    | (refine iteI (fun h => ?_) (fun h => ?_))
  all_goals first
    | exact hk _ (by grind [RxP, JoinP, IntKind.wrap_i64])
    | omega
    | grind [RxP, JoinP, IntKind.wrap_i64]
theorem w_spec_RxOk : Valid Try.prog 17 c_spec_RxOk :=
  valid_ctr2 (V := V_spec_RxOk) (tysB_ok tys_ok) (CallsL.cons w_spec_l1In (CallsL.cons w_spec_NumOf (CallsL.cons w_spec_JoinOk (CallsL.nil _)))) mixed 0 1 Try.func17 rfl (by kernel_rfl)
    (fun c hc => by
      obtain rfl := Option.some.inj hc
      exact ⟨trivial, ⟨trivial, trivial⟩⟩)
    (fun x K hp hk => ⟨_, by kernel_rfl, vF_spec_RxOk x K hp (fun v h => hk v h)⟩)
theorem vF_impl_RxState_say (r : RxS) (w : Int) (f : Bool) (K : List Arg → List (List AC) → Prop) (hp : True) (hk : ∀ (g : Frm), (g = sayF r w f) → K ([rFrm.to g]) ([])) :
(true = true) ∧
  (K [(Arg.v true [(AC.d (D.i IntKind.i64 (2 : Int))), (AC.d (D.i IntKind.i64 (0 : Int))), (AC.d (D.i IntKind.i64 r.expect)), (AC.d (D.b false)), (AC.d (D.b f)), (AC.d (D.i IntKind.i64 w)), (AC.d (D.i IntKind.i64 (0 : Int))), (AC.d (D.i IntKind.i64 (0 : Int))), (AC.d (D.r RK.u8 ([] : (List Int))))])] []) := by
  exact ⟨by trivial, hk _ rfl⟩
theorem w_impl_RxState_say : Valid Try.prog 56 c_impl_RxState_say :=
  valid_ctr2 (V := V_impl_RxState_say) (tysB_ok tys_ok) (CallsL.nil _) mixed 0 2 Try.func56 rfl (by kernel_rfl)
    (fun c hc => by
      obtain rfl := Option.some.inj hc
      exact ⟨trivial, ⟨trivial, trivial⟩⟩)
    (fun x K hp hk => ⟨_, by kernel_rfl, vF_impl_RxState_say x.1 x.2.1 x.2.2 K hp (fun g h => hk g h)⟩)
theorem vF_spec_l7Say (r : RxS) (f : Bool) (K : List Arg → List (List AC) → Prop) (hp : True) (hk : ∀ (g : Frm), (g = sayF r (goWait r.busy) f) → K ([rFrm.to g]) ([])) :
if (r.busy = true) then
   ((true = true) ∧
   (K [(Arg.v true [(AC.d (D.i IntKind.i64 (2 : Int))), (AC.d (D.i IntKind.i64 (0 : Int))), (AC.d (D.i IntKind.i64 r.expect)), (AC.d (D.b false)), (AC.d (D.b f)), (AC.d (D.i IntKind.i64 (2 : Int))), (AC.d (D.i IntKind.i64 (0 : Int))), (AC.d (D.i IntKind.i64 (0 : Int))), (AC.d (D.r RK.u8 ([] : (List Int))))])] []))
  else
   ((true = true) ∧
   (K [(Arg.v true [(AC.d (D.i IntKind.i64 (2 : Int))), (AC.d (D.i IntKind.i64 (0 : Int))), (AC.d (D.i IntKind.i64 r.expect)), (AC.d (D.b false)), (AC.d (D.b f)), (AC.d (D.i IntKind.i64 (0 : Int))), (AC.d (D.i IntKind.i64 (0 : Int))), (AC.d (D.i IntKind.i64 (0 : Int))), (AC.d (D.r RK.u8 ([] : (List Int))))])] [])) := by
  refine iteI (fun h => ?_) (fun h => ?_)
  · have e : goWait r.busy = 2 := by simp [goWait, h]
    have h := hk _ rfl; rw [e] at h; exact ⟨by trivial, h⟩
  · have e : goWait r.busy = 0 := by simp [goWait, h]
    have h := hk _ rfl; rw [e] at h; exact ⟨by trivial, h⟩
theorem w_spec_l7Say : Valid Try.prog 58 c_spec_l7Say :=
  valid_ctr2 (V := V_spec_l7Say) (tysB_ok tys_ok) (CallsL.nil _) mixed 0 3 Try.func58 rfl (by kernel_rfl)
    (fun c hc => by
      obtain rfl := Option.some.inj hc
      exact ⟨trivial, ⟨trivial, ⟨⟨trivial, ⟨trivial, trivial⟩⟩, ⟨trivial, trivial⟩⟩⟩⟩)
    (fun x K hp hk => ⟨_, by kernel_rfl, vF_spec_l7Say x.1 x.2 K hp (fun g h => hk g h)⟩)
end Go.Proofs.YtjladmhjpikdhaaE

/- Calls answer what is promised: H. Conditions: none. -/
set_option linter.unusedVariables false
namespace Go.Proofs.YtjladmhjpikdhaaE
open Go
theorem vF_laws_liBytes (a : List Int) (b : List Int) (K : List Arg → List (List AC) → Prop) (hp : a.length ≤ LIM ∧ True) (hk : ∀ (r : Bool), (r = decide (a = b)) → K ([rB.to r]) ([])) :
if (((((List.length a) : Nat) : Int) != (((List.length b) : Nat) : Int)) = true) then
   ((true = true) ∧
   (K [(aB false)] []))
  else
   (∃ s : (Prod (List Int) (Prod (List Int) Int)),
   ((St.mk (mkSlots 26 [(0, (T.v false [(Cm.d (D.r RK.u8 a))])), (1, (T.v false [(Cm.d (D.r RK.u8 b))])), (5, (num IntKind.i64 (0 : Int)))]) [] []) = (St.mk (mkSlots 26 [(0, (T.v false [(Cm.d (D.r RK.u8 s.fst))])), (1, (T.v false [(Cm.d (D.r RK.u8 s.snd.fst))])), (5, (num IntKind.i64 s.snd.snd))]) [] [])) ∧
   ((((List.length s.fst) = (List.length s.snd.fst)) ∧
     ((s.snd.snd = (0 : Int)) ∧
      (((List.length s.fst) ≤ (137438953472 : Nat)) ∧
       True))) ∧
    ((∀ r : Unit,
      (s.fst = s.snd.fst) →
      (true = true) ∧
      (K [(aB true)] [])) ∧
     (∀ r : Unit,
      (s.fst ≠ s.snd.fst) →
      (true = true) ∧
      (K [(aB false)] []))))) := by
  refine iteI (fun h => ?_) (fun h => ?_)
  · refine ⟨by trivial, hk false ?_⟩
    symm; rw [decide_eq_false_iff_not]; rintro rfl; simp at h
  · have h1 : a.length = b.length := by simp at h; omega
    refine ⟨(a, b, 0), rfl, ⟨h1, rfl, hp.1, hp.2⟩, fun _ hr => ⟨by trivial, hk true (by simp; exact hr)⟩, fun _ hr => ⟨by trivial, hk false (by simp; exact hr)⟩⟩
theorem vL_laws_liBytes_0 (a0 : List Int) (b0 : List Int) (i0 : Int) (a : List Int) (b : List Int) (i : Int) (n : Nat) (hp : (fun (a : List Int) (b : List Int) (i : Int) => (a.length = b.length ∧ i = 0 ∧ a.length ≤ LIM ∧ True)) a0 b0 i0) (hi : a = a0 ∧ b = b0 ∧ a.length = b.length ∧ a.length ≤ LIM ∧ (True) ∧ 0 ≤ i ∧ i + n = a.length ∧ a.take i.toNat = b.take i.toNat) :
if ((decide (i < (((List.length a) : Nat) : Int))) = true) then
   ((((0 : Int) ≤ i) ∧
    (i < (((List.length a) : Nat) : Int))) ∧
   ((((0 : Int) ≤ i) ∧
     (i < (((List.length b) : Nat) : Int))) ∧
    (if (((at_u8 a (Int.toNat i)) != (at_u8 b (Int.toNat i))) = true) then
      (∃ r : Unit,
      ((St.mk (mkSlots 26 [(4, (boo false))]) [] []) = (St.mk (mkSlots 26 [(4, (boo false))]) [] [])) ∧
      (a0 ≠ b0))
     else
      (∃ s : (Prod (List Int) (Prod (List Int) Int)),
      ((St.mk (mkSlots 26 [(0, (T.v false [(Cm.d (D.r RK.u8 a))])), (1, (T.v false [(Cm.d (D.r RK.u8 b))])), (5, (num IntKind.i64 (IntKind.wrap IntKind.i64 (i + (1 : Int)))))]) [] []) = (St.mk (mkSlots 26 [(0, (T.v false [(Cm.d (D.r RK.u8 s.fst))])), (1, (T.v false [(Cm.d (D.r RK.u8 s.snd.fst))])), (5, (num IntKind.i64 s.snd.snd))]) [] [])) ∧
      (∃ m : Nat,
       (m < n) ∧
       ((s.fst = a0) ∧
        ((s.snd.fst = b0) ∧
         (((List.length s.fst) = (List.length s.snd.fst)) ∧
          (((List.length s.fst) ≤ (137438953472 : Nat)) ∧
           (True ∧
            (((0 : Int) ≤ s.snd.snd) ∧
             (((s.snd.snd + ((m : Nat) : Int)) = (((List.length s.fst) : Nat) : Int)) ∧
              ((List.take (Int.toNat s.snd.snd) s.fst) = (List.take (Int.toNat s.snd.snd) s.snd.fst))))))))))))))
  else
   (∃ r : Unit,
   ((St.mk (mkSlots 26 []) [] []) = (St.mk (mkSlots 26 []) [] [])) ∧
   (a0 = b0)) := by
  try dsimp only at hp
  obtain ⟨rfl, rfl, h1, h2, hw, h3, h4, h5⟩ := hi
  have hL : a.length ≤ 137438953472 := h2
  obtain ⟨i, rfl⟩ : ∃ m : Nat, i = m := ⟨i.toNat, by omega⟩
  rw [wr (x := (i : Int) + 1) (by omega) (by omega)]
  simp only [Int.toNat_natCast] at h5 ⊢
  refine iteI (fun h => ?_) (fun h => ?_)
  · have hi : i < a.length := by simp at h; omega
    refine ⟨⟨by omega, by omega⟩, ⟨by omega, by omega⟩, ?_⟩
    have ea : a.take (i + 1) = a.take i ++ [at_u8 a i] := take_at .u8 a i hi
    have eb : b.take (i + 1) = b.take i ++ [at_u8 b i] := take_at .u8 b i (show i < b.length by omega)
    
    refine iteI (fun hx => ?_) (fun hx => ?_)
    · refine ⟨(), by trivial, fun he => ?_⟩
      simp [he] at hx
    · refine ⟨(a, b, (i : Int) + 1), rfl, n - 1, by omega, rfl, rfl, h1, h2, hw, by dsimp only; omega, by dsimp only; omega, ?_⟩
      dsimp only
      rw [show ((i : Int) + 1).toNat = i + 1 by omega, ea, eb, h5]
      simp at hx
      exact congrArg (fun z => List.take i b ++ [z]) hx
  · have hi : i = a.length := by simp at h; omega
    subst hi
    refine ⟨(), by trivial, ?_⟩
    rw [List.take_length, h1, List.take_length] at h5
    exact h5
theorem vS_laws_liBytes_0 (a0 : List Int) (b0 : List Int) (i0 : Int) (hp : (fun (a : List Int) (b : List Int) (i : Int) => (a.length = b.length ∧ i = 0 ∧ a.length ≤ LIM ∧ True)) a0 b0 i0) : ∃ n : Nat, (fun (a : List Int) (b : List Int) (i : Int) => (a = a0 ∧ b = b0 ∧ a.length = b.length ∧ a.length ≤ LIM ∧ (True) ∧ 0 ≤ i ∧ i + n = a.length ∧ a.take i.toNat = b.take i.toNat)) a0 b0 i0 := by
  try dsimp only at hp
  try dsimp only
  obtain ⟨h1, h2, h3, hw⟩ := hp
  exact ⟨a0.length, rfl, rfl, h1, h3, hw, by omega, by omega, by subst h2; simp⟩
theorem w_laws_liBytes : Valid Try.prog 53 c_laws_liBytes :=
  valid_ctr2 (V := V_laws_liBytes) (tysB_ok tys_ok) (CallsL.nil _) mixed 0 0 Try.func53 rfl (by kernel_rfl)
    (fun c hc => by
      obtain rfl := Option.some.inj hc
      exact ⟨trivial, ⟨⟨trivial, ⟨⟨trivial, trivial⟩, trivial⟩⟩, ⟨⟨trivial, ⟨LoopD.ok2 (V := V_laws_liBytes) l_laws_liBytes_0 (LoopsM.cons 0 l_laws_liBytes_0 LoopsM.nil) 0 _ i_laws_liBytes_0 (fun x hx => vS_laws_liBytes_0 x.1 x.2.1 x.2.2 hx) (fun x hx n s hi => ⟨_, by kernel_rfl, vL_laws_liBytes_0 x.1 x.2.1 x.2.2 s.1 s.2.1 s.2.2 n hx hi⟩), ⟨⟨trivial, ⟨trivial, trivial⟩⟩, ⟨⟨trivial, ⟨⟨trivial, trivial⟩, trivial⟩⟩, trivial⟩⟩⟩⟩, ⟨trivial, trivial⟩⟩⟩⟩)
    (fun x K hp hk => ⟨_, by kernel_rfl, vF_laws_liBytes x.1 x.2 K hp (fun r h => hk r h)⟩)
theorem vF_laws_liJoin (a : JoinS) (b : JoinS) (K : List Arg → List (List AC) → Prop) (hp : a.got.length ≤ LIM) (hk : ∀ (r : Bool), (r = decide (a = b)) → K ([rB.to r]) ([])) :
if ((a.len == b.len) = true) then
   ((true = true) ∧
   ((((List.length (Go.Proofs.YtjladmhjpikdhaaE.JoinS.got a)) ≤ (137438953472 : Nat)) ∧
     True) ∧
    (∀ r : Bool,
     (r = (decide ((Go.Proofs.YtjladmhjpikdhaaE.JoinS.got a) = (Go.Proofs.YtjladmhjpikdhaaE.JoinS.got b)))) →
     (true = true) ∧
     ((true = true) ∧
      (K [(aB r)] [])))))
  else
   ((true = true) ∧
   (K [(aB false)] [])) := by
  obtain ⟨_, _⟩ := a
  obtain ⟨_, _⟩ := b

  repeat' first
    | exact rfl
    | trivial
    | apply And.intro
    | (intro r hr; subst hr)
    | intro r
    | exact hp
    | (refine iteI (fun h => ?_) (fun h => ?_))
  all_goals first
    | exact ⟨hp, trivial⟩
    | exact hk _ (by grind [IntKind.wrap_i64])
    | omega
    | (simp only [LIM] at *; omega)
    | grind [IntKind.wrap_i64]
theorem w_laws_liJoin : Valid Try.prog 26 c_laws_liJoin :=
  valid_ctr2 (V := V_laws_liJoin) (tysB_ok tys_ok) (CallsL.cons w_laws_liBytes (CallsL.nil _)) mixed 0 2 Try.func26 rfl (by kernel_rfl)
    (fun c hc => by
      obtain rfl := Option.some.inj hc
      exact ⟨trivial, ⟨trivial, trivial⟩⟩)
    (fun x K hp hk => ⟨_, by kernel_rfl, vF_laws_liJoin x.1 x.2 K hp (fun r h => hk r h)⟩)
theorem vF_laws_liRx (a : RxS) (b : RxS) (K : List Arg → List (List AC) → Prop) (hp : a.join.got.length ≤ LIM) (hk : ∀ (r : Bool), (r = decide (a = b)) → K ([rB.to r]) ([])) :
if ((a.expect == b.expect) = true) then
   (if ((a.count == b.count) = true) then
    ((true = true) ∧
    (((List.length a.join.got) ≤ (137438953472 : Nat)) ∧
     (∀ r : Bool,
      (r = (decide (a.join = b.join))) →
      (true = true) ∧
      (if (r = true) then
        (if ((a.again == b.again) = true) then
         (if ((a.busy == b.busy) = true) then
          ((true = true) ∧
          (K [(aB (a.dead == b.dead))] []))
         else
          ((true = true) ∧
          (K [(aB false)] [])))
        else
         ((true = true) ∧
         (K [(aB false)] [])))
       else
        ((true = true) ∧
        (K [(aB false)] []))))))
   else
    ((true = true) ∧
    (K [(aB false)] [])))
  else
   ((true = true) ∧
   (K [(aB false)] [])) := by
  obtain ⟨_, _, ⟨_, _⟩, _, _, _⟩ := a
  obtain ⟨_, _, ⟨_, _⟩, _, _, _⟩ := b

  repeat' first
    | exact rfl
    | trivial
    | apply And.intro
    | (intro r hr; subst hr)
    | intro r
    | exact hp
    | (refine iteI (fun h => ?_) (fun h => ?_))
  all_goals first
    | exact hk _ (by grind [IntKind.wrap_i64])
    | omega
    | (simp only [LIM] at *; omega)
    | grind [IntKind.wrap_i64]
theorem w_laws_liRx : Valid Try.prog 23 c_laws_liRx :=
  valid_ctr2 (V := V_laws_liRx) (tysB_ok tys_ok) (CallsL.cons w_laws_liJoin (CallsL.nil _)) mixed 0 2 Try.func23 rfl (by kernel_rfl)
    (fun c hc => by
      obtain rfl := Option.some.inj hc
      exact ⟨trivial, ⟨trivial, trivial⟩⟩)
    (fun x K hp hk => ⟨_, by kernel_rfl, vF_laws_liRx x.1 x.2 K hp (fun r h => hk r h)⟩)
theorem vF_laws_liFrame (a : Frm) (b : Frm) (K : List Arg → List (List AC) → Prop) (hp : a.data.length ≤ LIM) (hk : ∀ (r : Bool), (r = decide (a = b)) → K ([rB.to r]) ([])) :
if ((a.kind == b.kind) = true) then
   (if ((a.seq == b.seq) = true) then
    (if ((a.ack == b.ack) = true) then
     (if ((a.poll == b.poll) = true) then
      (if ((a.final == b.final) = true) then
       (if ((a.say == b.say) = true) then
        (if ((a.seg == b.seg) = true) then
         (if ((a.len == b.len) = true) then
          ((true = true) ∧
          ((((List.length (Go.Proofs.YtjladmhjpikdhaaE.Frm.data a)) ≤ (137438953472 : Nat)) ∧
            True) ∧
           (∀ r : Bool,
            (r = (decide ((Go.Proofs.YtjladmhjpikdhaaE.Frm.data a) = (Go.Proofs.YtjladmhjpikdhaaE.Frm.data b)))) →
            (true = true) ∧
            ((true = true) ∧
             (K [(aB r)] [])))))
         else
          ((true = true) ∧
          (K [(aB false)] [])))
        else
         ((true = true) ∧
         (K [(aB false)] [])))
       else
        ((true = true) ∧
        (K [(aB false)] [])))
      else
       ((true = true) ∧
       (K [(aB false)] [])))
     else
      ((true = true) ∧
      (K [(aB false)] [])))
    else
     ((true = true) ∧
     (K [(aB false)] [])))
   else
    ((true = true) ∧
    (K [(aB false)] [])))
  else
   ((true = true) ∧
   (K [(aB false)] [])) := by
  obtain ⟨_, _, _, _, _, _, _, _, _⟩ := a
  obtain ⟨_, _, _, _, _, _, _, _, _⟩ := b

  repeat' first
    | exact rfl
    | trivial
    | apply And.intro
    | (intro r hr; subst hr)
    | intro r
    | exact hp
    | (refine iteI (fun h => ?_) (fun h => ?_))
  all_goals first
    | exact ⟨hp, trivial⟩
    | exact hk _ (by grind [IntKind.wrap_i64])
    | omega
    | (simp only [LIM] at *; omega)
    | grind [IntKind.wrap_i64]
theorem w_laws_liFrame : Valid Try.prog 15 c_laws_liFrame :=
  valid_ctr2 (V := V_laws_liFrame) (tysB_ok tys_ok) (CallsL.cons w_laws_liBytes (CallsL.nil _)) mixed 0 2 Try.func15 rfl (by kernel_rfl)
    (fun c hc => by
      obtain rfl := Option.some.inj hc
      exact ⟨trivial, ⟨trivial, trivial⟩⟩)
    (fun x K hp hk => ⟨_, by kernel_rfl, vF_laws_liFrame x.1 x.2 K hp (fun r h => hk r h)⟩)
theorem vF_laws_liFrames (a : List Frm) (b : List Frm) (K : List Arg → List (List AC) → Prop) (hp : a.length ≤ LIM ∧ ∀ y ∈ a, y.data.length ≤ LIM) (hk : ∀ (r : Bool), (r = decide (a = b)) → K ([rB.to r]) ([])) :
if (((((List.length a) : Nat) : Int) != (((List.length b) : Nat) : Int)) = true) then
   ((true = true) ∧
   (K [(aB false)] []))
  else
   (∃ s : (Prod (List Frm) (Prod (List Frm) Int)),
   ((St.mk (mkSlots 27 [(0, (T.v false [(Cm.d (D.r RK.frm a))])), (1, (T.v false [(Cm.d (D.r RK.frm b))])), (5, (num IntKind.i64 (0 : Int)))]) [] []) = (St.mk (mkSlots 27 [(0, (T.v false [(Cm.d (D.r RK.frm s.fst))])), (1, (T.v false [(Cm.d (D.r RK.frm s.snd.fst))])), (5, (num IntKind.i64 s.snd.snd))]) [] [])) ∧
   ((((List.length s.fst) = (List.length s.snd.fst)) ∧
     ((s.snd.snd = (0 : Int)) ∧
      (((List.length s.fst) ≤ (137438953472 : Nat)) ∧
       (∀ y : Frm,
        (List.Mem y s.fst) →
        ((List.length y.data) ≤ (137438953472 : Nat)))))) ∧
    ((∀ r : Unit,
      (s.fst = s.snd.fst) →
      (true = true) ∧
      (K [(aB true)] [])) ∧
     (∀ r : Unit,
      (s.fst ≠ s.snd.fst) →
      (true = true) ∧
      (K [(aB false)] []))))) := by
  refine iteI (fun h => ?_) (fun h => ?_)
  · refine ⟨by trivial, hk false ?_⟩
    symm; rw [decide_eq_false_iff_not]; rintro rfl; simp at h
  · have h1 : a.length = b.length := by simp at h; omega
    refine ⟨(a, b, 0), rfl, ⟨h1, rfl, hp.1, hp.2⟩, fun _ hr => ⟨by trivial, hk true (by simp; exact hr)⟩, fun _ hr => ⟨by trivial, hk false (by simp; exact hr)⟩⟩
theorem vL_laws_liFrames_0 (a0 : List Frm) (b0 : List Frm) (i0 : Int) (a : List Frm) (b : List Frm) (i : Int) (n : Nat) (hp : (fun (a : List Frm) (b : List Frm) (i : Int) => (a.length = b.length ∧ i = 0 ∧ a.length ≤ LIM ∧ ∀ y ∈ a, y.data.length ≤ LIM)) a0 b0 i0) (hi : a = a0 ∧ b = b0 ∧ a.length = b.length ∧ a.length ≤ LIM ∧ (∀ y ∈ a, y.data.length ≤ LIM) ∧ 0 ≤ i ∧ i + n = a.length ∧ a.take i.toNat = b.take i.toNat) :
if ((decide (i < (((List.length a) : Nat) : Int))) = true) then
   ((((0 : Int) ≤ i) ∧
    (i < (((List.length a) : Nat) : Int))) ∧
   ((((0 : Int) ≤ i) ∧
     (i < (((List.length b) : Nat) : Int))) ∧
    ((true = true) ∧
     (((List.length (at_frm a (Int.toNat i)).data) ≤ (137438953472 : Nat)) ∧
      (∀ r : Bool,
       (r = (decide ((at_frm a (Int.toNat i)) = (at_frm b (Int.toNat i))))) →
       (true = true) ∧
       ((true = true) ∧
        (if ((!r) = true) then
          (∃ r1 : Unit,
          ((St.mk (mkSlots 27 [(4, (boo false))]) [] []) = (St.mk (mkSlots 27 [(4, (boo false))]) [] [])) ∧
          (a0 ≠ b0))
         else
          (∃ s : (Prod (List Frm) (Prod (List Frm) Int)),
          ((St.mk (mkSlots 27 [(0, (T.v false [(Cm.d (D.r RK.frm a))])), (1, (T.v false [(Cm.d (D.r RK.frm b))])), (5, (num IntKind.i64 (IntKind.wrap IntKind.i64 (i + (1 : Int)))))]) [] []) = (St.mk (mkSlots 27 [(0, (T.v false [(Cm.d (D.r RK.frm s.fst))])), (1, (T.v false [(Cm.d (D.r RK.frm s.snd.fst))])), (5, (num IntKind.i64 s.snd.snd))]) [] [])) ∧
          (∃ m : Nat,
           (m < n) ∧
           ((s.fst = a0) ∧
            ((s.snd.fst = b0) ∧
             (((List.length s.fst) = (List.length s.snd.fst)) ∧
              (((List.length s.fst) ≤ (137438953472 : Nat)) ∧
               ((∀ y : Frm,
                 (List.Mem y s.fst) →
                 ((List.length y.data) ≤ (137438953472 : Nat))) ∧
                (((0 : Int) ≤ s.snd.snd) ∧
                 (((s.snd.snd + ((m : Nat) : Int)) = (((List.length s.fst) : Nat) : Int)) ∧
                  ((List.take (Int.toNat s.snd.snd) s.fst) = (List.take (Int.toNat s.snd.snd) s.snd.fst))))))))))))))))))
  else
   (∃ r : Unit,
   ((St.mk (mkSlots 27 []) [] []) = (St.mk (mkSlots 27 []) [] [])) ∧
   (a0 = b0)) := by
  try dsimp only at hp
  obtain ⟨rfl, rfl, h1, h2, hw, h3, h4, h5⟩ := hi
  have hL : a.length ≤ 137438953472 := h2
  obtain ⟨i, rfl⟩ : ∃ m : Nat, i = m := ⟨i.toNat, by omega⟩
  rw [wr (x := (i : Int) + 1) (by omega) (by omega)]
  simp only [Int.toNat_natCast] at h5 ⊢
  refine iteI (fun h => ?_) (fun h => ?_)
  · have hi : i < a.length := by simp at h; omega
    refine ⟨⟨by omega, by omega⟩, ⟨by omega, by omega⟩, by trivial, ?_⟩
    have ea : a.take (i + 1) = a.take i ++ [at_frm a i] := take_at .frm a i hi
    have eb : b.take (i + 1) = b.take i ++ [at_frm b i] := take_at .frm b i (show i < b.length by omega)
    refine ⟨hw _ (at_mem .frm a i hi), fun r hr => ?_⟩
    subst hr
    repeat refine ⟨by trivial, ?_⟩
    refine iteI (fun hx => ?_) (fun hx => ?_)
    · refine ⟨(), by trivial, fun he => ?_⟩
      simp [he] at hx
    · refine ⟨(a, b, (i : Int) + 1), rfl, n - 1, by omega, rfl, rfl, h1, h2, hw, by dsimp only; omega, by dsimp only; omega, ?_⟩
      dsimp only
      rw [show ((i : Int) + 1).toNat = i + 1 by omega, ea, eb, h5]
      simp at hx
      exact congrArg (fun z => List.take i b ++ [z]) hx
  · have hi : i = a.length := by simp at h; omega
    subst hi
    refine ⟨(), by trivial, ?_⟩
    rw [List.take_length, h1, List.take_length] at h5
    exact h5
theorem vS_laws_liFrames_0 (a0 : List Frm) (b0 : List Frm) (i0 : Int) (hp : (fun (a : List Frm) (b : List Frm) (i : Int) => (a.length = b.length ∧ i = 0 ∧ a.length ≤ LIM ∧ ∀ y ∈ a, y.data.length ≤ LIM)) a0 b0 i0) : ∃ n : Nat, (fun (a : List Frm) (b : List Frm) (i : Int) => (a = a0 ∧ b = b0 ∧ a.length = b.length ∧ a.length ≤ LIM ∧ (∀ y ∈ a, y.data.length ≤ LIM) ∧ 0 ≤ i ∧ i + n = a.length ∧ a.take i.toNat = b.take i.toNat)) a0 b0 i0 := by
  try dsimp only at hp
  try dsimp only
  obtain ⟨h1, h2, h3, hw⟩ := hp
  exact ⟨a0.length, rfl, rfl, h1, h3, hw, by omega, by omega, by subst h2; simp⟩
theorem w_laws_liFrames : Valid Try.prog 24 c_laws_liFrames :=
  valid_ctr2 (V := V_laws_liFrames) (tysB_ok tys_ok) (CallsL.cons w_laws_liFrame (CallsL.nil _)) mixed 0 0 Try.func24 rfl (by kernel_rfl)
    (fun c hc => by
      obtain rfl := Option.some.inj hc
      exact ⟨trivial, ⟨⟨trivial, ⟨⟨trivial, trivial⟩, trivial⟩⟩, ⟨⟨trivial, ⟨LoopD.ok2 (V := V_laws_liFrames) l_laws_liFrames_0 (LoopsM.cons 0 l_laws_liFrames_0 LoopsM.nil) 0 _ i_laws_liFrames_0 (fun x hx => vS_laws_liFrames_0 x.1 x.2.1 x.2.2 hx) (fun x hx n s hi => ⟨_, by kernel_rfl, vL_laws_liFrames_0 x.1 x.2.1 x.2.2 s.1 s.2.1 s.2.2 n hx hi⟩), ⟨⟨trivial, ⟨trivial, trivial⟩⟩, ⟨⟨trivial, ⟨⟨trivial, trivial⟩, trivial⟩⟩, trivial⟩⟩⟩⟩, ⟨trivial, trivial⟩⟩⟩⟩)
    (fun x K hp hk => ⟨_, by kernel_rfl, vF_laws_liFrames x.1 x.2 K hp (fun r h => hk r h)⟩)
theorem vF_laws_liOk  (K : List Arg → List (List AC) → Prop) (hp : True) (hk : ∀ (r : Bool), (r = true) → K ([rB.to r]) ([])) :
(true = true) ∧
  (True ∧
   (∀ r : Bool,
    (r = true) →
    (true = true) ∧
    ((true = true) ∧
     (K [(aB r)] [])))) := by
  exact ⟨by trivial, trivial, fun r hr => ⟨by trivial, by trivial, hk r hr⟩⟩
theorem w_laws_liOk : Valid Try.prog 18 c_laws_liOk :=
  valid_ctr2 (V := V_laws_liOk) (tysB_ok tys_ok) (CallsL.cons w_impl_CfgOk (CallsL.nil _)) mixed 0 0 Try.func18 rfl (by kernel_rfl)
    (fun c hc => by
      obtain rfl := Option.some.inj hc
      exact ⟨trivial, ⟨trivial, trivial⟩⟩)
    (fun x K hp hk => ⟨_, by kernel_rfl, vF_laws_liOk  K hp (fun r h => hk r h)⟩)
theorem vF_impl_RxState_copyOf (r : RxS) (K : List Arg → List (List AC) → Prop) (hp : r.join.got.length ≤ LIM) (hk : ∀ (x : RxS), (x = r) → K ([rRx.to x]) ([])) :
(true = true) ∧
  (((List.length (Go.Proofs.YtjladmhjpikdhaaE.JoinS.got (Go.Proofs.YtjladmhjpikdhaaE.RxS.join r))) ≤ (137438953472 : Nat)) ∧
   (∀ r1 : (List Int),
    (r1 = (Go.Proofs.YtjladmhjpikdhaaE.JoinS.got (Go.Proofs.YtjladmhjpikdhaaE.RxS.join r))) →
    (true = true) ∧
    ((true = true) ∧
     (K [(Arg.v true [(AC.d (D.i IntKind.i64 r.expect)), (AC.d (D.i IntKind.i64 r.count)), (AC.d (D.i IntKind.i64 r.join.len)), (AC.d (D.r RK.u8 r1)), (AC.d (D.b r.again)), (AC.d (D.b r.busy)), (AC.d (D.b r.dead))])] [])))) := by
  repeat' first
    | exact rfl
    | trivial
    | apply And.intro
    | (intro r hr; subst hr)
    | intro r
    | exact hp
    | (refine iteI (fun h => ?_) (fun h => ?_))
  all_goals first
    | exact hk r rfl
    | exact hk _ (by grind [IntKind.wrap_i64])
    | omega
    | (simp only [LIM] at *; omega)
    | grind [IntKind.wrap_i64]
theorem w_impl_RxState_copyOf : Valid Try.prog 68 c_impl_RxState_copyOf :=
  valid_ctr2 (V := V_impl_RxState_copyOf) (tysB_ok tys_ok) (CallsL.cons w_impl_clone_byte (CallsL.nil _)) mixed 0 2 Try.func68 rfl (by kernel_rfl)
    (fun c hc => by
      obtain rfl := Option.some.inj hc
      exact ⟨trivial, ⟨trivial, ⟨trivial, trivial⟩⟩⟩)
    (fun x K hp hk => ⟨_, by kernel_rfl, vF_impl_RxState_copyOf x K hp (fun x h => hk x h)⟩)
theorem vF_spec_l7Copy (r : RxS) (K : List Arg → List (List AC) → Prop) (hp : r.join.got.length ≤ LIM) (hk : ∀ (x : RxS), (x = r) → K ([rRx.to x]) ([])) :
(((0 : Nat) + (List.length r.join.got)) ≤ (137438953472 : Nat)) ∧
  ((true = true) ∧
   (K [(Arg.v true [(AC.d (D.i IntKind.i64 r.expect)), (AC.d (D.i IntKind.i64 r.count)), (AC.d (D.i IntKind.i64 r.join.len)), (AC.d (D.r RK.u8 (([] : (List Int)) ++ (Go.Proofs.YtjladmhjpikdhaaE.JoinS.got (Go.Proofs.YtjladmhjpikdhaaE.RxS.join r))))), (AC.d (D.b r.again)), (AC.d (D.b r.busy)), (AC.d (D.b r.dead))])] [])) := by
  repeat' first
    | exact rfl
    | trivial
    | apply And.intro
    | (intro r hr; subst hr)
    | intro r
    | exact hp
    | (refine iteI (fun h => ?_) (fun h => ?_))
  all_goals first
    | exact hk r rfl
    | exact hk _ (by grind [IntKind.wrap_i64])
    | omega
    | (simp only [LIM] at *; omega)
    | grind [IntKind.wrap_i64]
theorem w_spec_l7Copy : Valid Try.prog 69 c_spec_l7Copy :=
  valid_ctr2 (V := V_spec_l7Copy) (tysB_ok tys_ok) (CallsL.nil _) mixed 1 3 Try.func69 rfl (by kernel_rfl)
    (fun c hc => by
      obtain rfl := Option.some.inj hc
      exact ⟨trivial, ⟨trivial, ⟨trivial, ⟨trivial, trivial⟩⟩⟩⟩)
    (fun x K hp hk => ⟨_, by kernel_rfl, vF_spec_l7Copy x K hp (fun x h => hk x h)⟩)
theorem vF_impl_RxAck (r : RxS) (K : List Arg → List (List AC) → Prop) (hp : True) (hk : ∀ (f : Frm), (f = rxAck r) → K ([rFrm.to f]) ([])) :
(true = true) ∧
  (True ∧
   (∀ r1 : Bool,
    (r1 = (decide (RxP r))) →
    (true = true) ∧
    (if ((!r1) = true) then
      ((true = true) ∧
      (K [(Arg.v true [(AC.d (D.i IntKind.i64 (0 : Int))), (AC.d (D.i IntKind.i64 (0 : Int))), (AC.d (D.i IntKind.i64 (0 : Int))), (AC.d (D.b false)), (AC.d (D.b false)), (AC.d (D.i IntKind.i64 (0 : Int))), (AC.d (D.i IntKind.i64 (0 : Int))), (AC.d (D.i IntKind.i64 (0 : Int))), (AC.d (D.r RK.u8 ([] : (List Int))))])] []))
     else
      ((true = true) ∧
      (True ∧
       (∀ r2 : Int,
        (r2 = (goWait r.busy)) →
        (true = true) ∧
        ((true = true) ∧
         ((true = true) ∧
          (True ∧
           (∀ r3 : Frm,
            (r3 = (sayF r r2 false)) →
            (true = true) ∧
            ((true = true) ∧
             ((true = true) ∧
              ((true = true) ∧
               (K [(Arg.v true [(AC.d (D.i IntKind.i64 r3.kind)), (AC.d (D.i IntKind.i64 r3.seq)), (AC.d (D.i IntKind.i64 r3.ack)), (AC.d (D.b r3.poll)), (AC.d (D.b r3.final)), (AC.d (D.i IntKind.i64 r3.say)), (AC.d (D.i IntKind.i64 r3.seg)), (AC.d (D.i IntKind.i64 r3.len)), (AC.d (D.r RK.u8 r3.data))])] [])))))))))))))) := by
  repeat' first
    | exact rfl
    | trivial
    | apply And.intro
    | (intro r hr; subst hr)
    | intro r
    | exact hp
    | (refine iteI (fun h => ?_) (fun h => ?_))
  all_goals first
    | (have h := hk _ rfl
       unfold rxAck at h
       repeat' split at h
       all_goals first | exact h | (exfalso; grind []))
    | exact hk _ (by grind [rxAck, IntKind.wrap_i64])
    | omega
    | (simp only [LIM] at *; omega)
    | grind [rxAck, IntKind.wrap_i64]
theorem w_impl_RxAck : Valid Try.prog 14 c_impl_RxAck :=
  valid_ctr2 (V := V_impl_RxAck) (tysB_ok tys_ok) (CallsL.cons w_impl_RxOk (CallsL.cons w_impl_RxState_say (CallsL.cons w_impl_goOrWait (CallsL.nil _)))) mixed 0 2 Try.func14 rfl (by kernel_rfl)
    (fun c hc => by
      obtain rfl := Option.some.inj hc
      exact ⟨trivial, ⟨⟨trivial, ⟨⟨trivial, trivial⟩, trivial⟩⟩, ⟨trivial, trivial⟩⟩⟩)
    (fun x K hp hk => ⟨_, by kernel_rfl, vF_impl_RxAck x K hp (fun f h => hk f h)⟩)
theorem vF_impl_RxBusy (r : RxS) (b : Bool) (K : List Arg → List (List AC) → Prop) (hp : r.join.got.length ≤ LIM) (hk : ∀ (q : BusyR), (q = rxBusy r b) → K ([rRx.to q.r, (rR .frm).to q.says]) ([])) :
(true = true) ∧
  (True ∧
   (∀ r1 : Bool,
    (r1 = (decide (RxP r))) →
    (true = true) ∧
    (if ((!r1) = true) then
      ((true = true) ∧
      (K [(Arg.v true [(AC.d (D.i IntKind.i64 (0 : Int))), (AC.d (D.i IntKind.i64 (0 : Int))), (AC.d (D.i IntKind.i64 (0 : Int))), (AC.d (D.r RK.u8 ([] : (List Int)))), (AC.d (D.b false)), (AC.d (D.b false)), (AC.d (D.b false))]), (aR RK.frm ([] : (List Frm)))] []))
     else
      ((true = true) ∧
      (((List.length r.join.got) ≤ (137438953472 : Nat)) ∧
       (∀ r2 : RxS,
        (r2 = r) →
        (true = true) ∧
        (if ((r.busy == b) = true) then
          ((true = true) ∧
          (K [(Arg.v true [(AC.d (D.i IntKind.i64 r2.expect)), (AC.d (D.i IntKind.i64 r2.count)), (AC.d (D.i IntKind.i64 r2.join.len)), (AC.d (D.r RK.u8 r2.join.got)), (AC.d (D.b r2.again)), (AC.d (D.b r2.busy)), (AC.d (D.b r2.dead))]), (aR RK.frm ([] : (List Frm)))] []))
         else
          (if (r.dead = true) then
           ((true = true) ∧
           (K [(Arg.v true [(AC.d (D.i IntKind.i64 r2.expect)), (AC.d (D.i IntKind.i64 r2.count)), (AC.d (D.i IntKind.i64 r2.join.len)), (AC.d (D.r RK.u8 r2.join.got)), (AC.d (D.b r2.again)), (AC.d (D.b r2.busy)), (AC.d (D.b r2.dead))]), (aR RK.frm ([] : (List Frm)))] []))
          else
           ((true = true) ∧
           (True ∧
            (∀ r3 : Int,
             (r3 = (goWait b)) →
             (true = true) ∧
             ((true = true) ∧
              ((true = true) ∧
               (True ∧
                (∀ r4 : Frm,
                 (r4 = (sayF (RxS.mk r2.expect r2.count r2.join false b r2.dead) r3 false)) →
                 (true = true) ∧
                 ((true = true) ∧
                  ((true = true) ∧
                   ((true = true) ∧
                    (K [(Arg.v true [(AC.d (D.i IntKind.i64 r2.expect)), (AC.d (D.i IntKind.i64 r2.count)), (AC.d (D.i IntKind.i64 r2.join.len)), (AC.d (D.r RK.u8 r2.join.got)), (AC.d (D.b false)), (AC.d (D.b b)), (AC.d (D.b r2.dead))]), (aR RK.frm (r4 :: ([] : (List Frm))))] []))))))))))))))))))) := by
  repeat' first
    | exact rfl
    | trivial
    | apply And.intro
    | (intro r hr; subst hr)
    | intro r
    | exact hp
    | (refine iteI (fun h => ?_) (fun h => ?_))
  all_goals first
    | (have h := hk _ rfl
       unfold rxBusy at h
       repeat' split at h
       all_goals first | exact h | (exfalso; grind []))
    | exact hk _ (by grind [rxBusy, IntKind.wrap_i64])
    | omega
    | (simp only [LIM] at *; omega)
    | grind [rxBusy, IntKind.wrap_i64]
theorem w_impl_RxBusy : Valid Try.prog 21 c_impl_RxBusy :=
  valid_ctr2 (V := V_impl_RxBusy) (tysB_ok tys_ok) (CallsL.cons w_impl_RxOk (CallsL.cons w_impl_RxState_say (CallsL.cons w_impl_goOrWait (CallsL.cons w_impl_RxState_copyOf (CallsL.nil _))))) mixed 0 3 Try.func21 rfl (by kernel_rfl)
    (fun c hc => by
      obtain rfl := Option.some.inj hc
      exact ⟨trivial, ⟨⟨trivial, ⟨⟨trivial, trivial⟩, trivial⟩⟩, ⟨trivial, ⟨⟨trivial, ⟨⟨trivial, trivial⟩, trivial⟩⟩, ⟨trivial, ⟨trivial, trivial⟩⟩⟩⟩⟩⟩)
    (fun x K hp hk => ⟨_, by kernel_rfl, vF_impl_RxBusy x.1 x.2 K hp (fun q h => hk q h)⟩)
theorem vF_spec_RxAck (r : RxS) (K : List Arg → List (List AC) → Prop) (hp : True) (hk : ∀ (f : Frm), (f = rxAck r) → K ([rFrm.to f]) ([])) :
(true = true) ∧
  (True ∧
   (∀ r1 : Bool,
    (r1 = (decide (RxP r))) →
    (true = true) ∧
    (if ((!r1) = true) then
      ((true = true) ∧
      (K [(Arg.v true [(AC.d (D.i IntKind.i64 (0 : Int))), (AC.d (D.i IntKind.i64 (0 : Int))), (AC.d (D.i IntKind.i64 (0 : Int))), (AC.d (D.b false)), (AC.d (D.b false)), (AC.d (D.i IntKind.i64 (0 : Int))), (AC.d (D.i IntKind.i64 (0 : Int))), (AC.d (D.i IntKind.i64 (0 : Int))), (AC.d (D.r RK.u8 ([] : (List Int))))])] []))
     else
      ((true = true) ∧
      (True ∧
       (∀ r2 : Frm,
        (r2 = (sayF r (goWait r.busy) false)) →
        (true = true) ∧
        ((true = true) ∧
         (K [(Arg.v true [(AC.d (D.i IntKind.i64 r2.kind)), (AC.d (D.i IntKind.i64 r2.seq)), (AC.d (D.i IntKind.i64 r2.ack)), (AC.d (D.b r2.poll)), (AC.d (D.b r2.final)), (AC.d (D.i IntKind.i64 r2.say)), (AC.d (D.i IntKind.i64 r2.seg)), (AC.d (D.i IntKind.i64 r2.len)), (AC.d (D.r RK.u8 r2.data))])] [])))))))) := by
  repeat' first
    | exact rfl
    | trivial
    | apply And.intro
    | (intro r hr; subst hr)
    | intro r
    | exact hp
    | (refine iteI (fun h => ?_) (fun h => ?_))
  all_goals first
    | (have h := hk _ rfl
       unfold rxAck at h
       repeat' split at h
       all_goals first | exact h | (exfalso; grind []))
    | exact hk _ (by grind [rxAck, IntKind.wrap_i64])
    | omega
    | (simp only [LIM] at *; omega)
    | grind [rxAck, IntKind.wrap_i64]
theorem w_spec_RxAck : Valid Try.prog 16 c_spec_RxAck :=
  valid_ctr2 (V := V_spec_RxAck) (tysB_ok tys_ok) (CallsL.cons w_spec_RxOk (CallsL.cons w_spec_l7Say (CallsL.nil _))) mixed 0 2 Try.func16 rfl (by kernel_rfl)
    (fun c hc => by
      obtain rfl := Option.some.inj hc
      exact ⟨trivial, ⟨⟨trivial, ⟨⟨trivial, trivial⟩, trivial⟩⟩, ⟨trivial, trivial⟩⟩⟩)
    (fun x K hp hk => ⟨_, by kernel_rfl, vF_spec_RxAck x K hp (fun f h => hk f h)⟩)
theorem vF_spec_RxBusy (r : RxS) (b : Bool) (K : List Arg → List (List AC) → Prop) (hp : r.join.got.length ≤ LIM) (hk : ∀ (q : BusyR), (q = rxBusy r b) → K ([rRx.to q.r, (rR .frm).to q.says]) ([])) :
(true = true) ∧
  (True ∧
   (∀ r1 : Bool,
    (r1 = (decide (RxP r))) →
    (true = true) ∧
    (if ((!r1) = true) then
      ((true = true) ∧
      (K [(Arg.v true [(AC.d (D.i IntKind.i64 (0 : Int))), (AC.d (D.i IntKind.i64 (0 : Int))), (AC.d (D.i IntKind.i64 (0 : Int))), (AC.d (D.r RK.u8 ([] : (List Int)))), (AC.d (D.b false)), (AC.d (D.b false)), (AC.d (D.b false))]), (aR RK.frm ([] : (List Frm)))] []))
     else
      ((true = true) ∧
      (((List.length r.join.got) ≤ (137438953472 : Nat)) ∧
       (∀ r2 : RxS,
        (r2 = r) →
        (true = true) ∧
        (if ((r.busy == b) = true) then
          ((true = true) ∧
          (K [(Arg.v true [(AC.d (D.i IntKind.i64 r2.expect)), (AC.d (D.i IntKind.i64 r2.count)), (AC.d (D.i IntKind.i64 r2.join.len)), (AC.d (D.r RK.u8 r2.join.got)), (AC.d (D.b r2.again)), (AC.d (D.b r2.busy)), (AC.d (D.b r2.dead))]), (aR RK.frm ([] : (List Frm)))] []))
         else
          (if (r.dead = true) then
           ((true = true) ∧
           (K [(Arg.v true [(AC.d (D.i IntKind.i64 r2.expect)), (AC.d (D.i IntKind.i64 r2.count)), (AC.d (D.i IntKind.i64 r2.join.len)), (AC.d (D.r RK.u8 r2.join.got)), (AC.d (D.b r2.again)), (AC.d (D.b r2.busy)), (AC.d (D.b r2.dead))]), (aR RK.frm ([] : (List Frm)))] []))
          else
           ((true = true) ∧
           (True ∧
            (∀ r3 : Frm,
             (r3 = (sayF (RxS.mk r2.expect r2.count r2.join false b r2.dead) (goWait b) false)) →
             (true = true) ∧
             ((true = true) ∧
              ((true = true) ∧
               ((true = true) ∧
                (K [(Arg.v true [(AC.d (D.i IntKind.i64 r2.expect)), (AC.d (D.i IntKind.i64 r2.count)), (AC.d (D.i IntKind.i64 r2.join.len)), (AC.d (D.r RK.u8 r2.join.got)), (AC.d (D.b false)), (AC.d (D.b b)), (AC.d (D.b r2.dead))]), (aR RK.frm (r3 :: ([] : (List Frm))))] []))))))))))))))) := by
  repeat' first
    | exact rfl
    | trivial
    | apply And.intro
    | (intro r hr; subst hr)
    | intro r
    | exact hp
    | (refine iteI (fun h => ?_) (fun h => ?_))
  all_goals first
    | (have h := hk _ rfl
       unfold rxBusy at h
       repeat' split at h
       all_goals first | exact h | (exfalso; grind []))
    | exact hk _ (by grind [rxBusy, IntKind.wrap_i64])
    | omega
    | (simp only [LIM] at *; omega)
    | grind [rxBusy, IntKind.wrap_i64]
theorem w_spec_RxBusy : Valid Try.prog 22 c_spec_RxBusy :=
  valid_ctr2 (V := V_spec_RxBusy) (tysB_ok tys_ok) (CallsL.cons w_spec_RxOk (CallsL.cons w_spec_l7Say (CallsL.cons w_spec_l7Copy (CallsL.nil _)))) mixed 0 3 Try.func22 rfl (by kernel_rfl)
    (fun c hc => by
      obtain rfl := Option.some.inj hc
      exact ⟨trivial, ⟨⟨trivial, ⟨⟨trivial, trivial⟩, trivial⟩⟩, ⟨trivial, ⟨⟨trivial, ⟨⟨trivial, trivial⟩, trivial⟩⟩, ⟨trivial, ⟨trivial, ⟨trivial, trivial⟩⟩⟩⟩⟩⟩⟩)
    (fun x K hp hk => ⟨_, by kernel_rfl, vF_spec_RxBusy x.1 x.2 K hp (fun q h => hk q h)⟩)
end Go.Proofs.YtjladmhjpikdhaaE

/- Calls answer what is promised: C. Conditions: none. -/
set_option linter.unusedVariables false
namespace Go.Proofs.YtjladmhjpikdhaaE
open Go
theorem vF_spec_l20Open (l : List Int) (K : List Arg → List (List AC) → Prop) (hp : Bytes l) (hk : ∀ (q : RdS), (q = ⟨l.take 2000, 0⟩) → K ([rRd.to q]) ([])) :
if ((decide ((((List.length l) : Nat) : Int) > (2000 : Int))) = true) then
   ((((0 : Int) ≤ (0 : Int)) ∧
    (((0 : Int) ≤ (2000 : Int)) ∧
     ((2000 : Int) ≤ (((List.length l) : Nat) : Int)))) ∧
   ((true = true) ∧
    (K [(Arg.p [(AC.d (D.r RK.u8 (List.take (2000 : Nat) (List.drop (0 : Nat) l)))), (AC.d (D.i IntKind.i64 (0 : Int)))])] [])))
  else
   ((true = true) ∧
   (K [(Arg.p [(AC.d (D.r RK.u8 l)), (AC.d (D.i IntKind.i64 (0 : Int)))])] [])) := by
  split
  · rename_i h
    have h2 : l.length > 2000 := by simp at h; omega
    exact ⟨⟨by omega, by omega, by omega⟩, rfl, hk _ rfl⟩
  · rename_i h
    have h2 : l.length ≤ 2000 := by simp at h; omega
    refine ⟨rfl, hk ⟨l, 0⟩ ?_⟩
    rw [List.take_of_length_le h2]
theorem w_spec_l20Open : Valid Try.prog 55 c_spec_l20Open :=
  valid_ctr2 (V := V_spec_l20Open) (tysB_ok tys_ok) (CallsL.nil _) mixed 0 1 Try.func55 rfl (by kernel_rfl)
    (fun c hc => by
      obtain rfl := Option.some.inj hc
      exact ⟨trivial, ⟨⟨trivial, ⟨trivial, trivial⟩⟩, ⟨trivial, trivial⟩⟩⟩)
    (fun x K hp hk => ⟨_, by kernel_rfl, vF_spec_l20Open x K hp (fun q h => hk q h)⟩)
theorem vF_spec_l20Rd_pick (r : RdS) (n : Int) (K : List Arg → List (List AC) → Prop) (hp : RdOk r 1000000000 ∧ n ≤ 1000000000) (hk : ∀ (x : Int) (q : RdS), (q = ⟨r.b, r.p + 1⟩ ∧ 0 ≤ x ∧ (1 ≤ n → x < n) ∧ (n < 1 → x = 0)) → K ([rInt.to x]) ([(rdC q).map .d])) :
if ((decide (n < (1 : Int))) = true) then
   ((true = true) ∧
   (K [(aI IntKind.i64 (0 : Int))] [[(AC.d (D.r RK.u8 r.b)), (AC.d (D.i IntKind.i64 (IntKind.wrap IntKind.i64 (r.p + (1 : Int)))))]]))
  else
   (if (((((List.length r.b) : Nat) : Int) == (0 : Int)) = true) then
    ((true = true) ∧
    (K [(aI IntKind.i64 (0 : Int))] [[(AC.d (D.r RK.u8 r.b)), (AC.d (D.i IntKind.i64 (IntKind.wrap IntKind.i64 (r.p + (1 : Int)))))]]))
   else
    (if ((decide ((IntKind.wrap IntKind.i64 ((IntKind.wrap IntKind.i64 (r.p + (1 : Int))) - (1 : Int))) < (((List.length r.b) : Nat) : Int))) = true) then
     ((((0 : Int) ≤ (IntKind.wrap IntKind.i64 ((IntKind.wrap IntKind.i64 (r.p + (1 : Int))) - (1 : Int)))) ∧
      ((IntKind.wrap IntKind.i64 ((IntKind.wrap IntKind.i64 (r.p + (1 : Int))) - (1 : Int))) < (((List.length r.b) : Nat) : Int))) ∧
     ((n ≠ (0 : Int)) ∧
      ((true = true) ∧
       (K [(aI IntKind.i64 (Int.tmod (IntKind.wrap IntKind.i64 (at_u8 r.b (Int.toNat (IntKind.wrap IntKind.i64 ((IntKind.wrap IntKind.i64 (r.p + (1 : Int))) - (1 : Int)))))) n))] [[(AC.d (D.r RK.u8 r.b)), (AC.d (D.i IntKind.i64 (IntKind.wrap IntKind.i64 (r.p + (1 : Int)))))]]))))
    else
     (((((List.length r.b) : Nat) : Int) ≠ (0 : Int)) ∧
     ((((0 : Int) ≤ (Int.tmod (IntKind.wrap IntKind.i64 ((IntKind.wrap IntKind.i64 (r.p + (1 : Int))) - (1 : Int))) (((List.length r.b) : Nat) : Int))) ∧
       ((Int.tmod (IntKind.wrap IntKind.i64 ((IntKind.wrap IntKind.i64 (r.p + (1 : Int))) - (1 : Int))) (((List.length r.b) : Nat) : Int)) < (((List.length r.b) : Nat) : Int))) ∧
      (((((List.length r.b) : Nat) : Int) ≠ (0 : Int)) ∧
       ((((0 : Int) ≤ (Int.tmod (IntKind.wrap IntKind.i64 ((IntKind.wrap IntKind.i64 ((IntKind.wrap IntKind.i64 ((IntKind.wrap IntKind.i64 (r.p + (1 : Int))) - (1 : Int))) * (7 : Int))) + (3 : Int))) (((List.length r.b) : Nat) : Int))) ∧
         ((Int.tmod (IntKind.wrap IntKind.i64 ((IntKind.wrap IntKind.i64 ((IntKind.wrap IntKind.i64 ((IntKind.wrap IntKind.i64 (r.p + (1 : Int))) - (1 : Int))) * (7 : Int))) + (3 : Int))) (((List.length r.b) : Nat) : Int)) < (((List.length r.b) : Nat) : Int))) ∧
        (((((List.length r.b) : Nat) : Int) ≠ (0 : Int)) ∧
         (((64 : Int) ≠ (0 : Int)) ∧
          ((n ≠ (0 : Int)) ∧
           ((true = true) ∧
            (K [(aI IntKind.i64 (Int.tmod (bits BinOp.xor IntKind.i64 (IntKind.wrap IntKind.i64 ((IntKind.wrap IntKind.i64 ((IntKind.wrap IntKind.i64 ((IntKind.wrap IntKind.i64 ((IntKind.wrap IntKind.i64 (at_u8 r.b (Int.toNat (Int.tmod (IntKind.wrap IntKind.i64 ((IntKind.wrap IntKind.i64 (r.p + (1 : Int))) - (1 : Int))) (((List.length r.b) : Nat) : Int))))) * (131 : Int))) + (IntKind.wrap IntKind.i64 ((IntKind.wrap IntKind.i64 (at_u8 r.b (Int.toNat (Int.tmod (IntKind.wrap IntKind.i64 ((IntKind.wrap IntKind.i64 ((IntKind.wrap IntKind.i64 ((IntKind.wrap IntKind.i64 (r.p + (1 : Int))) - (1 : Int))) * (7 : Int))) + (3 : Int))) (((List.length r.b) : Nat) : Int))))) * (1117 : Int))))) + (IntKind.wrap IntKind.i64 ((IntKind.wrap IntKind.i64 ((IntKind.wrap IntKind.i64 (r.p + (1 : Int))) - (1 : Int))) * (29 : Int))))) + (IntKind.wrap IntKind.i64 ((IntKind.wrap IntKind.i64 (Int.tdiv (IntKind.wrap IntKind.i64 ((IntKind.wrap IntKind.i64 (r.p + (1 : Int))) - (1 : Int))) (((List.length r.b) : Nat) : Int))) * (53 : Int))))) (IntKind.wrap IntKind.i64 (Int.tdiv (IntKind.wrap IntKind.i64 ((IntKind.wrap IntKind.i64 ((IntKind.wrap IntKind.i64 ((IntKind.wrap IntKind.i64 ((IntKind.wrap IntKind.i64 (at_u8 r.b (Int.toNat (Int.tmod (IntKind.wrap IntKind.i64 ((IntKind.wrap IntKind.i64 (r.p + (1 : Int))) - (1 : Int))) (((List.length r.b) : Nat) : Int))))) * (131 : Int))) + (IntKind.wrap IntKind.i64 ((IntKind.wrap IntKind.i64 (at_u8 r.b (Int.toNat (Int.tmod (IntKind.wrap IntKind.i64 ((IntKind.wrap IntKind.i64 ((IntKind.wrap IntKind.i64 ((IntKind.wrap IntKind.i64 (r.p + (1 : Int))) - (1 : Int))) * (7 : Int))) + (3 : Int))) (((List.length r.b) : Nat) : Int))))) * (1117 : Int))))) + (IntKind.wrap IntKind.i64 ((IntKind.wrap IntKind.i64 ((IntKind.wrap IntKind.i64 (r.p + (1 : Int))) - (1 : Int))) * (29 : Int))))) + (IntKind.wrap IntKind.i64 ((IntKind.wrap IntKind.i64 (Int.tdiv (IntKind.wrap IntKind.i64 ((IntKind.wrap IntKind.i64 (r.p + (1 : Int))) - (1 : Int))) (((List.length r.b) : Nat) : Int))) * (53 : Int))))) (64 : Int)))) n))] [[(AC.d (D.r RK.u8 r.b)), (AC.d (D.i IntKind.i64 (IntKind.wrap IntKind.i64 (r.p + (1 : Int)))))]]))))))))))) := by
  obtain ⟨l, p⟩ := r
  obtain ⟨⟨hb, hl, h0, h1⟩, hn⟩ := hp
  dsimp only at hb hl h0 h1 hk ⊢
  rw [wr (x := p + 1) (by omega) (by omega), wr (x := p + 1 - 1) (by omega) (by omega), show p + 1 - 1 = p by omega]
  by_cases hn1 : n < 1
  · rw [if_pos (by simpa using hn1)]
    exact ⟨rfl, hk 0 ⟨l, p + 1⟩ ⟨rfl, by omega, fun h => by omega, fun _ => rfl⟩⟩
  · rw [if_neg (by simpa using hn1)]
    by_cases he : l.length = 0
    · rw [if_pos (by simp [he])]
      exact ⟨rfl, hk 0 ⟨l, p + 1⟩ ⟨rfl, by omega, fun h => by omega, fun _ => rfl⟩⟩
    · rw [if_neg (by simp; intro h; simp [h] at he)]
      have hr : ∀ i : Int, 0 ≤ at_u8 l i.toNat ∧ at_u8 l i.toNat ≤ 255 := fun i => hb.at_ i
      by_cases hp : p < (l.length : Int)
      · rw [if_pos (by simpa using hp)]
        obtain ⟨r1, r2⟩ := hr p
        rw [wr (by omega) (by omega)]
        exact ⟨⟨h0, hp⟩, by omega, rfl, hk _ ⟨l, p + 1⟩ ⟨rfl, Int.tmod_nonneg _ r1, fun _ => Int.tmod_lt_of_pos _ (by omega), fun h => by omega⟩⟩
      · rw [if_neg (by simpa using hp)]
        have e1 : Int.tmod p (l.length : Int) = p % (l.length : Int) := Int.tmod_eq_emod_of_nonneg h0
        have a1 := Int.emod_nonneg p (show (l.length : Int) ≠ 0 by omega)
        have a2 := Int.emod_lt_of_pos p (show 0 < (l.length : Int) by omega)
        rw [wr (x := p * 7) (by omega) (by omega), wr (x := p * 7 + 3) (by omega) (by omega)]
        have e2 : Int.tmod (p * 7 + 3) (l.length : Int) = (p * 7 + 3) % (l.length : Int) := Int.tmod_eq_emod_of_nonneg (by omega)
        have b1 := Int.emod_nonneg (p * 7 + 3) (show (l.length : Int) ≠ 0 by omega)
        have b2 := Int.emod_lt_of_pos (p * 7 + 3) (show 0 < (l.length : Int) by omega)
        rw [e1, e2]
        refine ⟨by omega, ⟨a1, a2⟩, by omega, ⟨b1, b2⟩, by omega, by omega, by omega, rfl, ?_⟩
        obtain ⟨c1, c2⟩ := hr (p % (l.length : Int))
        obtain ⟨d1, d2⟩ := hr ((p * 7 + 3) % (l.length : Int))
        have e3 : Int.tdiv p (l.length : Int) = p / (l.length : Int) := Int.tdiv_eq_ediv_of_nonneg h0
        have f1 : 0 ≤ p / (l.length : Int) := Int.ediv_nonneg h0 (by omega)
        have f2 : p / (l.length : Int) ≤ p := Int.ediv_le_self _ h0
        rw [e3]
        generalize at_u8 l (p % (l.length : Int)).toNat = x at c1 c2 ⊢
        generalize at_u8 l ((p * 7 + 3) % (l.length : Int)).toNat = y at d1 d2 ⊢
        generalize p / (l.length : Int) = z at f1 f2 ⊢
        rw [wr (x := x) (by omega) (by omega), wr (x := y) (by omega) (by omega), wr (x := z) (by omega) (by omega), wr (x := x * 131) (by omega) (by omega), wr (x := y * 1117) (by omega) (by omega),
          wr (x := x * 131 + y * 1117) (by omega) (by omega), wr (x := p * 29) (by omega) (by omega), wr (x := x * 131 + y * 1117 + p * 29) (by omega) (by omega), wr (x := z * 53) (by omega) (by omega),
          wr (x := x * 131 + y * 1117 + p * 29 + z * 53) (by omega) (by omega)]
        obtain ⟨t, ht⟩ : ∃ t : Nat, x * 131 + y * 1117 + p * 29 + z * 53 = (t : Int) := ⟨(x * 131 + y * 1117 + p * 29 + z * 53).toNat, by omega⟩
        have ht2 : t < 2 ^ 62 := by omega
        rw [ht, Int.tdiv_eq_ediv_of_nonneg (by omega), wr (x := (t : Int) / 64) (by omega) (by omega)]
        have h64 : ((t : Int) / 64) = ((t / 64 : Nat) : Int) := by omega
        rw [h64, xor64 t (t / 64) ht2 (by omega)]
        exact hk _ ⟨l, p + 1⟩ ⟨rfl, Int.tmod_nonneg _ (Int.natCast_nonneg _), fun _ => Int.tmod_lt_of_pos _ (by omega), fun h => by omega⟩
theorem w_spec_l20Rd_pick : Valid Try.prog 67 c_spec_l20Rd_pick :=
  valid_ctr2 (V := V_spec_l20Rd_pick) (tysB_ok tys_ok) (CallsL.nil _) mixed 0 0 Try.func67 rfl (by kernel_rfl)
    (fun c hc => by
      obtain rfl := Option.some.inj hc
      exact ⟨trivial, ⟨trivial, ⟨⟨trivial, ⟨⟨trivial, trivial⟩, trivial⟩⟩, ⟨trivial, ⟨⟨trivial, ⟨⟨trivial, trivial⟩, trivial⟩⟩, ⟨trivial, ⟨trivial, ⟨trivial, trivial⟩⟩⟩⟩⟩⟩⟩⟩)
    (fun x K hp hk => ⟨_, by kernel_rfl, vF_spec_l20Rd_pick x.1 x.2 K hp (fun x q h => hk (x, q) h)⟩)
end Go.Proofs.YtjladmhjpikdhaaE

/- Calls answer what is promised: D. Conditions: none. -/
set_option linter.unusedVariables false
namespace Go.Proofs.YtjladmhjpikdhaaE
open Go
theorem vF_spec_l20Bytes (r : RdS) (n : Int) (K : List Arg → List (List AC) → Prop) (hp : RdOk r 100000000 ∧ 0 ≤ n ∧ n ≤ 900) (hk : ∀ (l : List Int) (q : RdS), (Bytes l ∧ (l.length : Int) ≤ n ∧ RdOn r q (1 + 3 * n)) → K ([(rO 5 .u8).to l]) ([(rdC q).map .d])) :
(true = true) ∧
  ((((Bytes r.b) ∧
     (((List.length r.b) ≤ (2000 : Nat)) ∧
      (((0 : Int) ≤ r.p) ∧
       (r.p ≤ (1000000000 : Int))))) ∧
    ((IntKind.wrap IntKind.i64 (n + (1 : Int))) ≤ (1000000000 : Int))) ∧
   (∀ r1 : (Prod Int RdS),
    ((r1.snd = (RdS.mk r.b (r.p + (1 : Int)))) ∧ (((0 : Int) ≤ r1.fst) ∧ ((((1 : Int) ≤ (IntKind.wrap IntKind.i64 (n + (1 : Int)))) → (r1.fst < (IntKind.wrap IntKind.i64 (n + (1 : Int))))) ∧ (((IntKind.wrap IntKind.i64 (n + (1 : Int))) < (1 : Int)) → (r1.fst = (0 : Int)))))) →
    (true = true) ∧
    (∃ s : (Prod (List Int) (Prod Int RdS)),
     ((St.mk (mkSlots 30 [(0, (T.pb (0 : Nat) (0 : Nat) (0 : Nat))), (5, (T.v false [(Cm.ref (0 : Nat) (0 : Nat))])), (6, (num IntKind.i64 r1.fst))]) [(Row.mk (0 : Nat) (Option.some (RC.mk (5 : Nat) RK.u8 ([] : (List Int)))))] [(Box.mk (Min.min (0 : Nat) (1 : Nat)) (Option.some [(Cm.d (D.r RK.u8 r1.snd.b)), (Cm.d (D.i IntKind.i64 r1.snd.p))]))]) = (St.mk (mkSlots 30 [(0, (T.pb (0 : Nat) (0 : Nat) (0 : Nat))), (5, (T.v false [(Cm.ref (0 : Nat) (0 : Nat))])), (6, (num IntKind.i64 s.snd.fst))]) [(Row.mk (0 : Nat) (Option.some (RC.mk (5 : Nat) RK.u8 s.fst)))] [(Box.mk (0 : Nat) (Option.some [(Cm.d (D.r RK.u8 s.snd.snd.b)), (Cm.d (D.i IntKind.i64 s.snd.snd.p))]))])) ∧
     (((Bytes s.fst) ∧
       (((List.length s.fst) = (0 : Nat)) ∧
        (((0 : Int) ≤ s.snd.fst) ∧
         ((s.snd.fst ≤ (900 : Int)) ∧
          ((Bytes s.snd.snd.b) ∧
           (((List.length s.snd.snd.b) ≤ (2000 : Nat)) ∧
            (((0 : Int) ≤ s.snd.snd.p) ∧
             (s.snd.snd.p ≤ (200000000 : Int))))))))) ∧
      ((∀ r2 : (Prod (List Int) RdS),
        ((Bytes r2.fst) ∧ (((((List.length r2.fst) : Nat) : Int) = s.snd.fst) ∧ (RdOn s.snd.snd r2.snd ((3 : Int) * s.snd.fst)))) →
        (true = true) ∧
        (K [(Arg.v false [(AC.own (RC.mk (5 : Nat) RK.u8 r2.fst))])] [[(AC.d (D.r RK.u8 r2.snd.b)), (AC.d (D.i IntKind.i64 r2.snd.p))]])) ∧
       (∀ r2 : Empty,
        False →
        False)))))) := by
  obtain ⟨⟨g1, g2, g3, g4⟩, h1, h2⟩ := hp
  obtain ⟨b, p⟩ := r
  dsimp only at *
  rw [wr (x := n + 1) (by omega) (by omega)]
  refine ⟨rfl, ⟨⟨g1, g2, g3, by omega⟩, by omega⟩, fun ⟨x1, q1⟩ ⟨a1, a2, a3, _⟩ => ?_⟩
  dsimp only at a1 a2 a3 ⊢
  subst a1
  have a4 := a3 (by omega)
  refine ⟨rfl, ([], x1, ⟨b, p + 1⟩), rfl, ⟨.nil, rfl, a2, by dsimp only; omega, g1, g2, by dsimp only; omega, by dsimp only; omega⟩, fun ⟨o, q⟩ ⟨b1, b2, b3⟩ => ⟨rfl, hk o q ⟨b1, ?_, ?_⟩⟩, fun r h => h⟩
  · dsimp only at b2; omega
  · obtain ⟨d1, d2, d3⟩ := b3
    dsimp only at d1 d2 d3
    exact ⟨d1, by dsimp only; omega, by dsimp only; omega⟩
theorem vL_spec_l20Bytes_0 (o0 : List Int) (k0 : Int) (r0 : RdS) (o : List Int) (k : Int) (r : RdS) (n : Nat) (hp : (fun (o : List Int) (k : Int) (r : RdS) => (Bytes o ∧ o.length = 0 ∧ 0 ≤ k ∧ k ≤ 900 ∧ RdOk r 200000000)) o0 k0 r0) (hi : Bytes o ∧ (n : Int) = k ∧ (o.length : Int) = k0 - k ∧ k ≤ k0 ∧ k0 ≤ 900 ∧ RdOk r0 200000000 ∧ RdOn r0 r (3 * (k0 - k))) :
if ((decide (k > (0 : Int))) = true) then
   ((true = true) ∧
   ((((Bytes r.b) ∧
      (((List.length r.b) ≤ (2000 : Nat)) ∧
       (((0 : Int) ≤ r.p) ∧
        (r.p ≤ (1000000000 : Int))))) ∧
     ((256 : Int) ≤ (1000000000 : Int))) ∧
    (∀ r1 : (Prod Int RdS),
     ((r1.snd = (RdS.mk r.b (r.p + (1 : Int)))) ∧ (((0 : Int) ≤ r1.fst) ∧ ((((1 : Int) ≤ (256 : Int)) → (r1.fst < (256 : Int))) ∧ (((256 : Int) < (1 : Int)) → (r1.fst = (0 : Int)))))) →
     (true = true) ∧
     ((true = true) ∧
      ((((Bytes r1.snd.b) ∧
         (((List.length r1.snd.b) ≤ (2000 : Nat)) ∧
          (((0 : Int) ≤ r1.snd.p) ∧
           (r1.snd.p ≤ (1000000000 : Int))))) ∧
        ((4 : Int) ≤ (1000000000 : Int))) ∧
       (∀ r2 : (Prod Int RdS),
        ((r2.snd = (RdS.mk r1.snd.b (r1.snd.p + (1 : Int)))) ∧ (((0 : Int) ≤ r2.fst) ∧ ((((1 : Int) ≤ (4 : Int)) → (r2.fst < (4 : Int))) ∧ (((4 : Int) < (1 : Int)) → (r2.fst = (0 : Int)))))) →
        (true = true) ∧
        ((true = true) ∧
         ((((Bytes r2.snd.b) ∧
            (((List.length r2.snd.b) ≤ (2000 : Nat)) ∧
             (((0 : Int) ≤ r2.snd.p) ∧
              (r2.snd.p ≤ (1000000000 : Int))))) ∧
           ((3 : Int) ≤ (1000000000 : Int))) ∧
          (∀ r3 : (Prod Int RdS),
           ((r3.snd = (RdS.mk r2.snd.b (r2.snd.p + (1 : Int)))) ∧ (((0 : Int) ≤ r3.fst) ∧ ((((1 : Int) ≤ (3 : Int)) → (r3.fst < (3 : Int))) ∧ (((3 : Int) < (1 : Int)) → (r3.fst = (0 : Int)))))) →
           (true = true) ∧
           ((((0 : Int) ≤ r3.fst) ∧
             (r3.fst < (((List.length (r1.fst :: (r2.fst :: ((255 : Int) :: ([] : (List Int)))))) : Nat) : Int))) ∧
            ((((List.length o) + (List.length ((IntKind.wrap IntKind.u8 (at_i64 (r1.fst :: (r2.fst :: ((255 : Int) :: ([] : (List Int))))) (Int.toNat r3.fst))) :: ([] : (List Int))))) ≤ (137438953472 : Nat)) ∧
             (∃ s : (Prod (List Int) (Prod Int RdS)),
              ((St.mk (mkSlots 30 [(0, (T.pb (0 : Nat) (0 : Nat) (0 : Nat))), (5, (T.v false [(Cm.ref (0 : Nat) (0 : Nat))])), (6, (num IntKind.i64 (IntKind.wrap IntKind.i64 (k - (1 : Int)))))]) [(Row.mk (0 : Nat) (Option.some (RC.mk (5 : Nat) RK.u8 (o ++ ((IntKind.wrap IntKind.u8 (at_i64 (r1.fst :: (r2.fst :: ((255 : Int) :: ([] : (List Int))))) (Int.toNat r3.fst))) :: ([] : (List Int)))))))] [(Box.mk (Min.min (0 : Nat) (1 : Nat)) (Option.some [(Cm.d (D.r RK.u8 r3.snd.b)), (Cm.d (D.i IntKind.i64 r3.snd.p))]))]) = (St.mk (mkSlots 30 [(0, (T.pb (0 : Nat) (0 : Nat) (0 : Nat))), (5, (T.v false [(Cm.ref (0 : Nat) (0 : Nat))])), (6, (num IntKind.i64 s.snd.fst))]) [(Row.mk (0 : Nat) (Option.some (RC.mk (5 : Nat) RK.u8 s.fst)))] [(Box.mk (0 : Nat) (Option.some [(Cm.d (D.r RK.u8 s.snd.snd.b)), (Cm.d (D.i IntKind.i64 s.snd.snd.p))]))])) ∧
              (∃ m : Nat,
               (m < n) ∧
               ((Bytes s.fst) ∧
                ((((m : Nat) : Int) = s.snd.fst) ∧
                 (((((List.length s.fst) : Nat) : Int) = (k0 - s.snd.fst)) ∧
                  ((s.snd.fst ≤ k0) ∧
                   ((k0 ≤ (900 : Int)) ∧
                    (((Bytes r0.b) ∧
                      (((List.length r0.b) ≤ (2000 : Nat)) ∧
                       (((0 : Int) ≤ r0.p) ∧
                        (r0.p ≤ (200000000 : Int))))) ∧
                     ((s.snd.snd.b = r0.b) ∧
                      ((r0.p ≤ s.snd.snd.p) ∧
                       (s.snd.snd.p ≤ (r0.p + ((3 : Int) * (k0 - s.snd.fst)))))))))))))))))))))))))
  else
   (∃ r1 : (Prod (List Int) RdS),
   ((St.mk (mkSlots 30 [(0, (T.pb (0 : Nat) (0 : Nat) (0 : Nat))), (5, (T.v false [(Cm.ref (0 : Nat) (0 : Nat))]))]) [(Row.mk (0 : Nat) (Option.some (RC.mk (5 : Nat) RK.u8 o)))] [(Box.mk (Min.min (0 : Nat) (1 : Nat)) (Option.some [(Cm.d (D.r RK.u8 r.b)), (Cm.d (D.i IntKind.i64 r.p))]))]) = (St.mk (mkSlots 30 [(0, (T.pb (0 : Nat) (0 : Nat) (0 : Nat))), (5, (T.v false [(Cm.ref (0 : Nat) (0 : Nat))]))]) [(Row.mk (0 : Nat) (Option.some (RC.mk (5 : Nat) RK.u8 r1.fst)))] [(Box.mk (0 : Nat) (Option.some [(Cm.d (D.r RK.u8 r1.snd.b)), (Cm.d (D.i IntKind.i64 r1.snd.p))]))])) ∧
   ((Bytes r1.fst) ∧
    (((((List.length r1.fst) : Nat) : Int) = k0) ∧
     ((r1.snd.b = r0.b) ∧
      ((r0.p ≤ r1.snd.p) ∧
       (r1.snd.p ≤ (r0.p + ((3 : Int) * k0)))))))) := by
  try dsimp only at hp
  obtain ⟨h1, h2, h3, h4, h5, ⟨g1, g2, g3, g4⟩, e1, e2, e3⟩ := hi
  obtain ⟨b, p⟩ := r
  obtain ⟨b0, p0⟩ := r0
  dsimp only at *
  subst e1
  split
  · rename_i hk
    have hk : 0 < k := by simpa using hk
    refine ⟨rfl, ⟨⟨g1, g2, by omega, by omega⟩, by omega⟩, fun ⟨x1, q1⟩ ⟨a1, a2, a3, _⟩ => ?_⟩
    dsimp only at a1 a2 a3 ⊢
    subst a1
    refine ⟨rfl, rfl, ⟨⟨g1, g2, by dsimp only; omega, by dsimp only; omega⟩, by omega⟩, fun ⟨x2, q2⟩ ⟨b1, b2, b3, _⟩ => ?_⟩
    dsimp only at b1 b2 b3 ⊢
    subst b1
    refine ⟨rfl, rfl, ⟨⟨g1, g2, by dsimp only; omega, by dsimp only; omega⟩, by omega⟩, fun ⟨x3, q3⟩ ⟨c1, c2, c3, _⟩ => ?_⟩
    dsimp only at c1 c2 c3 ⊢
    subst c1
    have c4 := c3 (by omega)
    refine ⟨rfl, ⟨c2, by simp; omega⟩, by simp; omega, ?_⟩
    rw [wr8m, wr (by omega) (by omega)]
    generalize at_i64 [x1, x2, 255] x3.toNat = v
    exact ⟨(o ++ [v % 256], k - 1, ⟨b, p + 1 + 1 + 1⟩), rfl, n - 1, by omega, h1.snoc (by omega) (by omega), by dsimp only; omega, by simp; omega, by dsimp only; omega, h5, ⟨g1, g2, g3, g4⟩, rfl, by dsimp only; omega, by dsimp only; omega⟩
  · rename_i hk
    have hk : ¬ 0 < k := by simpa using hk
    exact ⟨(o, ⟨b, p⟩), rfl, h1, by dsimp only; omega, rfl, by dsimp only; omega, by dsimp only; omega⟩
theorem vS_spec_l20Bytes_0 (o0 : List Int) (k0 : Int) (r0 : RdS) (hp : (fun (o : List Int) (k : Int) (r : RdS) => (Bytes o ∧ o.length = 0 ∧ 0 ≤ k ∧ k ≤ 900 ∧ RdOk r 200000000)) o0 k0 r0) : ∃ n : Nat, (fun (o : List Int) (k : Int) (r : RdS) => (Bytes o ∧ (n : Int) = k ∧ (o.length : Int) = k0 - k ∧ k ≤ k0 ∧ k0 ≤ 900 ∧ RdOk r0 200000000 ∧ RdOn r0 r (3 * (k0 - k)))) o0 k0 r0 := by
  try dsimp only at hp
  try dsimp only
  obtain ⟨h1, h2, h3, h4, h5⟩ := hp
  exact ⟨k0.toNat, h1, by omega, by omega, by omega, by omega, h5, rfl, by omega, by omega⟩
theorem w_spec_l20Bytes : Valid Try.prog 98 c_spec_l20Bytes :=
  valid_ctr2 (V := V_spec_l20Bytes) (tysB_ok tys_ok) (CallsL.cons w_spec_l20Rd_pick (CallsL.nil _)) mixed 1 0 Try.func98 rfl (by kernel_rfl)
    (fun c hc => by
      obtain rfl := Option.some.inj hc
      exact ⟨trivial, ⟨trivial, ⟨⟨trivial, ⟨LoopD.ok2 (V := V_spec_l20Bytes) l_spec_l20Bytes_0 (LoopsM.cons 0 l_spec_l20Bytes_0 LoopsM.nil) 0 _ i_spec_l20Bytes_0 (fun x hx => vS_spec_l20Bytes_0 x.1 x.2.1 x.2.2 hx) (fun x hx n s hi => ⟨_, by kernel_rfl, vL_spec_l20Bytes_0 x.1 x.2.1 x.2.2 s.1 s.2.1 s.2.2 n hx hi⟩), ⟨⟨trivial, ⟨trivial, trivial⟩⟩, ⟨trivial, trivial⟩⟩⟩⟩, ⟨trivial, trivial⟩⟩⟩⟩)
    (fun x K hp hk => ⟨_, by kernel_rfl, vF_spec_l20Bytes x.1 x.2 K hp (fun l q h => hk (l, q) h)⟩)
end Go.Proofs.YtjladmhjpikdhaaE

/- Calls answer what is promised: J. Conditions: none. -/
set_option linter.unusedVariables false
set_option maxHeartbeats 4000000
namespace Go.Proofs.YtjladmhjpikdhaaE
open Go
theorem vF_spec_l20Rd_odd (r : RdS) (n : Int) (K : List Arg → List (List AC) → Prop) (hp : RdOk r 900000000 ∧ n ≤ 1000000000) (hk : ∀ (b : Bool) (q : RdS), (q.b = r.b ∧ r.p ≤ q.p ∧ q.p ≤ r.p + 1) → K ([rB.to b]) ([(rdC q).map .d])) :
if ((decide (n > (0 : Int))) = true) then
   ((true = true) ∧
   ((((Bytes r.b) ∧
      (((List.length r.b) ≤ (2000 : Nat)) ∧
       (((0 : Int) ≤ r.p) ∧
        (r.p ≤ (1000000000 : Int))))) ∧
     (n ≤ (1000000000 : Int))) ∧
    (∀ r1 : (Prod Int RdS),
     ((r1.snd = (RdS.mk r.b (r.p + (1 : Int)))) ∧ (((0 : Int) ≤ r1.fst) ∧ ((((1 : Int) ≤ n) → (r1.fst < n)) ∧ ((n < (1 : Int)) → (r1.fst = (0 : Int)))))) →
     (true = true) ∧
     ((true = true) ∧
      (K [(aB (r1.fst == (IntKind.wrap IntKind.i64 (n - (1 : Int)))))] [[(AC.d (D.r RK.u8 r1.snd.b)), (AC.d (D.i IntKind.i64 r1.snd.p))]])))))
  else
   ((true = true) ∧
   (K [(aB false)] [[(AC.d (D.r RK.u8 r.b)), (AC.d (D.i IntKind.i64 r.p))]])) := by
  repeat' first
    | exact rfl
    | trivial
    | apply And.intro
    | (show Bytes _; grind [RdOk, RdOn, Bytes.cons, Bytes.nil, Bytes.take])
    | (intro r hr; subst hr)
    | intro r
    | exact hp
    | (refine iteI (fun h => ?_) (fun h => ?_))
  all_goals try simp (disch := omega) only [wr] at *
  all_goals first
    | omega
    | exact hk _ ⟨_, _⟩ (by (try dsimp only); grind [RdOk, RdOn, Bytes.cons, Bytes.nil, Bytes.take])
    | grind [RdOk, RdOn, Bytes.cons, Bytes.nil, Bytes.take]
theorem w_spec_l20Rd_odd : Valid Try.prog 92 c_spec_l20Rd_odd :=
  valid_ctr2 (V := V_spec_l20Rd_odd) (tysB_ok tys_ok) (CallsL.cons w_spec_l20Rd_pick (CallsL.nil _)) mixed 0 0 Try.func92 rfl (by kernel_rfl)
    (fun c hc => by
      obtain rfl := Option.some.inj hc
      exact ⟨trivial, ⟨trivial, trivial⟩⟩)
    (fun x K hp hk => ⟨_, by kernel_rfl, vF_spec_l20Rd_odd x.1 x.2 K hp (fun b q h => hk (b, q) h)⟩)
theorem vF_spec_l20Join (r : RdS) (n : Int) (K : List Arg → List (List AC) → Prop) (hp : RdOk r 50000000 ∧ n ≤ 1000) (hk : ∀ (j : JoinS) (q : RdS), (Bytes j.got ∧ j.got.length ≤ 1000 ∧ RdOn r q 500) → K ([rJoin.to j]) ([(rdC q).map .d])) :
(true = true) ∧
  ((((Bytes r.b) ∧
     (((List.length r.b) ≤ (2000 : Nat)) ∧
      (((0 : Int) ≤ r.p) ∧
       (r.p ≤ (1000000000 : Int))))) ∧
    ((2 : Int) ≤ (1000000000 : Int))) ∧
   (∀ r1 : (Prod Int RdS),
    ((r1.snd = (RdS.mk r.b (r.p + (1 : Int)))) ∧ (((0 : Int) ≤ r1.fst) ∧ ((((1 : Int) ≤ (2 : Int)) → (r1.fst < (2 : Int))) ∧ (((2 : Int) < (1 : Int)) → (r1.fst = (0 : Int)))))) →
    (true = true) ∧
    (if ((r1.fst == (0 : Int)) = true) then
      ((true = true) ∧
      ((((Bytes r1.snd.b) ∧
         (((List.length r1.snd.b) ≤ (2000 : Nat)) ∧
          (((0 : Int) ≤ r1.snd.p) ∧
           (r1.snd.p ≤ (1000000000 : Int))))) ∧
        ((23 : Int) ≤ (1000000000 : Int))) ∧
       (∀ r2 : (Prod Int RdS),
        ((r2.snd = (RdS.mk r1.snd.b (r1.snd.p + (1 : Int)))) ∧ (((0 : Int) ≤ r2.fst) ∧ ((((1 : Int) ≤ (23 : Int)) → (r2.fst < (23 : Int))) ∧ (((23 : Int) < (1 : Int)) → (r2.fst = (0 : Int)))))) →
        (true = true) ∧
        ((true = true) ∧
         ((((Bytes r2.snd.b) ∧
            (((List.length r2.snd.b) ≤ (2000 : Nat)) ∧
             (((0 : Int) ≤ r2.snd.p) ∧
              (r2.snd.p ≤ (100000000 : Int))))) ∧
           (((0 : Int) ≤ (IntKind.wrap IntKind.i64 ((IntKind.wrap IntKind.i64 ((2 : Int) + r2.fst)) - (1 : Int)))) ∧
            ((IntKind.wrap IntKind.i64 ((IntKind.wrap IntKind.i64 ((2 : Int) + r2.fst)) - (1 : Int))) ≤ (900 : Int)))) ∧
          (∀ r3 : (Prod (List Int) RdS),
           ((Bytes r3.fst) ∧ (((((List.length r3.fst) : Nat) : Int) ≤ (IntKind.wrap IntKind.i64 ((IntKind.wrap IntKind.i64 ((2 : Int) + r2.fst)) - (1 : Int)))) ∧ (RdOn r2.snd r3.snd ((1 : Int) + ((3 : Int) * (IntKind.wrap IntKind.i64 ((IntKind.wrap IntKind.i64 ((2 : Int) + r2.fst)) - (1 : Int)))))))) →
           (true = true) ∧
           (if (((((List.length r3.fst) : Nat) : Int) == (0 : Int)) = true) then
             ((true = true) ∧
             ((((Bytes r3.snd.b) ∧
                (((List.length r3.snd.b) ≤ (2000 : Nat)) ∧
                 (((0 : Int) ≤ r3.snd.p) ∧
                  (r3.snd.p ≤ (900000000 : Int))))) ∧
               (n ≤ (1000000000 : Int))) ∧
              (∀ r4 : (Prod Bool RdS),
               ((r4.snd.b = r3.snd.b) ∧ ((r3.snd.p ≤ r4.snd.p) ∧ (r4.snd.p ≤ (r3.snd.p + (1 : Int))))) →
               (true = true) ∧
               (if (r4.fst = true) then
                 ((true = true) ∧
                 ((((Bytes r4.snd.b) ∧
                    (((List.length r4.snd.b) ≤ (2000 : Nat)) ∧
                     (((0 : Int) ≤ r4.snd.p) ∧
                      (r4.snd.p ≤ (1000000000 : Int))))) ∧
                   ((3 : Int) ≤ (1000000000 : Int))) ∧
                  (∀ r5 : (Prod Int RdS),
                   ((r5.snd = (RdS.mk r4.snd.b (r4.snd.p + (1 : Int)))) ∧ (((0 : Int) ≤ r5.fst) ∧ ((((1 : Int) ≤ (3 : Int)) → (r5.fst < (3 : Int))) ∧ (((3 : Int) < (1 : Int)) → (r5.fst = (0 : Int)))))) →
                   (true = true) ∧
                   (if ((r5.fst == (0 : Int)) = true) then
                     ((true = true) ∧
                     ((((Bytes r5.snd.b) ∧
                        (((List.length r5.snd.b) ≤ (2000 : Nat)) ∧
                         (((0 : Int) ≤ r5.snd.p) ∧
                          (r5.snd.p ≤ (1000000000 : Int))))) ∧
                       ((3 : Int) ≤ (1000000000 : Int))) ∧
                      (∀ r6 : (Prod Int RdS),
                       ((r6.snd = (RdS.mk r5.snd.b (r5.snd.p + (1 : Int)))) ∧ (((0 : Int) ≤ r6.fst) ∧ ((((1 : Int) ≤ (3 : Int)) → (r6.fst < (3 : Int))) ∧ (((3 : Int) < (1 : Int)) → (r6.fst = (0 : Int)))))) →
                       (true = true) ∧
                       ((((0 : Int) ≤ r6.fst) ∧
                         (r6.fst < (3 : Int))) ∧
                        ((true = true) ∧
                         (K [(Arg.v true [(AC.d (D.i IntKind.i64 (at_i64 ((-1 : Int) :: ((1 : Int) :: ((25 : Int) :: ([] : (List Int)) : (List Int)) : (List Int)) : (List Int)) (Int.toNat r6.fst)))), (AC.d (D.r RK.u8 ((1 : Int) :: ([] : (List Int)) : (List Int))))])] [[(AC.d (D.r RK.u8 r6.snd.b)), (AC.d (D.i IntKind.i64 r6.snd.p))]]))))))
                    else
                     (if ((r5.fst == (1 : Int)) = true) then
                      ((true = true) ∧
                      (K [(Arg.v true [(AC.d (D.i IntKind.i64 (IntKind.wrap IntKind.i64 ((2 : Int) + r2.fst)))), (AC.d (D.r RK.u8 ([] : (List Int))))])] [[(AC.d (D.r RK.u8 r5.snd.b)), (AC.d (D.i IntKind.i64 r5.snd.p))]]))
                     else
                      ((true = true) ∧
                      ((((Bytes r5.snd.b) ∧
                         (((List.length r5.snd.b) ≤ (2000 : Nat)) ∧
                          (((0 : Int) ≤ r5.snd.p) ∧
                           (r5.snd.p ≤ (100000000 : Int))))) ∧
                        (((0 : Int) ≤ (25 : Int)) ∧
                         ((25 : Int) ≤ (900 : Int)))) ∧
                       (∀ r6 : (Prod (List Int) RdS),
                        ((Bytes r6.fst) ∧ (((((List.length r6.fst) : Nat) : Int) ≤ (25 : Int)) ∧ (RdOn r5.snd r6.snd ((1 : Int) + ((3 : Int) * (25 : Int)))))) →
                        (true = true) ∧
                        ((true = true) ∧
                         (K [(Arg.v true [(AC.d (D.i IntKind.i64 (IntKind.wrap IntKind.i64 ((2 : Int) + r2.fst)))), (AC.d (D.r RK.u8 r6.fst))])] [[(AC.d (D.r RK.u8 r6.snd.b)), (AC.d (D.i IntKind.i64 r6.snd.p))]]))))))))))
                else
                 ((true = true) ∧
                 (K [(Arg.v true [(AC.d (D.i IntKind.i64 (IntKind.wrap IntKind.i64 ((2 : Int) + r2.fst)))), (AC.d (D.r RK.u8 ((1 : Int) :: ([] : (List Int)) : (List Int))))])] [[(AC.d (D.r RK.u8 r4.snd.b)), (AC.d (D.i IntKind.i64 r4.snd.p))]]))))))
            else
             ((true = true) ∧
             ((((Bytes r3.snd.b) ∧
                (((List.length r3.snd.b) ≤ (2000 : Nat)) ∧
                 (((0 : Int) ≤ r3.snd.p) ∧
                  (r3.snd.p ≤ (900000000 : Int))))) ∧
               (n ≤ (1000000000 : Int))) ∧
              (∀ r4 : (Prod Bool RdS),
               ((r4.snd.b = r3.snd.b) ∧ ((r3.snd.p ≤ r4.snd.p) ∧ (r4.snd.p ≤ (r3.snd.p + (1 : Int))))) →
               (true = true) ∧
               (if (r4.fst = true) then
                 ((true = true) ∧
                 ((((Bytes r4.snd.b) ∧
                    (((List.length r4.snd.b) ≤ (2000 : Nat)) ∧
                     (((0 : Int) ≤ r4.snd.p) ∧
                      (r4.snd.p ≤ (1000000000 : Int))))) ∧
                   ((3 : Int) ≤ (1000000000 : Int))) ∧
                  (∀ r5 : (Prod Int RdS),
                   ((r5.snd = (RdS.mk r4.snd.b (r4.snd.p + (1 : Int)))) ∧ (((0 : Int) ≤ r5.fst) ∧ ((((1 : Int) ≤ (3 : Int)) → (r5.fst < (3 : Int))) ∧ (((3 : Int) < (1 : Int)) → (r5.fst = (0 : Int)))))) →
                   (true = true) ∧
                   (if ((r5.fst == (0 : Int)) = true) then
                     ((true = true) ∧
                     ((((Bytes r5.snd.b) ∧
                        (((List.length r5.snd.b) ≤ (2000 : Nat)) ∧
                         (((0 : Int) ≤ r5.snd.p) ∧
                          (r5.snd.p ≤ (1000000000 : Int))))) ∧
                       ((3 : Int) ≤ (1000000000 : Int))) ∧
                      (∀ r6 : (Prod Int RdS),
                       ((r6.snd = (RdS.mk r5.snd.b (r5.snd.p + (1 : Int)))) ∧ (((0 : Int) ≤ r6.fst) ∧ ((((1 : Int) ≤ (3 : Int)) → (r6.fst < (3 : Int))) ∧ (((3 : Int) < (1 : Int)) → (r6.fst = (0 : Int)))))) →
                       (true = true) ∧
                       ((((0 : Int) ≤ r6.fst) ∧
                         (r6.fst < (3 : Int))) ∧
                        ((true = true) ∧
                         (K [(Arg.v true [(AC.d (D.i IntKind.i64 (at_i64 ((-1 : Int) :: ((1 : Int) :: ((25 : Int) :: ([] : (List Int)) : (List Int)) : (List Int)) : (List Int)) (Int.toNat r6.fst)))), (AC.d (D.r RK.u8 r3.fst))])] [[(AC.d (D.r RK.u8 r6.snd.b)), (AC.d (D.i IntKind.i64 r6.snd.p))]]))))))
                    else
                     (if ((r5.fst == (1 : Int)) = true) then
                      ((true = true) ∧
                      (K [(Arg.v true [(AC.d (D.i IntKind.i64 (IntKind.wrap IntKind.i64 ((2 : Int) + r2.fst)))), (AC.d (D.r RK.u8 ([] : (List Int))))])] [[(AC.d (D.r RK.u8 r5.snd.b)), (AC.d (D.i IntKind.i64 r5.snd.p))]]))
                     else
                      ((true = true) ∧
                      ((((Bytes r5.snd.b) ∧
                         (((List.length r5.snd.b) ≤ (2000 : Nat)) ∧
                          (((0 : Int) ≤ r5.snd.p) ∧
                           (r5.snd.p ≤ (100000000 : Int))))) ∧
                        (((0 : Int) ≤ (25 : Int)) ∧
                         ((25 : Int) ≤ (900 : Int)))) ∧
                       (∀ r6 : (Prod (List Int) RdS),
                        ((Bytes r6.fst) ∧ (((((List.length r6.fst) : Nat) : Int) ≤ (25 : Int)) ∧ (RdOn r5.snd r6.snd ((1 : Int) + ((3 : Int) * (25 : Int)))))) →
                        (true = true) ∧
                        ((true = true) ∧
                         (K [(Arg.v true [(AC.d (D.i IntKind.i64 (IntKind.wrap IntKind.i64 ((2 : Int) + r2.fst)))), (AC.d (D.r RK.u8 r6.fst))])] [[(AC.d (D.r RK.u8 r6.snd.b)), (AC.d (D.i IntKind.i64 r6.snd.p))]]))))))))))
                else
                 ((true = true) ∧
                 (K [(Arg.v true [(AC.d (D.i IntKind.i64 (IntKind.wrap IntKind.i64 ((2 : Int) + r2.fst)))), (AC.d (D.r RK.u8 r3.fst))])] [[(AC.d (D.r RK.u8 r4.snd.b)), (AC.d (D.i IntKind.i64 r4.snd.p))]])))))))))))))
     else
      ((true = true) ∧
      ((((Bytes r1.snd.b) ∧
         (((List.length r1.snd.b) ≤ (2000 : Nat)) ∧
          (((0 : Int) ≤ r1.snd.p) ∧
           (r1.snd.p ≤ (900000000 : Int))))) ∧
        (n ≤ (1000000000 : Int))) ∧
       (∀ r2 : (Prod Bool RdS),
        ((r2.snd.b = r1.snd.b) ∧ ((r1.snd.p ≤ r2.snd.p) ∧ (r2.snd.p ≤ (r1.snd.p + (1 : Int))))) →
        (true = true) ∧
        (if (r2.fst = true) then
          ((true = true) ∧
          ((((Bytes r2.snd.b) ∧
             (((List.length r2.snd.b) ≤ (2000 : Nat)) ∧
              (((0 : Int) ≤ r2.snd.p) ∧
               (r2.snd.p ≤ (1000000000 : Int))))) ∧
            ((3 : Int) ≤ (1000000000 : Int))) ∧
           (∀ r3 : (Prod Int RdS),
            ((r3.snd = (RdS.mk r2.snd.b (r2.snd.p + (1 : Int)))) ∧ (((0 : Int) ≤ r3.fst) ∧ ((((1 : Int) ≤ (3 : Int)) → (r3.fst < (3 : Int))) ∧ (((3 : Int) < (1 : Int)) → (r3.fst = (0 : Int)))))) →
            (true = true) ∧
            (if ((r3.fst == (0 : Int)) = true) then
              ((true = true) ∧
              ((((Bytes r3.snd.b) ∧
                 (((List.length r3.snd.b) ≤ (2000 : Nat)) ∧
                  (((0 : Int) ≤ r3.snd.p) ∧
                   (r3.snd.p ≤ (1000000000 : Int))))) ∧
                ((3 : Int) ≤ (1000000000 : Int))) ∧
               (∀ r4 : (Prod Int RdS),
                ((r4.snd = (RdS.mk r3.snd.b (r3.snd.p + (1 : Int)))) ∧ (((0 : Int) ≤ r4.fst) ∧ ((((1 : Int) ≤ (3 : Int)) → (r4.fst < (3 : Int))) ∧ (((3 : Int) < (1 : Int)) → (r4.fst = (0 : Int)))))) →
                (true = true) ∧
                ((((0 : Int) ≤ r4.fst) ∧
                  (r4.fst < (3 : Int))) ∧
                 ((true = true) ∧
                  (K [(Arg.v true [(AC.d (D.i IntKind.i64 (at_i64 ((-1 : Int) :: ((1 : Int) :: ((25 : Int) :: ([] : (List Int)) : (List Int)) : (List Int)) : (List Int)) (Int.toNat r4.fst)))), (AC.d (D.r RK.u8 ([] : (List Int))))])] [[(AC.d (D.r RK.u8 r4.snd.b)), (AC.d (D.i IntKind.i64 r4.snd.p))]]))))))
             else
              (if ((r3.fst == (1 : Int)) = true) then
               ((true = true) ∧
               (K [(Arg.v true [(AC.d (D.i IntKind.i64 (0 : Int))), (AC.d (D.r RK.u8 ([] : (List Int))))])] [[(AC.d (D.r RK.u8 r3.snd.b)), (AC.d (D.i IntKind.i64 r3.snd.p))]]))
              else
               ((true = true) ∧
               ((((Bytes r3.snd.b) ∧
                  (((List.length r3.snd.b) ≤ (2000 : Nat)) ∧
                   (((0 : Int) ≤ r3.snd.p) ∧
                    (r3.snd.p ≤ (100000000 : Int))))) ∧
                 (((0 : Int) ≤ (25 : Int)) ∧
                  ((25 : Int) ≤ (900 : Int)))) ∧
                (∀ r4 : (Prod (List Int) RdS),
                 ((Bytes r4.fst) ∧ (((((List.length r4.fst) : Nat) : Int) ≤ (25 : Int)) ∧ (RdOn r3.snd r4.snd ((1 : Int) + ((3 : Int) * (25 : Int)))))) →
                 (true = true) ∧
                 ((true = true) ∧
                  (K [(Arg.v true [(AC.d (D.i IntKind.i64 (0 : Int))), (AC.d (D.r RK.u8 r4.fst))])] [[(AC.d (D.r RK.u8 r4.snd.b)), (AC.d (D.i IntKind.i64 r4.snd.p))]]))))))))))
         else
          ((true = true) ∧
          (K [(Arg.v true [(AC.d (D.i IntKind.i64 (0 : Int))), (AC.d (D.r RK.u8 ([] : (List Int))))])] [[(AC.d (D.r RK.u8 r2.snd.b)), (AC.d (D.i IntKind.i64 r2.snd.p))]]))))))))) := by
  repeat' first
    | exact rfl
    | trivial
    | apply And.intro
    | (show Bytes _; grind [RdOk, RdOn, Bytes.cons, Bytes.nil, Bytes.take])
    | (intro r hr; subst hr)
    | intro r
    | exact hp
    | (refine iteI (fun h => ?_) (fun h => ?_))
  all_goals try simp (disch := omega) only [wr] at *
  all_goals first
    | omega
    | exact hk ⟨_, _⟩ ⟨_, _⟩ (by (try dsimp only); grind [RdOk, RdOn, Bytes.cons, Bytes.nil, Bytes.take])
    | grind [RdOk, RdOn, Bytes.cons, Bytes.nil, Bytes.take]
theorem w_spec_l20Join : Valid Try.prog 91 c_spec_l20Join :=
  valid_ctr2 (V := V_spec_l20Join) (tysB_ok tys_ok) (CallsL.cons w_spec_l20Rd_pick (CallsL.cons w_spec_l20Rd_odd (CallsL.cons w_spec_l20Bytes (CallsL.nil _)))) mixed 0 2 Try.func91 rfl (by kernel_rfl)
    (fun c hc => by
      obtain rfl := Option.some.inj hc
      exact ⟨trivial, ⟨trivial, ⟨⟨trivial, ⟨⟨trivial, ⟨trivial, ⟨⟨trivial, ⟨trivial, trivial⟩⟩, trivial⟩⟩⟩, trivial⟩⟩, ⟨⟨trivial, ⟨⟨trivial, ⟨trivial, ⟨trivial, ⟨trivial, ⟨trivial, trivial⟩⟩⟩⟩⟩, trivial⟩⟩, ⟨trivial, trivial⟩⟩⟩⟩⟩)
    (fun x K hp hk => ⟨_, by kernel_rfl, vF_spec_l20Join x.1 x.2 K hp (fun j q h => hk (j, q) h)⟩)
theorem vF_spec_l20Rx (r : RdS) (n : Int) (K : List Arg → List (List AC) → Prop) (hp : RdOk r 40000000 ∧ n ≤ 1000) (hk : ∀ (x : RxS) (q : RdS), (Bytes x.join.got ∧ x.join.got.length ≤ 1000 ∧ RdOn r q 2000) → K ([rRx.to x]) ([(rdC q).map .d])) :
(true = true) ∧
  ((((Bytes r.b) ∧
     (((List.length r.b) ≤ (2000 : Nat)) ∧
      (((0 : Int) ≤ r.p) ∧
       (r.p ≤ (1000000000 : Int))))) ∧
    ((40 : Int) ≤ (1000000000 : Int))) ∧
   (∀ r1 : (Prod Int RdS),
    ((r1.snd = (RdS.mk r.b (r.p + (1 : Int)))) ∧ (((0 : Int) ≤ r1.fst) ∧ ((((1 : Int) ≤ (40 : Int)) → (r1.fst < (40 : Int))) ∧ (((40 : Int) < (1 : Int)) → (r1.fst = (0 : Int)))))) →
    (true = true) ∧
    (((8 : Int) ≠ (0 : Int)) ∧
     ((true = true) ∧
      ((((Bytes r1.snd.b) ∧
         (((List.length r1.snd.b) ≤ (2000 : Nat)) ∧
          (((0 : Int) ≤ r1.snd.p) ∧
           (r1.snd.p ≤ (50000000 : Int))))) ∧
        ((0 : Int) ≤ (1000 : Int))) ∧
       (∀ r2 : (Prod JoinS RdS),
        ((Bytes r2.fst.got) ∧ (((List.length r2.fst.got) ≤ (1000 : Nat)) ∧ (RdOn r1.snd r2.snd (500 : Int)))) →
        (true = true) ∧
        ((true = true) ∧
         ((((Bytes r2.snd.b) ∧
            (((List.length r2.snd.b) ≤ (2000 : Nat)) ∧
             (((0 : Int) ≤ r2.snd.p) ∧
              (r2.snd.p ≤ (1000000000 : Int))))) ∧
           ((3 : Int) ≤ (1000000000 : Int))) ∧
          (∀ r3 : (Prod Int RdS),
           ((r3.snd = (RdS.mk r2.snd.b (r2.snd.p + (1 : Int)))) ∧ (((0 : Int) ≤ r3.fst) ∧ ((((1 : Int) ≤ (3 : Int)) → (r3.fst < (3 : Int))) ∧ (((3 : Int) < (1 : Int)) → (r3.fst = (0 : Int)))))) →
           (true = true) ∧
           ((true = true) ∧
            ((((Bytes r3.snd.b) ∧
               (((List.length r3.snd.b) ≤ (2000 : Nat)) ∧
                (((0 : Int) ≤ r3.snd.p) ∧
                 (r3.snd.p ≤ (1000000000 : Int))))) ∧
              ((4 : Int) ≤ (1000000000 : Int))) ∧
             (∀ r4 : (Prod Int RdS),
              ((r4.snd = (RdS.mk r3.snd.b (r3.snd.p + (1 : Int)))) ∧ (((0 : Int) ≤ r4.fst) ∧ ((((1 : Int) ≤ (4 : Int)) → (r4.fst < (4 : Int))) ∧ (((4 : Int) < (1 : Int)) → (r4.fst = (0 : Int)))))) →
              (true = true) ∧
              ((true = true) ∧
               ((((Bytes r4.snd.b) ∧
                  (((List.length r4.snd.b) ≤ (2000 : Nat)) ∧
                   (((0 : Int) ≤ r4.snd.p) ∧
                    (r4.snd.p ≤ (1000000000 : Int))))) ∧
                 ((12 : Int) ≤ (1000000000 : Int))) ∧
                (∀ r5 : (Prod Int RdS),
                 ((r5.snd = (RdS.mk r4.snd.b (r4.snd.p + (1 : Int)))) ∧ (((0 : Int) ≤ r5.fst) ∧ ((((1 : Int) ≤ (12 : Int)) → (r5.fst < (12 : Int))) ∧ (((12 : Int) < (1 : Int)) → (r5.fst = (0 : Int)))))) →
                 (true = true) ∧
                 ((true = true) ∧
                  ((((Bytes r5.snd.b) ∧
                     (((List.length r5.snd.b) ≤ (2000 : Nat)) ∧
                      (((0 : Int) ≤ r5.snd.p) ∧
                       (r5.snd.p ≤ (900000000 : Int))))) ∧
                    (n ≤ (1000000000 : Int))) ∧
                   (∀ r6 : (Prod Bool RdS),
                    ((r6.snd.b = r5.snd.b) ∧ ((r5.snd.p ≤ r6.snd.p) ∧ (r6.snd.p ≤ (r5.snd.p + (1 : Int))))) →
                    (true = true) ∧
                    (if (r6.fst = true) then
                      ((true = true) ∧
                      ((((Bytes r6.snd.b) ∧
                         (((List.length r6.snd.b) ≤ (2000 : Nat)) ∧
                          (((0 : Int) ≤ r6.snd.p) ∧
                           (r6.snd.p ≤ (1000000000 : Int))))) ∧
                        ((3 : Int) ≤ (1000000000 : Int))) ∧
                       (∀ r7 : (Prod Int RdS),
                        ((r7.snd = (RdS.mk r6.snd.b (r6.snd.p + (1 : Int)))) ∧ (((0 : Int) ≤ r7.fst) ∧ ((((1 : Int) ≤ (3 : Int)) → (r7.fst < (3 : Int))) ∧ (((3 : Int) < (1 : Int)) → (r7.fst = (0 : Int)))))) →
                        (true = true) ∧
                        (if ((r7.fst == (0 : Int)) = true) then
                          ((true = true) ∧
                          ((((0 : Int) ≤ (Int.tmod r1.fst (8 : Int))) ∧
                            ((Int.tmod r1.fst (8 : Int)) ≤ (100000 : Int))) ∧
                           (∀ r8 : Int,
                            (r8 = (((Int.tmod r1.fst (8 : Int)) + (1 : Int)) % (8 : Int))) →
                            (true = true) ∧
                            ((true = true) ∧
                             ((((Bytes r7.snd.b) ∧
                                (((List.length r7.snd.b) ≤ (2000 : Nat)) ∧
                                 (((0 : Int) ≤ r7.snd.p) ∧
                                  (r7.snd.p ≤ (1000000000 : Int))))) ∧
                               ((3 : Int) ≤ (1000000000 : Int))) ∧
                              (∀ r9 : (Prod Int RdS),
                               ((r9.snd = (RdS.mk r7.snd.b (r7.snd.p + (1 : Int)))) ∧ (((0 : Int) ≤ r9.fst) ∧ ((((1 : Int) ≤ (3 : Int)) → (r9.fst < (3 : Int))) ∧ (((3 : Int) < (1 : Int)) → (r9.fst = (0 : Int)))))) →
                               (true = true) ∧
                               ((((0 : Int) ≤ r9.fst) ∧
                                 (r9.fst < (((List.length ((-1 : Int) :: ((8 : Int) :: (r8 :: ([] : (List Int)) : (List Int)) : (List Int)) : (List Int))) : Nat) : Int))) ∧
                                ((true = true) ∧
                                 (K [(Arg.v true [(AC.d (D.i IntKind.i64 (at_i64 ((-1 : Int) :: ((8 : Int) :: (r8 :: ([] : (List Int)) : (List Int)) : (List Int)) : (List Int)) (Int.toNat r9.fst)))), (AC.d (D.i IntKind.i64 r1.fst)), (AC.d (D.i IntKind.i64 r2.fst.len)), (AC.d (D.r RK.u8 r2.fst.got)), (AC.d (D.b (r3.fst == (0 : Int)))), (AC.d (D.b (r4.fst == (0 : Int)))), (AC.d (D.b (r5.fst == (0 : Int))))])] [[(AC.d (D.r RK.u8 r9.snd.b)), (AC.d (D.i IntKind.i64 r9.snd.p))]])))))))))
                         else
                          (if ((r7.fst == (1 : Int)) = true) then
                           (((true = true) ∧
                            (((true = true) ∧
                              ((true = true) ∧
                               ((((Bytes r7.snd.b) ∧
                                  (((List.length r7.snd.b) ≤ (2000 : Nat)) ∧
                                   (((0 : Int) ≤ r7.snd.p) ∧
                                    (r7.snd.p ≤ (1000000000 : Int))))) ∧
                                 ((3 : Int) ≤ (1000000000 : Int))) ∧
                                (∀ r8 : (Prod Int RdS),
                                 ((r8.snd = (RdS.mk r7.snd.b (r7.snd.p + (1 : Int)))) ∧ (((0 : Int) ≤ r8.fst) ∧ ((((1 : Int) ≤ (3 : Int)) → (r8.fst < (3 : Int))) ∧ (((3 : Int) < (1 : Int)) → (r8.fst = (0 : Int)))))) →
                                 (true = true) ∧
                                 ((true = true) ∧
                                  ((((0 : Int) ≤ r8.fst) ∧
                                    (r8.fst < (((List.length ((-1 : Int) :: ((10000 : Int) :: ((IntKind.wrap IntKind.i64 (r1.fst + (8 : Int))) :: ([] : (List Int)) : (List Int)) : (List Int)) : (List Int))) : Nat) : Int))) ∧
                                   ((true = true) ∧
                                    ((true = true) ∧
                                     ((true = true) ∧
                                      (K [(Arg.v true [(AC.d (D.i IntKind.i64 (Int.tmod r1.fst (8 : Int)))), (AC.d (D.i IntKind.i64 (at_i64 ((-1 : Int) :: ((10000 : Int) :: ((IntKind.wrap IntKind.i64 (r1.fst + (8 : Int))) :: ([] : (List Int)) : (List Int)) : (List Int)) : (List Int)) (Int.toNat r8.fst)))), (AC.d (D.i IntKind.i64 r2.fst.len)), (AC.d (D.r RK.u8 r2.fst.got)), (AC.d (D.b (r3.fst == (0 : Int)))), (AC.d (D.b (r4.fst == (0 : Int)))), (AC.d (D.b (r5.fst == (0 : Int))))])] [[(AC.d (D.r RK.u8 r8.snd.b)), (AC.d (D.i IntKind.i64 r8.snd.p))]])))))))))) ∧
                             ((true = true) ∧
                              ((((Bytes r7.snd.b) ∧
                                 (((List.length r7.snd.b) ≤ (2000 : Nat)) ∧
                                  (((0 : Int) ≤ r7.snd.p) ∧
                                   (r7.snd.p ≤ (1000000000 : Int))))) ∧
                                ((3 : Int) ≤ (1000000000 : Int))) ∧
                               (∀ r8 : (Prod Int RdS),
                                ((r8.snd = (RdS.mk r7.snd.b (r7.snd.p + (1 : Int)))) ∧ (((0 : Int) ≤ r8.fst) ∧ ((((1 : Int) ≤ (3 : Int)) → (r8.fst < (3 : Int))) ∧ (((3 : Int) < (1 : Int)) → (r8.fst = (0 : Int)))))) →
                                (true = true) ∧
                                ((true = true) ∧
                                 ((true = true) ∧
                                  ((((0 : Int) ≤ r8.fst) ∧
                                    (r8.fst < (((List.length ((-1 : Int) :: ((10000 : Int) :: ((IntKind.wrap IntKind.i64 (r1.fst + (8 : Int))) :: ([] : (List Int)) : (List Int)) : (List Int)) : (List Int))) : Nat) : Int))) ∧
                                   ((true = true) ∧
                                    ((true = true) ∧
                                     ((true = true) ∧
                                      (K [(Arg.v true [(AC.d (D.i IntKind.i64 (Int.tmod r1.fst (8 : Int)))), (AC.d (D.i IntKind.i64 (at_i64 ((-1 : Int) :: ((10000 : Int) :: ((IntKind.wrap IntKind.i64 (r1.fst + (8 : Int))) :: ([] : (List Int)) : (List Int)) : (List Int)) : (List Int)) (Int.toNat r8.fst)))), (AC.d (D.i IntKind.i64 r2.fst.len)), (AC.d (D.r RK.u8 r2.fst.got)), (AC.d (D.b (r3.fst == (0 : Int)))), (AC.d (D.b (r4.fst == (0 : Int)))), (AC.d (D.b (r5.fst == (0 : Int))))])] [[(AC.d (D.r RK.u8 r8.snd.b)), (AC.d (D.i IntKind.i64 r8.snd.p))]])))))))))))) ∧
                           ((true = true) ∧
                            ((((Bytes r7.snd.b) ∧
                               (((List.length r7.snd.b) ≤ (2000 : Nat)) ∧
                                (((0 : Int) ≤ r7.snd.p) ∧
                                 (r7.snd.p ≤ (1000000000 : Int))))) ∧
                              ((3 : Int) ≤ (1000000000 : Int))) ∧
                             (∀ r8 : (Prod Int RdS),
                              ((r8.snd = (RdS.mk r7.snd.b (r7.snd.p + (1 : Int)))) ∧ (((0 : Int) ≤ r8.fst) ∧ ((((1 : Int) ≤ (3 : Int)) → (r8.fst < (3 : Int))) ∧ (((3 : Int) < (1 : Int)) → (r8.fst = (0 : Int)))))) →
                              (true = true) ∧
                              ((true = true) ∧
                               ((true = true) ∧
                                ((true = true) ∧
                                 ((((0 : Int) ≤ r8.fst) ∧
                                   (r8.fst < (((List.length ((-1 : Int) :: ((10000 : Int) :: ((IntKind.wrap IntKind.i64 (r1.fst + (8 : Int))) :: ([] : (List Int)) : (List Int)) : (List Int)) : (List Int))) : Nat) : Int))) ∧
                                  ((true = true) ∧
                                   ((true = true) ∧
                                    ((true = true) ∧
                                     (K [(Arg.v true [(AC.d (D.i IntKind.i64 (Int.tmod r1.fst (8 : Int)))), (AC.d (D.i IntKind.i64 (at_i64 ((-1 : Int) :: ((10000 : Int) :: ((IntKind.wrap IntKind.i64 (r1.fst + (8 : Int))) :: ([] : (List Int)) : (List Int)) : (List Int)) : (List Int)) (Int.toNat r8.fst)))), (AC.d (D.i IntKind.i64 r2.fst.len)), (AC.d (D.r RK.u8 r2.fst.got)), (AC.d (D.b (r3.fst == (0 : Int)))), (AC.d (D.b (r4.fst == (0 : Int)))), (AC.d (D.b (r5.fst == (0 : Int))))])] [[(AC.d (D.r RK.u8 r8.snd.b)), (AC.d (D.i IntKind.i64 r8.snd.p))]]))))))))))))
                          else
                           ((true = true) ∧
                           ((((Bytes r7.snd.b) ∧
                              (((List.length r7.snd.b) ≤ (2000 : Nat)) ∧
                               (((0 : Int) ≤ r7.snd.p) ∧
                                (r7.snd.p ≤ (50000000 : Int))))) ∧
                             ((1 : Int) ≤ (1000 : Int))) ∧
                            (∀ r8 : (Prod JoinS RdS),
                             ((Bytes r8.fst.got) ∧ (((List.length r8.fst.got) ≤ (1000 : Nat)) ∧ (RdOn r7.snd r8.snd (500 : Int)))) →
                             (true = true) ∧
                             ((true = true) ∧
                              (K [(Arg.v true [(AC.d (D.i IntKind.i64 (Int.tmod r1.fst (8 : Int)))), (AC.d (D.i IntKind.i64 r1.fst)), (AC.d (D.i IntKind.i64 r8.fst.len)), (AC.d (D.r RK.u8 r8.fst.got)), (AC.d (D.b (r3.fst == (0 : Int)))), (AC.d (D.b (r4.fst == (0 : Int)))), (AC.d (D.b (r5.fst == (0 : Int))))])] [[(AC.d (D.r RK.u8 r8.snd.b)), (AC.d (D.i IntKind.i64 r8.snd.p))]]))))))))))
                     else
                      ((true = true) ∧
                      (K [(Arg.v true [(AC.d (D.i IntKind.i64 (Int.tmod r1.fst (8 : Int)))), (AC.d (D.i IntKind.i64 r1.fst)), (AC.d (D.i IntKind.i64 r2.fst.len)), (AC.d (D.r RK.u8 r2.fst.got)), (AC.d (D.b (r3.fst == (0 : Int)))), (AC.d (D.b (r4.fst == (0 : Int)))), (AC.d (D.b (r5.fst == (0 : Int))))])] [[(AC.d (D.r RK.u8 r6.snd.b)), (AC.d (D.i IntKind.i64 r6.snd.p))]]))))))))))))))))))))) := by
  repeat' first
    | exact rfl
    | trivial
    | apply And.intro
    | (show Bytes _; grind [RdOk, RdOn, Bytes.cons, Bytes.nil, Bytes.take])
    | (intro r hr; subst hr)
    | intro r
    | exact hp
    | (refine iteI (fun h => ?_) (fun h => ?_))
  all_goals try simp (disch := omega) only [wr] at *
  all_goals first
    | omega
    | exact hk ⟨_, _, ⟨_, _⟩, _, _, _⟩ ⟨_, _⟩ (by (try dsimp only); grind [RdOk, RdOn, Bytes.cons, Bytes.nil, Bytes.take])
    | grind [RdOk, RdOn, Bytes.cons, Bytes.nil, Bytes.take]
theorem w_spec_l20Rx : Valid Try.prog 54 c_spec_l20Rx :=
  valid_ctr2 (V := V_spec_l20Rx) (tysB_ok tys_ok) (CallsL.cons w_spec_l20Rd_pick (CallsL.cons w_spec_l20Join (CallsL.cons w_spec_l20Rd_odd (CallsL.cons w_spec_NumNext (CallsL.nil _))))) mixed 0 2 Try.func54 rfl (by kernel_rfl)
    (fun c hc => by
      obtain rfl := Option.some.inj hc
      exact ⟨trivial, ⟨trivial, ⟨trivial, ⟨⟨trivial, ⟨⟨trivial, ⟨trivial, ⟨trivial, ⟨trivial, ⟨trivial, trivial⟩⟩⟩⟩⟩, trivial⟩⟩, ⟨trivial, trivial⟩⟩⟩⟩⟩)
    (fun x K hp hk => ⟨_, by kernel_rfl, vF_spec_l20Rx x.1 x.2 K hp (fun x q h => hk (x, q) h)⟩)
theorem vF_spec_DrawRxAck (l : List Int) (K : List Arg → List (List AC) → Prop) (hp : Bytes l) (hk : ∀ (x : RxS), (Bytes x.join.got ∧ x.join.got.length ≤ 1000) → K ([rRx.to x]) ([])) :
(true = true) ∧
  ((Bytes l) ∧
   (∀ r : RdS,
    (r = (RdS.mk (List.take (2000 : Nat) l) (0 : Int))) →
    (true = true) ∧
    ((true = true) ∧
     ((((Bytes r.b) ∧
        (((List.length r.b) ≤ (2000 : Nat)) ∧
         (((0 : Int) ≤ r.p) ∧
          (r.p ≤ (40000000 : Int))))) ∧
       ((6 : Int) ≤ (1000 : Int))) ∧
      (∀ r1 : (Prod RxS RdS),
       ((Bytes r1.fst.join.got) ∧ (((List.length r1.fst.join.got) ≤ (1000 : Nat)) ∧ (RdOn r r1.snd (2000 : Int)))) →
       (true = true) ∧
       ((true = true) ∧
        (K [(Arg.v true [(AC.d (D.i IntKind.i64 r1.fst.expect)), (AC.d (D.i IntKind.i64 r1.fst.count)), (AC.d (D.i IntKind.i64 r1.fst.join.len)), (AC.d (D.r RK.u8 r1.fst.join.got)), (AC.d (D.b r1.fst.again)), (AC.d (D.b r1.fst.busy)), (AC.d (D.b r1.fst.dead))])] []))))))) := by
  repeat' first
    | exact rfl
    | trivial
    | apply And.intro
    | (show Bytes _; grind [RdOk, RdOn, Bytes.cons, Bytes.nil, Bytes.take])
    | (intro r hr; subst hr)
    | intro r
    | exact hp
    | (refine iteI (fun h => ?_) (fun h => ?_))
  all_goals try simp (disch := omega) only [wr] at *
  all_goals first
    | omega
    | exact hk ⟨_, _, ⟨_, _⟩, _, _, _⟩ (by (try dsimp only); grind [RdOk, RdOn, Bytes.cons, Bytes.nil, Bytes.take])
    | grind [RdOk, RdOn, Bytes.cons, Bytes.nil, Bytes.take]
theorem w_spec_DrawRxAck : Valid Try.prog 13 c_spec_DrawRxAck :=
  valid_ctr2 (V := V_spec_DrawRxAck) (tysB_ok tys_ok) (CallsL.cons w_spec_l20Rx (CallsL.cons w_spec_l20Open (CallsL.nil _))) mixed 0 2 Try.func13 rfl (by kernel_rfl)
    (fun c hc => by
      obtain rfl := Option.some.inj hc
      exact ⟨trivial, ⟨trivial, trivial⟩⟩)
    (fun x K hp hk => ⟨_, by kernel_rfl, vF_spec_DrawRxAck x K hp (fun x h => hk x h)⟩)
theorem vF_spec_DrawRxBusy (l : List Int) (K : List Arg → List (List AC) → Prop) (hp : Bytes l) (hk : ∀ (x : RxS) (b : Bool), (Bytes x.join.got ∧ x.join.got.length ≤ 1000) → K ([rRx.to x, rB.to b]) ([])) :
(true = true) ∧
  ((Bytes l) ∧
   (∀ r : RdS,
    (r = (RdS.mk (List.take (2000 : Nat) l) (0 : Int))) →
    (true = true) ∧
    ((true = true) ∧
     ((((Bytes r.b) ∧
        (((List.length r.b) ≤ (2000 : Nat)) ∧
         (((0 : Int) ≤ r.p) ∧
          (r.p ≤ (40000000 : Int))))) ∧
       ((9 : Int) ≤ (1000 : Int))) ∧
      (∀ r1 : (Prod RxS RdS),
       ((Bytes r1.fst.join.got) ∧ (((List.length r1.fst.join.got) ≤ (1000 : Nat)) ∧ (RdOn r r1.snd (2000 : Int)))) →
       (true = true) ∧
       ((true = true) ∧
        ((((Bytes r1.snd.b) ∧
           (((List.length r1.snd.b) ≤ (2000 : Nat)) ∧
            (((0 : Int) ≤ r1.snd.p) ∧
             (r1.snd.p ≤ (1000000000 : Int))))) ∧
          ((2 : Int) ≤ (1000000000 : Int))) ∧
         (∀ r2 : (Prod Int RdS),
          ((r2.snd = (RdS.mk r1.snd.b (r1.snd.p + (1 : Int)))) ∧ (((0 : Int) ≤ r2.fst) ∧ ((((1 : Int) ≤ (2 : Int)) → (r2.fst < (2 : Int))) ∧ (((2 : Int) < (1 : Int)) → (r2.fst = (0 : Int)))))) →
          (true = true) ∧
          ((true = true) ∧
           (K [(Arg.v true [(AC.d (D.i IntKind.i64 r1.fst.expect)), (AC.d (D.i IntKind.i64 r1.fst.count)), (AC.d (D.i IntKind.i64 r1.fst.join.len)), (AC.d (D.r RK.u8 r1.fst.join.got)), (AC.d (D.b r1.fst.again)), (AC.d (D.b r1.fst.busy)), (AC.d (D.b r1.fst.dead))]), (aB (r2.fst == (0 : Int)))] [])))))))))) := by
  repeat' first
    | exact rfl
    | trivial
    | apply And.intro
    | (show Bytes _; grind [RdOk, RdOn, Bytes.cons, Bytes.nil, Bytes.take])
    | (intro r hr; subst hr)
    | intro r
    | exact hp
    | (refine iteI (fun h => ?_) (fun h => ?_))
  all_goals try simp (disch := omega) only [wr] at *
  all_goals first
    | omega
    | exact hk ⟨_, _, ⟨_, _⟩, _, _, _⟩ _ (by (try dsimp only); grind [RdOk, RdOn, Bytes.cons, Bytes.nil, Bytes.take])
    | grind [RdOk, RdOn, Bytes.cons, Bytes.nil, Bytes.take]
theorem w_spec_DrawRxBusy : Valid Try.prog 20 c_spec_DrawRxBusy :=
  valid_ctr2 (V := V_spec_DrawRxBusy) (tysB_ok tys_ok) (CallsL.cons w_spec_l20Rx (CallsL.cons w_spec_l20Open (CallsL.cons w_spec_l20Rd_pick (CallsL.nil _)))) mixed 0 2 Try.func20 rfl (by kernel_rfl)
    (fun c hc => by
      obtain rfl := Option.some.inj hc
      exact ⟨trivial, ⟨trivial, ⟨trivial, trivial⟩⟩⟩)
    (fun x K hp hk => ⟨_, by kernel_rfl, vF_spec_DrawRxBusy x K hp (fun x b h => hk (x, b) h)⟩)
end Go.Proofs.YtjladmhjpikdhaaE

/- Calls answer what is promised: LawRx1. Conditions: none. -/
set_option linter.unusedVariables false
set_option maxHeartbeats 4000000
namespace Go.Proofs.YtjladmhjpikdhaaE
open Go
theorem vF_laws_FnRxAck (l : List Int) (K : List Arg → List (List AC) → Prop) (hp : Bytes l) (hk : ∀ (r : Bool), (r = true) → K ([rB.to r]) ([])) :
if ((decide ((((List.length l) : Nat) : Int) > (1048576 : Int))) = true) then
   ((true = true) ∧
   (K [(aB true)] []))
  else
   ((true = true) ∧
   ((Bytes l) ∧
    (∀ r : RxS,
     ((Bytes r.join.got) ∧ ((List.length r.join.got) ≤ (1000 : Nat))) →
     (true = true) ∧
     ((true = true) ∧
      (True ∧
       (∀ r1 : Frm,
        (r1 = (rxAck r)) →
        (true = true) ∧
        ((true = true) ∧
         (True ∧
          (∀ r2 : Frm,
           (r2 = (rxAck r)) →
           (true = true) ∧
           ((true = true) ∧
            ((true = true) ∧
             (((List.length r1.data) ≤ (137438953472 : Nat)) ∧
              (∀ r3 : Bool,
               (r3 = (decide (r1 = r2))) →
               (true = true) ∧
               ((true = true) ∧
                (if ((!r3) = true) then
                  ((true = true) ∧
                  (K [(aB false)] []))
                 else
                  ((true = true) ∧
                  (True ∧
                   (∀ r4 : Bool,
                    (r4 = (decide (RxP r))) →
                    (true = true) ∧
                    (if ((!r4) = true) then
                      (if ((r1.kind == (0 : Int)) = true) then
                       ((true = true) ∧
                       (True ∧
                        (∀ r5 : Bool,
                         (r5 = true) →
                         (true = true) ∧
                         ((true = true) ∧
                          (K [(aB r5)] [])))))
                      else
                       ((true = true) ∧
                       (K [(aB false)] [])))
                     else
                      ((true = true) ∧
                      (((List.length r1.data) ≤ (137438953472 : Nat)) ∧
                       (∀ r5 : Bool,
                        (r5 = (decide (FrmP r1))) →
                        (true = true) ∧
                        (if (r5 = true) then
                          (if ((r1.kind == (2 : Int)) = true) then
                           (if ((r1.ack == r.expect) = true) then
                            (if ((!r1.poll) = true) then
                             (if ((!r1.final) = true) then
                              ((true = true) ∧
                              (K [(aB ((r1.say == (2 : Int)) == r.busy))] []))
                             else
                              ((true = true) ∧
                              (K [(aB false)] [])))
                            else
                             ((true = true) ∧
                             (K [(aB false)] [])))
                           else
                            ((true = true) ∧
                            (K [(aB false)] [])))
                          else
                           ((true = true) ∧
                           (K [(aB false)] [])))
                         else
                          ((true = true) ∧
                          (K [(aB false)] []))))))))))))))))))))))))) := by
  repeat' first
    | exact rfl
    | trivial
    | apply And.intro
    | (show Bytes _; grind [at_frm0, rxAck, rxBusy, sayF, goWait, RxP, FrmP, JoinP, SegP, zRx, zFrm, zJoin])
    | (intro r hr; subst hr)
    | exact rxBusy_says _ _
    | intro r
    | exact hp
    | (refine iteI (fun h => ?_) (fun h => ?_))
  all_goals first
    | exact hk _ (by first | rfl | grind [at_frm0, rxAck, rxBusy, sayF, goWait, RxP, FrmP, JoinP, SegP, zRx, zFrm, zJoin])
    | (simp only [LIM] at *; omega)
    | grind [at_frm0, rxAck, rxBusy, sayF, goWait, RxP, FrmP, JoinP, SegP, zRx, zFrm, zJoin]
theorem w_laws_FnRxAck : Valid Try.prog 3 c_laws_FnRxAck :=
  valid_ctr2 (V := V_laws_FnRxAck) (tysB_ok tys_ok) (CallsL.cons w_spec_DrawRxAck (CallsL.cons w_impl_RxAck (CallsL.cons w_laws_liFrame (CallsL.cons w_spec_RxAck (CallsL.cons w_spec_RxOk (CallsL.cons w_laws_liOk (CallsL.cons w_impl_FrmOk (CallsL.nil _)))))))) mixed 0 2 Try.func3 rfl (by kernel_rfl)
    (fun c hc => by
      obtain rfl := Option.some.inj hc
      exact ⟨trivial, ⟨⟨trivial, ⟨⟨trivial, trivial⟩, trivial⟩⟩, ⟨trivial, ⟨trivial, ⟨⟨trivial, ⟨⟨trivial, trivial⟩, trivial⟩⟩, ⟨⟨trivial, ⟨⟨trivial, trivial⟩, trivial⟩⟩, ⟨trivial, trivial⟩⟩⟩⟩⟩⟩⟩)
    (fun x K hp hk => ⟨_, by kernel_rfl, vF_laws_FnRxAck x K hp (fun r h => hk r h)⟩)
theorem vF_laws_FnRxBusy (l : List Int) (K : List Arg → List (List AC) → Prop) (hp : Bytes l) (hk : ∀ (r : Bool), (r = true) → K ([rB.to r]) ([])) :
if ((decide ((((List.length l) : Nat) : Int) > (1048576 : Int))) = true) then
   ((true = true) ∧
   (K [(aB true)] []))
  else
   ((true = true) ∧
   ((Bytes l) ∧
    (∀ r : (Prod RxS Bool),
     ((Bytes r.fst.join.got) ∧ ((List.length r.fst.join.got) ≤ (1000 : Nat))) →
     (true = true) ∧
     ((true = true) ∧
      (((List.length r.fst.join.got) ≤ (137438953472 : Nat)) ∧
       (∀ r1 : BusyR,
        (r1 = (rxBusy r.fst r.snd)) →
        (true = true) ∧
        ((true = true) ∧
         (((List.length r.fst.join.got) ≤ (137438953472 : Nat)) ∧
          (∀ r2 : BusyR,
           (r2 = (rxBusy r.fst r.snd)) →
           (true = true) ∧
           ((true = true) ∧
            (((List.length r1.r.join.got) ≤ (137438953472 : Nat)) ∧
             (∀ r3 : Bool,
              (r3 = (decide (r1.r = r2.r))) →
              (true = true) ∧
              (if ((!r3) = true) then
                ((true = true) ∧
                (K [(aB false)] []))
               else
                ((true = true) ∧
                ((((List.length (Go.Proofs.YtjladmhjpikdhaaE.BusyR.says r1)) ≤ (137438953472 : Nat)) ∧
                  (∀ y : Frm,
                   (List.Mem y (Go.Proofs.YtjladmhjpikdhaaE.BusyR.says r1)) →
                   ((List.length y.data) ≤ (137438953472 : Nat)))) ∧
                 (∀ r4 : Bool,
                  (r4 = (decide ((Go.Proofs.YtjladmhjpikdhaaE.BusyR.says r1) = (Go.Proofs.YtjladmhjpikdhaaE.BusyR.says r2)))) →
                  (true = true) ∧
                  (if ((!r4) = true) then
                    ((true = true) ∧
                    (K [(aB false)] []))
                   else
                    ((true = true) ∧
                    (True ∧
                     (∀ r5 : Bool,
                      (r5 = (decide (RxP r.fst))) →
                      (true = true) ∧
                      (if ((!r5) = true) then
                        ((true = true) ∧
                        (((List.length r1.r.join.got) ≤ (137438953472 : Nat)) ∧
                         (∀ r6 : Bool,
                          (r6 = (decide (r1.r = (RxS.mk (0 : Int) (0 : Int) (JoinS.mk (0 : Int) ([] : (List Int))) false false false)))) →
                          (true = true) ∧
                          (if (r6 = true) then
                            (if (((((List.length r1.says) : Nat) : Int) == (0 : Int)) = true) then
                             ((true = true) ∧
                             (True ∧
                              (∀ r7 : Bool,
                               (r7 = true) →
                               (true = true) ∧
                               ((true = true) ∧
                                (K [(aB r7)] [])))))
                            else
                             ((true = true) ∧
                             (K [(aB false)] [])))
                           else
                            ((true = true) ∧
                            (K [(aB false)] []))))))
                       else
                        (if ((r.fst.busy == r.snd) = true) then
                         ((true = true) ∧
                         (((List.length r1.r.join.got) ≤ (137438953472 : Nat)) ∧
                          (∀ r6 : Bool,
                           (r6 = (decide (r1.r = r.fst))) →
                           (true = true) ∧
                           (if (r6 = true) then
                             ((true = true) ∧
                             (K [(aB ((((List.length r1.says) : Nat) : Int) == (0 : Int)))] []))
                            else
                             ((true = true) ∧
                             (K [(aB false)] []))))))
                        else
                         (if (r.fst.dead = true) then
                          ((true = true) ∧
                          (((List.length r1.r.join.got) ≤ (137438953472 : Nat)) ∧
                           (∀ r6 : Bool,
                            (r6 = (decide (r1.r = r.fst))) →
                            (true = true) ∧
                            (if (r6 = true) then
                              ((true = true) ∧
                              (K [(aB ((((List.length r1.says) : Nat) : Int) == (0 : Int)))] []))
                             else
                              ((true = true) ∧
                              (K [(aB false)] []))))))
                         else
                          ((true = true) ∧
                          (True ∧
                           (∀ r6 : Bool,
                            (r6 = (decide (RxP r1.r))) →
                            (true = true) ∧
                            ((true = true) ∧
                             (if (r6 = true) then
                               (if ((r1.r.busy == r.snd) = true) then
                                (if ((r1.r.count == r.fst.count) = true) then
                                 ((true = true) ∧
                                 (((List.length r1.r.join.got) ≤ (137438953472 : Nat)) ∧
                                  (∀ r7 : Bool,
                                   (r7 = (decide (r1.r.join = r.fst.join))) →
                                   (true = true) ∧
                                   ((true = true) ∧
                                    (if (r7 = true) then
                                      (if (((((List.length r1.says) : Nat) : Int) == (1 : Int)) = true) then
                                       ((((0 : Int) ≤ (0 : Int)) ∧
                                        ((0 : Int) < (((List.length r1.says) : Nat) : Int))) ∧
                                       (if (((at_frm r1.says (0 : Nat)).ack == r.fst.expect) = true) then
                                         ((((0 : Int) ≤ (0 : Int)) ∧
                                          ((0 : Int) < (((List.length r1.says) : Nat) : Int))) ∧
                                         (if ((((at_frm r1.says (0 : Nat)).say == (2 : Int)) == r.snd) = true) then
                                           ((((0 : Int) ≤ (0 : Int)) ∧
                                            ((0 : Int) < (((List.length r1.says) : Nat) : Int))) ∧
                                           ((true = true) ∧
                                            (K [(aB (!(at_frm r1.says (0 : Nat)).final))] [])))
                                          else
                                           ((true = true) ∧
                                           (K [(aB false)] []))))
                                        else
                                         ((true = true) ∧
                                         (K [(aB false)] []))))
                                      else
                                       ((true = true) ∧
                                       (K [(aB false)] [])))
                                     else
                                      ((true = true) ∧
                                      (K [(aB false)] [])))))))
                                else
                                 ((true = true) ∧
                                 (K [(aB false)] [])))
                               else
                                ((true = true) ∧
                                (K [(aB false)] [])))
                              else
                               ((true = true) ∧
                               (K [(aB false)] [])))))))))))))))))))))))))))))) := by
  repeat' first
    | exact rfl
    | trivial
    | apply And.intro
    | (show Bytes _; grind [at_frm0, rxAck, rxBusy, sayF, goWait, RxP, FrmP, JoinP, SegP, zRx, zFrm, zJoin])
    | (intro r hr; subst hr)
    | exact rxBusy_says _ _
    | intro r
    | exact hp
    | (refine iteI (fun h => ?_) (fun h => ?_))
  all_goals first
    | exact hk _ (by first | rfl | grind [at_frm0, rxAck, rxBusy, sayF, goWait, RxP, FrmP, JoinP, SegP, zRx, zFrm, zJoin])
    | (simp only [LIM] at *; omega)
    | grind [at_frm0, rxAck, rxBusy, sayF, goWait, RxP, FrmP, JoinP, SegP, zRx, zFrm, zJoin]
theorem w_laws_FnRxBusy : Valid Try.prog 4 c_laws_FnRxBusy :=
  valid_ctr2 (V := V_laws_FnRxBusy) (tysB_ok tys_ok) (CallsL.cons w_spec_RxOk (CallsL.cons w_laws_liOk (CallsL.cons w_spec_DrawRxBusy (CallsL.cons w_impl_RxBusy (CallsL.cons w_spec_RxBusy (CallsL.cons w_laws_liRx (CallsL.cons w_laws_liFrames (CallsL.cons w_impl_RxOk (CallsL.cons w_laws_liJoin (CallsL.nil _)))))))))) mixed 0 3 Try.func4 rfl (by kernel_rfl)
    (fun c hc => by
      obtain rfl := Option.some.inj hc
      exact ⟨trivial, ⟨⟨trivial, ⟨⟨trivial, trivial⟩, trivial⟩⟩, ⟨trivial, ⟨trivial, ⟨trivial, ⟨⟨trivial, ⟨⟨trivial, trivial⟩, trivial⟩⟩, ⟨⟨trivial, ⟨⟨trivial, trivial⟩, trivial⟩⟩, ⟨⟨trivial, ⟨⟨trivial, trivial⟩, trivial⟩⟩, ⟨trivial, trivial⟩⟩⟩⟩⟩⟩⟩⟩⟩)
    (fun x K hp hk => ⟨_, by kernel_rfl, vF_laws_FnRxBusy x K hp (fun r h => hk r h)⟩)
end Go.Proofs.YtjladmhjpikdhaaE

/- A law of bytes: out of its contract. Conditions: none. -/
set_option linter.unusedVariables false
namespace Go.Proofs.YtjladmhjpikdhaaE
open Go Go.RowKit
/-- A row of bytes as a claim reads it. -/
def IsRow (w : World) (a : Option Addr) (len cap : Nat) (zs : List Int) : Prop :=
  (a = none ∧ len = 0 ∧ cap = 0 ∧ zs = []) ∨
  ∃ x, a = some x ∧ len ≤ cap ∧ cap ≤ maxLen ∧ zs.length = cap ∧ (∀ i, i < zs.length → w.cell? (x.add i) = some (.int .u8 (zs.getD i 0))) ∧ ∀ n ∈ zs, (Lit.int .u8 n).wf = true
theorem spot_none {w : World} {x : Addr} {v : Value} (h : w.cell? x = some v) : x.spot = none := by
  unfold World.cell? at h
  split at h
  · split at h
    · simp at h
    · rename_i hs; simpa using hs
  · simp at h
theorem flat_u8 : ∀ l : List RK.u8.El, flat .u8 l = l.map (fun x => D.i .u8 x)
  | [] => rfl
  | x :: l => by
    have h := flat_u8 l
    show RK.cells .u8 x ++ flat .u8 l = _
    rw [h]; rfl
theorem map_getD (f : Int → D) (l : List Int) (j : Nat) (h : j < l.length) : (l.map f).getD j (.b false) = f (l.getD j 0) := by
  rw [List.getD_eq_getElem?_getD, List.getElem?_map, List.getD_eq_getElem?_getD, List.getElem?_eq_getElem h]; rfl
theorem take_getD (l : List Int) (n j : Nat) (h : j < n) : l.getD j 0 = (l.take n).getD j 0 := by
  rw [List.getD_eq_getElem?_getD, List.getD_eq_getElem?_getD, List.getElem?_take_of_lt h]
theorem rd_bytes {w : World} {F : Nat → Prop} (l : List RK.u8.El) (n : Nat) {g off cap : Nat} (hg : F g) (hn : l.length = n) (h0 : n ≤ cap) (hc : ∀ j, j < n → w.cell? ⟨g, off + j, none⟩ = some (.int .u8 (l.getD j (0 : Int)))) :
    Rd w F (.slice (some ⟨g, off, none⟩) n cap) (.r .u8 l) := by
  subst hn
  refine .row .u8 l g off cap (fun j => .int .u8 (l.getD j (0 : Int))) hg h0 (fun j hj => hc j (by simpa [RK.size] using hj)) fun j hj => ?_
  have hj' : j < l.length := by simpa [RK.size] using hj
  have e : (flat .u8 l).getD j (.b false) = .i .u8 (l.getD j (0 : Int)) := by
    rw [flat_u8]; exact map_getD _ l j hj'
  rw [e]; exact .i _ _
theorem IsRow.rd {w : World} {F : Nat → Prop} {a : Option Addr} {len cap : Nat} {zs : List Int} (h : IsRow w a len cap zs) (hF : ∀ x, a = some x → 0 < cap → F x.block) : ∀ l : List RK.u8.El, l = zs.take len → Rd w F (.slice a len cap) (.r .u8 l) := by
  intro l hl0
  rcases h with ⟨rfl, rfl, rfl, rfl⟩ | ⟨x, rfl, hl, hm, hz, hc, hw⟩
  · subst hl0; exact .nil _ _
  · by_cases h0 : cap = 0
    · have h1 : len = 0 := by omega
      subst h1; subst h0; subst hl0
      exact .nil _ _
    · have hx0 := hc 0 (by omega)
      have hs : x.spot = none := spot_none (w := w) (x := x) (by simpa [Addr.add] using hx0)
      obtain ⟨g, off, sp⟩ := x
      dsimp only at hs
      subst hs
      have hlen : (zs.take len).length = len := by rw [List.length_take]; omega
      subst hl0
      refine rd_bytes _ len (hF _ rfl (by omega)) hlen hl fun j hj => ?_
      have := hc j (by omega)
      rw [add_lit] at this
      rw [this]
      exact congrArg (fun z => some (Value.int .u8 z)) (take_getD zs len j hj)
theorem cell_lt {w : World} {x : Addr} {v : Value} (h : w.cell? x = some v) : x.block < w.heap.size := by
  unfold World.cell? at h
  split at h
  · rename_i c _ _ hb
    have := (Array.getElem?_eq_some_iff.1 hb).1
    exact this
  · simp at h
theorem IsRow.lt {w : World} {a : Option Addr} {len cap : Nat} {zs : List Int} (h : IsRow w a len cap zs) {x : Addr} (hx : a = some x) (hc : 0 < cap) : x.block < w.heap.size := by
  rcases h with ⟨rfl, rfl, rfl, rfl⟩ | ⟨y, rfl, hl, hm, hz, hcell, hw⟩
  · cases hx
  · cases hx
    exact cell_lt (w := w) (by simpa [Addr.add] using hcell 0 (by omega))
theorem IsRow.bytes {w : World} {a : Option Addr} {len cap : Nat} {zs : List Int} (h : IsRow w a len cap zs) : Bytes (zs.take len) := by
  rcases h with ⟨rfl, rfl, rfl, rfl⟩ | ⟨x, rfl, hl, hm, hz, hc, hw⟩
  · exact Bytes.nil.take _
  · exact (Bytes.of_wf hw).take _
theorem argR_d {w : World} {F : Nat → Prop} {v : Value} {x : D} (h : Rd w F v x) : ArgR w F v [] [] (.v false [.d x]) :=
  ⟨[v], rfl, h.cells, fun _ => rfl, ⟨[], [], ⟨h, rfl⟩, rfl, rfl⟩, rfl⟩
theorem argsR_nil (w : World) (F : Nat → Prop) : ArgsR w F [] [] [] [] := ⟨rfl, rfl⟩
theorem argsR_cons {w : World} {F : Nat → Prop} {v : Value} {vs : List Value} {x : Arg} {xs : List Arg} (h : ArgR w F v [] [] x) (k : ArgsR w F vs xs [] []) : ArgsR w F (v :: vs) (x :: xs) [] [] := ⟨[], [], [], [], h, k, rfl, rfl⟩
/-- A law that answers true, whatever it is handed as data. -/
theorem law_of {P : Program} {f : Nat} {c : Ent} (h : Valid P f c) {w : World} {vs : List Value} {ys : List Arg} (ha : ArgsR w (fun b => b < w.heap.size) vs ys [] []) (hF : ∀ K, K [aB true] [] → c.F ys K) :
    Calls P f vs.toArray w fun e w' => e = .returned (.bool true) ∧ Below w.heap.size w w' := by
  refine (h.2 w _ vs ys [] [] (fun rs bs => rs = [aB true] ∧ bs = []) ha List.nodup_nil (fun b hb => by cases hb) (fun b hb => hb) (hF _ ⟨rfl, rfl⟩)).mono ?_
  rintro e w' ⟨rv, rs, bs, F', B', hb', rfl, ⟨rfl, rfl⟩, hR, hlen, -, -, -, -, hk⟩
  refine ⟨?_, hk.os, hk.tape, hk.output, hk.size, fun b hb => hk.block b ⟨hb, by simp⟩⟩
  match rv, hlen, hR with
  | [v], _, hR =>
    obtain ⟨B1, B2, h1, h2, ⟨xs, q1, q2, q3, q4, -⟩, -⟩ := hR
    match xs, q3 rfl, q1, q4 with
    | [u], _, q1, ⟨C1, C2, ⟨hr, _⟩, _⟩ =>
      have := hr.bool
      subst this
      rw [q1]; rfl
end Go.Proofs.YtjladmhjpikdhaaE

/- The law FnRxBusy: for every input the call returns true, and each argument reads behind the call as it read before. Conditions: none. -/
namespace Go.Proofs.Ytjladmhjpikdhaa.fnRxBusy
open Go.ChangeShapes Go.WideShapes Go.ChangeAt Go.RowKit Go.Proofs.YtjladmhjpikdhaaE
open Go.ChangeMaps (open_string shut_string)
set_option linter.unusedVariables false
theorem own : ownKnob Try.prog.godebug = none := by kernel_rfl
theorem laidOut : laidOutB Try.prog = true := by kernel_rfl
set_option maxRecDepth 100000 in
theorem lifted (os : Os) (started : os.Started) (H : Type) (enc : TypeId × Value → H) :
    ReturnsInHanded {} Try.checked os 4 .any (Rows.fnRxBusySpec.pre6 enc Try.prog Try.f4 Rows.fnRxBusyRow.domain false) (Rows.fnRxBusySpec.post enc Try.prog Try.f4 false true false false) := by
  refine returnsInHanded_of_change_sized (C := Try.checked) own started (by kernel_rfl) Try.func4
    (ChangeSpec.witness6 (enc := enc) (C := Try.checked) false ⟨#[], #[.slice none 0 0], []⟩ 8 (by kernel_rfl) (by kernel_rfl) (by kernel_rfl) (by kernel_rfl)) ?_
  intro W base args ds gs before hval0 hW hcnd hsz0 _
  have hsz : (DataW.weightsEach Try.prog (Try.f4.params.toList ++ Rows.fnRxBusySpec.plain.varTypes Try.prog) (ds ++ gs)).all (· ≤ reachBytes) = true := hsz0
  have hval : ∀ (j : Nat) t v, Try.f4.params[j]? = some t → args[j]? = some v → Value.okWide Try.prog W .any base t v := hval0
  have hW' := hW
  obtain ⟨p, q, hA0, hV, rfl, hfz, hnd⟩ := hW
  have hA : DataW.TrodAll enc Try.prog W 0 (fun _ => true) true Try.f4.params.toList args.toList ds p := hA0
  rw [Try.params4] at hA hval hsz
  obtain ⟨v0, vs0, d0, ds0, p0, q0, hargs, rfl, rfl, h0, r0⟩ := trodAll_cons hA
  obtain ⟨rfl, rfl, rfl⟩ := trodAll_nil r0
  obtain rfl : args = #[v0] := by cases args; simp_all
  obtain ⟨rfl, rfl⟩ := trodVars_none hV
  obtain ⟨a0, len0, cap0, rfl⟩ := okWide_slice Try.underlying22 (hval 0 22 v0 rfl rfl)
  have k0 := h0
  have lt0 : ∀ x ∈ p0, x.block < W.heap.size := by obtain ⟨m, hm⟩ := k0; exact DataW.trod_lt m _ _ _ hm
  obtain ⟨z0, w0⟩ : ∃ zs, IsRow W a0 len0 cap0 zs := by
    obtain ⟨fuel, hf⟩ := h0
    rcases open_ints Try.underlying22 Try.underlying5 (by kernel_rfl) hf with ⟨hcs, _⟩ | ⟨x, l, c, zs, hcs, _, hl, hm, hz, _, hcell, hwz⟩
    · simp [Value.cells] at hcs
      obtain ⟨rfl, rfl, rfl⟩ := hcs
      exact ⟨[], .inl ⟨rfl, rfl, rfl, rfl⟩⟩
    · simp [Value.cells] at hcs
      obtain ⟨rfl, rfl, rfl⟩ := hcs
      exact ⟨zs, .inr ⟨_, rfl, hl, hm, by simpa using hz, hcell, hwz⟩⟩
  have b0 : ∀ x, a0 = some x → 0 < cap0 → x.block < W.heap.size := fun x hx hc => w0.lt hx hc
  clear hA0 hval0 hsz0 hsz
  refine (law_of w_laws_FnRxBusy (ys := [aR .u8 (z0.take len0)]) (argsR_cons (argR_d (w0.rd b0 _ rfl)) (argsR_nil _ _)) (fun K hK => ⟨w0.bytes, fun r hr => by subst hr; exact hK⟩)).mono fun e W' ⟨he, bel⟩ => ?_
  subst he
  exact ⟨_, rfl, _, _, _, [], _, [], hW', trodAll_mk1 (shut_bool Try.underlying4 _), (trodAll_cons_mk (Below.trod laidOut (by kernel_rfl) (of_decide_eq_true (by kernel_rfl)) k0 bel lt0) trodAll_mk0), rfl, bel.frame _, fun h => by cases h⟩
theorem over : Rows.fnRxBusyRow.holds Try.pinned (OpenSpec.ofChange Rows.fnRxBusySpec) :=
  OpenClaim.holds_of_wide 4 Try.f4 rfl rfl rfl rfl rfl rfl rfl ⟨rfl, rfl, rfl, rfl, rfl⟩ rfl rfl rfl rfl rfl (by kernel_rfl) Try.func4 (by kernel_rfl)
    (of_decide_eq_true (by kernel_rfl)) (by unfold Func.isWrapper; first | (rw [if_pos (by decide +kernel)]; kernel_rfl) | (rw [if_neg (by decide +kernel)]; exact ⟨rfl, rfl⟩))
    (fun os started H enc _ => lifted os started H enc)
theorem proved : Rows.FnRxBusySaid := over
#print axioms proved
end Go.Proofs.Ytjladmhjpikdhaa.fnRxBusy
namespace Go.Proofs.Ytjladmhjpikdhaa
/-- The row, under a short name, for the claim. -/
theorem fnRxBusy_holds : Rows.FnRxBusySaid := fnRxBusy.proved
end Go.Proofs.Ytjladmhjpikdhaa
