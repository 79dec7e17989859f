/- A part of the proof of laws of the program: what calls of the program answer. Conditions: none. -/
import Derived.Test.YtkencmgcibbfaaaMe252a174
set_option linter.unusedVariables false
set_option linter.unusedSimpArgs false
set_option linter.unusedSectionVars false
/- Contracts: Z2. Conditions: none. -/
set_option linter.unusedVariables false
set_option maxHeartbeats 1600000
namespace Go.Proofs.YtkencmgcibbfaaaE
open Go
/-! spec.DrawWldNew -/
def c_spec_DrawWldNew : Ent := ctr (α := (List Int)) (ρ := (Cfg)) [] [] (rs1 rBytes) (fun x_ => (fun (l : List Int) => (Bytes l)) x_) (fun x_ r_ => (fun x_ => (fun (l : List Int) => ((fun r_ => (fun (c : Cfg) => (True)) r_))) x_) x_ r_) (fun r_ => (fun (c : Cfg) => ([rCfg.to c])) r_) (fun r_ => (fun (c : Cfg) => ([])) r_)
def V_spec_DrawWldNew : Env := ⟨tys, [(18, c_spec_l20Cfg), (19, c_spec_l20Open)], [], [(2, 0), (4, 1)], [], [], [], [], []⟩
/-- An end, numbered on from k. -/
def mkE (k : Int) : EndS := ⟨⟨k, k + 1, [], k + 2, [], Int.tmod (k + 3) 3 == 0, k + 4, Int.tmod (k + 5) 3 == 0, k + 6, Int.tmod (k + 7) 3 == 0⟩, ⟨k + 8, k + 9, ⟨k + 10, []⟩, Int.tmod (k + 11) 3 == 0, Int.tmod (k + 12) 3 == 0, Int.tmod (k + 13) 3 == 0⟩, ⟨k + 14, [], k + 15, k + 16, Int.tmod (k + 17) 3 == 0⟩, ⟨k + 18, ⟨k + 19, []⟩, Int.tmod (k + 20) 3 == 0⟩, [], []⟩
theorem at_w0 (x : EndS) (l : List EndS) : at_wend (x :: l) 0 = x := rfl
theorem at_w1 (x y : EndS) (l : List EndS) : at_wend (x :: y :: l) 1 = y := rfl

/-! laws.markSegPartS@0 -/
def c_laws_markSegPartS_0 : Ent := ctr (α := (List Part) × (Int)) (ρ := (Int)) [] [] (rs (rR .part) (rs1 rInt)) (fun x_ => (fun (a : List Part) (k : Int) => (a = [] ∧ 0 ≤ k)) x_.1 x_.2) (fun x_ r_ => (fun x_ => (fun (a : List Part) (k : Int) => ((fun r_ => (fun (r : Int) => (r = k)) r_))) x_.1 x_.2) x_ r_) (fun r_ => (fun (r : Int) => ([rInt.to r])) r_) (fun r_ => (fun (r : Int) => ([])) r_)
def l_laws_markSegPartS_0_0 : LoopD ((List Part) × (Int)) ((Int)) ((Empty)) where
  n := 34
  head := ⟨[0, 1, 5], [], []⟩
  st := fun x_ => (fun (a : List Part) (k : Int) => (⟨true, [(0, .v false [.d (.r .part a)]), (1, num .i64 k), (5, num .i64 0)], [], []⟩)) x_.1 x_.2
  pre := fun x_ => (fun (a : List Part) (k : Int) => (a = [])) x_.1 x_.2
  nk := ⟨[1], [], []⟩
  nst := fun r_ => (fun (r : Int) => (⟨true, [(1, num .i64 r)], [], []⟩)) r_
  npost := fun x_ r_ => (fun x_ => (fun (a0 : List Part) (k0 : Int) => ((fun r_ => (fun (r : Int) => (r = k0)) r_))) x_.1 x_.2) x_ r_
  rk := ⟨[], [], []⟩
  rst := fun _ => ⟨true, [], [], []⟩
  rpost := fun _ _ => False
def i_laws_markSegPartS_0_0 (x : (List Part) × (Int)) (n : Nat) (s : (List Part) × (Int)) : Prop := (fun x_ => (fun (a0 : List Part) (k0 : Int) => ((fun s_ => (fun (a : List Part) (k : Int) => (k = k0 ∧ a = [])) s_.1 s_.2))) x_.1 x_.2) x s
def V_laws_markSegPartS_0 : Env := ⟨tys, [], [], [], [], [(0, l_laws_markSegPartS_0_0.L)], [], [(62, c_laws_markByteS)], []⟩
/-! laws.markByteS@0 -/
def c_laws_markByteS_0 : Ent := ctr (α := (List Int) × (Int)) (ρ := (Int)) [] [] (rs (rR .u8) (rs1 rInt)) (fun x_ => (fun (a : List Int) (k : Int) => (a = [] ∧ 0 ≤ k)) x_.1 x_.2) (fun x_ r_ => (fun x_ => (fun (a : List Int) (k : Int) => ((fun r_ => (fun (r : Int) => (r = k)) r_))) x_.1 x_.2) x_ r_) (fun r_ => (fun (r : Int) => ([rInt.to r])) r_) (fun r_ => (fun (r : Int) => ([])) r_)
def l_laws_markByteS_0_0 : LoopD ((List Int) × (Int)) ((Int)) ((Empty)) where
  n := 20
  head := ⟨[0, 1, 5], [], []⟩
  st := fun x_ => (fun (a : List Int) (k : Int) => (⟨true, [(0, .v false [.d (.r .u8 a)]), (1, num .i64 k), (5, num .i64 0)], [], []⟩)) x_.1 x_.2
  pre := fun x_ => (fun (a : List Int) (k : Int) => (a = [])) x_.1 x_.2
  nk := ⟨[1], [], []⟩
  nst := fun r_ => (fun (r : Int) => (⟨true, [(1, num .i64 r)], [], []⟩)) r_
  npost := fun x_ r_ => (fun x_ => (fun (a0 : List Int) (k0 : Int) => ((fun r_ => (fun (r : Int) => (r = k0)) r_))) x_.1 x_.2) x_ r_
  rk := ⟨[], [], []⟩
  rst := fun _ => ⟨true, [], [], []⟩
  rpost := fun _ _ => False
def i_laws_markByteS_0_0 (x : (List Int) × (Int)) (n : Nat) (s : (List Int) × (Int)) : Prop := (fun x_ => (fun (a0 : List Int) (k0 : Int) => ((fun s_ => (fun (a : List Int) (k : Int) => (k = k0 ∧ a = [])) s_.1 s_.2))) x_.1 x_.2) x s
def V_laws_markByteS_0 : Env := ⟨tys, [], [], [], [], [(0, l_laws_markByteS_0_0.L)], [], [], []⟩
/-! laws.markByteSS@0 -/
def c_laws_markByteSS_0 : Ent := ctr (α := (List (List Int)) × (Int)) (ρ := (Int)) [] [] (rs (rR .byr) (rs1 rInt)) (fun x_ => (fun (a : List (List Int)) (k : Int) => (a = [] ∧ 0 ≤ k)) x_.1 x_.2) (fun x_ r_ => (fun x_ => (fun (a : List (List Int)) (k : Int) => ((fun r_ => (fun (r : Int) => (r = k)) r_))) x_.1 x_.2) x_ r_) (fun r_ => (fun (r : Int) => ([rInt.to r])) r_) (fun r_ => (fun (r : Int) => ([])) r_)
def l_laws_markByteSS_0_0 : LoopD ((List (List Int)) × (Int)) ((Int)) ((Empty)) where
  n := 19
  head := ⟨[0, 1, 5], [], []⟩
  st := fun x_ => (fun (a : List (List Int)) (k : Int) => (⟨true, [(0, .v false [.d (.r .byr a)]), (1, num .i64 k), (5, num .i64 0)], [], []⟩)) x_.1 x_.2
  pre := fun x_ => (fun (a : List (List Int)) (k : Int) => (a = [])) x_.1 x_.2
  nk := ⟨[1], [], []⟩
  nst := fun r_ => (fun (r : Int) => (⟨true, [(1, num .i64 r)], [], []⟩)) r_
  npost := fun x_ r_ => (fun x_ => (fun (a0 : List (List Int)) (k0 : Int) => ((fun r_ => (fun (r : Int) => (r = k0)) r_))) x_.1 x_.2) x_ r_
  rk := ⟨[], [], []⟩
  rst := fun _ => ⟨true, [], [], []⟩
  rpost := fun _ _ => False
def i_laws_markByteSS_0_0 (x : (List (List Int)) × (Int)) (n : Nat) (s : (List (List Int)) × (Int)) : Prop := (fun x_ => (fun (a0 : List (List Int)) (k0 : Int) => ((fun s_ => (fun (a : List (List Int)) (k : Int) => (k = k0 ∧ a = [])) s_.1 s_.2))) x_.1 x_.2) x s
def V_laws_markByteSS_0 : Env := ⟨tys, [], [], [], [], [(0, l_laws_markByteSS_0_0.L)], [], [(62, c_laws_markByteS)], []⟩
/-! laws.markNetMsgS@0 -/
def c_laws_markNetMsgS_0 : Ent := ctr (α := (List NetS) × (Int)) (ρ := (Int)) [] [] (rs (rR .netm) (rs1 rInt)) (fun x_ => (fun (a : List NetS) (k : Int) => (a = [] ∧ 0 ≤ k)) x_.1 x_.2) (fun x_ r_ => (fun x_ => (fun (a : List NetS) (k : Int) => ((fun r_ => (fun (r : Int) => (r = k)) r_))) x_.1 x_.2) x_ r_) (fun r_ => (fun (r : Int) => ([rInt.to r])) r_) (fun r_ => (fun (r : Int) => ([])) r_)
def l_laws_markNetMsgS_0_0 : LoopD ((List NetS) × (Int)) ((Int)) ((Empty)) where
  n := 29
  head := ⟨[0, 1, 5], [], []⟩
  st := fun x_ => (fun (a : List NetS) (k : Int) => (⟨true, [(0, .v false [.d (.r .netm a)]), (1, num .i64 k), (5, num .i64 0)], [], []⟩)) x_.1 x_.2
  pre := fun x_ => (fun (a : List NetS) (k : Int) => (a = [])) x_.1 x_.2
  nk := ⟨[1], [], []⟩
  nst := fun r_ => (fun (r : Int) => (⟨true, [(1, num .i64 r)], [], []⟩)) r_
  npost := fun x_ r_ => (fun x_ => (fun (a0 : List NetS) (k0 : Int) => ((fun r_ => (fun (r : Int) => (r = k0)) r_))) x_.1 x_.2) x_ r_
  rk := ⟨[], [], []⟩
  rst := fun _ => ⟨true, [], [], []⟩
  rpost := fun _ _ => False
def i_laws_markNetMsgS_0_0 (x : (List NetS) × (Int)) (n : Nat) (s : (List NetS) × (Int)) : Prop := (fun x_ => (fun (a0 : List NetS) (k0 : Int) => ((fun s_ => (fun (a : List NetS) (k : Int) => (k = k0 ∧ a = [])) s_.1 s_.2))) x_.1 x_.2) x s
def V_laws_markNetMsgS_0 : Env := ⟨tys, [], [], [], [], [(0, l_laws_markNetMsgS_0_0.L)], [], [(62, c_laws_markByteS)], []⟩
/-! laws.heldSegPartS@0 -/
def c_laws_heldSegPartS_0 : Ent := ctr (α := (List Part) × (Int)) (ρ := (Int)) [] [] (rs (rR .part) (rs1 rInt)) (fun x_ => (fun (a : List Part) (k : Int) => (a = [] ∧ 0 ≤ k)) x_.1 x_.2) (fun x_ r_ => (fun x_ => (fun (a : List Part) (k : Int) => ((fun r_ => (fun (r : Int) => (r = k)) r_))) x_.1 x_.2) x_ r_) (fun r_ => (fun (r : Int) => ([rInt.to r])) r_) (fun r_ => (fun (r : Int) => ([])) r_)
def l_laws_heldSegPartS_0_0 : LoopD ((List Part) × (Int)) ((Int)) ((Empty)) where
  n := 40
  head := ⟨[0, 1, 5], [], []⟩
  st := fun x_ => (fun (a : List Part) (k : Int) => (⟨true, [(0, .v false [.d (.r .part a)]), (1, num .i64 k), (5, num .i64 0)], [], []⟩)) x_.1 x_.2
  pre := fun x_ => (fun (a : List Part) (k : Int) => (a = [])) x_.1 x_.2
  nk := ⟨[1], [], []⟩
  nst := fun r_ => (fun (r : Int) => (⟨true, [(1, num .i64 r)], [], []⟩)) r_
  npost := fun x_ r_ => (fun x_ => (fun (a0 : List Part) (k0 : Int) => ((fun r_ => (fun (r : Int) => (r = k0)) r_))) x_.1 x_.2) x_ r_
  rk := ⟨[], [], []⟩
  rst := fun _ => ⟨true, [], [], []⟩
  rpost := fun _ _ => False
def i_laws_heldSegPartS_0_0 (x : (List Part) × (Int)) (n : Nat) (s : (List Part) × (Int)) : Prop := (fun x_ => (fun (a0 : List Part) (k0 : Int) => ((fun s_ => (fun (a : List Part) (k : Int) => (k = k0 ∧ a = [])) s_.1 s_.2))) x_.1 x_.2) x s
def V_laws_heldSegPartS_0 : Env := ⟨tys, [(66, c_laws_heldByteS)], [], [], [], [(0, l_laws_heldSegPartS_0_0.L)], [], [], []⟩
/-! laws.heldByteS@0 -/
def c_laws_heldByteS_0 : Ent := ctr (α := (List Int) × (Int)) (ρ := (Int)) [] [] (rs (rR .u8) (rs1 rInt)) (fun x_ => (fun (a : List Int) (k : Int) => (a = [] ∧ 0 ≤ k)) x_.1 x_.2) (fun x_ r_ => (fun x_ => (fun (a : List Int) (k : Int) => ((fun r_ => (fun (r : Int) => (r = k)) r_))) x_.1 x_.2) x_ r_) (fun r_ => (fun (r : Int) => ([rInt.to r])) r_) (fun r_ => (fun (r : Int) => ([])) r_)
def l_laws_heldByteS_0_0 : LoopD ((List Int) × (Int)) ((Int)) ((Empty)) where
  n := 22
  head := ⟨[0, 1, 5], [], []⟩
  st := fun x_ => (fun (a : List Int) (k : Int) => (⟨true, [(0, .v false [.d (.r .u8 a)]), (1, num .i64 k), (5, num .i64 0)], [], []⟩)) x_.1 x_.2
  pre := fun x_ => (fun (a : List Int) (k : Int) => (a = [])) x_.1 x_.2
  nk := ⟨[1], [], []⟩
  nst := fun r_ => (fun (r : Int) => (⟨true, [(1, num .i64 r)], [], []⟩)) r_
  npost := fun x_ r_ => (fun x_ => (fun (a0 : List Int) (k0 : Int) => ((fun r_ => (fun (r : Int) => (r = k0)) r_))) x_.1 x_.2) x_ r_
  rk := ⟨[], [], []⟩
  rst := fun _ => ⟨true, [], [], []⟩
  rpost := fun _ _ => False
def i_laws_heldByteS_0_0 (x : (List Int) × (Int)) (n : Nat) (s : (List Int) × (Int)) : Prop := (fun x_ => (fun (a0 : List Int) (k0 : Int) => ((fun s_ => (fun (a : List Int) (k : Int) => (k = k0 ∧ a = [])) s_.1 s_.2))) x_.1 x_.2) x s
def V_laws_heldByteS_0 : Env := ⟨tys, [], [], [], [], [(0, l_laws_heldByteS_0_0.L)], [], [], []⟩
/-! laws.heldByteSS@0 -/
def c_laws_heldByteSS_0 : Ent := ctr (α := (List (List Int)) × (Int)) (ρ := (Int)) [] [] (rs (rR .byr) (rs1 rInt)) (fun x_ => (fun (a : List (List Int)) (k : Int) => (a = [] ∧ 0 ≤ k)) x_.1 x_.2) (fun x_ r_ => (fun x_ => (fun (a : List (List Int)) (k : Int) => ((fun r_ => (fun (r : Int) => (r = k)) r_))) x_.1 x_.2) x_ r_) (fun r_ => (fun (r : Int) => ([rInt.to r])) r_) (fun r_ => (fun (r : Int) => ([])) r_)
def l_laws_heldByteSS_0_0 : LoopD ((List (List Int)) × (Int)) ((Int)) ((Empty)) where
  n := 21
  head := ⟨[0, 1, 5], [], []⟩
  st := fun x_ => (fun (a : List (List Int)) (k : Int) => (⟨true, [(0, .v false [.d (.r .byr a)]), (1, num .i64 k), (5, num .i64 0)], [], []⟩)) x_.1 x_.2
  pre := fun x_ => (fun (a : List (List Int)) (k : Int) => (a = [])) x_.1 x_.2
  nk := ⟨[1], [], []⟩
  nst := fun r_ => (fun (r : Int) => (⟨true, [(1, num .i64 r)], [], []⟩)) r_
  npost := fun x_ r_ => (fun x_ => (fun (a0 : List (List Int)) (k0 : Int) => ((fun r_ => (fun (r : Int) => (r = k0)) r_))) x_.1 x_.2) x_ r_
  rk := ⟨[], [], []⟩
  rst := fun _ => ⟨true, [], [], []⟩
  rpost := fun _ _ => False
def i_laws_heldByteSS_0_0 (x : (List (List Int)) × (Int)) (n : Nat) (s : (List (List Int)) × (Int)) : Prop := (fun x_ => (fun (a0 : List (List Int)) (k0 : Int) => ((fun s_ => (fun (a : List (List Int)) (k : Int) => (k = k0 ∧ a = [])) s_.1 s_.2))) x_.1 x_.2) x s
def V_laws_heldByteSS_0 : Env := ⟨tys, [(66, c_laws_heldByteS)], [], [], [], [(0, l_laws_heldByteSS_0_0.L)], [], [], []⟩
/-! laws.heldNetMsgS@0 -/
def c_laws_heldNetMsgS_0 : Ent := ctr (α := (List NetS) × (Int)) (ρ := (Int)) [] [] (rs (rR .netm) (rs1 rInt)) (fun x_ => (fun (a : List NetS) (k : Int) => (a = [] ∧ 0 ≤ k)) x_.1 x_.2) (fun x_ r_ => (fun x_ => (fun (a : List NetS) (k : Int) => ((fun r_ => (fun (r : Int) => (r = k)) r_))) x_.1 x_.2) x_ r_) (fun r_ => (fun (r : Int) => ([rInt.to r])) r_) (fun r_ => (fun (r : Int) => ([])) r_)
def l_laws_heldNetMsgS_0_0 : LoopD ((List NetS) × (Int)) ((Int)) ((Empty)) where
  n := 33
  head := ⟨[0, 1, 5], [], []⟩
  st := fun x_ => (fun (a : List NetS) (k : Int) => (⟨true, [(0, .v false [.d (.r .netm a)]), (1, num .i64 k), (5, num .i64 0)], [], []⟩)) x_.1 x_.2
  pre := fun x_ => (fun (a : List NetS) (k : Int) => (a = [])) x_.1 x_.2
  nk := ⟨[1], [], []⟩
  nst := fun r_ => (fun (r : Int) => (⟨true, [(1, num .i64 r)], [], []⟩)) r_
  npost := fun x_ r_ => (fun x_ => (fun (a0 : List NetS) (k0 : Int) => ((fun r_ => (fun (r : Int) => (r = k0)) r_))) x_.1 x_.2) x_ r_
  rk := ⟨[], [], []⟩
  rst := fun _ => ⟨true, [], [], []⟩
  rpost := fun _ _ => False
def i_laws_heldNetMsgS_0_0 (x : (List NetS) × (Int)) (n : Nat) (s : (List NetS) × (Int)) : Prop := (fun x_ => (fun (a0 : List NetS) (k0 : Int) => ((fun s_ => (fun (a : List NetS) (k : Int) => (k = k0 ∧ a = [])) s_.1 s_.2))) x_.1 x_.2) x s
def V_laws_heldNetMsgS_0 : Env := ⟨tys, [(66, c_laws_heldByteS)], [], [], [], [(0, l_laws_heldNetMsgS_0_0.L)], [], [], []⟩
/-! laws.markNetMsgSS -/
def c_laws_markNetMsgSS : Ent := ctr (α := (List (List NetS)) × (Int)) (ρ := (Int)) [] [] (rs (rR .nets) (rs1 rInt)) (fun x_ => (fun (a : List (List NetS)) (k : Int) => ((a = [] ∨ a = [[], []]) ∧ 0 ≤ k)) x_.1 x_.2) (fun x_ r_ => (fun x_ => (fun (a : List (List NetS)) (k : Int) => ((fun r_ => (fun (r : Int) => (r = k)) r_))) x_.1 x_.2) x_ r_) (fun r_ => (fun (r : Int) => ([rInt.to r])) r_) (fun r_ => (fun (r : Int) => ([])) r_)
def l_laws_markNetMsgSS_0 : LoopD ((List (List NetS)) × (Int) × (Int)) ((Int)) ((Empty)) where
  n := 19
  head := ⟨[0, 1, 5], [], []⟩
  st := fun x_ => (fun (a : List (List NetS)) (k : Int) (i : Int) => (⟨true, [(0, .v false [.d (.r .nets a)]), (1, num .i64 k), (5, num .i64 i)], [], []⟩)) x_.1 x_.2.1 x_.2.2
  pre := fun x_ => (fun (a : List (List NetS)) (k : Int) (i : Int) => ((a = [] ∨ a = [[], []]) ∧ i = 0 ∧ 0 ≤ k)) x_.1 x_.2.1 x_.2.2
  nk := ⟨[1], [], []⟩
  nst := fun r_ => (fun (r : Int) => (⟨true, [(1, num .i64 r)], [], []⟩)) r_
  npost := fun x_ r_ => (fun x_ => (fun (a0 : List (List NetS)) (k0 : Int) (i0 : Int) => ((fun r_ => (fun (r : Int) => (r = k0)) r_))) x_.1 x_.2.1 x_.2.2) x_ r_
  rk := ⟨[], [], []⟩
  rst := fun _ => ⟨true, [], [], []⟩
  rpost := fun _ _ => False
def i_laws_markNetMsgSS_0 (x : (List (List NetS)) × (Int) × (Int)) (n : Nat) (s : (List (List NetS)) × (Int) × (Int)) : Prop := (fun x_ => (fun (a0 : List (List NetS)) (k0 : Int) (i0 : Int) => ((fun s_ => (fun (a : List (List NetS)) (k : Int) (i : Int) => (a = a0 ∧ k = k0 ∧ 0 ≤ i ∧ i + n = a.length ∧ a.length ≤ 2)) s_.1 s_.2.1 s_.2.2))) x_.1 x_.2.1 x_.2.2) x s
def V_laws_markNetMsgSS : Env := ⟨tys, [(64, c_laws_markNetMsgS_0)], [], [], [], [(0, l_laws_markNetMsgSS_0.L)], [], [], []⟩
/-! laws.heldNetMsgSS -/
def c_laws_heldNetMsgSS : Ent := ctr (α := (List (List NetS)) × (Int)) (ρ := (Int)) [] [] (rs (rR .nets) (rs1 rInt)) (fun x_ => (fun (a : List (List NetS)) (k : Int) => ((a = [] ∨ a = [[], []]) ∧ 0 ≤ k)) x_.1 x_.2) (fun x_ r_ => (fun x_ => (fun (a : List (List NetS)) (k : Int) => ((fun r_ => (fun (r : Int) => (r = k)) r_))) x_.1 x_.2) x_ r_) (fun r_ => (fun (r : Int) => ([rInt.to r])) r_) (fun r_ => (fun (r : Int) => ([])) r_)
def l_laws_heldNetMsgSS_0 : LoopD ((List (List NetS)) × (Int) × (Int)) ((Int)) ((Empty)) where
  n := 21
  head := ⟨[0, 1, 5], [], []⟩
  st := fun x_ => (fun (a : List (List NetS)) (k : Int) (i : Int) => (⟨true, [(0, .v false [.d (.r .nets a)]), (1, num .i64 k), (5, num .i64 i)], [], []⟩)) x_.1 x_.2.1 x_.2.2
  pre := fun x_ => (fun (a : List (List NetS)) (k : Int) (i : Int) => ((a = [] ∨ a = [[], []]) ∧ i = 0 ∧ 0 ≤ k)) x_.1 x_.2.1 x_.2.2
  nk := ⟨[1], [], []⟩
  nst := fun r_ => (fun (r : Int) => (⟨true, [(1, num .i64 r)], [], []⟩)) r_
  npost := fun x_ r_ => (fun x_ => (fun (a0 : List (List NetS)) (k0 : Int) (i0 : Int) => ((fun r_ => (fun (r : Int) => (r = k0)) r_))) x_.1 x_.2.1 x_.2.2) x_ r_
  rk := ⟨[], [], []⟩
  rst := fun _ => ⟨true, [], [], []⟩
  rpost := fun _ _ => False
def i_laws_heldNetMsgSS_0 (x : (List (List NetS)) × (Int) × (Int)) (n : Nat) (s : (List (List NetS)) × (Int) × (Int)) : Prop := (fun x_ => (fun (a0 : List (List NetS)) (k0 : Int) (i0 : Int) => ((fun s_ => (fun (a : List (List NetS)) (k : Int) (i : Int) => (a = a0 ∧ k = k0 ∧ 0 ≤ i ∧ i + n = a.length ∧ a.length ≤ 2)) s_.1 s_.2.1 s_.2.2))) x_.1 x_.2.1 x_.2.2) x s
def V_laws_heldNetMsgSS : Env := ⟨tys, [(68, c_laws_heldNetMsgS_0)], [], [], [], [(0, l_laws_heldNetMsgSS_0.L)], [], [], []⟩
/-! laws.markWldEndS -/
def c_laws_markWldEndS : EntI := ctrI (α := (List EndS) × (Int)) (ρ := (Int) × (List EndS)) [(0, 0)] (rs (rO 48 .wend) (rs1 rInt)) (fun x_ => (fun (a : List EndS) (k : Int) => ((a = [] ∨ a = [zEnd, zEnd]) ∧ k = 1)) x_.1 x_.2) (fun x_ r_ => (fun x_ => (fun (a : List EndS) (k : Int) => ((fun r_ => (fun (r : Int) (o : List EndS) => (((a = [] ∧ o = [] ∧ r = 1) ∨ (a = [zEnd, zEnd] ∧ o = [mkE 1, mkE 22] ∧ r = 43)))) r_.1 r_.2))) x_.1 x_.2) x_ r_) (fun r_ => (fun (r : Int) (o : List EndS) => ([rInt.to r])) r_.1 r_.2) (fun r_ => (fun (r : Int) (o : List EndS) => ([⟨48, .wend, o, m0⟩])) r_.1 r_.2)
def l_laws_markWldEndS_0 : LoopD ((List EndS) × (Int) × (Int)) ((Int) × (List EndS)) ((Empty)) where
  n := 255
  head := ⟨[0, 1, 5], [], [0]⟩
  st := fun x_ => (fun (o : List EndS) (k : Int) (i : Int) => (⟨true, [(0, .v false [.ref 0 0]), (1, num .i64 k), (5, num .i64 i)], [⟨0, some ⟨48, .wend, o, ⟨none, true, 0, false⟩⟩⟩], []⟩)) x_.1 x_.2.1 x_.2.2
  pre := fun x_ => (fun (o : List EndS) (k : Int) (i : Int) => ((o = [] ∨ o = [zEnd, zEnd]) ∧ i = 0 ∧ k = 1)) x_.1 x_.2.1 x_.2.2
  nk := ⟨[1], [], [0]⟩
  nst := fun r_ => (fun (r : Int) (o : List EndS) => (⟨true, [(1, num .i64 r)], [⟨0, some ⟨48, .wend, o, ⟨none, true, 0, false⟩⟩⟩], []⟩)) r_.1 r_.2
  npost := fun x_ r_ => (fun x_ => (fun (o0 : List EndS) (k0 : Int) (i0 : Int) => ((fun r_ => (fun (r : Int) (o : List EndS) => (((o0 = [] ∧ o = [] ∧ r = 1) ∨ (o0 = [zEnd, zEnd] ∧ o = [mkE 1, mkE 22] ∧ r = 43)))) r_.1 r_.2))) x_.1 x_.2.1 x_.2.2) x_ r_
  rk := ⟨[], [], []⟩
  rst := fun _ => ⟨true, [], [], []⟩
  rpost := fun _ _ => False
def i_laws_markWldEndS_0 (x : (List EndS) × (Int) × (Int)) (n : Nat) (s : (List EndS) × (Int) × (Int)) : Prop := (fun x_ => (fun (o0 : List EndS) (k0 : Int) (i0 : Int) => ((fun s_ => (fun (o : List EndS) (k : Int) (i : Int) => ((o0 = [] ∧ o = [] ∧ i = 0 ∧ k = 1) ∨ (o0 = [zEnd, zEnd] ∧ ((o = [zEnd, zEnd] ∧ i = 0 ∧ k = 1 ∧ n = 2) ∨ (o = [mkE 1, zEnd] ∧ i = 1 ∧ k = 22 ∧ n = 1) ∨ (o = [mkE 1, mkE 22] ∧ i = 2 ∧ k = 43))))) s_.1 s_.2.1 s_.2.2))) x_.1 x_.2.1 x_.2.2) x s
def V_laws_markWldEndS : Env := ⟨tys, [(61, c_laws_markSegPartS_0), (62, c_laws_markByteS_0), (63, c_laws_markByteSS_0)], [], [], [], [(0, l_laws_markWldEndS_0.L)], [400000], [], []⟩
/-! laws.heldWldEndS -/
def c_laws_heldWldEndS : Ent := ctr (α := (List EndS) × (Int)) (ρ := (Int)) [] [] (rs (rR .wend) (rs1 rInt)) (fun x_ => (fun (a : List EndS) (k : Int) => ((a = [] ∨ a = [mkE 1, mkE 22]) ∧ k = 1)) x_.1 x_.2) (fun x_ r_ => (fun x_ => (fun (a : List EndS) (k : Int) => ((fun r_ => (fun (r : Int) => (((a = [] ∧ r = 1) ∨ (a = [mkE 1, mkE 22] ∧ r = 43)))) r_))) x_.1 x_.2) x_ r_) (fun r_ => (fun (r : Int) => ([rInt.to r])) r_) (fun r_ => (fun (r : Int) => ([])) r_)
def l_laws_heldWldEndS_0 : LoopD ((List EndS) × (Int) × (Int)) ((Int)) ((Empty)) where
  n := 311
  head := ⟨[0, 1, 5], [], []⟩
  st := fun x_ => (fun (a : List EndS) (k : Int) (i : Int) => (⟨true, [(0, .v false [.d (.r .wend a)]), (1, num .i64 k), (5, num .i64 i)], [], []⟩)) x_.1 x_.2.1 x_.2.2
  pre := fun x_ => (fun (a : List EndS) (k : Int) (i : Int) => ((a = [] ∨ a = [mkE 1, mkE 22]) ∧ i = 0 ∧ k = 1)) x_.1 x_.2.1 x_.2.2
  nk := ⟨[1], [], []⟩
  nst := fun r_ => (fun (r : Int) => (⟨true, [(1, num .i64 r)], [], []⟩)) r_
  npost := fun x_ r_ => (fun x_ => (fun (a0 : List EndS) (k0 : Int) (i0 : Int) => ((fun r_ => (fun (r : Int) => (((a0 = [] ∧ r = 1) ∨ (a0 = [mkE 1, mkE 22] ∧ r = 43)))) r_))) x_.1 x_.2.1 x_.2.2) x_ r_
  rk := ⟨[], [], []⟩
  rst := fun _ => ⟨true, [], [], []⟩
  rpost := fun _ _ => False
def i_laws_heldWldEndS_0 (x : (List EndS) × (Int) × (Int)) (n : Nat) (s : (List EndS) × (Int) × (Int)) : Prop := (fun x_ => (fun (a0 : List EndS) (k0 : Int) (i0 : Int) => ((fun s_ => (fun (a : List EndS) (k : Int) (i : Int) => (a = a0 ∧ ((a0 = [] ∧ i = 0 ∧ k = 1) ∨ (a0 = [mkE 1, mkE 22] ∧ ((i = 0 ∧ k = 1 ∧ n = 2) ∨ (i = 1 ∧ k = 22 ∧ n = 1) ∨ (i = 2 ∧ k = 43)))))) s_.1 s_.2.1 s_.2.2))) x_.1 x_.2.1 x_.2.2) x s
def V_laws_heldWldEndS : Env := ⟨tys, [(65, c_laws_heldSegPartS_0), (66, c_laws_heldByteS_0), (67, c_laws_heldByteSS_0)], [], [], [], [(0, l_laws_heldWldEndS_0.L)], [], [], []⟩
/-- A world, its rows one's own. -/
def dWldC (w : WldS) : List AC := [.d (.i .i64 w.cfg.mode), .d (.i .i64 w.cfg.win), .d (.i .i64 w.cfg.mps), .d (.i .i64 w.cfg.mtu), .d (.i .i64 w.cfg.try_), .own ⟨48, .wend, w.ends, m0⟩, .own ⟨49, .nets, w.net, m0⟩, .d (.i .i64 w.link)]
def dWld (w : WldS) : Arg := .v true (dWldC w)
def mkWldD : List AC → Option WldS
  | [.d (.i .i64 a0), .d (.i .i64 a1), .d (.i .i64 a2), .d (.i .i64 a3), .d (.i .i64 a4), .own ⟨e5, .wend, a5, ⟨none, false, 0, false⟩⟩, .own ⟨e6, .nets, a6, ⟨none, false, 0, false⟩⟩, .d (.i .i64 a7)] => if e5 = 48 ∧ e6 = 49 then some ⟨⟨a0, a1, a2, a3, a4⟩, a5, a6, a7⟩ else none
  | _ => none
theorem mkWldD_cells {cs : List AC} {w : WldS} (h : mkWldD cs = some w) : cs = dWldC w := by
  unfold mkWldD at h
  split at h
  · split at h
    · rename_i he
      cases h
      obtain ⟨rfl, rfl⟩ := he
      rfl
    · simp at h
  · simp at h
def odWld : Arg → Option WldS
  | .v true cs => mkWldD cs
  | _ => none
def rDWld : Rep WldS where
  to t := .v true (dWldC t)
  of := odWld
  inv a x h _ := by
    unfold odWld at h
    split at h
    · rw [mkWldD_cells h]
    · simp at h

/-! impl.WldNew@x -/
def c_impl_WldNew_x : Ent := ctr (α := (Cfg)) (ρ := (WldS)) [] [(0, 5), (0, 6)] (rs1 rCfg) (fun x_ => (fun (c : Cfg) => (True)) x_) (fun x_ r_ => (fun x_ => (fun (c : Cfg) => ((fun r_ => (fun (w : WldS) => (w = wldNew c)) r_))) x_) x_ r_) (fun r_ => (fun (w : WldS) => ([dWld w])) r_) (fun r_ => (fun (w : WldS) => ([])) r_)
def V_impl_WldNew_x : Env := ⟨tys, [(20, c_impl_CfgOk)], [(6, [0, 1]), (8, [0]), (9, [1])], [(1, 0), (2, 1)], [(3, ([1], [0, 1]))], [], [], [], []⟩
/-! laws.markWldWorld -/
def c_laws_markWldWorld : EntI := ctrI (α := (WldS) × (Int)) (ρ := (Int) × (List EndS) × (List (List NetS))) [(0, 5), (0, 6)] (rs rDWld (rs1 rInt)) (fun x_ => (fun (w : WldS) (k : Int) => (((w.ends = [] ∧ w.net = []) ∨ (w.ends = [zEnd, zEnd] ∧ w.net = [[], []])) ∧ k = 1)) x_.1 x_.2) (fun x_ r_ => (fun x_ => (fun (w : WldS) (k : Int) => ((fun r_ => (fun (r : Int) (e : List EndS) (m : List (List NetS)) => (((w.ends = [] ∧ e = [] ∧ r = 1) ∨ (w.ends = [zEnd, zEnd] ∧ e = [mkE 1, mkE 22] ∧ r = 43)) ∧ m = w.net)) r_.1 r_.2.1 r_.2.2))) x_.1 x_.2) x_ r_) (fun r_ => (fun (r : Int) (e : List EndS) (m : List (List NetS)) => ([rInt.to r])) r_.1 r_.2.1 r_.2.2) (fun r_ => (fun (r : Int) (e : List EndS) (m : List (List NetS)) => ([⟨48, .wend, e, m0⟩, ⟨49, .nets, m, m0⟩])) r_.1 r_.2.1 r_.2.2)
def V_laws_markWldWorld : Env := ⟨tys, [(42, c_laws_markNetMsgSS)], [], [(2, 0)], [], [], [], [(41, c_laws_markWldEndS)], []⟩
/-! laws.heldWldWorld -/
def c_laws_heldWldWorld : Ent := ctr (α := (WldS) × (Int)) (ρ := (Int)) [] [] (rs rWld (rs1 rInt)) (fun x_ => (fun (w : WldS) (k : Int) => (((w.ends = [] ∧ w.net = []) ∨ (w.ends = [mkE 1, mkE 22] ∧ w.net = [[], []])) ∧ k = 1)) x_.1 x_.2) (fun x_ r_ => (fun x_ => (fun (w : WldS) (k : Int) => ((fun r_ => (fun (r : Int) => ((w.ends = [] ∧ r = 1) ∨ (w.ends = [mkE 1, mkE 22] ∧ r = 43))) r_))) x_.1 x_.2) x_ r_) (fun r_ => (fun (r : Int) => ([rInt.to r])) r_) (fun r_ => (fun (r : Int) => ([])) r_)
def V_laws_heldWldWorld : Env := ⟨tys, [(43, c_laws_heldWldEndS), (44, c_laws_heldNetMsgSS)], [], [(2, 0)], [], [], [], [], []⟩
end Go.Proofs.YtkencmgcibbfaaaE

/- Calls answer what is promised: Z2. Conditions: none. -/
set_option linter.unusedVariables false
set_option maxHeartbeats 1600000
namespace Go.Proofs.YtkencmgcibbfaaaE
open Go
theorem vF_spec_DrawWldNew (l:List Int) (K:List Arg→List (List AC)→Prop) (hp:Bytes l) (hk:∀ (c:Cfg),(True)→K ([rCfg.to c]) ([])):(true=true)∧((Bytes l)∧(∀ r:RdS,(r=(RdS.mk (List.take (2000:Nat) l) (0:Int)))→(true=true)∧((true=true)∧((((Bytes r.b)∧(((List.length r.b)≤(2000:Nat))∧(((0:Int)≤r.p)∧(r.p≤(40000000:Int)))))∧((4:Int)≤(1000:Int)))∧(∀ r1:(Prod Cfg RdS),((RdOn r r1.snd (20:Int))∧(((0:Int)≤r1.fst.mtu)∧(r1.fst.mtu≤(25:Int))))→(true=true)∧((true=true)∧(K [(Arg.v true [(AC.d (D.i IntKind.i64 r1.fst.mode)),(AC.d (D.i IntKind.i64 r1.fst.win)),(AC.d (D.i IntKind.i64 r1.fst.mps)),(AC.d (D.i IntKind.i64 r1.fst.mtu)),(AC.d (D.i IntKind.i64 r1.fst.try_))])] []))))))) := by
  repeat' first
    | exact rfl
    | exact True.intro
    | with_reducible apply And.intro
    | (with_reducible intro r hr; subst hr)
    | with_reducible intro r
    | (refine iteI (fun h => ?_) (fun h => ?_))
  all_goals try simp (disch := omega) only [wr] at *
  all_goals first
    | assumption
    | exact hk (Prod.fst _) trivial
    | exact hk _ trivial
    | omega
    | exact hk ⟨_, _, _, _, _⟩ (by (try dsimp only); grind [RdOk, RdOn, Bytes.cons, Bytes.nil, Bytes.take])
    | grind [RdOk, RdOn, Bytes.cons, Bytes.nil, Bytes.take]
    | exact hk ⟨_, _, _, _, _⟩ (by (try dsimp only); refine ⟨?_, ?_, ?_⟩; all_goals first | (grind [RdOk, RdOn, Bytes.cons, Bytes.nil, Bytes.take]; done) | (simp; done) | (simp; omega))
theorem w_spec_DrawWldNew : Valid Try.prog 5 c_spec_DrawWldNew :=
  valid_ctr2 (V := V_spec_DrawWldNew) (tysB_ok tys_ok) ⟨(CallsL.cons w_spec_l20Cfg (CallsL.cons w_spec_l20Open (CallsL.nil _))), (IosL.nil _)⟩ mixed 0 2 Try.func5 rfl (by kernel_rfl)
    (fun c hc => by
      obtain rfl := Option.some.inj hc
      exact ⟨trivial, ⟨trivial, trivial⟩⟩)
    (fun x K hp hk => ⟨_, by kernel_rfl, vF_spec_DrawWldNew x K hp (fun c h => hk c h)⟩)
theorem vF_laws_markSegPartS_0 (a:List Part) (k:Int) (K:List Arg→List (List AC)→Prop) (hp:a=[]∧0≤k) (hk:∀ (r:Int),(r=k)→K ([rInt.to r]) ([])):∃ s:(Prod (List Part) Int),((KS.mk true [(Prod.mk (0:Nat) (T.v false [(Cm.d (D.r RK.part a))])),(Prod.mk (1:Nat) (num IntKind.i64 k)),(Prod.mk (5:Nat) (num IntKind.i64 (0:Int)))] [] [])=(KS.mk true [(Prod.mk (0:Nat) (T.v false [(Cm.d (D.r RK.part s.fst))])),(Prod.mk (1:Nat) (num IntKind.i64 s.snd)),(Prod.mk (5:Nat) (num IntKind.i64 (0:Int)))] [] []))∧((s.fst=([]:(List Part)))∧((∀ r:Int,(r=s.snd)→(true=true)∧(K [(aI IntKind.i64 r)] []))∧(∀ r:Empty,False→False))) := by
  obtain ⟨rfl, hk0⟩ := hp
  first
    | exact ⟨([], k), rfl, rfl, fun r hr => ⟨rfl, hk r hr⟩, fun r h => h.elim⟩
    | exact ⟨([], k), rfl, rfl, fun r hr => hk r hr, fun r h => h.elim⟩
theorem vL_laws_markSegPartS_0_0 (a0:List Part) (k0:Int) (a:List Part) (k:Int) (n:Nat) (hp:(fun (a:List Part) (k:Int) => (a=[])) a0 k0) (hi:k=k0∧a=[]):if ((decide ((0:Int) < (((List.length a):Nat):Int)))=true) then ((((0:Int)≤(0:Int))∧((0:Int) < (((List.length a):Nat):Int)))∧False) else (∃ r:Int,((KS.mk true [(Prod.mk (1:Nat) (num IntKind.i64 k))] [] [])=(KS.mk true [(Prod.mk (1:Nat) (num IntKind.i64 r))] [] []))∧(r=k0)) := by
  try dsimp only at hp
  obtain ⟨rfl, rfl⟩ := hi
  rw [if_neg (by decide)]
  exact ⟨_, rfl, rfl⟩
theorem vS_laws_markSegPartS_0_0 (a0 : List Part) (k0 : Int) (hp : (fun (a : List Part) (k : Int) => (a = [])) a0 k0) : ∃ n : Nat, (fun (a : List Part) (k : Int) => (k = k0 ∧ a = [])) a0 k0 := by
  try dsimp only at hp
  try dsimp only
  exact ⟨0, rfl, hp⟩
theorem w_laws_markSegPartS_0 : Valid Try.prog 61 c_laws_markSegPartS_0 :=
  valid_ctr2 (V := V_laws_markSegPartS_0) (tysB_ok tys_ok) ⟨(CallsL.nil _), (IosL.cons w_laws_markByteS (IosL.nil _))⟩ mixed 0 0 Try.func61 rfl (by kernel_rfl)
    (fun c hc => by
      obtain rfl := Option.some.inj hc
      exact ⟨trivial, ⟨⟨trivial, ⟨LoopD.ok2 (V := V_laws_markSegPartS_0) l_laws_markSegPartS_0_0 (LoopsM.cons 0 l_laws_markSegPartS_0_0 LoopsM.nil) 0 _ i_laws_markSegPartS_0_0 (fun x hx => vS_laws_markSegPartS_0_0 x.1 x.2 hx) (fun x hx n s hi => ⟨_, by kernel_rfl, vL_laws_markSegPartS_0_0 x.1 x.2 s.1 s.2 n hx hi⟩), ⟨⟨trivial, ⟨trivial, trivial⟩⟩, ⟨⟨trivial, ⟨trivial, ⟨trivial, ⟨trivial, trivial⟩⟩⟩⟩, trivial⟩⟩⟩⟩, ⟨trivial, trivial⟩⟩⟩)
    (fun x K hp hk => ⟨_, by kernel_rfl, vF_laws_markSegPartS_0 x.1 x.2 K hp (fun r h => hk r h)⟩)
theorem vF_laws_markByteS_0 (a:List Int) (k:Int) (K:List Arg→List (List AC)→Prop) (hp:a=[]∧0≤k) (hk:∀ (r:Int),(r=k)→K ([rInt.to r]) ([])):∃ s:(Prod (List Int) Int),((KS.mk true [(Prod.mk (0:Nat) (T.v false [(Cm.d (D.r RK.u8 a))])),(Prod.mk (1:Nat) (num IntKind.i64 k)),(Prod.mk (5:Nat) (num IntKind.i64 (0:Int)))] [] [])=(KS.mk true [(Prod.mk (0:Nat) (T.v false [(Cm.d (D.r RK.u8 s.fst))])),(Prod.mk (1:Nat) (num IntKind.i64 s.snd)),(Prod.mk (5:Nat) (num IntKind.i64 (0:Int)))] [] []))∧((s.fst=([]:(List Int)))∧((∀ r:Int,(r=s.snd)→(true=true)∧(K [(aI IntKind.i64 r)] []))∧(∀ r:Empty,False→False))) := by
  obtain ⟨rfl, hk0⟩ := hp
  first
    | exact ⟨([], k), rfl, rfl, fun r hr => ⟨rfl, hk r hr⟩, fun r h => h.elim⟩
    | exact ⟨([], k), rfl, rfl, fun r hr => hk r hr, fun r h => h.elim⟩
theorem vL_laws_markByteS_0_0 (a0:List Int) (k0:Int) (a:List Int) (k:Int) (n:Nat) (hp:(fun (a:List Int) (k:Int) => (a=[])) a0 k0) (hi:k=k0∧a=[]):if ((decide ((0:Int) < (((List.length a):Nat):Int)))=true) then ((((0:Int)≤(0:Int))∧((0:Int) < (((List.length a):Nat):Int)))∧False) else (∃ r:Int,((KS.mk true [(Prod.mk (1:Nat) (num IntKind.i64 k))] [] [])=(KS.mk true [(Prod.mk (1:Nat) (num IntKind.i64 r))] [] []))∧(r=k0)) := by
  try dsimp only at hp
  obtain ⟨rfl, rfl⟩ := hi
  rw [if_neg (by decide)]
  exact ⟨_, rfl, rfl⟩
theorem vS_laws_markByteS_0_0 (a0 : List Int) (k0 : Int) (hp : (fun (a : List Int) (k : Int) => (a = [])) a0 k0) : ∃ n : Nat, (fun (a : List Int) (k : Int) => (k = k0 ∧ a = [])) a0 k0 := by
  try dsimp only at hp
  try dsimp only
  exact ⟨0, rfl, hp⟩
theorem w_laws_markByteS_0 : Valid Try.prog 62 c_laws_markByteS_0 :=
  valid_ctr2 (V := V_laws_markByteS_0) (tysB_ok tys_ok) ⟨(CallsL.nil _), (IosL.nil _)⟩ mixed 0 0 Try.func62 rfl (by kernel_rfl)
    (fun c hc => by
      obtain rfl := Option.some.inj hc
      exact ⟨trivial, ⟨⟨trivial, ⟨LoopD.ok2 (V := V_laws_markByteS_0) l_laws_markByteS_0_0 (LoopsM.cons 0 l_laws_markByteS_0_0 LoopsM.nil) 0 _ i_laws_markByteS_0_0 (fun x hx => vS_laws_markByteS_0_0 x.1 x.2 hx) (fun x hx n s hi => ⟨_, by kernel_rfl, vL_laws_markByteS_0_0 x.1 x.2 s.1 s.2 n hx hi⟩), ⟨⟨trivial, ⟨trivial, trivial⟩⟩, ⟨⟨trivial, trivial⟩, trivial⟩⟩⟩⟩, ⟨trivial, trivial⟩⟩⟩)
    (fun x K hp hk => ⟨_, by kernel_rfl, vF_laws_markByteS_0 x.1 x.2 K hp (fun r h => hk r h)⟩)
theorem vF_laws_markByteSS_0 (a:List (List Int)) (k:Int) (K:List Arg→List (List AC)→Prop) (hp:a=[]∧0≤k) (hk:∀ (r:Int),(r=k)→K ([rInt.to r]) ([])):∃ s:(Prod (List (List Int)) Int),((KS.mk true [(Prod.mk (0:Nat) (T.v false [(Cm.d (D.r RK.byr a))])),(Prod.mk (1:Nat) (num IntKind.i64 k)),(Prod.mk (5:Nat) (num IntKind.i64 (0:Int)))] [] [])=(KS.mk true [(Prod.mk (0:Nat) (T.v false [(Cm.d (D.r RK.byr s.fst))])),(Prod.mk (1:Nat) (num IntKind.i64 s.snd)),(Prod.mk (5:Nat) (num IntKind.i64 (0:Int)))] [] []))∧((s.fst=([]:(List (List Int))))∧((∀ r:Int,(r=s.snd)→(true=true)∧(K [(aI IntKind.i64 r)] []))∧(∀ r:Empty,False→False))) := by
  obtain ⟨rfl, hk0⟩ := hp
  first
    | exact ⟨([], k), rfl, rfl, fun r hr => ⟨rfl, hk r hr⟩, fun r h => h.elim⟩
    | exact ⟨([], k), rfl, rfl, fun r hr => hk r hr, fun r h => h.elim⟩
theorem vL_laws_markByteSS_0_0 (a0:List (List Int)) (k0:Int) (a:List (List Int)) (k:Int) (n:Nat) (hp:(fun (a:List (List Int)) (k:Int) => (a=[])) a0 k0) (hi:k=k0∧a=[]):if ((decide ((0:Int) < (((List.length a):Nat):Int)))=true) then ((((0:Int)≤(0:Int))∧((0:Int) < (((List.length a):Nat):Int)))∧False) else (∃ r:Int,((KS.mk true [(Prod.mk (1:Nat) (num IntKind.i64 k))] [] [])=(KS.mk true [(Prod.mk (1:Nat) (num IntKind.i64 r))] [] []))∧(r=k0)) := by
  try dsimp only at hp
  obtain ⟨rfl, rfl⟩ := hi
  rw [if_neg (by decide)]
  exact ⟨_, rfl, rfl⟩
theorem vS_laws_markByteSS_0_0 (a0 : List (List Int)) (k0 : Int) (hp : (fun (a : List (List Int)) (k : Int) => (a = [])) a0 k0) : ∃ n : Nat, (fun (a : List (List Int)) (k : Int) => (k = k0 ∧ a = [])) a0 k0 := by
  try dsimp only at hp
  try dsimp only
  exact ⟨0, rfl, hp⟩
theorem w_laws_markByteSS_0 : Valid Try.prog 63 c_laws_markByteSS_0 :=
  valid_ctr2 (V := V_laws_markByteSS_0) (tysB_ok tys_ok) ⟨(CallsL.nil _), (IosL.cons w_laws_markByteS (IosL.nil _))⟩ mixed 0 0 Try.func63 rfl (by kernel_rfl)
    (fun c hc => by
      obtain rfl := Option.some.inj hc
      exact ⟨trivial, ⟨⟨trivial, ⟨LoopD.ok2 (V := V_laws_markByteSS_0) l_laws_markByteSS_0_0 (LoopsM.cons 0 l_laws_markByteSS_0_0 LoopsM.nil) 0 _ i_laws_markByteSS_0_0 (fun x hx => vS_laws_markByteSS_0_0 x.1 x.2 hx) (fun x hx n s hi => ⟨_, by kernel_rfl, vL_laws_markByteSS_0_0 x.1 x.2 s.1 s.2 n hx hi⟩), ⟨⟨trivial, ⟨trivial, trivial⟩⟩, ⟨trivial, trivial⟩⟩⟩⟩, ⟨trivial, trivial⟩⟩⟩)
    (fun x K hp hk => ⟨_, by kernel_rfl, vF_laws_markByteSS_0 x.1 x.2 K hp (fun r h => hk r h)⟩)
theorem vF_laws_markNetMsgS_0 (a:List NetS) (k:Int) (K:List Arg→List (List AC)→Prop) (hp:a=[]∧0≤k) (hk:∀ (r:Int),(r=k)→K ([rInt.to r]) ([])):∃ s:(Prod (List NetS) Int),((KS.mk true [(Prod.mk (0:Nat) (T.v false [(Cm.d (D.r RK.netm a))])),(Prod.mk (1:Nat) (num IntKind.i64 k)),(Prod.mk (5:Nat) (num IntKind.i64 (0:Int)))] [] [])=(KS.mk true [(Prod.mk (0:Nat) (T.v false [(Cm.d (D.r RK.netm s.fst))])),(Prod.mk (1:Nat) (num IntKind.i64 s.snd)),(Prod.mk (5:Nat) (num IntKind.i64 (0:Int)))] [] []))∧((s.fst=([]:(List NetS)))∧((∀ r:Int,(r=s.snd)→(true=true)∧(K [(aI IntKind.i64 r)] []))∧(∀ r:Empty,False→False))) := by
  obtain ⟨rfl, hk0⟩ := hp
  first
    | exact ⟨([], k), rfl, rfl, fun r hr => ⟨rfl, hk r hr⟩, fun r h => h.elim⟩
    | exact ⟨([], k), rfl, rfl, fun r hr => hk r hr, fun r h => h.elim⟩
theorem vL_laws_markNetMsgS_0_0 (a0:List NetS) (k0:Int) (a:List NetS) (k:Int) (n:Nat) (hp:(fun (a:List NetS) (k:Int) => (a=[])) a0 k0) (hi:k=k0∧a=[]):if ((decide ((0:Int) < (((List.length a):Nat):Int)))=true) then (((3:Int) ≠ (0:Int))∧((((0:Int)≤(0:Int))∧((0:Int) < (((List.length a):Nat):Int)))∧False)) else (∃ r:Int,((KS.mk true [(Prod.mk (1:Nat) (num IntKind.i64 k))] [] [])=(KS.mk true [(Prod.mk (1:Nat) (num IntKind.i64 r))] [] []))∧(r=k0)) := by
  try dsimp only at hp
  obtain ⟨rfl, rfl⟩ := hi
  rw [if_neg (by decide)]
  exact ⟨_, rfl, rfl⟩
theorem vS_laws_markNetMsgS_0_0 (a0 : List NetS) (k0 : Int) (hp : (fun (a : List NetS) (k : Int) => (a = [])) a0 k0) : ∃ n : Nat, (fun (a : List NetS) (k : Int) => (k = k0 ∧ a = [])) a0 k0 := by
  try dsimp only at hp
  try dsimp only
  exact ⟨0, rfl, hp⟩
theorem w_laws_markNetMsgS_0 : Valid Try.prog 64 c_laws_markNetMsgS_0 :=
  valid_ctr2 (V := V_laws_markNetMsgS_0) (tysB_ok tys_ok) ⟨(CallsL.nil _), (IosL.cons w_laws_markByteS (IosL.nil _))⟩ mixed 0 0 Try.func64 rfl (by kernel_rfl)
    (fun c hc => by
      obtain rfl := Option.some.inj hc
      exact ⟨trivial, ⟨⟨trivial, ⟨LoopD.ok2 (V := V_laws_markNetMsgS_0) l_laws_markNetMsgS_0_0 (LoopsM.cons 0 l_laws_markNetMsgS_0_0 LoopsM.nil) 0 _ i_laws_markNetMsgS_0_0 (fun x hx => vS_laws_markNetMsgS_0_0 x.1 x.2 hx) (fun x hx n s hi => ⟨_, by kernel_rfl, vL_laws_markNetMsgS_0_0 x.1 x.2 s.1 s.2 n hx hi⟩), ⟨⟨trivial, ⟨trivial, trivial⟩⟩, ⟨⟨trivial, ⟨trivial, trivial⟩⟩, trivial⟩⟩⟩⟩, ⟨trivial, trivial⟩⟩⟩)
    (fun x K hp hk => ⟨_, by kernel_rfl, vF_laws_markNetMsgS_0 x.1 x.2 K hp (fun r h => hk r h)⟩)
theorem vF_laws_heldSegPartS_0 (a:List Part) (k:Int) (K:List Arg→List (List AC)→Prop) (hp:a=[]∧0≤k) (hk:∀ (r:Int),(r=k)→K ([rInt.to r]) ([])):∃ s:(Prod (List Part) Int),((KS.mk true [(Prod.mk (0:Nat) (T.v false [(Cm.d (D.r RK.part a))])),(Prod.mk (1:Nat) (num IntKind.i64 k)),(Prod.mk (5:Nat) (num IntKind.i64 (0:Int)))] [] [])=(KS.mk true [(Prod.mk (0:Nat) (T.v false [(Cm.d (D.r RK.part s.fst))])),(Prod.mk (1:Nat) (num IntKind.i64 s.snd)),(Prod.mk (5:Nat) (num IntKind.i64 (0:Int)))] [] []))∧((s.fst=([]:(List Part)))∧((∀ r:Int,(r=s.snd)→(true=true)∧(K [(aI IntKind.i64 r)] []))∧(∀ r:Empty,False→False))) := by
  obtain ⟨rfl, hk0⟩ := hp
  first
    | exact ⟨([], k), rfl, rfl, fun r hr => ⟨rfl, hk r hr⟩, fun r h => h.elim⟩
    | exact ⟨([], k), rfl, rfl, fun r hr => hk r hr, fun r h => h.elim⟩
theorem vL_laws_heldSegPartS_0_0 (a0:List Part) (k0:Int) (a:List Part) (k:Int) (n:Nat) (hp:(fun (a:List Part) (k:Int) => (a=[])) a0 k0) (hi:k=k0∧a=[]):if ((decide ((0:Int) < (((List.length a):Nat):Int)))=true) then ((((0:Int)≤(0:Int))∧((0:Int) < (((List.length a):Nat):Int)))∧(if (((at_part a (0:Nat)).seg != k)=true) then (∃ r:Empty,((KS.mk true [] [] [])=(KS.mk true [] [] []))∧False) else ((((0:Int)≤(0:Int))∧((0:Int) < (((List.length a):Nat):Int)))∧(if (((at_part a (0:Nat)).len != (IntKind.wrap IntKind.i64 (k + (1:Int))))=true) then (∃ r:Empty,((KS.mk true [] [] [])=(KS.mk true [] [] []))∧False) else ((((0:Int)≤(0:Int))∧((0:Int) < (((List.length a):Nat):Int)))∧((true=true)∧((((List.length (at_part a (0:Nat)).data)≤(137438953472:Nat))∧(((0:Int)≤(IntKind.wrap IntKind.i64 ((IntKind.wrap IntKind.i64 (k + (1:Int))) + (1:Int))))∧(((IntKind.wrap IntKind.i64 ((IntKind.wrap IntKind.i64 (k + (1:Int))) + (1:Int)))≤(1099511627776:Int))∧((at_part a (0:Nat)).data=(markB (at_part a (0:Nat)).data (IntKind.wrap IntKind.i64 ((IntKind.wrap IntKind.i64 (k + (1:Int))) + (1:Int))))))))∧(∀ r:Int,(r=((IntKind.wrap IntKind.i64 ((IntKind.wrap IntKind.i64 (k + (1:Int))) + (1:Int))) + (((List.length (at_part a (0:Nat)).data):Nat):Int)))→(true=true)∧(if ((decide (r < (0:Int)))=true) then (∃ r1:Empty,((KS.mk true [] [] [])=(KS.mk true [] [] []))∧False) else (∃ s:(Prod (List Part) Int),((KS.mk true [(Prod.mk (0:Nat) (T.v false [(Cm.d (D.r RK.part a))])),(Prod.mk (1:Nat) (num IntKind.i64 r)),(Prod.mk (5:Nat) (num IntKind.i64 (1:Int)))] [] [])=(KS.mk true [(Prod.mk (0:Nat) (T.v false [(Cm.d (D.r RK.part s.fst))])),(Prod.mk (1:Nat) (num IntKind.i64 s.snd)),(Prod.mk (5:Nat) (num IntKind.i64 (0:Int)))] [] []))∧(∃ m:Nat,(m < n)∧((s.snd=k0)∧(s.fst=([]:(List Part))))))))))))))) else (∃ r:Int,((KS.mk true [(Prod.mk (1:Nat) (num IntKind.i64 k))] [] [])=(KS.mk true [(Prod.mk (1:Nat) (num IntKind.i64 r))] [] []))∧(r=k0)) := by
  try dsimp only at hp
  obtain ⟨rfl, rfl⟩ := hi
  rw [if_neg (by decide)]
  exact ⟨_, rfl, rfl⟩
theorem vS_laws_heldSegPartS_0_0 (a0 : List Part) (k0 : Int) (hp : (fun (a : List Part) (k : Int) => (a = [])) a0 k0) : ∃ n : Nat, (fun (a : List Part) (k : Int) => (k = k0 ∧ a = [])) a0 k0 := by
  try dsimp only at hp
  try dsimp only
  exact ⟨0, rfl, hp⟩
theorem w_laws_heldSegPartS_0 : Valid Try.prog 65 c_laws_heldSegPartS_0 :=
  valid_ctr2 (V := V_laws_heldSegPartS_0) (tysB_ok tys_ok) ⟨(CallsL.cons w_laws_heldByteS (CallsL.nil _)), (IosL.nil _)⟩ mixed 0 0 Try.func65 rfl (by kernel_rfl)
    (fun c hc => by
      obtain rfl := Option.some.inj hc
      exact ⟨trivial, ⟨⟨trivial, ⟨LoopD.ok2 (V := V_laws_heldSegPartS_0) l_laws_heldSegPartS_0_0 (LoopsM.cons 0 l_laws_heldSegPartS_0_0 LoopsM.nil) 0 _ i_laws_heldSegPartS_0_0 (fun x hx => vS_laws_heldSegPartS_0_0 x.1 x.2 hx) (fun x hx n s hi => ⟨_, by kernel_rfl, vL_laws_heldSegPartS_0_0 x.1 x.2 s.1 s.2 n hx hi⟩), ⟨⟨trivial, ⟨trivial, trivial⟩⟩, ⟨⟨⟨trivial, ⟨⟨trivial, trivial⟩, trivial⟩⟩, ⟨trivial, ⟨⟨trivial, ⟨⟨trivial, trivial⟩, trivial⟩⟩, ⟨trivial, ⟨trivial, ⟨trivial, ⟨⟨trivial, trivial⟩, trivial⟩⟩⟩⟩⟩⟩⟩, trivial⟩⟩⟩⟩, ⟨trivial, trivial⟩⟩⟩)
    (fun x K hp hk => ⟨_, by kernel_rfl, vF_laws_heldSegPartS_0 x.1 x.2 K hp (fun r h => hk r h)⟩)
theorem vF_laws_heldByteS_0 (a:List Int) (k:Int) (K:List Arg→List (List AC)→Prop) (hp:a=[]∧0≤k) (hk:∀ (r:Int),(r=k)→K ([rInt.to r]) ([])):∃ s:(Prod (List Int) Int),((KS.mk true [(Prod.mk (0:Nat) (T.v false [(Cm.d (D.r RK.u8 a))])),(Prod.mk (1:Nat) (num IntKind.i64 k)),(Prod.mk (5:Nat) (num IntKind.i64 (0:Int)))] [] [])=(KS.mk true [(Prod.mk (0:Nat) (T.v false [(Cm.d (D.r RK.u8 s.fst))])),(Prod.mk (1:Nat) (num IntKind.i64 s.snd)),(Prod.mk (5:Nat) (num IntKind.i64 (0:Int)))] [] []))∧((s.fst=([]:(List Int)))∧((∀ r:Int,(r=s.snd)→(true=true)∧(K [(aI IntKind.i64 r)] []))∧(∀ r:Empty,False→False))) := by
  obtain ⟨rfl, hk0⟩ := hp
  first
    | exact ⟨([], k), rfl, rfl, fun r hr => ⟨rfl, hk r hr⟩, fun r h => h.elim⟩
    | exact ⟨([], k), rfl, rfl, fun r hr => hk r hr, fun r h => h.elim⟩
theorem vL_laws_heldByteS_0_0 (a0:List Int) (k0:Int) (a:List Int) (k:Int) (n:Nat) (hp:(fun (a:List Int) (k:Int) => (a=[])) a0 k0) (hi:k=k0∧a=[]):if ((decide ((0:Int) < (((List.length a):Nat):Int)))=true) then ((((0:Int)≤(0:Int))∧((0:Int) < (((List.length a):Nat):Int)))∧(if (((at_u8 a (0:Nat)) != (IntKind.wrap IntKind.u8 k))=true) then (∃ r:Empty,((KS.mk true [] [] [])=(KS.mk true [] [] []))∧False) else (∃ s:(Prod (List Int) Int),((KS.mk true [(Prod.mk (0:Nat) (T.v false [(Cm.d (D.r RK.u8 a))])),(Prod.mk (1:Nat) (num IntKind.i64 (IntKind.wrap IntKind.i64 (k + (1:Int))))),(Prod.mk (5:Nat) (num IntKind.i64 (1:Int)))] [] [])=(KS.mk true [(Prod.mk (0:Nat) (T.v false [(Cm.d (D.r RK.u8 s.fst))])),(Prod.mk (1:Nat) (num IntKind.i64 s.snd)),(Prod.mk (5:Nat) (num IntKind.i64 (0:Int)))] [] []))∧(∃ m:Nat,(m < n)∧((s.snd=k0)∧(s.fst=([]:(List Int)))))))) else (∃ r:Int,((KS.mk true [(Prod.mk (1:Nat) (num IntKind.i64 k))] [] [])=(KS.mk true [(Prod.mk (1:Nat) (num IntKind.i64 r))] [] []))∧(r=k0)) := by
  try dsimp only at hp
  obtain ⟨rfl, rfl⟩ := hi
  rw [if_neg (by decide)]
  exact ⟨_, rfl, rfl⟩
theorem vS_laws_heldByteS_0_0 (a0 : List Int) (k0 : Int) (hp : (fun (a : List Int) (k : Int) => (a = [])) a0 k0) : ∃ n : Nat, (fun (a : List Int) (k : Int) => (k = k0 ∧ a = [])) a0 k0 := by
  try dsimp only at hp
  try dsimp only
  exact ⟨0, rfl, hp⟩
theorem w_laws_heldByteS_0 : Valid Try.prog 66 c_laws_heldByteS_0 :=
  valid_ctr2 (V := V_laws_heldByteS_0) (tysB_ok tys_ok) ⟨(CallsL.nil _), (IosL.nil _)⟩ mixed 0 0 Try.func66 rfl (by kernel_rfl)
    (fun c hc => by
      obtain rfl := Option.some.inj hc
      exact ⟨trivial, ⟨⟨trivial, ⟨LoopD.ok2 (V := V_laws_heldByteS_0) l_laws_heldByteS_0_0 (LoopsM.cons 0 l_laws_heldByteS_0_0 LoopsM.nil) 0 _ i_laws_heldByteS_0_0 (fun x hx => vS_laws_heldByteS_0_0 x.1 x.2 hx) (fun x hx n s hi => ⟨_, by kernel_rfl, vL_laws_heldByteS_0_0 x.1 x.2 s.1 s.2 n hx hi⟩), ⟨⟨trivial, ⟨trivial, trivial⟩⟩, ⟨⟨⟨trivial, ⟨⟨trivial, trivial⟩, trivial⟩⟩, trivial⟩, trivial⟩⟩⟩⟩, ⟨trivial, trivial⟩⟩⟩)
    (fun x K hp hk => ⟨_, by kernel_rfl, vF_laws_heldByteS_0 x.1 x.2 K hp (fun r h => hk r h)⟩)
theorem vF_laws_heldByteSS_0 (a:List (List Int)) (k:Int) (K:List Arg→List (List AC)→Prop) (hp:a=[]∧0≤k) (hk:∀ (r:Int),(r=k)→K ([rInt.to r]) ([])):∃ s:(Prod (List (List Int)) Int),((KS.mk true [(Prod.mk (0:Nat) (T.v false [(Cm.d (D.r RK.byr a))])),(Prod.mk (1:Nat) (num IntKind.i64 k)),(Prod.mk (5:Nat) (num IntKind.i64 (0:Int)))] [] [])=(KS.mk true [(Prod.mk (0:Nat) (T.v false [(Cm.d (D.r RK.byr s.fst))])),(Prod.mk (1:Nat) (num IntKind.i64 s.snd)),(Prod.mk (5:Nat) (num IntKind.i64 (0:Int)))] [] []))∧((s.fst=([]:(List (List Int))))∧((∀ r:Int,(r=s.snd)→(true=true)∧(K [(aI IntKind.i64 r)] []))∧(∀ r:Empty,False→False))) := by
  obtain ⟨rfl, hk0⟩ := hp
  first
    | exact ⟨([], k), rfl, rfl, fun r hr => ⟨rfl, hk r hr⟩, fun r h => h.elim⟩
    | exact ⟨([], k), rfl, rfl, fun r hr => hk r hr, fun r h => h.elim⟩
theorem vL_laws_heldByteSS_0_0 (a0:List (List Int)) (k0:Int) (a:List (List Int)) (k:Int) (n:Nat) (hp:(fun (a:List (List Int)) (k:Int) => (a=[])) a0 k0) (hi:k=k0∧a=[]):if ((decide ((0:Int) < (((List.length a):Nat):Int)))=true) then ((((0:Int)≤(0:Int))∧((0:Int) < (((List.length a):Nat):Int)))∧((true=true)∧((((List.length (at_byr a (0:Nat)))≤(137438953472:Nat))∧(((0:Int)≤k)∧((k≤(1099511627776:Int))∧((at_byr a (0:Nat))=(markB (at_byr a (0:Nat)) k)))))∧(∀ r:Int,(r=(k + (((List.length (at_byr a (0:Nat))):Nat):Int)))→(true=true)∧(if ((decide (r < (0:Int)))=true) then (∃ r1:Empty,((KS.mk true [] [] [])=(KS.mk true [] [] []))∧False) else (∃ s:(Prod (List (List Int)) Int),((KS.mk true [(Prod.mk (0:Nat) (T.v false [(Cm.d (D.r RK.byr a))])),(Prod.mk (1:Nat) (num IntKind.i64 r)),(Prod.mk (5:Nat) (num IntKind.i64 (1:Int)))] [] [])=(KS.mk true [(Prod.mk (0:Nat) (T.v false [(Cm.d (D.r RK.byr s.fst))])),(Prod.mk (1:Nat) (num IntKind.i64 s.snd)),(Prod.mk (5:Nat) (num IntKind.i64 (0:Int)))] [] []))∧(∃ m:Nat,(m < n)∧((s.snd=k0)∧(s.fst=([]:(List (List Int)))))))))))) else (∃ r:Int,((KS.mk true [(Prod.mk (1:Nat) (num IntKind.i64 k))] [] [])=(KS.mk true [(Prod.mk (1:Nat) (num IntKind.i64 r))] [] []))∧(r=k0)) := by
  try dsimp only at hp
  obtain ⟨rfl, rfl⟩ := hi
  rw [if_neg (by decide)]
  exact ⟨_, rfl, rfl⟩
theorem vS_laws_heldByteSS_0_0 (a0 : List (List Int)) (k0 : Int) (hp : (fun (a : List (List Int)) (k : Int) => (a = [])) a0 k0) : ∃ n : Nat, (fun (a : List (List Int)) (k : Int) => (k = k0 ∧ a = [])) a0 k0 := by
  try dsimp only at hp
  try dsimp only
  exact ⟨0, rfl, hp⟩
theorem w_laws_heldByteSS_0 : Valid Try.prog 67 c_laws_heldByteSS_0 :=
  valid_ctr2 (V := V_laws_heldByteSS_0) (tysB_ok tys_ok) ⟨(CallsL.cons w_laws_heldByteS (CallsL.nil _)), (IosL.nil _)⟩ mixed 0 0 Try.func67 rfl (by kernel_rfl)
    (fun c hc => by
      obtain rfl := Option.some.inj hc
      exact ⟨trivial, ⟨⟨trivial, ⟨LoopD.ok2 (V := V_laws_heldByteSS_0) l_laws_heldByteSS_0_0 (LoopsM.cons 0 l_laws_heldByteSS_0_0 LoopsM.nil) 0 _ i_laws_heldByteSS_0_0 (fun x hx => vS_laws_heldByteSS_0_0 x.1 x.2 hx) (fun x hx n s hi => ⟨_, by kernel_rfl, vL_laws_heldByteSS_0_0 x.1 x.2 s.1 s.2 n hx hi⟩), ⟨⟨trivial, ⟨trivial, trivial⟩⟩, ⟨⟨trivial, ⟨trivial, ⟨⟨trivial, trivial⟩, trivial⟩⟩⟩, trivial⟩⟩⟩⟩, ⟨trivial, trivial⟩⟩⟩)
    (fun x K hp hk => ⟨_, by kernel_rfl, vF_laws_heldByteSS_0 x.1 x.2 K hp (fun r h => hk r h)⟩)
theorem vF_laws_heldNetMsgS_0 (a:List NetS) (k:Int) (K:List Arg→List (List AC)→Prop) (hp:a=[]∧0≤k) (hk:∀ (r:Int),(r=k)→K ([rInt.to r]) ([])):∃ s:(Prod (List NetS) Int),((KS.mk true [(Prod.mk (0:Nat) (T.v false [(Cm.d (D.r RK.netm a))])),(Prod.mk (1:Nat) (num IntKind.i64 k)),(Prod.mk (5:Nat) (num IntKind.i64 (0:Int)))] [] [])=(KS.mk true [(Prod.mk (0:Nat) (T.v false [(Cm.d (D.r RK.netm s.fst))])),(Prod.mk (1:Nat) (num IntKind.i64 s.snd)),(Prod.mk (5:Nat) (num IntKind.i64 (0:Int)))] [] []))∧((s.fst=([]:(List NetS)))∧((∀ r:Int,(r=s.snd)→(true=true)∧(K [(aI IntKind.i64 r)] []))∧(∀ r:Empty,False→False))) := by
  obtain ⟨rfl, hk0⟩ := hp
  first
    | exact ⟨([], k), rfl, rfl, fun r hr => ⟨rfl, hk r hr⟩, fun r h => h.elim⟩
    | exact ⟨([], k), rfl, rfl, fun r hr => hk r hr, fun r h => h.elim⟩
theorem vL_laws_heldNetMsgS_0_0 (a0:List NetS) (k0:Int) (a:List NetS) (k:Int) (n:Nat) (hp:(fun (a:List NetS) (k:Int) => (a=[])) a0 k0) (hi:k=k0∧a=[]):if ((decide ((0:Int) < (((List.length a):Nat):Int)))=true) then ((((0:Int)≤(0:Int))∧((0:Int) < (((List.length a):Nat):Int)))∧(((3:Int) ≠ (0:Int))∧(if (((at_netm a (0:Nat)).bent != ((Int.tmod k (3:Int)) == (0:Int)))=true) then (∃ r:Empty,((KS.mk true [] [] [])=(KS.mk true [] [] []))∧False) else ((((0:Int)≤(0:Int))∧((0:Int) < (((List.length a):Nat):Int)))∧((true=true)∧((((List.length (at_netm a (0:Nat)).bytes)≤(137438953472:Nat))∧(((0:Int)≤(IntKind.wrap IntKind.i64 (k + (1:Int))))∧(((IntKind.wrap IntKind.i64 (k + (1:Int)))≤(1099511627776:Int))∧((at_netm a (0:Nat)).bytes=(markB (at_netm a (0:Nat)).bytes (IntKind.wrap IntKind.i64 (k + (1:Int))))))))∧(∀ r:Int,(r=((IntKind.wrap IntKind.i64 (k + (1:Int))) + (((List.length (at_netm a (0:Nat)).bytes):Nat):Int)))→(true=true)∧(if ((decide (r < (0:Int)))=true) then (∃ r1:Empty,((KS.mk true [] [] [])=(KS.mk true [] [] []))∧False) else (∃ s:(Prod (List NetS) Int),((KS.mk true [(Prod.mk (0:Nat) (T.v false [(Cm.d (D.r RK.netm a))])),(Prod.mk (1:Nat) (num IntKind.i64 r)),(Prod.mk (5:Nat) (num IntKind.i64 (1:Int)))] [] [])=(KS.mk true [(Prod.mk (0:Nat) (T.v false [(Cm.d (D.r RK.netm s.fst))])),(Prod.mk (1:Nat) (num IntKind.i64 s.snd)),(Prod.mk (5:Nat) (num IntKind.i64 (0:Int)))] [] []))∧(∃ m:Nat,(m < n)∧((s.snd=k0)∧(s.fst=([]:(List NetS)))))))))))))) else (∃ r:Int,((KS.mk true [(Prod.mk (1:Nat) (num IntKind.i64 k))] [] [])=(KS.mk true [(Prod.mk (1:Nat) (num IntKind.i64 r))] [] []))∧(r=k0)) := by
  try dsimp only at hp
  obtain ⟨rfl, rfl⟩ := hi
  rw [if_neg (by decide)]
  exact ⟨_, rfl, rfl⟩
theorem vS_laws_heldNetMsgS_0_0 (a0 : List NetS) (k0 : Int) (hp : (fun (a : List NetS) (k : Int) => (a = [])) a0 k0) : ∃ n : Nat, (fun (a : List NetS) (k : Int) => (k = k0 ∧ a = [])) a0 k0 := by
  try dsimp only at hp
  try dsimp only
  exact ⟨0, rfl, hp⟩
theorem w_laws_heldNetMsgS_0 : Valid Try.prog 68 c_laws_heldNetMsgS_0 :=
  valid_ctr2 (V := V_laws_heldNetMsgS_0) (tysB_ok tys_ok) ⟨(CallsL.cons w_laws_heldByteS (CallsL.nil _)), (IosL.nil _)⟩ mixed 0 0 Try.func68 rfl (by kernel_rfl)
    (fun c hc => by
      obtain rfl := Option.some.inj hc
      exact ⟨trivial, ⟨⟨trivial, ⟨LoopD.ok2 (V := V_laws_heldNetMsgS_0) l_laws_heldNetMsgS_0_0 (LoopsM.cons 0 l_laws_heldNetMsgS_0_0 LoopsM.nil) 0 _ i_laws_heldNetMsgS_0_0 (fun x hx => vS_laws_heldNetMsgS_0_0 x.1 x.2 hx) (fun x hx n s hi => ⟨_, by kernel_rfl, vL_laws_heldNetMsgS_0_0 x.1 x.2 s.1 s.2 n hx hi⟩), ⟨⟨trivial, ⟨trivial, trivial⟩⟩, ⟨⟨⟨trivial, ⟨⟨trivial, trivial⟩, trivial⟩⟩, ⟨trivial, ⟨trivial, ⟨trivial, ⟨⟨trivial, trivial⟩, trivial⟩⟩⟩⟩⟩, trivial⟩⟩⟩⟩, ⟨trivial, trivial⟩⟩⟩)
    (fun x K hp hk => ⟨_, by kernel_rfl, vF_laws_heldNetMsgS_0 x.1 x.2 K hp (fun r h => hk r h)⟩)
theorem vF_laws_markNetMsgSS (a:List (List NetS)) (k:Int) (K:List Arg→List (List AC)→Prop) (hp:(a=[]∨a=[[],[]])∧0≤k) (hk:∀ (r:Int),(r=k)→K ([rInt.to r]) ([])):∃ s:(Prod (List (List NetS)) (Prod Int Int)),((KS.mk true [(Prod.mk (0:Nat) (T.v false [(Cm.d (D.r RK.nets a))])),(Prod.mk (1:Nat) (num IntKind.i64 k)),(Prod.mk (5:Nat) (num IntKind.i64 (0:Int)))] [] [])=(KS.mk true [(Prod.mk (0:Nat) (T.v false [(Cm.d (D.r RK.nets s.fst))])),(Prod.mk (1:Nat) (num IntKind.i64 s.snd.fst)),(Prod.mk (5:Nat) (num IntKind.i64 s.snd.snd))] [] []))∧((((s.fst=([]:(List (List NetS))))∨(s.fst=(([]:(List NetS)) :: (([]:(List NetS)) :: ([]:(List (List NetS))):(List (List NetS))):(List (List NetS)))))∧((s.snd.snd=(0:Int))∧((0:Int)≤s.snd.fst)))∧((∀ r:Int,(r=s.snd.fst)→(true=true)∧(K [(aI IntKind.i64 r)] []))∧(∀ r:Empty,False→False))) := by
  exact ⟨(a, k, 0), rfl, ⟨hp.1, rfl, hp.2⟩, fun r hr => ⟨rfl, hk r hr⟩, fun r h => h.elim⟩
theorem vL_laws_markNetMsgSS_0 (a0:List (List NetS)) (k0:Int) (i0:Int) (a:List (List NetS)) (k:Int) (i:Int) (n:Nat) (hp:(fun (a:List (List NetS)) (k:Int) (i:Int) => ((a=[]∨a=[[],[]])∧i=0∧0≤k)) a0 k0 i0) (hi:a=a0∧k=k0∧0≤i∧i + n=a.length∧a.length≤2):if ((decide (i < (((List.length a):Nat):Int)))=true) then ((((0:Int)≤i)∧(i < (((List.length a):Nat):Int)))∧((true=true)∧((((at_nets a (Int.toNat i))=([]:(List NetS)))∧((0:Int)≤k))∧(∀ r:Int,(r=k)→(true=true)∧(∃ s:(Prod (List (List NetS)) (Prod Int Int)),((KS.mk true [(Prod.mk (0:Nat) (T.v false [(Cm.d (D.r RK.nets a))])),(Prod.mk (1:Nat) (num IntKind.i64 r)),(Prod.mk (5:Nat) (num IntKind.i64 (IntKind.wrap IntKind.i64 (i + (1:Int)))))] [] [])=(KS.mk true [(Prod.mk (0:Nat) (T.v false [(Cm.d (D.r RK.nets s.fst))])),(Prod.mk (1:Nat) (num IntKind.i64 s.snd.fst)),(Prod.mk (5:Nat) (num IntKind.i64 s.snd.snd))] [] []))∧(∃ m:Nat,(m < n)∧((s.fst=a0)∧((s.snd.fst=k0)∧(((0:Int)≤s.snd.snd)∧(((s.snd.snd + ((m:Nat):Int))=(((List.length s.fst):Nat):Int))∧((List.length s.fst)≤(2:Nat)))))))))))) else (∃ r:Int,((KS.mk true [(Prod.mk (1:Nat) (num IntKind.i64 k))] [] [])=(KS.mk true [(Prod.mk (1:Nat) (num IntKind.i64 r))] [] []))∧(r=k0)) := by
  try dsimp only at hp
  obtain ⟨hp0, hp1, hp2⟩ := hp
  obtain ⟨rfl, rfl, h1, h2, h3⟩ := hi
  have h4 : at_nets a i.toNat = [] := by
    rcases hp0 with rfl | rfl
    · rfl
    · obtain ⟨i, rfl⟩ : ∃ m : Nat, i = m := ⟨i.toNat, by omega⟩
      match i with
      | 0 => rfl
      | 1 => rfl
      | i + 2 => rfl
  rw [wr (x := i + 1) (by omega) (by omega)]
  cases n with
  | zero =>
    rw [if_neg (by simp; omega)]
    exact ⟨_, rfl, rfl⟩
  | succ n =>
    rw [if_pos (by simp; omega)]
    refine ⟨⟨by omega, by omega⟩, rfl, ⟨h4, hp2⟩, fun r hr => ⟨rfl, ?_⟩⟩
    have hr' : ¬ r < 0 := by omega
    first
      | exact ⟨(a, r, i + 1), rfl, n, by omega, rfl, hr, by dsimp only; omega, by dsimp only; omega, h3⟩
      | (rw [if_neg (by simpa using hr')]
         exact ⟨(a, r, i + 1), rfl, n, by omega, rfl, hr, by dsimp only; omega, by dsimp only; omega, h3⟩)
theorem vS_laws_markNetMsgSS_0 (a0 : List (List NetS)) (k0 : Int) (i0 : Int) (hp : (fun (a : List (List NetS)) (k : Int) (i : Int) => ((a = [] ∨ a = [[], []]) ∧ i = 0 ∧ 0 ≤ k)) a0 k0 i0) : ∃ n : Nat, (fun (a : List (List NetS)) (k : Int) (i : Int) => (a = a0 ∧ k = k0 ∧ 0 ≤ i ∧ i + n = a.length ∧ a.length ≤ 2)) a0 k0 i0 := by
  try dsimp only at hp
  try dsimp only
  obtain ⟨h, rfl, h2⟩ := hp
  exact ⟨a0.length, rfl, rfl, by omega, by omega, by rcases h with rfl | rfl <;> decide⟩
theorem w_laws_markNetMsgSS : Valid Try.prog 42 c_laws_markNetMsgSS :=
  valid_ctr2 (V := V_laws_markNetMsgSS) (tysB_ok tys_ok) ⟨(CallsL.cons w_laws_markNetMsgS_0 (CallsL.nil _)), (IosL.nil _)⟩ mixed 0 0 Try.func42 rfl (by kernel_rfl)
    (fun c hc => by
      obtain rfl := Option.some.inj hc
      exact ⟨trivial, ⟨⟨trivial, ⟨LoopD.ok2 (V := V_laws_markNetMsgSS) l_laws_markNetMsgSS_0 (LoopsM.cons 0 l_laws_markNetMsgSS_0 LoopsM.nil) 0 _ i_laws_markNetMsgSS_0 (fun x hx => vS_laws_markNetMsgSS_0 x.1 x.2.1 x.2.2 hx) (fun x hx n s hi => ⟨_, by kernel_rfl, vL_laws_markNetMsgSS_0 x.1 x.2.1 x.2.2 s.1 s.2.1 s.2.2 n hx hi⟩), ⟨⟨trivial, ⟨trivial, trivial⟩⟩, ⟨trivial, trivial⟩⟩⟩⟩, ⟨trivial, trivial⟩⟩⟩)
    (fun x K hp hk => ⟨_, by kernel_rfl, vF_laws_markNetMsgSS x.1 x.2 K hp (fun r h => hk r h)⟩)
theorem vF_laws_heldNetMsgSS (a:List (List NetS)) (k:Int) (K:List Arg→List (List AC)→Prop) (hp:(a=[]∨a=[[],[]])∧0≤k) (hk:∀ (r:Int),(r=k)→K ([rInt.to r]) ([])):∃ s:(Prod (List (List NetS)) (Prod Int Int)),((KS.mk true [(Prod.mk (0:Nat) (T.v false [(Cm.d (D.r RK.nets a))])),(Prod.mk (1:Nat) (num IntKind.i64 k)),(Prod.mk (5:Nat) (num IntKind.i64 (0:Int)))] [] [])=(KS.mk true [(Prod.mk (0:Nat) (T.v false [(Cm.d (D.r RK.nets s.fst))])),(Prod.mk (1:Nat) (num IntKind.i64 s.snd.fst)),(Prod.mk (5:Nat) (num IntKind.i64 s.snd.snd))] [] []))∧((((s.fst=([]:(List (List NetS))))∨(s.fst=(([]:(List NetS)) :: (([]:(List NetS)) :: ([]:(List (List NetS))):(List (List NetS))):(List (List NetS)))))∧((s.snd.snd=(0:Int))∧((0:Int)≤s.snd.fst)))∧((∀ r:Int,(r=s.snd.fst)→(true=true)∧(K [(aI IntKind.i64 r)] []))∧(∀ r:Empty,False→False))) := by
  exact ⟨(a, k, 0), rfl, ⟨hp.1, rfl, hp.2⟩, fun r hr => ⟨rfl, hk r hr⟩, fun r h => h.elim⟩
theorem vL_laws_heldNetMsgSS_0 (a0:List (List NetS)) (k0:Int) (i0:Int) (a:List (List NetS)) (k:Int) (i:Int) (n:Nat) (hp:(fun (a:List (List NetS)) (k:Int) (i:Int) => ((a=[]∨a=[[],[]])∧i=0∧0≤k)) a0 k0 i0) (hi:a=a0∧k=k0∧0≤i∧i + n=a.length∧a.length≤2):if ((decide (i < (((List.length a):Nat):Int)))=true) then ((((0:Int)≤i)∧(i < (((List.length a):Nat):Int)))∧((true=true)∧((((at_nets a (Int.toNat i))=([]:(List NetS)))∧((0:Int)≤k))∧(∀ r:Int,(r=k)→(true=true)∧(if ((decide (r < (0:Int)))=true) then (∃ r1:Empty,((KS.mk true [] [] [])=(KS.mk true [] [] []))∧False) else (∃ s:(Prod (List (List NetS)) (Prod Int Int)),((KS.mk true [(Prod.mk (0:Nat) (T.v false [(Cm.d (D.r RK.nets a))])),(Prod.mk (1:Nat) (num IntKind.i64 r)),(Prod.mk (5:Nat) (num IntKind.i64 (IntKind.wrap IntKind.i64 (i + (1:Int)))))] [] [])=(KS.mk true [(Prod.mk (0:Nat) (T.v false [(Cm.d (D.r RK.nets s.fst))])),(Prod.mk (1:Nat) (num IntKind.i64 s.snd.fst)),(Prod.mk (5:Nat) (num IntKind.i64 s.snd.snd))] [] []))∧(∃ m:Nat,(m < n)∧((s.fst=a0)∧((s.snd.fst=k0)∧(((0:Int)≤s.snd.snd)∧(((s.snd.snd + ((m:Nat):Int))=(((List.length s.fst):Nat):Int))∧((List.length s.fst)≤(2:Nat))))))))))))) else (∃ r:Int,((KS.mk true [(Prod.mk (1:Nat) (num IntKind.i64 k))] [] [])=(KS.mk true [(Prod.mk (1:Nat) (num IntKind.i64 r))] [] []))∧(r=k0)) := by
  try dsimp only at hp
  obtain ⟨hp0, hp1, hp2⟩ := hp
  obtain ⟨rfl, rfl, h1, h2, h3⟩ := hi
  have h4 : at_nets a i.toNat = [] := by
    rcases hp0 with rfl | rfl
    · rfl
    · obtain ⟨i, rfl⟩ : ∃ m : Nat, i = m := ⟨i.toNat, by omega⟩
      match i with
      | 0 => rfl
      | 1 => rfl
      | i + 2 => rfl
  rw [wr (x := i + 1) (by omega) (by omega)]
  cases n with
  | zero =>
    rw [if_neg (by simp; omega)]
    exact ⟨_, rfl, rfl⟩
  | succ n =>
    rw [if_pos (by simp; omega)]
    refine ⟨⟨by omega, by omega⟩, rfl, ⟨h4, hp2⟩, fun r hr => ⟨rfl, ?_⟩⟩
    have hr' : ¬ r < 0 := by omega
    first
      | exact ⟨(a, r, i + 1), rfl, n, by omega, rfl, hr, by dsimp only; omega, by dsimp only; omega, h3⟩
      | (rw [if_neg (by simpa using hr')]
         exact ⟨(a, r, i + 1), rfl, n, by omega, rfl, hr, by dsimp only; omega, by dsimp only; omega, h3⟩)
theorem vS_laws_heldNetMsgSS_0 (a0 : List (List NetS)) (k0 : Int) (i0 : Int) (hp : (fun (a : List (List NetS)) (k : Int) (i : Int) => ((a = [] ∨ a = [[], []]) ∧ i = 0 ∧ 0 ≤ k)) a0 k0 i0) : ∃ n : Nat, (fun (a : List (List NetS)) (k : Int) (i : Int) => (a = a0 ∧ k = k0 ∧ 0 ≤ i ∧ i + n = a.length ∧ a.length ≤ 2)) a0 k0 i0 := by
  try dsimp only at hp
  try dsimp only
  obtain ⟨h, rfl, h2⟩ := hp
  exact ⟨a0.length, rfl, rfl, by omega, by omega, by rcases h with rfl | rfl <;> decide⟩
theorem w_laws_heldNetMsgSS : Valid Try.prog 44 c_laws_heldNetMsgSS :=
  valid_ctr2 (V := V_laws_heldNetMsgSS) (tysB_ok tys_ok) ⟨(CallsL.cons w_laws_heldNetMsgS_0 (CallsL.nil _)), (IosL.nil _)⟩ mixed 0 0 Try.func44 rfl (by kernel_rfl)
    (fun c hc => by
      obtain rfl := Option.some.inj hc
      exact ⟨trivial, ⟨⟨trivial, ⟨LoopD.ok2 (V := V_laws_heldNetMsgSS) l_laws_heldNetMsgSS_0 (LoopsM.cons 0 l_laws_heldNetMsgSS_0 LoopsM.nil) 0 _ i_laws_heldNetMsgSS_0 (fun x hx => vS_laws_heldNetMsgSS_0 x.1 x.2.1 x.2.2 hx) (fun x hx n s hi => ⟨_, by kernel_rfl, vL_laws_heldNetMsgSS_0 x.1 x.2.1 x.2.2 s.1 s.2.1 s.2.2 n hx hi⟩), ⟨⟨trivial, ⟨trivial, trivial⟩⟩, ⟨⟨trivial, ⟨trivial, ⟨⟨trivial, trivial⟩, trivial⟩⟩⟩, trivial⟩⟩⟩⟩, ⟨trivial, trivial⟩⟩⟩)
    (fun x K hp hk => ⟨_, by kernel_rfl, vF_laws_heldNetMsgSS x.1 x.2 K hp (fun r h => hk r h)⟩)
theorem vF_laws_markWldEndS (a:List EndS) (k:Int) (K:List Arg→List RC→Prop) (hp:(a=[]∨a=[zEnd,zEnd])∧k=1) (hk:∀ (r:Int) (o:List EndS),(((a=[]∧o=[]∧r=1)∨(a=[zEnd,zEnd]∧o=[mkE 1,mkE 22]∧r=43)))→K ([rInt.to r]) ([⟨48,.wend,o,m0⟩])):∃ s:(Prod (List EndS) (Prod Int Int)),((KS.mk true [(Prod.mk (0:Nat) (T.v false [(Cm.ref (0:Nat) (0:Nat))])),(Prod.mk (1:Nat) (num IntKind.i64 k)),(Prod.mk (5:Nat) (num IntKind.i64 (0:Int)))] [(Row.mk (0:Nat) (Option.some (RC.mk (48:Nat) RK.wend a (RM.mk (Option.none) true (0:Nat) false))))] [])=(KS.mk true [(Prod.mk (0:Nat) (T.v false [(Cm.ref (0:Nat) (0:Nat))])),(Prod.mk (1:Nat) (num IntKind.i64 s.snd.fst)),(Prod.mk (5:Nat) (num IntKind.i64 s.snd.snd))] [(Row.mk (0:Nat) (Option.some (RC.mk (48:Nat) RK.wend s.fst (RM.mk (Option.none) true (0:Nat) false))))] []))∧((((s.fst=([]:(List EndS)))∨(s.fst=(zEnd :: (zEnd :: ([]:(List EndS)):(List EndS)):(List EndS))))∧((s.snd.snd=(0:Int))∧(s.snd.fst=(1:Int))))∧((∀ r:(Prod Int (List EndS)),(((s.fst=([]:(List EndS)))∧((r.snd=([]:(List EndS)))∧(r.fst=(1:Int))))∨((s.fst=(zEnd :: (zEnd :: ([]:(List EndS)):(List EndS)):(List EndS)))∧((r.snd=((mkE (1:Int)) :: ((mkE (22:Int)) :: ([]:(List EndS)):(List EndS)):(List EndS)))∧(r.fst=(43:Int)))))→(K [(aI IntKind.i64 r.fst)] [(RC.mk (48:Nat) RK.wend r.snd (RM.mk (dpM false (Option.none)) false (0:Nat) false))]))∧(∀ r:Empty,False→False))) := by
  obtain ⟨h1, rfl⟩ := hp
  exact ⟨(a, 1, 0), rfl, ⟨h1, rfl, rfl⟩, fun r hr => hk r.1 r.2 hr, fun r h => h.elim⟩
theorem vL_laws_markWldEndS_0 (o0:List EndS) (k0:Int) (i0:Int) (o:List EndS) (k:Int) (i:Int) (n:Nat) (hp:(fun (o:List EndS) (k:Int) (i:Int) => ((o=[]∨o=[zEnd,zEnd])∧i=0∧k=1)) o0 k0 i0) (hi:(o0=[]∧o=[]∧i=0∧k=1)∨(o0=[zEnd,zEnd]∧((o=[zEnd,zEnd]∧i=0∧k=1∧n=2)∨(o=[mkE 1,zEnd]∧i=1∧k=22∧n=1)∨(o=[mkE 1,mkE 22]∧i=2∧k=43)))):if ((decide (i < (((List.length o):Nat):Int)))=true) then ((((0:Int)≤i)∧(i < (((List.length o):Nat):Int)))∧(∀ l':(List EndS),(l'=(List.set o (Int.toNat i) (EndS.mk (TxS.mk k (at_wend o (Int.toNat i)).tx.acked (at_wend o (Int.toNat i)).tx.flight (at_wend o (Int.toNat i)).tx.sent (at_wend o (Int.toNat i)).tx.queue (at_wend o (Int.toNat i)).tx.asks (at_wend o (Int.toNat i)).tx.tries (at_wend o (Int.toNat i)).tx.held (at_wend o (Int.toNat i)).tx.count (at_wend o (Int.toNat i)).tx.dead) (at_wend o (Int.toNat i)).rx (at_wend o (Int.toNat i)).ctx (at_wend o (Int.toNat i)).crx (at_wend o (Int.toNat i)).put (at_wend o (Int.toNat i)).got)))→(((0:Int)≤i)∧(i < (((List.length l'):Nat):Int)))∧(∀ l'1:(List EndS),(l'1=(List.set l' (Int.toNat i) (EndS.mk (TxS.mk (at_wend l' (Int.toNat i)).tx.next (IntKind.wrap IntKind.i64 (k + (1:Int))) (at_wend l' (Int.toNat i)).tx.flight (at_wend l' (Int.toNat i)).tx.sent (at_wend l' (Int.toNat i)).tx.queue (at_wend l' (Int.toNat i)).tx.asks (at_wend l' (Int.toNat i)).tx.tries (at_wend l' (Int.toNat i)).tx.held (at_wend l' (Int.toNat i)).tx.count (at_wend l' (Int.toNat i)).tx.dead) (at_wend l' (Int.toNat i)).rx (at_wend l' (Int.toNat i)).ctx (at_wend l' (Int.toNat i)).crx (at_wend l' (Int.toNat i)).put (at_wend l' (Int.toNat i)).got)))→(((0:Int)≤i)∧(i < (((List.length l'1):Nat):Int)))∧((true=true)∧((((at_wend l'1 (Int.toNat i)).tx.flight=([]:(List Part)))∧((0:Int)≤(IntKind.wrap IntKind.i64 ((IntKind.wrap IntKind.i64 (k + (1:Int))) + (1:Int)))))∧(∀ r:Int,(r=(IntKind.wrap IntKind.i64 ((IntKind.wrap IntKind.i64 (k + (1:Int))) + (1:Int))))→(true=true)∧((((0:Int)≤i)∧(i < (((List.length l'1):Nat):Int)))∧(∀ l'2:(List EndS),(l'2=(List.set l'1 (Int.toNat i) (EndS.mk (TxS.mk (at_wend l'1 (Int.toNat i)).tx.next (at_wend l'1 (Int.toNat i)).tx.acked (at_wend l'1 (Int.toNat i)).tx.flight r (at_wend l'1 (Int.toNat i)).tx.queue (at_wend l'1 (Int.toNat i)).tx.asks (at_wend l'1 (Int.toNat i)).tx.tries (at_wend l'1 (Int.toNat i)).tx.held (at_wend l'1 (Int.toNat i)).tx.count (at_wend l'1 (Int.toNat i)).tx.dead) (at_wend l'1 (Int.toNat i)).rx (at_wend l'1 (Int.toNat i)).ctx (at_wend l'1 (Int.toNat i)).crx (at_wend l'1 (Int.toNat i)).put (at_wend l'1 (Int.toNat i)).got)))→(((0:Int)≤i)∧(i < (((List.length l'2):Nat):Int)))∧((true=true)∧((((at_wend l'2 (Int.toNat i)).tx.queue=([]:(List Part)))∧((0:Int)≤(IntKind.wrap IntKind.i64 (r + (1:Int)))))∧(∀ r1:Int,(r1=(IntKind.wrap IntKind.i64 (r + (1:Int))))→(true=true)∧(((3:Int) ≠ (0:Int))∧((((0:Int)≤i)∧(i < (((List.length l'2):Nat):Int)))∧(∀ l'3:(List EndS),(l'3=(List.set l'2 (Int.toNat i) (EndS.mk (TxS.mk (at_wend l'2 (Int.toNat i)).tx.next (at_wend l'2 (Int.toNat i)).tx.acked (at_wend l'2 (Int.toNat i)).tx.flight (at_wend l'2 (Int.toNat i)).tx.sent (at_wend l'2 (Int.toNat i)).tx.queue ((Int.tmod r1 (3:Int)) == (0:Int)) (at_wend l'2 (Int.toNat i)).tx.tries (at_wend l'2 (Int.toNat i)).tx.held (at_wend l'2 (Int.toNat i)).tx.count (at_wend l'2 (Int.toNat i)).tx.dead) (at_wend l'2 (Int.toNat i)).rx (at_wend l'2 (Int.toNat i)).ctx (at_wend l'2 (Int.toNat i)).crx (at_wend l'2 (Int.toNat i)).put (at_wend l'2 (Int.toNat i)).got)))→(((0:Int)≤i)∧(i < (((List.length l'3):Nat):Int)))∧(∀ l'4:(List EndS),(l'4=(List.set l'3 (Int.toNat i) (EndS.mk (TxS.mk (at_wend l'3 (Int.toNat i)).tx.next (at_wend l'3 (Int.toNat i)).tx.acked (at_wend l'3 (Int.toNat i)).tx.flight (at_wend l'3 (Int.toNat i)).tx.sent (at_wend l'3 (Int.toNat i)).tx.queue (at_wend l'3 (Int.toNat i)).tx.asks (IntKind.wrap IntKind.i64 (r1 + (1:Int))) (at_wend l'3 (Int.toNat i)).tx.held (at_wend l'3 (Int.toNat i)).tx.count (at_wend l'3 (Int.toNat i)).tx.dead) (at_wend l'3 (Int.toNat i)).rx (at_wend l'3 (Int.toNat i)).ctx (at_wend l'3 (Int.toNat i)).crx (at_wend l'3 (Int.toNat i)).put (at_wend l'3 (Int.toNat i)).got)))→((3:Int) ≠ (0:Int))∧((((0:Int)≤i)∧(i < (((List.length l'4):Nat):Int)))∧(∀ l'5:(List EndS),(l'5=(List.set l'4 (Int.toNat i) (EndS.mk (TxS.mk (at_wend l'4 (Int.toNat i)).tx.next (at_wend l'4 (Int.toNat i)).tx.acked (at_wend l'4 (Int.toNat i)).tx.flight (at_wend l'4 (Int.toNat i)).tx.sent (at_wend l'4 (Int.toNat i)).tx.queue (at_wend l'4 (Int.toNat i)).tx.asks (at_wend l'4 (Int.toNat i)).tx.tries ((Int.tmod (IntKind.wrap IntKind.i64 ((IntKind.wrap IntKind.i64 (r1 + (1:Int))) + (1:Int))) (3:Int)) == (0:Int)) (at_wend l'4 (Int.toNat i)).tx.count (at_wend l'4 (Int.toNat i)).tx.dead) (at_wend l'4 (Int.toNat i)).rx (at_wend l'4 (Int.toNat i)).ctx (at_wend l'4 (Int.toNat i)).crx (at_wend l'4 (Int.toNat i)).put (at_wend l'4 (Int.toNat i)).got)))→(((0:Int)≤i)∧(i < (((List.length l'5):Nat):Int)))∧(∀ l'6:(List EndS),(l'6=(List.set l'5 (Int.toNat i) (EndS.mk (TxS.mk (at_wend l'5 (Int.toNat i)).tx.next (at_wend l'5 (Int.toNat i)).tx.acked (at_wend l'5 (Int.toNat i)).tx.flight (at_wend l'5 (Int.toNat i)).tx.sent (at_wend l'5 (Int.toNat i)).tx.queue (at_wend l'5 (Int.toNat i)).tx.asks (at_wend l'5 (Int.toNat i)).tx.tries (at_wend l'5 (Int.toNat i)).tx.held (IntKind.wrap IntKind.i64 ((IntKind.wrap IntKind.i64 ((IntKind.wrap IntKind.i64 (r1 + (1:Int))) + (1:Int))) + (1:Int))) (at_wend l'5 (Int.toNat i)).tx.dead) (at_wend l'5 (Int.toNat i)).rx (at_wend l'5 (Int.toNat i)).ctx (at_wend l'5 (Int.toNat i)).crx (at_wend l'5 (Int.toNat i)).put (at_wend l'5 (Int.toNat i)).got)))→((3:Int) ≠ (0:Int))∧((((0:Int)≤i)∧(i < (((List.length l'6):Nat):Int)))∧(∀ l'7:(List EndS),(l'7=(List.set l'6 (Int.toNat i) (EndS.mk (TxS.mk (at_wend l'6 (Int.toNat i)).tx.next (at_wend l'6 (Int.toNat i)).tx.acked (at_wend l'6 (Int.toNat i)).tx.flight (at_wend l'6 (Int.toNat i)).tx.sent (at_wend l'6 (Int.toNat i)).tx.queue (at_wend l'6 (Int.toNat i)).tx.asks (at_wend l'6 (Int.toNat i)).tx.tries (at_wend l'6 (Int.toNat i)).tx.held (at_wend l'6 (Int.toNat i)).tx.count ((Int.tmod (IntKind.wrap IntKind.i64 ((IntKind.wrap IntKind.i64 ((IntKind.wrap IntKind.i64 ((IntKind.wrap IntKind.i64 (r1 + (1:Int))) + (1:Int))) + (1:Int))) + (1:Int))) (3:Int)) == (0:Int))) (at_wend l'6 (Int.toNat i)).rx (at_wend l'6 (Int.toNat i)).ctx (at_wend l'6 (Int.toNat i)).crx (at_wend l'6 (Int.toNat i)).put (at_wend l'6 (Int.toNat i)).got)))→(((0:Int)≤i)∧(i < (((List.length l'7):Nat):Int)))∧(∀ l'8:(List EndS),(l'8=(List.set l'7 (Int.toNat i) (EndS.mk (at_wend l'7 (Int.toNat i)).tx (RxS.mk (IntKind.wrap IntKind.i64 ((IntKind.wrap IntKind.i64 ((IntKind.wrap IntKind.i64 ((IntKind.wrap IntKind.i64 ((IntKind.wrap IntKind.i64 (r1 + (1:Int))) + (1:Int))) + (1:Int))) + (1:Int))) + (1:Int))) (at_wend l'7 (Int.toNat i)).rx.count (at_wend l'7 (Int.toNat i)).rx.join (at_wend l'7 (Int.toNat i)).rx.again (at_wend l'7 (Int.toNat i)).rx.busy (at_wend l'7 (Int.toNat i)).rx.dead) (at_wend l'7 (Int.toNat i)).ctx (at_wend l'7 (Int.toNat i)).crx (at_wend l'7 (Int.toNat i)).put (at_wend l'7 (Int.toNat i)).got)))→(((0:Int)≤i)∧(i < (((List.length l'8):Nat):Int)))∧(∀ l'9:(List EndS),(l'9=(List.set l'8 (Int.toNat i) (EndS.mk (at_wend l'8 (Int.toNat i)).tx (RxS.mk (at_wend l'8 (Int.toNat i)).rx.expect (IntKind.wrap IntKind.i64 ((IntKind.wrap IntKind.i64 ((IntKind.wrap IntKind.i64 ((IntKind.wrap IntKind.i64 ((IntKind.wrap IntKind.i64 ((IntKind.wrap IntKind.i64 (r1 + (1:Int))) + (1:Int))) + (1:Int))) + (1:Int))) + (1:Int))) + (1:Int))) (at_wend l'8 (Int.toNat i)).rx.join (at_wend l'8 (Int.toNat i)).rx.again (at_wend l'8 (Int.toNat i)).rx.busy (at_wend l'8 (Int.toNat i)).rx.dead) (at_wend l'8 (Int.toNat i)).ctx (at_wend l'8 (Int.toNat i)).crx (at_wend l'8 (Int.toNat i)).put (at_wend l'8 (Int.toNat i)).got)))→(((0:Int)≤i)∧(i < (((List.length l'9):Nat):Int)))∧(∀ l'10:(List EndS),(l'10=(List.set l'9 (Int.toNat i) (EndS.mk (at_wend l'9 (Int.toNat i)).tx (RxS.mk (at_wend l'9 (Int.toNat i)).rx.expect (at_wend l'9 (Int.toNat i)).rx.count (JoinS.mk (IntKind.wrap IntKind.i64 ((IntKind.wrap IntKind.i64 ((IntKind.wrap IntKind.i64 ((IntKind.wrap IntKind.i64 ((IntKind.wrap IntKind.i64 ((IntKind.wrap IntKind.i64 ((IntKind.wrap IntKind.i64 (r1 + (1:Int))) + (1:Int))) + (1:Int))) + (1:Int))) + (1:Int))) + (1:Int))) + (1:Int))) (at_wend l'9 (Int.toNat i)).rx.join.got) (at_wend l'9 (Int.toNat i)).rx.again (at_wend l'9 (Int.toNat i)).rx.busy (at_wend l'9 (Int.toNat i)).rx.dead) (at_wend l'9 (Int.toNat i)).ctx (at_wend l'9 (Int.toNat i)).crx (at_wend l'9 (Int.toNat i)).put (at_wend l'9 (Int.toNat i)).got)))→(((0:Int)≤i)∧(i < (((List.length l'10):Nat):Int)))∧((true=true)∧((((at_wend l'10 (Int.toNat i)).rx.join.got=([]:(List Int)))∧((0:Int)≤(IntKind.wrap IntKind.i64 ((IntKind.wrap IntKind.i64 ((IntKind.wrap IntKind.i64 ((IntKind.wrap IntKind.i64 ((IntKind.wrap IntKind.i64 ((IntKind.wrap IntKind.i64 ((IntKind.wrap IntKind.i64 ((IntKind.wrap IntKind.i64 (r1 + (1:Int))) + (1:Int))) + (1:Int))) + (1:Int))) + (1:Int))) + (1:Int))) + (1:Int))) + (1:Int)))))∧(∀ r2:Int,(r2=(IntKind.wrap IntKind.i64 ((IntKind.wrap IntKind.i64 ((IntKind.wrap IntKind.i64 ((IntKind.wrap IntKind.i64 ((IntKind.wrap IntKind.i64 ((IntKind.wrap IntKind.i64 ((IntKind.wrap IntKind.i64 ((IntKind.wrap IntKind.i64 (r1 + (1:Int))) + (1:Int))) + (1:Int))) + (1:Int))) + (1:Int))) + (1:Int))) + (1:Int))) + (1:Int))))→(true=true)∧(((3:Int) ≠ (0:Int))∧((((0:Int)≤i)∧(i < (((List.length l'10):Nat):Int)))∧(∀ l'11:(List EndS),(l'11=(List.set l'10 (Int.toNat i) (EndS.mk (at_wend l'10 (Int.toNat i)).tx (RxS.mk (at_wend l'10 (Int.toNat i)).rx.expect (at_wend l'10 (Int.toNat i)).rx.count (at_wend l'10 (Int.toNat i)).rx.join ((Int.tmod r2 (3:Int)) == (0:Int)) (at_wend l'10 (Int.toNat i)).rx.busy (at_wend l'10 (Int.toNat i)).rx.dead) (at_wend l'10 (Int.toNat i)).ctx (at_wend l'10 (Int.toNat i)).crx (at_wend l'10 (Int.toNat i)).put (at_wend l'10 (Int.toNat i)).got)))→((3:Int) ≠ (0:Int))∧((((0:Int)≤i)∧(i < (((List.length l'11):Nat):Int)))∧(∀ l'12:(List EndS),(l'12=(List.set l'11 (Int.toNat i) (EndS.mk (at_wend l'11 (Int.toNat i)).tx (RxS.mk (at_wend l'11 (Int.toNat i)).rx.expect (at_wend l'11 (Int.toNat i)).rx.count (at_wend l'11 (Int.toNat i)).rx.join (at_wend l'11 (Int.toNat i)).rx.again ((Int.tmod (IntKind.wrap IntKind.i64 (r2 + (1:Int))) (3:Int)) == (0:Int)) (at_wend l'11 (Int.toNat i)).rx.dead) (at_wend l'11 (Int.toNat i)).ctx (at_wend l'11 (Int.toNat i)).crx (at_wend l'11 (Int.toNat i)).put (at_wend l'11 (Int.toNat i)).got)))→((3:Int) ≠ (0:Int))∧((((0:Int)≤i)∧(i < (((List.length l'12):Nat):Int)))∧(∀ l'13:(List EndS),(l'13=(List.set l'12 (Int.toNat i) (EndS.mk (at_wend l'12 (Int.toNat i)).tx (RxS.mk (at_wend l'12 (Int.toNat i)).rx.expect (at_wend l'12 (Int.toNat i)).rx.count (at_wend l'12 (Int.toNat i)).rx.join (at_wend l'12 (Int.toNat i)).rx.again (at_wend l'12 (Int.toNat i)).rx.busy ((Int.tmod (IntKind.wrap IntKind.i64 ((IntKind.wrap IntKind.i64 (r2 + (1:Int))) + (1:Int))) (3:Int)) == (0:Int))) (at_wend l'12 (Int.toNat i)).ctx (at_wend l'12 (Int.toNat i)).crx (at_wend l'12 (Int.toNat i)).put (at_wend l'12 (Int.toNat i)).got)))→(((0:Int)≤i)∧(i < (((List.length l'13):Nat):Int)))∧(∀ l'14:(List EndS),(l'14=(List.set l'13 (Int.toNat i) (EndS.mk (at_wend l'13 (Int.toNat i)).tx (at_wend l'13 (Int.toNat i)).rx (CtS.mk (IntKind.wrap IntKind.i64 ((IntKind.wrap IntKind.i64 ((IntKind.wrap IntKind.i64 (r2 + (1:Int))) + (1:Int))) + (1:Int))) (at_wend l'13 (Int.toNat i)).ctx.queue (at_wend l'13 (Int.toNat i)).ctx.granted (at_wend l'13 (Int.toNat i)).ctx.sent (at_wend l'13 (Int.toNat i)).ctx.dead) (at_wend l'13 (Int.toNat i)).crx (at_wend l'13 (Int.toNat i)).put (at_wend l'13 (Int.toNat i)).got)))→(((0:Int)≤i)∧(i < (((List.length l'14):Nat):Int)))∧((true=true)∧((((at_wend l'14 (Int.toNat i)).ctx.queue=([]:(List Part)))∧((0:Int)≤(IntKind.wrap IntKind.i64 ((IntKind.wrap IntKind.i64 ((IntKind.wrap IntKind.i64 ((IntKind.wrap IntKind.i64 (r2 + (1:Int))) + (1:Int))) + (1:Int))) + (1:Int)))))∧(∀ r3:Int,(r3=(IntKind.wrap IntKind.i64 ((IntKind.wrap IntKind.i64 ((IntKind.wrap IntKind.i64 ((IntKind.wrap IntKind.i64 (r2 + (1:Int))) + (1:Int))) + (1:Int))) + (1:Int))))→(true=true)∧((((0:Int)≤i)∧(i < (((List.length l'14):Nat):Int)))∧(∀ l'15:(List EndS),(l'15=(List.set l'14 (Int.toNat i) (EndS.mk (at_wend l'14 (Int.toNat i)).tx (at_wend l'14 (Int.toNat i)).rx (CtS.mk (at_wend l'14 (Int.toNat i)).ctx.have_ (at_wend l'14 (Int.toNat i)).ctx.queue r3 (at_wend l'14 (Int.toNat i)).ctx.sent (at_wend l'14 (Int.toNat i)).ctx.dead) (at_wend l'14 (Int.toNat i)).crx (at_wend l'14 (Int.toNat i)).put (at_wend l'14 (Int.toNat i)).got)))→(((0:Int)≤i)∧(i < (((List.length l'15):Nat):Int)))∧(∀ l'16:(List EndS),(l'16=(List.set l'15 (Int.toNat i) (EndS.mk (at_wend l'15 (Int.toNat i)).tx (at_wend l'15 (Int.toNat i)).rx (CtS.mk (at_wend l'15 (Int.toNat i)).ctx.have_ (at_wend l'15 (Int.toNat i)).ctx.queue (at_wend l'15 (Int.toNat i)).ctx.granted (IntKind.wrap IntKind.i64 (r3 + (1:Int))) (at_wend l'15 (Int.toNat i)).ctx.dead) (at_wend l'15 (Int.toNat i)).crx (at_wend l'15 (Int.toNat i)).put (at_wend l'15 (Int.toNat i)).got)))→((3:Int) ≠ (0:Int))∧((((0:Int)≤i)∧(i < (((List.length l'16):Nat):Int)))∧(∀ l'17:(List EndS),(l'17=(List.set l'16 (Int.toNat i) (EndS.mk (at_wend l'16 (Int.toNat i)).tx (at_wend l'16 (Int.toNat i)).rx (CtS.mk (at_wend l'16 (Int.toNat i)).ctx.have_ (at_wend l'16 (Int.toNat i)).ctx.queue (at_wend l'16 (Int.toNat i)).ctx.granted (at_wend l'16 (Int.toNat i)).ctx.sent ((Int.tmod (IntKind.wrap IntKind.i64 ((IntKind.wrap IntKind.i64 (r3 + (1:Int))) + (1:Int))) (3:Int)) == (0:Int))) (at_wend l'16 (Int.toNat i)).crx (at_wend l'16 (Int.toNat i)).put (at_wend l'16 (Int.toNat i)).got)))→(((0:Int)≤i)∧(i < (((List.length l'17):Nat):Int)))∧(∀ l'18:(List EndS),(l'18=(List.set l'17 (Int.toNat i) (EndS.mk (at_wend l'17 (Int.toNat i)).tx (at_wend l'17 (Int.toNat i)).rx (at_wend l'17 (Int.toNat i)).ctx (CrS.mk (IntKind.wrap IntKind.i64 ((IntKind.wrap IntKind.i64 ((IntKind.wrap IntKind.i64 (r3 + (1:Int))) + (1:Int))) + (1:Int))) (at_wend l'17 (Int.toNat i)).crx.join (at_wend l'17 (Int.toNat i)).crx.dead) (at_wend l'17 (Int.toNat i)).put (at_wend l'17 (Int.toNat i)).got)))→(((0:Int)≤i)∧(i < (((List.length l'18):Nat):Int)))∧(∀ l'19:(List EndS),(l'19=(List.set l'18 (Int.toNat i) (EndS.mk (at_wend l'18 (Int.toNat i)).tx (at_wend l'18 (Int.toNat i)).rx (at_wend l'18 (Int.toNat i)).ctx (CrS.mk (at_wend l'18 (Int.toNat i)).crx.out (JoinS.mk (IntKind.wrap IntKind.i64 ((IntKind.wrap IntKind.i64 ((IntKind.wrap IntKind.i64 ((IntKind.wrap IntKind.i64 (r3 + (1:Int))) + (1:Int))) + (1:Int))) + (1:Int))) (at_wend l'18 (Int.toNat i)).crx.join.got) (at_wend l'18 (Int.toNat i)).crx.dead) (at_wend l'18 (Int.toNat i)).put (at_wend l'18 (Int.toNat i)).got)))→(((0:Int)≤i)∧(i < (((List.length l'19):Nat):Int)))∧((true=true)∧((((at_wend l'19 (Int.toNat i)).crx.join.got=([]:(List Int)))∧((0:Int)≤(IntKind.wrap IntKind.i64 ((IntKind.wrap IntKind.i64 ((IntKind.wrap IntKind.i64 ((IntKind.wrap IntKind.i64 ((IntKind.wrap IntKind.i64 (r3 + (1:Int))) + (1:Int))) + (1:Int))) + (1:Int))) + (1:Int)))))∧(∀ r4:Int,(r4=(IntKind.wrap IntKind.i64 ((IntKind.wrap IntKind.i64 ((IntKind.wrap IntKind.i64 ((IntKind.wrap IntKind.i64 ((IntKind.wrap IntKind.i64 (r3 + (1:Int))) + (1:Int))) + (1:Int))) + (1:Int))) + (1:Int))))→(true=true)∧(((3:Int) ≠ (0:Int))∧((((0:Int)≤i)∧(i < (((List.length l'19):Nat):Int)))∧(∀ l'20:(List EndS),(l'20=(List.set l'19 (Int.toNat i) (EndS.mk (at_wend l'19 (Int.toNat i)).tx (at_wend l'19 (Int.toNat i)).rx (at_wend l'19 (Int.toNat i)).ctx (CrS.mk (at_wend l'19 (Int.toNat i)).crx.out (at_wend l'19 (Int.toNat i)).crx.join ((Int.tmod r4 (3:Int)) == (0:Int))) (at_wend l'19 (Int.toNat i)).put (at_wend l'19 (Int.toNat i)).got)))→(((0:Int)≤i)∧(i < (((List.length l'20):Nat):Int)))∧((true=true)∧((((at_wend l'20 (Int.toNat i)).put=([]:(List (List Int))))∧((0:Int)≤(IntKind.wrap IntKind.i64 (r4 + (1:Int)))))∧(∀ r5:Int,(r5=(IntKind.wrap IntKind.i64 (r4 + (1:Int))))→(true=true)∧((((0:Int)≤i)∧(i < (((List.length l'20):Nat):Int)))∧((true=true)∧((((at_wend l'20 (Int.toNat i)).got=([]:(List (List Int))))∧((0:Int)≤r5))∧(∀ r6:Int,(r6=r5)→(true=true)∧(∃ s:(Prod (List EndS) (Prod Int Int)),((KS.mk true [(Prod.mk (0:Nat) (T.v false [(Cm.ref (0:Nat) (0:Nat))])),(Prod.mk (1:Nat) (num IntKind.i64 r6)),(Prod.mk (5:Nat) (num IntKind.i64 (IntKind.wrap IntKind.i64 (i + (1:Int)))))] [(Row.mk (0:Nat) (Option.some (RC.mk (48:Nat) RK.wend l'20 (RM.mk (Option.none) true (0:Nat) false))))] [])=(KS.mk true [(Prod.mk (0:Nat) (T.v false [(Cm.ref (0:Nat) (0:Nat))])),(Prod.mk (1:Nat) (num IntKind.i64 s.snd.fst)),(Prod.mk (5:Nat) (num IntKind.i64 s.snd.snd))] [(Row.mk (0:Nat) (Option.some (RC.mk (48:Nat) RK.wend s.fst (RM.mk (Option.none) true (0:Nat) false))))] []))∧(∃ m:Nat,(m < n)∧(((o0=([]:(List EndS)))∧((s.fst=([]:(List EndS)))∧((s.snd.snd=(0:Int))∧(s.snd.fst=(1:Int)))))∨((o0=(zEnd :: (zEnd :: ([]:(List EndS)):(List EndS)):(List EndS)))∧(((s.fst=(zEnd :: (zEnd :: ([]:(List EndS)):(List EndS)):(List EndS)))∧((s.snd.snd=(0:Int))∧((s.snd.fst=(1:Int))∧(m=(2:Nat)))))∨(((s.fst=((mkE (1:Int)) :: (zEnd :: ([]:(List EndS)):(List EndS)):(List EndS)))∧((s.snd.snd=(1:Int))∧((s.snd.fst=(22:Int))∧(m=(1:Nat)))))∨((s.fst=((mkE (1:Int)) :: ((mkE (22:Int)) :: ([]:(List EndS)):(List EndS)):(List EndS)))∧((s.snd.snd=(2:Int))∧(s.snd.fst=(43:Int))))))))))))))))))))))))))))))))))))))))))))))))))))))))))))))))))) else (∃ r:(Prod Int (List EndS)),((KS.mk true [(Prod.mk (1:Nat) (num IntKind.i64 k))] [(Row.mk (0:Nat) (Option.some (RC.mk (48:Nat) RK.wend o (RM.mk (Option.none) true (0:Nat) false))))] [])=(KS.mk true [(Prod.mk (1:Nat) (num IntKind.i64 r.fst))] [(Row.mk (0:Nat) (Option.some (RC.mk (48:Nat) RK.wend r.snd (RM.mk (Option.none) true (0:Nat) false))))] []))∧(((o0=([]:(List EndS)))∧((r.snd=([]:(List EndS)))∧(r.fst=(1:Int))))∨((o0=(zEnd :: (zEnd :: ([]:(List EndS)):(List EndS)):(List EndS)))∧((r.snd=((mkE (1:Int)) :: ((mkE (22:Int)) :: ([]:(List EndS)):(List EndS)):(List EndS)))∧(r.fst=(43:Int)))))) := by
  try dsimp only at hp
  clear hp
  rcases hi with ⟨rfl, rfl, rfl, rfl⟩ | ⟨rfl, ⟨rfl, rfl, rfl, rfl⟩ | ⟨rfl, rfl, rfl, rfl⟩ | ⟨rfl, rfl, rfl⟩⟩
  · rw [if_neg (by decide)]
    exact ⟨(1, []), rfl, .inl ⟨rfl, rfl, rfl⟩⟩
  · rw [if_pos (by decide)]
    repeat' first
      | exact rfl
      | exact True.intro
      | exact (by decide : (3 : Int) ≠ 0)
      | with_reducible apply And.intro
      | rw [if_neg (by decide)]
      | (with_reducible intro y_ hy_
         try simp (disch := decide) only [wr, at_w0, at_w1, List.set_cons_zero, List.set_cons_succ, zEnd, Int.reduceToNat, Int.reduceAdd] at hy_
         subst hy_)
      | decide
    all_goals first
      | exact ⟨([mkE 1, zEnd], 22, 1), rfl, 1, by decide, .inr ⟨rfl, .inr (.inl ⟨rfl, rfl, rfl, rfl⟩)⟩⟩
  · rw [if_pos (by decide)]
    repeat' first
      | exact rfl
      | exact True.intro
      | exact (by decide : (3 : Int) ≠ 0)
      | with_reducible apply And.intro
      | rw [if_neg (by decide)]
      | (with_reducible intro y_ hy_
         try simp (disch := decide) only [wr, at_w0, at_w1, List.set_cons_zero, List.set_cons_succ, zEnd, Int.reduceToNat, Int.reduceAdd] at hy_
         subst hy_)
      | decide
    all_goals first
      | exact ⟨([mkE 1, mkE 22], 43, 2), rfl, 0, by decide, .inr ⟨rfl, .inr (.inr ⟨rfl, rfl, rfl⟩)⟩⟩
  · rw [if_neg (by decide)]
    exact ⟨(43, [mkE 1, mkE 22]), rfl, .inr ⟨rfl, rfl, rfl⟩⟩
theorem vS_laws_markWldEndS_0 (o0 : List EndS) (k0 : Int) (i0 : Int) (hp : (fun (o : List EndS) (k : Int) (i : Int) => ((o = [] ∨ o = [zEnd, zEnd]) ∧ i = 0 ∧ k = 1)) o0 k0 i0) : ∃ n : Nat, (fun (o : List EndS) (k : Int) (i : Int) => ((o0 = [] ∧ o = [] ∧ i = 0 ∧ k = 1) ∨ (o0 = [zEnd, zEnd] ∧ ((o = [zEnd, zEnd] ∧ i = 0 ∧ k = 1 ∧ n = 2) ∨ (o = [mkE 1, zEnd] ∧ i = 1 ∧ k = 22 ∧ n = 1) ∨ (o = [mkE 1, mkE 22] ∧ i = 2 ∧ k = 43))))) o0 k0 i0 := by
  try dsimp only at hp
  try dsimp only
  obtain ⟨h, rfl, rfl⟩ := hp
  rcases h with rfl | rfl
  · exact ⟨0, .inl ⟨rfl, rfl, rfl, rfl⟩⟩
  · exact ⟨2, .inr ⟨rfl, .inl ⟨rfl, rfl, rfl, rfl⟩⟩⟩
theorem w_laws_markWldEndS : ValidI Try.prog 41 c_laws_markWldEndS :=
  valid_ctrI (V := V_laws_markWldEndS) (tysB_ok tys_ok) ⟨(CallsL.cons w_laws_markSegPartS_0 (CallsL.cons w_laws_markByteS_0 (CallsL.cons w_laws_markByteSS_0 (CallsL.nil _)))), (IosL.nil _)⟩ mixed 0 0 Try.func41 rfl (by kernel_rfl)
    (fun c hc => by
      obtain rfl := Option.some.inj hc
      exact ⟨trivial, ⟨⟨trivial, ⟨LoopD.ok2 (V := V_laws_markWldEndS) l_laws_markWldEndS_0 (LoopsM.cons 0 l_laws_markWldEndS_0 LoopsM.nil) 0 _ i_laws_markWldEndS_0 (fun x hx => vS_laws_markWldEndS_0 x.1 x.2.1 x.2.2 hx) (fun x hx n s hi => ⟨_, by kernel_rfl, vL_laws_markWldEndS_0 x.1 x.2.1 x.2.2 s.1 s.2.1 s.2.2 n hx hi⟩), ⟨⟨trivial, ⟨trivial, trivial⟩⟩, ⟨⟨trivial, ⟨trivial, ⟨trivial, ⟨trivial, ⟨trivial, ⟨trivial, ⟨trivial, ⟨trivial, ⟨trivial, ⟨trivial, ⟨trivial, ⟨trivial, ⟨trivial, ⟨trivial, ⟨trivial, ⟨trivial, ⟨trivial, ⟨trivial, ⟨trivial, ⟨trivial, ⟨trivial, ⟨trivial, ⟨trivial, ⟨trivial, ⟨trivial, ⟨trivial, ⟨trivial, ⟨trivial, ⟨trivial, ⟨trivial, ⟨trivial, ⟨trivial, ⟨trivial, ⟨trivial, ⟨trivial, ⟨trivial, ⟨trivial, ⟨trivial, ⟨trivial, ⟨trivial, ⟨trivial, ⟨trivial, ⟨trivial, ⟨trivial, ⟨trivial, ⟨trivial, ⟨trivial, ⟨trivial, trivial⟩⟩⟩⟩⟩⟩⟩⟩⟩⟩⟩⟩⟩⟩⟩⟩⟩⟩⟩⟩⟩⟩⟩⟩⟩⟩⟩⟩⟩⟩⟩⟩⟩⟩⟩⟩⟩⟩⟩⟩⟩⟩⟩⟩⟩⟩⟩⟩, trivial⟩⟩⟩⟩, ⟨trivial, trivial⟩⟩⟩)
    (fun x K hp hk => ⟨_, by kernel_rfl, vF_laws_markWldEndS x.1 x.2 K hp (fun r o h => hk (r, o) h)⟩)
theorem vF_laws_heldWldEndS (a:List EndS) (k:Int) (K:List Arg→List (List AC)→Prop) (hp:(a=[]∨a=[mkE 1,mkE 22])∧k=1) (hk:∀ (r:Int),(((a=[]∧r=1)∨(a=[mkE 1,mkE 22]∧r=43)))→K ([rInt.to r]) ([])):∃ s:(Prod (List EndS) (Prod Int Int)),((KS.mk true [(Prod.mk (0:Nat) (T.v false [(Cm.d (D.r RK.wend a))])),(Prod.mk (1:Nat) (num IntKind.i64 k)),(Prod.mk (5:Nat) (num IntKind.i64 (0:Int)))] [] [])=(KS.mk true [(Prod.mk (0:Nat) (T.v false [(Cm.d (D.r RK.wend s.fst))])),(Prod.mk (1:Nat) (num IntKind.i64 s.snd.fst)),(Prod.mk (5:Nat) (num IntKind.i64 s.snd.snd))] [] []))∧((((s.fst=([]:(List EndS)))∨(s.fst=((mkE (1:Int)) :: ((mkE (22:Int)) :: ([]:(List EndS)):(List EndS)):(List EndS))))∧((s.snd.snd=(0:Int))∧(s.snd.fst=(1:Int))))∧((∀ r:Int,(((s.fst=([]:(List EndS)))∧(r=(1:Int)))∨((s.fst=((mkE (1:Int)) :: ((mkE (22:Int)) :: ([]:(List EndS)):(List EndS)):(List EndS)))∧(r=(43:Int))))→(true=true)∧(K [(aI IntKind.i64 r)] []))∧(∀ r:Empty,False→False))) := by
  obtain ⟨h1, rfl⟩ := hp
  first
    | exact ⟨(a, 1, 0), rfl, ⟨h1, rfl, rfl⟩, fun r hr => ⟨rfl, hk r hr⟩, fun r h => h.elim⟩
    | exact ⟨(a, 1, 0), rfl, ⟨h1, rfl, rfl⟩, fun r hr => hk r hr, fun r h => h.elim⟩
theorem vL_laws_heldWldEndS_0 (a0:List EndS) (k0:Int) (i0:Int) (a:List EndS) (k:Int) (i:Int) (n:Nat) (hp:(fun (a:List EndS) (k:Int) (i:Int) => ((a=[]∨a=[mkE 1,mkE 22])∧i=0∧k=1)) a0 k0 i0) (hi:a=a0∧((a0=[]∧i=0∧k=1)∨(a0=[mkE 1,mkE 22]∧((i=0∧k=1∧n=2)∨(i=1∧k=22∧n=1)∨(i=2∧k=43))))):if ((decide (i < (((List.length a):Nat):Int)))=true) then ((((0:Int)≤i)∧(i < (((List.length a):Nat):Int)))∧(if (((at_wend a (Int.toNat i)).tx.next != k)=true) then (∃ r:Empty,((KS.mk true [] [] [])=(KS.mk true [] [] []))∧False) else ((((0:Int)≤i)∧(i < (((List.length a):Nat):Int)))∧(if (((at_wend a (Int.toNat i)).tx.acked != (IntKind.wrap IntKind.i64 (k + (1:Int))))=true) then (∃ r:Empty,((KS.mk true [] [] [])=(KS.mk true [] [] []))∧False) else ((((0:Int)≤i)∧(i < (((List.length a):Nat):Int)))∧((true=true)∧((((at_wend a (Int.toNat i)).tx.flight=([]:(List Part)))∧((0:Int)≤(IntKind.wrap IntKind.i64 ((IntKind.wrap IntKind.i64 (k + (1:Int))) + (1:Int)))))∧(∀ r:Int,(r=(IntKind.wrap IntKind.i64 ((IntKind.wrap IntKind.i64 (k + (1:Int))) + (1:Int))))→(true=true)∧(if ((decide (r < (0:Int)))=true) then (∃ r1:Empty,((KS.mk true [] [] [])=(KS.mk true [] [] []))∧False) else ((((0:Int)≤i)∧(i < (((List.length a):Nat):Int)))∧(if (((at_wend a (Int.toNat i)).tx.sent != r)=true) then (∃ r1:Empty,((KS.mk true [] [] [])=(KS.mk true [] [] []))∧False) else ((((0:Int)≤i)∧(i < (((List.length a):Nat):Int)))∧((true=true)∧((((at_wend a (Int.toNat i)).tx.queue=([]:(List Part)))∧((0:Int)≤(IntKind.wrap IntKind.i64 (r + (1:Int)))))∧(∀ r1:Int,(r1=(IntKind.wrap IntKind.i64 (r + (1:Int))))→(true=true)∧(if ((decide (r1 < (0:Int)))=true) then (∃ r2:Empty,((KS.mk true [] [] [])=(KS.mk true [] [] []))∧False) else ((((0:Int)≤i)∧(i < (((List.length a):Nat):Int)))∧(((3:Int) ≠ (0:Int))∧(if (((at_wend a (Int.toNat i)).tx.asks != ((Int.tmod r1 (3:Int)) == (0:Int)))=true) then (∃ r2:Empty,((KS.mk true [] [] [])=(KS.mk true [] [] []))∧False) else ((((0:Int)≤i)∧(i < (((List.length a):Nat):Int)))∧(if (((at_wend a (Int.toNat i)).tx.tries != (IntKind.wrap IntKind.i64 (r1 + (1:Int))))=true) then (∃ r2:Empty,((KS.mk true [] [] [])=(KS.mk true [] [] []))∧False) else ((((0:Int)≤i)∧(i < (((List.length a):Nat):Int)))∧(((3:Int) ≠ (0:Int))∧(if (((at_wend a (Int.toNat i)).tx.held != ((Int.tmod (IntKind.wrap IntKind.i64 ((IntKind.wrap IntKind.i64 (r1 + (1:Int))) + (1:Int))) (3:Int)) == (0:Int)))=true) then (∃ r2:Empty,((KS.mk true [] [] [])=(KS.mk true [] [] []))∧False) else ((((0:Int)≤i)∧(i < (((List.length a):Nat):Int)))∧(if (((at_wend a (Int.toNat i)).tx.count != (IntKind.wrap IntKind.i64 ((IntKind.wrap IntKind.i64 ((IntKind.wrap IntKind.i64 (r1 + (1:Int))) + (1:Int))) + (1:Int))))=true) then (∃ r2:Empty,((KS.mk true [] [] [])=(KS.mk true [] [] []))∧False) else ((((0:Int)≤i)∧(i < (((List.length a):Nat):Int)))∧(((3:Int) ≠ (0:Int))∧(if (((at_wend a (Int.toNat i)).tx.dead != ((Int.tmod (IntKind.wrap IntKind.i64 ((IntKind.wrap IntKind.i64 ((IntKind.wrap IntKind.i64 ((IntKind.wrap IntKind.i64 (r1 + (1:Int))) + (1:Int))) + (1:Int))) + (1:Int))) (3:Int)) == (0:Int)))=true) then (∃ r2:Empty,((KS.mk true [] [] [])=(KS.mk true [] [] []))∧False) else ((((0:Int)≤i)∧(i < (((List.length a):Nat):Int)))∧(if (((at_wend a (Int.toNat i)).rx.expect != (IntKind.wrap IntKind.i64 ((IntKind.wrap IntKind.i64 ((IntKind.wrap IntKind.i64 ((IntKind.wrap IntKind.i64 ((IntKind.wrap IntKind.i64 (r1 + (1:Int))) + (1:Int))) + (1:Int))) + (1:Int))) + (1:Int))))=true) then (∃ r2:Empty,((KS.mk true [] [] [])=(KS.mk true [] [] []))∧False) else ((((0:Int)≤i)∧(i < (((List.length a):Nat):Int)))∧(if (((at_wend a (Int.toNat i)).rx.count != (IntKind.wrap IntKind.i64 ((IntKind.wrap IntKind.i64 ((IntKind.wrap IntKind.i64 ((IntKind.wrap IntKind.i64 ((IntKind.wrap IntKind.i64 ((IntKind.wrap IntKind.i64 (r1 + (1:Int))) + (1:Int))) + (1:Int))) + (1:Int))) + (1:Int))) + (1:Int))))=true) then (∃ r2:Empty,((KS.mk true [] [] [])=(KS.mk true [] [] []))∧False) else ((((0:Int)≤i)∧(i < (((List.length a):Nat):Int)))∧(if (((at_wend a (Int.toNat i)).rx.join.len != (IntKind.wrap IntKind.i64 ((IntKind.wrap IntKind.i64 ((IntKind.wrap IntKind.i64 ((IntKind.wrap IntKind.i64 ((IntKind.wrap IntKind.i64 ((IntKind.wrap IntKind.i64 ((IntKind.wrap IntKind.i64 (r1 + (1:Int))) + (1:Int))) + (1:Int))) + (1:Int))) + (1:Int))) + (1:Int))) + (1:Int))))=true) then (∃ r2:Empty,((KS.mk true [] [] [])=(KS.mk true [] [] []))∧False) else ((((0:Int)≤i)∧(i < (((List.length a):Nat):Int)))∧((true=true)∧((((at_wend a (Int.toNat i)).rx.join.got=([]:(List Int)))∧((0:Int)≤(IntKind.wrap IntKind.i64 ((IntKind.wrap IntKind.i64 ((IntKind.wrap IntKind.i64 ((IntKind.wrap IntKind.i64 ((IntKind.wrap IntKind.i64 ((IntKind.wrap IntKind.i64 ((IntKind.wrap IntKind.i64 ((IntKind.wrap IntKind.i64 (r1 + (1:Int))) + (1:Int))) + (1:Int))) + (1:Int))) + (1:Int))) + (1:Int))) + (1:Int))) + (1:Int)))))∧(∀ r2:Int,(r2=(IntKind.wrap IntKind.i64 ((IntKind.wrap IntKind.i64 ((IntKind.wrap IntKind.i64 ((IntKind.wrap IntKind.i64 ((IntKind.wrap IntKind.i64 ((IntKind.wrap IntKind.i64 ((IntKind.wrap IntKind.i64 ((IntKind.wrap IntKind.i64 (r1 + (1:Int))) + (1:Int))) + (1:Int))) + (1:Int))) + (1:Int))) + (1:Int))) + (1:Int))) + (1:Int))))→(true=true)∧(if ((decide (r2 < (0:Int)))=true) then (∃ r3:Empty,((KS.mk true [] [] [])=(KS.mk true [] [] []))∧False) else ((((0:Int)≤i)∧(i < (((List.length a):Nat):Int)))∧(((3:Int) ≠ (0:Int))∧(if (((at_wend a (Int.toNat i)).rx.again != ((Int.tmod r2 (3:Int)) == (0:Int)))=true) then (∃ r3:Empty,((KS.mk true [] [] [])=(KS.mk true [] [] []))∧False) else ((((0:Int)≤i)∧(i < (((List.length a):Nat):Int)))∧(((3:Int) ≠ (0:Int))∧(if (((at_wend a (Int.toNat i)).rx.busy != ((Int.tmod (IntKind.wrap IntKind.i64 (r2 + (1:Int))) (3:Int)) == (0:Int)))=true) then (∃ r3:Empty,((KS.mk true [] [] [])=(KS.mk true [] [] []))∧False) else ((((0:Int)≤i)∧(i < (((List.length a):Nat):Int)))∧(((3:Int) ≠ (0:Int))∧(if (((at_wend a (Int.toNat i)).rx.dead != ((Int.tmod (IntKind.wrap IntKind.i64 ((IntKind.wrap IntKind.i64 (r2 + (1:Int))) + (1:Int))) (3:Int)) == (0:Int)))=true) then (∃ r3:Empty,((KS.mk true [] [] [])=(KS.mk true [] [] []))∧False) else ((((0:Int)≤i)∧(i < (((List.length a):Nat):Int)))∧(if (((at_wend a (Int.toNat i)).ctx.have_ != (IntKind.wrap IntKind.i64 ((IntKind.wrap IntKind.i64 ((IntKind.wrap IntKind.i64 (r2 + (1:Int))) + (1:Int))) + (1:Int))))=true) then (∃ r3:Empty,((KS.mk true [] [] [])=(KS.mk true [] [] []))∧False) else ((((0:Int)≤i)∧(i < (((List.length a):Nat):Int)))∧((true=true)∧((((at_wend a (Int.toNat i)).ctx.queue=([]:(List Part)))∧((0:Int)≤(IntKind.wrap IntKind.i64 ((IntKind.wrap IntKind.i64 ((IntKind.wrap IntKind.i64 ((IntKind.wrap IntKind.i64 (r2 + (1:Int))) + (1:Int))) + (1:Int))) + (1:Int)))))∧(∀ r3:Int,(r3=(IntKind.wrap IntKind.i64 ((IntKind.wrap IntKind.i64 ((IntKind.wrap IntKind.i64 ((IntKind.wrap IntKind.i64 (r2 + (1:Int))) + (1:Int))) + (1:Int))) + (1:Int))))→(true=true)∧(if ((decide (r3 < (0:Int)))=true) then (∃ r4:Empty,((KS.mk true [] [] [])=(KS.mk true [] [] []))∧False) else ((((0:Int)≤i)∧(i < (((List.length a):Nat):Int)))∧(if (((at_wend a (Int.toNat i)).ctx.granted != r3)=true) then (∃ r4:Empty,((KS.mk true [] [] [])=(KS.mk true [] [] []))∧False) else ((((0:Int)≤i)∧(i < (((List.length a):Nat):Int)))∧(if (((at_wend a (Int.toNat i)).ctx.sent != (IntKind.wrap IntKind.i64 (r3 + (1:Int))))=true) then (∃ r4:Empty,((KS.mk true [] [] [])=(KS.mk true [] [] []))∧False) else ((((0:Int)≤i)∧(i < (((List.length a):Nat):Int)))∧(((3:Int) ≠ (0:Int))∧(if (((at_wend a (Int.toNat i)).ctx.dead != ((Int.tmod (IntKind.wrap IntKind.i64 ((IntKind.wrap IntKind.i64 (r3 + (1:Int))) + (1:Int))) (3:Int)) == (0:Int)))=true) then (∃ r4:Empty,((KS.mk true [] [] [])=(KS.mk true [] [] []))∧False) else ((((0:Int)≤i)∧(i < (((List.length a):Nat):Int)))∧(if (((at_wend a (Int.toNat i)).crx.out != (IntKind.wrap IntKind.i64 ((IntKind.wrap IntKind.i64 ((IntKind.wrap IntKind.i64 (r3 + (1:Int))) + (1:Int))) + (1:Int))))=true) then (∃ r4:Empty,((KS.mk true [] [] [])=(KS.mk true [] [] []))∧False) else ((((0:Int)≤i)∧(i < (((List.length a):Nat):Int)))∧(if (((at_wend a (Int.toNat i)).crx.join.len != (IntKind.wrap IntKind.i64 ((IntKind.wrap IntKind.i64 ((IntKind.wrap IntKind.i64 ((IntKind.wrap IntKind.i64 (r3 + (1:Int))) + (1:Int))) + (1:Int))) + (1:Int))))=true) then (∃ r4:Empty,((KS.mk true [] [] [])=(KS.mk true [] [] []))∧False) else ((((0:Int)≤i)∧(i < (((List.length a):Nat):Int)))∧((true=true)∧((((at_wend a (Int.toNat i)).crx.join.got=([]:(List Int)))∧((0:Int)≤(IntKind.wrap IntKind.i64 ((IntKind.wrap IntKind.i64 ((IntKind.wrap IntKind.i64 ((IntKind.wrap IntKind.i64 ((IntKind.wrap IntKind.i64 (r3 + (1:Int))) + (1:Int))) + (1:Int))) + (1:Int))) + (1:Int)))))∧(∀ r4:Int,(r4=(IntKind.wrap IntKind.i64 ((IntKind.wrap IntKind.i64 ((IntKind.wrap IntKind.i64 ((IntKind.wrap IntKind.i64 ((IntKind.wrap IntKind.i64 (r3 + (1:Int))) + (1:Int))) + (1:Int))) + (1:Int))) + (1:Int))))→(true=true)∧(if ((decide (r4 < (0:Int)))=true) then (∃ r5:Empty,((KS.mk true [] [] [])=(KS.mk true [] [] []))∧False) else ((((0:Int)≤i)∧(i < (((List.length a):Nat):Int)))∧(((3:Int) ≠ (0:Int))∧(if (((at_wend a (Int.toNat i)).crx.dead != ((Int.tmod r4 (3:Int)) == (0:Int)))=true) then (∃ r5:Empty,((KS.mk true [] [] [])=(KS.mk true [] [] []))∧False) else ((((0:Int)≤i)∧(i < (((List.length a):Nat):Int)))∧((true=true)∧((((at_wend a (Int.toNat i)).put=([]:(List (List Int))))∧((0:Int)≤(IntKind.wrap IntKind.i64 (r4 + (1:Int)))))∧(∀ r5:Int,(r5=(IntKind.wrap IntKind.i64 (r4 + (1:Int))))→(true=true)∧(if ((decide (r5 < (0:Int)))=true) then (∃ r6:Empty,((KS.mk true [] [] [])=(KS.mk true [] [] []))∧False) else ((((0:Int)≤i)∧(i < (((List.length a):Nat):Int)))∧((true=true)∧((((at_wend a (Int.toNat i)).got=([]:(List (List Int))))∧((0:Int)≤r5))∧(∀ r6:Int,(r6=r5)→(true=true)∧(if ((decide (r6 < (0:Int)))=true) then (∃ r7:Empty,((KS.mk true [] [] [])=(KS.mk true [] [] []))∧False) else (∃ s:(Prod (List EndS) (Prod Int Int)),((KS.mk true [(Prod.mk (0:Nat) (T.v false [(Cm.d (D.r RK.wend a))])),(Prod.mk (1:Nat) (num IntKind.i64 r6)),(Prod.mk (5:Nat) (num IntKind.i64 (IntKind.wrap IntKind.i64 (i + (1:Int)))))] [] [])=(KS.mk true [(Prod.mk (0:Nat) (T.v false [(Cm.d (D.r RK.wend s.fst))])),(Prod.mk (1:Nat) (num IntKind.i64 s.snd.fst)),(Prod.mk (5:Nat) (num IntKind.i64 s.snd.snd))] [] []))∧(∃ m:Nat,(m < n)∧((s.fst=a0)∧(((a0=([]:(List EndS)))∧((s.snd.snd=(0:Int))∧(s.snd.fst=(1:Int))))∨((a0=((mkE (1:Int)) :: ((mkE (22:Int)) :: ([]:(List EndS)):(List EndS)):(List EndS)))∧(((s.snd.snd=(0:Int))∧((s.snd.fst=(1:Int))∧(m=(2:Nat))))∨(((s.snd.snd=(1:Int))∧((s.snd.fst=(22:Int))∧(m=(1:Nat))))∨((s.snd.snd=(2:Int))∧(s.snd.fst=(43:Int))))))))))))))))))))))))))))))))))))))))))))))))))))))))))))))))))))))))))))))))))))))))))))))) else (∃ r:Int,((KS.mk true [(Prod.mk (1:Nat) (num IntKind.i64 k))] [] [])=(KS.mk true [(Prod.mk (1:Nat) (num IntKind.i64 r))] [] []))∧(((a0=([]:(List EndS)))∧(r=(1:Int)))∨((a0=((mkE (1:Int)) :: ((mkE (22:Int)) :: ([]:(List EndS)):(List EndS)):(List EndS)))∧(r=(43:Int))))) := by
  try dsimp only at hp
  clear hp
  obtain ⟨rfl, hi⟩ := hi
  rcases hi with ⟨rfl, rfl, rfl⟩ | ⟨rfl, ⟨rfl, rfl, rfl⟩ | ⟨rfl, rfl, rfl⟩ | ⟨rfl, rfl⟩⟩
  · rw [if_neg (by decide)]
    exact ⟨1, rfl, .inl ⟨rfl, rfl⟩⟩
  · rw [if_pos (by decide)]
    repeat' first
      | exact rfl
      | exact True.intro
      | exact (by decide : (3 : Int) ≠ 0)
      | with_reducible apply And.intro
      | rw [if_neg (by decide)]
      | (with_reducible intro y_ hy_
         try simp (disch := decide) only [wr, at_w0, at_w1, List.set_cons_zero, List.set_cons_succ, zEnd, Int.reduceToNat, Int.reduceAdd] at hy_
         subst hy_)
      | decide
    all_goals first
      | exact ⟨([mkE 1, mkE 22], 22, 1), rfl, 1, by decide, rfl, .inr ⟨rfl, .inr (.inl ⟨rfl, rfl, rfl⟩)⟩⟩
  · rw [if_pos (by decide)]
    repeat' first
      | exact rfl
      | exact True.intro
      | exact (by decide : (3 : Int) ≠ 0)
      | with_reducible apply And.intro
      | rw [if_neg (by decide)]
      | (with_reducible intro y_ hy_
         try simp (disch := decide) only [wr, at_w0, at_w1, List.set_cons_zero, List.set_cons_succ, zEnd, Int.reduceToNat, Int.reduceAdd] at hy_
         subst hy_)
      | decide
    all_goals first
      | exact ⟨([mkE 1, mkE 22], 43, 2), rfl, 0, by decide, rfl, .inr ⟨rfl, .inr (.inr ⟨rfl, rfl⟩)⟩⟩
  · rw [if_neg (by decide)]
    exact ⟨43, rfl, .inr ⟨rfl, rfl⟩⟩
theorem vS_laws_heldWldEndS_0 (a0 : List EndS) (k0 : Int) (i0 : Int) (hp : (fun (a : List EndS) (k : Int) (i : Int) => ((a = [] ∨ a = [mkE 1, mkE 22]) ∧ i = 0 ∧ k = 1)) a0 k0 i0) : ∃ n : Nat, (fun (a : List EndS) (k : Int) (i : Int) => (a = a0 ∧ ((a0 = [] ∧ i = 0 ∧ k = 1) ∨ (a0 = [mkE 1, mkE 22] ∧ ((i = 0 ∧ k = 1 ∧ n = 2) ∨ (i = 1 ∧ k = 22 ∧ n = 1) ∨ (i = 2 ∧ k = 43)))))) a0 k0 i0 := by
  try dsimp only at hp
  try dsimp only
  obtain ⟨h, rfl, rfl⟩ := hp
  rcases h with rfl | rfl
  · exact ⟨0, rfl, .inl ⟨rfl, rfl, rfl⟩⟩
  · exact ⟨2, rfl, .inr ⟨rfl, .inl ⟨rfl, rfl, rfl⟩⟩⟩
theorem w_laws_heldWldEndS : Valid Try.prog 43 c_laws_heldWldEndS :=
  valid_ctr2 (V := V_laws_heldWldEndS) (tysB_ok tys_ok) ⟨(CallsL.cons w_laws_heldSegPartS_0 (CallsL.cons w_laws_heldByteS_0 (CallsL.cons w_laws_heldByteSS_0 (CallsL.nil _)))), (IosL.nil _)⟩ mixed 0 0 Try.func43 rfl (by kernel_rfl)
    (fun c hc => by
      obtain rfl := Option.some.inj hc
      exact ⟨trivial, ⟨⟨trivial, ⟨LoopD.ok2 (V := V_laws_heldWldEndS) l_laws_heldWldEndS_0 (LoopsM.cons 0 l_laws_heldWldEndS_0 LoopsM.nil) 0 _ i_laws_heldWldEndS_0 (fun x hx => vS_laws_heldWldEndS_0 x.1 x.2.1 x.2.2 hx) (fun x hx n s hi => ⟨_, by kernel_rfl, vL_laws_heldWldEndS_0 x.1 x.2.1 x.2.2 s.1 s.2.1 s.2.2 n hx hi⟩), ⟨⟨trivial, ⟨trivial, trivial⟩⟩, ⟨⟨⟨trivial, ⟨⟨trivial, trivial⟩, trivial⟩⟩, ⟨trivial, ⟨⟨trivial, ⟨⟨trivial, trivial⟩, trivial⟩⟩, ⟨trivial, ⟨trivial, ⟨⟨trivial, ⟨⟨trivial, trivial⟩, trivial⟩⟩, ⟨⟨trivial, ⟨⟨trivial, trivial⟩, trivial⟩⟩, ⟨trivial, ⟨trivial, ⟨⟨trivial, ⟨⟨trivial, trivial⟩, trivial⟩⟩, ⟨⟨trivial, ⟨⟨trivial, trivial⟩, trivial⟩⟩, ⟨trivial, ⟨⟨trivial, ⟨⟨trivial, trivial⟩, trivial⟩⟩, ⟨trivial, ⟨⟨trivial, ⟨⟨trivial, trivial⟩, trivial⟩⟩, ⟨trivial, ⟨⟨trivial, ⟨⟨trivial, trivial⟩, trivial⟩⟩, ⟨trivial, ⟨⟨trivial, ⟨⟨trivial, trivial⟩, trivial⟩⟩, ⟨trivial, ⟨⟨trivial, ⟨⟨trivial, trivial⟩, trivial⟩⟩, ⟨trivial, ⟨⟨trivial, ⟨⟨trivial, trivial⟩, trivial⟩⟩, ⟨trivial, ⟨⟨trivial, ⟨⟨trivial, trivial⟩, trivial⟩⟩, ⟨trivial, ⟨trivial, ⟨⟨trivial, ⟨⟨trivial, trivial⟩, trivial⟩⟩, ⟨⟨trivial, ⟨⟨trivial, trivial⟩, trivial⟩⟩, ⟨trivial, ⟨⟨trivial, ⟨⟨trivial, trivial⟩, trivial⟩⟩, ⟨trivial, ⟨⟨trivial, ⟨⟨trivial, trivial⟩, trivial⟩⟩, ⟨trivial, ⟨⟨trivial, ⟨⟨trivial, trivial⟩, trivial⟩⟩, ⟨trivial, ⟨trivial, ⟨⟨trivial, ⟨⟨trivial, trivial⟩, trivial⟩⟩, ⟨⟨trivial, ⟨⟨trivial, trivial⟩, trivial⟩⟩, ⟨trivial, ⟨⟨trivial, ⟨⟨trivial, trivial⟩, trivial⟩⟩, ⟨trivial, ⟨⟨trivial, ⟨⟨trivial, trivial⟩, trivial⟩⟩, ⟨trivial, ⟨⟨trivial, ⟨⟨trivial, trivial⟩, trivial⟩⟩, ⟨trivial, ⟨⟨trivial, ⟨⟨trivial, trivial⟩, trivial⟩⟩, ⟨trivial, ⟨trivial, ⟨⟨trivial, ⟨⟨trivial, trivial⟩, trivial⟩⟩, ⟨⟨trivial, ⟨⟨trivial, trivial⟩, trivial⟩⟩, ⟨trivial, ⟨trivial, ⟨⟨trivial, ⟨⟨trivial, trivial⟩, trivial⟩⟩, ⟨trivial, ⟨trivial, ⟨⟨trivial, trivial⟩, trivial⟩⟩⟩⟩⟩⟩⟩⟩⟩⟩⟩⟩⟩⟩⟩⟩⟩⟩⟩⟩⟩⟩⟩⟩⟩⟩⟩⟩⟩⟩⟩⟩⟩⟩⟩⟩⟩⟩⟩⟩⟩⟩⟩⟩⟩⟩⟩⟩⟩⟩⟩⟩⟩⟩⟩⟩⟩, trivial⟩⟩⟩⟩, ⟨trivial, trivial⟩⟩⟩)
    (fun x K hp hk => ⟨_, by kernel_rfl, vF_laws_heldWldEndS x.1 x.2 K hp (fun r h => hk r h)⟩)
theorem vF_impl_WldNew_x (c:Cfg) (K:List Arg→List (List AC)→Prop) (hp:True) (hk:∀ (w:WldS),(w=wldNew c)→K ([dWld w]) ([])):(true=true)∧(True∧(∀ r:Bool,(r=(decide (CfgP c)))→(true=true)∧(if ((!r)=true) then ((true=true)∧(K [(Arg.v true [(AC.d (D.i IntKind.i64 (0:Int))),(AC.d (D.i IntKind.i64 (0:Int))),(AC.d (D.i IntKind.i64 (0:Int))),(AC.d (D.i IntKind.i64 (0:Int))),(AC.d (D.i IntKind.i64 (0:Int))),(AC.own (RC.mk (48:Nat) RK.wend ([]:(List EndS)) (RM.mk (dpM false (Option.none)) false (0:Nat) false))),(AC.own (RC.mk (49:Nat) RK.nets ([]:(List (List NetS))) (RM.mk (dpM false (Option.none)) false (0:Nat) false))),(AC.d (D.i IntKind.i64 (0:Int)))])] [])) else (((((0:Int)≤(2:Int))∧(((2:Int)=(2:Int))∧((2:Nat)≤(137438953472:Nat))))∧((true=true)∧((((0:Int)≤(2:Int))∧(((2:Int)=(2:Int))∧((2:Nat)≤(137438953472:Nat))))∧((true=true)∧((true=true)∧((true=true)∧(K [(Arg.v true [(AC.d (D.i IntKind.i64 c.mode)),(AC.d (D.i IntKind.i64 c.win)),(AC.d (D.i IntKind.i64 c.mps)),(AC.d (D.i IntKind.i64 c.mtu)),(AC.d (D.i IntKind.i64 c.try_)),(AC.own (RC.mk (48:Nat) RK.wend (List.replicate (2:Nat) (RK.z RK.wend)) (RM.mk (dpM false (Option.none)) false (0:Nat) false))),(AC.own (RC.mk (49:Nat) RK.nets (List.replicate (2:Nat) (RK.z RK.nets)) (RM.mk (dpM false (Option.none)) false (0:Nat) false))),(AC.d (D.i IntKind.i64 (0:Int)))])] [])))))))∧((((0:Int)≤(2:Int))∧(((2:Int)=(2:Int))∧((2:Nat)≤(137438953472:Nat))))∧((true=true)∧((((0:Int)≤(2:Int))∧(((2:Int)=(2:Int))∧((2:Nat)≤(137438953472:Nat))))∧((true=true)∧((true=true)∧((true=true)∧(K [(Arg.v true [(AC.d (D.i IntKind.i64 c.mode)),(AC.d (D.i IntKind.i64 c.win)),(AC.d (D.i IntKind.i64 c.mps)),(AC.d (D.i IntKind.i64 c.mtu)),(AC.d (D.i IntKind.i64 c.try_)),(AC.own (RC.mk (48:Nat) RK.wend (List.replicate (2:Nat) (RK.z RK.wend)) (RM.mk (dpM false (Option.none)) false (0:Nat) false))),(AC.own (RC.mk (49:Nat) RK.nets (List.replicate (2:Nat) (RK.z RK.nets)) (RM.mk (dpM false (Option.none)) false (0:Nat) false))),(AC.d (D.i IntKind.i64 (0:Int)))])] []))))))))))) := by
  repeat' first
    | exact rfl
    | exact True.intro
    | with_reducible apply And.intro
    | (with_reducible intro y_ hy_; subst hy_)
    | with_reducible intro y_
    | (refine iteI (fun h => ?_) (fun h => ?_))
  all_goals try simp only [Bool.not_eq_true', decide_eq_false_iff_not, decide_eq_true_eq, Bool.not_eq_true, bne_iff_ne, beq_iff_eq, ne_eq, Decidable.not_not, Bool.not_eq_false, gt_iff_lt, ge_iff_le, Int.not_le, Int.not_lt, beq_eq_false_iff_ne, bne_eq_false_iff_eq, Bool.and_eq_true, Bool.or_eq_true, Bool.true_eq_false, Bool.false_eq_true] at *
  all_goals try simp (disch := first | omega | grind []) only [wr] at *
  all_goals first
    | assumption
    | omega
    | exact hk _ (wldNew_ok ‹CfgP _›).symm
    | exact hk _ (wldNew_no ‹¬ CfgP _›).symm
    | exact hk _ (by grind [])
    | (simp only [LIM] at *; omega)
    | grind [LIM]
theorem w_impl_WldNew_x : Valid Try.prog 6 c_impl_WldNew_x :=
  valid_ctr2 (V := V_impl_WldNew_x) (tysB_ok tys_ok) ⟨(CallsL.cons w_impl_CfgOk (CallsL.nil _)), (IosL.nil _)⟩ mixed 2 2 Try.func6 rfl (by kernel_rfl)
    (fun c hc => by
      obtain rfl := Option.some.inj hc
      exact ⟨trivial, ⟨⟨trivial, ⟨⟨trivial, trivial⟩, trivial⟩⟩, ⟨trivial, trivial⟩⟩⟩)
    (fun x K hp hk => ⟨_, by kernel_rfl, vF_impl_WldNew_x x K hp (fun w h => hk w h)⟩)
theorem vF_laws_markWldWorld (w:WldS) (k:Int) (K:List Arg→List RC→Prop) (hp:((w.ends=[]∧w.net=[])∨(w.ends=[zEnd,zEnd]∧w.net=[[],[]]))∧k=1) (hk:∀ (r:Int) (e:List EndS) (m:List (List NetS)),(((w.ends=[]∧e=[]∧r=1)∨(w.ends=[zEnd,zEnd]∧e=[mkE 1,mkE 22]∧r=43))∧m=w.net)→K ([rInt.to r]) ([⟨48,.wend,e,m0⟩,⟨49,.nets,m,m0⟩])):(true=true)∧((((w.ends=([]:(List EndS)))∨(w.ends=(zEnd :: (zEnd :: ([]:(List EndS)):(List EndS)):(List EndS))))∧(k=(1:Int)))∧(∀ r:(Prod Int (List EndS)),(((w.ends=([]:(List EndS)))∧((r.snd=([]:(List EndS)))∧(r.fst=(1:Int))))∨((w.ends=(zEnd :: (zEnd :: ([]:(List EndS)):(List EndS)):(List EndS)))∧((r.snd=((mkE (1:Int)) :: ((mkE (22:Int)) :: ([]:(List EndS)):(List EndS)):(List EndS)))∧(r.fst=(43:Int)))))→(true=true)∧((true=true)∧((((w.net=([]:(List (List NetS))))∨(w.net=(([]:(List NetS)) :: (([]:(List NetS)) :: ([]:(List (List NetS))):(List (List NetS))):(List (List NetS)))))∧((0:Int)≤r.fst))∧(∀ r1:Int,(r1=r.fst)→(true=true)∧(K [(aI IntKind.i64 r1)] [(RC.mk (48:Nat) RK.wend r.snd (RM.mk (dpM false (Option.none)) false (0:Nat) false)),(RC.mk (49:Nat) RK.nets w.net (RM.mk (dpM false (Option.none)) false (0:Nat) false))])))))) := by
  obtain ⟨h, rfl⟩ := hp
  refine ⟨rfl, ⟨h.imp And.left And.left, rfl⟩, fun r hr => ⟨rfl, rfl, ⟨h.imp And.right And.right, ?_⟩, fun r1 hr1 => ⟨rfl, hk r1 r.2 w.net ⟨?_, rfl⟩⟩⟩⟩
  · rcases hr with hr | hr <;> omega
  · rcases hr with ⟨a1, a2, a3⟩ | ⟨a1, a2, a3⟩
    · exact .inl ⟨a1, a2, hr1.trans a3⟩
    · exact .inr ⟨a1, a2, hr1.trans a3⟩
theorem w_laws_markWldWorld : ValidI Try.prog 16 c_laws_markWldWorld :=
  valid_ctrI (V := V_laws_markWldWorld) (tysB_ok tys_ok) ⟨(CallsL.cons w_laws_markNetMsgSS (CallsL.nil _)), (IosL.cons w_laws_markWldEndS (IosL.nil _))⟩ mixed 0 1 Try.func16 rfl (by kernel_rfl)
    (fun c hc => by
      obtain rfl := Option.some.inj hc
      exact ⟨trivial, ⟨trivial, ⟨trivial, ⟨trivial, trivial⟩⟩⟩⟩)
    (fun x K hp hk => ⟨_, by kernel_rfl, vF_laws_markWldWorld x.1 x.2 K hp (fun r e m h => hk (r, e, m) h)⟩)
theorem vF_laws_heldWldWorld (w:WldS) (k:Int) (K:List Arg→List (List AC)→Prop) (hp:((w.ends=[]∧w.net=[])∨(w.ends=[mkE 1,mkE 22]∧w.net=[[],[]]))∧k=1) (hk:∀ (r:Int),((w.ends=[]∧r=1)∨(w.ends=[mkE 1,mkE 22]∧r=43))→K ([rInt.to r]) ([])):(true=true)∧((((w.ends=([]:(List EndS)))∨(w.ends=((mkE (1:Int)) :: ((mkE (22:Int)) :: ([]:(List EndS)):(List EndS)):(List EndS))))∧(k=(1:Int)))∧(∀ r:Int,(((w.ends=([]:(List EndS)))∧(r=(1:Int)))∨((w.ends=((mkE (1:Int)) :: ((mkE (22:Int)) :: ([]:(List EndS)):(List EndS)):(List EndS)))∧(r=(43:Int))))→(true=true)∧(if ((decide (r < (0:Int)))=true) then ((true=true)∧(K [(aI IntKind.i64 (-1:Int))] [])) else ((true=true)∧((((w.net=([]:(List (List NetS))))∨(w.net=(([]:(List NetS)) :: (([]:(List NetS)) :: ([]:(List (List NetS))):(List (List NetS))):(List (List NetS)))))∧((0:Int)≤r))∧(∀ r1:Int,(r1=r)→(true=true)∧(if ((decide (r1 < (0:Int)))=true) then ((true=true)∧(K [(aI IntKind.i64 (-1:Int))] [])) else ((true=true)∧(K [(aI IntKind.i64 r1)] []))))))))) := by
  obtain ⟨h, rfl⟩ := hp
  refine ⟨rfl, ⟨h.imp And.left And.left, rfl⟩, fun r hr => ⟨rfl, ?_⟩⟩
  have hr0 : 0 ≤ r := by rcases hr with hr | hr <;> omega
  rw [if_neg (by simp; omega)]
  refine ⟨rfl, ⟨h.imp And.right And.right, hr0⟩, fun r1 hr1 => ⟨rfl, ?_⟩⟩
  subst hr1
  rw [if_neg (by simp; omega)]
  exact ⟨rfl, hk _ hr⟩
theorem w_laws_heldWldWorld : Valid Try.prog 17 c_laws_heldWldWorld :=
  valid_ctr2 (V := V_laws_heldWldWorld) (tysB_ok tys_ok) ⟨(CallsL.cons w_laws_heldWldEndS (CallsL.cons w_laws_heldNetMsgSS (CallsL.nil _))), (IosL.nil _)⟩ mixed 0 1 Try.func17 rfl (by kernel_rfl)
    (fun c hc => by
      obtain rfl := Option.some.inj hc
      exact ⟨trivial, ⟨trivial, ⟨⟨trivial, ⟨⟨trivial, trivial⟩, trivial⟩⟩, ⟨trivial, ⟨⟨trivial, ⟨⟨trivial, trivial⟩, trivial⟩⟩, ⟨trivial, trivial⟩⟩⟩⟩⟩⟩)
    (fun x K hp hk => ⟨_, by kernel_rfl, vF_laws_heldWldWorld x.1 x.2 K hp (fun r h => hk r h)⟩)
end Go.Proofs.YtkencmgcibbfaaaE
