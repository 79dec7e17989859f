/- A part of the proof of laws of the program: what calls of the program answer. Conditions: none. -/
import Derived.Test.YtfcllghcdeifbaaMcd4ac052
set_option linter.unusedVariables false
set_option linter.unusedSimpArgs false
set_option linter.unusedSectionVars false

/- Contracts: H. Conditions: none. -/
set_option linter.unusedVariables false
set_option maxHeartbeats 1600000
namespace Go.Proofs.YtfcllghcdeifbaaE
open Go
/-! laws.liBytes -/
def l_laws_liBytes_0 : LoopD ((List Int) × (List Int) × (Int)) ((Unit)) ((Unit)) where
  n := 26
  head := ⟨[0, 1, 5], [], []⟩
  st := fun x_ => (fun (a : List Int) (b : List Int) (i : Int) => (⟨true, [(0, .v false [.d (.r .u8 a)]), (1, .v false [.d (.r .u8 b)]), (5, num .i64 i)], [], []⟩)) x_.1 x_.2.1 x_.2.2
  pre := fun x_ => (fun (a : List Int) (b : List Int) (i : Int) => (a.length = b.length ∧ i = 0 ∧ a.length ≤ LIM ∧ True)) x_.1 x_.2.1 x_.2.2
  nk := ⟨[], [], []⟩
  nst := fun r_ => (fun (u : Unit) => (⟨true, [], [], []⟩)) r_
  npost := fun x_ r_ => (fun x_ => (fun (a0 : List Int) (b0 : List Int) (i0 : Int) => ((fun r_ => (fun (u : Unit) => (a0 = b0)) r_))) x_.1 x_.2.1 x_.2.2) x_ r_
  rk := ⟨[4], [], []⟩
  rst := fun r_ => (fun (u : Unit) => (⟨true, [(4, boo false)], [], []⟩)) r_
  rpost := fun x_ r_ => (fun x_ => (fun (a0 : List Int) (b0 : List Int) (i0 : Int) => ((fun r_ => (fun (u : Unit) => (a0 ≠ b0)) r_))) x_.1 x_.2.1 x_.2.2) x_ r_
def i_laws_liBytes_0 (x : (List Int) × (List Int) × (Int)) (n : Nat) (s : (List Int) × (List Int) × (Int)) : Prop := (fun x_ => (fun (a0 : List Int) (b0 : List Int) (i0 : Int) => ((fun s_ => (fun (a : List Int) (b : List Int) (i : Int) => (a = a0 ∧ b = b0 ∧ a.length = b.length ∧ a.length ≤ LIM ∧ (True) ∧ 0 ≤ i ∧ i + n = a.length ∧ a.take i.toNat = b.take i.toNat)) s_.1 s_.2.1 s_.2.2))) x_.1 x_.2.1 x_.2.2) x s
/-! laws.liFrame -/
/-! laws.liOk -/
end Go.Proofs.YtfcllghcdeifbaaE


/- Calls answer what is promised: H. Conditions: none. -/
set_option linter.unusedVariables false
set_option maxHeartbeats 1600000
namespace Go.Proofs.YtfcllghcdeifbaaE
open Go
end Go.Proofs.YtfcllghcdeifbaaE
