/- A part of the proof of laws of the program: what calls of the program answer. Conditions: none. -/
import Derived.Test.YtfcllghcdeifbaaMe131a798
set_option linter.unusedVariables false
set_option linter.unusedSimpArgs false
set_option linter.unusedSectionVars false

/- Contracts: D. Conditions: none. -/
set_option linter.unusedVariables false
set_option maxHeartbeats 1600000
namespace Go.Proofs.YtfcllghcdeifbaaE
open Go
/-! spec.l20Bytes -/
def l_spec_l20Bytes_0 : LoopD ((List Int) × (Int) × (RdS)) ((List Int) × (RdS)) ((Empty)) where
  n := 30
  head := ⟨[0, 5, 6], [0], [0]⟩
  st := fun x_ => (fun (o : List Int) (k : Int) (r : RdS) => (⟨true, [(0, .pb 0 0 0), (5, .v false [.ref 0 0]), (6, num .i64 k)], [⟨0, some ⟨5, .u8, o, m0⟩⟩], [⟨0, some ((rdC r).map .d)⟩]⟩)) x_.1 x_.2.1 x_.2.2
  pre := fun x_ => (fun (o : List Int) (k : Int) (r : RdS) => (Bytes o ∧ o.length = 0 ∧ 0 ≤ k ∧ k ≤ 900 ∧ RdOk r 200000000)) x_.1 x_.2.1 x_.2.2
  nk := ⟨[0, 5], [0], [0]⟩
  nst := fun r_ => (fun (o : List Int) (r : RdS) => (⟨true, [(0, .pb 0 0 0), (5, .v false [.ref 0 0])], [⟨0, some ⟨5, .u8, o, m0⟩⟩], [⟨0, some ((rdC r).map .d)⟩]⟩)) r_.1 r_.2
  npost := fun x_ r_ => (fun x_ => (fun (o0 : List Int) (k0 : Int) (r0 : RdS) => ((fun r_ => (fun (o : List Int) (r : RdS) => (Bytes o ∧ (o.length : Int) = k0 ∧ RdOn r0 r (3 * k0))) r_.1 r_.2))) x_.1 x_.2.1 x_.2.2) x_ r_
  rk := ⟨[], [], []⟩
  rst := fun _ => ⟨true, [], [], []⟩
  rpost := fun _ _ => False
def i_spec_l20Bytes_0 (x : (List Int) × (Int) × (RdS)) (n : Nat) (s : (List Int) × (Int) × (RdS)) : Prop := (fun x_ => (fun (o0 : List Int) (k0 : Int) (r0 : RdS) => ((fun s_ => (fun (o : List Int) (k : Int) (r : RdS) => (Bytes o ∧ (n : Int) = k ∧ (o.length : Int) = k0 - k ∧ k ≤ k0 ∧ k0 ≤ 900 ∧ RdOk r0 200000000 ∧ RdOn r0 r (3 * (k0 - k)))) s_.1 s_.2.1 s_.2.2))) x_.1 x_.2.1 x_.2.2) x s
end Go.Proofs.YtfcllghcdeifbaaE


/- Calls answer what is promised: D. Conditions: none. -/
set_option linter.unusedVariables false
set_option maxHeartbeats 1600000
namespace Go.Proofs.YtfcllghcdeifbaaE
open Go
end Go.Proofs.YtfcllghcdeifbaaE
