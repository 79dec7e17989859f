/- A part of the proof of laws of the program: what calls of the program answer. Conditions: none. -/
import Derived.Test.YtkencmgcibbfaaaM3138ead3
set_option linter.unusedVariables false
set_option linter.unusedSimpArgs false
set_option linter.unusedSectionVars false
/- Contracts: A. Conditions: none. -/
set_option linter.unusedVariables false
set_option maxHeartbeats 1600000
namespace Go.Proofs.YtkencmgcibbfaaaE
open Go
/-! impl.in -/
def c_impl_in : Ent := ctr (α := (Int) × (Int) × (Int)) (ρ := (Bool)) [] [] (rs rInt (rs rInt (rs1 rInt))) (fun x_ => (fun (a : Int) (b : Int) (c : Int) => (True)) x_.1 x_.2.1 x_.2.2) (fun x_ r_ => (fun x_ => (fun (a : Int) (b : Int) (c : Int) => ((fun r_ => (fun (r : Bool) => (r = decide (b ≤ a ∧ a ≤ c))) r_))) x_.1 x_.2.1 x_.2.2) x_ r_) (fun r_ => (fun (r : Bool) => ([rB.to r])) r_) (fun r_ => (fun (r : Bool) => ([])) r_)
def V_impl_in : Env := ⟨tys, [], [], [], [], [], [500010], [], []⟩
/-! spec.l1In -/
def c_spec_l1In : Ent := ctr (α := (Int) × (Int) × (Int)) (ρ := (Bool)) [] [] (rs rInt (rs rInt (rs1 rInt))) (fun x_ => (fun (a : Int) (b : Int) (c : Int) => (True)) x_.1 x_.2.1 x_.2.2) (fun x_ r_ => (fun x_ => (fun (a : Int) (b : Int) (c : Int) => ((fun r_ => (fun (r : Bool) => (r = decide (b ≤ a ∧ a ≤ c))) r_))) x_.1 x_.2.1 x_.2.2) x_ r_) (fun r_ => (fun (r : Bool) => ([rB.to r])) r_) (fun r_ => (fun (r : Bool) => ([])) r_)
def V_spec_l1In : Env := ⟨tys, [], [], [], [], [], [500010], [], []⟩
end Go.Proofs.YtkencmgcibbfaaaE

/- Calls answer what is promised: A. Conditions: none. -/
set_option linter.unusedVariables false
set_option maxHeartbeats 1600000
namespace Go.Proofs.YtkencmgcibbfaaaE
open Go
theorem vF_impl_in (a:Int) (b:Int) (c:Int) (K:List Arg→List (List AC)→Prop) (hp:True) (hk:∀ (r:Bool),(r=decide (b≤a∧a≤c))→K ([rB.to r]) ([])):if ((decide (a ≥ b))=true) then ((true=true)∧(K [(aB (decide (a≤c)))] [])) else ((true=true)∧(K [(aB false)] [])) := by
  simp only [decide_eq_true_eq]
  split
  · exact ⟨trivial, hk _ (by simp_all)⟩
  · exact ⟨trivial, hk _ (by simp; omega)⟩
theorem w_impl_in : Valid Try.prog 28 c_impl_in :=
  valid_ctr2 (V := V_impl_in) (tysB_ok tys_ok) ⟨(CallsL.nil _), (IosL.nil _)⟩ mixed 0 0 Try.func28 rfl (by kernel_rfl)
    (fun c hc => by
      obtain rfl := Option.some.inj hc
      exact ⟨trivial, ⟨trivial, trivial⟩⟩)
    (fun x K hp hk => ⟨_, by kernel_rfl, vF_impl_in x.1 x.2.1 x.2.2 K hp (fun r h => hk r h)⟩)
theorem vF_spec_l1In (a:Int) (b:Int) (c:Int) (K:List Arg→List (List AC)→Prop) (hp:True) (hk:∀ (r:Bool),(r=decide (b≤a∧a≤c))→K ([rB.to r]) ([])):if ((decide (a ≥ b))=true) then ((true=true)∧(K [(aB (decide (a≤c)))] [])) else ((true=true)∧(K [(aB false)] [])) := by
  simp only [decide_eq_true_eq]
  split
  · exact ⟨trivial, hk _ (by simp_all)⟩
  · exact ⟨trivial, hk _ (by simp; omega)⟩
theorem w_spec_l1In : Valid Try.prog 22 c_spec_l1In :=
  valid_ctr2 (V := V_spec_l1In) (tysB_ok tys_ok) ⟨(CallsL.nil _), (IosL.nil _)⟩ mixed 0 0 Try.func22 rfl (by kernel_rfl)
    (fun c hc => by
      obtain rfl := Option.some.inj hc
      exact ⟨trivial, ⟨trivial, trivial⟩⟩)
    (fun x K hp hk => ⟨_, by kernel_rfl, vF_spec_l1In x.1 x.2.1 x.2.2 K hp (fun r h => hk r h)⟩)
end Go.Proofs.YtkencmgcibbfaaaE
