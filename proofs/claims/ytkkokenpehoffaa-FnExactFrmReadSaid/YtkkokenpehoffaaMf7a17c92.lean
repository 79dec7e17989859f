/- A part of the proof of laws of the program: what calls of the program answer. Conditions: none. -/
import Derived.Test.YtkkokenpehoffaaMfbc63753
set_option linter.unusedVariables false
set_option linter.unusedSimpArgs false
set_option linter.unusedSectionVars false
/- Contracts: G. Conditions: none. -/
set_option linter.unusedVariables false
set_option maxHeartbeats 1600000
namespace Go.Proofs.YtkkokenpehoffaaE
open Go
/-! impl.truth -/
def c_impl_truth : Ent := ctr (α := (Bool)) (ρ := (Int)) [] [] (rs1 rB) (fun x_ => (fun (b : Bool) => (True)) x_) (fun x_ r_ => (fun x_ => (fun (b : Bool) => ((fun r_ => (fun (x : Int) => (x = bit b)) r_))) x_) x_ r_) (fun r_ => (fun (x : Int) => ([rInt.to x])) r_) (fun r_ => (fun (x : Int) => ([])) r_)
def V_impl_truth : Env := ⟨tys, [], [], [], [], [], [], [], []⟩
/-! spec.l2Bit -/
def c_spec_l2Bit : Ent := ctr (α := (Bool)) (ρ := (Int)) [] [] (rs1 rB) (fun x_ => (fun (b : Bool) => (True)) x_) (fun x_ r_ => (fun x_ => (fun (b : Bool) => ((fun r_ => (fun (x : Int) => (x = bit b)) r_))) x_) x_ r_) (fun r_ => (fun (x : Int) => ([rInt.to x])) r_) (fun r_ => (fun (x : Int) => ([])) r_)
def V_spec_l2Bit : Env := ⟨tys, [], [], [], [], [], [], [], []⟩
end Go.Proofs.YtkkokenpehoffaaE

/- Calls answer what is promised: G. Conditions: none. -/
set_option linter.unusedVariables false
set_option maxHeartbeats 1600000
namespace Go.Proofs.YtkkokenpehoffaaE
open Go
theorem vF_impl_truth (b:Bool) (K:List Arg→List (List AC)→Prop) (hp:True) (hk:∀ (x:Int),(x=bit b)→K ([rInt.to x]) ([])):if (b=true) then ((true=true)∧(K [(aI IntKind.i64 (1:Int))] [])) else ((true=true)∧(K [(aI IntKind.i64 (0:Int))] [])) := by
  repeat' first
    | exact rfl
    | trivial
    | apply And.intro
    | (intro r hr; subst hr)
    | intro r
    | exact hp
    | (refine iteI (fun h => ?_) (fun h => ?_))
  all_goals first
    | exact hk _ (by grind [bit, Int.tmod_eq_emod_of_nonneg, IntKind.wrap_i64])
    | omega
    | grind [bit, Int.tmod_eq_emod_of_nonneg, IntKind.wrap_i64]
theorem w_impl_truth : Valid Try.prog 44 c_impl_truth :=
  valid_ctr2 (V := V_impl_truth) (tysB_ok tys_ok) ⟨(CallsL.nil _), (IosL.nil _)⟩ mixed 0 0 Try.func44 rfl (by kernel_rfl)
    (fun c hc => by
      obtain rfl := Option.some.inj hc
      exact ⟨trivial, ⟨⟨trivial, ⟨⟨trivial, trivial⟩, trivial⟩⟩, ⟨trivial, trivial⟩⟩⟩)
    (fun x K hp hk => ⟨_, by kernel_rfl, vF_impl_truth x K hp (fun x h => hk x h)⟩)
theorem vF_spec_l2Bit (b:Bool) (K:List Arg→List (List AC)→Prop) (hp:True) (hk:∀ (x:Int),(x=bit b)→K ([rInt.to x]) ([])):if (b=true) then ((true=true)∧(K [(aI IntKind.i64 (1:Int))] [])) else ((true=true)∧(K [(aI IntKind.i64 (0:Int))] [])) := by
  repeat' first
    | exact rfl
    | trivial
    | apply And.intro
    | (intro r hr; subst hr)
    | intro r
    | exact hp
    | (refine iteI (fun h => ?_) (fun h => ?_))
  all_goals first
    | exact hk _ (by grind [bit, Int.tmod_eq_emod_of_nonneg, IntKind.wrap_i64])
    | omega
    | grind [bit, Int.tmod_eq_emod_of_nonneg, IntKind.wrap_i64]
theorem w_spec_l2Bit : Valid Try.prog 43 c_spec_l2Bit :=
  valid_ctr2 (V := V_spec_l2Bit) (tysB_ok tys_ok) ⟨(CallsL.nil _), (IosL.nil _)⟩ mixed 0 0 Try.func43 rfl (by kernel_rfl)
    (fun c hc => by
      obtain rfl := Option.some.inj hc
      exact ⟨trivial, ⟨⟨trivial, ⟨⟨trivial, trivial⟩, trivial⟩⟩, ⟨trivial, trivial⟩⟩⟩)
    (fun x K hp hk => ⟨_, by kernel_rfl, vF_spec_l2Bit x K hp (fun x h => hk x h)⟩)
end Go.Proofs.YtkkokenpehoffaaE
