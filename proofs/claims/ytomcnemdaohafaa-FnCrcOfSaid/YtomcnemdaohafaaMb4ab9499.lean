/- A part of the proof of laws of the program: what calls of the program answer. Conditions: none. -/
import Derived.Test.YtomcnemdaohafaaMa56ad342
set_option linter.unusedVariables false
set_option linter.unusedSimpArgs false
set_option linter.unusedSectionVars false
/- Contracts: H. Conditions: none. -/
set_option linter.unusedVariables false
set_option maxHeartbeats 1600000
namespace Go.Proofs.YtomcnemdaohafaaE
open Go
/-! laws.liOk -/
def c_laws_liOk : Ent := ctr (α := Unit) (ρ := (Bool)) [] [] rs0 (fun x_ => (True)) (fun x_ r_ => (fun x_ => ((fun r_ => (fun (r : Bool) => (r = true)) r_))) x_ r_) (fun r_ => (fun (r : Bool) => ([rB.to r])) r_) (fun r_ => (fun (r : Bool) => ([])) r_)
def V_laws_liOk : Env := ⟨tys, [(23, c_impl_CfgOk)], [], [], [], [], [], [], []⟩
end Go.Proofs.YtomcnemdaohafaaE

/- Calls answer what is promised: H. Conditions: none. -/
set_option linter.unusedVariables false
set_option maxHeartbeats 1600000
namespace Go.Proofs.YtomcnemdaohafaaE
open Go
theorem vF_laws_liOk (K:List Arg→List (List AC)→Prop) (hp:True) (hk:∀ (r:Bool),(r=true)→K ([rB.to r]) ([])):(true=true)∧(True∧(∀ r:Bool,(r=true)→(true=true)∧((true=true)∧(K [(aB r)] [])))) := by
  exact ⟨by trivial, trivial, fun r hr => ⟨by trivial, by trivial, hk r hr⟩⟩
theorem w_laws_liOk : Valid Try.prog 10 c_laws_liOk :=
  valid_ctr2 (V := V_laws_liOk) (tysB_ok tys_ok) ⟨(CallsL.cons w_impl_CfgOk (CallsL.nil _)), (IosL.nil _)⟩ mixed 0 0 Try.func10 rfl (by kernel_rfl)
    (fun c hc => by
      obtain rfl := Option.some.inj hc
      exact ⟨trivial, ⟨trivial, trivial⟩⟩)
    (fun x K hp hk => ⟨_, by kernel_rfl, vF_laws_liOk  K hp (fun r h => hk r h)⟩)
end Go.Proofs.YtomcnemdaohafaaE
