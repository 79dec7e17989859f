/- A part of the proof of laws of the program: what calls of the program answer. Conditions: none. -/
import Derived.Test.YtdahhphhblbfdaaM450470a3
set_option linter.unusedVariables false
set_option linter.unusedSimpArgs false
set_option linter.unusedSectionVars false
/- Contracts: B. Conditions: none. -/
set_option linter.unusedVariables false
set_option maxHeartbeats 1600000
namespace Go.Proofs.YtdahhphhblbfdaaE
open Go
/-! slices.Clone[[]byte,byte] -/
def c_slices_Clone_byte_byte : Ent := ctr (α := (List Int)) (ρ := (List Int)) [] [(0, 0)] (rs1 rBytes) (fun x_ => (fun (l : List Int) => (l.length ≤ LIM)) x_) (fun x_ r_ => (fun x_ => (fun (l : List Int) => ((fun r_ => (fun (r : List Int) => (r = l)) r_))) x_) x_ r_) (fun r_ => (fun (r : List Int) => ([(rO 5 .u8).to r])) r_) (fun r_ => (fun (r : List Int) => ([])) r_)
def V_slices_Clone_byte_byte : Env := ⟨tys, [], [(2, [0]), (5, [1])], [], [], [], [], [], []⟩
/-! slices.Clip[[]byte,byte] -/
def c_slices_Clip_byte_byte : Ent := ctr (α := (List Int)) (ρ := (List Int)) [(0, 0)] [(0, 0)] (rs1 (rO 5 .u8)) (fun x_ => (fun (l : List Int) => (True)) x_) (fun x_ r_ => (fun x_ => (fun (l : List Int) => ((fun r_ => (fun (r : List Int) => (r = l)) r_))) x_) x_ r_) (fun r_ => (fun (r : List Int) => ([(rO 5 .u8).to r])) r_) (fun r_ => (fun (r : List Int) => ([])) r_)
def V_slices_Clip_byte_byte : Env := ⟨tys, [], [], [], [], [], [], [], []⟩
/-! impl.clone[byte] -/
def c_impl_clone_byte : Ent := ctr (α := (List Int)) (ρ := (List Int)) [] [(0, 0)] (rs1 rBytes) (fun x_ => (fun (l : List Int) => (l.length ≤ LIM)) x_) (fun x_ r_ => (fun x_ => (fun (l : List Int) => ((fun r_ => (fun (r : List Int) => (r = l)) r_))) x_) x_ r_) (fun r_ => (fun (r : List Int) => ([(rO 5 .u8).to r])) r_) (fun r_ => (fun (r : List Int) => ([])) r_)
def V_impl_clone_byte : Env := ⟨tys, [(84, c_slices_Clip_byte_byte), (85, c_slices_Clone_byte_byte)], [(4, [0]), (5, [1])], [], [], [], [], [], []⟩
end Go.Proofs.YtdahhphhblbfdaaE

/- Calls answer what is promised: B. Conditions: none. -/
set_option linter.unusedVariables false
set_option maxHeartbeats 1600000
namespace Go.Proofs.YtdahhphhblbfdaaE
open Go
theorem vF_slices_Clone_byte_byte (l:List Int) (K:List Arg→List (List AC)→Prop) (hp:l.length≤LIM) (hk:∀ (r:List Int),(r=l)→K ([(rO 5 .u8).to r]) ([])):∀ b:Bool,((b=true)→(l=([]:(List Int))))→if (b=true) then ((true=true)∧(K [(Arg.v false [(AC.own (RC.mk (5:Nat) RK.u8 ([]:(List Int)) (RM.mk (dpM false (Option.none)) false (0:Nat) false)))])] [])) else ((((0:Nat) + (List.length l))≤(137438953472:Nat))∧((true=true)∧(K [(Arg.v false [(AC.own (RC.mk (5:Nat) RK.u8 (([]:(List Int)) ++ l:(List Int)) (RM.mk (dpM false (Option.none)) false (0:Nat) false)))])] []))) := by
  intro b hb
  have hL : l.length ≤ 137438953472 := hp
  split
  · rename_i h
    exact ⟨rfl, hk _ (hb h).symm⟩
  · exact ⟨by omega, rfl, hk _ rfl⟩
theorem w_slices_Clone_byte_byte : Valid Try.prog 85 c_slices_Clone_byte_byte :=
  valid_ctr2 (V := V_slices_Clone_byte_byte) (tysB_ok tys_ok) ⟨(CallsL.nil _), (IosL.nil _)⟩ mixed 2 0 Try.func85 rfl (by kernel_rfl)
    (fun c hc => by
      obtain rfl := Option.some.inj hc
      exact ⟨trivial, ⟨⟨trivial, ⟨⟨trivial, trivial⟩, trivial⟩⟩, ⟨trivial, trivial⟩⟩⟩)
    (fun x K hp hk => ⟨_, by kernel_rfl, vF_slices_Clone_byte_byte x K hp (fun r h => hk r h)⟩)
theorem vF_slices_Clip_byte_byte (l:List Int) (K:List Arg→List (List AC)→Prop) (hp:True) (hk:∀ (r:List Int),(r=l)→K ([(rO 5 .u8).to r]) ([])):(((((List.length l):Nat):Int)=(((List.length l):Nat):Int))∧((((List.length l):Nat):Int)=(((List.length l):Nat):Int)))∧((true=true)∧(K [(Arg.v false [(AC.own (RC.mk (5:Nat) RK.u8 l (RM.mk (dpM false (Option.none)) false (0:Nat) false)))])] [])) := by
  exact ⟨⟨rfl, rfl⟩, rfl, hk _ rfl⟩
theorem w_slices_Clip_byte_byte : Valid Try.prog 84 c_slices_Clip_byte_byte :=
  valid_ctr2 (V := V_slices_Clip_byte_byte) (tysB_ok tys_ok) ⟨(CallsL.nil _), (IosL.nil _)⟩ mixed 0 0 Try.func84 rfl (by kernel_rfl)
    (fun c hc => by
      obtain rfl := Option.some.inj hc
      exact ⟨trivial, ⟨trivial, trivial⟩⟩)
    (fun x K hp hk => ⟨_, by kernel_rfl, vF_slices_Clip_byte_byte x K hp (fun r h => hk r h)⟩)
theorem vF_impl_clone_byte (l:List Int) (K:List Arg→List (List AC)→Prop) (hp:l.length≤LIM) (hk:∀ (r:List Int),(r=l)→K ([(rO 5 .u8).to r]) ([])):(true=true)∧(((List.length l)≤(137438953472:Nat))∧(∀ r:(List Int),(r=l)→(true=true)∧((true=true)∧(True∧(∀ r1:(List Int),(r1=r)→(true=true)∧((true=true)∧(K [(Arg.v false [(AC.own (RC.mk (5:Nat) RK.u8 r1 (RM.mk (dpM false (Option.none)) false (0:Nat) false)))])] []))))))) := by
  exact ⟨rfl, hp, fun r hr => ⟨rfl, rfl, trivial, fun r1 hr1 => ⟨rfl, rfl, hk r1 (hr1.trans hr)⟩⟩⟩
theorem w_impl_clone_byte : Valid Try.prog 65 c_impl_clone_byte :=
  valid_ctr2 (V := V_impl_clone_byte) (tysB_ok tys_ok) ⟨(CallsL.cons w_slices_Clip_byte_byte (CallsL.cons w_slices_Clone_byte_byte (CallsL.nil _))), (IosL.nil _)⟩ mixed 2 0 Try.func65 rfl (by kernel_rfl)
    (fun c hc => by
      obtain rfl := Option.some.inj hc
      exact ⟨trivial, ⟨trivial, trivial⟩⟩)
    (fun x K hp hk => ⟨_, by kernel_rfl, vF_impl_clone_byte x K hp (fun r h => hk r h)⟩)
end Go.Proofs.YtdahhphhblbfdaaE
