/- A part of the proof of laws of the program: what calls of the program answer. Conditions: none. -/
import Derived.Test.YtdahhphhblbfdaaM5ce1927f
set_option linter.unusedVariables false
set_option linter.unusedSimpArgs false
set_option linter.unusedSectionVars false
/- Contracts: G. Conditions: none. -/
set_option linter.unusedVariables false
set_option maxHeartbeats 1600000
namespace Go.Proofs.YtdahhphhblbfdaaE
open Go
/-! impl.PartOk -/
def c_impl_PartOk : Ent := ctr (α := (Part)) (ρ := (Bool)) [] [] (rs1 rPart) (fun x_ => (fun (p : Part) => (True)) x_) (fun x_ r_ => (fun x_ => (fun (p : Part) => ((fun r_ => (fun (v : Bool) => (v = decide (PartP p))) r_))) x_) x_ r_) (fun r_ => (fun (v : Bool) => ([rB.to v])) r_) (fun r_ => (fun (v : Bool) => ([])) r_)
def V_impl_PartOk : Env := ⟨tys, [(89, c_impl_pieceOk)], [], [(1, 0)], [], [], [], [], []⟩
/-! impl.JoinOk -/
def c_impl_JoinOk : Ent := ctr (α := (JoinS)) (ρ := (Bool)) [] [] (rs1 rJoin) (fun x_ => (fun (j : JoinS) => (True)) x_) (fun x_ r_ => (fun x_ => (fun (j : JoinS) => ((fun r_ => (fun (v : Bool) => (v = decide (JoinP j))) r_))) x_) x_ r_) (fun r_ => (fun (v : Bool) => ([rB.to v])) r_) (fun r_ => (fun (v : Bool) => ([])) r_)
def V_impl_JoinOk : Env := ⟨tys, [(56, c_impl_in)], [], [(1, 0)], [], [], [500006, 500012, 500016], [], []⟩
/-! spec.JoinOk -/
def c_spec_JoinOk : Ent := ctr (α := (JoinS)) (ρ := (Bool)) [] [] (rs1 rJoin) (fun x_ => (fun (j : JoinS) => (True)) x_) (fun x_ r_ => (fun x_ => (fun (j : JoinS) => ((fun r_ => (fun (v : Bool) => (v = decide (JoinP j))) r_))) x_) x_ r_) (fun r_ => (fun (v : Bool) => ([rB.to v])) r_) (fun r_ => (fun (v : Bool) => ([])) r_)
def V_spec_JoinOk : Env := ⟨tys, [(52, c_spec_l1In)], [], [(1, 0)], [], [], [500006, 500012, 500016], [], []⟩
end Go.Proofs.YtdahhphhblbfdaaE

/- Calls answer what is promised: G. Conditions: none. -/
set_option linter.unusedVariables false
set_option maxHeartbeats 1600000
namespace Go.Proofs.YtdahhphhblbfdaaE
open Go
theorem vF_impl_PartOk (p:Part) (K:List Arg→List (List AC)→Prop) (hp:True) (hk:∀ (v:Bool),(v=decide (PartP p))→K ([rB.to v]) ([])):(true=true)∧(True∧(∀ r:Bool,(r=(decide (SegP p.seg p.len (((List.length p.data):Nat):Int))))→(true=true)∧((true=true)∧(K [(aB r)] [])))) := by
  repeat' first
    | exact rfl
    | trivial
    | apply And.intro
    | (intro r hr; subst hr)
    | intro r
    | exact hp
    | (refine iteI (fun h => ?_) (fun h => ?_))
  all_goals first
    | exact hk _ (by grind [PartP, SegP, IntKind.wrap_i64])
    | omega
    | grind [PartP, SegP, IntKind.wrap_i64]
theorem w_impl_PartOk : Valid Try.prog 95 c_impl_PartOk :=
  valid_ctr2 (V := V_impl_PartOk) (tysB_ok tys_ok) ⟨(CallsL.cons w_impl_pieceOk (CallsL.nil _)), (IosL.nil _)⟩ mixed 0 1 Try.func95 rfl (by kernel_rfl)
    (fun c hc => by
      obtain rfl := Option.some.inj hc
      exact ⟨trivial, ⟨trivial, trivial⟩⟩)
    (fun x K hp hk => ⟨_, by kernel_rfl, vF_impl_PartOk x K hp (fun v h => hk v h)⟩)
theorem vF_impl_JoinOk (j:JoinS) (K:List Arg→List (List AC)→Prop) (hp:True) (hk:∀ (v:Bool),(v=decide (JoinP j))→K ([rB.to v]) ([])):if ((j.len == (0:Int))=true) then (if (((((List.length j.got):Nat):Int) == (0:Int))=true) then ((true=true)∧(K [(aB true)] [])) else ((true=true)∧(True∧(∀ r:Bool,(r=(decide (((2:Int)≤j.len)∧(j.len≤(24:Int)))))→(true=true)∧(if (r=true) then ((true=true)∧(True∧(∀ r1:Bool,(r1=(decide (((1:Int)≤(((List.length j.got):Nat):Int))∧((((List.length j.got):Nat):Int)≤(IntKind.wrap IntKind.i64 (j.len - (1:Int)))))))→(true=true)∧((true=true)∧(K [(aB r1)] []))))) else ((true=true)∧(K [(aB false)] []))))))) else ((true=true)∧(True∧(∀ r:Bool,(r=(decide (((2:Int)≤j.len)∧(j.len≤(24:Int)))))→(true=true)∧(if (r=true) then ((true=true)∧(True∧(∀ r1:Bool,(r1=(decide (((1:Int)≤(((List.length j.got):Nat):Int))∧((((List.length j.got):Nat):Int)≤(IntKind.wrap IntKind.i64 (j.len - (1:Int)))))))→(true=true)∧((true=true)∧(K [(aB r1)] []))))) else ((true=true)∧(K [(aB false)] [])))))) := by
  repeat' first
    | exact rfl
    | trivial
    | apply And.intro
    | (intro r hr; subst hr)
    | intro r
    | exact hp
    | (refine iteI (fun h => ?_) (fun h => ?_))
  all_goals first
    | exact hk _ (by grind [JoinP, IntKind.wrap_i64])
    | omega
    | grind [JoinP, IntKind.wrap_i64]
theorem w_impl_JoinOk : Valid Try.prog 75 c_impl_JoinOk :=
  valid_ctr2 (V := V_impl_JoinOk) (tysB_ok tys_ok) ⟨(CallsL.cons w_impl_in (CallsL.nil _)), (IosL.nil _)⟩ mixed 0 1 Try.func75 rfl (by kernel_rfl)
    (fun c hc => by
      obtain rfl := Option.some.inj hc
      exact ⟨trivial, ⟨trivial, trivial⟩⟩)
    (fun x K hp hk => ⟨_, by kernel_rfl, vF_impl_JoinOk x K hp (fun v h => hk v h)⟩)
theorem vF_spec_JoinOk (j:JoinS) (K:List Arg→List (List AC)→Prop) (hp:True) (hk:∀ (v:Bool),(v=decide (JoinP j))→K ([rB.to v]) ([])):if ((j.len == (0:Int))=true) then (if (((((List.length j.got):Nat):Int) == (0:Int))=true) then ((true=true)∧(K [(aB true)] [])) else ((true=true)∧(True∧(∀ r:Bool,(r=(decide (((2:Int)≤j.len)∧(j.len≤(24:Int)))))→(true=true)∧(if (r=true) then ((true=true)∧(True∧(∀ r1:Bool,(r1=(decide (((1:Int)≤(((List.length j.got):Nat):Int))∧((((List.length j.got):Nat):Int)≤(IntKind.wrap IntKind.i64 (j.len - (1:Int)))))))→(true=true)∧((true=true)∧(K [(aB r1)] []))))) else ((true=true)∧(K [(aB false)] []))))))) else ((true=true)∧(True∧(∀ r:Bool,(r=(decide (((2:Int)≤j.len)∧(j.len≤(24:Int)))))→(true=true)∧(if (r=true) then ((true=true)∧(True∧(∀ r1:Bool,(r1=(decide (((1:Int)≤(((List.length j.got):Nat):Int))∧((((List.length j.got):Nat):Int)≤(IntKind.wrap IntKind.i64 (j.len - (1:Int)))))))→(true=true)∧((true=true)∧(K [(aB r1)] []))))) else ((true=true)∧(K [(aB false)] [])))))) := by
  repeat' first
    | exact rfl
    | trivial
    | apply And.intro
    | (intro r hr; subst hr)
    | intro r
    | exact hp
    | (refine iteI (fun h => ?_) (fun h => ?_))
  all_goals first
    | exact hk _ (by grind [JoinP, IntKind.wrap_i64])
    | omega
    | grind [JoinP, IntKind.wrap_i64]
theorem w_spec_JoinOk : Valid Try.prog 74 c_spec_JoinOk :=
  valid_ctr2 (V := V_spec_JoinOk) (tysB_ok tys_ok) ⟨(CallsL.cons w_spec_l1In (CallsL.nil _)), (IosL.nil _)⟩ mixed 0 1 Try.func74 rfl (by kernel_rfl)
    (fun c hc => by
      obtain rfl := Option.some.inj hc
      exact ⟨trivial, ⟨trivial, trivial⟩⟩)
    (fun x K hp hk => ⟨_, by kernel_rfl, vF_spec_JoinOk x K hp (fun v h => hk v h)⟩)
end Go.Proofs.YtdahhphhblbfdaaE
