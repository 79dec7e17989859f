/- A part of the proof of laws of the program: what calls of the program answer. Conditions: none. -/
import Derived.Test.YtkencmgcibbfaaaMa4372169
set_option linter.unusedVariables false
set_option linter.unusedSimpArgs false
set_option linter.unusedSectionVars false
/- Contracts: F. Conditions: none. -/
set_option linter.unusedVariables false
set_option maxHeartbeats 1600000
namespace Go.Proofs.YtkencmgcibbfaaaE
open Go
/-! impl.isNumber -/
def c_impl_isNumber : Ent := ctr (α := (Int)) (ρ := (Bool)) [] [] (rs1 rInt) (fun x_ => (fun (n : Int) => (True)) x_) (fun x_ r_ => (fun x_ => (fun (n : Int) => ((fun r_ => (fun (r : Bool) => (r = decide (0 ≤ n ∧ n ≤ 7))) r_))) x_) x_ r_) (fun r_ => (fun (r : Bool) => ([rB.to r])) r_) (fun r_ => (fun (r : Bool) => ([])) r_)
def V_impl_isNumber : Env := ⟨tys, [(28, c_impl_in)], [], [], [], [], [], [], []⟩
/-! impl.CfgOk -/
def c_impl_CfgOk : Ent := ctr (α := (Cfg)) (ρ := (Bool)) [] [] (rs1 rCfg) (fun x_ => (fun (c : Cfg) => (True)) x_) (fun x_ r_ => (fun x_ => (fun (c : Cfg) => ((fun r_ => (fun (r : Bool) => (r = decide (CfgP c))) r_))) x_) x_ r_) (fun r_ => (fun (r : Bool) => ([rB.to r])) r_) (fun r_ => (fun (r : Bool) => ([])) r_)
def V_impl_CfgOk : Env := ⟨tys, [(28, c_impl_in)], [], [(1, 0)], [], [], [500006, 500011, 500016, 500021], [], []⟩
/-! spec.CfgOk -/
def c_spec_CfgOk : Ent := ctr (α := (Cfg)) (ρ := (Bool)) [] [] (rs1 rCfg) (fun x_ => (fun (c : Cfg) => (True)) x_) (fun x_ r_ => (fun x_ => (fun (c : Cfg) => ((fun r_ => (fun (r : Bool) => (r = decide (CfgP c))) r_))) x_) x_ r_) (fun r_ => (fun (r : Bool) => ([rB.to r])) r_) (fun r_ => (fun (r : Bool) => ([])) r_)
def V_spec_CfgOk : Env := ⟨tys, [(22, c_spec_l1In)], [], [(1, 0)], [], [], [500006, 500011, 500016, 500021], [], []⟩
/-! impl.pieceOk -/
def c_impl_pieceOk : Ent := ctr (α := (Int) × (Int) × (List Int)) (ρ := (Bool)) [] [] (rs rInt (rs rInt (rs1 rBytes))) (fun x_ => (fun (s : Int) (n : Int) (d : List Int) => (True)) x_.1 x_.2.1 x_.2.2) (fun x_ r_ => (fun x_ => (fun (s : Int) (n : Int) (d : List Int) => ((fun r_ => (fun (r : Bool) => (r = decide (SegP s n d.length))) r_))) x_.1 x_.2.1 x_.2.2) x_ r_) (fun r_ => (fun (r : Bool) => ([rB.to r])) r_) (fun r_ => (fun (r : Bool) => ([])) r_)
def V_impl_pieceOk : Env := ⟨tys, [(28, c_impl_in)], [], [], [], [], [500015, 500024, 500035], [], []⟩
end Go.Proofs.YtkencmgcibbfaaaE

/- Calls answer what is promised: F. Conditions: none. -/
set_option linter.unusedVariables false
set_option maxHeartbeats 1600000
namespace Go.Proofs.YtkencmgcibbfaaaE
open Go
theorem vF_impl_isNumber (n:Int) (K:List Arg→List (List AC)→Prop) (hp:True) (hk:∀ (r:Bool),(r=decide (0≤n∧n≤7))→K ([rB.to r]) ([])):(true=true)∧(True∧(∀ r:Bool,(r=(decide (((0:Int)≤n)∧(n≤(7:Int)))))→(true=true)∧((true=true)∧(K [(aB r)] [])))) := by
  exact ⟨rfl, trivial, fun r hr => ⟨rfl, rfl, hk r hr⟩⟩
theorem w_impl_isNumber : Valid Try.prog 50 c_impl_isNumber :=
  valid_ctr2 (V := V_impl_isNumber) (tysB_ok tys_ok) ⟨(CallsL.cons w_impl_in (CallsL.nil _)), (IosL.nil _)⟩ mixed 0 0 Try.func50 rfl (by kernel_rfl)
    (fun c hc => by
      obtain rfl := Option.some.inj hc
      exact ⟨trivial, ⟨trivial, trivial⟩⟩)
    (fun x K hp hk => ⟨_, by kernel_rfl, vF_impl_isNumber x K hp (fun r h => hk r h)⟩)
theorem vF_impl_CfgOk (c:Cfg) (K:List Arg→List (List AC)→Prop) (hp:True) (hk:∀ (r:Bool),(r=decide (CfgP c))→K ([rB.to r]) ([])):(true=true)∧(True∧(∀ r:Bool,(r=(decide (((1:Int)≤c.mode)∧(c.mode≤(2:Int)))))→(true=true)∧(if (r=true) then ((true=true)∧(True∧(∀ r1:Bool,(r1=(decide (((1:Int)≤c.win)∧(c.win≤(4:Int)))))→(true=true)∧(if (r1=true) then ((true=true)∧(True∧(∀ r2:Bool,(r2=(decide (((1:Int)≤c.mps)∧(c.mps≤(8:Int)))))→(true=true)∧(if (r2=true) then ((true=true)∧(True∧(∀ r3:Bool,(r3=(decide (((1:Int)≤c.mtu)∧(c.mtu≤(24:Int)))))→(true=true)∧(if (r3=true) then ((true=true)∧(True∧(∀ r4:Bool,(r4=(decide (((1:Int)≤c.try_)∧(c.try_≤(5:Int)))))→(true=true)∧((true=true)∧(K [(aB r4)] []))))) else ((true=true)∧(K [(aB false)] [])))))) else ((true=true)∧(K [(aB false)] [])))))) else ((true=true)∧(K [(aB false)] [])))))) else ((true=true)∧(K [(aB false)] []))))) := by
  repeat' first
    | exact rfl
    | trivial
    | apply And.intro
    | (intro r hr; subst hr)
    | intro r
    | exact hp
    | (refine iteI (fun h => ?_) (fun h => ?_))
  all_goals first
    | exact hk _ (by grind [CfgP, IntKind.wrap_i64])
    | omega
theorem w_impl_CfgOk : Valid Try.prog 20 c_impl_CfgOk :=
  valid_ctr2 (V := V_impl_CfgOk) (tysB_ok tys_ok) ⟨(CallsL.cons w_impl_in (CallsL.nil _)), (IosL.nil _)⟩ mixed 0 1 Try.func20 rfl (by kernel_rfl)
    (fun c hc => by
      obtain rfl := Option.some.inj hc
      exact ⟨trivial, ⟨trivial, trivial⟩⟩)
    (fun x K hp hk => ⟨_, by kernel_rfl, vF_impl_CfgOk x K hp (fun r h => hk r h)⟩)
theorem vF_spec_CfgOk (c:Cfg) (K:List Arg→List (List AC)→Prop) (hp:True) (hk:∀ (r:Bool),(r=decide (CfgP c))→K ([rB.to r]) ([])):(true=true)∧(True∧(∀ r:Bool,(r=(decide (((1:Int)≤c.mode)∧(c.mode≤(2:Int)))))→(true=true)∧(if (r=true) then ((true=true)∧(True∧(∀ r1:Bool,(r1=(decide (((1:Int)≤c.win)∧(c.win≤(4:Int)))))→(true=true)∧(if (r1=true) then ((true=true)∧(True∧(∀ r2:Bool,(r2=(decide (((1:Int)≤c.mps)∧(c.mps≤(8:Int)))))→(true=true)∧(if (r2=true) then ((true=true)∧(True∧(∀ r3:Bool,(r3=(decide (((1:Int)≤c.mtu)∧(c.mtu≤(24:Int)))))→(true=true)∧(if (r3=true) then ((true=true)∧(True∧(∀ r4:Bool,(r4=(decide (((1:Int)≤c.try_)∧(c.try_≤(5:Int)))))→(true=true)∧((true=true)∧(K [(aB r4)] []))))) else ((true=true)∧(K [(aB false)] [])))))) else ((true=true)∧(K [(aB false)] [])))))) else ((true=true)∧(K [(aB false)] [])))))) else ((true=true)∧(K [(aB false)] []))))) := by
  repeat' first
    | exact rfl
    | trivial
    | apply And.intro
    | (intro r hr; subst hr)
    | intro r
    | exact hp
    | (refine iteI (fun h => ?_) (fun h => ?_))
  all_goals first
    | exact hk _ (by grind [CfgP, IntKind.wrap_i64])
    | omega
theorem w_spec_CfgOk : Valid Try.prog 9 c_spec_CfgOk :=
  valid_ctr2 (V := V_spec_CfgOk) (tysB_ok tys_ok) ⟨(CallsL.cons w_spec_l1In (CallsL.nil _)), (IosL.nil _)⟩ mixed 0 1 Try.func9 rfl (by kernel_rfl)
    (fun c hc => by
      obtain rfl := Option.some.inj hc
      exact ⟨trivial, ⟨trivial, trivial⟩⟩)
    (fun x K hp hk => ⟨_, by kernel_rfl, vF_spec_CfgOk x K hp (fun r h => hk r h)⟩)
theorem vF_impl_pieceOk (s:Int) (n:Int) (d:List Int) (K:List Arg→List (List AC)→Prop) (hp:True) (hk:∀ (r:Bool),(r=decide (SegP s n d.length))→K ([rB.to r]) ([])):if ((s == (0:Int))=true) then (if ((decide ((((List.length d):Nat):Int)≤(8:Int)))=true) then ((true=true)∧(K [(aB (n == (((List.length d):Nat):Int)))] [])) else ((true=true)∧(K [(aB false)] []))) else (if ((s == (1:Int))=true) then ((true=true)∧(True∧(∀ r:Bool,(r=(decide (((1:Int)≤(((List.length d):Nat):Int))∧((((List.length d):Nat):Int)≤(8:Int)))))→(true=true)∧(if (r=true) then ((true=true)∧(True∧(∀ r1:Bool,(r1=(decide (((IntKind.wrap IntKind.i64 ((((List.length d):Nat):Int) + (1:Int)))≤n)∧(n≤(24:Int)))))→(true=true)∧((true=true)∧(K [(aB r1)] []))))) else ((true=true)∧(K [(aB false)] [])))))) else (if ((s == (2:Int))=true) then (if ((s == (2:Int))=true) then ((true=true)∧(True∧(∀ r:Bool,(r=(decide (((1:Int)≤(((List.length d):Nat):Int))∧((((List.length d):Nat):Int)≤(8:Int)))))→(true=true)∧(if (r=true) then ((true=true)∧(K [(aB (n == (0:Int)))] [])) else ((true=true)∧(K [(aB false)] [])))))) else ((true=true)∧(K [(aB false)] []))) else (if ((s == (3:Int))=true) then ((true=true)∧(True∧(∀ r:Bool,(r=(decide (((1:Int)≤(((List.length d):Nat):Int))∧((((List.length d):Nat):Int)≤(8:Int)))))→(true=true)∧(if (r=true) then ((true=true)∧(K [(aB (n == (0:Int)))] [])) else ((true=true)∧(K [(aB false)] [])))))) else ((true=true)∧(K [(aB false)] []))))) := by
  repeat' first
    | exact rfl
    | trivial
    | apply And.intro
    | (intro r hr; subst hr)
    | intro r
    | exact hp
    | (refine iteI (fun h => ?_) (fun h => ?_))
  all_goals first
    | exact hk _ (by grind [SegP, IntKind.wrap_i64])
    | omega
theorem w_impl_pieceOk : Valid Try.prog 81 c_impl_pieceOk :=
  valid_ctr2 (V := V_impl_pieceOk) (tysB_ok tys_ok) ⟨(CallsL.cons w_impl_in (CallsL.nil _)), (IosL.nil _)⟩ mixed 0 0 Try.func81 rfl (by kernel_rfl)
    (fun c hc => by
      obtain rfl := Option.some.inj hc
      exact ⟨trivial, ⟨trivial, ⟨⟨trivial, ⟨trivial, ⟨⟨trivial, trivial⟩, ⟨trivial, ⟨⟨trivial, trivial⟩, ⟨⟨trivial, ⟨trivial, trivial⟩⟩, ⟨⟨trivial, trivial⟩, trivial⟩⟩⟩⟩⟩⟩⟩, ⟨trivial, trivial⟩⟩⟩⟩)
    (fun x K hp hk => ⟨_, by kernel_rfl, vF_impl_pieceOk x.1 x.2.1 x.2.2 K hp (fun r h => hk r h)⟩)
end Go.Proofs.YtkencmgcibbfaaaE
