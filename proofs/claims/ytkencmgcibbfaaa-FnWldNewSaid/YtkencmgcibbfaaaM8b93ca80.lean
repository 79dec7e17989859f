/- A part of the proof of laws of the program: what calls of the program answer. Conditions: none. -/
import Derived.Test.YtkencmgcibbfaaaM8542573e
set_option linter.unusedVariables false
set_option linter.unusedSimpArgs false
set_option linter.unusedSectionVars false
/- Contracts: G. Conditions: none. -/
set_option linter.unusedVariables false
set_option maxHeartbeats 1600000
namespace Go.Proofs.YtkencmgcibbfaaaE
open Go
/-! impl.PartOk -/
def c_impl_PartOk : Ent := ctr (α := (Part)) (ρ := (Bool)) [] [] (rs1 rPart) (fun x_ => (fun (p : Part) => (True)) x_) (fun x_ r_ => (fun x_ => (fun (p : Part) => ((fun r_ => (fun (v : Bool) => (v = decide (PartP p))) r_))) x_) x_ r_) (fun r_ => (fun (v : Bool) => ([rB.to v])) r_) (fun r_ => (fun (v : Bool) => ([])) r_)
def V_impl_PartOk : Env := ⟨tys, [(81, c_impl_pieceOk)], [], [(1, 0)], [], [], [], [], []⟩
/-! impl.JoinOk -/
def c_impl_JoinOk : Ent := ctr (α := (JoinS)) (ρ := (Bool)) [] [] (rs1 rJoin) (fun x_ => (fun (j : JoinS) => (True)) x_) (fun x_ r_ => (fun x_ => (fun (j : JoinS) => ((fun r_ => (fun (v : Bool) => (v = decide (JoinP j))) r_))) x_) x_ r_) (fun r_ => (fun (v : Bool) => ([rB.to v])) r_) (fun r_ => (fun (v : Bool) => ([])) r_)
def V_impl_JoinOk : Env := ⟨tys, [(28, c_impl_in)], [], [(1, 0)], [], [], [500006, 500012, 500016], [], []⟩
/-! impl.far -/
def c_impl_far : Ent := ctr (α := (Int) × (Int)) (ρ := (Int)) [] [] (rs rInt (rs1 rInt)) (fun x_ => (fun (a : Int) (b : Int) => (0 ≤ a ∧ a ≤ 7 ∧ 0 ≤ b ∧ b ≤ 7)) x_.1 x_.2) (fun x_ r_ => (fun x_ => (fun (a : Int) (b : Int) => ((fun r_ => (fun (x : Int) => (x = (b - a + 8) % 8)) r_))) x_.1 x_.2) x_ r_) (fun r_ => (fun (x : Int) => ([rInt.to x])) r_) (fun r_ => (fun (x : Int) => ([])) r_)
def V_impl_far : Env := ⟨tys, [], [], [], [], [], [], [], []⟩
/-! impl.NumOf -/
def c_impl_NumOf : Ent := ctr (α := (Int)) (ρ := (Int)) [] [] (rs1 rInt) (fun x_ => (fun (n : Int) => (True)) x_) (fun x_ r_ => (fun x_ => (fun (n : Int) => ((fun r_ => (fun (x : Int) => (x = if n < 0 then -1 else n % 8)) r_))) x_) x_ r_) (fun r_ => (fun (x : Int) => ([rInt.to x])) r_) (fun r_ => (fun (x : Int) => ([])) r_)
def V_impl_NumOf : Env := ⟨tys, [], [], [], [], [], [], [], []⟩
/-! impl.RxOk -/
def c_impl_RxOk : Ent := ctr (α := (RxS)) (ρ := (Bool)) [] [] (rs1 rRx) (fun x_ => (fun (r : RxS) => (True)) x_) (fun x_ r_ => (fun x_ => (fun (r : RxS) => ((fun r_ => (fun (v : Bool) => (v = decide (RxP r))) r_))) x_) x_ r_) (fun r_ => (fun (v : Bool) => ([rB.to v])) r_) (fun r_ => (fun (v : Bool) => ([])) r_)
def V_impl_RxOk : Env := ⟨tys, [(28, c_impl_in), (50, c_impl_isNumber), (52, c_impl_NumOf), (54, c_impl_JoinOk)], [], [(1, 0)], [], [], [500006, 500011, 500019], [], [(1, [(0, false), (1, false), (2, true), (3, false), (4, false), (5, false), (6, true), (7, false), (8, false), (9, false), (10, false), (12, false), (13, false), (11, true), (14, false), (15, false), (16, false), (17, false), (18, false), (19, true), (20, false), (21, false)])]⟩
end Go.Proofs.YtkencmgcibbfaaaE

/- Calls answer what is promised: G. Conditions: none. -/
set_option linter.unusedVariables false
set_option maxHeartbeats 1600000
namespace Go.Proofs.YtkencmgcibbfaaaE
open Go
theorem vF_impl_PartOk (p:Part) (K:List Arg→List (List AC)→Prop) (hp:True) (hk:∀ (v:Bool),(v=decide (PartP p))→K ([rB.to v]) ([])):(true=true)∧(True∧(∀ r:Bool,(r=(decide (SegP p.seg p.len (((List.length p.data):Nat):Int))))→(true=true)∧((true=true)∧(K [(aB r)] [])))) := by
  repeat' first
    | exact rfl
    | trivial
    | apply And.intro
    | (intro r hr; subst hr)
    | intro r
    | exact hp
    | (refine iteI (fun h => ?_) (fun h => ?_))
  all_goals first
    | exact hk _ (by grind [PartP, SegP, IntKind.wrap_i64])
    | omega
    | grind [PartP, SegP, IntKind.wrap_i64]
theorem w_impl_PartOk : Valid Try.prog 72 c_impl_PartOk :=
  valid_ctr2 (V := V_impl_PartOk) (tysB_ok tys_ok) ⟨(CallsL.cons w_impl_pieceOk (CallsL.nil _)), (IosL.nil _)⟩ mixed 0 1 Try.func72 rfl (by kernel_rfl)
    (fun c hc => by
      obtain rfl := Option.some.inj hc
      exact ⟨trivial, ⟨trivial, trivial⟩⟩)
    (fun x K hp hk => ⟨_, by kernel_rfl, vF_impl_PartOk x K hp (fun v h => hk v h)⟩)
theorem vF_impl_JoinOk (j:JoinS) (K:List Arg→List (List AC)→Prop) (hp:True) (hk:∀ (v:Bool),(v=decide (JoinP j))→K ([rB.to v]) ([])):if ((j.len == (0:Int))=true) then (if (((((List.length j.got):Nat):Int) == (0:Int))=true) then ((true=true)∧(K [(aB true)] [])) else ((true=true)∧(True∧(∀ r:Bool,(r=(decide (((2:Int)≤j.len)∧(j.len≤(24:Int)))))→(true=true)∧(if (r=true) then ((true=true)∧(True∧(∀ r1:Bool,(r1=(decide (((1:Int)≤(((List.length j.got):Nat):Int))∧((((List.length j.got):Nat):Int)≤(IntKind.wrap IntKind.i64 (j.len - (1:Int)))))))→(true=true)∧((true=true)∧(K [(aB r1)] []))))) else ((true=true)∧(K [(aB false)] []))))))) else ((true=true)∧(True∧(∀ r:Bool,(r=(decide (((2:Int)≤j.len)∧(j.len≤(24:Int)))))→(true=true)∧(if (r=true) then ((true=true)∧(True∧(∀ r1:Bool,(r1=(decide (((1:Int)≤(((List.length j.got):Nat):Int))∧((((List.length j.got):Nat):Int)≤(IntKind.wrap IntKind.i64 (j.len - (1:Int)))))))→(true=true)∧((true=true)∧(K [(aB r1)] []))))) else ((true=true)∧(K [(aB false)] [])))))) := by
  repeat' first
    | exact rfl
    | trivial
    | apply And.intro
    | (intro r hr; subst hr)
    | intro r
    | exact hp
    | (refine iteI (fun h => ?_) (fun h => ?_))
  all_goals first
    | exact hk _ (by grind [JoinP, IntKind.wrap_i64])
    | omega
    | grind [JoinP, IntKind.wrap_i64]
theorem w_impl_JoinOk : Valid Try.prog 54 c_impl_JoinOk :=
  valid_ctr2 (V := V_impl_JoinOk) (tysB_ok tys_ok) ⟨(CallsL.cons w_impl_in (CallsL.nil _)), (IosL.nil _)⟩ mixed 0 1 Try.func54 rfl (by kernel_rfl)
    (fun c hc => by
      obtain rfl := Option.some.inj hc
      exact ⟨trivial, ⟨trivial, trivial⟩⟩)
    (fun x K hp hk => ⟨_, by kernel_rfl, vF_impl_JoinOk x K hp (fun v h => hk v h)⟩)
theorem vF_impl_far (a:Int) (b:Int) (K:List Arg→List (List AC)→Prop) (hp:0≤a∧a≤7∧0≤b∧b≤7) (hk:∀ (x:Int),(x=(b - a + 8) % 8)→K ([rInt.to x]) ([])):((8:Int) ≠ (0:Int))∧((true=true)∧(K [(aI IntKind.i64 (Int.tmod (IntKind.wrap IntKind.i64 ((IntKind.wrap IntKind.i64 (b - a)) + (8:Int))) (8:Int)))] [])) := by
  refine ⟨by decide, by trivial, hk _ ?_⟩
  rw [wr (x := b - a) (by omega) (by omega), wr (by omega) (by omega), Int.tmod_eq_emod_of_nonneg (by omega)]
theorem w_impl_far : Valid Try.prog 51 c_impl_far :=
  valid_ctr2 (V := V_impl_far) (tysB_ok tys_ok) ⟨(CallsL.nil _), (IosL.nil _)⟩ mixed 0 0 Try.func51 rfl (by kernel_rfl)
    (fun c hc => by
      obtain rfl := Option.some.inj hc
      exact ⟨trivial, ⟨trivial, trivial⟩⟩)
    (fun x K hp hk => ⟨_, by kernel_rfl, vF_impl_far x.1 x.2 K hp (fun x h => hk x h)⟩)
theorem vF_impl_NumOf (n:Int) (K:List Arg→List (List AC)→Prop) (hp:True) (hk:∀ (x:Int),(x=if n < 0 then -1 else n % 8)→K ([rInt.to x]) ([])):if ((decide (n < (0:Int)))=true) then ((true=true)∧(K [(aI IntKind.i64 (-1:Int))] [])) else (((8:Int) ≠ (0:Int))∧((true=true)∧(K [(aI IntKind.i64 (Int.tmod n (8:Int)))] []))) := by
  repeat' first
    | exact rfl
    | trivial
    | apply And.intro
    | (intro r hr; subst hr)
    | intro r
    | exact hp
    | (refine iteI (fun h => ?_) (fun h => ?_))
  all_goals first
    | exact hk _ (by grind [Int.tmod_eq_emod_of_nonneg, IntKind.wrap_i64])
    | omega
    | grind [Int.tmod_eq_emod_of_nonneg, IntKind.wrap_i64]
theorem w_impl_NumOf : Valid Try.prog 52 c_impl_NumOf :=
  valid_ctr2 (V := V_impl_NumOf) (tysB_ok tys_ok) ⟨(CallsL.nil _), (IosL.nil _)⟩ mixed 0 0 Try.func52 rfl (by kernel_rfl)
    (fun c hc => by
      obtain rfl := Option.some.inj hc
      exact ⟨trivial, ⟨⟨trivial, ⟨⟨trivial, trivial⟩, trivial⟩⟩, ⟨trivial, trivial⟩⟩⟩)
    (fun x K hp hk => ⟨_, by kernel_rfl, vF_impl_NumOf x K hp (fun x h => hk x h)⟩)
theorem vF_impl_RxOk (r:RxS) (K:List Arg→List (List AC)→Prop) (hp:True) (hk:∀ (v:Bool),(v=decide (RxP r))→K ([rB.to v]) ([])):(true=true)∧(True∧(∀ r1:Bool,(r1=(decide (((0:Int)≤r.expect)∧(r.expect≤(7:Int)))))→(true=true)∧((true=true)∧(if (r1=true) then ((true=true)∧(True∧(∀ r2:Bool,(r2=(decide (((0:Int)≤r.count)∧(r.count≤(9999:Int)))))→(true=true)∧((true=true)∧(if (r2=true) then ((true=true)∧(True∧(∀ r3:Int,(r3=(if (r.count < (0:Int)) then (-1:Int) else (r.count % (8:Int))))→(true=true)∧((true=true)∧(if ((r3 == r.expect)=true) then ((true=true)∧(True∧(∀ r4:Bool,(r4=(decide (JoinP r.join)))→(true=true)∧((true=true)∧((true=true)∧(K [(aB r4)] [])))))) else ((true=true)∧((true=true)∧(K [(aB false)] [])))))))) else ((true=true)∧((true=true)∧((true=true)∧(K [(aB false)] []))))))))) else ((true=true)∧((true=true)∧((true=true)∧((true=true)∧(K [(aB false)] []))))))))) := by
  repeat' first
    | exact rfl
    | trivial
    | apply And.intro
    | (intro r hr; subst hr)
    | intro r
    | exact hp
    | (refine iteI (fun h => ?_) (fun h => ?_))
  all_goals first
    | exact hk _ (by grind [RxP, JoinP, IntKind.wrap_i64])
    | omega
    | grind [RxP, JoinP, IntKind.wrap_i64]
theorem w_impl_RxOk : Valid Try.prog 30 c_impl_RxOk :=
  valid_ctr2 (V := V_impl_RxOk) (tysB_ok tys_ok) ⟨(CallsL.cons w_impl_in (CallsL.cons w_impl_isNumber (CallsL.cons w_impl_NumOf (CallsL.cons w_impl_JoinOk (CallsL.nil _))))), (IosL.nil _)⟩ mixed 0 1 Try.func30 rfl (by kernel_rfl)
    (fun c hc => by
      obtain rfl := Option.some.inj hc
      exact ⟨trivial, ⟨trivial, trivial⟩⟩)
    (fun x K hp hk => ⟨_, by kernel_rfl, vF_impl_RxOk x K hp (fun v h => hk v h)⟩)
end Go.Proofs.YtkencmgcibbfaaaE
