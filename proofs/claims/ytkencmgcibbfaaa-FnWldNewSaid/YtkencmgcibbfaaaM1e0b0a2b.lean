/- A part of the proof of laws of the program: what calls of the program answer. Conditions: none. -/
import Derived.Test.YtkencmgcibbfaaaMe567e1b1
set_option linter.unusedVariables false
set_option linter.unusedSimpArgs false
set_option linter.unusedSectionVars false
/- Contracts: X3R. Conditions: none. -/
set_option linter.unusedVariables false
set_option maxHeartbeats 1600000
namespace Go.Proofs.YtkencmgcibbfaaaE
open Go
def dJoinC (t : JoinS) : List AC := [.d (.i .i64 t.len), .own ⟨5, .u8, t.got, ⟨none, false, 0, false⟩⟩]
def dJoin (t : JoinS) : Arg := .v true (dJoinC t)
def mkJoinD : List AC → Option JoinS
  | [.d (.i .i64 a0), .own ⟨e1, .u8, a1, ⟨none, false, 0, false⟩⟩] => if e1 = 5 then some ⟨a0, a1⟩ else none
  | _ => none
theorem mkJoinD_cells {cs : List AC} {t : JoinS} (h : mkJoinD cs = some t) : cs = dJoinC t := by
  unfold mkJoinD at h
  split at h
  · split at h
    · rename_i he
      cases h
      obtain rfl := he
      rfl
    · simp at h
  · simp at h
def odJoin : Arg → Option JoinS
  | .v true cs => mkJoinD cs
  | _ => none
def rDJoin : Rep JoinS where
  to t := .v true (dJoinC t)
  of := odJoin
  inv a x h _ := by
    unfold odJoin at h
    split at h
    · rw [mkJoinD_cells h]
    · simp at h

/-! laws.eqSegJoin -/
def c_laws_eqSegJoin : Ent := ctr (α := (JoinS) × (JoinS)) (ρ := (Bool)) [] [] (rs rJoin (rs1 rJoin)) (fun x_ => (fun (a : JoinS) (b : JoinS) => (a.got.length ≤ LIM)) x_.1 x_.2) (fun x_ r_ => (fun x_ => (fun (a : JoinS) (b : JoinS) => ((fun r_ => (fun (r : Bool) => (r = decide (a = b))) r_))) x_.1 x_.2) x_ r_) (fun r_ => (fun (r : Bool) => ([rB.to r])) r_) (fun r_ => (fun (r : Bool) => ([])) r_)
def V_laws_eqSegJoin : Env := ⟨tys, [(84, c_laws_eqByteS)], [], [(2, 0), (3, 1)], [], [], [], [], []⟩
/-! laws.eqRxState -/
def c_laws_eqRxState : Ent := ctr (α := (RxS) × (RxS)) (ρ := (Bool)) [] [] (rs rRx (rs1 rRx)) (fun x_ => (fun (a : RxS) (b : RxS) => (a.join.got.length ≤ LIM)) x_.1 x_.2) (fun x_ r_ => (fun x_ => (fun (a : RxS) (b : RxS) => ((fun r_ => (fun (r : Bool) => (r = decide (a = b))) r_))) x_.1 x_.2) x_ r_) (fun r_ => (fun (r : Bool) => ([rB.to r])) r_) (fun r_ => (fun (r : Bool) => ([])) r_)
def V_laws_eqRxState : Env := ⟨tys, [(83, c_laws_eqSegJoin)], [], [(2, 0), (3, 1)], [], [], [], [], []⟩
/-! laws.eqCrdRx -/
def c_laws_eqCrdRx : Ent := ctr (α := (CrS) × (CrS)) (ρ := (Bool)) [] [] (rs rCr (rs1 rCr)) (fun x_ => (fun (a : CrS) (b : CrS) => (a.join.got.length ≤ LIM)) x_.1 x_.2) (fun x_ r_ => (fun x_ => (fun (a : CrS) (b : CrS) => ((fun r_ => (fun (r : Bool) => (r = decide (a = b))) r_))) x_.1 x_.2) x_ r_) (fun r_ => (fun (r : Bool) => ([rB.to r])) r_) (fun r_ => (fun (r : Bool) => ([])) r_)
def V_laws_eqCrdRx : Env := ⟨tys, [(83, c_laws_eqSegJoin)], [], [(2, 0), (3, 1)], [], [], [], [], []⟩
end Go.Proofs.YtkencmgcibbfaaaE

/- Calls answer what is promised: X3R. Conditions: none. -/
set_option linter.unusedVariables false
set_option maxHeartbeats 1600000
namespace Go.Proofs.YtkencmgcibbfaaaE
open Go
theorem vF_laws_eqSegJoin (a:JoinS) (b:JoinS) (K:List Arg→List (List AC)→Prop) (hp:a.got.length≤LIM) (hk:∀ (r:Bool),(r=decide (a=b))→K ([rB.to r]) ([])):if ((a.len != b.len)=true) then ((true=true)∧(K [(aB false)] [])) else ((true=true)∧((((List.length a.got)≤(137438953472:Nat))∧True)∧(∀ r:Bool,(r=(decide (a.got=b.got)))→(true=true)∧(if ((!r)=true) then ((true=true)∧(K [(aB false)] [])) else ((true=true)∧(K [(aB true)] [])))))) := by
  obtain ⟨_, _⟩ := a
  obtain ⟨_, _⟩ := b

  repeat' first
    | exact rfl
    | exact True.intro
    | with_reducible apply And.intro
    | (with_reducible intro y_ hy_; subst hy_)
    | with_reducible intro y_
    | (refine iteI (fun h => ?_) (fun h => ?_))
  all_goals try simp only [Bool.not_eq_true', decide_eq_false_iff_not, decide_eq_true_eq, Bool.not_eq_true, bne_iff_ne, beq_iff_eq, ne_eq, Decidable.not_not, Bool.not_eq_false, gt_iff_lt, ge_iff_le, Int.not_le, Int.not_lt, beq_eq_false_iff_ne, bne_eq_false_iff_eq, Bool.and_eq_true, Bool.or_eq_true, Bool.true_eq_false, Bool.false_eq_true] at *
  all_goals try simp (disch := first | omega | grind []) only [wr] at *
  all_goals first
    | assumption
    | omega
    | exact hk _ (by grind [])
    | (simp only [LIM] at *; omega)
    | grind [LIM]
theorem w_laws_eqSegJoin : Valid Try.prog 83 c_laws_eqSegJoin :=
  valid_ctr2 (V := V_laws_eqSegJoin) (tysB_ok tys_ok) ⟨(CallsL.cons w_laws_eqByteS (CallsL.nil _)), (IosL.nil _)⟩ mixed 0 2 Try.func83 rfl (by kernel_rfl)
    (fun c hc => by
      obtain rfl := Option.some.inj hc
      exact ⟨trivial, ⟨⟨trivial, ⟨⟨trivial, trivial⟩, trivial⟩⟩, ⟨⟨trivial, ⟨⟨trivial, trivial⟩, trivial⟩⟩, ⟨trivial, trivial⟩⟩⟩⟩)
    (fun x K hp hk => ⟨_, by kernel_rfl, vF_laws_eqSegJoin x.1 x.2 K hp (fun r h => hk r h)⟩)
theorem vF_laws_eqRxState (a:RxS) (b:RxS) (K:List Arg→List (List AC)→Prop) (hp:a.join.got.length≤LIM) (hk:∀ (r:Bool),(r=decide (a=b))→K ([rB.to r]) ([])):if ((a.expect != b.expect)=true) then ((true=true)∧(K [(aB false)] [])) else (if ((a.count != b.count)=true) then ((true=true)∧(K [(aB false)] [])) else ((true=true)∧(((List.length a.join.got)≤(137438953472:Nat))∧(∀ r:Bool,(r=(decide (a.join=b.join)))→(true=true)∧(if ((!r)=true) then ((true=true)∧(K [(aB false)] [])) else (if ((a.again != b.again)=true) then ((true=true)∧(K [(aB false)] [])) else (if ((a.busy != b.busy)=true) then ((true=true)∧(K [(aB false)] [])) else (if ((a.dead != b.dead)=true) then ((true=true)∧(K [(aB false)] [])) else ((true=true)∧(K [(aB true)] [])))))))))) := by
  obtain ⟨_, _, ⟨_, _⟩, _, _, _⟩ := a
  obtain ⟨_, _, ⟨_, _⟩, _, _, _⟩ := b

  repeat' first
    | exact rfl
    | exact True.intro
    | with_reducible apply And.intro
    | (with_reducible intro y_ hy_; subst hy_)
    | with_reducible intro y_
    | (refine iteI (fun h => ?_) (fun h => ?_))
  all_goals try simp only [Bool.not_eq_true', decide_eq_false_iff_not, decide_eq_true_eq, Bool.not_eq_true, bne_iff_ne, beq_iff_eq, ne_eq, Decidable.not_not, Bool.not_eq_false, gt_iff_lt, ge_iff_le, Int.not_le, Int.not_lt, beq_eq_false_iff_ne, bne_eq_false_iff_eq, Bool.and_eq_true, Bool.or_eq_true, Bool.true_eq_false, Bool.false_eq_true] at *
  all_goals try simp (disch := first | omega | grind []) only [wr] at *
  all_goals first
    | assumption
    | omega
    | exact hk _ (by grind [])
    | (simp only [LIM] at *; omega)
    | grind [LIM]
theorem w_laws_eqRxState : Valid Try.prog 75 c_laws_eqRxState :=
  valid_ctr2 (V := V_laws_eqRxState) (tysB_ok tys_ok) ⟨(CallsL.cons w_laws_eqSegJoin (CallsL.nil _)), (IosL.nil _)⟩ mixed 0 2 Try.func75 rfl (by kernel_rfl)
    (fun c hc => by
      obtain rfl := Option.some.inj hc
      exact ⟨trivial, ⟨⟨trivial, ⟨⟨trivial, trivial⟩, trivial⟩⟩, ⟨⟨trivial, ⟨⟨trivial, trivial⟩, trivial⟩⟩, ⟨⟨trivial, ⟨⟨trivial, trivial⟩, trivial⟩⟩, ⟨⟨trivial, ⟨⟨trivial, trivial⟩, trivial⟩⟩, ⟨⟨trivial, ⟨⟨trivial, trivial⟩, trivial⟩⟩, ⟨⟨trivial, ⟨⟨trivial, trivial⟩, trivial⟩⟩, ⟨trivial, trivial⟩⟩⟩⟩⟩⟩⟩⟩)
    (fun x K hp hk => ⟨_, by kernel_rfl, vF_laws_eqRxState x.1 x.2 K hp (fun r h => hk r h)⟩)
theorem vF_laws_eqCrdRx (a:CrS) (b:CrS) (K:List Arg→List (List AC)→Prop) (hp:a.join.got.length≤LIM) (hk:∀ (r:Bool),(r=decide (a=b))→K ([rB.to r]) ([])):if ((a.out != b.out)=true) then ((true=true)∧(K [(aB false)] [])) else ((true=true)∧(((List.length a.join.got)≤(137438953472:Nat))∧(∀ r:Bool,(r=(decide (a.join=b.join)))→(true=true)∧(if ((!r)=true) then ((true=true)∧(K [(aB false)] [])) else (if ((a.dead != b.dead)=true) then ((true=true)∧(K [(aB false)] [])) else ((true=true)∧(K [(aB true)] []))))))) := by
  obtain ⟨_, ⟨_, _⟩, _⟩ := a
  obtain ⟨_, ⟨_, _⟩, _⟩ := b

  repeat' first
    | exact rfl
    | exact True.intro
    | with_reducible apply And.intro
    | (with_reducible intro y_ hy_; subst hy_)
    | with_reducible intro y_
    | (refine iteI (fun h => ?_) (fun h => ?_))
  all_goals try simp only [Bool.not_eq_true', decide_eq_false_iff_not, decide_eq_true_eq, Bool.not_eq_true, bne_iff_ne, beq_iff_eq, ne_eq, Decidable.not_not, Bool.not_eq_false, gt_iff_lt, ge_iff_le, Int.not_le, Int.not_lt, beq_eq_false_iff_ne, bne_eq_false_iff_eq, Bool.and_eq_true, Bool.or_eq_true, Bool.true_eq_false, Bool.false_eq_true] at *
  all_goals try simp (disch := first | omega | grind []) only [wr] at *
  all_goals first
    | assumption
    | omega
    | exact hk _ (by grind [])
    | (simp only [LIM] at *; omega)
    | grind [LIM]
theorem w_laws_eqCrdRx : Valid Try.prog 77 c_laws_eqCrdRx :=
  valid_ctr2 (V := V_laws_eqCrdRx) (tysB_ok tys_ok) ⟨(CallsL.cons w_laws_eqSegJoin (CallsL.nil _)), (IosL.nil _)⟩ mixed 0 2 Try.func77 rfl (by kernel_rfl)
    (fun c hc => by
      obtain rfl := Option.some.inj hc
      exact ⟨trivial, ⟨⟨trivial, ⟨⟨trivial, trivial⟩, trivial⟩⟩, ⟨⟨trivial, ⟨⟨trivial, trivial⟩, trivial⟩⟩, ⟨⟨trivial, ⟨⟨trivial, trivial⟩, trivial⟩⟩, ⟨trivial, trivial⟩⟩⟩⟩⟩)
    (fun x K hp hk => ⟨_, by kernel_rfl, vF_laws_eqCrdRx x.1 x.2 K hp (fun r h => hk r h)⟩)
end Go.Proofs.YtkencmgcibbfaaaE
