/- A part of the proof of laws of the program: what calls of the program answer. Conditions: none. -/
import Derived.Test.YtkkokenpehoffaaM9f0985f9
set_option linter.unusedVariables false
set_option linter.unusedSimpArgs false
set_option linter.unusedSectionVars false
/- Contracts: LawFrm1. Conditions: none. -/
set_option linter.unusedVariables false
set_option maxHeartbeats 1600000
namespace Go.Proofs.YtkkokenpehoffaaE
open Go
theorem frmBytes_nil {f : Frm} : (frmBytes f).length = 0 ↔ ¬ FrmP f := by
  constructor
  · intro h hf
    rw [frmBytes_len2 hf] at h
    omega
  · intro h
    unfold frmBytes
    rw [if_neg h]
    rfl
theorem frm_apart {a b : Frm} (ha : FrmP a) (hb : FrmP b) (da : Bytes a.data) (db : Bytes b.data) : frmBytes a = frmBytes b ↔ a = b := by
  constructor
  · intro e
    rw [← (read_bytes ha da).2, e, (read_bytes hb db).2]
  · rintro rfl; rfl
theorem frmBytes_big (f : Frm) : (frmBytes f).length ≤ 137438953472 := Nat.le_trans (frmBytes_len f) (by decide)

/-! laws.FnFrmApart -/
def c_laws_FnFrmApart : Ent := ctr (α := (List Int) × (List Int)) (ρ := (Bool)) [] [] (rs rBytes (rs1 rBytes)) (fun x_ => (fun (l : List Int) (m : List Int) => (Bytes l ∧ Bytes m)) x_.1 x_.2) (fun x_ r_ => (fun x_ => (fun (l : List Int) (m : List Int) => ((fun r_ => (fun (r : Bool) => (r = true)) r_))) x_.1 x_.2) x_ r_) (fun r_ => (fun (r : Bool) => ([rB.to r])) r_) (fun r_ => (fun (r : Bool) => ([])) r_)
def V_laws_FnFrmApart : Env := ⟨tys, [(13, c_laws_liBytes), (24, c_spec_FrmBytes), (26, c_impl_FrmBytes), (28, c_spec_DrawFrmBytes), (29, c_spec_FrmOk), (30, c_laws_liOk), (31, c_laws_liFrame)], [], [(5, 0), (6, 1)], [], [], [999999]⟩
end Go.Proofs.YtkkokenpehoffaaE

/- Calls answer what is promised: LawFrm1. Conditions: none. -/
set_option linter.unusedVariables false
set_option maxHeartbeats 1600000
namespace Go.Proofs.YtkkokenpehoffaaE
open Go
theorem vF_laws_FnFrmApart (l : List Int) (m : List Int) (K : List Arg → List (List AC) → Prop) (hp : Bytes l ∧ Bytes m) (hk : ∀ (r : Bool), (r = true) → K ([rB.to r]) ([])) :
 IfP (decide ((((List.length l) : Nat) : Int) > (1048576 : Int)))
 ((true = true) ∧
 (K [(aB true)] []))
 (if ((decide ((((List.length m) : Nat) : Int) > (1048576 : Int))) = true) then
 ((true = true) ∧
 (K [(aB true)] []))
 else
 ((true = true) ∧
 ((Bytes l) ∧
 (∀ r : Frm,
 ((Bytes r.data) ∧ ((List.length r.data) ≤ (200 : Nat))) →
 (true = true) ∧
 ((true = true) ∧
 ((Bytes m) ∧
 (∀ r1 : Frm,
 ((Bytes r1.data) ∧ ((List.length r1.data) ≤ (200 : Nat))) →
 (true = true) ∧
 ((true = true) ∧
 ((((List.length r.data) ≤ (1000 : Nat)) ∧
 (Bytes r.data)) ∧
 (∀ r2 : (List Int),
 (r2 = (frmBytes r)) →
 (true = true) ∧
 ((true = true) ∧
 ((((List.length r.data) ≤ (1000 : Nat)) ∧
 (Bytes r.data)) ∧
 (∀ r3 : (List Int),
 (r3 = (frmBytes r)) →
 (true = true) ∧
 ((true = true) ∧
 ((((List.length r2) ≤ (137438953472 : Nat)) ∧
 True) ∧
 (∀ r4 : Bool,
 (r4 = (decide (r2 = r3))) →
 (true = true) ∧
 (if ((!r4) = true) then
 ((true = true) ∧
 (K [(aB false)] []))
 else
 ((true = true) ∧
 (True ∧
 (∀ r5 : Bool,
 (r5 = (decide (FrmP r))) →
 (true = true) ∧
 (IfP (!r5)
 ((true = true) ∧
 (True ∧
 (∀ r6 : Bool,
 (r6 = (decide (FrmP r))) →
 (true = true) ∧
 (IfP (((((List.length r2) : Nat) : Int) == (0 : Int)) == (!r6))
 ((true = true) ∧
 (True ∧
 (∀ r7 : Bool,
 (r7 = true) →
 (true = true) ∧
 ((true = true) ∧
 (K [(aB r7)] [])))))
 ((true = true) ∧
 (K [(aB false)] []))))))
 ((true = true) ∧
 (True ∧
 (∀ r6 : Bool,
 (r6 = (decide (FrmP r1))) →
 (true = true) ∧
 (if ((!r6) = true) then
 ((true = true) ∧
 (True ∧
 (∀ r7 : Bool,
 (r7 = (decide (FrmP r))) →
 (true = true) ∧
 (IfP (((((List.length r2) : Nat) : Int) == (0 : Int)) == (!r7))
 ((true = true) ∧
 (True ∧
 (∀ r8 : Bool,
 (r8 = true) →
 (true = true) ∧
 ((true = true) ∧
 (K [(aB r8)] [])))))
 ((true = true) ∧
 (K [(aB false)] []))))))
 else
 ((true = true) ∧
 ((((List.length r1.data) ≤ (1000 : Nat)) ∧
 (Bytes r1.data)) ∧
 (∀ r7 : (List Int),
 (r7 = (frmBytes r1)) →
 (true = true) ∧
 ((true = true) ∧
 ((true = true) ∧
 ((((List.length r2) ≤ (137438953472 : Nat)) ∧
 True) ∧
 (∀ r8 : Bool,
 (r8 = (decide (r2 = r7))) →
 (true = true) ∧
 ((true = true) ∧
 ((true = true) ∧
 (((List.length r.data) ≤ (137438953472 : Nat)) ∧
 (∀ r9 : Bool,
 (r9 = (decide (r = r1))) →
 (true = true) ∧
 ((true = true) ∧
 ((true = true) ∧
 (K [(aB (r8 == r9))] []))))))))))))))))))))))))))))))))))))))) := by
  repeat' first
    | exact rfl
    | exact True.intro
    | with_reducible apply And.intro
    | (with_reducible intro y_ hy_; subst hy_)
    | with_reducible intro y_
    | (refine iteI (fun h => ?_) (fun h => ?_))
    | (refine ifpI (fun h => ?_) (fun h => ?_))
  all_goals try simp only [Bool.not_eq_true', decide_eq_false_iff_not, decide_eq_true_eq, Bool.not_eq_true, bne_iff_ne, beq_iff_eq, ne_eq, Decidable.not_not, Bool.not_eq_false, gt_iff_lt, ge_iff_le, Int.not_le, Int.not_lt, beq_eq_false_iff_ne, bne_eq_false_iff_eq, Bool.and_eq_true, Bool.or_eq_true, Bool.true_eq_false, Bool.false_eq_true] at *
  all_goals try simp (disch := first | omega | grind [frmBytes_nil, frm_apart]) only [wr] at *
  all_goals first
    | assumption
    | omega
    | exact frmBytes_big _
    | (refine hk _ ?_
       have e := frm_apart (a := _) (b := _) ‹FrmP _› (by assumption) (And.left (by assumption)) (And.left (by assumption))
       grind)
    | exact hk _ (by grind [frmBytes_nil, frm_apart])
    | (simp only [LIM] at *; omega)
    | grind [frmBytes_nil, frm_apart, LIM]
theorem w_laws_FnFrmApart : Valid Try.prog 6 c_laws_FnFrmApart :=
  valid_ctr2 (V := V_laws_FnFrmApart) (tysB_ok tys_ok) (CallsL.cons w_laws_liBytes (CallsL.cons w_spec_FrmBytes (CallsL.cons w_impl_FrmBytes (CallsL.cons w_spec_DrawFrmBytes (CallsL.cons w_spec_FrmOk (CallsL.cons w_laws_liOk (CallsL.cons w_laws_liFrame (CallsL.nil _)))))))) mixed 0 2 Try.func6 rfl (by kernel_rfl)
    (fun c hc => by
      obtain rfl := Option.some.inj hc
      exact ⟨trivial, ⟨⟨trivial, ⟨⟨trivial, trivial⟩, trivial⟩⟩, ⟨trivial, ⟨trivial, ⟨trivial, ⟨⟨trivial, ⟨⟨trivial, trivial⟩, trivial⟩⟩, ⟨⟨trivial, ⟨⟨trivial, trivial⟩, trivial⟩⟩, ⟨trivial, trivial⟩⟩⟩⟩⟩⟩⟩⟩)
    (fun x K hp hk => ⟨_, by kernel_rfl, vF_laws_FnFrmApart x.1 x.2 K hp (fun r h => hk r h)⟩)
end Go.Proofs.YtkkokenpehoffaaE
