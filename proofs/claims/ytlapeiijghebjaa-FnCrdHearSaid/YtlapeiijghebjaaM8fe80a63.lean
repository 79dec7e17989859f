/- A part of the proof of laws of the program: what calls of the program answer. Conditions: none. -/
import Derived.Test.YtlapeiijghebjaaM38cd5b15
set_option linter.unusedVariables false
set_option linter.unusedSimpArgs false
set_option linter.unusedSectionVars false
/- Contracts: LawCrd1. Conditions: none. -/
set_option linter.unusedVariables false
set_option maxHeartbeats 1600000
namespace Go.Proofs.YtlapeiijghebjaaE
open Go
theorem at_byr0 (x : List Int) (l : List (List Int)) : at_byr (x :: l) 0 = x := rfl
theorem crd_ok {c : Cfg} {r : CrS} {f : Frm} (h : CrIn c r f) : CrP (crdHear1 c r f).r := by
  have hs := segPut_ok h.2.1.2 h.part
  obtain ⟨h1, h2⟩ := h.2.1
  unfold crdHear1
  dsimp only
  split
  · exact ⟨h1, h2⟩
  · split
    · exact ⟨h1, h2⟩
    · refine ⟨?_, hs.1⟩
      dsimp only; omega
theorem crd_law {c : Cfg} {r : CrS} {f : Frm} (h1 : CfgP c) (h2 : CrP r) (h3 : FrmP f) (h4 : f.kind = 3) : crdHear c r f = crdHear1 c r f ∧ CrP (crdHear c r f).r := by
  have h : CrIn c r f := ⟨h1, h2, h3, h4⟩
  have e : crdHear c r f = crdHear1 c r f := by unfold crdHear; rw [if_pos h]
  rw [e]
  exact ⟨rfl, crd_ok h⟩
theorem crd_join (c : Cfg) (r : CrS) (f : Frm) (hf : f.data.length ≤ 1000) : (crdHear c r f).r.join.got.length ≤ 137438953472 := by
  unfold crdHear
  split
  · rename_i h
    have := (crd_got c r f).1
    have := h.got
    omega
  · simp [zCr, zJoin]
theorem crd_len (c : Cfg) (r : CrS) (f : Frm) : (crdHear c r f).sdus.length ≤ 1 := by
  unfold crdHear
  split
  · exact (crd_got c r f).2.1
  · simp
theorem crd_data {c : Cfg} {r : CrS} {f : Frm} {y : List Int} (hf : f.data.length ≤ 1000) (h : List.Mem y (crdHear c r f).sdus) : y.length ≤ 137438953472 := by
  unfold crdHear at h
  split at h
  · rename_i hi
    have := (crd_got c r f).2.2 y h
    have := hi.got
    omega
  · cases h
theorem crd_at (c : Cfg) (r : CrS) (f : Frm) (hf : f.data.length ≤ 1000) : (at_byr (crdHear c r f).sdus 0).length ≤ 137438953472 := by
  have h := fun y hy => crd_data (y := y) (c := c) (r := r) hf hy
  generalize (crdHear c r f).sdus = s at h
  cases s with
  | nil => show ([] : List Int).length ≤ _; simp
  | cons y l => rw [at_byr0]; exact h y (List.Mem.head _)
theorem grant_join (r : CrS) (h : r.join.got.length ≤ 1000) : (crdGrant r).r.join.got.length ≤ 137438953472 := by
  unfold crdGrant
  repeat' split
  all_goals simp [zCr, zJoin]
  all_goals omega
theorem grant_data (r : CrS) : (crdGrant r).f.data.length ≤ 137438953472 := by
  unfold crdGrant
  repeat' split
  all_goals simp [zFrm]

/-! laws.FnCrdGrant -/
def c_laws_FnCrdGrant : Ent := ctr (α := (List Int)) (ρ := (Bool)) [] [] (rs1 rBytes) (fun x_ => (fun (l : List Int) => (Bytes l)) x_) (fun x_ r_ => (fun x_ => (fun (l : List Int) => ((fun r_ => (fun (r : Bool) => (r = true)) r_))) x_) x_ r_) (fun r_ => (fun (r : Bool) => ([rB.to r])) r_) (fun r_ => (fun (r : Bool) => ([])) r_)
def V_laws_FnCrdGrant : Env := ⟨tys, [(14, c_spec_DrawCrdGrant), (15, c_impl_CrdGrant), (16, c_spec_CrdGrant), (17, c_laws_liCrx), (18, c_laws_liFrame), (19, c_spec_CrdRxOk), (20, c_laws_liOk), (21, c_impl_CrdRxOk), (22, c_impl_FrmOk)], [], [(3, 0), (4, 1), (5, 2), (7, 3), (8, 4), (10, 5), (11, 6)], [], [], []⟩
/-! laws.FnCrdHear -/
def c_laws_FnCrdHear : Ent := ctr (α := (List Int)) (ρ := (Bool)) [] [] (rs1 rBytes) (fun x_ => (fun (l : List Int) => (Bytes l)) x_) (fun x_ r_ => (fun x_ => (fun (l : List Int) => ((fun r_ => (fun (r : Bool) => (r = true)) r_))) x_) x_ r_) (fun r_ => (fun (r : Bool) => ([rB.to r])) r_) (fun r_ => (fun (r : Bool) => ([])) r_)
def V_laws_FnCrdHear : Env := ⟨tys, [(17, c_laws_liCrx), (19, c_spec_CrdRxOk), (20, c_laws_liOk), (21, c_impl_CrdRxOk), (56, c_spec_DrawCrdHear), (57, c_impl_CrdHear), (58, c_spec_CrdHear), (59, c_laws_liSdus), (60, c_spec_CfgOk), (61, c_spec_FrmOk), (62, c_impl_SegPut), (63, c_laws_liJoin), (64, c_laws_liBytes)], [], [(3, 0), (4, 1), (5, 2), (6, 3), (8, 4), (10, 5)], [], [], []⟩
end Go.Proofs.YtlapeiijghebjaaE

/- Calls answer what is promised: LawCrd1. Conditions: none. -/
set_option linter.unusedVariables false
set_option maxHeartbeats 1600000
namespace Go.Proofs.YtlapeiijghebjaaE
open Go
theorem vF_laws_FnCrdGrant (l : List Int) (K : List Arg → List (List AC) → Prop) (hp : Bytes l) (hk : ∀ (r : Bool), (r = true) → K ([rB.to r]) ([])) :
 if ((decide ((((List.length l) : Nat) : Int) > (1048576 : Int))) = true) then
 ((true = true) ∧
 (K [(aB true)] []))
 else
 ((true = true) ∧
 ((Bytes l) ∧
 (∀ r : CrS,
 ((Bytes r.join.got) ∧ ((List.length r.join.got) ≤ (1000 : Nat))) →
 (true = true) ∧
 ((true = true) ∧
 (((List.length r.join.got) ≤ (137438953472 : Nat)) ∧
 (∀ r1 : GrantR,
 (r1 = (crdGrant r)) →
 (true = true) ∧
 ((true = true) ∧
 (((List.length r.join.got) ≤ (137438953472 : Nat)) ∧
 (∀ r2 : GrantR,
 (r2 = (crdGrant r)) →
 (true = true) ∧
 ((true = true) ∧
 (((List.length r1.r.join.got) ≤ (137438953472 : Nat)) ∧
 (∀ r3 : Bool,
 (r3 = (decide (r1.r = r2.r))) →
 (true = true) ∧
 (if ((!r3) = true) then
 ((true = true) ∧
 (K [(aB false)] []))
 else
 ((true = true) ∧
 (((List.length r1.f.data) ≤ (137438953472 : Nat)) ∧
 (∀ r4 : Bool,
 (r4 = (decide (r1.f = r2.f))) →
 (true = true) ∧
 (if ((!r4) = true) then
 ((true = true) ∧
 (K [(aB false)] []))
 else
 (if ((r1.ok != r2.ok) = true) then
 ((true = true) ∧
 (K [(aB false)] []))
 else
 ((true = true) ∧
 (True ∧
 (∀ r5 : Bool,
 (r5 = (decide (CrP r))) →
 (true = true) ∧
 (if ((!r5) = true) then
 (if ((!r1.ok) = true) then
 ((true = true) ∧
 (((List.length r1.r.join.got) ≤ (137438953472 : Nat)) ∧
 (∀ r6 : Bool,
 (r6 = (decide (r1.r = (CrS.mk (0 : Int) (JoinS.mk (0 : Int) ([] : (List Int))) false)))) →
 (true = true) ∧
 (if (r6 = true) then
 ((true = true) ∧
 (True ∧
 (∀ r7 : Bool,
 (r7 = true) →
 (true = true) ∧
 ((true = true) ∧
 (K [(aB r7)] [])))))
 else
 ((true = true) ∧
 (K [(aB false)] []))))))
 else
 ((true = true) ∧
 (K [(aB false)] [])))
 else
 (if ((!r1.ok) = true) then
 ((true = true) ∧
 (((List.length r1.r.join.got) ≤ (137438953472 : Nat)) ∧
 (∀ r6 : Bool,
 (r6 = (decide (r1.r = r))) →
 (true = true) ∧
 (if (r6 = true) then
 (if (r.dead = true) then
 ((true = true) ∧
 (K [(aB true)] []))
 else
 ((true = true) ∧
 (K [(aB (decide (r.out ≥ (6 : Int))))] [])))
 else
 ((true = true) ∧
 (K [(aB false)] []))))))
 else
 ((true = true) ∧
 (((List.length r1.r.join.got) ≤ (137438953472 : Nat)) ∧
 (∀ r6 : GrantR,
 (r6 = (crdGrant r1.r)) →
 (true = true) ∧
 ((true = true) ∧
 (True ∧
 (∀ r7 : Bool,
 (r7 = (decide (CrP r1.r))) →
 (true = true) ∧
 (if (r7 = true) then
 ((true = true) ∧
 (((List.length r1.f.data) ≤ (137438953472 : Nat)) ∧
 (∀ r8 : Bool,
 (r8 = (decide (FrmP r1.f))) →
 (true = true) ∧
 (if (r8 = true) then
 (if ((r1.r.out == (6 : Int)) = true) then
 (if ((r1.f.kind == (4 : Int)) = true) then
 (if ((r1.f.len == (IntKind.wrap IntKind.i64 ((6 : Int) - r.out))) = true) then
 ((true = true) ∧
 (K [(aB (!r6.ok))] []))
 else
 ((true = true) ∧
 (K [(aB false)] [])))
 else
 ((true = true) ∧
 (K [(aB false)] [])))
 else
 ((true = true) ∧
 (K [(aB false)] [])))
 else
 ((true = true) ∧
 (K [(aB false)] []))))))
 else
 ((true = true) ∧
 (K [(aB false)] [])))))))))))))))))))))))))))))))) := by
  repeat' first
    | exact rfl
    | exact True.intro
    | with_reducible apply And.intro
    | (with_reducible intro y_ hy_; subst hy_)
    | with_reducible intro y_
    | (refine iteI (fun h => ?_) (fun h => ?_))
  all_goals try simp only [Bool.not_eq_true', decide_eq_false_iff_not, decide_eq_true_eq, Bool.not_eq_true, bne_iff_ne, beq_iff_eq, ne_eq, Decidable.not_not, Bool.not_eq_false, gt_iff_lt, ge_iff_le, Int.not_le, Int.not_lt, beq_eq_false_iff_ne, bne_eq_false_iff_eq, Bool.and_eq_true, Bool.or_eq_true, Bool.true_eq_false, Bool.false_eq_true] at *
  all_goals try simp (disch := first | omega | grind [at_byr0, crdHear, crdHear1, crdGrant, zCr, zFrm, zJoin, CrP, JoinP, FrmP, SegP, CrIn, segPut2, PartP]) only [wr] at *
  all_goals first
    | assumption
    | omega
    | (refine crd_at _ _ _ ?_; omega)
    | (have := crd_len _ _ _; omega)
    | (refine crd_data ?_ ‹List.Mem _ _›; omega)
    | (refine crd_join _ _ _ ?_; omega)
    | (refine grant_join _ ?_; omega)
    | exact grant_data _
    | (exfalso; simp at h; done)
    | exact hk _ (by grind [at_byr0, crdHear, crdHear1, crdGrant, zCr, zFrm, zJoin, CrP, JoinP, FrmP, SegP, CrIn, segPut2, PartP])
    | (simp only [LIM] at *; omega)
    | grind [at_byr0, crdHear, crdHear1, crdGrant, zCr, zFrm, zJoin, CrP, JoinP, FrmP, SegP, CrIn, segPut2, PartP, LIM]
theorem w_laws_FnCrdGrant : Valid Try.prog 3 c_laws_FnCrdGrant :=
  valid_ctr2 (V := V_laws_FnCrdGrant) (tysB_ok tys_ok) (CallsL.cons w_spec_DrawCrdGrant (CallsL.cons w_impl_CrdGrant (CallsL.cons w_spec_CrdGrant (CallsL.cons w_laws_liCrx (CallsL.cons w_laws_liFrame (CallsL.cons w_spec_CrdRxOk (CallsL.cons w_laws_liOk (CallsL.cons w_impl_CrdRxOk (CallsL.cons w_impl_FrmOk (CallsL.nil _)))))))))) mixed 0 7 Try.func3 rfl (by kernel_rfl)
    (fun c hc => by
      obtain rfl := Option.some.inj hc
      exact ⟨trivial, ⟨⟨trivial, ⟨⟨trivial, trivial⟩, trivial⟩⟩, ⟨trivial, ⟨trivial, ⟨trivial, ⟨⟨trivial, ⟨⟨trivial, trivial⟩, trivial⟩⟩, ⟨⟨trivial, ⟨⟨trivial, trivial⟩, trivial⟩⟩, ⟨⟨trivial, ⟨⟨trivial, trivial⟩, trivial⟩⟩, ⟨trivial, ⟨trivial, trivial⟩⟩⟩⟩⟩⟩⟩⟩⟩⟩)
    (fun x K hp hk => ⟨_, by kernel_rfl, vF_laws_FnCrdGrant x K hp (fun r h => hk r h)⟩)
theorem vF_laws_FnCrdHear (l : List Int) (K : List Arg → List (List AC) → Prop) (hp : Bytes l) (hk : ∀ (r : Bool), (r = true) → K ([rB.to r]) ([])) :
 if ((decide ((((List.length l) : Nat) : Int) > (1048576 : Int))) = true) then
 ((true = true) ∧
 (K [(aB true)] []))
 else
 ((true = true) ∧
 ((Bytes l) ∧
 (∀ r : (Prod Cfg (Prod CrS Frm)),
 (((Bytes r.snd.fst.join.got) ∧ ((List.length r.snd.fst.join.got) ≤ (1000 : Nat))) ∧ ((Bytes r.snd.snd.data) ∧ ((List.length r.snd.snd.data) ≤ (1000 : Nat)))) →
 (true = true) ∧
 ((true = true) ∧
 (((List.length r.snd.snd.data) ≤ (1000000000 : Nat)) ∧
 (∀ r1 : CrHearR,
 (r1 = (crdHear r.fst r.snd.fst r.snd.snd)) →
 (true = true) ∧
 ((true = true) ∧
 (((List.length r.snd.snd.data) ≤ (1000000000 : Nat)) ∧
 (∀ r2 : CrHearR,
 (r2 = (crdHear r.fst r.snd.fst r.snd.snd)) →
 (true = true) ∧
 ((true = true) ∧
 (((List.length r1.r.join.got) ≤ (137438953472 : Nat)) ∧
 (∀ r3 : Bool,
 (r3 = (decide (r1.r = r2.r))) →
 (true = true) ∧
 ((true = true) ∧
 (if ((!r3) = true) then
 ((true = true) ∧
 (K [(aB false)] []))
 else
 ((true = true) ∧
 ((((List.length r1.sdus) ≤ (137438953472 : Nat)) ∧
 (∀ y : (List Int),
 (List.Mem y r1.sdus) →
 ((List.length y) ≤ (137438953472 : Nat)))) ∧
 (∀ r4 : Bool,
 (r4 = (decide (r1.sdus = r2.sdus))) →
 (true = true) ∧
 ((true = true) ∧
 (if ((!r4) = true) then
 ((true = true) ∧
 (K [(aB false)] []))
 else
 ((true = true) ∧
 (True ∧
 (∀ r5 : Bool,
 (r5 = (decide (CrP r.snd.fst))) →
 (true = true) ∧
 ((true = true) ∧
 ((true = true) ∧
 (True ∧
 (∀ r6 : Bool,
 (r6 = (decide (CrP r.snd.fst))) →
 (true = true) ∧
 ((true = true) ∧
 (if ((r5 != r6) = true) then
 ((true = true) ∧
 (K [(aB false)] []))
 else
 ((true = true) ∧
 (True ∧
 (∀ r7 : Bool,
 (r7 = (decide (CfgP r.fst))) →
 (true = true) ∧
 (if ((!r7) = true) then
 ((true = true) ∧
 (((List.length r1.r.join.got) ≤ (137438953472 : Nat)) ∧
 (∀ r8 : Bool,
 (r8 = (decide (r1.r = (CrS.mk (0 : Int) (JoinS.mk (0 : Int) ([] : (List Int))) false)))) →
 (true = true) ∧
 (if (r8 = true) then
 (if (((((List.length r1.sdus) : Nat) : Int) == (0 : Int)) = true) then
 ((true = true) ∧
 (True ∧
 (∀ r9 : Bool,
 (r9 = true) →
 (true = true) ∧
 ((true = true) ∧
 (K [(aB r9)] [])))))
 else
 ((true = true) ∧
 (K [(aB false)] [])))
 else
 ((true = true) ∧
 (K [(aB false)] []))))))
 else
 ((true = true) ∧
 (True ∧
 (∀ r8 : Bool,
 (r8 = (decide (CrP r.snd.fst))) →
 (true = true) ∧
 (if ((!r8) = true) then
 ((true = true) ∧
 (((List.length r1.r.join.got) ≤ (137438953472 : Nat)) ∧
 (∀ r9 : Bool,
 (r9 = (decide (r1.r = (CrS.mk (0 : Int) (JoinS.mk (0 : Int) ([] : (List Int))) false)))) →
 (true = true) ∧
 (if (r9 = true) then
 (if (((((List.length r1.sdus) : Nat) : Int) == (0 : Int)) = true) then
 ((true = true) ∧
 (True ∧
 (∀ r10 : Bool,
 (r10 = true) →
 (true = true) ∧
 ((true = true) ∧
 (K [(aB r10)] [])))))
 else
 ((true = true) ∧
 (K [(aB false)] [])))
 else
 ((true = true) ∧
 (K [(aB false)] []))))))
 else
 ((true = true) ∧
 (True ∧
 (∀ r9 : Bool,
 (r9 = (decide (FrmP r.snd.snd))) →
 (true = true) ∧
 (if ((!r9) = true) then
 ((true = true) ∧
 (((List.length r1.r.join.got) ≤ (137438953472 : Nat)) ∧
 (∀ r10 : Bool,
 (r10 = (decide (r1.r = (CrS.mk (0 : Int) (JoinS.mk (0 : Int) ([] : (List Int))) false)))) →
 (true = true) ∧
 (if (r10 = true) then
 (if (((((List.length r1.sdus) : Nat) : Int) == (0 : Int)) = true) then
 ((true = true) ∧
 (True ∧
 (∀ r11 : Bool,
 (r11 = true) →
 (true = true) ∧
 ((true = true) ∧
 (K [(aB r11)] [])))))
 else
 ((true = true) ∧
 (K [(aB false)] [])))
 else
 ((true = true) ∧
 (K [(aB false)] []))))))
 else
 (if ((r.snd.snd.kind != (3 : Int)) = true) then
 ((true = true) ∧
 (((List.length r1.r.join.got) ≤ (137438953472 : Nat)) ∧
 (∀ r10 : Bool,
 (r10 = (decide (r1.r = (CrS.mk (0 : Int) (JoinS.mk (0 : Int) ([] : (List Int))) false)))) →
 (true = true) ∧
 (if (r10 = true) then
 (if (((((List.length r1.sdus) : Nat) : Int) == (0 : Int)) = true) then
 ((true = true) ∧
 (True ∧
 (∀ r11 : Bool,
 (r11 = true) →
 (true = true) ∧
 ((true = true) ∧
 (K [(aB r11)] [])))))
 else
 ((true = true) ∧
 (K [(aB false)] [])))
 else
 ((true = true) ∧
 (K [(aB false)] []))))))
 else
 (if (r.snd.fst.dead = true) then
 ((true = true) ∧
 (((List.length r1.r.join.got) ≤ (137438953472 : Nat)) ∧
 (∀ r10 : Bool,
 (r10 = (decide (r1.r = r.snd.fst))) →
 (true = true) ∧
 (if (r10 = true) then
 ((true = true) ∧
 (K [(aB ((((List.length r1.sdus) : Nat) : Int) == (0 : Int)))] []))
 else
 ((true = true) ∧
 (K [(aB false)] []))))))
 else
 (if ((r.snd.fst.out == (0 : Int)) = true) then
 (if (r1.r.dead = true) then
 ((true = true) ∧
 (K [(aB ((((List.length r1.sdus) : Nat) : Int) == (0 : Int)))] []))
 else
 ((true = true) ∧
 (K [(aB false)] [])))
 else
 (if ((decide (r.snd.snd.len > r.fst.mtu)) = true) then
 (if (r1.r.dead = true) then
 ((true = true) ∧
 (K [(aB ((((List.length r1.sdus) : Nat) : Int) == (0 : Int)))] []))
 else
 ((true = true) ∧
 (K [(aB false)] [])))
 else
 (if ((decide ((((List.length r.snd.snd.data) : Nat) : Int) > r.fst.mps)) = true) then
 (if (r1.r.dead = true) then
 ((true = true) ∧
 (K [(aB ((((List.length r1.sdus) : Nat) : Int) == (0 : Int)))] []))
 else
 ((true = true) ∧
 (K [(aB false)] [])))
 else
 ((true = true) ∧
 (((List.length r.snd.snd.data) ≤ (1000000000 : Nat)) ∧
 (∀ r10 : PutR,
 (r10 = (segPut2 r.snd.fst.join (Part.mk r.snd.snd.seg r.snd.snd.len r.snd.snd.data))) →
 (true = true) ∧
 (if ((r1.r.out != (IntKind.wrap IntKind.i64 (r.snd.fst.out - (1 : Int)))) = true) then
 ((true = true) ∧
 (K [(aB false)] []))
 else
 (if ((r1.r.dead != (r10.how == (3 : Int))) = true) then
 ((true = true) ∧
 (K [(aB false)] []))
 else
 ((true = true) ∧
 (((List.length r1.r.join.got) ≤ (137438953472 : Nat)) ∧
 (∀ r11 : Bool,
 (r11 = (decide (r1.r.join = r10.j))) →
 (true = true) ∧
 (if ((!r11) = true) then
 ((true = true) ∧
 (K [(aB false)] []))
 else
 ((true = true) ∧
 (True ∧
 (∀ r12 : Bool,
 (r12 = (decide (CrP r1.r))) →
 (true = true) ∧
 (if ((!r12) = true) then
 ((true = true) ∧
 (K [(aB false)] []))
 else
 (if (((r10.how == (2 : Int)) == ((((List.length r1.sdus) : Nat) : Int) == (1 : Int))) = true) then
 (if (((((List.length r1.sdus) : Nat) : Int) == (0 : Int)) = true) then
 ((true = true) ∧
 (K [(aB true)] []))
 else
 ((((0 : Int) ≤ (0 : Int)) ∧
 ((0 : Int) < (((List.length r1.sdus) : Nat) : Int))) ∧
 ((true = true) ∧
 ((((List.length (at_byr r1.sdus (0 : Nat))) ≤ (137438953472 : Nat)) ∧
 True) ∧
 (∀ r13 : Bool,
 (r13 = (decide ((at_byr r1.sdus (0 : Nat)) = r10.sdu))) →
 (true = true) ∧
 ((true = true) ∧
 (K [(aB r13)] [])))))))
 else
 ((true = true) ∧
 (K [(aB false)] []))))))))))))))))))))))))))))))))))))))))))))))))))))))))))))) := by
  repeat' first
    | exact rfl
    | exact True.intro
    | with_reducible apply And.intro
    | (with_reducible intro y_ hy_; subst hy_)
    | with_reducible intro y_
    | (refine iteI (fun h => ?_) (fun h => ?_))
  all_goals try simp only [Bool.not_eq_true', decide_eq_false_iff_not, decide_eq_true_eq, Bool.not_eq_true, bne_iff_ne, beq_iff_eq, ne_eq, Decidable.not_not, Bool.not_eq_false, gt_iff_lt, ge_iff_le, Int.not_le, Int.not_lt, beq_eq_false_iff_ne, bne_eq_false_iff_eq, Bool.and_eq_true, Bool.or_eq_true, Bool.true_eq_false, Bool.false_eq_true] at *
  all_goals try simp (disch := first | omega | grind [at_byr0, crd_law, crdHear, crdHear1, crdGrant, zCr, zFrm, zJoin, CrP, JoinP, FrmP, SegP, CrIn, segPut2, PartP, segPut]) only [wr] at *
  all_goals first
    | assumption
    | omega
    | (refine crd_at _ _ _ ?_; omega)
    | (have := crd_len _ _ _; omega)
    | (refine crd_data ?_ ‹List.Mem _ _›; omega)
    | (refine crd_join _ _ _ ?_; omega)
    | (refine grant_join _ ?_; omega)
    | exact grant_data _
    | (exfalso; simp at h; done)
    | exact hk _ (by grind [at_byr0, crd_law, crdHear, crdHear1, crdGrant, zCr, zFrm, zJoin, CrP, JoinP, FrmP, SegP, CrIn, segPut2, PartP, segPut])
    | (simp only [LIM] at *; omega)
    | grind [at_byr0, crd_law, crdHear, crdHear1, crdGrant, zCr, zFrm, zJoin, CrP, JoinP, FrmP, SegP, CrIn, segPut2, PartP, segPut, LIM]
theorem w_laws_FnCrdHear : Valid Try.prog 12 c_laws_FnCrdHear :=
  valid_ctr2 (V := V_laws_FnCrdHear) (tysB_ok tys_ok) (CallsL.cons w_laws_liCrx (CallsL.cons w_spec_CrdRxOk (CallsL.cons w_laws_liOk (CallsL.cons w_impl_CrdRxOk (CallsL.cons w_spec_DrawCrdHear (CallsL.cons w_impl_CrdHear (CallsL.cons w_spec_CrdHear (CallsL.cons w_laws_liSdus (CallsL.cons w_spec_CfgOk (CallsL.cons w_spec_FrmOk (CallsL.cons w_impl_SegPut (CallsL.cons w_laws_liJoin (CallsL.cons w_laws_liBytes (CallsL.nil _)))))))))))))) mixed 0 6 Try.func12 rfl (by kernel_rfl)
    (fun c hc => by
      obtain rfl := Option.some.inj hc
      exact ⟨trivial, ⟨⟨trivial, ⟨⟨trivial, trivial⟩, trivial⟩⟩, ⟨trivial, ⟨trivial, ⟨trivial, ⟨⟨trivial, ⟨⟨trivial, trivial⟩, trivial⟩⟩, ⟨⟨trivial, ⟨⟨trivial, trivial⟩, trivial⟩⟩, ⟨⟨trivial, ⟨⟨trivial, trivial⟩, trivial⟩⟩, ⟨⟨trivial, ⟨⟨trivial, trivial⟩, trivial⟩⟩, ⟨trivial, ⟨⟨trivial, ⟨⟨trivial, trivial⟩, trivial⟩⟩, ⟨trivial, trivial⟩⟩⟩⟩⟩⟩⟩⟩⟩⟩⟩⟩)
    (fun x K hp hk => ⟨_, by kernel_rfl, vF_laws_FnCrdHear x K hp (fun r h => hk r h)⟩)
end Go.Proofs.YtlapeiijghebjaaE
