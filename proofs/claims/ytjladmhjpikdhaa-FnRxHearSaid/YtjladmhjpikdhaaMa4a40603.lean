/- A part of the proof of laws of the program: what calls of the program answer. Conditions: none. -/
import Derived.Test.YtjladmhjpikdhaaM62e6bf53
set_option linter.unusedVariables false
set_option linter.unusedSimpArgs false
set_option linter.unusedSectionVars false
/- Contracts: LawRx4. Conditions: none. -/
set_option linter.unusedVariables false
set_option maxHeartbeats 1600000
namespace Go.Proofs.YtjladmhjpikdhaaE
open Go
theorem at_frm0 (x : Frm) (l : List Frm) : at_frm (x :: l) 0 = x := rfl
theorem at_byr0 (x : List Int) (l : List (List Int)) : at_byr (x :: l) 0 = x := rfl
theorem sdus_len (c : Cfg) (r : RxS) (f : Frm) : (rxHear c r f).sdus.length ≤ 1 := by
  unfold rxHear
  split
  · exact (hear_got c r f).2.1
  · simp
theorem sdus_data {c : Cfg} {r : RxS} {f : Frm} {y : List Int} (hf : f.data.length ≤ 1000) (h : List.Mem y (rxHear c r f).sdus) : y.length ≤ 137438953472 := by
  unfold rxHear at h
  split at h
  · exact hear_len ‹_› (by omega) h
  · cases h
theorem hear_join (c : Cfg) (r : RxS) (f : Frm) (hf : f.data.length ≤ 1000) : (rxHear c r f).r.join.got.length ≤ 137438953472 := by
  unfold rxHear
  split
  · rename_i h
    have := (hear_got c r f).1
    have := h.got
    omega
  · simp [zRx, zJoin]
theorem rx_twice2 {c : Cfg} {r : RxS} {f : Frm} (h1 : CfgP c) (h2 : RxP r) (h3 : FrmP f) (hk : f.kind = 1) (hc : (rxHear c r f).r.count = r.count + 1) :
    rxHear c (rxHear c r f).r f = ⟨(rxHear c r f).r, [], []⟩ ∧ (rxHear c r f).r.dead = false := rx_twice ⟨h1, h2, h3, .inl hk⟩ hk hc
theorem rx_miss {c : Cfg} {y : RxS} {f : Frm} (h : RxIn c y f) (hk : f.kind = 1) (hb : y.busy = false) (hs : f.seq ≠ y.expect) :
    rxHear c y f = ⟨y, [], []⟩ ∨ (y.again = false ∧ ∃ w, rxHear c y f = ⟨{ y with again := true }, [], [w]⟩) := by
  unfold rxHear
  rw [if_pos h]
  unfold rxHear1
  split
  · exact .inl rfl
  · try rw [if_pos hk]
    unfold rxData
    rw [hb, if_neg (by simp), if_neg hs]
    split
    · rename_i hc
      exact .inr ⟨hc.2, _, rfl⟩
    · exact .inl rfl
theorem hear_law {c : Cfg} {r : RxS} {f : Frm} (h1 : CfgP c) (h2 : RxP r) (h3 : FrmP f) (h4 : f.kind = 1 ∨ f.kind = 2) : rxHear c r f = rxHear1 c r f ∧ RxP (rxHear c r f).r := by
  have h : RxIn c r f := ⟨h1, h2, h3, h4⟩
  have e : rxHear c r f = rxHear1 c r f := by unfold rxHear; rw [if_pos h]
  rw [e]
  exact ⟨rfl, hear_ok h⟩
theorem hear_no {c : Cfg} {r : RxS} {f : Frm} (h : ¬ RxIn c r f) : rxHear c r f = ⟨zRx, [], []⟩ := by unfold rxHear; rw [if_neg h]
theorem kind12 {f : Frm} (h : FrmP f) (hk : f.kind < 3) : f.kind = 1 ∨ f.kind = 2 := by
  unfold FrmP at h
  omega
theorem says_one (c : Cfg) (r : RxS) (f : Frm) : (rxHear c r f).says.length ≤ 1 ∧ ∀ y ∈ (rxHear c r f).says, y.data.length ≤ 137438953472 := by
  unfold rxHear rxHear1 rxData rxTake
  dsimp only
  repeat' split
  all_goals first | (simp [sayF]; done) | (split <;> simp [sayF])
theorem sdus_at (c : Cfg) (r : RxS) (f : Frm) (hf : f.data.length ≤ 1000) : (at_byr (rxHear c r f).sdus 0).length ≤ 137438953472 := by
  have h := fun y hy => sdus_data (y := y) (c := c) (r := r) hf hy
  generalize (rxHear c r f).sdus = s at h
  cases s with
  | nil => show ([] : List Int).length ≤ _; simp
  | cons y l => rw [at_byr0]; exact h y (List.Mem.head _)
theorem RxP.again {r : RxS} (h : RxP r) (b : Bool) : RxP { r with again := b } := h

/-! laws.FnRxHear -/
def c_laws_FnRxHear : Ent := ctr (α := (List Int)) (ρ := (Bool)) [] [] (rs1 rBytes) (fun x_ => (fun (l : List Int) => (Bytes l)) x_) (fun x_ r_ => (fun x_ => (fun (l : List Int) => ((fun r_ => (fun (r : Bool) => (r = true)) r_))) x_) x_ r_) (fun r_ => (fun (r : Bool) => ([rB.to r])) r_) (fun r_ => (fun (r : Bool) => ([])) r_)
def V_laws_FnRxHear : Env := ⟨tys, [(17, c_spec_RxOk), (18, c_laws_liOk), (23, c_laws_liRx), (24, c_laws_liFrames), (25, c_impl_RxOk), (26, c_laws_liJoin), (39, c_spec_RxHear), (42, c_impl_RxHear), (46, c_spec_DrawRxHear), (47, c_spec_CfgOk), (48, c_spec_FrmOk), (49, c_laws_liSdus), (51, c_impl_SegPut), (52, c_impl_NumNext), (53, c_laws_liBytes)], [], [(3, 0), (4, 1), (5, 2), (6, 3), (9, 4), (13, 5)], [], [], []⟩
end Go.Proofs.YtjladmhjpikdhaaE

/- Calls answer what is promised: LawRx4. Conditions: none. -/
set_option linter.unusedVariables false
set_option maxHeartbeats 1600000
namespace Go.Proofs.YtjladmhjpikdhaaE
open Go
theorem vF_laws_FnRxHear (l : List Int) (K : List Arg → List (List AC) → Prop) (hp : Bytes l) (hk : ∀ (r : Bool), (r = true) → K ([rB.to r]) ([])) :
 if ((decide ((((List.length l) : Nat) : Int) > (1048576 : Int))) = true) then
 ((true = true) ∧
 (K [(aB true)] []))
 else
 ((true = true) ∧
 ((Bytes l) ∧
 (∀ r : (Prod Cfg (Prod RxS Frm)),
 (((Bytes r.snd.fst.join.got) ∧ ((List.length r.snd.fst.join.got) ≤ (1000 : Nat))) ∧ ((Bytes r.snd.snd.data) ∧ ((List.length r.snd.snd.data) ≤ (1000 : Nat)))) →
 (true = true) ∧
 ((true = true) ∧
 (((List.length r.snd.snd.data) ≤ (1000000000 : Nat)) ∧
 (∀ r1 : HearR,
 (r1 = (rxHear r.fst r.snd.fst r.snd.snd)) →
 (true = true) ∧
 ((true = true) ∧
 (((List.length r.snd.snd.data) ≤ (1000000000 : Nat)) ∧
 (∀ r2 : HearR,
 (r2 = (rxHear r.fst r.snd.fst r.snd.snd)) →
 (true = true) ∧
 ((true = true) ∧
 (((List.length r1.r.join.got) ≤ (137438953472 : Nat)) ∧
 (∀ r3 : Bool,
 (r3 = (decide (r1.r = r2.r))) →
 (true = true) ∧
 ((true = true) ∧
 (if ((!r3) = true) then
 ((true = true) ∧
 (K [(aB false)] []))
 else
 ((true = true) ∧
 ((((List.length r1.sdus) ≤ (137438953472 : Nat)) ∧
 (∀ y : (List Int),
 (List.Mem y r1.sdus) →
 ((List.length y) ≤ (137438953472 : Nat)))) ∧
 (∀ r4 : Bool,
 (r4 = (decide (r1.sdus = r2.sdus))) →
 (true = true) ∧
 ((true = true) ∧
 (if ((!r4) = true) then
 ((true = true) ∧
 (K [(aB false)] []))
 else
 ((true = true) ∧
 ((((List.length r1.says) ≤ (137438953472 : Nat)) ∧
 (∀ y : Frm,
 (List.Mem y r1.says) →
 ((List.length y.data) ≤ (137438953472 : Nat)))) ∧
 (∀ r5 : Bool,
 (r5 = (decide (r1.says = r2.says))) →
 (true = true) ∧
 ((true = true) ∧
 (if ((!r5) = true) then
 ((true = true) ∧
 (K [(aB false)] []))
 else
 ((true = true) ∧
 (True ∧
 (∀ r6 : Bool,
 (r6 = (decide (RxP r.snd.fst))) →
 (true = true) ∧
 ((true = true) ∧
 ((true = true) ∧
 (True ∧
 (∀ r7 : Bool,
 (r7 = (decide (RxP r.snd.fst))) →
 (true = true) ∧
 ((true = true) ∧
 (if ((r6 != r7) = true) then
 ((true = true) ∧
 (K [(aB false)] []))
 else
 ((true = true) ∧
 (True ∧
 (∀ r8 : Bool,
 (r8 = (decide (CfgP r.fst))) →
 (true = true) ∧
 (if ((!r8) = true) then
 ((true = true) ∧
 (((List.length r1.r.join.got) ≤ (137438953472 : Nat)) ∧
 (∀ r9 : Bool,
 (r9 = (decide (r1.r = (RxS.mk (0 : Int) (0 : Int) (JoinS.mk (0 : Int) ([] : (List Int))) false false false)))) →
 (true = true) ∧
 (if (r9 = true) then
 (if (((IntKind.wrap IntKind.i64 ((((List.length r1.sdus) : Nat) : Int) + (((List.length r1.says) : Nat) : Int))) == (0 : Int)) = true) then
 ((true = true) ∧
 (True ∧
 (∀ r10 : Bool,
 (r10 = true) →
 (true = true) ∧
 ((true = true) ∧
 (K [(aB r10)] [])))))
 else
 ((true = true) ∧
 (K [(aB false)] [])))
 else
 ((true = true) ∧
 (K [(aB false)] []))))))
 else
 ((true = true) ∧
 (True ∧
 (∀ r9 : Bool,
 (r9 = (decide (RxP r.snd.fst))) →
 (true = true) ∧
 (if ((!r9) = true) then
 ((true = true) ∧
 (((List.length r1.r.join.got) ≤ (137438953472 : Nat)) ∧
 (∀ r10 : Bool,
 (r10 = (decide (r1.r = (RxS.mk (0 : Int) (0 : Int) (JoinS.mk (0 : Int) ([] : (List Int))) false false false)))) →
 (true = true) ∧
 (if (r10 = true) then
 (if (((IntKind.wrap IntKind.i64 ((((List.length r1.sdus) : Nat) : Int) + (((List.length r1.says) : Nat) : Int))) == (0 : Int)) = true) then
 ((true = true) ∧
 (True ∧
 (∀ r11 : Bool,
 (r11 = true) →
 (true = true) ∧
 ((true = true) ∧
 (K [(aB r11)] [])))))
 else
 ((true = true) ∧
 (K [(aB false)] [])))
 else
 ((true = true) ∧
 (K [(aB false)] []))))))
 else
 ((true = true) ∧
 (True ∧
 (∀ r10 : Bool,
 (r10 = (decide (FrmP r.snd.snd))) →
 (true = true) ∧
 (if ((!r10) = true) then
 ((true = true) ∧
 (((List.length r1.r.join.got) ≤ (137438953472 : Nat)) ∧
 (∀ r11 : Bool,
 (r11 = (decide (r1.r = (RxS.mk (0 : Int) (0 : Int) (JoinS.mk (0 : Int) ([] : (List Int))) false false false)))) →
 (true = true) ∧
 (if (r11 = true) then
 (if (((IntKind.wrap IntKind.i64 ((((List.length r1.sdus) : Nat) : Int) + (((List.length r1.says) : Nat) : Int))) == (0 : Int)) = true) then
 ((true = true) ∧
 (True ∧
 (∀ r12 : Bool,
 (r12 = true) →
 (true = true) ∧
 ((true = true) ∧
 (K [(aB r12)] [])))))
 else
 ((true = true) ∧
 (K [(aB false)] [])))
 else
 ((true = true) ∧
 (K [(aB false)] []))))))
 else
 (if ((decide (r.snd.snd.kind ≥ (3 : Int))) = true) then
 ((true = true) ∧
 (((List.length r1.r.join.got) ≤ (137438953472 : Nat)) ∧
 (∀ r11 : Bool,
 (r11 = (decide (r1.r = (RxS.mk (0 : Int) (0 : Int) (JoinS.mk (0 : Int) ([] : (List Int))) false false false)))) →
 (true = true) ∧
 (if (r11 = true) then
 (if (((IntKind.wrap IntKind.i64 ((((List.length r1.sdus) : Nat) : Int) + (((List.length r1.says) : Nat) : Int))) == (0 : Int)) = true) then
 ((true = true) ∧
 (True ∧
 (∀ r12 : Bool,
 (r12 = true) →
 (true = true) ∧
 ((true = true) ∧
 (K [(aB r12)] [])))))
 else
 ((true = true) ∧
 (K [(aB false)] [])))
 else
 ((true = true) ∧
 (K [(aB false)] []))))))
 else
 ((true = true) ∧
 (True ∧
 (∀ r11 : Bool,
 (r11 = (decide (RxP r1.r))) →
 (true = true) ∧
 (if ((!r11) = true) then
 ((true = true) ∧
 (K [(aB false)] []))
 else
 (if ((decide ((((List.length r1.says) : Nat) : Int) > (1 : Int))) = true) then
 ((true = true) ∧
 (K [(aB false)] []))
 else
 (if ((decide ((((List.length r1.sdus) : Nat) : Int) > (1 : Int))) = true) then
 ((true = true) ∧
 (K [(aB false)] []))
 else
 (if ((r.snd.snd.kind == (1 : Int)) = true) then
 (if ((r.snd.snd.seq == r.snd.fst.expect) = true) then
 (if ((!r.snd.fst.busy) = true) then
 (if ((!(!r.snd.fst.dead)) = true) then
 (if ((r1.r.count == r.snd.fst.count) = true) then
 (if ((r1.r.expect == r.snd.fst.expect) = true) then
 ((true = true) ∧
 (((List.length r1.r.join.got) ≤ (137438953472 : Nat)) ∧
 (∀ r12 : Bool,
 (r12 = (decide (r1.r.join = r.snd.fst.join))) →
 (true = true) ∧
 (if (r12 = true) then
 (if (((((List.length r1.sdus) : Nat) : Int) == (0 : Int)) = true) then
 ((true = true) ∧
 (K [(aB (r1.r.dead == r.snd.fst.dead))] []))
 else
 ((true = true) ∧
 (K [(aB false)] [])))
 else
 ((true = true) ∧
 (K [(aB false)] []))))))
 else
 ((true = true) ∧
 (K [(aB false)] [])))
 else
 ((true = true) ∧
 (K [(aB false)] [])))
 else
 ((true = true) ∧
 (((List.length r.snd.snd.data) ≤ (1000000000 : Nat)) ∧
 (∀ r12 : PutR,
 (r12 = (segPut2 r.snd.fst.join (Part.mk r.snd.snd.seg r.snd.snd.len r.snd.snd.data))) →
 (true = true) ∧
 (if ((decide (r.snd.snd.len > r.fst.mtu)) = true) then
 (if (r1.r.dead = true) then
 ((true = true) ∧
 (K [(aB ((((List.length r1.sdus) : Nat) : Int) == (0 : Int)))] []))
 else
 ((true = true) ∧
 (K [(aB false)] [])))
 else
 (if ((decide ((((List.length r.snd.snd.data) : Nat) : Int) > r.fst.mps)) = true) then
 (if (r1.r.dead = true) then
 ((true = true) ∧
 (K [(aB ((((List.length r1.sdus) : Nat) : Int) == (0 : Int)))] []))
 else
 ((true = true) ∧
 (K [(aB false)] [])))
 else
 (if ((r.snd.fst.count == (9999 : Int)) = true) then
 (if (r1.r.dead = true) then
 ((true = true) ∧
 (K [(aB ((((List.length r1.sdus) : Nat) : Int) == (0 : Int)))] []))
 else
 ((true = true) ∧
 (K [(aB false)] [])))
 else
 (if ((r12.how == (3 : Int)) = true) then
 (if (r1.r.dead = true) then
 ((true = true) ∧
 (K [(aB ((((List.length r1.sdus) : Nat) : Int) == (0 : Int)))] []))
 else
 ((true = true) ∧
 (K [(aB false)] [])))
 else
 (if ((r1.r.count != (IntKind.wrap IntKind.i64 (r.snd.fst.count + (1 : Int)))) = true) then
 ((true = true) ∧
 (K [(aB false)] []))
 else
 ((true = true) ∧
 ((((0 : Int) ≤ r.snd.fst.expect) ∧
 (r.snd.fst.expect ≤ (100000 : Int))) ∧
 (∀ r13 : Int,
 (r13 = ((r.snd.fst.expect + (1 : Int)) % (8 : Int))) →
 (true = true) ∧
 ((true = true) ∧
 (if ((r1.r.expect != r13) = true) then
 ((true = true) ∧
 (K [(aB false)] []))
 else
 ((true = true) ∧
 (((List.length r1.r.join.got) ≤ (137438953472 : Nat)) ∧
 (∀ r14 : Bool,
 (r14 = (decide (r1.r.join = r12.j))) →
 (true = true) ∧
 ((true = true) ∧
 (if ((!r14) = true) then
 ((true = true) ∧
 (K [(aB false)] []))
 else
 (if (((r12.how == (2 : Int)) == ((((List.length r1.sdus) : Nat) : Int) == (1 : Int))) = true) then
 (if (((((List.length r1.sdus) : Nat) : Int) == (0 : Int)) = true) then
 ((true = true) ∧
 (K [(aB true)] []))
 else
 ((((0 : Int) ≤ (0 : Int)) ∧
 ((0 : Int) < (((List.length r1.sdus) : Nat) : Int))) ∧
 ((true = true) ∧
 ((((List.length (at_byr r1.sdus (0 : Nat))) ≤ (137438953472 : Nat)) ∧
 True) ∧
 (∀ r15 : Bool,
 (r15 = (decide ((at_byr r1.sdus (0 : Nat)) = r12.sdu))) →
 (true = true) ∧
 ((true = true) ∧
 (K [(aB r15)] [])))))))
 else
 ((true = true) ∧
 (K [(aB false)] []))))))))))))))))))))))
 else
 (if ((r1.r.count == r.snd.fst.count) = true) then
 (if ((r1.r.expect == r.snd.fst.expect) = true) then
 ((true = true) ∧
 (((List.length r1.r.join.got) ≤ (137438953472 : Nat)) ∧
 (∀ r12 : Bool,
 (r12 = (decide (r1.r.join = r.snd.fst.join))) →
 (true = true) ∧
 (if (r12 = true) then
 (if (((((List.length r1.sdus) : Nat) : Int) == (0 : Int)) = true) then
 ((true = true) ∧
 (K [(aB (r1.r.dead == r.snd.fst.dead))] []))
 else
 ((true = true) ∧
 (K [(aB false)] [])))
 else
 ((true = true) ∧
 (K [(aB false)] []))))))
 else
 ((true = true) ∧
 (K [(aB false)] [])))
 else
 ((true = true) ∧
 (K [(aB false)] []))))
 else
 (if ((r1.r.count == r.snd.fst.count) = true) then
 (if ((r1.r.expect == r.snd.fst.expect) = true) then
 ((true = true) ∧
 (((List.length r1.r.join.got) ≤ (137438953472 : Nat)) ∧
 (∀ r12 : Bool,
 (r12 = (decide (r1.r.join = r.snd.fst.join))) →
 (true = true) ∧
 (if (r12 = true) then
 (if (((((List.length r1.sdus) : Nat) : Int) == (0 : Int)) = true) then
 ((true = true) ∧
 (K [(aB (r1.r.dead == r.snd.fst.dead))] []))
 else
 ((true = true) ∧
 (K [(aB false)] [])))
 else
 ((true = true) ∧
 (K [(aB false)] []))))))
 else
 ((true = true) ∧
 (K [(aB false)] [])))
 else
 ((true = true) ∧
 (K [(aB false)] []))))
 else
 (if ((r1.r.count == r.snd.fst.count) = true) then
 (if ((r1.r.expect == r.snd.fst.expect) = true) then
 ((true = true) ∧
 (((List.length r1.r.join.got) ≤ (137438953472 : Nat)) ∧
 (∀ r12 : Bool,
 (r12 = (decide (r1.r.join = r.snd.fst.join))) →
 (true = true) ∧
 (if (r12 = true) then
 (if (((((List.length r1.sdus) : Nat) : Int) == (0 : Int)) = true) then
 ((true = true) ∧
 (K [(aB (r1.r.dead == r.snd.fst.dead))] []))
 else
 ((true = true) ∧
 (K [(aB false)] [])))
 else
 ((true = true) ∧
 (K [(aB false)] []))))))
 else
 ((true = true) ∧
 (K [(aB false)] [])))
 else
 ((true = true) ∧
 (K [(aB false)] [])))))))))))))))))))))))))))))))))))))))))))))))))))))))) := by
  repeat' first
    | exact rfl
    | exact True.intro
    | with_reducible apply And.intro
    | (with_reducible intro y_ hy_; subst hy_)
    | with_reducible intro y_
    | (refine iteI (fun h => ?_) (fun h => ?_))
  all_goals try simp only [Bool.not_eq_true', decide_eq_false_iff_not, decide_eq_true_eq, Bool.not_eq_true, bne_iff_ne, beq_iff_eq, ne_eq, Decidable.not_not, Bool.not_eq_false, gt_iff_lt, ge_iff_le, Int.not_le, Int.not_lt, beq_eq_false_iff_ne, bne_eq_false_iff_eq, Bool.and_eq_true, Bool.or_eq_true, Bool.true_eq_false, Bool.false_eq_true] at *
  all_goals try simp (disch := first | omega | grind [at_byr0, hear_no, hear_law, kind12, rxHear1, rxData, rxTake, segPut2, PartP, segPut, RxP, FrmP, JoinP, SegP, CfgP, RxIn, zRx, zJoin]) only [wr] at *
  all_goals first
    | assumption
    | omega
    | exact Nat.le_trans (sdus_len _ _ _) (by decide)
    | (refine sdus_data ?_ ‹List.Mem _ _›; omega)
    | (refine hear_join _ _ _ ?_; omega)
    | exact Nat.le_trans (says_one _ _ _).1 (by decide)
    | exact (says_one _ _ _).2 _ ‹List.Mem _ _›
    | (refine sdus_at _ _ _ ?_; omega)
    | (exfalso; simp at h; done)
    | exact hk _ (by grind [at_byr0, hear_no, hear_law, kind12, rxHear1, rxData, rxTake, segPut2, PartP, segPut, RxP, FrmP, JoinP, SegP, CfgP, RxIn, zRx, zJoin])
    | (simp only [LIM] at *; omega)
    | grind [at_byr0, hear_no, hear_law, kind12, rxHear1, rxData, rxTake, segPut2, PartP, segPut, RxP, FrmP, JoinP, SegP, CfgP, RxIn, zRx, zJoin, LIM]
theorem w_laws_FnRxHear : Valid Try.prog 12 c_laws_FnRxHear :=
  valid_ctr2 (V := V_laws_FnRxHear) (tysB_ok tys_ok) (CallsL.cons w_spec_RxOk (CallsL.cons w_laws_liOk (CallsL.cons w_laws_liRx (CallsL.cons w_laws_liFrames (CallsL.cons w_impl_RxOk (CallsL.cons w_laws_liJoin (CallsL.cons w_spec_RxHear (CallsL.cons w_impl_RxHear (CallsL.cons w_spec_DrawRxHear (CallsL.cons w_spec_CfgOk (CallsL.cons w_spec_FrmOk (CallsL.cons w_laws_liSdus (CallsL.cons w_impl_SegPut (CallsL.cons w_impl_NumNext (CallsL.cons w_laws_liBytes (CallsL.nil _)))))))))))))))) mixed 0 6 Try.func12 rfl (by kernel_rfl)
    (fun c hc => by
      obtain rfl := Option.some.inj hc
      exact ⟨trivial, ⟨⟨trivial, ⟨⟨trivial, trivial⟩, trivial⟩⟩, ⟨trivial, ⟨trivial, ⟨trivial, ⟨⟨trivial, ⟨⟨trivial, trivial⟩, trivial⟩⟩, ⟨⟨trivial, ⟨⟨trivial, trivial⟩, trivial⟩⟩, ⟨⟨trivial, ⟨⟨trivial, trivial⟩, trivial⟩⟩, ⟨trivial, ⟨⟨trivial, ⟨⟨trivial, trivial⟩, trivial⟩⟩, ⟨trivial, ⟨⟨trivial, ⟨⟨trivial, trivial⟩, trivial⟩⟩, ⟨⟨trivial, ⟨⟨trivial, trivial⟩, trivial⟩⟩, ⟨⟨trivial, ⟨⟨trivial, trivial⟩, trivial⟩⟩, ⟨trivial, trivial⟩⟩⟩⟩⟩⟩⟩⟩⟩⟩⟩⟩⟩⟩⟩)
    (fun x K hp hk => ⟨_, by kernel_rfl, vF_laws_FnRxHear x K hp (fun r h => hk r h)⟩)
end Go.Proofs.YtjladmhjpikdhaaE
