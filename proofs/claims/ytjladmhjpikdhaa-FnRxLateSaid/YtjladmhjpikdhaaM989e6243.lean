/- A part of the proof of laws of the program: what calls of the program answer. Conditions: none. -/
import Derived.Test.YtjladmhjpikdhaaM62e6bf53
set_option linter.unusedVariables false
set_option linter.unusedSimpArgs false
set_option linter.unusedSectionVars false
/- Contracts: LawRx3. Conditions: none. -/
set_option linter.unusedVariables false
set_option maxHeartbeats 1600000
namespace Go.Proofs.YtjladmhjpikdhaaE
open Go
theorem at_frm0 (x : Frm) (l : List Frm) : at_frm (x :: l) 0 = x := rfl
theorem at_byr0 (x : List Int) (l : List (List Int)) : at_byr (x :: l) 0 = x := rfl
theorem sdus_len (c : Cfg) (r : RxS) (f : Frm) : (rxHear c r f).sdus.length ≤ 1 := by
  unfold rxHear
  split
  · exact (hear_got c r f).2.1
  · simp
theorem sdus_data {c : Cfg} {r : RxS} {f : Frm} {y : List Int} (hf : f.data.length ≤ 1000) (h : List.Mem y (rxHear c r f).sdus) : y.length ≤ 137438953472 := by
  unfold rxHear at h
  split at h
  · exact hear_len ‹_› (by omega) h
  · cases h
theorem hear_join (c : Cfg) (r : RxS) (f : Frm) (hf : f.data.length ≤ 1000) : (rxHear c r f).r.join.got.length ≤ 137438953472 := by
  unfold rxHear
  split
  · rename_i h
    have := (hear_got c r f).1
    have := h.got
    omega
  · simp [zRx, zJoin]
theorem rx_twice2 {c : Cfg} {r : RxS} {f : Frm} (h1 : CfgP c) (h2 : RxP r) (h3 : FrmP f) (hk : f.kind = 1) (hc : (rxHear c r f).r.count = r.count + 1) :
    rxHear c (rxHear c r f).r f = ⟨(rxHear c r f).r, [], []⟩ ∧ (rxHear c r f).r.dead = false := rx_twice ⟨h1, h2, h3, .inl hk⟩ hk hc
theorem late_seq {c : Cfg} {r : RxS} {n : Nat} (hc : CfgP c) (hr : RxP r) (hn : n ≤ 1048576) :
    Int.tmod (IntKind.wrap .i64 (r.expect + 8 - IntKind.wrap .i64 (1 + Int.tmod (n : Int) (8 - c.win)))) 8 = (r.expect + 8 - (1 + (n : Int) % (8 - c.win))) % 8 := by
  obtain ⟨_, _, h1, h2, _⟩ := hc
  obtain ⟨⟨h3, h4⟩, _⟩ := hr
  rw [Int.tmod_eq_emod_of_nonneg (by omega : (0 : Int) ≤ (n : Int))]
  have a1 := Int.emod_nonneg (n : Int) (show 8 - c.win ≠ 0 by omega)
  have a2 := Int.emod_lt_of_pos (n : Int) (show 0 < 8 - c.win by omega)
  rw [wr (x := 1 + (n : Int) % (8 - c.win)) (by omega) (by omega), wr (by omega) (by omega), Int.tmod_eq_emod_of_nonneg (by omega)]
theorem late_run {c : Cfg} {r : RxS} {f : Frm} (n : Nat) (hc : CfgP c) (hr : RxP r) (hf : FrmP f) (hk : f.kind = 1) (hb : r.busy = false) :
    rxHear c r ⟨f.kind, (r.expect + 8 - (1 + (n : Int) % (8 - c.win))) % 8, f.ack, f.poll, f.final, f.say, f.seg, f.len, f.data⟩ = ⟨r, [], []⟩ := by
  obtain ⟨_, _, h1, h2, _⟩ := id hc
  have a1 := Int.emod_nonneg (n : Int) (show 8 - c.win ≠ 0 by omega)
  have a2 := Int.emod_lt_of_pos (n : Int) (show 0 < 8 - c.win by omega)
  exact rx_late (b := 1 + (n : Int) % (8 - c.win)) hc hr (hf.seq hk (s := (r.expect + 8 - (1 + (n : Int) % (8 - c.win))) % 8) (by omega) (by omega)) hk hb (by omega) (by omega) rfl
theorem count_wr {r : RxS} (h : RxP r) : IntKind.wrap .i64 (r.count + 1) = r.count + 1 := by
  unfold RxP at h
  exact wr (by omega) (by omega)

/-! laws.FnRxTwice -/
def c_laws_FnRxTwice : Ent := ctr (α := (List Int)) (ρ := (Bool)) [] [] (rs1 rBytes) (fun x_ => (fun (l : List Int) => (Bytes l)) x_) (fun x_ r_ => (fun x_ => (fun (l : List Int) => ((fun r_ => (fun (r : Bool) => (r = true)) r_))) x_) x_ r_) (fun r_ => (fun (r : Bool) => ([rB.to r])) r_) (fun r_ => (fun (r : Bool) => ([])) r_)
def V_laws_FnRxTwice : Env := ⟨tys, [(17, c_spec_RxOk), (18, c_laws_liOk), (26, c_laws_liJoin), (39, c_spec_RxHear), (42, c_impl_RxHear), (46, c_spec_DrawRxHear), (47, c_spec_CfgOk), (48, c_spec_FrmOk), (49, c_laws_liSdus)], [], [(3, 0), (4, 1), (5, 2), (6, 3), (9, 4), (12, 5)], [], [], []⟩
/-! laws.FnRxLate -/
def c_laws_FnRxLate : Ent := ctr (α := (List Int)) (ρ := (Bool)) [] [] (rs1 rBytes) (fun x_ => (fun (l : List Int) => (Bytes l)) x_) (fun x_ r_ => (fun x_ => (fun (l : List Int) => ((fun r_ => (fun (r : Bool) => (r = true)) r_))) x_) x_ r_) (fun r_ => (fun (r : Bool) => ([rB.to r])) r_) (fun r_ => (fun (r : Bool) => ([])) r_)
def V_laws_FnRxLate : Env := ⟨tys, [(17, c_spec_RxOk), (18, c_laws_liOk), (23, c_laws_liRx), (39, c_spec_RxHear), (42, c_impl_RxHear), (46, c_spec_DrawRxHear), (47, c_spec_CfgOk), (48, c_spec_FrmOk)], [], [(3, 0), (4, 1), (5, 2), (6, 3), (9, 4), (13, 5)], [], [], []⟩
end Go.Proofs.YtjladmhjpikdhaaE

/- Calls answer what is promised: LawRx3. Conditions: none. -/
set_option linter.unusedVariables false
set_option maxHeartbeats 1600000
namespace Go.Proofs.YtjladmhjpikdhaaE
open Go
theorem vF_laws_FnRxTwice (l : List Int) (K : List Arg → List (List AC) → Prop) (hp : Bytes l) (hk : ∀ (r : Bool), (r = true) → K ([rB.to r]) ([])) :
 if ((decide ((((List.length l) : Nat) : Int) > (1048576 : Int))) = true) then
 ((true = true) ∧
 (K [(aB true)] []))
 else
 ((true = true) ∧
 ((Bytes l) ∧
 (∀ r : (Prod Cfg (Prod RxS Frm)),
 (((Bytes r.snd.fst.join.got) ∧ ((List.length r.snd.fst.join.got) ≤ (1000 : Nat))) ∧ ((Bytes r.snd.snd.data) ∧ ((List.length r.snd.snd.data) ≤ (1000 : Nat)))) →
 (true = true) ∧
 ((true = true) ∧
 (((List.length r.snd.snd.data) ≤ (1000000000 : Nat)) ∧
 (∀ r1 : HearR,
 (r1 = (rxHear r.fst r.snd.fst r.snd.snd)) →
 (true = true) ∧
 ((true = true) ∧
 (((List.length r.snd.snd.data) ≤ (1000000000 : Nat)) ∧
 (∀ r2 : HearR,
 (r2 = (rxHear r.fst r.snd.fst r.snd.snd)) →
 (true = true) ∧
 ((true = true) ∧
 ((((List.length r1.sdus) ≤ (137438953472 : Nat)) ∧
 (∀ y : (List Int),
 (List.Mem y r1.sdus) →
 ((List.length y) ≤ (137438953472 : Nat)))) ∧
 (∀ r3 : Bool,
 (r3 = (decide (r1.sdus = r2.sdus))) →
 (true = true) ∧
 (if ((!r3) = true) then
 ((true = true) ∧
 (K [(aB false)] []))
 else
 ((true = true) ∧
 (True ∧
 (∀ r4 : Bool,
 (r4 = (decide (CfgP r.fst))) →
 (true = true) ∧
 (if ((!r4) = true) then
 ((true = true) ∧
 (True ∧
 (∀ r5 : Bool,
 (r5 = true) →
 (true = true) ∧
 ((true = true) ∧
 (K [(aB r5)] [])))))
 else
 ((true = true) ∧
 (True ∧
 (∀ r5 : Bool,
 (r5 = (decide (RxP r.snd.fst))) →
 (true = true) ∧
 (if ((!r5) = true) then
 ((true = true) ∧
 (True ∧
 (∀ r6 : Bool,
 (r6 = true) →
 (true = true) ∧
 ((true = true) ∧
 (K [(aB r6)] [])))))
 else
 ((true = true) ∧
 (True ∧
 (∀ r6 : Bool,
 (r6 = (decide (FrmP r.snd.snd))) →
 (true = true) ∧
 (if ((!r6) = true) then
 ((true = true) ∧
 (True ∧
 (∀ r7 : Bool,
 (r7 = true) →
 (true = true) ∧
 ((true = true) ∧
 (K [(aB r7)] [])))))
 else
 (if ((r.snd.snd.kind != (1 : Int)) = true) then
 ((true = true) ∧
 (True ∧
 (∀ r7 : Bool,
 (r7 = true) →
 (true = true) ∧
 ((true = true) ∧
 (K [(aB r7)] [])))))
 else
 (if ((r1.r.count != (IntKind.wrap IntKind.i64 (r.snd.fst.count + (1 : Int)))) = true) then
 ((true = true) ∧
 (True ∧
 (∀ r7 : Bool,
 (r7 = true) →
 (true = true) ∧
 ((true = true) ∧
 (K [(aB r7)] [])))))
 else
 ((true = true) ∧
 (((List.length r.snd.snd.data) ≤ (1000000000 : Nat)) ∧
 (∀ r7 : HearR,
 (r7 = (rxHear r.fst r1.r r.snd.snd)) →
 (true = true) ∧
 (if ((r7.r.count == r1.r.count) = true) then
 (if (((((List.length r7.sdus) : Nat) : Int) == (0 : Int)) = true) then
 ((true = true) ∧
 (((List.length r7.r.join.got) ≤ (137438953472 : Nat)) ∧
 (∀ r8 : Bool,
 (r8 = (decide (r7.r.join = r1.r.join))) →
 (true = true) ∧
 (if (r8 = true) then
 ((true = true) ∧
 (K [(aB (!r7.r.dead))] []))
 else
 ((true = true) ∧
 (K [(aB false)] []))))))
 else
 ((true = true) ∧
 (K [(aB false)] [])))
 else
 ((true = true) ∧
 (K [(aB false)] []))))))))))))))))))))))))))))))))) := by
  repeat' first
    | exact rfl
    | exact True.intro
    | with_reducible apply And.intro
    | (with_reducible intro y_ hy_; subst hy_)
    | with_reducible intro y_
    | (refine iteI (fun h => ?_) (fun h => ?_))
  all_goals try simp only [Bool.not_eq_true', decide_eq_false_iff_not, decide_eq_true_eq, Bool.not_eq_true, bne_iff_ne, beq_iff_eq, ne_eq, Decidable.not_not, Bool.not_eq_false, gt_iff_lt, ge_iff_le, Int.not_le, Int.not_lt, beq_eq_false_iff_ne, bne_eq_false_iff_eq, Bool.and_eq_true, Bool.or_eq_true, Bool.true_eq_false, Bool.false_eq_true] at *
  all_goals try simp (disch := first | omega | grind [at_frm0, RxP, FrmP, JoinP, SegP, CfgP, RxIn, zRx, zJoin, rx_twice2, rx_late]) only [wr] at *
  all_goals first
    | assumption
    | omega
    | exact Nat.le_trans (sdus_len _ _ _) (by decide)
    | (refine sdus_data ?_ ‹List.Mem _ _›; omega)
    | (refine hear_join _ _ _ ?_; omega)
    | (exfalso; simp at h; done)
    | exact hk _ (by grind [at_frm0, RxP, FrmP, JoinP, SegP, CfgP, RxIn, zRx, zJoin, rx_twice2, rx_late])
    | (simp only [LIM] at *; omega)
    | grind [at_frm0, RxP, FrmP, JoinP, SegP, CfgP, RxIn, zRx, zJoin, rx_twice2, rx_late, LIM]
theorem w_laws_FnRxTwice : Valid Try.prog 10 c_laws_FnRxTwice :=
  valid_ctr2 (V := V_laws_FnRxTwice) (tysB_ok tys_ok) (CallsL.cons w_spec_RxOk (CallsL.cons w_laws_liOk (CallsL.cons w_laws_liJoin (CallsL.cons w_spec_RxHear (CallsL.cons w_impl_RxHear (CallsL.cons w_spec_DrawRxHear (CallsL.cons w_spec_CfgOk (CallsL.cons w_spec_FrmOk (CallsL.cons w_laws_liSdus (CallsL.nil _)))))))))) mixed 0 6 Try.func10 rfl (by kernel_rfl)
    (fun c hc => by
      obtain rfl := Option.some.inj hc
      exact ⟨trivial, ⟨⟨trivial, ⟨⟨trivial, trivial⟩, trivial⟩⟩, ⟨trivial, ⟨trivial, ⟨trivial, ⟨⟨trivial, ⟨⟨trivial, trivial⟩, trivial⟩⟩, ⟨⟨trivial, ⟨⟨trivial, trivial⟩, trivial⟩⟩, ⟨trivial, ⟨trivial, trivial⟩⟩⟩⟩⟩⟩⟩⟩⟩)
    (fun x K hp hk => ⟨_, by kernel_rfl, vF_laws_FnRxTwice x K hp (fun r h => hk r h)⟩)
theorem vF_laws_FnRxLate (l : List Int) (K : List Arg → List (List AC) → Prop) (hp : Bytes l) (hk : ∀ (r : Bool), (r = true) → K ([rB.to r]) ([])) :
 if ((decide ((((List.length l) : Nat) : Int) > (1048576 : Int))) = true) then
 ((true = true) ∧
 (K [(aB true)] []))
 else
 ((true = true) ∧
 ((Bytes l) ∧
 (∀ r : (Prod Cfg (Prod RxS Frm)),
 (((Bytes r.snd.fst.join.got) ∧ ((List.length r.snd.fst.join.got) ≤ (1000 : Nat))) ∧ ((Bytes r.snd.snd.data) ∧ ((List.length r.snd.snd.data) ≤ (1000 : Nat)))) →
 (true = true) ∧
 ((true = true) ∧
 (((List.length r.snd.snd.data) ≤ (1000000000 : Nat)) ∧
 (∀ r1 : HearR,
 (r1 = (rxHear r.fst r.snd.fst r.snd.snd)) →
 (true = true) ∧
 ((true = true) ∧
 (((List.length r.snd.snd.data) ≤ (1000000000 : Nat)) ∧
 (∀ r2 : HearR,
 (r2 = (rxHear r.fst r.snd.fst r.snd.snd)) →
 (true = true) ∧
 ((true = true) ∧
 (((List.length r1.r.join.got) ≤ (137438953472 : Nat)) ∧
 (∀ r3 : Bool,
 (r3 = (decide (r1.r = r2.r))) →
 (true = true) ∧
 (if ((!r3) = true) then
 ((true = true) ∧
 (K [(aB false)] []))
 else
 ((true = true) ∧
 (True ∧
 (∀ r4 : Bool,
 (r4 = (decide (CfgP r.fst))) →
 (true = true) ∧
 (if ((!r4) = true) then
 ((true = true) ∧
 (True ∧
 (∀ r5 : Bool,
 (r5 = true) →
 (true = true) ∧
 ((true = true) ∧
 (K [(aB r5)] [])))))
 else
 ((true = true) ∧
 (True ∧
 (∀ r5 : Bool,
 (r5 = (decide (RxP r.snd.fst))) →
 (true = true) ∧
 (if ((!r5) = true) then
 ((true = true) ∧
 (True ∧
 (∀ r6 : Bool,
 (r6 = true) →
 (true = true) ∧
 ((true = true) ∧
 (K [(aB r6)] [])))))
 else
 ((true = true) ∧
 (True ∧
 (∀ r6 : Bool,
 (r6 = (decide (FrmP r.snd.snd))) →
 (true = true) ∧
 (if ((!r6) = true) then
 ((true = true) ∧
 (True ∧
 (∀ r7 : Bool,
 (r7 = true) →
 (true = true) ∧
 ((true = true) ∧
 (K [(aB r7)] [])))))
 else
 (if ((r.snd.snd.kind != (1 : Int)) = true) then
 ((true = true) ∧
 (True ∧
 (∀ r7 : Bool,
 (r7 = true) →
 (true = true) ∧
 ((true = true) ∧
 (K [(aB r7)] [])))))
 else
 (if (r.snd.fst.busy = true) then
 ((true = true) ∧
 (True ∧
 (∀ r7 : Bool,
 (r7 = true) →
 (true = true) ∧
 ((true = true) ∧
 (K [(aB r7)] [])))))
 else
 (((IntKind.wrap IntKind.i64 ((8 : Int) - r.fst.win)) ≠ (0 : Int)) ∧
 (((8 : Int) ≠ (0 : Int)) ∧
 ((true = true) ∧
 (((List.length r.snd.snd.data) ≤ (1000000000 : Nat)) ∧
 (∀ r7 : HearR,
 (r7 = (rxHear r.fst r.snd.fst (Frm.mk r.snd.snd.kind (Int.tmod (IntKind.wrap IntKind.i64 ((IntKind.wrap IntKind.i64 (r.snd.fst.expect + (8 : Int))) - (IntKind.wrap IntKind.i64 ((1 : Int) + (Int.tmod (((List.length l) : Nat) : Int) (IntKind.wrap IntKind.i64 ((8 : Int) - r.fst.win))))))) (8 : Int)) r.snd.snd.ack r.snd.snd.poll r.snd.snd.final r.snd.snd.say r.snd.snd.seg r.snd.snd.len r.snd.snd.data))) →
 (true = true) ∧
 ((true = true) ∧
 (((List.length r7.r.join.got) ≤ (137438953472 : Nat)) ∧
 (∀ r8 : Bool,
 (r8 = (decide (r7.r = r.snd.fst))) →
 (true = true) ∧
 (if (r8 = true) then
 ((true = true) ∧
 (K [(aB ((IntKind.wrap IntKind.i64 ((((List.length r7.sdus) : Nat) : Int) + (((List.length r7.says) : Nat) : Int))) == (0 : Int)))] []))
 else
 ((true = true) ∧
 (K [(aB false)] [])))))))))))))))))))))))))))))))))))))) := by
  repeat' first
    | exact rfl
    | exact True.intro
    | with_reducible apply And.intro
    | (with_reducible intro y_ hy_; subst hy_)
    | with_reducible intro y_
    | (refine iteI (fun h => ?_) (fun h => ?_))
  all_goals try simp only [Bool.not_eq_true', decide_eq_false_iff_not, decide_eq_true_eq, Bool.not_eq_true, bne_iff_ne, beq_iff_eq, ne_eq, Decidable.not_not, Bool.not_eq_false, gt_iff_lt, ge_iff_le, Int.not_le, Int.not_lt, beq_eq_false_iff_ne, bne_eq_false_iff_eq, Bool.and_eq_true, Bool.or_eq_true, Bool.true_eq_false, Bool.false_eq_true] at *
  all_goals try simp (disch := first | omega | grind [RxP, CfgP, IntKind.wrap_i64]) only [wr] at *
  all_goals try have h7 := late_seq (n := l.length) ‹CfgP _› ‹RxP _› (by omega)
  all_goals try have h8 := late_run l.length ‹CfgP _› ‹RxP _› ‹FrmP _› (by assumption) (by assumption)
  all_goals try rw [h7, h8]
  all_goals try rw [h7, h8] at h
  all_goals first
    | assumption
    | omega
    | exact Nat.le_trans (sdus_len _ _ _) (by decide)
    | (refine sdus_data ?_ ‹List.Mem _ _›; omega)
    | (refine hear_join _ _ _ ?_; omega)
    | (exfalso; simp at h; done)
    | exact hk _ (by grind [RxP, CfgP, IntKind.wrap_i64])
    | (simp only [LIM] at *; omega)
    | grind [RxP, CfgP, IntKind.wrap_i64, LIM]
theorem w_laws_FnRxLate : Valid Try.prog 8 c_laws_FnRxLate :=
  valid_ctr2 (V := V_laws_FnRxLate) (tysB_ok tys_ok) (CallsL.cons w_spec_RxOk (CallsL.cons w_laws_liOk (CallsL.cons w_laws_liRx (CallsL.cons w_spec_RxHear (CallsL.cons w_impl_RxHear (CallsL.cons w_spec_DrawRxHear (CallsL.cons w_spec_CfgOk (CallsL.cons w_spec_FrmOk (CallsL.nil _))))))))) mixed 0 6 Try.func8 rfl (by kernel_rfl)
    (fun c hc => by
      obtain rfl := Option.some.inj hc
      exact ⟨trivial, ⟨⟨trivial, ⟨⟨trivial, trivial⟩, trivial⟩⟩, ⟨trivial, ⟨trivial, ⟨trivial, ⟨⟨trivial, ⟨⟨trivial, trivial⟩, trivial⟩⟩, ⟨⟨trivial, ⟨⟨trivial, trivial⟩, trivial⟩⟩, ⟨trivial, ⟨trivial, ⟨trivial, ⟨trivial, trivial⟩⟩⟩⟩⟩⟩⟩⟩⟩⟩⟩)
    (fun x K hp hk => ⟨_, by kernel_rfl, vF_laws_FnRxLate x K hp (fun r h => hk r h)⟩)
end Go.Proofs.YtjladmhjpikdhaaE
