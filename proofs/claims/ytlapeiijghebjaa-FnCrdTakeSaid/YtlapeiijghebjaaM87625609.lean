/- A part of the proof of laws of the program: what calls of the program answer. Conditions: none. -/
import Derived.Test.YtlapeiijghebjaaM0dcf98da
set_option linter.unusedVariables false
set_option linter.unusedSimpArgs false
set_option linter.unusedSectionVars false
/- Contracts: LawCrd2. Conditions: none. -/
set_option linter.unusedVariables false
set_option maxHeartbeats 1600000
namespace Go.Proofs.YtlapeiijghebjaaE
open Go
def QBd (t : CtS) : Prop := t.queue.length ≤ 1000 ∧ ∀ p ∈ t.queue, p.data.length ≤ 200
theorem QBd.z : QBd zCt := ⟨by simp [zCt], fun p h => by simp [zCt] at h⟩
theorem QBd.len {t : CtS} (h : QBd t) : t.queue.length ≤ 137438953472 := Nat.le_trans h.1 (by decide)
theorem QBd.data {t : CtS} (h : QBd t) : ∀ p, List.Mem p t.queue → p.data.length ≤ 137438953472 := fun p hp => Nat.le_trans (h.2 p hp) (by decide)
theorem take_bd {c : Cfg} {t : CtS} {n : Int} (h : QBd t) : QBd (crdTake c t n) := by
  unfold crdTake
  split
  · split
    · exact h
    · split <;> exact h
  · exact QBd.z
theorem put_bd {c : Cfg} {t : CtS} {s : List Int} (h : QBd t) (hs : t.queue.length ≤ 30) : QBd (crdPut c t s).t := by
  unfold crdPut
  split
  · split
    · exact h
    · rename_i hn
      refine ⟨?_, fun p hp => ?_⟩
      · show (t.queue ++ segCut s c.mps).length ≤ 1000
        have := segCut_len s c.mps
        rw [List.length_append]; omega
      · rcases List.mem_append.1 hp with hp | hp
        · exact h.2 p hp
        · exact Nat.le_trans (segCut_data _ _ p hp) (by decide)
  · exact QBd.z
theorem send_bd {c : Cfg} {t : CtS} (h : QBd t) : QBd (crdSend c t).t := by
  unfold crdSend
  split
  · split
    · exact h
    · refine ⟨?_, fun p hp => h.2 p (List.mem_of_mem_drop hp)⟩
      show (t.queue.drop 1).length ≤ 1000
      have := h.1
      rw [List.length_drop]; omega
  · exact QBd.z
theorem QBd.of {t : CtS} (h : t.queue.length ≤ 30 ∧ ∀ p ∈ t.queue, p.data.length ≤ 200) : QBd t := ⟨by omega, h.2⟩
theorem take_no {c : Cfg} {t : CtS} {n : Int} (h : ¬ CtP c t ∨ n < 1 ∨ 255 < n) : crdTake c t n = zCt := by unfold crdTake; rw [if_neg (fun hc => by rcases h with h | h | h; exact h hc.1; omega; omega)]
theorem take_dead {c : Cfg} {t : CtS} {n : Int} (h : CtP c t) (h1 : 1 ≤ n) (h2 : n ≤ 255) (hd : t.dead = true) : crdTake c t n = t := by unfold crdTake; rw [if_pos ⟨h, h1, h2⟩, if_pos hd]
theorem take_over {c : Cfg} {t : CtS} {n : Int} (h : CtP c t) (h1 : 1 ≤ n) (h2 : n ≤ 255) (hd : t.dead = false) (ho : 255 < t.have_ + n ∨ 9999 < t.granted + n) : crdTake c t n = { t with dead := true } := by
  unfold crdTake; rw [if_pos ⟨h, h1, h2⟩, if_neg (by simp [hd]), if_pos (by omega)]
theorem take_yes {c : Cfg} {t : CtS} {n : Int} (h : CtP c t) (h1 : 1 ≤ n) (h2 : n ≤ 255) (hd : t.dead = false) (ho : t.have_ + n ≤ 255) (hg : t.granted + n ≤ 9999) : crdTake c t n = ⟨t.have_ + n, t.queue, t.granted + n, t.sent, t.dead⟩ ∧ CtP c (crdTake c t n) := by
  have e : crdTake c t n = ⟨t.have_ + n, t.queue, t.granted + n, t.sent, t.dead⟩ := by
    unfold crdTake; rw [if_pos ⟨h, h1, h2⟩, if_neg (by simp [hd]), if_neg (by omega)]
  rw [e]
  obtain ⟨a1, a2, a3, a4, a5, a6, a7⟩ := h
  refine ⟨rfl, a1, ?_, ?_, a4, ?_, a6, a7⟩ <;> dsimp only <;> omega
theorem CtS.eta (t : CtS) : (⟨t.have_, t.queue, t.granted, t.sent, t.dead⟩ : CtS) = t := rfl
theorem CtP.rng {c : Cfg} {t : CtS} (h : CtP c t) : (0 ≤ t.have_ ∧ t.have_ ≤ 255) ∧ (0 ≤ t.granted ∧ t.granted ≤ 9999) ∧ (0 ≤ t.sent ∧ t.sent ≤ 9999) ∧ t.have_ = t.granted - t.sent ∧ t.queue.length ≤ 24 := ⟨h.2.1, h.2.2.1, h.2.2.2.1, h.2.2.2.2.1, h.2.2.2.2.2.1⟩

/-! laws.FnCrdTake -/
def c_laws_FnCrdTake : Ent := ctr (α := (List Int)) (ρ := (Bool)) [] [] (rs1 rBytes) (fun x_ => (fun (l : List Int) => (Bytes l)) x_) (fun x_ r_ => (fun x_ => (fun (l : List Int) => ((fun r_ => (fun (r : Bool) => (r = true)) r_))) x_) x_ r_) (fun r_ => (fun (r : Bool) => ([rB.to r])) r_) (fun r_ => (fun (r : Bool) => ([])) r_)
def V_laws_FnCrdTake : Env := ⟨tys, [(20, c_laws_liOk), (32, c_spec_CrdTxOk), (33, c_impl_CrdTxOk), (36, c_spec_CrdTake), (39, c_impl_CrdTake), (43, c_spec_DrawCrdTake), (44, c_laws_liCtx), (45, c_laws_liParts)], [], [(3, 0), (4, 1), (6, 2)], [], [], []⟩
end Go.Proofs.YtlapeiijghebjaaE

/- Calls answer what is promised: LawCrd2. Conditions: none. -/
set_option linter.unusedVariables false
set_option maxHeartbeats 1600000
namespace Go.Proofs.YtlapeiijghebjaaE
open Go
theorem vF_laws_FnCrdTake (l : List Int) (K : List Arg → List (List AC) → Prop) (hp : Bytes l) (hk : ∀ (r : Bool), (r = true) → K ([rB.to r]) ([])) :
 if ((decide ((((List.length l) : Nat) : Int) > (1048576 : Int))) = true) then
 ((true = true) ∧
 (K [(aB true)] []))
 else
 ((true = true) ∧
 ((Bytes l) ∧
 (∀ r : (Prod Cfg (Prod CtS Int)),
 (((List.length r.snd.fst.queue) ≤ (30 : Nat)) ∧ (∀ p : Part, ((Membership.mem r.snd.fst.queue p) → ((List.length p.data) ≤ (200 : Nat))))) →
 (true = true) ∧
 ((true = true) ∧
 (True ∧
 (∀ r1 : CtS,
 (r1 = (crdTake r.fst r.snd.fst r.snd.snd)) →
 (true = true) ∧
 ((true = true) ∧
 (True ∧
 (∀ r2 : CtS,
 (r2 = (crdTake r.fst r.snd.fst r.snd.snd)) →
 (true = true) ∧
 ((true = true) ∧
 ((true = true) ∧
 ((((List.length r1.queue) ≤ (137438953472 : Nat)) ∧
 (∀ y : Part,
 (List.Mem y r1.queue) →
 ((List.length y.data) ≤ (137438953472 : Nat)))) ∧
 (∀ r3 : Bool,
 (r3 = (decide ((CtS.mk r1.have_ r1.queue r1.granted r1.sent r1.dead) = (CtS.mk r2.have_ r2.queue r2.granted r2.sent r2.dead)))) →
 (true = true) ∧
 ((true = true) ∧
 (if ((!r3) = true) then
 ((true = true) ∧
 (K [(aB false)] []))
 else
 ((true = true) ∧
 (True ∧
 (∀ r4 : Bool,
 (r4 = (decide (CtP r.fst r.snd.fst))) →
 (true = true) ∧
 (if ((!r4) = true) then
 ((true = true) ∧
 ((((List.length r1.queue) ≤ (137438953472 : Nat)) ∧
 (∀ y : Part,
 (List.Mem y r1.queue) →
 ((List.length y.data) ≤ (137438953472 : Nat)))) ∧
 (∀ r5 : Bool,
 (r5 = (decide ((CtS.mk r1.have_ r1.queue r1.granted r1.sent r1.dead) = (CtS.mk (0 : Int) ([] : (List Part)) (0 : Int) (0 : Int) false)))) →
 (true = true) ∧
 (if (r5 = true) then
 ((true = true) ∧
 (True ∧
 (∀ r6 : Bool,
 (r6 = true) →
 (true = true) ∧
 ((true = true) ∧
 (K [(aB r6)] [])))))
 else
 ((true = true) ∧
 (K [(aB false)] []))))))
 else
 (if ((decide (r.snd.snd < (1 : Int))) = true) then
 ((true = true) ∧
 ((((List.length r1.queue) ≤ (137438953472 : Nat)) ∧
 (∀ y : Part,
 (List.Mem y r1.queue) →
 ((List.length y.data) ≤ (137438953472 : Nat)))) ∧
 (∀ r5 : Bool,
 (r5 = (decide ((CtS.mk r1.have_ r1.queue r1.granted r1.sent r1.dead) = (CtS.mk (0 : Int) ([] : (List Part)) (0 : Int) (0 : Int) false)))) →
 (true = true) ∧
 (if (r5 = true) then
 ((true = true) ∧
 (True ∧
 (∀ r6 : Bool,
 (r6 = true) →
 (true = true) ∧
 ((true = true) ∧
 (K [(aB r6)] [])))))
 else
 ((true = true) ∧
 (K [(aB false)] []))))))
 else
 (if ((decide (r.snd.snd > (255 : Int))) = true) then
 ((true = true) ∧
 ((((List.length r1.queue) ≤ (137438953472 : Nat)) ∧
 (∀ y : Part,
 (List.Mem y r1.queue) →
 ((List.length y.data) ≤ (137438953472 : Nat)))) ∧
 (∀ r5 : Bool,
 (r5 = (decide ((CtS.mk r1.have_ r1.queue r1.granted r1.sent r1.dead) = (CtS.mk (0 : Int) ([] : (List Part)) (0 : Int) (0 : Int) false)))) →
 (true = true) ∧
 (if (r5 = true) then
 ((true = true) ∧
 (True ∧
 (∀ r6 : Bool,
 (r6 = true) →
 (true = true) ∧
 ((true = true) ∧
 (K [(aB r6)] [])))))
 else
 ((true = true) ∧
 (K [(aB false)] []))))))
 else
 (if (r.snd.fst.dead = true) then
 ((true = true) ∧
 ((((List.length r1.queue) ≤ (137438953472 : Nat)) ∧
 (∀ y : Part,
 (List.Mem y r1.queue) →
 ((List.length y.data) ≤ (137438953472 : Nat)))) ∧
 (∀ r5 : Bool,
 (r5 = (decide ((CtS.mk r1.have_ r1.queue r1.granted r1.sent r1.dead) = r.snd.fst))) →
 (true = true) ∧
 ((true = true) ∧
 (K [(aB r5)] [])))))
 else
 (if ((decide ((IntKind.wrap IntKind.i64 (r.snd.fst.have_ + r.snd.snd)) > (255 : Int))) = true) then
 (if (r1.dead = true) then
 (if ((r1.have_ == r.snd.fst.have_) = true) then
 ((true = true) ∧
 (K [(aB (r1.granted == r.snd.fst.granted))] []))
 else
 ((true = true) ∧
 (K [(aB false)] [])))
 else
 ((true = true) ∧
 (K [(aB false)] [])))
 else
 (if ((decide ((IntKind.wrap IntKind.i64 (r.snd.fst.granted + r.snd.snd)) > (9999 : Int))) = true) then
 (if (r1.dead = true) then
 (if ((r1.have_ == r.snd.fst.have_) = true) then
 ((true = true) ∧
 (K [(aB (r1.granted == r.snd.fst.granted))] []))
 else
 ((true = true) ∧
 (K [(aB false)] [])))
 else
 ((true = true) ∧
 (K [(aB false)] [])))
 else
 ((true = true) ∧
 (True ∧
 (∀ r5 : Bool,
 (r5 = (decide (CtP r.fst (CtS.mk r1.have_ r1.queue r1.granted r1.sent r1.dead)))) →
 (true = true) ∧
 (if (r5 = true) then
 (if ((!r1.dead) = true) then
 (if ((r1.have_ == (IntKind.wrap IntKind.i64 (r.snd.fst.have_ + r.snd.snd))) = true) then
 ((true = true) ∧
 ((((List.length r1.queue) ≤ (137438953472 : Nat)) ∧
 (∀ y : Part,
 (List.Mem y r1.queue) →
 ((List.length y.data) ≤ (137438953472 : Nat)))) ∧
 (∀ r6 : Bool,
 (r6 = (decide (r1.queue = r.snd.fst.queue))) →
 (true = true) ∧
 ((true = true) ∧
 (K [(aB r6)] [])))))
 else
 ((true = true) ∧
 (K [(aB false)] [])))
 else
 ((true = true) ∧
 (K [(aB false)] [])))
 else
 ((true = true) ∧
 (K [(aB false)] [])))))))))))))))))))))))))))))) := by
  repeat' first
    | exact rfl
    | exact True.intro
    | with_reducible apply And.intro
    | (with_reducible intro y_ hy_; subst hy_)
    | with_reducible intro y_
    | (refine iteI (fun h => ?_) (fun h => ?_))
  all_goals try simp only [Bool.not_eq_true', decide_eq_false_iff_not, decide_eq_true_eq, Bool.not_eq_true, bne_iff_ne, beq_iff_eq, ne_eq, Decidable.not_not, Bool.not_eq_false, gt_iff_lt, ge_iff_le, Int.not_le, Int.not_lt, beq_eq_false_iff_ne, bne_eq_false_iff_eq, Bool.and_eq_true, Bool.or_eq_true, Bool.true_eq_false, Bool.false_eq_true] at *
  all_goals try simp (disch := first | omega | grind [take_no, take_dead, take_over, take_yes, zCt, → CtP.rng, IntKind.wrap_i64]) only [wr] at *
  all_goals try simp only [CtS.eta] at *
  all_goals first
    | assumption
    | omega
    | exact (take_bd (.of (by first | assumption | exact And.intro (And.left ‹_ ∧ _›) (And.right ‹_ ∧ _›)))).len
    | exact (take_bd (.of (by assumption))).data _ ‹List.Mem _ _›
    | exact (QBd.of (by assumption)).len
    | exact (QBd.of (by assumption)).data _ ‹List.Mem _ _›
    | exact hk _ (by grind [take_no, take_dead, take_over, take_yes, zCt, → CtP.rng, IntKind.wrap_i64])
    | (simp only [LIM] at *; omega)
    | grind [take_no, take_dead, take_over, take_yes, zCt, → CtP.rng, IntKind.wrap_i64, LIM]
theorem w_laws_FnCrdTake : Valid Try.prog 7 c_laws_FnCrdTake :=
  valid_ctr2 (V := V_laws_FnCrdTake) (tysB_ok tys_ok) (CallsL.cons w_laws_liOk (CallsL.cons w_spec_CrdTxOk (CallsL.cons w_impl_CrdTxOk (CallsL.cons w_spec_CrdTake (CallsL.cons w_impl_CrdTake (CallsL.cons w_spec_DrawCrdTake (CallsL.cons w_laws_liCtx (CallsL.cons w_laws_liParts (CallsL.nil _))))))))) mixed 0 3 Try.func7 rfl (by kernel_rfl)
    (fun c hc => by
      obtain rfl := Option.some.inj hc
      exact ⟨trivial, ⟨⟨trivial, ⟨⟨trivial, trivial⟩, trivial⟩⟩, ⟨trivial, ⟨trivial, ⟨⟨trivial, ⟨⟨trivial, trivial⟩, trivial⟩⟩, ⟨⟨trivial, ⟨⟨trivial, trivial⟩, trivial⟩⟩, ⟨⟨trivial, ⟨⟨trivial, trivial⟩, trivial⟩⟩, ⟨⟨trivial, ⟨⟨trivial, trivial⟩, trivial⟩⟩, ⟨trivial, trivial⟩⟩⟩⟩⟩⟩⟩⟩⟩)
    (fun x K hp hk => ⟨_, by kernel_rfl, vF_laws_FnCrdTake x K hp (fun r h => hk r h)⟩)
end Go.Proofs.YtlapeiijghebjaaE
