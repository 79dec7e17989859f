/- A part of the proof of laws of the program: what calls of the program answer. Conditions: none. -/
import Derived.Test.YtlapeiijghebjaaM0dcf98da
set_option linter.unusedVariables false
set_option linter.unusedSimpArgs false
set_option linter.unusedSectionVars false
/- Contracts: LawCrd4. Conditions: none. -/
set_option linter.unusedVariables false
set_option maxHeartbeats 1600000
namespace Go.Proofs.YtlapeiijghebjaaE
open Go
def QBd (t : CtS) : Prop := t.queue.length ≤ 1000 ∧ ∀ p ∈ t.queue, p.data.length ≤ 200
theorem QBd.z : QBd zCt := ⟨by simp [zCt], fun p h => by simp [zCt] at h⟩
theorem QBd.len {t : CtS} (h : QBd t) : t.queue.length ≤ 137438953472 := Nat.le_trans h.1 (by decide)
theorem QBd.data {t : CtS} (h : QBd t) : ∀ p, List.Mem p t.queue → p.data.length ≤ 137438953472 := fun p hp => Nat.le_trans (h.2 p hp) (by decide)
theorem take_bd {c : Cfg} {t : CtS} {n : Int} (h : QBd t) : QBd (crdTake c t n) := by
  unfold crdTake
  split
  · split
    · exact h
    · split <;> exact h
  · exact QBd.z
theorem put_bd {c : Cfg} {t : CtS} {s : List Int} (h : QBd t) (hs : t.queue.length ≤ 30) : QBd (crdPut c t s).t := by
  unfold crdPut
  split
  · split
    · exact h
    · rename_i hn
      refine ⟨?_, fun p hp => ?_⟩
      · show (t.queue ++ segCut s c.mps).length ≤ 1000
        have := segCut_len s c.mps
        rw [List.length_append]; omega
      · rcases List.mem_append.1 hp with hp | hp
        · exact h.2 p hp
        · exact Nat.le_trans (segCut_data _ _ p hp) (by decide)
  · exact QBd.z
theorem send_bd {c : Cfg} {t : CtS} (h : QBd t) : QBd (crdSend c t).t := by
  unfold crdSend
  split
  · split
    · exact h
    · refine ⟨?_, fun p hp => h.2 p (List.mem_of_mem_drop hp)⟩
      show (t.queue.drop 1).length ≤ 1000
      have := h.1
      rw [List.length_drop]; omega
  · exact QBd.z
theorem QBd.of {t : CtS} (h : t.queue.length ≤ 30 ∧ ∀ p ∈ t.queue, p.data.length ≤ 200) : QBd t := ⟨by omega, h.2⟩
theorem CtS.eta (t : CtS) : (⟨t.have_, t.queue, t.granted, t.sent, t.dead⟩ : CtS) = t := rfl
theorem CtP.rng {c : Cfg} {t : CtS} (h : CtP c t) : (0 ≤ t.have_ ∧ t.have_ ≤ 255) ∧ (0 ≤ t.granted ∧ t.granted ≤ 9999) ∧ (0 ≤ t.sent ∧ t.sent ≤ 9999) ∧ t.have_ = t.granted - t.sent ∧ t.queue.length ≤ 24 := ⟨h.2.1, h.2.2.1, h.2.2.2.1, h.2.2.2.2.1, h.2.2.2.2.2.1⟩
theorem put_no {c : Cfg} {t : CtS} {s : List Int} (h : ¬ CtP c t) : crdPut c t s = ⟨zCt, false⟩ := by unfold crdPut; rw [if_neg h]
theorem put_not {c : Cfg} {t : CtS} {s : List Int} (h : CtP c t) (hn : (crdPut c t s).ok = false) : (crdPut c t s).t = t ∧ (t.dead = true ∨ c.mtu < (s.length : Int) ∨ 24 < (t.queue.length : Int) + ((segCut s c.mps).length : Int)) := by
  unfold crdPut at hn ⊢
  rw [if_pos h] at hn ⊢
  split at hn
  · rename_i hc
    rw [if_pos hc]
    refine ⟨rfl, ?_⟩
    rcases hc with hc | hc | hc
    · exact .inl hc
    · exact .inr (.inl hc)
    · exact .inr (.inr (by omega))
  · simp at hn
theorem put_yes {c : Cfg} {t : CtS} {s : List Int} (h : CtP c t) (hn : (crdPut c t s).ok = true) : (crdPut c t s).t = ⟨t.have_, t.queue ++ segCut s c.mps, t.granted, t.sent, t.dead⟩ ∧ CtP c (crdPut c t s).t := by
  unfold crdPut at hn ⊢
  rw [if_pos h] at hn ⊢
  split at hn
  · simp at hn
  · rename_i hc
    rw [if_neg hc]
    refine ⟨rfl, ?_⟩
    obtain ⟨a1, a2, a3, a4, a5, a6, a7⟩ := h
    refine ⟨a1, a2, a3, a4, a5, ?_, a7.append (segCut_ok s)⟩
    show (t.queue ++ segCut s c.mps).length ≤ 24
    rw [List.length_append]; omega
theorem put_bd2 {c : Cfg} {t : CtS} {s : List Int} (h : t.queue.length ≤ 30 ∧ ∀ p ∈ t.queue, p.data.length ≤ 200) : QBd (crdPut c t s).t := put_bd ⟨by omega, h.2⟩ h.1
theorem at_part0 (l : List Part) (h : ∀ p ∈ l, p.data.length ≤ 200) : (at_part l 0).data.length ≤ 137438953472 := by
  by_cases hl : l.length = 0
  · have e : l = [] := List.length_eq_zero_iff.1 hl
    subst e
    show ([] : List Int).length ≤ _
    simp
  · exact Nat.le_trans (h _ (at0_mem hl)) (by decide)
theorem send_no {c : Cfg} {t : CtS} (h : ¬ CtP c t) : crdSend c t = ⟨zCt, zFrm, false⟩ := by unfold crdSend; rw [if_neg h]
theorem send_not {c : Cfg} {t : CtS} (h : CtP c t) (hn : (crdSend c t).ok = false) : (crdSend c t).t = t ∧ (t.dead = true ∨ t.have_ = 0 ∨ t.queue.length = 0 ∨ t.sent = 9999) := by
  unfold crdSend at hn ⊢
  rw [if_pos h] at hn ⊢
  split at hn
  · rename_i hc
    rw [if_pos hc]
    exact ⟨rfl, hc⟩
  · simp at hn
theorem piece_ok {p : Part} (h : PartP p) : FrmP (pieceF p) := .inr (.inr (.inl ⟨rfl, rfl, rfl, rfl, rfl, rfl, h⟩))
theorem send_yes {c : Cfg} {t : CtS} (h : CtP c t) (hn : (crdSend c t).ok = true) : (crdSend c t).t = ⟨t.have_ - 1, t.queue.drop 1, t.granted, t.sent + 1, t.dead⟩ ∧ (crdSend c t).f = pieceF (at_part t.queue 0) ∧ CtP c (crdSend c t).t ∧ FrmP (crdSend c t).f ∧ ¬ t.queue.length = 0 := by
  unfold crdSend at hn ⊢
  rw [if_pos h] at hn ⊢
  split at hn
  · simp at hn
  · rename_i hc
    rw [if_neg hc]
    obtain ⟨a1, a2, a3, a4, a5, a6, a7⟩ := h
    have hq : ¬ t.queue.length = 0 := fun e => hc (.inr (.inr (.inl e)))
    have hh : ¬ t.have_ = 0 := fun e => hc (.inr (.inl e))
    have hs : ¬ t.sent = 9999 := fun e => hc (.inr (.inr (.inr e)))
    refine ⟨rfl, rfl, ⟨a1, ?_, a3, ?_, ?_, ?_, fun p hp => a7 p (List.mem_of_mem_drop hp)⟩, piece_ok (a7 _ (at0_mem hq)).1, hq⟩
    all_goals dsimp only
    · omega
    · omega
    · omega
    · rw [List.length_drop]; omega
theorem send_p {c : Cfg} {t : CtS} (h : CtP c t) (hn : (crdSend c t).ok = true) : (⟨(crdSend c t).f.seg, (crdSend c t).f.len, (crdSend c t).f.data⟩ : Part) = at_part t.queue 0 := by
  rw [(send_yes h hn).2.1]
  rfl
theorem send_q {c : Cfg} {t : CtS} (h : CtP c t) (hn : (crdSend c t).ok = true) : (crdSend c t).t.queue = List.take (((t.queue.length : Nat) : Int).toNat - 1) (List.drop 1 t.queue) := by
  rw [(send_yes h hn).1]
  exact (drop1 _).symm
theorem send_data (c : Cfg) (t : CtS) (h : ∀ p ∈ t.queue, p.data.length ≤ 200) : (crdSend c t).f.data.length ≤ 137438953472 := by
  unfold crdSend
  split
  · split
    · simp [zFrm]
    · exact at_part0 _ h
  · simp [zFrm]

/-! laws.FnCrdSend -/
def c_laws_FnCrdSend : Ent := ctr (α := (List Int)) (ρ := (Bool)) [] [] (rs1 rBytes) (fun x_ => (fun (l : List Int) => (Bytes l)) x_) (fun x_ r_ => (fun x_ => (fun (l : List Int) => ((fun r_ => (fun (r : Bool) => (r = true)) r_))) x_) x_ r_) (fun r_ => (fun (r : Bool) => ([rB.to r])) r_) (fun r_ => (fun (r : Bool) => ([])) r_)
def V_laws_FnCrdSend : Env := ⟨tys, [(18, c_laws_liFrame), (20, c_laws_liOk), (22, c_impl_FrmOk), (32, c_spec_CrdTxOk), (33, c_impl_CrdTxOk), (34, c_impl_CrdSend), (44, c_laws_liCtx), (45, c_laws_liParts), (53, c_spec_CrdSend), (54, c_spec_DrawCrdSend), (55, c_laws_liPart)], [], [(3, 0), (4, 1), (5, 2), (6, 3), (8, 4), (9, 5)], [], [], []⟩
end Go.Proofs.YtlapeiijghebjaaE

/- Calls answer what is promised: LawCrd4. Conditions: none. -/
set_option linter.unusedVariables false
set_option maxHeartbeats 1600000
namespace Go.Proofs.YtlapeiijghebjaaE
open Go
theorem vF_laws_FnCrdSend (l : List Int) (K : List Arg → List (List AC) → Prop) (hp : Bytes l) (hk : ∀ (r : Bool), (r = true) → K ([rB.to r]) ([])) :
 if ((decide ((((List.length l) : Nat) : Int) > (1048576 : Int))) = true) then
 ((true = true) ∧
 (K [(aB true)] []))
 else
 ((true = true) ∧
 ((Bytes l) ∧
 (∀ r : (Prod Cfg CtS),
 (((List.length r.snd.queue) ≤ (30 : Nat)) ∧ (∀ p : Part, ((Membership.mem r.snd.queue p) → ((List.length p.data) ≤ (200 : Nat))))) →
 (true = true) ∧
 ((true = true) ∧
 (True ∧
 (∀ r1 : CtSendR,
 (r1 = (crdSend r.fst r.snd)) →
 (true = true) ∧
 ((true = true) ∧
 (True ∧
 (∀ r2 : CtSendR,
 (r2 = (crdSend r.fst r.snd)) →
 (true = true) ∧
 ((true = true) ∧
 ((((List.length r1.t.queue) ≤ (137438953472 : Nat)) ∧
 (∀ y : Part,
 (List.Mem y r1.t.queue) →
 ((List.length y.data) ≤ (137438953472 : Nat)))) ∧
 (∀ r3 : Bool,
 (r3 = (decide ((CtS.mk r1.t.have_ r1.t.queue r1.t.granted r1.t.sent r1.t.dead) = (CtS.mk r2.t.have_ r2.t.queue r2.t.granted r2.t.sent r2.t.dead)))) →
 (true = true) ∧
 (if ((!r3) = true) then
 ((true = true) ∧
 (K [(aB false)] []))
 else
 ((true = true) ∧
 (((List.length r1.f.data) ≤ (137438953472 : Nat)) ∧
 (∀ r4 : Bool,
 (r4 = (decide (r1.f = r2.f))) →
 (true = true) ∧
 (if ((!r4) = true) then
 ((true = true) ∧
 (K [(aB false)] []))
 else
 (if ((r1.ok != r2.ok) = true) then
 ((true = true) ∧
 (K [(aB false)] []))
 else
 ((true = true) ∧
 (True ∧
 (∀ r5 : Bool,
 (r5 = (decide (CtP r.fst r.snd))) →
 (true = true) ∧
 (if ((!r5) = true) then
 (if ((!r1.ok) = true) then
 ((true = true) ∧
 ((((List.length r1.t.queue) ≤ (137438953472 : Nat)) ∧
 (∀ y : Part,
 (List.Mem y r1.t.queue) →
 ((List.length y.data) ≤ (137438953472 : Nat)))) ∧
 (∀ r6 : Bool,
 (r6 = (decide ((CtS.mk r1.t.have_ r1.t.queue r1.t.granted r1.t.sent r1.t.dead) = (CtS.mk (0 : Int) ([] : (List Part)) (0 : Int) (0 : Int) false)))) →
 (true = true) ∧
 (if (r6 = true) then
 ((true = true) ∧
 (True ∧
 (∀ r7 : Bool,
 (r7 = true) →
 (true = true) ∧
 ((true = true) ∧
 (K [(aB r7)] [])))))
 else
 ((true = true) ∧
 (K [(aB false)] []))))))
 else
 ((true = true) ∧
 (K [(aB false)] [])))
 else
 (if ((!r1.ok) = true) then
 ((true = true) ∧
 ((((List.length r1.t.queue) ≤ (137438953472 : Nat)) ∧
 (∀ y : Part,
 (List.Mem y r1.t.queue) →
 ((List.length y.data) ≤ (137438953472 : Nat)))) ∧
 (∀ r6 : Bool,
 (r6 = (decide ((CtS.mk r1.t.have_ r1.t.queue r1.t.granted r1.t.sent r1.t.dead) = r.snd))) →
 (true = true) ∧
 (if (r6 = true) then
 (if (r.snd.dead = true) then
 ((true = true) ∧
 (K [(aB true)] []))
 else
 (if ((r.snd.have_ == (0 : Int)) = true) then
 ((true = true) ∧
 (K [(aB true)] []))
 else
 (if (((((List.length r.snd.queue) : Nat) : Int) == (0 : Int)) = true) then
 ((true = true) ∧
 (K [(aB true)] []))
 else
 ((true = true) ∧
 (K [(aB (r.snd.sent == (9999 : Int)))] [])))))
 else
 ((true = true) ∧
 (K [(aB false)] []))))))
 else
 ((true = true) ∧
 (True ∧
 (∀ r6 : Bool,
 (r6 = (decide (CtP r.fst (CtS.mk r1.t.have_ r1.t.queue r1.t.granted r1.t.sent r1.t.dead)))) →
 (true = true) ∧
 ((true = true) ∧
 (if (r6 = true) then
 (if ((r1.t.have_ == (IntKind.wrap IntKind.i64 (r.snd.have_ - (1 : Int)))) = true) then
 (if ((r1.t.sent == (IntKind.wrap IntKind.i64 (r.snd.sent + (1 : Int)))) = true) then
 ((((0 : Int) ≤ (1 : Int)) ∧
 (((1 : Int) ≤ (((List.length r.snd.queue) : Nat) : Int)) ∧
 ((((List.length r.snd.queue) : Nat) : Int) ≤ (((List.length r.snd.queue) : Nat) : Int)))) ∧
 ((true = true) ∧
 ((((List.length r1.t.queue) ≤ (137438953472 : Nat)) ∧
 (∀ y : Part,
 (List.Mem y r1.t.queue) →
 ((List.length y.data) ≤ (137438953472 : Nat)))) ∧
 (∀ r7 : Bool,
 (r7 = (decide (r1.t.queue = (List.take ((Int.toNat (((List.length r.snd.queue) : Nat) : Int)) - (1 : Nat)) (List.drop (1 : Nat) r.snd.queue))))) →
 (true = true) ∧
 ((true = true) ∧
 (if (r7 = true) then
 (if ((r1.f.kind == (3 : Int)) = true) then
 ((((0 : Int) ≤ (0 : Int)) ∧
 ((0 : Int) < (((List.length r.snd.queue) : Nat) : Int))) ∧
 ((true = true) ∧
 (((List.length r1.f.data) ≤ (137438953472 : Nat)) ∧
 (∀ r8 : Bool,
 (r8 = (decide ((Part.mk r1.f.seg r1.f.len r1.f.data) = (at_part r.snd.queue (0 : Nat))))) →
 (true = true) ∧
 ((true = true) ∧
 (if (r8 = true) then
 ((true = true) ∧
 (((List.length r1.f.data) ≤ (137438953472 : Nat)) ∧
 (∀ r9 : Bool,
 (r9 = (decide (FrmP r1.f))) →
 (true = true) ∧
 ((true = true) ∧
 ((true = true) ∧
 (K [(aB r9)] []))))))
 else
 ((true = true) ∧
 (K [(aB false)] []))))))))
 else
 ((true = true) ∧
 (K [(aB false)] [])))
 else
 ((true = true) ∧
 (K [(aB false)] []))))))))
 else
 ((true = true) ∧
 (K [(aB false)] [])))
 else
 ((true = true) ∧
 (K [(aB false)] [])))
 else
 ((true = true) ∧
 (K [(aB false)] [])))))))))))))))))))))))))))))) := by
  repeat' first
    | exact rfl
    | exact True.intro
    | with_reducible apply And.intro
    | (with_reducible intro y_ hy_; subst hy_)
    | with_reducible intro y_
    | (refine iteI (fun h => ?_) (fun h => ?_))
  all_goals try simp only [Bool.not_eq_true', decide_eq_false_iff_not, decide_eq_true_eq, Bool.not_eq_true, bne_iff_ne, beq_iff_eq, ne_eq, Decidable.not_not, Bool.not_eq_false, gt_iff_lt, ge_iff_le, Int.not_le, Int.not_lt, beq_eq_false_iff_ne, bne_eq_false_iff_eq, Bool.and_eq_true, Bool.or_eq_true, Bool.true_eq_false, Bool.false_eq_true] at *
  all_goals try simp (disch := first | omega | grind [send_no, send_not, send_yes, pieceF, zCt, → CtP.rng, IntKind.wrap_i64]) only [wr] at *
  all_goals try simp only [CtS.eta] at *
  all_goals first
    | assumption
    | omega
    | exact (put_bd2 (by assumption)).len
    | exact (put_bd2 (And.intro (And.left (by assumption)) (And.left (And.right (by assumption))))).len
    | exact (put_bd2 (And.intro (And.left (by assumption)) (And.left (And.right (by assumption))))).data _ ‹List.Mem _ _›
    | exact (send_bd (.of (by assumption))).len
    | exact (send_bd (.of (by assumption))).data _ ‹List.Mem _ _›
    | exact send_data _ _ (And.right (by assumption))
    | exact at_part0 _ (And.right (by assumption))
    | exact (QBd.of (by assumption)).len
    | exact (QBd.of (by assumption)).data _ ‹List.Mem _ _›
    | (have ho := ‹(crdSend _ _).ok = true›
       have e := send_p (hn := ho) (h := by assumption)
       have e2 := ‹¬ (_ : Part) = at_part _ 0›
       exact absurd e e2)
    | (have ho := ‹(crdSend _ _).ok = true›
       have e := send_q (hn := ho) (h := by assumption)
       have e2 := ‹¬ (_ : List Part) = List.take _ _›
       exact absurd e e2)
    | exact hk _ (by grind [send_no, send_not, send_yes, pieceF, zCt, → CtP.rng, IntKind.wrap_i64])
    | (simp only [LIM] at *; omega)
    | grind [send_no, send_not, send_yes, pieceF, zCt, → CtP.rng, IntKind.wrap_i64, LIM]
theorem w_laws_FnCrdSend : Valid Try.prog 11 c_laws_FnCrdSend :=
  valid_ctr2 (V := V_laws_FnCrdSend) (tysB_ok tys_ok) (CallsL.cons w_laws_liFrame (CallsL.cons w_laws_liOk (CallsL.cons w_impl_FrmOk (CallsL.cons w_spec_CrdTxOk (CallsL.cons w_impl_CrdTxOk (CallsL.cons w_impl_CrdSend (CallsL.cons w_laws_liCtx (CallsL.cons w_laws_liParts (CallsL.cons w_spec_CrdSend (CallsL.cons w_spec_DrawCrdSend (CallsL.cons w_laws_liPart (CallsL.nil _)))))))))))) mixed 0 6 Try.func11 rfl (by kernel_rfl)
    (fun c hc => by
      obtain rfl := Option.some.inj hc
      exact ⟨trivial, ⟨⟨trivial, ⟨⟨trivial, trivial⟩, trivial⟩⟩, ⟨trivial, ⟨trivial, ⟨trivial, ⟨⟨trivial, ⟨⟨trivial, trivial⟩, trivial⟩⟩, ⟨⟨trivial, ⟨⟨trivial, trivial⟩, trivial⟩⟩, ⟨⟨trivial, ⟨⟨trivial, trivial⟩, trivial⟩⟩, ⟨trivial, trivial⟩⟩⟩⟩⟩⟩⟩⟩⟩)
    (fun x K hp hk => ⟨_, by kernel_rfl, vF_laws_FnCrdSend x K hp (fun r h => hk r h)⟩)
end Go.Proofs.YtlapeiijghebjaaE
