/- A part of the proof of laws of the program: what calls of the program answer. Conditions: none. -/
import Derived.Test.YtlapeiijghebjaaM0dcf98da
set_option linter.unusedVariables false
set_option linter.unusedSimpArgs false
set_option linter.unusedSectionVars false
/- Contracts: LawCrd5. Conditions: none. -/
set_option linter.unusedVariables false
set_option maxHeartbeats 1600000
namespace Go.Proofs.YtlapeiijghebjaaE
open Go
def QBd (t : CtS) : Prop := t.queue.length ≤ 1000 ∧ ∀ p ∈ t.queue, p.data.length ≤ 200
theorem QBd.z : QBd zCt := ⟨by simp [zCt], fun p h => by simp [zCt] at h⟩
theorem QBd.len {t : CtS} (h : QBd t) : t.queue.length ≤ 137438953472 := Nat.le_trans h.1 (by decide)
theorem QBd.data {t : CtS} (h : QBd t) : ∀ p, List.Mem p t.queue → p.data.length ≤ 137438953472 := fun p hp => Nat.le_trans (h.2 p hp) (by decide)
theorem take_bd {c : Cfg} {t : CtS} {n : Int} (h : QBd t) : QBd (crdTake c t n) := by
  unfold crdTake
  split
  · split
    · exact h
    · split <;> exact h
  · exact QBd.z
theorem put_bd {c : Cfg} {t : CtS} {s : List Int} (h : QBd t) (hs : t.queue.length ≤ 30) : QBd (crdPut c t s).t := by
  unfold crdPut
  split
  · split
    · exact h
    · rename_i hn
      refine ⟨?_, fun p hp => ?_⟩
      · show (t.queue ++ segCut s c.mps).length ≤ 1000
        have := segCut_len s c.mps
        rw [List.length_append]; omega
      · rcases List.mem_append.1 hp with hp | hp
        · exact h.2 p hp
        · exact Nat.le_trans (segCut_data _ _ p hp) (by decide)
  · exact QBd.z
theorem send_bd {c : Cfg} {t : CtS} (h : QBd t) : QBd (crdSend c t).t := by
  unfold crdSend
  split
  · split
    · exact h
    · refine ⟨?_, fun p hp => h.2 p (List.mem_of_mem_drop hp)⟩
      show (t.queue.drop 1).length ≤ 1000
      have := h.1
      rw [List.length_drop]; omega
  · exact QBd.z
theorem QBd.of {t : CtS} (h : t.queue.length ≤ 30 ∧ ∀ p ∈ t.queue, p.data.length ≤ 200) : QBd t := ⟨by omega, h.2⟩
theorem CtS.eta (t : CtS) : (⟨t.have_, t.queue, t.granted, t.sent, t.dead⟩ : CtS) = t := rfl
theorem CtP.rng {c : Cfg} {t : CtS} (h : CtP c t) : (0 ≤ t.have_ ∧ t.have_ ≤ 255) ∧ (0 ≤ t.granted ∧ t.granted ≤ 9999) ∧ (0 ≤ t.sent ∧ t.sent ≤ 9999) ∧ t.have_ = t.granted - t.sent ∧ t.queue.length ≤ 24 := ⟨h.2.1, h.2.2.1, h.2.2.2.1, h.2.2.2.2.1, h.2.2.2.2.2.1⟩
theorem put_no {c : Cfg} {t : CtS} {s : List Int} (h : ¬ CtP c t) : crdPut c t s = ⟨zCt, false⟩ := by unfold crdPut; rw [if_neg h]
theorem put_not {c : Cfg} {t : CtS} {s : List Int} (h : CtP c t) (hn : (crdPut c t s).ok = false) : (crdPut c t s).t = t ∧ (t.dead = true ∨ c.mtu < (s.length : Int) ∨ 24 < (t.queue.length : Int) + ((segCut s c.mps).length : Int)) := by
  unfold crdPut at hn ⊢
  rw [if_pos h] at hn ⊢
  split at hn
  · rename_i hc
    rw [if_pos hc]
    refine ⟨rfl, ?_⟩
    rcases hc with hc | hc | hc
    · exact .inl hc
    · exact .inr (.inl hc)
    · exact .inr (.inr (by omega))
  · simp at hn
theorem put_yes {c : Cfg} {t : CtS} {s : List Int} (h : CtP c t) (hn : (crdPut c t s).ok = true) : (crdPut c t s).t = ⟨t.have_, t.queue ++ segCut s c.mps, t.granted, t.sent, t.dead⟩ ∧ CtP c (crdPut c t s).t := by
  unfold crdPut at hn ⊢
  rw [if_pos h] at hn ⊢
  split at hn
  · simp at hn
  · rename_i hc
    rw [if_neg hc]
    refine ⟨rfl, ?_⟩
    obtain ⟨a1, a2, a3, a4, a5, a6, a7⟩ := h
    refine ⟨a1, a2, a3, a4, a5, ?_, a7.append (segCut_ok s)⟩
    show (t.queue ++ segCut s c.mps).length ≤ 24
    rw [List.length_append]; omega
theorem put_bd2 {c : Cfg} {t : CtS} {s : List Int} (h : t.queue.length ≤ 30 ∧ ∀ p ∈ t.queue, p.data.length ≤ 200) : QBd (crdPut c t s).t := put_bd ⟨by omega, h.2⟩ h.1
theorem at_part0 (l : List Part) (h : ∀ p ∈ l, p.data.length ≤ 200) : (at_part l 0).data.length ≤ 137438953472 := by
  by_cases hl : l.length = 0
  · have e : l = [] := List.length_eq_zero_iff.1 hl
    subst e
    show ([] : List Int).length ≤ _
    simp
  · exact Nat.le_trans (h _ (at0_mem hl)) (by decide)
theorem send_no {c : Cfg} {t : CtS} (h : ¬ CtP c t) : crdSend c t = ⟨zCt, zFrm, false⟩ := by unfold crdSend; rw [if_neg h]
theorem send_not {c : Cfg} {t : CtS} (h : CtP c t) (hn : (crdSend c t).ok = false) : (crdSend c t).t = t ∧ (t.dead = true ∨ t.have_ = 0 ∨ t.queue.length = 0 ∨ t.sent = 9999) := by
  unfold crdSend at hn ⊢
  rw [if_pos h] at hn ⊢
  split at hn
  · rename_i hc
    rw [if_pos hc]
    exact ⟨rfl, hc⟩
  · simp at hn
theorem piece_ok {p : Part} (h : PartP p) : FrmP (pieceF p) := .inr (.inr (.inl ⟨rfl, rfl, rfl, rfl, rfl, rfl, h⟩))
theorem send_yes {c : Cfg} {t : CtS} (h : CtP c t) (hn : (crdSend c t).ok = true) : (crdSend c t).t = ⟨t.have_ - 1, t.queue.drop 1, t.granted, t.sent + 1, t.dead⟩ ∧ (crdSend c t).f = pieceF (at_part t.queue 0) ∧ CtP c (crdSend c t).t ∧ FrmP (crdSend c t).f ∧ ¬ t.queue.length = 0 := by
  unfold crdSend at hn ⊢
  rw [if_pos h] at hn ⊢
  split at hn
  · simp at hn
  · rename_i hc
    rw [if_neg hc]
    obtain ⟨a1, a2, a3, a4, a5, a6, a7⟩ := h
    have hq : ¬ t.queue.length = 0 := fun e => hc (.inr (.inr (.inl e)))
    have hh : ¬ t.have_ = 0 := fun e => hc (.inr (.inl e))
    have hs : ¬ t.sent = 9999 := fun e => hc (.inr (.inr (.inr e)))
    refine ⟨rfl, rfl, ⟨a1, ?_, a3, ?_, ?_, ?_, fun p hp => a7 p (List.mem_of_mem_drop hp)⟩, piece_ok (a7 _ (at0_mem hq)).1, hq⟩
    all_goals dsimp only
    · omega
    · omega
    · omega
    · rw [List.length_drop]; omega
theorem send_p {c : Cfg} {t : CtS} (h : CtP c t) (hn : (crdSend c t).ok = true) : (⟨(crdSend c t).f.seg, (crdSend c t).f.len, (crdSend c t).f.data⟩ : Part) = at_part t.queue 0 := by
  rw [(send_yes h hn).2.1]
  rfl
theorem send_q {c : Cfg} {t : CtS} (h : CtP c t) (hn : (crdSend c t).ok = true) : (crdSend c t).t.queue = List.take (((t.queue.length : Nat) : Int).toNat - 1) (List.drop 1 t.queue) := by
  rw [(send_yes h hn).1]
  exact (drop1 _).symm
theorem send_data (c : Cfg) (t : CtS) (h : ∀ p ∈ t.queue, p.data.length ≤ 200) : (crdSend c t).f.data.length ≤ 137438953472 := by
  unfold crdSend
  split
  · split
    · simp [zFrm]
    · exact at_part0 _ h
  · simp [zFrm]

/-! laws.FnCrdLimit -/
def c_laws_FnCrdLimit : Ent := ctr (α := (List Int)) (ρ := (Bool)) [] [] (rs1 rBytes) (fun x_ => (fun (l : List Int) => (Bytes l)) x_) (fun x_ r_ => (fun x_ => (fun (l : List Int) => ((fun r_ => (fun (r : Bool) => (r = true)) r_))) x_) x_ r_) (fun r_ => (fun (r : Bool) => ([rB.to r])) r_) (fun r_ => (fun (r : Bool) => ([])) r_)
def l_laws_FnCrdLimit_0 : LoopD ((Cfg) × (CtS) × (CtS) × (Int) × (Int)) ((Cfg) × (CtS) × (CtS) × (Int)) ((Empty)) where
  n := 71
  head := ⟨[3, 4, 5, 6, 7], [0, 1, 2], []⟩
  st := fun x_ => (fun (c : Cfg) (t : CtS) (x : CtS) (j : Int) (k : Int) => (⟨true, [(3, .pb 0 1 0), (4, .pb 1 1 0), (5, num .i64 j), (6, .pb 2 1 0), (7, num .i64 k)], [], [⟨1, some ((cfgC c).map .d)⟩, ⟨1, some ((ctC t).map .d)⟩, ⟨1, some ((ctC x).map .d)⟩, ⟨0, none⟩, ⟨0, none⟩]⟩)) x_.1 x_.2.1 x_.2.2.1 x_.2.2.2.1 x_.2.2.2.2
  pre := fun x_ => (fun (c : Cfg) (t : CtS) (x : CtS) (j : Int) (k : Int) => (CtP c t ∧ t.dead = false ∧ x = t ∧ j = 0 ∧ k = 0)) x_.1 x_.2.1 x_.2.2.1 x_.2.2.2.1 x_.2.2.2.2
  nk := ⟨[3, 4, 5, 6], [0, 1, 2], []⟩
  nst := fun r_ => (fun (c : Cfg) (t : CtS) (x : CtS) (j : Int) => (⟨true, [(3, .pb 0 1 0), (4, .pb 1 1 0), (5, num .i64 j), (6, .pb 2 1 0)], [], [⟨1, some ((cfgC c).map .d)⟩, ⟨1, some ((ctC t).map .d)⟩, ⟨1, some ((ctC x).map .d)⟩, ⟨0, none⟩, ⟨0, none⟩]⟩)) r_.1 r_.2.1 r_.2.2.1 r_.2.2.2
  npost := fun x_ r_ => (fun x_ => (fun (c0 : Cfg) (t0 : CtS) (x0 : CtS) (j0 : Int) (k0 : Int) => ((fun r_ => (fun (c : Cfg) (t : CtS) (x : CtS) (j : Int) => (c = c0 ∧ t = t0 ∧ CtP c0 x ∧ (j = t0.have_ ∨ j = t0.queue.length ∨ j = 9999 - t0.sent) ∧ j ≤ t0.have_ ∧ j ≤ t0.queue.length ∧ j ≤ 9999 - t0.sent)) r_.1 r_.2.1 r_.2.2.1 r_.2.2.2))) x_.1 x_.2.1 x_.2.2.1 x_.2.2.2.1 x_.2.2.2.2) x_ r_
  rk := ⟨[], [], []⟩
  rst := fun _ => ⟨true, [], [], []⟩
  rpost := fun _ _ => False
def i_laws_FnCrdLimit_0 (x : (Cfg) × (CtS) × (CtS) × (Int) × (Int)) (n : Nat) (s : (Cfg) × (CtS) × (CtS) × (Int) × (Int)) : Prop := (fun x_ => (fun (c0 : Cfg) (t0 : CtS) (x0 : CtS) (j0 : Int) (k0 : Int) => ((fun s_ => (fun (c : Cfg) (t : CtS) (x : CtS) (j : Int) (k : Int) => (c = c0 ∧ t = t0 ∧ k = j ∧ 0 ≤ j ∧ j ≤ t.have_ ∧ j ≤ t.queue.length ∧ j ≤ 9999 - t.sent ∧ (n : Int) = 300 - j ∧ x = ⟨t.have_ - j, t.queue.drop j.toNat, t.granted, t.sent + j, t.dead⟩ ∧ CtP c x)) s_.1 s_.2.1 s_.2.2.1 s_.2.2.2.1 s_.2.2.2.2))) x_.1 x_.2.1 x_.2.2.1 x_.2.2.2.1 x_.2.2.2.2) x s
def V_laws_FnCrdLimit : Env := ⟨tys, [(20, c_laws_liOk), (31, c_spec_DrawCrdTxOk), (32, c_spec_CrdTxOk), (33, c_impl_CrdTxOk), (34, c_impl_CrdSend)], [], [(3, 0), (4, 1), (6, 2), (8, 3), (9, 4)], [], [(0, l_laws_FnCrdLimit_0.L)], []⟩
end Go.Proofs.YtlapeiijghebjaaE

/- Calls answer what is promised: LawCrd5. Conditions: none. -/
set_option linter.unusedVariables false
set_option maxHeartbeats 1600000
namespace Go.Proofs.YtlapeiijghebjaaE
open Go
set_option maxRecDepth 20000 in
theorem vF_laws_FnCrdLimit (l : List Int) (K : List Arg → List (List AC) → Prop) (hp : Bytes l) (hk : ∀ (r : Bool), (r = true) → K ([rB.to r]) ([])) :
 if ((decide ((((List.length l) : Nat) : Int) > (1048576 : Int))) = true) then
 ((true = true) ∧
 (K [(aB true)] []))
 else
 ((true = true) ∧
 ((Bytes l) ∧
 (∀ r : (Prod Cfg CtS),
 (((List.length r.snd.queue) ≤ (30 : Nat)) ∧ (∀ p : Part, ((Membership.mem r.snd.queue p) → ((List.length p.data) ≤ (200 : Nat))))) →
 (true = true) ∧
 ((true = true) ∧
 (True ∧
 (∀ r1 : Bool,
 (r1 = (decide (CtP r.fst r.snd))) →
 (true = true) ∧
 (if ((!r1) = true) then
 ((true = true) ∧
 (True ∧
 (∀ r2 : Bool,
 (r2 = (decide (CtP r.fst r.snd))) →
 (true = true) ∧
 ((true = true) ∧
 ((true = true) ∧
 (True ∧
 (∀ r3 : Bool,
 (r3 = (decide (CtP r.fst r.snd))) →
 (true = true) ∧
 ((true = true) ∧
 (if ((r2 == r3) = true) then
 ((true = true) ∧
 (True ∧
 (∀ r4 : Bool,
 (r4 = true) →
 (true = true) ∧
 ((true = true) ∧
 ((true = true) ∧
 (K [(aB r4)] []))))))
 else
 ((true = true) ∧
 (K [(aB false)] [])))))))))))
 else
 (if (r.snd.dead = true) then
 ((true = true) ∧
 (True ∧
 (∀ r2 : Bool,
 (r2 = (decide (CtP r.fst r.snd))) →
 (true = true) ∧
 ((true = true) ∧
 ((true = true) ∧
 (True ∧
 (∀ r3 : Bool,
 (r3 = (decide (CtP r.fst r.snd))) →
 (true = true) ∧
 ((true = true) ∧
 (if ((r2 == r3) = true) then
 ((true = true) ∧
 (True ∧
 (∀ r4 : Bool,
 (r4 = true) →
 (true = true) ∧
 ((true = true) ∧
 ((true = true) ∧
 (K [(aB r4)] []))))))
 else
 ((true = true) ∧
 (K [(aB false)] [])))))))))))
 else
 (∃ s : (Prod Cfg (Prod CtS (Prod CtS (Prod Int Int)))),
 ((KS.mk true [(Prod.mk (3 : Nat) (T.pb (0 : Nat) (1 : Nat) (0 : Nat))), (Prod.mk (4 : Nat) (T.pb (1 : Nat) (1 : Nat) (0 : Nat))), (Prod.mk (5 : Nat) (num IntKind.i64 (0 : Int))), (Prod.mk (6 : Nat) (T.pb (2 : Nat) (1 : Nat) (0 : Nat))), (Prod.mk (7 : Nat) (num IntKind.i64 (0 : Int)))] [] [(Box.mk (Min.min (1 : Nat) (1 : Nat)) (Option.some [(Cm.d (D.i IntKind.i64 r.fst.mode)), (Cm.d (D.i IntKind.i64 r.fst.win)), (Cm.d (D.i IntKind.i64 r.fst.mps)), (Cm.d (D.i IntKind.i64 r.fst.mtu)), (Cm.d (D.i IntKind.i64 r.fst.try_))])), (Box.mk (Min.min (1 : Nat) (1 : Nat)) (Option.some [(Cm.d (D.i IntKind.i64 r.snd.have_)), (Cm.d (D.r RK.part r.snd.queue)), (Cm.d (D.i IntKind.i64 r.snd.granted)), (Cm.d (D.i IntKind.i64 r.snd.sent)), (Cm.d (D.b r.snd.dead))])), (Box.mk (Min.min (1 : Nat) (1 : Nat)) (Option.some [(Cm.d (D.i IntKind.i64 r.snd.have_)), (Cm.d (D.r RK.part r.snd.queue)), (Cm.d (D.i IntKind.i64 r.snd.granted)), (Cm.d (D.i IntKind.i64 r.snd.sent)), (Cm.d (D.b r.snd.dead))])), (Box.mk (0 : Nat) Option.none), (Box.mk (0 : Nat) Option.none)]) = (KS.mk true [(Prod.mk (3 : Nat) (T.pb (0 : Nat) (1 : Nat) (0 : Nat))), (Prod.mk (4 : Nat) (T.pb (1 : Nat) (1 : Nat) (0 : Nat))), (Prod.mk (5 : Nat) (num IntKind.i64 s.snd.snd.snd.fst)), (Prod.mk (6 : Nat) (T.pb (2 : Nat) (1 : Nat) (0 : Nat))), (Prod.mk (7 : Nat) (num IntKind.i64 s.snd.snd.snd.snd))] [] [(Box.mk (1 : Nat) (Option.some [(Cm.d (D.i IntKind.i64 s.fst.mode)), (Cm.d (D.i IntKind.i64 s.fst.win)), (Cm.d (D.i IntKind.i64 s.fst.mps)), (Cm.d (D.i IntKind.i64 s.fst.mtu)), (Cm.d (D.i IntKind.i64 s.fst.try_))])), (Box.mk (1 : Nat) (Option.some [(Cm.d (D.i IntKind.i64 s.snd.fst.have_)), (Cm.d (D.r RK.part s.snd.fst.queue)), (Cm.d (D.i IntKind.i64 s.snd.fst.granted)), (Cm.d (D.i IntKind.i64 s.snd.fst.sent)), (Cm.d (D.b s.snd.fst.dead))])), (Box.mk (1 : Nat) (Option.some [(Cm.d (D.i IntKind.i64 s.snd.snd.fst.have_)), (Cm.d (D.r RK.part s.snd.snd.fst.queue)), (Cm.d (D.i IntKind.i64 s.snd.snd.fst.granted)), (Cm.d (D.i IntKind.i64 s.snd.snd.fst.sent)), (Cm.d (D.b s.snd.snd.fst.dead))])), (Box.mk (0 : Nat) Option.none), (Box.mk (0 : Nat) Option.none)])) ∧
 ((((CfgP s.fst) ∧
 ((((0 : Int) ≤ s.snd.fst.have_) ∧
 (s.snd.fst.have_ ≤ (255 : Int))) ∧
 ((((0 : Int) ≤ s.snd.fst.granted) ∧
 (s.snd.fst.granted ≤ (9999 : Int))) ∧
 ((((0 : Int) ≤ s.snd.fst.sent) ∧
 (s.snd.fst.sent ≤ (9999 : Int))) ∧
 ((s.snd.fst.have_ = (s.snd.fst.granted - s.snd.fst.sent)) ∧
 (((List.length s.snd.fst.queue) ≤ (24 : Nat)) ∧
 (∀ p : Part,
 (List.Mem p s.snd.fst.queue) →
 (PartP p) ∧
 ((((List.length p.data) : Nat) : Int) ≤ s.fst.mps)))))))) ∧
 ((s.snd.fst.dead = false) ∧
 ((s.snd.snd.fst = s.snd.fst) ∧
 ((s.snd.snd.snd.fst = (0 : Int)) ∧
 (s.snd.snd.snd.snd = (0 : Int)))))) ∧
 ((∀ r2 : (Prod Cfg (Prod CtS (Prod CtS Int))),
 ((r2.fst = s.fst) ∧ ((r2.snd.fst = s.snd.fst) ∧ ((CtP s.fst r2.snd.snd.fst) ∧ (((r2.snd.snd.snd = s.snd.fst.have_) ∨ ((r2.snd.snd.snd = (((List.length s.snd.fst.queue) : Nat) : Int)) ∨ (r2.snd.snd.snd = ((9999 : Int) - s.snd.fst.sent)))) ∧ ((r2.snd.snd.snd ≤ s.snd.fst.have_) ∧ ((r2.snd.snd.snd ≤ (((List.length s.snd.fst.queue) : Nat) : Int)) ∧ (r2.snd.snd.snd ≤ ((9999 : Int) - s.snd.fst.sent)))))))) →
 if ((r2.snd.snd.snd == (if ((if ((IntKind.wrap IntKind.i64 ((9999 : Int) - r2.snd.fst.sent)) < (((List.length r2.snd.fst.queue) : Nat) : Int)) then (IntKind.wrap IntKind.i64 ((9999 : Int) - r2.snd.fst.sent)) else (((List.length r2.snd.fst.queue) : Nat) : Int)) < r2.snd.fst.have_) then (if ((IntKind.wrap IntKind.i64 ((9999 : Int) - r2.snd.fst.sent)) < (((List.length r2.snd.fst.queue) : Nat) : Int)) then (IntKind.wrap IntKind.i64 ((9999 : Int) - r2.snd.fst.sent)) else (((List.length r2.snd.fst.queue) : Nat) : Int)) else r2.snd.fst.have_)) = true) then
 ((true = true) ∧
 (True ∧
 (∀ r3 : Bool,
 (r3 = (decide (CtP r2.fst r2.snd.snd.fst))) →
 (true = true) ∧
 ((true = true) ∧
 (K [(aB r3)] [])))))
 else
 ((true = true) ∧
 (K [(aB false)] []))) ∧
 (∀ r2 : Empty,
 False →
 False)))))))))))) := by
  repeat' first
    | exact rfl
    | exact True.intro
    | with_reducible apply And.intro
    | (with_reducible intro y_ hy_; subst hy_)
    | with_reducible intro y_
    | (refine iteI (fun h => ?_) (fun h => ?_))
  all_goals try simp only [Bool.not_eq_true', decide_eq_false_iff_not, decide_eq_true_eq, Bool.not_eq_true, bne_iff_ne, beq_iff_eq, ne_eq, Decidable.not_not, Bool.not_eq_false, gt_iff_lt, ge_iff_le, Int.not_le, Int.not_lt, beq_eq_false_iff_ne, bne_eq_false_iff_eq, Bool.and_eq_true, Bool.or_eq_true, Bool.true_eq_false, Bool.false_eq_true] at *
  all_goals try simp (disch := first | omega | grind [→ CtP.rng, IntKind.wrap_i64]) only [wr] at *
  all_goals try simp only [CtS.eta] at *
  all_goals first
    | assumption
    | omega
    | (have hP := ‹CtP _ _›
       have h9 := hP.rng
       refine ⟨(Prod.fst _, Prod.snd _, Prod.snd _, 0, 0), rfl, ⟨by assumption, by assumption, rfl, rfl, rfl⟩, ?_, fun _ h => h.elim⟩
       rintro ⟨c1, t1, x1, j1⟩ ⟨hc, ht, hx, hj, a1, a2, a3⟩
       dsimp only at hc ht hx hj a1 a2 a3 ⊢
       subst hc
       subst ht
       rw [wr (by omega) (by omega)]
       refine iteI (fun hq => ?_) (fun hq => ?_)
       · exact ⟨by trivial, by trivial, fun r hr => ⟨by trivial, by trivial, hk _ (by rw [hr]; exact decide_eq_true hx)⟩⟩
       · exfalso
         apply hq
         repeat' split
         all_goals omega)
    | exact hk _ (by grind [→ CtP.rng, IntKind.wrap_i64])
    | (simp only [LIM] at *; omega)
    | grind [→ CtP.rng, IntKind.wrap_i64, LIM]
set_option maxRecDepth 20000 in
theorem vL_laws_FnCrdLimit_0 (c0 : Cfg) (t0 : CtS) (x0 : CtS) (j0 : Int) (k0 : Int) (c : Cfg) (t : CtS) (x : CtS) (j : Int) (k : Int) (n : Nat) (hp : (fun (c : Cfg) (t : CtS) (x : CtS) (j : Int) (k : Int) => (CtP c t ∧ t.dead = false ∧ x = t ∧ j = 0 ∧ k = 0)) c0 t0 x0 j0 k0) (hi : c = c0 ∧ t = t0 ∧ k = j ∧ 0 ≤ j ∧ j ≤ t.have_ ∧ j ≤ t.queue.length ∧ j ≤ 9999 - t.sent ∧ (n : Int) = 300 - j ∧ x = ⟨t.have_ - j, t.queue.drop j.toNat, t.granted, t.sent + j, t.dead⟩ ∧ CtP c x) :
 if ((decide (k < (257 : Int))) = true) then
 ((true = true) ∧
 (True ∧
 (∀ r : CtSendR,
 (r = (crdSend c x)) →
 (true = true) ∧
 (if ((!r.ok) = true) then
 (∃ r1 : (Prod Cfg (Prod CtS (Prod CtS Int))),
 ((KS.mk true [(Prod.mk (3 : Nat) (T.pb (0 : Nat) (1 : Nat) (0 : Nat))), (Prod.mk (4 : Nat) (T.pb (1 : Nat) (1 : Nat) (0 : Nat))), (Prod.mk (5 : Nat) (num IntKind.i64 j)), (Prod.mk (6 : Nat) (T.pb (2 : Nat) (1 : Nat) (0 : Nat)))] [] [(Box.mk (Min.min (1 : Nat) (1 : Nat)) (Option.some [(Cm.d (D.i IntKind.i64 c.mode)), (Cm.d (D.i IntKind.i64 c.win)), (Cm.d (D.i IntKind.i64 c.mps)), (Cm.d (D.i IntKind.i64 c.mtu)), (Cm.d (D.i IntKind.i64 c.try_))])), (Box.mk (Min.min (1 : Nat) (1 : Nat)) (Option.some [(Cm.d (D.i IntKind.i64 t.have_)), (Cm.d (D.r RK.part t.queue)), (Cm.d (D.i IntKind.i64 t.granted)), (Cm.d (D.i IntKind.i64 t.sent)), (Cm.d (D.b t.dead))])), (Box.mk (Min.min (1 : Nat) (1 : Nat)) (Option.some [(Cm.d (D.i IntKind.i64 x.have_)), (Cm.d (D.r RK.part x.queue)), (Cm.d (D.i IntKind.i64 x.granted)), (Cm.d (D.i IntKind.i64 x.sent)), (Cm.d (D.b x.dead))])), (Box.mk (0 : Nat) Option.none), (Box.mk (0 : Nat) Option.none)]) = (KS.mk true [(Prod.mk (3 : Nat) (T.pb (0 : Nat) (1 : Nat) (0 : Nat))), (Prod.mk (4 : Nat) (T.pb (1 : Nat) (1 : Nat) (0 : Nat))), (Prod.mk (5 : Nat) (num IntKind.i64 r1.snd.snd.snd)), (Prod.mk (6 : Nat) (T.pb (2 : Nat) (1 : Nat) (0 : Nat)))] [] [(Box.mk (1 : Nat) (Option.some [(Cm.d (D.i IntKind.i64 r1.fst.mode)), (Cm.d (D.i IntKind.i64 r1.fst.win)), (Cm.d (D.i IntKind.i64 r1.fst.mps)), (Cm.d (D.i IntKind.i64 r1.fst.mtu)), (Cm.d (D.i IntKind.i64 r1.fst.try_))])), (Box.mk (1 : Nat) (Option.some [(Cm.d (D.i IntKind.i64 r1.snd.fst.have_)), (Cm.d (D.r RK.part r1.snd.fst.queue)), (Cm.d (D.i IntKind.i64 r1.snd.fst.granted)), (Cm.d (D.i IntKind.i64 r1.snd.fst.sent)), (Cm.d (D.b r1.snd.fst.dead))])), (Box.mk (1 : Nat) (Option.some [(Cm.d (D.i IntKind.i64 r1.snd.snd.fst.have_)), (Cm.d (D.r RK.part r1.snd.snd.fst.queue)), (Cm.d (D.i IntKind.i64 r1.snd.snd.fst.granted)), (Cm.d (D.i IntKind.i64 r1.snd.snd.fst.sent)), (Cm.d (D.b r1.snd.snd.fst.dead))])), (Box.mk (0 : Nat) Option.none), (Box.mk (0 : Nat) Option.none)])) ∧
 ((r1.fst = c0) ∧
 ((r1.snd.fst = t0) ∧
 (((CfgP c0) ∧
 ((((0 : Int) ≤ r1.snd.snd.fst.have_) ∧
 (r1.snd.snd.fst.have_ ≤ (255 : Int))) ∧
 ((((0 : Int) ≤ r1.snd.snd.fst.granted) ∧
 (r1.snd.snd.fst.granted ≤ (9999 : Int))) ∧
 ((((0 : Int) ≤ r1.snd.snd.fst.sent) ∧
 (r1.snd.snd.fst.sent ≤ (9999 : Int))) ∧
 ((r1.snd.snd.fst.have_ = (r1.snd.snd.fst.granted - r1.snd.snd.fst.sent)) ∧
 (((List.length r1.snd.snd.fst.queue) ≤ (24 : Nat)) ∧
 (∀ p : Part,
 (List.Mem p r1.snd.snd.fst.queue) →
 (PartP p) ∧
 ((((List.length p.data) : Nat) : Int) ≤ c0.mps)))))))) ∧
 (((r1.snd.snd.snd = t0.have_) ∨ ((r1.snd.snd.snd = (((List.length t0.queue) : Nat) : Int)) ∨ (r1.snd.snd.snd = ((9999 : Int) - t0.sent)))) ∧
 ((r1.snd.snd.snd ≤ t0.have_) ∧
 ((r1.snd.snd.snd ≤ (((List.length t0.queue) : Nat) : Int)) ∧
 (r1.snd.snd.snd ≤ ((9999 : Int) - t0.sent)))))))))
 else
 (∃ s : (Prod Cfg (Prod CtS (Prod CtS (Prod Int Int)))),
 ((KS.mk true [(Prod.mk (3 : Nat) (T.pb (0 : Nat) (1 : Nat) (0 : Nat))), (Prod.mk (4 : Nat) (T.pb (1 : Nat) (1 : Nat) (0 : Nat))), (Prod.mk (5 : Nat) (num IntKind.i64 (IntKind.wrap IntKind.i64 (j + (1 : Int))))), (Prod.mk (6 : Nat) (T.pb (2 : Nat) (1 : Nat) (0 : Nat))), (Prod.mk (7 : Nat) (num IntKind.i64 (IntKind.wrap IntKind.i64 (k + (1 : Int)))))] [] [(Box.mk (Min.min (1 : Nat) (1 : Nat)) (Option.some [(Cm.d (D.i IntKind.i64 c.mode)), (Cm.d (D.i IntKind.i64 c.win)), (Cm.d (D.i IntKind.i64 c.mps)), (Cm.d (D.i IntKind.i64 c.mtu)), (Cm.d (D.i IntKind.i64 c.try_))])), (Box.mk (Min.min (1 : Nat) (1 : Nat)) (Option.some [(Cm.d (D.i IntKind.i64 t.have_)), (Cm.d (D.r RK.part t.queue)), (Cm.d (D.i IntKind.i64 t.granted)), (Cm.d (D.i IntKind.i64 t.sent)), (Cm.d (D.b t.dead))])), (Box.mk (Min.min (1 : Nat) (1 : Nat)) (Option.some [(Cm.d (D.i IntKind.i64 r.t.have_)), (Cm.d (D.r RK.part r.t.queue)), (Cm.d (D.i IntKind.i64 r.t.granted)), (Cm.d (D.i IntKind.i64 r.t.sent)), (Cm.d (D.b r.t.dead))])), (Box.mk (0 : Nat) Option.none), (Box.mk (0 : Nat) Option.none)]) = (KS.mk true [(Prod.mk (3 : Nat) (T.pb (0 : Nat) (1 : Nat) (0 : Nat))), (Prod.mk (4 : Nat) (T.pb (1 : Nat) (1 : Nat) (0 : Nat))), (Prod.mk (5 : Nat) (num IntKind.i64 s.snd.snd.snd.fst)), (Prod.mk (6 : Nat) (T.pb (2 : Nat) (1 : Nat) (0 : Nat))), (Prod.mk (7 : Nat) (num IntKind.i64 s.snd.snd.snd.snd))] [] [(Box.mk (1 : Nat) (Option.some [(Cm.d (D.i IntKind.i64 s.fst.mode)), (Cm.d (D.i IntKind.i64 s.fst.win)), (Cm.d (D.i IntKind.i64 s.fst.mps)), (Cm.d (D.i IntKind.i64 s.fst.mtu)), (Cm.d (D.i IntKind.i64 s.fst.try_))])), (Box.mk (1 : Nat) (Option.some [(Cm.d (D.i IntKind.i64 s.snd.fst.have_)), (Cm.d (D.r RK.part s.snd.fst.queue)), (Cm.d (D.i IntKind.i64 s.snd.fst.granted)), (Cm.d (D.i IntKind.i64 s.snd.fst.sent)), (Cm.d (D.b s.snd.fst.dead))])), (Box.mk (1 : Nat) (Option.some [(Cm.d (D.i IntKind.i64 s.snd.snd.fst.have_)), (Cm.d (D.r RK.part s.snd.snd.fst.queue)), (Cm.d (D.i IntKind.i64 s.snd.snd.fst.granted)), (Cm.d (D.i IntKind.i64 s.snd.snd.fst.sent)), (Cm.d (D.b s.snd.snd.fst.dead))])), (Box.mk (0 : Nat) Option.none), (Box.mk (0 : Nat) Option.none)])) ∧
 (∃ m : Nat,
 (m < n) ∧
 ((s.fst = c0) ∧
 ((s.snd.fst = t0) ∧
 ((s.snd.snd.snd.snd = s.snd.snd.snd.fst) ∧
 (((0 : Int) ≤ s.snd.snd.snd.fst) ∧
 ((s.snd.snd.snd.fst ≤ s.snd.fst.have_) ∧
 ((s.snd.snd.snd.fst ≤ (((List.length s.snd.fst.queue) : Nat) : Int)) ∧
 ((s.snd.snd.snd.fst ≤ ((9999 : Int) - s.snd.fst.sent)) ∧
 ((((m : Nat) : Int) = ((300 : Int) - s.snd.snd.snd.fst)) ∧
 ((s.snd.snd.fst = (CtS.mk (s.snd.fst.have_ - s.snd.snd.snd.fst) (List.drop (Int.toNat s.snd.snd.snd.fst) s.snd.fst.queue) s.snd.fst.granted (s.snd.fst.sent + s.snd.snd.snd.fst) s.snd.fst.dead)) ∧
 ((CfgP s.fst) ∧
 ((((0 : Int) ≤ s.snd.snd.fst.have_) ∧
 (s.snd.snd.fst.have_ ≤ (255 : Int))) ∧
 ((((0 : Int) ≤ s.snd.snd.fst.granted) ∧
 (s.snd.snd.fst.granted ≤ (9999 : Int))) ∧
 ((((0 : Int) ≤ s.snd.snd.fst.sent) ∧
 (s.snd.snd.fst.sent ≤ (9999 : Int))) ∧
 ((s.snd.snd.fst.have_ = (s.snd.snd.fst.granted - s.snd.snd.fst.sent)) ∧
 (((List.length s.snd.snd.fst.queue) ≤ (24 : Nat)) ∧
 (∀ p : Part,
 (List.Mem p s.snd.snd.fst.queue) →
 (PartP p) ∧
 ((((List.length p.data) : Nat) : Int) ≤ s.fst.mps)))))))))))))))))))))))
 else
 (∃ r : (Prod Cfg (Prod CtS (Prod CtS Int))),
 ((KS.mk true [(Prod.mk (3 : Nat) (T.pb (0 : Nat) (1 : Nat) (0 : Nat))), (Prod.mk (4 : Nat) (T.pb (1 : Nat) (1 : Nat) (0 : Nat))), (Prod.mk (5 : Nat) (num IntKind.i64 j)), (Prod.mk (6 : Nat) (T.pb (2 : Nat) (1 : Nat) (0 : Nat)))] [] [(Box.mk (Min.min (1 : Nat) (1 : Nat)) (Option.some [(Cm.d (D.i IntKind.i64 c.mode)), (Cm.d (D.i IntKind.i64 c.win)), (Cm.d (D.i IntKind.i64 c.mps)), (Cm.d (D.i IntKind.i64 c.mtu)), (Cm.d (D.i IntKind.i64 c.try_))])), (Box.mk (Min.min (1 : Nat) (1 : Nat)) (Option.some [(Cm.d (D.i IntKind.i64 t.have_)), (Cm.d (D.r RK.part t.queue)), (Cm.d (D.i IntKind.i64 t.granted)), (Cm.d (D.i IntKind.i64 t.sent)), (Cm.d (D.b t.dead))])), (Box.mk (Min.min (1 : Nat) (1 : Nat)) (Option.some [(Cm.d (D.i IntKind.i64 x.have_)), (Cm.d (D.r RK.part x.queue)), (Cm.d (D.i IntKind.i64 x.granted)), (Cm.d (D.i IntKind.i64 x.sent)), (Cm.d (D.b x.dead))])), (Box.mk (0 : Nat) Option.none), (Box.mk (0 : Nat) Option.none)]) = (KS.mk true [(Prod.mk (3 : Nat) (T.pb (0 : Nat) (1 : Nat) (0 : Nat))), (Prod.mk (4 : Nat) (T.pb (1 : Nat) (1 : Nat) (0 : Nat))), (Prod.mk (5 : Nat) (num IntKind.i64 r.snd.snd.snd)), (Prod.mk (6 : Nat) (T.pb (2 : Nat) (1 : Nat) (0 : Nat)))] [] [(Box.mk (1 : Nat) (Option.some [(Cm.d (D.i IntKind.i64 r.fst.mode)), (Cm.d (D.i IntKind.i64 r.fst.win)), (Cm.d (D.i IntKind.i64 r.fst.mps)), (Cm.d (D.i IntKind.i64 r.fst.mtu)), (Cm.d (D.i IntKind.i64 r.fst.try_))])), (Box.mk (1 : Nat) (Option.some [(Cm.d (D.i IntKind.i64 r.snd.fst.have_)), (Cm.d (D.r RK.part r.snd.fst.queue)), (Cm.d (D.i IntKind.i64 r.snd.fst.granted)), (Cm.d (D.i IntKind.i64 r.snd.fst.sent)), (Cm.d (D.b r.snd.fst.dead))])), (Box.mk (1 : Nat) (Option.some [(Cm.d (D.i IntKind.i64 r.snd.snd.fst.have_)), (Cm.d (D.r RK.part r.snd.snd.fst.queue)), (Cm.d (D.i IntKind.i64 r.snd.snd.fst.granted)), (Cm.d (D.i IntKind.i64 r.snd.snd.fst.sent)), (Cm.d (D.b r.snd.snd.fst.dead))])), (Box.mk (0 : Nat) Option.none), (Box.mk (0 : Nat) Option.none)])) ∧
 ((r.fst = c0) ∧
 ((r.snd.fst = t0) ∧
 (((CfgP c0) ∧
 ((((0 : Int) ≤ r.snd.snd.fst.have_) ∧
 (r.snd.snd.fst.have_ ≤ (255 : Int))) ∧
 ((((0 : Int) ≤ r.snd.snd.fst.granted) ∧
 (r.snd.snd.fst.granted ≤ (9999 : Int))) ∧
 ((((0 : Int) ≤ r.snd.snd.fst.sent) ∧
 (r.snd.snd.fst.sent ≤ (9999 : Int))) ∧
 ((r.snd.snd.fst.have_ = (r.snd.snd.fst.granted - r.snd.snd.fst.sent)) ∧
 (((List.length r.snd.snd.fst.queue) ≤ (24 : Nat)) ∧
 (∀ p : Part,
 (List.Mem p r.snd.snd.fst.queue) →
 (PartP p) ∧
 ((((List.length p.data) : Nat) : Int) ≤ c0.mps)))))))) ∧
 (((r.snd.snd.snd = t0.have_) ∨ ((r.snd.snd.snd = (((List.length t0.queue) : Nat) : Int)) ∨ (r.snd.snd.snd = ((9999 : Int) - t0.sent)))) ∧
 ((r.snd.snd.snd ≤ t0.have_) ∧
 ((r.snd.snd.snd ≤ (((List.length t0.queue) : Nat) : Int)) ∧
 (r.snd.snd.snd ≤ ((9999 : Int) - t0.sent))))))))) := by
  try dsimp only at hp
  obtain ⟨p1, p2, _⟩ := hp
  obtain ⟨rfl, rfl, rfl, h1, h2, h3, h4, h5, rfl, h6⟩ := hi
  have h7 := p1.rng
  obtain ⟨k, rfl⟩ : ∃ q : Nat, k = q := ⟨k.toNat, by omega⟩
  simp only [Int.toNat_natCast] at h6 ⊢
  rw [wr (x := (k : Int) + 1) (by omega) (by omega)]
  generalize hX : (⟨t.have_ - k, t.queue.drop k, t.granted, t.sent + k, t.dead⟩ : CtS) = X at h6 ⊢
  by_cases h : (k : Int) < 257
  · rw [if_pos (decide_eq_true h)]
    refine ⟨by trivial, by trivial, fun r hr => ⟨by trivial, ?_⟩⟩
    subst hr
    refine iteI (fun ho => ?_) (fun ho => ?_)
    · have ho' : (crdSend c X).ok = false := by simpa using ho
      have e := (send_not h6 ho').2
      refine ⟨(c, t, X, (k : Int)), by (subst hX; rfl), rfl, rfl, h6, ?_, h2, h3, h4⟩
      subst hX
      dsimp only at e ⊢
      rw [List.length_drop] at e
      rcases e with e | e | e | e
      · rw [p2] at e; cases e
      · left; omega
      · right; left; omega
      · right; right; omega
    · have ho' : (crdSend c X).ok = true := by simpa using ho
      have e := send_yes h6 ho'
      have eq1 : (crdSend c X).t = ⟨t.have_ - ((k + 1 : Nat) : Int), t.queue.drop (k + 1), t.granted, t.sent + ((k + 1 : Nat) : Int), t.dead⟩ := by
        rw [e.1, ← hX]
        dsimp only
        rw [List.drop_drop]
        congr 1 <;> omega
      have hh := e.2.2.1.rng
      have hl := e.2.2.2.2
      have g1 : (crdSend c X).t.have_ = t.have_ - ((k + 1 : Nat) : Int) := by rw [eq1]
      have g2 : (crdSend c X).t.sent = t.sent + ((k + 1 : Nat) : Int) := by rw [eq1]
      rw [← hX] at hl
      dsimp only at hl
      rw [List.length_drop] at hl
      refine ⟨(c, t, (crdSend c X).t, (k : Int) + 1, (k : Int) + 1), rfl, n - 1, by omega, rfl, rfl, rfl, by dsimp only; omega, by dsimp only; omega, by dsimp only; omega, by dsimp only; omega, by dsimp only; omega, ?_, e.2.2.1⟩
      exact eq1
  · exfalso
    omega
theorem vS_laws_FnCrdLimit_0 (c0 : Cfg) (t0 : CtS) (x0 : CtS) (j0 : Int) (k0 : Int) (hp : (fun (c : Cfg) (t : CtS) (x : CtS) (j : Int) (k : Int) => (CtP c t ∧ t.dead = false ∧ x = t ∧ j = 0 ∧ k = 0)) c0 t0 x0 j0 k0) : ∃ n : Nat, (fun (c : Cfg) (t : CtS) (x : CtS) (j : Int) (k : Int) => (c = c0 ∧ t = t0 ∧ k = j ∧ 0 ≤ j ∧ j ≤ t.have_ ∧ j ≤ t.queue.length ∧ j ≤ 9999 - t.sent ∧ (n : Int) = 300 - j ∧ x = ⟨t.have_ - j, t.queue.drop j.toNat, t.granted, t.sent + j, t.dead⟩ ∧ CtP c x)) c0 t0 x0 j0 k0 := by
  try dsimp only at hp
  try dsimp only
  obtain ⟨h1, h2, rfl, rfl, rfl⟩ := hp
  have h3 := h1.rng
  exact ⟨300, rfl, rfl, rfl, by omega, by omega, by omega, by omega, rfl, by simp, h1⟩
theorem w_laws_FnCrdLimit : Valid Try.prog 5 c_laws_FnCrdLimit :=
  valid_ctr2 (V := V_laws_FnCrdLimit) (tysB_ok tys_ok) (CallsL.cons w_laws_liOk (CallsL.cons w_spec_DrawCrdTxOk (CallsL.cons w_spec_CrdTxOk (CallsL.cons w_impl_CrdTxOk (CallsL.cons w_impl_CrdSend (CallsL.nil _)))))) mixed 0 5 Try.func5 rfl (by kernel_rfl)
    (fun c hc => by
      obtain rfl := Option.some.inj hc
      exact ⟨trivial, ⟨⟨trivial, ⟨⟨trivial, trivial⟩, trivial⟩⟩, ⟨trivial, ⟨⟨trivial, ⟨⟨trivial, trivial⟩, trivial⟩⟩, ⟨trivial, ⟨trivial, ⟨⟨trivial, ⟨LoopD.ok2 (V := V_laws_FnCrdLimit) l_laws_FnCrdLimit_0 (LoopsM.cons 0 l_laws_FnCrdLimit_0 LoopsM.nil) 0 _ i_laws_FnCrdLimit_0 (fun x hx => vS_laws_FnCrdLimit_0 x.1 x.2.1 x.2.2.1 x.2.2.2.1 x.2.2.2.2 hx) (fun x hx n s hi => ⟨_, by kernel_rfl, vL_laws_FnCrdLimit_0 x.1 x.2.1 x.2.2.1 x.2.2.2.1 x.2.2.2.2 s.1 s.2.1 s.2.2.1 s.2.2.2.1 s.2.2.2.2 n hx hi⟩), ⟨⟨trivial, ⟨trivial, trivial⟩⟩, ⟨⟨trivial, ⟨⟨trivial, ⟨trivial, trivial⟩⟩, ⟨trivial, trivial⟩⟩⟩, trivial⟩⟩⟩⟩, ⟨trivial, trivial⟩⟩⟩⟩⟩⟩⟩⟩)
    (fun x K hp hk => ⟨_, by kernel_rfl, vF_laws_FnCrdLimit x K hp (fun r h => hk r h)⟩)
end Go.Proofs.YtlapeiijghebjaaE
