/- A part of the proof of laws of the program: what calls of the program answer. Conditions: none. -/
import Derived.Test.YtfcllghcdeifbaaM6710753b
set_option linter.unusedVariables false
set_option linter.unusedSimpArgs false
set_option linter.unusedSectionVars false

/- Contracts: T2. Conditions: none. -/
set_option linter.unusedVariables false
set_option maxHeartbeats 1600000
namespace Go.Proofs.YtfcllghcdeifbaaE
open Go
structure TxPutR where
  t : TxS
  ok : Bool
def txPut1 (c : Cfg) (t : TxS) (s : List Int) : TxPutR :=
  if t.dead = true ∨ (s.length : Int) > c.mtu ∨ 24 < t.queue.length + (segCut s c.mps).length then ⟨t, false⟩ else ⟨{ t with queue := t.queue ++ segCut s c.mps }, true⟩
def txPut (c : Cfg) (t : TxS) (s : List Int) : TxPutR := if TxP c t then txPut1 c t s else ⟨zTx, false⟩
def dataF (p : Part) (seq ack : Int) : Frm := ⟨1, seq, ack, false, false, 0, p.seg, p.len, p.data⟩
/-- Has who sends to stand? -/
def TxStop (c : Cfg) (t : TxS) : Prop := t.dead = true ∨ t.asks = true ∨ t.held = true ∨ (t.sent = t.flight.length ∧ ((t.flight.length : Int) = c.win ∨ t.queue.length = 0 ∨ t.count + t.flight.length = 9999))
instance (c : Cfg) (t : TxS) : Decidable (TxStop c t) := by unfold TxStop; infer_instance
structure TxSendR where
  t : TxS
  f : Frm
  ok : Bool
def txSend1 (c : Cfg) (t : TxS) (ack : Int) : TxSendR :=
  if TxStop c t then ⟨t, zFrm, false⟩ else
  if t.sent = t.flight.length then ⟨⟨(t.next + 1) % 8, t.acked, t.flight ++ [at_part t.queue 0], t.sent + 1, t.queue.drop 1, t.asks, t.tries, t.held, t.count, t.dead⟩, dataF (at_part (t.flight ++ [at_part t.queue 0]) t.sent.toNat) ((t.acked + t.sent) % 8) ack, true⟩ else
  ⟨{ t with sent := t.sent + 1 }, dataF (at_part t.flight t.sent.toNat) ((t.acked + t.sent) % 8) ack, true⟩
def txSend (c : Cfg) (t : TxS) (ack : Int) : TxSendR := if TxP c t ∧ 0 ≤ ack ∧ ack ≤ 7 then txSend1 c t ack else ⟨zTx, zFrm, false⟩
def txAcked (t : TxS) (ack : Int) : TxS :=
  if (ack - t.acked + 8) % 8 > t.flight.length then { t with dead := true } else
  ⟨t.next, ack, t.flight.drop ((ack - t.acked + 8) % 8).toNat, if t.sent - (ack - t.acked + 8) % 8 > 0 then t.sent - (ack - t.acked + 8) % 8 else 0, t.queue, t.asks, t.tries, t.held, t.count + (ack - t.acked + 8) % 8, t.dead⟩
def txSaid (x : TxS) (f : Frm) : TxS :=
  let h := if f.kind = 2 then f.say == 2 else x.held
  if f.final = true ∧ x.asks = true then ⟨x.next, x.acked, x.flight, 0, x.queue, false, 0, h, x.count, x.dead⟩ else
  if f.kind = 2 ∧ f.say = 1 ∧ x.asks = false then ⟨x.next, x.acked, x.flight, 0, x.queue, x.asks, x.tries, h, x.count, x.dead⟩ else
  { x with held := h }
def txHear1 (t : TxS) (f : Frm) : TxS :=
  if t.dead = true then t else
  if (f.ack - t.acked + 8) % 8 > t.flight.length then { t with dead := true } else txSaid (txAcked t f.ack) f
def TxIn (c : Cfg) (t : TxS) (f : Frm) : Prop := TxP c t ∧ FrmP f ∧ (f.kind = 1 ∨ f.kind = 2)
instance (c : Cfg) (t : TxS) (f : Frm) : Decidable (TxIn c t f) := by unfold TxIn; infer_instance
def txHear (c : Cfg) (t : TxS) (f : Frm) : TxS := if TxIn c t f then txHear1 t f else zTx
def txTick1 (c : Cfg) (t : TxS) (ack : Int) (busy : Bool) : TxSendR :=
  if t.dead = true ∨ (t.flight.length = 0 ∧ t.held = false ∧ t.asks = false) then ⟨t, zFrm, false⟩ else
  if t.tries = c.try_ then ⟨{ t with dead := true }, zFrm, false⟩ else
  ⟨{ t with asks := true, tries := t.tries + 1 }, ⟨2, 0, ack, true, false, goWait busy, 0, 0, []⟩, true⟩
def txTick (c : Cfg) (t : TxS) (ack : Int) (busy : Bool) : TxSendR := if TxP c t ∧ 0 ≤ ack ∧ ack ≤ 7 then txTick1 c t ack busy else ⟨zTx, zFrm, false⟩

/-- Who sends, its pieces rows of one's own: the cells, and out of them. -/
def oTxC (t : TxS) : List AC := [.d (.i .i64 t.next), .d (.i .i64 t.acked), .own ⟨58, .part, t.flight, m0⟩, .d (.i .i64 t.sent), .own ⟨58, .part, t.queue, m0⟩, .d (.b t.asks), .d (.i .i64 t.tries), .d (.b t.held), .d (.i .i64 t.count), .d (.b t.dead)]
def mkTxO : List AC → Option TxS
  | [.d (.i .i64 a0), .d (.i .i64 a1), .own ⟨e1, .part, a2, ⟨none, false, 0, false⟩⟩, .d (.i .i64 a3), .own ⟨e2, .part, a4, ⟨none, false, 0, false⟩⟩, .d (.b a5), .d (.i .i64 a6), .d (.b a7), .d (.i .i64 a8), .d (.b a9)] => if e1 = 58 ∧ e2 = 58 then some ⟨a0, a1, a2, a3, a4, a5, a6, a7, a8, a9⟩ else none
  | _ => none
theorem mkTxO_cells {cs : List AC} {t : TxS} (h : mkTxO cs = some t) : cs = oTxC t := by
  unfold mkTxO at h
  split at h
  · split at h
    · rename_i he
      cases h
      obtain ⟨rfl, rfl⟩ := he
      rfl
    · simp at h
  · simp at h
def oOTx : Arg → Option TxS
  | .v true cs => mkTxO cs
  | _ => none
def rOTx : Rep TxS where
  to t := .v true (oTxC t)
  of := oOTx
  inv a x h _ := by
    unfold oOTx at h
    split at h
    · rw [mkTxO_cells h]
    · simp at h
def oPTx : Arg → Option TxS
  | .p cs => mkTxO cs
  | _ => none
def rPOTx : Rep TxS where
  to t := .p (oTxC t)
  of := oPTx
  inv a x h _ := by
    unfold oPTx at h
    split at h
    · rw [mkTxO_cells h]
    · simp at h
theorem segCut_d (s : List Int) (m : Int) : ∀ p, List.Mem p (segCut s m) → p.data.length ≤ 137438953472 := fun p hp => Nat.le_trans (segCut_data s m p hp) (by decide)
theorem PartsP.d {m : Int} {l : List Part} (h : PartsP m l) : ∀ p, List.Mem p l → p.data.length ≤ 137438953472 := fun p hp => Nat.le_trans (h.data p hp) (by decide)
def TxR (t : TxS) : Prop := (0 ≤ t.acked ∧ t.acked ≤ 7) ∧ t.flight.length ≤ 4 ∧ (0 ≤ t.sent ∧ t.sent ≤ 4) ∧ (0 ≤ t.count ∧ t.count ≤ 9999) ∧ (0 ≤ t.tries ∧ t.tries ≤ 5) ∧ ∀ p ∈ t.flight, p.data.length ≤ 137438953472
theorem TxP.r {c : Cfg} {t : TxS} (h : TxP c t) : TxR t := by
  have h1 := h.rng
  exact ⟨h1.1, h1.2.2.2.1, by omega, h1.2.2.2.2.2.2.2.1, h1.2.2.2.2.2.2.1, h.fdata⟩
theorem FrmP.ack {f : Frm} (h : FrmP f) : 0 ≤ f.ack ∧ f.ack ≤ 7 := by
  unfold FrmP at h
  omega
theorem take_drop_n (l : List Part) (n : Nat) : List.take (((l.length : Nat) : Int).toNat - n) (List.drop n l) = List.drop n l := by
  rw [Int.toNat_natCast]
  exact List.take_of_length_le (by rw [List.length_drop]; omega)

def TxL (t : TxS) : Prop := (t.flight.length ≤ 1000 ∧ ∀ p, List.Mem p t.flight → p.data.length ≤ 137438953472) ∧ t.queue.length ≤ 1000 ∧ ∀ p, List.Mem p t.queue → p.data.length ≤ 137438953472
theorem TxP.l {c : Cfg} {t : TxS} (h : TxP c t) : TxL t := by
  have h1 := h.rng
  exact ⟨⟨by omega, h.fdata⟩, by omega, h.qdata⟩
theorem TxL.z : TxL zTx := by refine ⟨⟨by simp [zTx], fun p h => ?_⟩, by simp [zTx], fun p h => ?_⟩ <;> cases h
theorem txPut1_l {c : Cfg} {t : TxS} {s : List Int} (h : TxP c t) : TxL (txPut1 c t s).t := by
  unfold txPut1
  split
  · exact h.l
  · have h1 := h.rng
    refine ⟨h.l.1, ?_, fun p hp => ?_⟩
    · have := segCut_len s c.mps
      show (t.queue ++ segCut s c.mps).length ≤ 1000
      rw [List.length_append]; omega
    · rcases List.mem_append.1 hp with hp | hp
      · exact h.qdata p hp
      · exact segCut_d _ _ p hp
theorem at0_d {l : List Part} (h : ∀ p, List.Mem p l → p.data.length ≤ 137438953472) (i : Nat) : (at_part l i).data.length ≤ 137438953472 := by
  by_cases hl : i < l.length
  · exact h _ (at_mem .part l i hl)
  · have e : at_part l i = ⟨0, 0, []⟩ := by
      show l.getD i _ = _
      rw [List.getD_eq_getElem?_getD, List.getElem?_eq_none (by omega)]; rfl
    rw [e]; simp
theorem txSend1_l {c : Cfg} {t : TxS} {a : Int} (h : TxP c t) : TxL (txSend1 c t a).t := by
  unfold txSend1
  split
  · exact h.l
  · have h1 := h.rng
    split
    · refine ⟨⟨?_, fun p hp => ?_⟩, ?_, fun p hp => ?_⟩
      · show (t.flight ++ [at_part t.queue 0]).length ≤ 1000
        rw [List.length_append]; simp; omega
      · rcases List.mem_append.1 hp with hp | hp
        · exact h.fdata p hp
        · have := List.mem_singleton.1 hp
          subst this
          exact at0_d h.qdata 0
      · show (t.queue.drop 1).length ≤ 1000
        rw [List.length_drop]; omega
      · exact h.qdata p (List.mem_of_mem_drop hp)
    · exact h.l
theorem txHear1_l {c : Cfg} {t : TxS} {f : Frm} (h : TxP c t) : TxL (txHear1 t f) := by
  have h1 := h.l
  have h2 : TxL (txAcked t f.ack) := by
    unfold txAcked
    split
    · exact h1
    · refine ⟨⟨?_, fun p hp => h1.1.2 p (List.mem_of_mem_drop hp)⟩, h1.2⟩
      show (t.flight.drop _).length ≤ 1000
      have := h1.1.1
      rw [List.length_drop]; omega
  unfold txHear1 txSaid
  dsimp only
  repeat' split
  all_goals first | exact h1 | exact h2
theorem txTick1_l {c : Cfg} {t : TxS} {a : Int} {b : Bool} (h : TxP c t) : TxL (txTick1 c t a b).t := by
  unfold txTick1
  repeat' split
  all_goals exact h.l
theorem stop_t {c : Cfg} {t : TxS} (h : TxStop c t) (a : Int) : txSend1 c t a = ⟨t, zFrm, false⟩ := by unfold txSend1; rw [if_pos h]
theorem send_new {c : Cfg} {t : TxS} (h : ¬ TxStop c t) (hs : t.sent = t.flight.length) (a : Int) : txSend1 c t a = ⟨⟨(t.next + 1) % 8, t.acked, t.flight ++ [at_part t.queue 0], t.sent + 1, t.queue.drop 1, t.asks, t.tries, t.held, t.count, t.dead⟩, dataF (at_part (t.flight ++ [at_part t.queue 0]) t.sent.toNat) ((t.acked + t.sent) % 8) a, true⟩ := by
  unfold txSend1; rw [if_neg h, if_pos hs]
theorem send_old {c : Cfg} {t : TxS} (h : ¬ TxStop c t) (hs : ¬ t.sent = t.flight.length) (a : Int) : txSend1 c t a = ⟨{ t with sent := t.sent + 1 }, dataF (at_part t.flight t.sent.toNat) ((t.acked + t.sent) % 8) a, true⟩ := by
  unfold txSend1; rw [if_neg h, if_neg hs]

/-! impl.TxPut -/
/-! spec.l6Put -/
/-! spec.TxPut -/
/-! spec.l6Frame -/
/-! (*impl.TxState).send -/
/-! spec.l6Send -/
end Go.Proofs.YtfcllghcdeifbaaE


/- Calls answer what is promised: T2. Conditions: none. -/
set_option linter.unusedVariables false
set_option maxHeartbeats 1600000
namespace Go.Proofs.YtfcllghcdeifbaaE
open Go
end Go.Proofs.YtfcllghcdeifbaaE
