/- A part of the proof of laws of the program: what calls of the program answer. Conditions: none. -/
import Derived.Test.YtfcllghcdeifbaaM13625bea
set_option linter.unusedVariables false
set_option linter.unusedSimpArgs false
set_option linter.unusedSectionVars false

/- Contracts: T3. Conditions: none. -/
set_option linter.unusedVariables false
set_option maxHeartbeats 1600000
namespace Go.Proofs.YtfcllghcdeifbaaE
open Go
theorem TxR.f {t : TxS} (h : TxR t) : t.flight.length ≤ 4 := h.2.1
theorem txAcked_eq {t : TxS} {a : Int} (h : TxR t) (h2 : (a - t.acked + 8) % 8 ≤ t.flight.length) : txAcked t a = ⟨t.next, a, t.flight.drop ((a - t.acked + 8) % 8).toNat, if t.sent - (a - t.acked + 8) % 8 > 0 then t.sent - (a - t.acked + 8) % 8 else 0, t.queue, t.asks, t.tries, t.held, t.count + (a - t.acked + 8) % 8, t.dead⟩ := by
  unfold txAcked; rw [if_neg (by omega)]
theorem TxP.fp {c : Cfg} {t : TxS} (h : TxP c t) : ∀ p, List.Mem p t.flight → PartP p := fun p hp => (h.2.2.2.2.2.2.2.2.2.2.1 p hp).1
theorem TxP.fm {c : Cfg} {t : TxS} (h : TxP c t) : ∀ p, List.Mem p t.flight → (p.data.length : Int) ≤ c.mps := fun p hp => (h.2.2.2.2.2.2.2.2.2.2.1 p hp).2
theorem TxP.qp {c : Cfg} {t : TxS} (h : TxP c t) : ∀ p, List.Mem p t.queue → PartP p := fun p hp => (h.2.2.2.2.2.2.2.2.2.2.2 p hp).1
theorem TxP.qm {c : Cfg} {t : TxS} (h : TxP c t) : ∀ p, List.Mem p t.queue → (p.data.length : Int) ≤ c.mps := fun p hp => (h.2.2.2.2.2.2.2.2.2.2.2 p hp).2
theorem txHear1_eq {t : TxS} {f : Frm} (hd : t.dead = false) : txHear1 t f = if (txAcked t f.ack).dead = true then txAcked t f.ack else txSaid (txAcked t f.ack) f := by
  unfold txHear1
  rw [hd, if_neg (by decide)]
  by_cases h : (f.ack - t.acked + 8) % 8 > t.flight.length
  · rw [if_pos h, show txAcked t f.ack = { t with dead := true } from if_pos h, if_pos rfl]
  · have e : (txAcked t f.ack).dead = false := by
      rw [show txAcked t f.ack = _ from if_neg h]; exact hd
    rw [if_neg h, e, if_neg (by decide)]
theorem txHear_in {c : Cfg} {t : TxS} {f : Frm} (h : TxP c t) (hf : FrmP f) (hk : f.kind = 1 ∨ f.kind = 2) : txHear c t f = txHear1 t f := if_pos ⟨h, hf, hk⟩
theorem txHear_go {t : TxS} {f : Frm} (hd : t.dead = false) (hn : (f.ack - t.acked + 8) % 8 ≤ t.flight.length) : txHear1 t f = txSaid ⟨t.next, f.ack, t.flight.drop ((f.ack - t.acked + 8) % 8).toNat, if t.sent - (f.ack - t.acked + 8) % 8 > 0 then t.sent - (f.ack - t.acked + 8) % 8 else 0, t.queue, t.asks, t.tries, t.held, t.count + (f.ack - t.acked + 8) % 8, t.dead⟩ f := by
  unfold txHear1 txAcked
  rw [hd, if_neg (by decide), if_neg (by omega), if_neg (by omega)]
theorem wrap_wait (b : Bool) : IntKind.i64.wrap (2 * bit b) = goWait b := by cases b <;> rfl

/-! impl.TxSend -/
/-! spec.TxSend -/
/-! spec.l6Acked -/
/-! spec.l6Hear -/
/-! spec.l6Tick -/
/-! impl.TxHear -/
/-! spec.TxHear -/
/-! impl.TxTick -/
/-! spec.TxTick -/
/-! impl.TxLeft -/
end Go.Proofs.YtfcllghcdeifbaaE


/- Calls answer what is promised: T3. Conditions: none. -/
set_option linter.unusedVariables false
set_option maxHeartbeats 1600000
namespace Go.Proofs.YtfcllghcdeifbaaE
open Go
end Go.Proofs.YtfcllghcdeifbaaE
