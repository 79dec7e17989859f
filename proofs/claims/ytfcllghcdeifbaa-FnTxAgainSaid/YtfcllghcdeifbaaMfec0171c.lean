/- A part of the proof of laws of the program: what calls of the program answer. Conditions: none. -/
import Derived.Test.YtfcllghcdeifbaaM8b7b1f49
set_option linter.unusedVariables false
set_option linter.unusedSimpArgs false
set_option linter.unusedSectionVars false
/- Contracts: LawTx4. Conditions: none. -/
set_option linter.unusedVariables false
set_option maxHeartbeats 1600000
namespace Go.Proofs.YtfcllghcdeifbaaE
open Go
structure TBd (t : TxS) : Prop where
  fl : t.flight.length ≤ 137438953472
  fd : ∀ p, List.Mem p t.flight → p.data.length ≤ 137438953472
  ql : t.queue.length ≤ 137438953472
  qd : ∀ p, List.Mem p t.queue → p.data.length ≤ 137438953472
theorem TxD.b {t : TxS} (h : TxD t) : TBd t := ⟨Nat.le_trans h.fl (by decide), fun p hp => Nat.le_trans (h.fd p hp) (by decide), Nat.le_trans h.ql (by decide), fun p hp => Nat.le_trans (h.qd p hp) (by decide)⟩
theorem TBd.z : TBd zTx := by refine ⟨by simp [zTx], fun p h => ?_, by simp [zTx], fun p h => ?_⟩ <;> cases h
theorem TxL.b {t : TxS} (h : TxL t) : TBd t := ⟨Nat.le_trans h.1.1 (by decide), h.1.2, Nat.le_trans h.2.1 (by decide), h.2.2⟩
theorem txPut_b {c : Cfg} {t : TxS} {s : List Int} : TBd (txPut c t s).t := by
  unfold txPut
  split
  · exact (txPut1_l (by assumption)).b
  · exact TBd.z
theorem txSend_b {c : Cfg} {t : TxS} {a : Int} : TBd (txSend c t a).t := by
  unfold txSend
  split
  · rename_i h; exact (txSend1_l h.1).b
  · exact TBd.z
theorem txHear_b {c : Cfg} {t : TxS} {f : Frm} : TBd (txHear c t f) := by
  unfold txHear
  split
  · rename_i h; exact (txHear1_l h.1).b
  · exact TBd.z
theorem txTick_b {c : Cfg} {t : TxS} {a : Int} {b : Bool} : TBd (txTick c t a b).t := by
  unfold txTick
  split
  · rename_i h; exact (txTick1_l h.1).b
  · exact TBd.z
theorem TxS.eta (t : TxS) : (⟨t.next, t.acked, t.flight, t.sent, t.queue, t.asks, t.tries, t.held, t.count, t.dead⟩ : TxS) = t := rfl
theorem tput_no {c : Cfg} {t : TxS} {s : List Int} (h : ¬ TxP c t) : txPut c t s = ⟨zTx, false⟩ := by unfold txPut; rw [if_neg h]
theorem tput_not {c : Cfg} {t : TxS} {s : List Int} (h : TxP c t) (hn : (txPut c t s).ok = false) : (txPut c t s).t = t ∧ (t.dead = true ∨ c.mtu < (s.length : Int) ∨ 24 < (t.queue.length : Int) + ((segCut s c.mps).length : Int)) := by
  unfold txPut txPut1 at hn ⊢
  rw [if_pos h] at hn ⊢
  split at hn
  · rename_i hc
    rw [if_pos hc]
    refine ⟨rfl, ?_⟩
    rcases hc with hc | hc | hc
    · exact .inl hc
    · exact .inr (.inl hc)
    · exact .inr (.inr (by omega))
  · simp at hn
theorem tput_yes {c : Cfg} {t : TxS} {s : List Int} (h : TxP c t) (hn : (txPut c t s).ok = true) : (txPut c t s).t = ⟨t.next, t.acked, t.flight, t.sent, t.queue ++ segCut s c.mps, t.asks, t.tries, t.held, t.count, t.dead⟩ ∧ TxP c (txPut c t s).t := by
  unfold txPut txPut1 at hn ⊢
  rw [if_pos h] at hn ⊢
  split at hn
  · simp at hn
  · rename_i hc
    rw [if_neg hc]
    refine ⟨rfl, ?_⟩
    obtain ⟨a1, a2, a3, a4, a5, a6, a7, a8, a9, a10, a11, a12⟩ := h
    refine ⟨a1, a2, a3, a4, a5, a6, ?_, a8, a9, a10, a11, a12.append (segCut_ok s)⟩
    show (t.queue ++ segCut s c.mps).length ≤ 24
    rw [List.length_append]; omega
theorem ttick_no {c : Cfg} {t : TxS} {a : Int} {b : Bool} (h : ¬ TxP c t ∨ a < 0 ∨ 7 < a) : txTick c t a b = ⟨zTx, zFrm, false⟩ := by unfold txTick; rw [if_neg (fun hc => by rcases h with h | h | h; exact h hc.1; omega; omega)]
theorem ttick_rest {c : Cfg} {t : TxS} {a : Int} {b : Bool} (h : TxP c t) (h1 : 0 ≤ a) (h2 : a ≤ 7) (hd : t.dead = true ∨ (t.flight.length = 0 ∧ t.held = false ∧ t.asks = false)) : txTick c t a b = ⟨t, zFrm, false⟩ := by
  unfold txTick txTick1; rw [if_pos ⟨h, h1, h2⟩, if_pos hd]
theorem tw_not {t : TxS} (hd : t.dead = false) (hw : ¬ t.flight.length = 0 ∨ t.held = true ∨ t.asks = true) : ¬ (t.dead = true ∨ (t.flight.length = 0 ∧ t.held = false ∧ t.asks = false)) := by
  rw [hd]
  rintro (h | ⟨h, h', h''⟩)
  · cases h
  · rcases hw with hw | hw | hw
    · exact hw h
    · rw [hw] at h'; cases h'
    · rw [hw] at h''; cases h''
theorem ttick_last {c : Cfg} {t : TxS} {a : Int} {b : Bool} (h : TxP c t) (h1 : 0 ≤ a) (h2 : a ≤ 7) (hd : t.dead = false) (hw : ¬ t.flight.length = 0 ∨ t.held = true ∨ t.asks = true) (ht : t.tries = c.try_) : txTick c t a b = ⟨⟨t.next, t.acked, t.flight, t.sent, t.queue, t.asks, t.tries, t.held, t.count, true⟩, zFrm, false⟩ := by
  unfold txTick txTick1
  rw [if_pos ⟨h, h1, h2⟩, if_neg (tw_not hd hw), if_pos ht]
theorem ttick_yes {c : Cfg} {t : TxS} {a : Int} {b : Bool} (h : TxP c t) (h1 : 0 ≤ a) (h2 : a ≤ 7) (hd : t.dead = false) (hw : ¬ t.flight.length = 0 ∨ t.held = true ∨ t.asks = true) (ht : ¬ t.tries = c.try_) : txTick c t a b = ⟨⟨t.next, t.acked, t.flight, t.sent, t.queue, true, t.tries + 1, t.held, t.count, t.dead⟩, ⟨2, 0, a, true, false, goWait b, 0, 0, []⟩, true⟩ ∧ TxP c (txTick c t a b).t := by
  have e : txTick c t a b = ⟨⟨t.next, t.acked, t.flight, t.sent, t.queue, true, t.tries + 1, t.held, t.count, t.dead⟩, ⟨2, 0, a, true, false, goWait b, 0, 0, []⟩, true⟩ := by
    unfold txTick txTick1
    rw [if_pos ⟨h, h1, h2⟩, if_neg (tw_not hd hw), if_neg ht]
  rw [e]
  refine ⟨rfl, ?_⟩
  obtain ⟨a1, a2, a3, a4, a5, a6, a7, a8, a9, a10, a11, a12⟩ := h
  exact ⟨a1, a2, a3, a4, a5, a6, a7, by dsimp only; omega, a9, a10, a11, a12⟩
theorem tsend_no {c : Cfg} {t : TxS} {a : Int} (h : ¬ TxP c t ∨ a < 0 ∨ 7 < a) : txSend c t a = ⟨zTx, zFrm, false⟩ := by unfold txSend; rw [if_neg (fun hc => by rcases h with h | h | h; exact h hc.1; omega; omega)]
theorem tsend_not {c : Cfg} {t : TxS} {a : Int} (h : TxP c t) (h1 : 0 ≤ a) (h2 : a ≤ 7) (hn : (txSend c t a).ok = false) : (txSend c t a).t = t ∧ (txSend c t a).f = zFrm ∧ TxStop c t := by
  unfold txSend txSend1 at hn ⊢
  rw [if_pos ⟨h, h1, h2⟩] at hn ⊢
  split at hn
  · rename_i hc
    rw [if_pos hc]
    exact ⟨rfl, rfl, hc⟩
  · split at hn <;> simp at hn
theorem at_app_left {l k : List Part} {i : Nat} (h : i < l.length) : at_part (l ++ k) i = at_part l i := by
  show (l ++ k).getD i _ = l.getD i _
  rw [List.getD_eq_getElem?_getD, List.getD_eq_getElem?_getD, List.getElem?_append_left h]
theorem at_app_right {l k : List Part} : at_part (l ++ k) l.length = at_part k 0 := by
  show (l ++ k).getD _ _ = k.getD 0 _
  rw [List.getD_eq_getElem?_getD, List.getD_eq_getElem?_getD, List.getElem?_append_right (Nat.le_refl _), Nat.sub_self]
theorem at_app_one {l k : List Part} {p : Part} {i : Nat} (h : i < l.length + 1) (hp : p = at_part k 0) : at_part (l ++ [p]) i = at_part (l ++ k) i := by
  subst hp
  by_cases h2 : i < l.length
  · rw [at_app_left h2, at_app_left h2]
  · obtain rfl : i = l.length := by omega
    rw [at_app_right, at_app_right]; rfl
theorem data_ok {p : Part} {s a : Int} (h : PartP p) (h1 : 0 ≤ s ∧ s ≤ 7) (h2 : 0 ≤ a ∧ a ≤ 7) : FrmP (dataF p s a) := .inl ⟨rfl, h1, h2, rfl, rfl, h⟩
structure SentOk (c : Cfg) (t : TxS) (a : Int) (x : TxS) (f : Frm) : Prop where
  ok : TxP c x
  fok : FrmP f
  left : (x.flight.length : Int) + x.queue.length = (t.flight.length : Int) + t.queue.length
  win : (x.flight.length : Int) ≤ c.win
  seq : f.seq = (t.count + t.sent) % 8
  ack : f.ack = a
  lt : t.sent < ((t.flight ++ t.queue).length : Nat)
  ge : 0 ≤ t.sent
  piece : (⟨f.seg, f.len, f.data⟩ : Part) = at_part (t.flight ++ t.queue) t.sent.toNat
  sent : x.sent = t.sent + 1
  asks : t.asks = false
  held : t.held = false
  dead : t.dead = false
  all : x.flight ++ x.queue = t.flight ++ t.queue
  count : x.count = t.count
  dlen : f.data.length ≤ 24
  xdead : x.dead = false
  xasks : x.asks = false
  xheld : x.held = false
  fl : (x.flight.length : Int) = max (t.flight.length : Int) (t.sent + 1)
theorem head_app {l : List Part} (h : ¬ l.length = 0) : [at_part l 0] ++ l.drop 1 = l := by
  cases l with
  | nil => simp at h
  | cons a l => rfl
theorem tsend_yes {c : Cfg} {t : TxS} {a : Int} (h : TxP c t) (h1 : 0 ≤ a) (h2 : a ≤ 7) (hn : (txSend c t a).ok = true) : SentOk c t a (txSend c t a).t (txSend c t a).f := by
  unfold txSend at hn ⊢
  rw [if_pos ⟨h, h1, h2⟩] at hn ⊢
  by_cases hS : TxStop c t
  · rw [stop_t hS] at hn; simp at hn
  have hR := h.rng
  obtain ⟨a1, a2, a3, a4, a5, a6, a7, a8, a9, a10, a11, a12⟩ := id h
  have hd : t.dead = false := by cases hh : t.dead with
    | false => rfl
    | true => exact absurd (.inl hh) hS
  have ha : t.asks = false := by cases hh : t.asks with
    | false => rfl
    | true => exact absurd (.inr (.inl hh)) hS
  have hh : t.held = false := by cases hh : t.held with
    | false => rfl
    | true => exact absurd (.inr (.inr (.inl hh))) hS
  have hseq : (t.acked + t.sent) % 8 = (t.count + t.sent) % 8 := by omega
  by_cases hs : t.sent = t.flight.length
  · rw [send_new hS hs]
    have hw : ¬ (t.flight.length : Int) = c.win := fun e => hS (.inr (.inr (.inr ⟨hs, .inl e⟩)))
    have hq : ¬ t.queue.length = 0 := fun e => hS (.inr (.inr (.inr ⟨hs, .inr (.inl e)⟩)))
    have hP0 := a12 _ (at0_mem hq)
    have hfl : (t.flight ++ [at_part t.queue 0]).length = t.flight.length + 1 := by rw [List.length_append]; rfl
    have hql : (t.queue.drop 1).length = t.queue.length - 1 := by rw [List.length_drop]
    have hat : at_part (t.flight ++ [at_part t.queue 0]) t.sent.toNat = at_part (t.flight ++ t.queue) t.sent.toNat := at_app_one (by omega) rfl
    have hat2 : at_part (t.flight ++ t.queue) t.sent.toNat = at_part t.queue 0 := by
      rw [hs, Int.toNat_natCast, at_app_right]
    have hPd : (at_part (t.flight ++ [at_part t.queue 0]) t.sent.toNat).data.length ≤ 24 := by
      rw [hat, hat2]
      have := hP0.1
      unfold PartP SegP at this
      omega
    refine ⟨⟨a1, a2, ?_, ?_, ?_, ?_, ?_, a8, a9, a10, a11.append (PartsP.one.2 hP0), fun p hp => a12 p (List.mem_of_mem_drop hp)⟩, data_ok ?_ ?_ ⟨h1, h2⟩, ?_, ?_, hseq, rfl, ?_, by omega, ?_, rfl, ha, hh, hd, ?_, rfl, hPd, hd, ha, hh, ?_⟩
    all_goals try dsimp only
    · omega
    · rw [hfl]; omega
    · rw [hfl]; omega
    · rw [hfl]; omega
    · omega
    · rw [hat, hat2]; exact hP0.1
    · omega
    · rw [hfl, hql]; omega
    · rw [hfl]; omega
    · rw [List.length_append]; omega
    · exact hat
    · rw [List.append_assoc, head_app hq]
    · rw [hfl]; omega
  · rw [send_old hS hs]
    have hlt : t.sent.toNat < t.flight.length := by omega
    have hat : at_part (t.flight ++ t.queue) t.sent.toNat = at_part t.flight t.sent.toNat := at_app_left hlt
    have hP0 := a11 _ (at_mem .part t.flight t.sent.toNat hlt)
    have hP1 : PartP (at_part t.flight t.sent.toNat) := hP0.1
    refine ⟨⟨a1, a2, a3, a4, a5, ?_, a7, a8, a9, a10, a11, a12⟩, data_ok hP1 ?_ ⟨h1, h2⟩, rfl, a5, hseq, rfl, ?_, by omega, ?_, rfl, ha, hh, hd, rfl, rfl, ?_, hd, ha, hh, ?_⟩
    all_goals try dsimp only
    · omega
    · omega
    · rw [List.length_append]; omega
    · exact hat.symm
    · unfold PartP SegP at hP1
      show (at_part t.flight t.sent.toNat).data.length ≤ 24
      omega
    · omega
theorem thear_no {c : Cfg} {t : TxS} {f : Frm} (h : ¬ TxP c t ∨ ¬ FrmP f ∨ (f.kind ≠ 1 ∧ f.kind ≠ 2)) : txHear c t f = zTx := by
  unfold txHear
  rw [if_neg (fun hc => by rcases h with h | h | h; exact h hc.1; exact h hc.2.1; rcases hc.2.2 with h' | h'; exact h.1 h'; exact h.2 h')]
theorem thear_dead {c : Cfg} {t : TxS} {f : Frm} (h : TxP c t) (hf : FrmP f) (hk : f.kind = 1 ∨ f.kind = 2) (hd : t.dead = true) : txHear c t f = t := by
  rw [txHear_in h hf hk]; unfold txHear1; rw [if_pos hd]
theorem thear_far {c : Cfg} {t : TxS} {f : Frm} (h : TxP c t) (hf : FrmP f) (hk : f.kind = 1 ∨ f.kind = 2) (hd : t.dead = false) (hn : (t.flight.length : Int) < (f.ack - t.acked + 8) % 8) : txHear c t f = ⟨t.next, t.acked, t.flight, t.sent, t.queue, t.asks, t.tries, t.held, t.count, true⟩ := by
  rw [txHear_in h hf hk]; unfold txHear1; rw [hd, if_neg (by decide), if_pos (by omega)]
structure HeardOk (c : Cfg) (t : TxS) (f : Frm) (x : TxS) : Prop where
  ok : t.count + t.flight.length ≤ 9999 → TxP c x
  dead : x.dead = false
  flight : x.flight = t.flight.drop ((f.ack - t.acked + 8) % 8).toNat
  queue : x.queue = t.queue
  count : x.count = t.count + (f.ack - t.acked + 8) % 8
  acked : x.acked = f.ack
  next : x.next = t.next
  asksA : t.asks = true → f.final = true → x.asks = false ∧ x.sent = 0 ∧ x.tries = 0
  asksB : t.asks = true → f.final = false → x.asks = true
  asksC : t.asks = false → x.asks = false ∧ x.tries = t.tries
  again : t.asks = false → f.kind = 2 → f.say = 1 → x.sent = 0
  held : f.kind = 2 → x.held = (f.say == 2)
  sent : x.sent = 0 ∨ x.sent = (if t.sent - (f.ack - t.acked + 8) % 8 > 0 then t.sent - (f.ack - t.acked + 8) % 8 else 0)
theorem thear_yes {c : Cfg} {t : TxS} {f : Frm} (h : TxP c t) (hf : FrmP f) (hk : f.kind = 1 ∨ f.kind = 2) (hd : t.dead = false) (hn : (f.ack - t.acked + 8) % 8 ≤ t.flight.length) : HeardOk c t f (txHear c t f) := by
  rw [txHear_in h hf hk, txHear_go hd hn]
  have hA := FrmP.ack hf
  have hR := h.rng
  obtain ⟨a1, a2, a3, a4, a5, a6, a7, a8, a9, a10, a11, a12⟩ := h
  have hdl : ((t.flight.drop ((f.ack - t.acked + 8) % 8).toNat).length : Int) = t.flight.length - (f.ack - t.acked + 8) % 8 := by rw [List.length_drop]; omega
  have hPP : PartsP c.mps (t.flight.drop ((f.ack - t.acked + 8) % 8).toNat) := fun p hp => a11 p (List.mem_of_mem_drop hp)
  unfold txSaid
  dsimp only
  by_cases e1 : f.final = true ∧ t.asks = true
  · rw [if_pos e1]
    refine ⟨fun hc => ⟨a1, hA, a3, by (try dsimp only); omega, by (try dsimp only); omega, by (try dsimp only); omega, a7, by (try dsimp only); omega, by (try dsimp only); omega, by (try dsimp only); omega, hPP, a12⟩, hd, rfl, rfl, rfl, rfl, rfl, fun _ _ => ⟨rfl, rfl, rfl⟩, fun _ h2 => (by rw [e1.1] at h2; cases h2), fun h2 => (by rw [e1.2] at h2; cases h2), fun h2 => (by rw [e1.2] at h2; cases h2), fun h2 => (by (try dsimp only); rw [if_pos h2]), .inl rfl⟩
  · rw [if_neg e1]
    by_cases e2 : f.kind = 2 ∧ f.say = 1 ∧ t.asks = false
    · rw [if_pos e2]
      refine ⟨fun hc => ⟨a1, hA, a3, by (try dsimp only); omega, by (try dsimp only); omega, by (try dsimp only); omega, a7, a8, by (try dsimp only); omega, by (try dsimp only); omega, hPP, a12⟩, hd, rfl, rfl, rfl, rfl, rfl, fun h2 => (by rw [e2.2.2] at h2; cases h2), fun h2 => (by rw [e2.2.2] at h2; cases h2), fun h2 => ⟨h2, rfl⟩, fun _ _ _ => rfl, fun h2 => (by (try dsimp only); rw [if_pos h2]), .inl rfl⟩
    · rw [if_neg e2]
      refine ⟨fun hc => ⟨a1, hA, a3, by (try dsimp only); omega, by (try dsimp only); omega, ?_, a7, a8, by (try dsimp only); omega, by (try dsimp only); omega, hPP, a12⟩, hd, rfl, rfl, rfl, rfl, rfl, fun h2 h3 => absurd ⟨h3, h2⟩ e1, fun h2 _ => h2, fun h2 => ⟨h2, rfl⟩, fun h2 h3 h4 => absurd ⟨h3, h4, h2⟩ e2, fun h2 => (by (try dsimp only); rw [if_pos h2]), .inr rfl⟩
      dsimp only
      split <;> omega
def tSay (a s : Int) : Frm := ⟨2, 0, a, false, false, s, 0, 0, []⟩
theorem tSay_ok {a s : Int} (h1 : 0 ≤ a ∧ a ≤ 7) (h2 : 0 ≤ s ∧ s ≤ 2) : FrmP (tSay a s) := by
  unfold FrmP tSay
  simp
  omega
theorem tall {c : Cfg} {t : TxS} (h : TxP c t) (hd : t.dead = false) (hc : t.count ≤ 1000) : TxP c (txHear c t (tSay t.next 0)) ∧ (txHear c t (tSay t.next 0)).flight = [] ∧ (txHear c t (tSay t.next 0)).sent = 0 ∧ (txHear c t (tSay t.next 0)).count = t.count + t.flight.length ∧ (txHear c t (tSay t.next 0)).held = false ∧ txHear c (txHear c t (tSay t.next 0)) (tSay t.next 0) = txHear c t (tSay t.next 0) := by
  have hR := h.rng
  have hf : FrmP (tSay t.next 0) := tSay_ok ⟨by omega, by omega⟩ (by decide)
  have hfar : ((tSay t.next 0).ack - t.acked + 8) % 8 = t.flight.length := hR.2.2.1
  have H := thear_yes h hf (.inr rfl) hd (by omega)
  generalize hx : txHear c t (tSay t.next 0) = x at H ⊢
  have hP : TxP c x := H.ok (by omega)
  have e1 : x.flight = [] := by
    rw [H.flight, hfar]
    simp
  have e2 : x.sent = 0 := by
    have := H.sent
    rw [hfar] at this
    rcases this with h | h
    · exact h
    · rw [h, if_neg (by omega)]
  have e3 : x.held = false := H.held rfl
  have e5 : (tSay t.next 0).ack = x.acked := H.acked.symm
  refine ⟨hP, e1, e2, by rw [H.count, hfar], e3, ?_⟩
  have e6 : ((tSay t.next 0).ack - x.acked + 8) % 8 = 0 := by rw [e5]; omega
  rw [txHear_in hP hf (.inr rfl), txHear_go H.dead (by omega)]
  rw [e6, e5]
  unfold txSaid tSay
  simp only [e2]
  obtain ⟨x0, x1, x2, x3, x4, x5, x6, x7, x8, x9⟩ := x
  simp at e1 e2 e3 ⊢
  simp [e1, e2, e3]
theorem twrong {c : Cfg} {t : TxS} (h : TxP c t) (hd : t.dead = false) : txHear c t (tSay ((t.next + 1) % 8) 0) = ⟨t.next, t.acked, t.flight, t.sent, t.queue, t.asks, t.tries, t.held, t.count, true⟩ ∧ TxP c ⟨t.next, t.acked, t.flight, t.sent, t.queue, t.asks, t.tries, t.held, t.count, true⟩ := by
  have hR := h.rng
  refine ⟨thear_far h (tSay_ok ⟨by omega, by omega⟩ (by decide)) (.inr rfl) hd ?_, h⟩
  show (t.flight.length : Int) < ((t.next + 1) % 8 - t.acked + 8) % 8
  omega
theorem tsend_dead {c : Cfg} {t : TxS} {a : Int} (hd : t.dead = true) : (txSend c t a).ok = false := by
  unfold txSend
  split
  · rw [stop_t (.inl hd)]
  · rfl
theorem ttick_dead {c : Cfg} {t : TxS} {a : Int} {b : Bool} (hd : t.dead = true) : (txTick c t a b).ok = false := by
  unfold txTick txTick1
  split
  · rw [if_pos (.inl hd)]
  · rfl
theorem tput_dead {c : Cfg} {t : TxS} {s : List Int} (hd : t.dead = true) : (txPut c t s).ok = false := by
  unfold txPut txPut1
  split
  · rw [if_pos (.inl hd)]
  · rfl
theorem tagain {c : Cfg} {t : TxS} {n : Int} (h : TxP c t) (hd : t.dead = false) (hc : t.count ≤ 1000) (ha : t.asks = false) (h0 : 0 ≤ n) (hn : n < t.flight.length) : (txSend c (txHear c t (tSay ((t.acked + n) % 8) 1)) 0).ok = true ∧ (txSend c (txHear c t (tSay ((t.acked + n) % 8) 1)) 0).f.seq = (t.acked + n) % 8 ∧ (txSend c (txHear c t (tSay ((t.acked + n) % 8) 1)) 0).f.data = (at_part t.flight n.toNat).data ∧ (txHear c t (tSay ((t.acked + n) % 8) 1)).count = t.count + n ∧ TxP c (txHear c t (tSay ((t.acked + n) % 8) 1)) := by
  have hR := h.rng
  have hf : FrmP (tSay ((t.acked + n) % 8) 1) := tSay_ok ⟨by omega, by omega⟩ (by decide)
  have hfar : ((tSay ((t.acked + n) % 8) 1).ack - t.acked + 8) % 8 = n := by
    show ((t.acked + n) % 8 - t.acked + 8) % 8 = n
    omega
  have H := thear_yes h hf (.inr rfl) hd (by omega)
  have hA : (txHear c t (tSay ((t.acked + n) % 8) 1)).acked = (t.acked + n) % 8 := H.acked
  generalize txHear c t (tSay ((t.acked + n) % 8) 1) = x at H hA ⊢
  have hP : TxP c x := H.ok (by omega)
  have e1 : x.flight = t.flight.drop n.toNat := by rw [H.flight, hfar]
  have e2 : x.sent = 0 := H.again ha rfl rfl
  have e3 : x.held = false := H.held rfl
  have e4 : x.asks = false := (H.asksC ha).1
  have hl : (x.flight.length : Int) = t.flight.length - n := by rw [e1, List.length_drop]; omega
  have hS : ¬ TxStop c x := by
    unfold TxStop
    rw [H.dead, e3, e4, e2]
    rintro (h | h | h | h)
    · cases h
    · cases h
    · cases h
    · omega
  have e : txSend c x 0 = ⟨{ x with sent := x.sent + 1 }, dataF (at_part x.flight x.sent.toNat) ((x.acked + x.sent) % 8) 0, true⟩ := by
    unfold txSend
    rw [if_pos ⟨hP, by decide, by decide⟩]
    exact send_old hS (by omega) 0
  rw [e]
  refine ⟨rfl, ?_, ?_, by rw [H.count, hfar], hP⟩
  · show (x.acked + x.sent) % 8 = _
    rw [hA, e2]; omega
  · show (at_part x.flight x.sent.toNat).data = _
    rw [e1, e2]
    congr 1
    show (t.flight.drop n.toNat).getD 0 _ = t.flight.getD n.toNat _
    rw [List.getD_eq_getElem?_getD, List.getD_eq_getElem?_getD, List.getElem?_drop]
    rfl
theorem far_eq {t a : Int} (h : 0 ≤ t ∧ t ≤ 7) (h2 : 0 ≤ a ∧ a ≤ 7) : (if 0 ≤ t ∧ t ≤ 7 ∧ 0 ≤ a ∧ a ≤ 7 then (a - t + 8) % 8 else (-1 : Int)) = (a - t + 8) % 8 := if_pos ⟨h.1, h.2, h2.1, h2.2⟩
theorem thear_sum {c : Cfg} {t : TxS} {f : Frm} (h : TxP c t) (hf : FrmP f) (hD : TxD t) : (if 0 ≤ t.acked ∧ t.acked ≤ 7 ∧ 0 ≤ f.ack ∧ f.ack ≤ 7 then (f.ack - t.acked + 8) % 8 else (-1 : Int)) = (f.ack - t.acked + 8) % 8 ∧ (¬ f.kind < 3 → txHear c t f = zTx) ∧ (f.kind < 3 → t.dead = true → txHear c t f = t) ∧
    (f.kind < 3 → t.dead = false → (t.flight.length : Int) < (f.ack - t.acked + 8) % 8 → txHear c t f = ⟨t.next, t.acked, t.flight, t.sent, t.queue, t.asks, t.tries, t.held, t.count, true⟩) ∧
    (f.kind < 3 → t.dead = false → (f.ack - t.acked + 8) % 8 ≤ (t.flight.length : Int) → TxP c (txHear c t f) ∧ (txHear c t f).dead = false ∧ (txHear c t f).flight = t.flight.drop ((f.ack - t.acked + 8) % 8).toNat ∧ (txHear c t f).queue = t.queue ∧ (txHear c t f).count = t.count + (f.ack - t.acked + 8) % 8 ∧ (txHear c t f).acked = f.ack ∧ (txHear c t f).next = t.next ∧
      (t.asks = true → f.final = true → (txHear c t f).asks = false ∧ (txHear c t f).sent = 0 ∧ (txHear c t f).tries = 0) ∧ (t.asks = true → f.final = false → (txHear c t f).asks = true) ∧ (t.asks = false → (txHear c t f).asks = false ∧ (txHear c t f).tries = t.tries) ∧ (t.asks = false → f.kind = 2 → f.say = 1 → (txHear c t f).sent = 0)) := by
  have hR := h.rng
  have hA := FrmP.ack hf
  have hk : f.kind < 3 → f.kind = 1 ∨ f.kind = 2 := fun hk => by
    unfold FrmP at hf
    omega
  refine ⟨far_eq hR.1 hA, fun hn => thear_no (.inr (.inr ⟨by omega, by omega⟩)), fun h1 h2 => thear_dead h hf (hk h1) h2, fun h1 h2 h3 => thear_far h hf (hk h1) h2 h3, fun h1 h2 h3 => ?_⟩
  have H := thear_yes h hf (hk h1) h2 h3
  have hc := hD.ct
  exact ⟨H.ok (by omega), H.dead, H.flight, H.queue, H.count, H.acked, H.next, H.asksA, H.asksB, H.asksC, H.again⟩
theorem thear_alive {c : Cfg} {t : TxS} {f : Frm} (h : TxP c t) (hf : FrmP f) (hD : TxD t) (hk : f.kind < 3) (hd : (txHear c t f).dead = false) : t.dead = false ∧ (f.ack - t.acked + 8) % 8 ≤ (t.flight.length : Int) ∧
    (t.asks = true → f.final = true → (txHear c t f).asks = false ∧ (txHear c t f).sent = 0 ∧ (txHear c t f).tries = 0) ∧ (t.asks = true → f.final = false → (txHear c t f).asks = true) ∧ (t.asks = false → (txHear c t f).asks = false ∧ (txHear c t f).tries = t.tries) ∧ (t.asks = false → f.kind = 2 → f.say = 1 → (txHear c t f).sent = 0) := by
  obtain ⟨_, _, e2, e3, e4⟩ := thear_sum h hf hD
  have hd0 : t.dead = false := by
    cases hh : t.dead with
    | false => rfl
    | true => rw [e2 hk hh, hh] at hd; cases hd
  have hn : (f.ack - t.acked + 8) % 8 ≤ (t.flight.length : Int) := by
    apply Classical.byContradiction
    intro hn
    rw [e3 hk hd0 (by omega)] at hd
    cases hd
  exact ⟨hd0, hn, (e4 hk hd0 hn).2.2.2.2.2.2.2⟩
theorem tsend_sum {c : Cfg} {t : TxS} {a : Int} (h : TxP c t) : (a < 0 ∨ 7 < a → txSend c t a = ⟨zTx, zFrm, false⟩) ∧ (0 ≤ a → a ≤ 7 → (txSend c t a).ok = false → (txSend c t a).t = t ∧ (txSend c t a).f = zFrm) ∧
    (0 ≤ a → a ≤ 7 → (txSend c t a).ok = true → TxP c (txSend c t a).t ∧ FrmP (txSend c t a).f ∧ ((txSend c t a).t.flight.length : Int) + (txSend c t a).t.queue.length = (t.flight.length : Int) + t.queue.length ∧ ((txSend c t a).t.flight.length : Int) ≤ c.win ∧ (txSend c t a).f.seq = (t.count + t.sent) % 8 ∧ (txSend c t a).f.ack = a ∧ t.sent < ((t.flight ++ t.queue).length : Nat) ∧ 0 ≤ t.sent ∧ (⟨(txSend c t a).f.seg, (txSend c t a).f.len, (txSend c t a).f.data⟩ : Part) = at_part (t.flight ++ t.queue) t.sent.toNat ∧ (txSend c t a).t.sent = t.sent + 1 ∧ t.asks = false ∧ t.held = false ∧ t.dead = false) := by
  refine ⟨fun h1 => tsend_no (.inr h1), fun h1 h2 h3 => ⟨(tsend_not h h1 h2 h3).1, (tsend_not h h1 h2 h3).2.1⟩, fun h1 h2 h3 => ?_⟩
  have H := tsend_yes h h1 h2 h3
  exact ⟨H.ok, H.fok, H.left, H.win, H.seq, H.ack, H.lt, H.ge, H.piece, H.sent, H.asks, H.held, H.dead⟩
theorem tsend_fd {c : Cfg} {t : TxS} {a : Int} : (txSend c t a).f.data.length ≤ 137438953472 := by
  by_cases h : TxP c t ∧ 0 ≤ a ∧ a ≤ 7
  · cases hn : (txSend c t a).ok with
    | true => exact Nat.le_trans (tsend_yes h.1 h.2.1 h.2.2 hn).dlen (by decide)
    | false => rw [(tsend_not h.1 h.2.1 h.2.2 hn).2.1]; simp [zFrm]
  · unfold txSend
    rw [if_neg h]
    simp [zFrm]
theorem TxD.cf {c : Cfg} {t : TxS} (h : TxD t) (hp : TxP c t) : t.count + t.flight.length ≤ 9999 := by
  have h1 := h.ct
  have h2 := hp.rng
  omega
theorem tall_w {c : Cfg} {t : TxS} (h : TxP c t) (hd : t.dead = false) (hD : TxD t) : TxP c (txHear c t ⟨2, 0, t.next, false, false, 0, 0, 0, []⟩) ∧ (txHear c t ⟨2, 0, t.next, false, false, 0, 0, 0, []⟩).flight = [] ∧ (txHear c t ⟨2, 0, t.next, false, false, 0, 0, 0, []⟩).sent = 0 ∧ (txHear c t ⟨2, 0, t.next, false, false, 0, 0, 0, []⟩).count = t.count + t.flight.length ∧ (txHear c t ⟨2, 0, t.next, false, false, 0, 0, 0, []⟩).held = false ∧ txHear c (txHear c t ⟨2, 0, t.next, false, false, 0, 0, 0, []⟩) ⟨2, 0, t.next, false, false, 0, 0, 0, []⟩ = txHear c t ⟨2, 0, t.next, false, false, 0, 0, 0, []⟩ := tall h hd (by have := hD.ct; have := h.rng; omega)
theorem twrong_w {c : Cfg} {t : TxS} (h : TxP c t) (hd : t.dead = false) (hD : TxD t) : txHear c t ⟨2, 0, (t.next + 1) % 8, false, false, 0, 0, 0, []⟩ = ⟨t.next, t.acked, t.flight, t.sent, t.queue, t.asks, t.tries, t.held, t.count, true⟩ := (twrong h hd).1
theorem tmod_nat (a b : Nat) : (a : Int).tmod (b : Int) = ((a % b : Nat) : Int) := by rw [Int.tmod_eq_emod_of_nonneg (by omega)]; rfl
theorem tagain_w {c : Cfg} {t : TxS} {n : Int} (h : TxP c t) (hd : t.dead = false) (hD : TxD t) (ha : t.asks = false) (h0 : 0 ≤ n) (hn : n < t.flight.length) : (txSend c (txHear c t ⟨2, 0, (t.acked + n) % 8, false, false, 1, 0, 0, []⟩) 0).ok = true ∧ (txSend c (txHear c t ⟨2, 0, (t.acked + n) % 8, false, false, 1, 0, 0, []⟩) 0).f.seq = (t.acked + n) % 8 ∧ (txSend c (txHear c t ⟨2, 0, (t.acked + n) % 8, false, false, 1, 0, 0, []⟩) 0).f.data = (at_part t.flight n.toNat).data ∧ (txHear c t ⟨2, 0, (t.acked + n) % 8, false, false, 1, 0, 0, []⟩).count = t.count + n ∧ TxP c (txHear c t ⟨2, 0, (t.acked + n) % 8, false, false, 1, 0, 0, []⟩) := tagain h hd (by have := hD.ct; have := h.rng; omega) ha h0 hn
theorem tagain_n {c : Cfg} {t : TxS} {L : Nat} (h : TxP c t) (hd : t.dead = false) (hD : TxD t) (ha : t.asks = false) (hz : ¬ ((t.flight.length : Nat) : Int) = 0) : (0 ≤ ((L % t.flight.length : Nat) : Int) ∧ ((L % t.flight.length : Nat) : Int) < (t.flight.length : Int)) ∧ (txSend c (txHear c t ⟨2, 0, (t.acked + ((L % t.flight.length : Nat) : Int)) % 8, false, false, 1, 0, 0, []⟩) 0).ok = true ∧ (txSend c (txHear c t ⟨2, 0, (t.acked + ((L % t.flight.length : Nat) : Int)) % 8, false, false, 1, 0, 0, []⟩) 0).f.seq = (t.acked + ((L % t.flight.length : Nat) : Int)) % 8 ∧ (txSend c (txHear c t ⟨2, 0, (t.acked + ((L % t.flight.length : Nat) : Int)) % 8, false, false, 1, 0, 0, []⟩) 0).f.data = (at_part t.flight ((L % t.flight.length : Nat) : Int).toNat).data ∧ (txHear c t ⟨2, 0, (t.acked + ((L % t.flight.length : Nat) : Int)) % 8, false, false, 1, 0, 0, []⟩).count = t.count + ((L % t.flight.length : Nat) : Int) ∧ TxP c (txHear c t ⟨2, 0, (t.acked + ((L % t.flight.length : Nat) : Int)) % 8, false, false, 1, 0, 0, []⟩) ∧ (txHear c t ⟨2, 0, (t.acked + ((L % t.flight.length : Nat) : Int)) % 8, false, false, 1, 0, 0, []⟩).count + (txHear c t ⟨2, 0, (t.acked + ((L % t.flight.length : Nat) : Int)) % 8, false, false, 1, 0, 0, []⟩).flight.length ≤ 9999 := by
  have h1 : L % t.flight.length < t.flight.length := Nat.mod_lt _ (by omega)
  have H := tagain_w (n := ((L % t.flight.length : Nat) : Int)) h hd hD ha (by omega) (by omega)
  obtain ⟨a1, a2, a3, a4, a5⟩ := H
  refine ⟨⟨by omega, by omega⟩, a1, a2, a3, a4, a5, ?_⟩
  have h2 := a5.rng
  have h3 := hD.ct
  have h4 := h.rng
  omega
theorem goWait_2 (b : Bool) : (goWait b == 2) = b := by cases b <;> rfl

/-! laws.FnTxAgain -/
def c_laws_FnTxAgain : Ent := ctr (α := (List Int)) (ρ := (Bool)) [] [] (rs1 rBytes) (fun x_ => (fun (l : List Int) => (Bytes l)) x_) (fun x_ r_ => (fun x_ => (fun (l : List Int) => ((fun r_ => (fun (r : Bool) => (r = true)) r_))) x_) x_ r_) (fun r_ => (fun (r : Bool) => ([rB.to r])) r_) (fun r_ => (fun (r : Bool) => ([])) r_)
def V_laws_FnTxAgain : Env := ⟨tys, [(33, c_spec_TxOk), (34, c_impl_TxOk), (35, c_laws_liOk), (36, c_impl_TxSend), (47, c_spec_DrawTxOk), (48, c_impl_TxHear), (50, c_laws_liBytes)], [], [(3, 0), (4, 1), (6, 2), (7, 3), (8, 4), (9, 5)], [], [], [500023, 500027, 500033, 500044, 500071, 500078, 500089], [], [(5, [(0, false), (1, false), (3, false), (4, false), (2, true), (5, true), (6, false), (7, false), (8, true), (9, false), (10, false)]), (10, [(0, false), (1, false), (2, false), (3, false), (4, false), (5, false), (6, false), (7, false), (8, false), (9, false), (10, false), (11, false), (12, false), (13, false), (14, false), (15, false), (16, false), (17, true), (18, false), (19, false), (20, false), (21, false), (22, false), (23, false), (24, false), (25, false), (26, false), (27, false), (28, false)])]⟩
end Go.Proofs.YtfcllghcdeifbaaE

/- Calls answer what is promised: LawTx4. Conditions: none. -/
set_option linter.unusedVariables false
set_option maxHeartbeats 1600000
namespace Go.Proofs.YtfcllghcdeifbaaE
open Go
theorem vF_laws_FnTxAgain (l:List Int) (K:List Arg→List (List AC)→Prop) (hp:Bytes l) (hk:∀ (r:Bool),(r=true)→K ([rB.to r]) ([])):if ((decide ((((List.length l):Nat):Int) > (1048576:Int)))=true) then ((true=true)∧(K [(aB true)] [])) else ((true=true)∧((Bytes l)∧(∀ r:(Prod Cfg TxS),(TxD r.snd)→(true=true)∧((true=true)∧(True∧(∀ r1:Bool,(r1=(decide (TxP r.fst r.snd)))→(true=true)∧(if ((!r1)=true) then ((true=true)∧(True∧(∀ r2:Bool,(r2=(decide (TxP r.fst r.snd)))→(true=true)∧((true=true)∧((true=true)∧(True∧(∀ r3:Bool,(r3=(decide (TxP r.fst r.snd)))→(true=true)∧((true=true)∧(if ((r2 == r3)=true) then ((true=true)∧(True∧(∀ r4:Bool,(r4=true)→(true=true)∧((true=true)∧((true=true)∧(K [(aB r4)] [])))))) else ((true=true)∧((true=true)∧(K [(aB false)] [])))))))))))) else (if (r.snd.dead=true) then ((true=true)∧(True∧(∀ r2:Bool,(r2=(decide (TxP r.fst r.snd)))→(true=true)∧((true=true)∧((true=true)∧(True∧(∀ r3:Bool,(r3=(decide (TxP r.fst r.snd)))→(true=true)∧((true=true)∧(if ((r2 == r3)=true) then ((true=true)∧(True∧(∀ r4:Bool,(r4=true)→(true=true)∧((true=true)∧((true=true)∧(K [(aB r4)] [])))))) else ((true=true)∧((true=true)∧(K [(aB false)] [])))))))))))) else (if (((((List.length r.snd.flight):Nat):Int) == (0:Int))=true) then ((true=true)∧(True∧(∀ r2:Bool,(r2=(decide (TxP r.fst r.snd)))→(true=true)∧((true=true)∧((true=true)∧(True∧(∀ r3:Bool,(r3=(decide (TxP r.fst r.snd)))→(true=true)∧((true=true)∧(if ((r2 == r3)=true) then ((true=true)∧(True∧(∀ r4:Bool,(r4=true)→(true=true)∧((true=true)∧((true=true)∧(K [(aB r4)] [])))))) else ((true=true)∧((true=true)∧(K [(aB false)] [])))))))))))) else (if (r.snd.asks=true) then ((true=true)∧(True∧(∀ r2:Bool,(r2=(decide (TxP r.fst r.snd)))→(true=true)∧((true=true)∧((true=true)∧(True∧(∀ r3:Bool,(r3=(decide (TxP r.fst r.snd)))→(true=true)∧((true=true)∧(if ((r2 == r3)=true) then ((true=true)∧(True∧(∀ r4:Bool,(r4=true)→(true=true)∧((true=true)∧((true=true)∧(K [(aB r4)] [])))))) else ((true=true)∧((true=true)∧(K [(aB false)] [])))))))))))) else (((((List.length r.snd.flight):Nat):Int) ≠ (0:Int))∧(((8:Int) ≠ (0:Int))∧((true=true)∧(((List.length ([]:(List Int)))≤(137438953472:Nat))∧(∀ r2:TxS,(r2=(txHear r.fst r.snd (Frm.mk (2:Int) (0:Int) (Int.tmod (IntKind.wrap IntKind.i64 (r.snd.acked + (Int.tmod (((List.length l):Nat):Int) (((List.length r.snd.flight):Nat):Int)))) (8:Int)) false false (1:Int) (0:Int) (0:Int) ([]:(List Int)))))→(true=true)∧((true=true)∧((((CfgP r.fst)∧((((0:Int)≤r2.acked)∧(r2.acked≤(7:Int)))∧((((0:Int)≤r2.next)∧(r2.next≤(7:Int)))∧(((((r2.next - r2.acked) + (8:Int)) % (8:Int))=(((List.length r2.flight):Nat):Int))∧(((((List.length r2.flight):Nat):Int)≤r.fst.win)∧((((0:Int)≤r2.sent)∧(r2.sent≤(((List.length r2.flight):Nat):Int)))∧(((List.length r2.queue)≤(24:Nat))∧((((0:Int)≤r2.tries)∧(r2.tries≤r.fst.try_))∧((((0:Int)≤r2.count)∧(r2.count≤(9999:Int)))∧(((r2.count % (8:Int))=r2.acked)∧((PartsP r.fst.mps r2.flight)∧(PartsP r.fst.mps r2.queue))))))))))))→((r2.count + (((List.length r2.flight):Nat):Int))≤(9999:Int)))∧(∀ r3:TxSendR,(r3=(txSend r.fst (TxS.mk r2.next r2.acked r2.flight r2.sent r2.queue r2.asks r2.tries r2.held r2.count r2.dead) (0:Int)))→(true=true)∧(if (r3.ok=true) then (if ((r3.f.seq == (Int.tmod (IntKind.wrap IntKind.i64 (r.snd.acked + (Int.tmod (((List.length l):Nat):Int) (((List.length r.snd.flight):Nat):Int)))) (8:Int)))=true) then ((((0:Int)≤(Int.tmod (((List.length l):Nat):Int) (((List.length r.snd.flight):Nat):Int)))∧((Int.tmod (((List.length l):Nat):Int) (((List.length r.snd.flight):Nat):Int)) < (((List.length r.snd.flight):Nat):Int)))∧((true=true)∧((((List.length r3.f.data)≤(137438953472:Nat))∧True)∧(∀ r4:Bool,(r4=(decide (r3.f.data=(at_part r.snd.flight (Int.toNat (Int.tmod (((List.length l):Nat):Int) (((List.length r.snd.flight):Nat):Int)))).data)))→(true=true)∧((true=true)∧(if (r4=true) then ((true=true)∧(K [(aB (r2.count == (IntKind.wrap IntKind.i64 (r.snd.count + (Int.tmod (((List.length l):Nat):Int) (((List.length r.snd.flight):Nat):Int))))))] [])) else ((true=true)∧(K [(aB false)] [])))))))) else ((true=true)∧((true=true)∧(K [(aB false)] [])))) else ((true=true)∧((true=true)∧(K [(aB false)] [])))))))))))))))))))))) := by
  repeat' first
    | exact rfl
    | exact True.intro
    | with_reducible apply And.intro
    | (with_reducible intro y_ hy_; subst hy_)
    | with_reducible intro y_
    | (refine iteI (fun h => ?_) (fun h => ?_))
  all_goals try simp only [Bool.not_eq_true', decide_eq_false_iff_not, decide_eq_true_eq, Bool.not_eq_true, bne_iff_ne, beq_iff_eq, ne_eq, Decidable.not_not, Bool.not_eq_false, gt_iff_lt, ge_iff_le, Int.not_le, Int.not_lt, beq_eq_false_iff_ne, bne_eq_false_iff_eq, Bool.and_eq_true, Bool.or_eq_true, Bool.true_eq_false, Bool.false_eq_true] at *
  all_goals try simp (disch := first | omega | grind [zTx, zFrm]) only [wr] at *
  all_goals try simp only [TxS.eta] at *
  all_goals try have H2 := TxP.rng ‹TxP _ (Prod.snd _)›
  all_goals try simp (disch := omega) only [wr] at *
  all_goals try simp only [tmod_nat] at *
  all_goals try have H1 := tagain_n (L := List.length l) ‹TxP _ (Prod.snd _)› (by assumption) ‹TxD _› (by assumption) (by assumption)
  all_goals try obtain ⟨⟨m1, m2⟩, m3, m4, m5, m6, m7, m8⟩ := H1
  all_goals try simp (disch := omega) only [wr, Int.tmod_eq_emod_of_nonneg] at *
  all_goals first
    | assumption
    | omega
    | exact (TxD.b (by assumption)).fl
    | exact (TxD.b (by assumption)).ql
    | exact (TxD.b (by assumption)).fd _ ‹List.Mem _ _›
    | exact (TxD.b (by assumption)).qd _ ‹List.Mem _ _›
    | exact txPut_b.fl
    | exact txPut_b.ql
    | exact txPut_b.fd _ ‹List.Mem _ _›
    | exact txPut_b.qd _ ‹List.Mem _ _›
    | exact txSend_b.fl
    | exact txSend_b.ql
    | exact txSend_b.fd _ ‹List.Mem _ _›
    | exact txSend_b.qd _ ‹List.Mem _ _›
    | exact txHear_b.fl
    | exact txHear_b.ql
    | exact txHear_b.fd _ ‹List.Mem _ _›
    | exact txHear_b.qd _ ‹List.Mem _ _›
    | exact txTick_b.fl
    | exact txTick_b.ql
    | exact txTick_b.fd _ ‹List.Mem _ _›
    | exact txTick_b.qd _ ‹List.Mem _ _›
    | exact Nat.le_trans (TxD.fl (by assumption)) (by decide)
    | exact Nat.le_trans (TxD.ql (by assumption)) (by decide)
    | exact tsend_fd
    | exact TxD.cf (by assumption) (by assumption)
    | exact hk _ (by grind [zTx, zFrm])
    | (simp only [LIM] at *; omega)
    | grind [zTx, zFrm, LIM]
theorem w_laws_FnTxAgain : Valid Try.prog 11 c_laws_FnTxAgain :=
  valid_ctr2 (V := V_laws_FnTxAgain) (tysB_ok tys_ok) ⟨(CallsL.cons w_spec_TxOk (CallsL.cons w_impl_TxOk (CallsL.cons w_laws_liOk (CallsL.cons w_impl_TxSend (CallsL.cons w_spec_DrawTxOk (CallsL.cons w_impl_TxHear (CallsL.cons w_laws_liBytes (CallsL.nil _)))))))), (IosL.nil _)⟩ mixed 0 6 Try.func11 rfl (by kernel_rfl)
    (fun c hc => by
      obtain rfl := Option.some.inj hc
      exact ⟨trivial, ⟨⟨trivial, ⟨⟨trivial, trivial⟩, trivial⟩⟩, ⟨trivial, ⟨⟨trivial, ⟨⟨trivial, trivial⟩, trivial⟩⟩, ⟨trivial, ⟨trivial, ⟨trivial, ⟨trivial, ⟨trivial, trivial⟩⟩⟩⟩⟩⟩⟩⟩⟩)
    (fun x K hp hk => ⟨_, by kernel_rfl, vF_laws_FnTxAgain x K hp (fun r h => hk r h)⟩)
end Go.Proofs.YtfcllghcdeifbaaE
