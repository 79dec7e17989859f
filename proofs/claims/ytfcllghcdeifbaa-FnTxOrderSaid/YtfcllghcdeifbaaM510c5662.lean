/- A part of the proof of laws of the program: what calls of the program answer. Conditions: none. -/
import Derived.Test.YtfcllghcdeifbaaM8b7b1f49
set_option linter.unusedVariables false
set_option linter.unusedSimpArgs false
set_option linter.unusedSectionVars false
/- Contracts: LawTx5. Conditions: none. -/
set_option linter.unusedVariables false
set_option maxHeartbeats 1600000
namespace Go.Proofs.YtfcllghcdeifbaaE
open Go
structure TBd (t : TxS) : Prop where
  fl : t.flight.length ≤ 137438953472
  fd : ∀ p, List.Mem p t.flight → p.data.length ≤ 137438953472
  ql : t.queue.length ≤ 137438953472
  qd : ∀ p, List.Mem p t.queue → p.data.length ≤ 137438953472
theorem TxD.b {t : TxS} (h : TxD t) : TBd t := ⟨Nat.le_trans h.fl (by decide), fun p hp => Nat.le_trans (h.fd p hp) (by decide), Nat.le_trans h.ql (by decide), fun p hp => Nat.le_trans (h.qd p hp) (by decide)⟩
theorem TBd.z : TBd zTx := by refine ⟨by simp [zTx], fun p h => ?_, by simp [zTx], fun p h => ?_⟩ <;> cases h
theorem TxL.b {t : TxS} (h : TxL t) : TBd t := ⟨Nat.le_trans h.1.1 (by decide), h.1.2, Nat.le_trans h.2.1 (by decide), h.2.2⟩
theorem txPut_b {c : Cfg} {t : TxS} {s : List Int} : TBd (txPut c t s).t := by
  unfold txPut
  split
  · exact (txPut1_l (by assumption)).b
  · exact TBd.z
theorem txSend_b {c : Cfg} {t : TxS} {a : Int} : TBd (txSend c t a).t := by
  unfold txSend
  split
  · rename_i h; exact (txSend1_l h.1).b
  · exact TBd.z
theorem txHear_b {c : Cfg} {t : TxS} {f : Frm} : TBd (txHear c t f) := by
  unfold txHear
  split
  · rename_i h; exact (txHear1_l h.1).b
  · exact TBd.z
theorem txTick_b {c : Cfg} {t : TxS} {a : Int} {b : Bool} : TBd (txTick c t a b).t := by
  unfold txTick
  split
  · rename_i h; exact (txTick1_l h.1).b
  · exact TBd.z
theorem TxS.eta (t : TxS) : (⟨t.next, t.acked, t.flight, t.sent, t.queue, t.asks, t.tries, t.held, t.count, t.dead⟩ : TxS) = t := rfl
theorem tsend_no {c : Cfg} {t : TxS} {a : Int} (h : ¬ TxP c t ∨ a < 0 ∨ 7 < a) : txSend c t a = ⟨zTx, zFrm, false⟩ := by unfold txSend; rw [if_neg (fun hc => by rcases h with h | h | h; exact h hc.1; omega; omega)]
theorem tsend_not {c : Cfg} {t : TxS} {a : Int} (h : TxP c t) (h1 : 0 ≤ a) (h2 : a ≤ 7) (hn : (txSend c t a).ok = false) : (txSend c t a).t = t ∧ (txSend c t a).f = zFrm ∧ TxStop c t := by
  unfold txSend txSend1 at hn ⊢
  rw [if_pos ⟨h, h1, h2⟩] at hn ⊢
  split at hn
  · rename_i hc
    rw [if_pos hc]
    exact ⟨rfl, rfl, hc⟩
  · split at hn <;> simp at hn
theorem at_app_left {l k : List Part} {i : Nat} (h : i < l.length) : at_part (l ++ k) i = at_part l i := by
  show (l ++ k).getD i _ = l.getD i _
  rw [List.getD_eq_getElem?_getD, List.getD_eq_getElem?_getD, List.getElem?_append_left h]
theorem at_app_right {l k : List Part} : at_part (l ++ k) l.length = at_part k 0 := by
  show (l ++ k).getD _ _ = k.getD 0 _
  rw [List.getD_eq_getElem?_getD, List.getD_eq_getElem?_getD, List.getElem?_append_right (Nat.le_refl _), Nat.sub_self]
theorem at_app_one {l k : List Part} {p : Part} {i : Nat} (h : i < l.length + 1) (hp : p = at_part k 0) : at_part (l ++ [p]) i = at_part (l ++ k) i := by
  subst hp
  by_cases h2 : i < l.length
  · rw [at_app_left h2, at_app_left h2]
  · obtain rfl : i = l.length := by omega
    rw [at_app_right, at_app_right]; rfl
theorem data_ok {p : Part} {s a : Int} (h : PartP p) (h1 : 0 ≤ s ∧ s ≤ 7) (h2 : 0 ≤ a ∧ a ≤ 7) : FrmP (dataF p s a) := .inl ⟨rfl, h1, h2, rfl, rfl, h⟩
structure SentOk (c : Cfg) (t : TxS) (a : Int) (x : TxS) (f : Frm) : Prop where
  ok : TxP c x
  fok : FrmP f
  left : (x.flight.length : Int) + x.queue.length = (t.flight.length : Int) + t.queue.length
  win : (x.flight.length : Int) ≤ c.win
  seq : f.seq = (t.count + t.sent) % 8
  ack : f.ack = a
  lt : t.sent < ((t.flight ++ t.queue).length : Nat)
  ge : 0 ≤ t.sent
  piece : (⟨f.seg, f.len, f.data⟩ : Part) = at_part (t.flight ++ t.queue) t.sent.toNat
  sent : x.sent = t.sent + 1
  asks : t.asks = false
  held : t.held = false
  dead : t.dead = false
  all : x.flight ++ x.queue = t.flight ++ t.queue
  count : x.count = t.count
  dlen : f.data.length ≤ 24
  xdead : x.dead = false
  xasks : x.asks = false
  xheld : x.held = false
  fl : (x.flight.length : Int) = max (t.flight.length : Int) (t.sent + 1)
theorem head_app {l : List Part} (h : ¬ l.length = 0) : [at_part l 0] ++ l.drop 1 = l := by
  cases l with
  | nil => simp at h
  | cons a l => rfl
theorem tsend_yes {c : Cfg} {t : TxS} {a : Int} (h : TxP c t) (h1 : 0 ≤ a) (h2 : a ≤ 7) (hn : (txSend c t a).ok = true) : SentOk c t a (txSend c t a).t (txSend c t a).f := by
  unfold txSend at hn ⊢
  rw [if_pos ⟨h, h1, h2⟩] at hn ⊢
  by_cases hS : TxStop c t
  · rw [stop_t hS] at hn; simp at hn
  have hR := h.rng
  obtain ⟨a1, a2, a3, a4, a5, a6, a7, a8, a9, a10, a11, a12⟩ := id h
  have hd : t.dead = false := by cases hh : t.dead with
    | false => rfl
    | true => exact absurd (.inl hh) hS
  have ha : t.asks = false := by cases hh : t.asks with
    | false => rfl
    | true => exact absurd (.inr (.inl hh)) hS
  have hh : t.held = false := by cases hh : t.held with
    | false => rfl
    | true => exact absurd (.inr (.inr (.inl hh))) hS
  have hseq : (t.acked + t.sent) % 8 = (t.count + t.sent) % 8 := by omega
  by_cases hs : t.sent = t.flight.length
  · rw [send_new hS hs]
    have hw : ¬ (t.flight.length : Int) = c.win := fun e => hS (.inr (.inr (.inr ⟨hs, .inl e⟩)))
    have hq : ¬ t.queue.length = 0 := fun e => hS (.inr (.inr (.inr ⟨hs, .inr (.inl e)⟩)))
    have hP0 := a12 _ (at0_mem hq)
    have hfl : (t.flight ++ [at_part t.queue 0]).length = t.flight.length + 1 := by rw [List.length_append]; rfl
    have hql : (t.queue.drop 1).length = t.queue.length - 1 := by rw [List.length_drop]
    have hat : at_part (t.flight ++ [at_part t.queue 0]) t.sent.toNat = at_part (t.flight ++ t.queue) t.sent.toNat := at_app_one (by omega) rfl
    have hat2 : at_part (t.flight ++ t.queue) t.sent.toNat = at_part t.queue 0 := by
      rw [hs, Int.toNat_natCast, at_app_right]
    have hPd : (at_part (t.flight ++ [at_part t.queue 0]) t.sent.toNat).data.length ≤ 24 := by
      rw [hat, hat2]
      have := hP0.1
      unfold PartP SegP at this
      omega
    refine ⟨⟨a1, a2, ?_, ?_, ?_, ?_, ?_, a8, a9, a10, a11.append (PartsP.one.2 hP0), fun p hp => a12 p (List.mem_of_mem_drop hp)⟩, data_ok ?_ ?_ ⟨h1, h2⟩, ?_, ?_, hseq, rfl, ?_, by omega, ?_, rfl, ha, hh, hd, ?_, rfl, hPd, hd, ha, hh, ?_⟩
    all_goals try dsimp only
    · omega
    · rw [hfl]; omega
    · rw [hfl]; omega
    · rw [hfl]; omega
    · omega
    · rw [hat, hat2]; exact hP0.1
    · omega
    · rw [hfl, hql]; omega
    · rw [hfl]; omega
    · rw [List.length_append]; omega
    · exact hat
    · rw [List.append_assoc, head_app hq]
    · rw [hfl]; omega
  · rw [send_old hS hs]
    have hlt : t.sent.toNat < t.flight.length := by omega
    have hat : at_part (t.flight ++ t.queue) t.sent.toNat = at_part t.flight t.sent.toNat := at_app_left hlt
    have hP0 := a11 _ (at_mem .part t.flight t.sent.toNat hlt)
    have hP1 : PartP (at_part t.flight t.sent.toNat) := hP0.1
    refine ⟨⟨a1, a2, a3, a4, a5, ?_, a7, a8, a9, a10, a11, a12⟩, data_ok hP1 ?_ ⟨h1, h2⟩, rfl, a5, hseq, rfl, ?_, by omega, ?_, rfl, ha, hh, hd, rfl, rfl, ?_, hd, ha, hh, ?_⟩
    all_goals try dsimp only
    · omega
    · omega
    · rw [List.length_append]; omega
    · exact hat.symm
    · unfold PartP SegP at hP1
      show (at_part t.flight t.sent.toNat).data.length ≤ 24
      omega
    · omega
theorem tsend_fd {c : Cfg} {t : TxS} {a : Int} : (txSend c t a).f.data.length ≤ 137438953472 := by
  by_cases h : TxP c t ∧ 0 ≤ a ∧ a ≤ 7
  · cases hn : (txSend c t a).ok with
    | true => exact Nat.le_trans (tsend_yes h.1 h.2.1 h.2.2 hn).dlen (by decide)
    | false => rw [(tsend_not h.1 h.2.1 h.2.2 hn).2.1]; simp [zFrm]
  · unfold txSend
    rw [if_neg h]
    simp [zFrm]
theorem TxD.cf {c : Cfg} {t : TxS} (h : TxD t) (hp : TxP c t) : t.count + t.flight.length ≤ 9999 := by
  have h1 := h.ct
  have h2 := hp.rng
  omega
/-- Where sending stands: x behind t, m sent. -/
structure OrdI (c : Cfg) (t : TxS) (al : List Part) (x : TxS) (m : Int) : Prop where
  ok : TxP c x
  all : x.flight ++ x.queue = al
  tall : al = t.flight ++ t.queue
  count : x.count = t.count
  sent : x.sent = m
  fl : (x.flight.length : Int) = max (t.flight.length : Int) m
  ge : 0 ≤ m
  st : x = t ∨ (x.dead = false ∧ x.asks = false ∧ x.held = false)
  d : TBd x
theorem OrdI.start {c : Cfg} {t : TxS} (h : TxP c t) (hd : TBd t) : OrdI c t (t.flight ++ t.queue) t t.sent := by
  have hr := h.rng
  exact ⟨h, rfl, rfl, rfl, rfl, by omega, by omega, .inl rfl, hd⟩
theorem OrdI.len {c : Cfg} {t : TxS} {al : List Part} {x : TxS} {m : Int} (h : OrdI c t al x m) : m ≤ 4 := by
  have := h.ok.rng
  have := h.sent
  omega
theorem OrdI.next {c : Cfg} {t : TxS} {al : List Part} {x : TxS} {m : Int} (h : OrdI c t al x m) (hs : (txSend c x 0).ok = true) :
    OrdI c t al (txSend c x 0).t (m + 1) ∧ m < (al.length : Nat) ∧ (txSend c x 0).f.seq = (t.count + m) % 8 ∧ (⟨(txSend c x 0).f.seg, (txSend c x 0).f.len, (txSend c x 0).f.data⟩ : Part) = at_part al m.toNat := by
  have H := tsend_yes h.ok (by decide) (by decide) hs
  have h2 := h.sent
  have h3 := h.fl
  have h4 := h.all
  have hcnt := h.count
  have hge := h.ge
  have f1 := H.fl
  have f2 := H.sent
  have f3 := H.lt
  have f4 := H.piece
  have f5 := H.seq
  have f6 := H.all
  have f7 := H.count
  rw [h4, h2] at f4
  rw [h4] at f3
  refine ⟨⟨H.ok, f6.trans h4, h.tall, f7.trans hcnt, by omega, by omega, by omega, .inr ⟨H.xdead, H.xasks, H.xheld⟩, txSend_b⟩, by omega, by rw [f5, hcnt, h2], f4⟩
theorem OrdI.stop {c : Cfg} {t : TxS} {al : List Part} {x : TxS} {m : Int} (h : OrdI c t al x m) (hs : (txSend c x 0).ok = false) (hn : ¬ (t.dead = true ∨ t.asks = true ∨ t.held = true)) (hc : t.count + t.flight.length < 9995) :
    m = max (t.flight.length : Int) (min (al.length : Int) c.win) := by
  obtain ⟨_, _, hS⟩ := tsend_not h.ok (by decide) (by decide) hs
  have hr := h.ok.rng
  have hw : (x.flight.length : Int) ≤ c.win := h.ok.2.2.2.2.1
  have hw4 : c.win ≤ 4 := by have := h.ok.1; unfold CfgP at this; omega
  have hx : ¬ (x.dead = true ∨ x.asks = true ∨ x.held = true) := by
    rcases h.st with rfl | ⟨h1, h2, h3⟩
    · exact hn
    · rw [h1, h2, h3]; decide
  have hal : (al.length : Int) = x.flight.length + x.queue.length := by rw [← h.all, List.length_append]; omega
  have hf := h.fl
  have hs2 := h.sent
  have hcn := h.count
  have htl : (t.flight.length : Int) ≤ al.length := by rw [h.tall, List.length_append]; omega
  unfold TxStop at hS
  rcases hS with hS | hS | hS | ⟨e1, e2 | e2 | e2⟩
  · exact absurd (.inl hS) hx
  · exact absurd (.inr (.inl hS)) hx
  · exact absurd (.inr (.inr hS)) hx
  · omega
  · omega
  · omega
theorem goWait_2 (b : Bool) : (goWait b == 2) = b := by cases b <;> rfl

/-! laws.FnTxOrder -/
def c_laws_FnTxOrder : Ent := ctr (α := (List Int)) (ρ := (Bool)) [] [] (rs1 rBytes) (fun x_ => (fun (l : List Int) => (Bytes l)) x_) (fun x_ r_ => (fun x_ => (fun (l : List Int) => ((fun r_ => (fun (r : Bool) => (r = true)) r_))) x_) x_ r_) (fun r_ => (fun (r : Bool) => ([rB.to r])) r_) (fun r_ => (fun (r : Bool) => ([])) r_)
def l_laws_FnTxOrder_0 : LoopD ((Cfg) × (TxS) × (List Part) × (TxS) × (Int) × (Int)) ((Cfg) × (TxS) × (List Part) × (TxS) × (Int)) ((Empty)) where
  n := 123
  head := ⟨[3, 4, 6, 7, 8, 9], [0, 1, 2], [0]⟩
  st := fun x_ => (fun (c : Cfg) (t : TxS) (al : List Part) (x : TxS) (m : Int) (k : Int) => (⟨true, [(3, .pb 0 1 0), (4, .pb 1 1 0), (6, .v false [.ref 0 0]), (7, .pb 2 1 0), (8, num .i64 m), (9, num .i64 k)], [⟨0, some ⟨58, .part, al, m0⟩⟩], [⟨1, some ((cfgC c).map .d)⟩, ⟨1, some ((txC t).map .d)⟩, ⟨1, some ((txC x).map .d)⟩, ⟨0, none⟩, ⟨0, none⟩]⟩)) x_.1 x_.2.1 x_.2.2.1 x_.2.2.2.1 x_.2.2.2.2.1 x_.2.2.2.2.2
  pre := fun x_ => (fun (c : Cfg) (t : TxS) (al : List Part) (x : TxS) (m : Int) (k : Int) => (OrdI c t al x m ∧ x = t ∧ k = 0 ∧ t.count ≤ 1000)) x_.1 x_.2.1 x_.2.2.1 x_.2.2.2.1 x_.2.2.2.2.1 x_.2.2.2.2.2
  nk := ⟨[3, 4, 6, 7, 8], [0, 1, 2], [0]⟩
  nst := fun r_ => (fun (c : Cfg) (t : TxS) (al : List Part) (x : TxS) (m : Int) => (⟨true, [(3, .pb 0 1 0), (4, .pb 1 1 0), (6, .v false [.ref 0 0]), (7, .pb 2 1 0), (8, num .i64 m)], [⟨0, some ⟨58, .part, al, m0⟩⟩], [⟨1, some ((cfgC c).map .d)⟩, ⟨1, some ((txC t).map .d)⟩, ⟨1, some ((txC x).map .d)⟩, ⟨0, none⟩, ⟨0, none⟩]⟩)) r_.1 r_.2.1 r_.2.2.1 r_.2.2.2.1 r_.2.2.2.2
  npost := fun x_ r_ => (fun x_ => (fun (c0 : Cfg) (t0 : TxS) (al0 : List Part) (x0 : TxS) (m0 : Int) (k0 : Int) => ((fun r_ => (fun (c : Cfg) (t : TxS) (al : List Part) (x : TxS) (m : Int) => (c = c0 ∧ t = t0 ∧ al = al0 ∧ OrdI c t al x m ∧ (txSend c x 0).ok = false)) r_.1 r_.2.1 r_.2.2.1 r_.2.2.2.1 r_.2.2.2.2))) x_.1 x_.2.1 x_.2.2.1 x_.2.2.2.1 x_.2.2.2.2.1 x_.2.2.2.2.2) x_ r_
  rk := ⟨[], [], []⟩
  rst := fun _ => ⟨true, [], [], []⟩
  rpost := fun _ _ => False
def i_laws_FnTxOrder_0 (x : (Cfg) × (TxS) × (List Part) × (TxS) × (Int) × (Int)) (n : Nat) (s : (Cfg) × (TxS) × (List Part) × (TxS) × (Int) × (Int)) : Prop := (fun x_ => (fun (c0 : Cfg) (t0 : TxS) (al0 : List Part) (x0 : TxS) (m0 : Int) (k0 : Int) => ((fun s_ => (fun (c : Cfg) (t : TxS) (al : List Part) (x : TxS) (m : Int) (k : Int) => (c = c0 ∧ t = t0 ∧ al = al0 ∧ OrdI c t al x m ∧ 0 ≤ k ∧ k + n = 8 ∧ k ≤ m ∧ t.count ≤ 1000)) s_.1 s_.2.1 s_.2.2.1 s_.2.2.2.1 s_.2.2.2.2.1 s_.2.2.2.2.2))) x_.1 x_.2.1 x_.2.2.1 x_.2.2.2.1 x_.2.2.2.2.1 x_.2.2.2.2.2) x s
def V_laws_FnTxOrder : Env := ⟨tys, [(32, c_spec_DrawTxSend), (33, c_spec_TxOk), (34, c_impl_TxOk), (35, c_laws_liOk), (36, c_impl_TxSend), (37, c_impl_NumOf), (38, c_laws_liPart)], [(33, [0])], [(3, 0), (4, 1), (7, 2), (10, 3), (11, 4)], [(6, ([], [0]))], [(0, l_laws_FnTxOrder_0.L)], [500030, 500060, 500070, 500090, 500094, 500098, 500118], [], [(6, [(1, false), (2, false), (4, false), (5, false), (0, true), (3, true), (6, true), (7, false)]), (14, [(0, false), (1, false), (2, false), (3, false), (4, false), (5, false), (6, false), (7, false), (8, false), (9, false), (10, false), (11, true), (12, false), (13, false), (14, false), (15, false), (16, false), (17, false), (18, false), (19, false), (20, false), (21, false), (22, false), (23, false), (24, false), (25, false), (26, true), (27, false), (28, false)])]⟩
end Go.Proofs.YtfcllghcdeifbaaE

/- Calls answer what is promised: LawTx5. Conditions: none. -/
set_option linter.unusedVariables false
set_option maxHeartbeats 1600000
namespace Go.Proofs.YtfcllghcdeifbaaE
open Go
theorem vF_laws_FnTxOrder (l:List Int) (K:List Arg→List (List AC)→Prop) (hp:Bytes l) (hk:∀ (r:Bool),(r=true)→K ([rB.to r]) ([])):if ((decide ((((List.length l):Nat):Int) > (1048576:Int)))=true) then ((true=true)∧(K [(aB true)] [])) else ((true=true)∧((Bytes l)∧(∀ r:(Prod Cfg (Prod TxS Int)),(TxD r.snd.fst)→(true=true)∧((true=true)∧(True∧(∀ r1:Bool,(r1=(decide (TxP r.fst r.snd.fst)))→(true=true)∧(if ((!r1)=true) then ((true=true)∧(True∧(∀ r2:Bool,(r2=(decide (TxP r.fst r.snd.fst)))→(true=true)∧(if ((!r2)=true) then ((true=true)∧(True∧(∀ r3:Bool,(r3=true)→(true=true)∧((true=true)∧(K [(aB r3)] []))))) else ((true=true)∧(K [(aB false)] [])))))) else ((true=true)∧((((0:Nat) + (List.length r.snd.fst.flight))≤(137438953472:Nat))∧((true=true)∧((((List.length (([]:(List Part)) ++ r.snd.fst.flight:(List Part))) + (List.length r.snd.fst.queue))≤(137438953472:Nat))∧((true=true)∧(∃ s:(Prod Cfg (Prod TxS (Prod (List Part) (Prod TxS (Prod Int Int))))),((KS.mk true [(Prod.mk (3:Nat) (T.pb (0:Nat) (1:Nat) (0:Nat))),(Prod.mk (4:Nat) (T.pb (1:Nat) (1:Nat) (0:Nat))),(Prod.mk (6:Nat) (T.v false [(Cm.ref (0:Nat) (0:Nat))])),(Prod.mk (7:Nat) (T.pb (2:Nat) (1:Nat) (0:Nat))),(Prod.mk (8:Nat) (num IntKind.i64 r.snd.fst.sent)),(Prod.mk (9:Nat) (num IntKind.i64 (0:Int)))] [(Row.mk (0:Nat) (Option.some (RC.mk (58:Nat) RK.part ((([]:(List Part)) ++ r.snd.fst.flight:(List Part)) ++ r.snd.fst.queue:(List Part)) (RM.mk (Option.none) false (0:Nat) false))))] [(Box.mk (Min.min (1:Nat) (1:Nat)) (Option.some [(Cm.d (D.i IntKind.i64 r.fst.mode)),(Cm.d (D.i IntKind.i64 r.fst.win)),(Cm.d (D.i IntKind.i64 r.fst.mps)),(Cm.d (D.i IntKind.i64 r.fst.mtu)),(Cm.d (D.i IntKind.i64 r.fst.try_))])),(Box.mk (Min.min (1:Nat) (1:Nat)) (Option.some [(Cm.d (D.i IntKind.i64 r.snd.fst.next)),(Cm.d (D.i IntKind.i64 r.snd.fst.acked)),(Cm.d (D.r RK.part r.snd.fst.flight)),(Cm.d (D.i IntKind.i64 r.snd.fst.sent)),(Cm.d (D.r RK.part r.snd.fst.queue)),(Cm.d (D.b r.snd.fst.asks)),(Cm.d (D.i IntKind.i64 r.snd.fst.tries)),(Cm.d (D.b r.snd.fst.held)),(Cm.d (D.i IntKind.i64 r.snd.fst.count)),(Cm.d (D.b r.snd.fst.dead))])),(Box.mk (Min.min (1:Nat) (1:Nat)) (Option.some [(Cm.d (D.i IntKind.i64 r.snd.fst.next)),(Cm.d (D.i IntKind.i64 r.snd.fst.acked)),(Cm.d (D.r RK.part r.snd.fst.flight)),(Cm.d (D.i IntKind.i64 r.snd.fst.sent)),(Cm.d (D.r RK.part r.snd.fst.queue)),(Cm.d (D.b r.snd.fst.asks)),(Cm.d (D.i IntKind.i64 r.snd.fst.tries)),(Cm.d (D.b r.snd.fst.held)),(Cm.d (D.i IntKind.i64 r.snd.fst.count)),(Cm.d (D.b r.snd.fst.dead))])),(Box.mk (0:Nat) Option.none),(Box.mk (0:Nat) Option.none)])=(KS.mk true [(Prod.mk (3:Nat) (T.pb (0:Nat) (1:Nat) (0:Nat))),(Prod.mk (4:Nat) (T.pb (1:Nat) (1:Nat) (0:Nat))),(Prod.mk (6:Nat) (T.v false [(Cm.ref (0:Nat) (0:Nat))])),(Prod.mk (7:Nat) (T.pb (2:Nat) (1:Nat) (0:Nat))),(Prod.mk (8:Nat) (num IntKind.i64 s.snd.snd.snd.snd.fst)),(Prod.mk (9:Nat) (num IntKind.i64 s.snd.snd.snd.snd.snd))] [(Row.mk (0:Nat) (Option.some (RC.mk (58:Nat) RK.part s.snd.snd.fst (RM.mk (Option.none) false (0:Nat) false))))] [(Box.mk (1:Nat) (Option.some [(Cm.d (D.i IntKind.i64 s.fst.mode)),(Cm.d (D.i IntKind.i64 s.fst.win)),(Cm.d (D.i IntKind.i64 s.fst.mps)),(Cm.d (D.i IntKind.i64 s.fst.mtu)),(Cm.d (D.i IntKind.i64 s.fst.try_))])),(Box.mk (1:Nat) (Option.some [(Cm.d (D.i IntKind.i64 s.snd.fst.next)),(Cm.d (D.i IntKind.i64 s.snd.fst.acked)),(Cm.d (D.r RK.part s.snd.fst.flight)),(Cm.d (D.i IntKind.i64 s.snd.fst.sent)),(Cm.d (D.r RK.part s.snd.fst.queue)),(Cm.d (D.b s.snd.fst.asks)),(Cm.d (D.i IntKind.i64 s.snd.fst.tries)),(Cm.d (D.b s.snd.fst.held)),(Cm.d (D.i IntKind.i64 s.snd.fst.count)),(Cm.d (D.b s.snd.fst.dead))])),(Box.mk (1:Nat) (Option.some [(Cm.d (D.i IntKind.i64 s.snd.snd.snd.fst.next)),(Cm.d (D.i IntKind.i64 s.snd.snd.snd.fst.acked)),(Cm.d (D.r RK.part s.snd.snd.snd.fst.flight)),(Cm.d (D.i IntKind.i64 s.snd.snd.snd.fst.sent)),(Cm.d (D.r RK.part s.snd.snd.snd.fst.queue)),(Cm.d (D.b s.snd.snd.snd.fst.asks)),(Cm.d (D.i IntKind.i64 s.snd.snd.snd.fst.tries)),(Cm.d (D.b s.snd.snd.snd.fst.held)),(Cm.d (D.i IntKind.i64 s.snd.snd.snd.fst.count)),(Cm.d (D.b s.snd.snd.snd.fst.dead))])),(Box.mk (0:Nat) Option.none),(Box.mk (0:Nat) Option.none)]))∧(((OrdI s.fst s.snd.fst s.snd.snd.fst s.snd.snd.snd.fst s.snd.snd.snd.snd.fst)∧((s.snd.snd.snd.fst=s.snd.fst)∧((s.snd.snd.snd.snd.snd=(0:Int))∧(s.snd.fst.count≤(1000:Int)))))∧((∀ r2:(Prod Cfg (Prod TxS (Prod (List Part) (Prod TxS Int)))),((r2.fst=s.fst)∧((r2.snd.fst=s.snd.fst)∧((r2.snd.snd.fst=s.snd.snd.fst)∧((OrdI r2.fst r2.snd.fst r2.snd.snd.fst r2.snd.snd.snd.fst r2.snd.snd.snd.snd)∧((txSend r2.fst r2.snd.snd.snd.fst (0:Int)).ok=false)))))→if (r2.snd.fst.dead=true) then ((true=true)∧(K [(aB true)] [])) else (if (r2.snd.fst.asks=true) then ((true=true)∧(K [(aB true)] [])) else (if (r2.snd.fst.held=true) then ((true=true)∧(K [(aB true)] [])) else (if ((decide ((IntKind.wrap IntKind.i64 (r2.snd.fst.count + (((List.length r2.snd.fst.flight):Nat):Int))) ≥ (9995:Int)))=true) then ((true=true)∧(K [(aB true)] [])) else (if ((r2.snd.snd.snd.snd == (if ((if (r2.fst.win < (((List.length r2.snd.snd.fst):Nat):Int)) then r2.fst.win else (((List.length r2.snd.snd.fst):Nat):Int)) > (((List.length r2.snd.fst.flight):Nat):Int)) then (if (r2.fst.win < (((List.length r2.snd.snd.fst):Nat):Int)) then r2.fst.win else (((List.length r2.snd.snd.fst):Nat):Int)) else (((List.length r2.snd.fst.flight):Nat):Int)))=true) then ((true=true)∧(True∧(∀ r3:Bool,(r3=(decide (TxP r2.fst r2.snd.snd.snd.fst)))→(true=true)∧((true=true)∧(K [(aB r3)] []))))) else ((true=true)∧(K [(aB false)] [])))))))∧(∀ r2:Empty,False→False)))))))))))))))) := by
  repeat' first
    | exact rfl
    | exact True.intro
    | with_reducible apply And.intro
    | (with_reducible intro y_ hy_; subst hy_)
    | with_reducible intro y_
    | (refine iteI (fun h => ?_) (fun h => ?_))
  all_goals try simp only [Bool.not_eq_true', decide_eq_false_iff_not, decide_eq_true_eq, Bool.not_eq_true, bne_iff_ne, beq_iff_eq, ne_eq, Decidable.not_not, Bool.not_eq_false, gt_iff_lt, ge_iff_le, Int.not_le, Int.not_lt, beq_eq_false_iff_ne, bne_eq_false_iff_eq, Bool.and_eq_true, Bool.or_eq_true, Bool.true_eq_false, Bool.false_eq_true] at *
  all_goals try simp (disch := first | omega | grind [zTx, zFrm]) only [wr] at *
  all_goals try simp only [TxS.eta] at *
  all_goals first
    | assumption
    | omega
    | exact (TxD.b (by assumption)).fl
    | exact (TxD.b (by assumption)).ql
    | exact (TxD.b (by assumption)).fd _ ‹List.Mem _ _›
    | exact (TxD.b (by assumption)).qd _ ‹List.Mem _ _›
    | exact txPut_b.fl
    | exact txPut_b.ql
    | exact txPut_b.fd _ ‹List.Mem _ _›
    | exact txPut_b.qd _ ‹List.Mem _ _›
    | exact txSend_b.fl
    | exact txSend_b.ql
    | exact txSend_b.fd _ ‹List.Mem _ _›
    | exact txSend_b.qd _ ‹List.Mem _ _›
    | exact txHear_b.fl
    | exact txHear_b.ql
    | exact txHear_b.fd _ ‹List.Mem _ _›
    | exact txHear_b.qd _ ‹List.Mem _ _›
    | exact txTick_b.fl
    | exact txTick_b.ql
    | exact txTick_b.fd _ ‹List.Mem _ _›
    | exact txTick_b.qd _ ‹List.Mem _ _›
    | exact Nat.le_trans (TxD.fl (by assumption)) (by decide)
    | exact Nat.le_trans (TxD.ql (by assumption)) (by decide)
    | (have h9 := TxP.rng ‹TxP (Prod.fst _) (Prod.fst (Prod.snd _))›; omega)
    | (have h9 := TxP.rng ‹TxP (Prod.fst _) (Prod.fst (Prod.snd _))›; rw [List.nil_append]; omega)
    | (have hP := ‹TxP (Prod.fst _) (Prod.fst (Prod.snd _))›
       have hD := ‹TxD _›
       have h9 := hP.rng
       have h8 := hD.ct
       refine ⟨(Prod.fst _, Prod.fst (Prod.snd _), _, Prod.fst (Prod.snd _), _, 0), rfl, ⟨OrdI.start hP hD.b, rfl, rfl, by (dsimp only; omega)⟩, ?_, fun _ h => h.elim⟩
       rintro ⟨c1, t1, a1, x1, m1⟩ ⟨e1, e2, e3, H, hs⟩
       dsimp only at e1 e2 e3 H hs ⊢
       subst e1
       subst e2
       subst e3
       refine iteI (fun q1 => ⟨trivial, hk _ rfl⟩) (fun q1 => ?_)
       refine iteI (fun q2 => ⟨trivial, hk _ rfl⟩) (fun q2 => ?_)
       refine iteI (fun q3 => ⟨trivial, hk _ rfl⟩) (fun q3 => ?_)
       refine iteI (fun q4 => ⟨trivial, hk _ rfl⟩) (fun q4 => ?_)
       rw [wr (by omega) (by omega)] at q4
       refine iteI (fun q5 => ?_) (fun q5 => ?_)
       · exact ⟨trivial, trivial, fun r3 hr3 => ⟨trivial, trivial, hk _ (by rw [hr3]; exact decide_eq_true H.ok)⟩⟩
       · exfalso
         have h7 := H.stop hs (fun hc => by rcases hc with hc | hc | hc; exact q1 hc; exact q2 hc; exact q3 hc) (by omega)
         apply q5
         rw [h7]
         repeat' split
         all_goals omega)
    | exact tsend_fd
    | exact TxD.cf (by assumption) (by assumption)
    | exact hk _ (by grind [zTx, zFrm])
    | (simp only [LIM] at *; omega)
    | grind [zTx, zFrm, LIM]
theorem vL_laws_FnTxOrder_0 (c0:Cfg) (t0:TxS) (al0:List Part) (x0:TxS) (m0:Int) (k0:Int) (c:Cfg) (t:TxS) (al:List Part) (x:TxS) (m:Int) (k:Int) (n:Nat) (hp:(fun (c:Cfg) (t:TxS) (al:List Part) (x:TxS) (m:Int) (k:Int) => (OrdI c t al x m∧x=t∧k=0∧t.count≤1000)) c0 t0 al0 x0 m0 k0) (hi:c=c0∧t=t0∧al=al0∧OrdI c t al x m∧0≤k∧k + n=8∧k≤m∧t.count≤1000):if ((decide (k < (8:Int)))=true) then ((true=true)∧((((CfgP c)∧((((0:Int)≤x.acked)∧(x.acked≤(7:Int)))∧((((0:Int)≤x.next)∧(x.next≤(7:Int)))∧(((((x.next - x.acked) + (8:Int)) % (8:Int))=(((List.length x.flight):Nat):Int))∧(((((List.length x.flight):Nat):Int)≤c.win)∧((((0:Int)≤x.sent)∧(x.sent≤(((List.length x.flight):Nat):Int)))∧(((List.length x.queue)≤(24:Nat))∧((((0:Int)≤x.tries)∧(x.tries≤c.try_))∧((((0:Int)≤x.count)∧(x.count≤(9999:Int)))∧(((x.count % (8:Int))=x.acked)∧((PartsP c.mps x.flight)∧(PartsP c.mps x.queue))))))))))))→((x.count + (((List.length x.flight):Nat):Int))≤(9999:Int)))∧(∀ r:TxSendR,(r=(txSend c x (0:Int)))→(true=true)∧(if ((!r.ok)=true) then (∃ r1:(Prod Cfg (Prod TxS (Prod (List Part) (Prod TxS Int)))),((KS.mk true [(Prod.mk (3:Nat) (T.pb (0:Nat) (1:Nat) (0:Nat))),(Prod.mk (4:Nat) (T.pb (1:Nat) (1:Nat) (0:Nat))),(Prod.mk (6:Nat) (T.v false [(Cm.ref (0:Nat) (0:Nat))])),(Prod.mk (7:Nat) (T.pb (2:Nat) (1:Nat) (0:Nat))),(Prod.mk (8:Nat) (num IntKind.i64 m))] [(Row.mk (0:Nat) (Option.some (RC.mk (58:Nat) RK.part al (RM.mk (Option.none) false (0:Nat) false))))] [(Box.mk (Min.min (1:Nat) (1:Nat)) (Option.some [(Cm.d (D.i IntKind.i64 c.mode)),(Cm.d (D.i IntKind.i64 c.win)),(Cm.d (D.i IntKind.i64 c.mps)),(Cm.d (D.i IntKind.i64 c.mtu)),(Cm.d (D.i IntKind.i64 c.try_))])),(Box.mk (Min.min (1:Nat) (1:Nat)) (Option.some [(Cm.d (D.i IntKind.i64 t.next)),(Cm.d (D.i IntKind.i64 t.acked)),(Cm.d (D.r RK.part t.flight)),(Cm.d (D.i IntKind.i64 t.sent)),(Cm.d (D.r RK.part t.queue)),(Cm.d (D.b t.asks)),(Cm.d (D.i IntKind.i64 t.tries)),(Cm.d (D.b t.held)),(Cm.d (D.i IntKind.i64 t.count)),(Cm.d (D.b t.dead))])),(Box.mk (Min.min (1:Nat) (1:Nat)) (Option.some [(Cm.d (D.i IntKind.i64 x.next)),(Cm.d (D.i IntKind.i64 x.acked)),(Cm.d (D.r RK.part x.flight)),(Cm.d (D.i IntKind.i64 x.sent)),(Cm.d (D.r RK.part x.queue)),(Cm.d (D.b x.asks)),(Cm.d (D.i IntKind.i64 x.tries)),(Cm.d (D.b x.held)),(Cm.d (D.i IntKind.i64 x.count)),(Cm.d (D.b x.dead))])),(Box.mk (0:Nat) Option.none),(Box.mk (0:Nat) Option.none)])=(KS.mk true [(Prod.mk (3:Nat) (T.pb (0:Nat) (1:Nat) (0:Nat))),(Prod.mk (4:Nat) (T.pb (1:Nat) (1:Nat) (0:Nat))),(Prod.mk (6:Nat) (T.v false [(Cm.ref (0:Nat) (0:Nat))])),(Prod.mk (7:Nat) (T.pb (2:Nat) (1:Nat) (0:Nat))),(Prod.mk (8:Nat) (num IntKind.i64 r1.snd.snd.snd.snd))] [(Row.mk (0:Nat) (Option.some (RC.mk (58:Nat) RK.part r1.snd.snd.fst (RM.mk (Option.none) false (0:Nat) false))))] [(Box.mk (1:Nat) (Option.some [(Cm.d (D.i IntKind.i64 r1.fst.mode)),(Cm.d (D.i IntKind.i64 r1.fst.win)),(Cm.d (D.i IntKind.i64 r1.fst.mps)),(Cm.d (D.i IntKind.i64 r1.fst.mtu)),(Cm.d (D.i IntKind.i64 r1.fst.try_))])),(Box.mk (1:Nat) (Option.some [(Cm.d (D.i IntKind.i64 r1.snd.fst.next)),(Cm.d (D.i IntKind.i64 r1.snd.fst.acked)),(Cm.d (D.r RK.part r1.snd.fst.flight)),(Cm.d (D.i IntKind.i64 r1.snd.fst.sent)),(Cm.d (D.r RK.part r1.snd.fst.queue)),(Cm.d (D.b r1.snd.fst.asks)),(Cm.d (D.i IntKind.i64 r1.snd.fst.tries)),(Cm.d (D.b r1.snd.fst.held)),(Cm.d (D.i IntKind.i64 r1.snd.fst.count)),(Cm.d (D.b r1.snd.fst.dead))])),(Box.mk (1:Nat) (Option.some [(Cm.d (D.i IntKind.i64 r1.snd.snd.snd.fst.next)),(Cm.d (D.i IntKind.i64 r1.snd.snd.snd.fst.acked)),(Cm.d (D.r RK.part r1.snd.snd.snd.fst.flight)),(Cm.d (D.i IntKind.i64 r1.snd.snd.snd.fst.sent)),(Cm.d (D.r RK.part r1.snd.snd.snd.fst.queue)),(Cm.d (D.b r1.snd.snd.snd.fst.asks)),(Cm.d (D.i IntKind.i64 r1.snd.snd.snd.fst.tries)),(Cm.d (D.b r1.snd.snd.snd.fst.held)),(Cm.d (D.i IntKind.i64 r1.snd.snd.snd.fst.count)),(Cm.d (D.b r1.snd.snd.snd.fst.dead))])),(Box.mk (0:Nat) Option.none),(Box.mk (0:Nat) Option.none)]))∧((r1.fst=c0)∧((r1.snd.fst=t0)∧((r1.snd.snd.fst=al0)∧((OrdI r1.fst r1.snd.fst r1.snd.snd.fst r1.snd.snd.snd.fst r1.snd.snd.snd.snd)∧((txSend r1.fst r1.snd.snd.snd.fst (0:Int)).ok=false)))))) else (if ((decide (m ≥ (((List.length al):Nat):Int)))=true) then ((true=true)∧((true=true)∧(∃ r1:Empty,((KS.mk true [] [(Row.mk (0:Nat) Option.none)] [(Box.mk (0:Nat) Option.none),(Box.mk (0:Nat) Option.none),(Box.mk (0:Nat) Option.none),(Box.mk (0:Nat) Option.none),(Box.mk (0:Nat) Option.none)])=(KS.mk true [] [] []))∧False))) else ((true=true)∧(True∧(∀ r1:Int,(r1=(if ((IntKind.wrap IntKind.i64 (t.count + m)) < (0:Int)) then (-1:Int) else ((IntKind.wrap IntKind.i64 (t.count + m)) % (8:Int))))→(true=true)∧((true=true)∧(if ((r.f.seq != r1)=true) then ((true=true)∧(∃ r2:Empty,((KS.mk true [] [(Row.mk (0:Nat) Option.none)] [(Box.mk (0:Nat) Option.none),(Box.mk (0:Nat) Option.none),(Box.mk (0:Nat) Option.none),(Box.mk (0:Nat) Option.none),(Box.mk (0:Nat) Option.none)])=(KS.mk true [] [] []))∧False)) else ((((0:Int)≤m)∧(m < (((List.length al):Nat):Int)))∧((true=true)∧(((List.length r.f.data)≤(137438953472:Nat))∧(∀ r2:Bool,(r2=(decide ((Part.mk r.f.seg r.f.len r.f.data)=(at_part al (Int.toNat m)))))→(true=true)∧((true=true)∧(if ((!r2)=true) then (∃ r3:Empty,((KS.mk true [] [(Row.mk (0:Nat) Option.none)] [(Box.mk (0:Nat) Option.none),(Box.mk (0:Nat) Option.none),(Box.mk (0:Nat) Option.none),(Box.mk (0:Nat) Option.none),(Box.mk (0:Nat) Option.none)])=(KS.mk true [] [] []))∧False) else (∃ s:(Prod Cfg (Prod TxS (Prod (List Part) (Prod TxS (Prod Int Int))))),((KS.mk true [(Prod.mk (3:Nat) (T.pb (0:Nat) (1:Nat) (0:Nat))),(Prod.mk (4:Nat) (T.pb (1:Nat) (1:Nat) (0:Nat))),(Prod.mk (6:Nat) (T.v false [(Cm.ref (0:Nat) (0:Nat))])),(Prod.mk (7:Nat) (T.pb (2:Nat) (1:Nat) (0:Nat))),(Prod.mk (8:Nat) (num IntKind.i64 (IntKind.wrap IntKind.i64 (m + (1:Int))))),(Prod.mk (9:Nat) (num IntKind.i64 (IntKind.wrap IntKind.i64 (k + (1:Int)))))] [(Row.mk (0:Nat) (Option.some (RC.mk (58:Nat) RK.part al (RM.mk (Option.none) false (0:Nat) false))))] [(Box.mk (Min.min (1:Nat) (1:Nat)) (Option.some [(Cm.d (D.i IntKind.i64 c.mode)),(Cm.d (D.i IntKind.i64 c.win)),(Cm.d (D.i IntKind.i64 c.mps)),(Cm.d (D.i IntKind.i64 c.mtu)),(Cm.d (D.i IntKind.i64 c.try_))])),(Box.mk (Min.min (1:Nat) (1:Nat)) (Option.some [(Cm.d (D.i IntKind.i64 t.next)),(Cm.d (D.i IntKind.i64 t.acked)),(Cm.d (D.r RK.part t.flight)),(Cm.d (D.i IntKind.i64 t.sent)),(Cm.d (D.r RK.part t.queue)),(Cm.d (D.b t.asks)),(Cm.d (D.i IntKind.i64 t.tries)),(Cm.d (D.b t.held)),(Cm.d (D.i IntKind.i64 t.count)),(Cm.d (D.b t.dead))])),(Box.mk (Min.min (1:Nat) (1:Nat)) (Option.some [(Cm.d (D.i IntKind.i64 r.t.next)),(Cm.d (D.i IntKind.i64 r.t.acked)),(Cm.d (D.r RK.part r.t.flight)),(Cm.d (D.i IntKind.i64 r.t.sent)),(Cm.d (D.r RK.part r.t.queue)),(Cm.d (D.b r.t.asks)),(Cm.d (D.i IntKind.i64 r.t.tries)),(Cm.d (D.b r.t.held)),(Cm.d (D.i IntKind.i64 r.t.count)),(Cm.d (D.b r.t.dead))])),(Box.mk (0:Nat) Option.none),(Box.mk (0:Nat) Option.none)])=(KS.mk true [(Prod.mk (3:Nat) (T.pb (0:Nat) (1:Nat) (0:Nat))),(Prod.mk (4:Nat) (T.pb (1:Nat) (1:Nat) (0:Nat))),(Prod.mk (6:Nat) (T.v false [(Cm.ref (0:Nat) (0:Nat))])),(Prod.mk (7:Nat) (T.pb (2:Nat) (1:Nat) (0:Nat))),(Prod.mk (8:Nat) (num IntKind.i64 s.snd.snd.snd.snd.fst)),(Prod.mk (9:Nat) (num IntKind.i64 s.snd.snd.snd.snd.snd))] [(Row.mk (0:Nat) (Option.some (RC.mk (58:Nat) RK.part s.snd.snd.fst (RM.mk (Option.none) false (0:Nat) false))))] [(Box.mk (1:Nat) (Option.some [(Cm.d (D.i IntKind.i64 s.fst.mode)),(Cm.d (D.i IntKind.i64 s.fst.win)),(Cm.d (D.i IntKind.i64 s.fst.mps)),(Cm.d (D.i IntKind.i64 s.fst.mtu)),(Cm.d (D.i IntKind.i64 s.fst.try_))])),(Box.mk (1:Nat) (Option.some [(Cm.d (D.i IntKind.i64 s.snd.fst.next)),(Cm.d (D.i IntKind.i64 s.snd.fst.acked)),(Cm.d (D.r RK.part s.snd.fst.flight)),(Cm.d (D.i IntKind.i64 s.snd.fst.sent)),(Cm.d (D.r RK.part s.snd.fst.queue)),(Cm.d (D.b s.snd.fst.asks)),(Cm.d (D.i IntKind.i64 s.snd.fst.tries)),(Cm.d (D.b s.snd.fst.held)),(Cm.d (D.i IntKind.i64 s.snd.fst.count)),(Cm.d (D.b s.snd.fst.dead))])),(Box.mk (1:Nat) (Option.some [(Cm.d (D.i IntKind.i64 s.snd.snd.snd.fst.next)),(Cm.d (D.i IntKind.i64 s.snd.snd.snd.fst.acked)),(Cm.d (D.r RK.part s.snd.snd.snd.fst.flight)),(Cm.d (D.i IntKind.i64 s.snd.snd.snd.fst.sent)),(Cm.d (D.r RK.part s.snd.snd.snd.fst.queue)),(Cm.d (D.b s.snd.snd.snd.fst.asks)),(Cm.d (D.i IntKind.i64 s.snd.snd.snd.fst.tries)),(Cm.d (D.b s.snd.snd.snd.fst.held)),(Cm.d (D.i IntKind.i64 s.snd.snd.snd.fst.count)),(Cm.d (D.b s.snd.snd.snd.fst.dead))])),(Box.mk (0:Nat) Option.none),(Box.mk (0:Nat) Option.none)]))∧(∃ m1:Nat,(m1 < n)∧((s.fst=c0)∧((s.snd.fst=t0)∧((s.snd.snd.fst=al0)∧((OrdI s.fst s.snd.fst s.snd.snd.fst s.snd.snd.snd.fst s.snd.snd.snd.snd.fst)∧(((0:Int)≤s.snd.snd.snd.snd.snd)∧(((s.snd.snd.snd.snd.snd + ((m1:Nat):Int))=(8:Int))∧((s.snd.snd.snd.snd.snd≤s.snd.snd.snd.snd.fst)∧(s.snd.fst.count≤(1000:Int))))))))))))))))))))))))))) else (∃ r:(Prod Cfg (Prod TxS (Prod (List Part) (Prod TxS Int)))),((KS.mk true [(Prod.mk (3:Nat) (T.pb (0:Nat) (1:Nat) (0:Nat))),(Prod.mk (4:Nat) (T.pb (1:Nat) (1:Nat) (0:Nat))),(Prod.mk (6:Nat) (T.v false [(Cm.ref (0:Nat) (0:Nat))])),(Prod.mk (7:Nat) (T.pb (2:Nat) (1:Nat) (0:Nat))),(Prod.mk (8:Nat) (num IntKind.i64 m))] [(Row.mk (0:Nat) (Option.some (RC.mk (58:Nat) RK.part al (RM.mk (Option.none) false (0:Nat) false))))] [(Box.mk (Min.min (1:Nat) (1:Nat)) (Option.some [(Cm.d (D.i IntKind.i64 c.mode)),(Cm.d (D.i IntKind.i64 c.win)),(Cm.d (D.i IntKind.i64 c.mps)),(Cm.d (D.i IntKind.i64 c.mtu)),(Cm.d (D.i IntKind.i64 c.try_))])),(Box.mk (Min.min (1:Nat) (1:Nat)) (Option.some [(Cm.d (D.i IntKind.i64 t.next)),(Cm.d (D.i IntKind.i64 t.acked)),(Cm.d (D.r RK.part t.flight)),(Cm.d (D.i IntKind.i64 t.sent)),(Cm.d (D.r RK.part t.queue)),(Cm.d (D.b t.asks)),(Cm.d (D.i IntKind.i64 t.tries)),(Cm.d (D.b t.held)),(Cm.d (D.i IntKind.i64 t.count)),(Cm.d (D.b t.dead))])),(Box.mk (Min.min (1:Nat) (1:Nat)) (Option.some [(Cm.d (D.i IntKind.i64 x.next)),(Cm.d (D.i IntKind.i64 x.acked)),(Cm.d (D.r RK.part x.flight)),(Cm.d (D.i IntKind.i64 x.sent)),(Cm.d (D.r RK.part x.queue)),(Cm.d (D.b x.asks)),(Cm.d (D.i IntKind.i64 x.tries)),(Cm.d (D.b x.held)),(Cm.d (D.i IntKind.i64 x.count)),(Cm.d (D.b x.dead))])),(Box.mk (0:Nat) Option.none),(Box.mk (0:Nat) Option.none)])=(KS.mk true [(Prod.mk (3:Nat) (T.pb (0:Nat) (1:Nat) (0:Nat))),(Prod.mk (4:Nat) (T.pb (1:Nat) (1:Nat) (0:Nat))),(Prod.mk (6:Nat) (T.v false [(Cm.ref (0:Nat) (0:Nat))])),(Prod.mk (7:Nat) (T.pb (2:Nat) (1:Nat) (0:Nat))),(Prod.mk (8:Nat) (num IntKind.i64 r.snd.snd.snd.snd))] [(Row.mk (0:Nat) (Option.some (RC.mk (58:Nat) RK.part r.snd.snd.fst (RM.mk (Option.none) false (0:Nat) false))))] [(Box.mk (1:Nat) (Option.some [(Cm.d (D.i IntKind.i64 r.fst.mode)),(Cm.d (D.i IntKind.i64 r.fst.win)),(Cm.d (D.i IntKind.i64 r.fst.mps)),(Cm.d (D.i IntKind.i64 r.fst.mtu)),(Cm.d (D.i IntKind.i64 r.fst.try_))])),(Box.mk (1:Nat) (Option.some [(Cm.d (D.i IntKind.i64 r.snd.fst.next)),(Cm.d (D.i IntKind.i64 r.snd.fst.acked)),(Cm.d (D.r RK.part r.snd.fst.flight)),(Cm.d (D.i IntKind.i64 r.snd.fst.sent)),(Cm.d (D.r RK.part r.snd.fst.queue)),(Cm.d (D.b r.snd.fst.asks)),(Cm.d (D.i IntKind.i64 r.snd.fst.tries)),(Cm.d (D.b r.snd.fst.held)),(Cm.d (D.i IntKind.i64 r.snd.fst.count)),(Cm.d (D.b r.snd.fst.dead))])),(Box.mk (1:Nat) (Option.some [(Cm.d (D.i IntKind.i64 r.snd.snd.snd.fst.next)),(Cm.d (D.i IntKind.i64 r.snd.snd.snd.fst.acked)),(Cm.d (D.r RK.part r.snd.snd.snd.fst.flight)),(Cm.d (D.i IntKind.i64 r.snd.snd.snd.fst.sent)),(Cm.d (D.r RK.part r.snd.snd.snd.fst.queue)),(Cm.d (D.b r.snd.snd.snd.fst.asks)),(Cm.d (D.i IntKind.i64 r.snd.snd.snd.fst.tries)),(Cm.d (D.b r.snd.snd.snd.fst.held)),(Cm.d (D.i IntKind.i64 r.snd.snd.snd.fst.count)),(Cm.d (D.b r.snd.snd.snd.fst.dead))])),(Box.mk (0:Nat) Option.none),(Box.mk (0:Nat) Option.none)]))∧((r.fst=c0)∧((r.snd.fst=t0)∧((r.snd.snd.fst=al0)∧((OrdI r.fst r.snd.fst r.snd.snd.fst r.snd.snd.snd.fst r.snd.snd.snd.snd)∧((txSend r.fst r.snd.snd.snd.fst (0:Int)).ok=false)))))) := by
  try dsimp only at hp
  obtain ⟨rfl, rfl, rfl, H, h1, h2, h3, h4⟩ := hi
  have hr := H.ok.rng
  have hm := H.len
  have hge := H.ge
  have hcx := H.count
  by_cases hk8 : k < 8
  · rw [if_pos (decide_eq_true hk8)]
    refine ⟨rfl, fun _ => by omega, fun r hr' => ⟨rfl, ?_⟩⟩
    subst hr'
    refine iteI (fun ho => ?_) (fun ho => ?_)
    · exact ⟨(c, t, al, x, m), rfl, rfl, rfl, rfl, H, by simpa using ho⟩
    · have ho' : (txSend c x 0).ok = true := by simpa using ho
      obtain ⟨H2, hlt, hseq, hpc⟩ := H.next ho'
      have hlt' : ¬ m ≥ (al.length : Int) := by omega
      rw [if_neg (by simp; omega)]
      refine ⟨rfl, trivial, fun r1 hr1 => ⟨rfl, rfl, ?_⟩⟩
      rw [wr (x := t.count + m) (by omega) (by omega), if_neg (by omega)] at hr1
      subst hr1
      rw [if_neg (by rw [hseq]; simp)]
      refine ⟨⟨by omega, hlt⟩, rfl, tsend_fd, fun r2 hr2 => ⟨rfl, rfl, ?_⟩⟩
      have hr3 : r2 = true := by rw [hr2]; exact decide_eq_true hpc
      subst hr3
      rw [if_neg (by simp)]
      rw [wr (x := m + 1) (by omega) (by omega), wr (x := k + 1) (by omega) (by omega)]
      exact ⟨(c, t, al, (txSend c x 0).t, m + 1, k + 1), rfl, n - 1, by omega, rfl, rfl, rfl, H2, by dsimp only; omega, by dsimp only; omega, by dsimp only; omega, h4⟩
  · exfalso; omega
theorem vS_laws_FnTxOrder_0 (c0 : Cfg) (t0 : TxS) (al0 : List Part) (x0 : TxS) (m0 : Int) (k0 : Int) (hp : (fun (c : Cfg) (t : TxS) (al : List Part) (x : TxS) (m : Int) (k : Int) => (OrdI c t al x m ∧ x = t ∧ k = 0 ∧ t.count ≤ 1000)) c0 t0 al0 x0 m0 k0) : ∃ n : Nat, (fun (c : Cfg) (t : TxS) (al : List Part) (x : TxS) (m : Int) (k : Int) => (c = c0 ∧ t = t0 ∧ al = al0 ∧ OrdI c t al x m ∧ 0 ≤ k ∧ k + n = 8 ∧ k ≤ m ∧ t.count ≤ 1000)) c0 t0 al0 x0 m0 k0 := by
  try dsimp only at hp
  try dsimp only
  obtain ⟨h1, rfl, rfl, h4⟩ := hp
  exact ⟨8, rfl, rfl, rfl, h1, by omega, by omega, h1.ge, h4⟩
theorem w_laws_FnTxOrder : Valid Try.prog 5 c_laws_FnTxOrder :=
  valid_ctr2 (V := V_laws_FnTxOrder) (tysB_ok tys_ok) ⟨(CallsL.cons w_spec_DrawTxSend (CallsL.cons w_spec_TxOk (CallsL.cons w_impl_TxOk (CallsL.cons w_laws_liOk (CallsL.cons w_impl_TxSend (CallsL.cons w_impl_NumOf (CallsL.cons w_laws_liPart (CallsL.nil _)))))))), (IosL.nil _)⟩ mixed 1 5 Try.func5 rfl (by kernel_rfl)
    (fun c hc => by
      obtain rfl := Option.some.inj hc
      exact ⟨trivial, ⟨⟨trivial, ⟨⟨trivial, trivial⟩, trivial⟩⟩, ⟨trivial, ⟨⟨trivial, ⟨⟨trivial, trivial⟩, trivial⟩⟩, ⟨trivial, ⟨trivial, ⟨trivial, ⟨⟨trivial, ⟨LoopD.ok2 (V := V_laws_FnTxOrder) l_laws_FnTxOrder_0 (LoopsM.cons 0 l_laws_FnTxOrder_0 LoopsM.nil) 0 _ i_laws_FnTxOrder_0 (fun x hx => vS_laws_FnTxOrder_0 x.1 x.2.1 x.2.2.1 x.2.2.2.1 x.2.2.2.2.1 x.2.2.2.2.2 hx) (fun x hx n s hi => ⟨_, by kernel_rfl, vL_laws_FnTxOrder_0 x.1 x.2.1 x.2.2.1 x.2.2.2.1 x.2.2.2.2.1 x.2.2.2.2.2 s.1 s.2.1 s.2.2.1 s.2.2.2.1 s.2.2.2.2.1 s.2.2.2.2.2 n hx hi⟩), ⟨⟨trivial, ⟨trivial, trivial⟩⟩, ⟨⟨trivial, ⟨⟨trivial, ⟨trivial, trivial⟩⟩, ⟨⟨trivial, ⟨⟨trivial, trivial⟩, trivial⟩⟩, ⟨trivial, trivial⟩⟩⟩⟩, trivial⟩⟩⟩⟩, ⟨⟨trivial, ⟨⟨trivial, trivial⟩, trivial⟩⟩, ⟨trivial, trivial⟩⟩⟩⟩⟩⟩⟩⟩⟩⟩)
    (fun x K hp hk => ⟨_, by kernel_rfl, vF_laws_FnTxOrder x K hp (fun r h => hk r h)⟩)
end Go.Proofs.YtfcllghcdeifbaaE
