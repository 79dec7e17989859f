/- A part of the proof of laws of the program: what calls of the program answer. Conditions: none. -/
import Derived.Test.YtfcllghcdeifbaaM8b7b1f49
set_option linter.unusedVariables false
set_option linter.unusedSimpArgs false
set_option linter.unusedSectionVars false
/- Contracts: LawTx1. Conditions: none. -/
set_option linter.unusedVariables false
set_option maxHeartbeats 1600000
namespace Go.Proofs.YtfcllghcdeifbaaE
open Go
structure TBd (t : TxS) : Prop where
  fl : t.flight.length ≤ 137438953472
  fd : ∀ p, List.Mem p t.flight → p.data.length ≤ 137438953472
  ql : t.queue.length ≤ 137438953472
  qd : ∀ p, List.Mem p t.queue → p.data.length ≤ 137438953472
theorem TxD.b {t : TxS} (h : TxD t) : TBd t := ⟨Nat.le_trans h.fl (by decide), fun p hp => Nat.le_trans (h.fd p hp) (by decide), Nat.le_trans h.ql (by decide), fun p hp => Nat.le_trans (h.qd p hp) (by decide)⟩
theorem TBd.z : TBd zTx := by refine ⟨by simp [zTx], fun p h => ?_, by simp [zTx], fun p h => ?_⟩ <;> cases h
theorem TxL.b {t : TxS} (h : TxL t) : TBd t := ⟨Nat.le_trans h.1.1 (by decide), h.1.2, Nat.le_trans h.2.1 (by decide), h.2.2⟩
theorem txPut_b {c : Cfg} {t : TxS} {s : List Int} : TBd (txPut c t s).t := by
  unfold txPut
  split
  · exact (txPut1_l (by assumption)).b
  · exact TBd.z
theorem txSend_b {c : Cfg} {t : TxS} {a : Int} : TBd (txSend c t a).t := by
  unfold txSend
  split
  · rename_i h; exact (txSend1_l h.1).b
  · exact TBd.z
theorem txHear_b {c : Cfg} {t : TxS} {f : Frm} : TBd (txHear c t f) := by
  unfold txHear
  split
  · rename_i h; exact (txHear1_l h.1).b
  · exact TBd.z
theorem txTick_b {c : Cfg} {t : TxS} {a : Int} {b : Bool} : TBd (txTick c t a b).t := by
  unfold txTick
  split
  · rename_i h; exact (txTick1_l h.1).b
  · exact TBd.z
theorem TxS.eta (t : TxS) : (⟨t.next, t.acked, t.flight, t.sent, t.queue, t.asks, t.tries, t.held, t.count, t.dead⟩ : TxS) = t := rfl
theorem tput_no {c : Cfg} {t : TxS} {s : List Int} (h : ¬ TxP c t) : txPut c t s = ⟨zTx, false⟩ := by unfold txPut; rw [if_neg h]
theorem tput_not {c : Cfg} {t : TxS} {s : List Int} (h : TxP c t) (hn : (txPut c t s).ok = false) : (txPut c t s).t = t ∧ (t.dead = true ∨ c.mtu < (s.length : Int) ∨ 24 < (t.queue.length : Int) + ((segCut s c.mps).length : Int)) := by
  unfold txPut txPut1 at hn ⊢
  rw [if_pos h] at hn ⊢
  split at hn
  · rename_i hc
    rw [if_pos hc]
    refine ⟨rfl, ?_⟩
    rcases hc with hc | hc | hc
    · exact .inl hc
    · exact .inr (.inl hc)
    · exact .inr (.inr (by omega))
  · simp at hn
theorem tput_yes {c : Cfg} {t : TxS} {s : List Int} (h : TxP c t) (hn : (txPut c t s).ok = true) : (txPut c t s).t = ⟨t.next, t.acked, t.flight, t.sent, t.queue ++ segCut s c.mps, t.asks, t.tries, t.held, t.count, t.dead⟩ ∧ TxP c (txPut c t s).t := by
  unfold txPut txPut1 at hn ⊢
  rw [if_pos h] at hn ⊢
  split at hn
  · simp at hn
  · rename_i hc
    rw [if_neg hc]
    refine ⟨rfl, ?_⟩
    obtain ⟨a1, a2, a3, a4, a5, a6, a7, a8, a9, a10, a11, a12⟩ := h
    refine ⟨a1, a2, a3, a4, a5, a6, ?_, a8, a9, a10, a11, a12.append (segCut_ok s)⟩
    show (t.queue ++ segCut s c.mps).length ≤ 24
    rw [List.length_append]; omega
theorem ttick_no {c : Cfg} {t : TxS} {a : Int} {b : Bool} (h : ¬ TxP c t ∨ a < 0 ∨ 7 < a) : txTick c t a b = ⟨zTx, zFrm, false⟩ := by unfold txTick; rw [if_neg (fun hc => by rcases h with h | h | h; exact h hc.1; omega; omega)]
theorem ttick_rest {c : Cfg} {t : TxS} {a : Int} {b : Bool} (h : TxP c t) (h1 : 0 ≤ a) (h2 : a ≤ 7) (hd : t.dead = true ∨ (t.flight.length = 0 ∧ t.held = false ∧ t.asks = false)) : txTick c t a b = ⟨t, zFrm, false⟩ := by
  unfold txTick txTick1; rw [if_pos ⟨h, h1, h2⟩, if_pos hd]
theorem tw_not {t : TxS} (hd : t.dead = false) (hw : ¬ t.flight.length = 0 ∨ t.held = true ∨ t.asks = true) : ¬ (t.dead = true ∨ (t.flight.length = 0 ∧ t.held = false ∧ t.asks = false)) := by
  rw [hd]
  rintro (h | ⟨h, h', h''⟩)
  · cases h
  · rcases hw with hw | hw | hw
    · exact hw h
    · rw [hw] at h'; cases h'
    · rw [hw] at h''; cases h''
theorem ttick_last {c : Cfg} {t : TxS} {a : Int} {b : Bool} (h : TxP c t) (h1 : 0 ≤ a) (h2 : a ≤ 7) (hd : t.dead = false) (hw : ¬ t.flight.length = 0 ∨ t.held = true ∨ t.asks = true) (ht : t.tries = c.try_) : txTick c t a b = ⟨⟨t.next, t.acked, t.flight, t.sent, t.queue, t.asks, t.tries, t.held, t.count, true⟩, zFrm, false⟩ := by
  unfold txTick txTick1
  rw [if_pos ⟨h, h1, h2⟩, if_neg (tw_not hd hw), if_pos ht]
theorem ttick_yes {c : Cfg} {t : TxS} {a : Int} {b : Bool} (h : TxP c t) (h1 : 0 ≤ a) (h2 : a ≤ 7) (hd : t.dead = false) (hw : ¬ t.flight.length = 0 ∨ t.held = true ∨ t.asks = true) (ht : ¬ t.tries = c.try_) : txTick c t a b = ⟨⟨t.next, t.acked, t.flight, t.sent, t.queue, true, t.tries + 1, t.held, t.count, t.dead⟩, ⟨2, 0, a, true, false, goWait b, 0, 0, []⟩, true⟩ ∧ TxP c (txTick c t a b).t := by
  have e : txTick c t a b = ⟨⟨t.next, t.acked, t.flight, t.sent, t.queue, true, t.tries + 1, t.held, t.count, t.dead⟩, ⟨2, 0, a, true, false, goWait b, 0, 0, []⟩, true⟩ := by
    unfold txTick txTick1
    rw [if_pos ⟨h, h1, h2⟩, if_neg (tw_not hd hw), if_neg ht]
  rw [e]
  refine ⟨rfl, ?_⟩
  obtain ⟨a1, a2, a3, a4, a5, a6, a7, a8, a9, a10, a11, a12⟩ := h
  exact ⟨a1, a2, a3, a4, a5, a6, a7, by dsimp only; omega, a9, a10, a11, a12⟩
theorem goWait_2 (b : Bool) : (goWait b == 2) = b := by cases b <;> rfl

/-! laws.FnTxPut -/
def c_laws_FnTxPut : Ent := ctr (α := (List Int)) (ρ := (Bool)) [] [] (rs1 rBytes) (fun x_ => (fun (l : List Int) => (Bytes l)) x_) (fun x_ r_ => (fun x_ => (fun (l : List Int) => ((fun r_ => (fun (r : Bool) => (r = true)) r_))) x_) x_ r_) (fun r_ => (fun (r : Bool) => ([rB.to r])) r_) (fun r_ => (fun (r : Bool) => ([])) r_)
def V_laws_FnTxPut : Env := ⟨tys, [(17, c_spec_TxPut), (21, c_impl_TxPut), (33, c_spec_TxOk), (34, c_impl_TxOk), (35, c_laws_liOk), (41, c_laws_liTx), (43, c_spec_DrawTxPut), (44, c_impl_SegCut), (45, c_laws_liParts), (46, c_impl_TxLeft)], [(101, [0])], [(3, 0), (4, 1), (6, 2), (8, 3)], [(13, ([], [0]))], [], [500038, 500043, 500058, 500063, 500075, 500078, 500085, 500098, 500109, 500116], [], [(6, [(0, false), (1, false), (2, true), (3, false), (4, false), (5, false), (6, false), (7, false), (8, false), (9, false), (10, false), (11, false), (13, false), (14, false), (12, true), (15, true), (16, false), (17, false)]), (13, [(0, false), (1, false), (2, true), (3, false), (4, false), (5, false), (7, false), (8, false), (10, false), (6, true), (9, true), (11, true), (12, true), (13, false), (14, false), (15, false), (16, false), (17, false), (18, false), (19, true), (20, false), (21, false), (22, false), (24, false), (26, false), (27, false), (23, true), (25, true), (28, false), (29, false), (30, false), (31, false)])]⟩
/-! laws.FnTxTick -/
def c_laws_FnTxTick : Ent := ctr (α := (List Int)) (ρ := (Bool)) [] [] (rs1 rBytes) (fun x_ => (fun (l : List Int) => (Bytes l)) x_) (fun x_ r_ => (fun x_ => (fun (l : List Int) => ((fun r_ => (fun (r : Bool) => (r = true)) r_))) x_) x_ r_) (fun r_ => (fun (r : Bool) => ([rB.to r])) r_) (fun r_ => (fun (r : Bool) => ([])) r_)
def V_laws_FnTxTick : Env := ⟨tys, [(27, c_spec_TxTick), (28, c_impl_TxTick), (33, c_spec_TxOk), (34, c_impl_TxOk), (35, c_laws_liOk), (40, c_spec_DrawTxTick), (41, c_laws_liTx), (42, c_laws_liFrame)], [], [(3, 0), (4, 1), (7, 2), (8, 3), (10, 4), (11, 5)], [], [], [500046, 500052, 500061, 500065, 500071, 500076, 500082, 500087, 500091, 500100, 500112, 500117, 500122, 500126, 500134, 500138, 500144], [], []⟩
end Go.Proofs.YtfcllghcdeifbaaE

/- Calls answer what is promised: LawTx1. Conditions: none. -/
set_option linter.unusedVariables false
set_option maxHeartbeats 1600000
namespace Go.Proofs.YtfcllghcdeifbaaE
open Go
theorem vF_laws_FnTxPut (l:List Int) (K:List Arg→List (List AC)→Prop) (hp:Bytes l) (hk:∀ (r:Bool),(r=true)→K ([rB.to r]) ([])):if ((decide ((((List.length l):Nat):Int) > (1048576:Int)))=true) then ((true=true)∧(K [(aB true)] [])) else ((true=true)∧((Bytes l)∧(∀ r:(Prod Cfg (Prod TxS (List Int))),((TxD r.snd.fst)∧((List.length r.snd.snd)≤(25:Nat)))→(true=true)∧((true=true)∧(((List.length r.snd.snd)≤(1000:Nat))∧(∀ r1:TxPutR,(r1=(txPut r.fst r.snd.fst r.snd.snd))→(true=true)∧((true=true)∧(((List.length r.snd.snd)≤(1000:Nat))∧(∀ r2:TxPutR,(r2=(txPut r.fst r.snd.fst r.snd.snd))→(true=true)∧((true=true)∧(((((List.length r1.t.flight)≤(137438953472:Nat))∧(∀ y:Part,(List.Mem y r1.t.flight)→((List.length y.data)≤(137438953472:Nat))))∧(((List.length r1.t.queue)≤(137438953472:Nat))∧(∀ y:Part,(List.Mem y r1.t.queue)→((List.length y.data)≤(137438953472:Nat)))))∧(∀ r3:Bool,(r3=(decide ((TxS.mk r1.t.next r1.t.acked r1.t.flight r1.t.sent r1.t.queue r1.t.asks r1.t.tries r1.t.held r1.t.count r1.t.dead)=(TxS.mk r2.t.next r2.t.acked r2.t.flight r2.t.sent r2.t.queue r2.t.asks r2.t.tries r2.t.held r2.t.count r2.t.dead))))→(true=true)∧((true=true)∧(if ((!r3)=true) then ((true=true)∧((true=true)∧((true=true)∧(K [(aB false)] [])))) else (if ((r1.ok != r2.ok)=true) then ((true=true)∧((true=true)∧((true=true)∧(K [(aB false)] [])))) else ((true=true)∧(True∧(∀ r4:Bool,(r4=(decide (TxP r.fst r.snd.fst)))→(true=true)∧((true=true)∧((true=true)∧(True∧(∀ r5:Bool,(r5=(decide (TxP r.fst r.snd.fst)))→(true=true)∧((true=true)∧(if ((r4 != r5)=true) then ((true=true)∧(K [(aB false)] [])) else ((true=true)∧(True∧(∀ r6:Bool,(r6=(decide (TxP r.fst r.snd.fst)))→(true=true)∧(if ((!r6)=true) then (if ((!r1.ok)=true) then ((true=true)∧(((((List.length r1.t.flight)≤(137438953472:Nat))∧(∀ y:Part,(List.Mem y r1.t.flight)→((List.length y.data)≤(137438953472:Nat))))∧(((List.length r1.t.queue)≤(137438953472:Nat))∧(∀ y:Part,(List.Mem y r1.t.queue)→((List.length y.data)≤(137438953472:Nat)))))∧(∀ r7:Bool,(r7=(decide ((TxS.mk r1.t.next r1.t.acked r1.t.flight r1.t.sent r1.t.queue r1.t.asks r1.t.tries r1.t.held r1.t.count r1.t.dead)=(TxS.mk (0:Int) (0:Int) ([]:(List Part)) (0:Int) ([]:(List Part)) false (0:Int) false (0:Int) false))))→(true=true)∧(if (r7=true) then ((true=true)∧(True∧(∀ r8:Bool,(r8=true)→(true=true)∧((true=true)∧(K [(aB r8)] []))))) else ((true=true)∧(K [(aB false)] [])))))) else ((true=true)∧(K [(aB false)] []))) else ((true=true)∧(((List.length r.snd.snd)≤(1000:Nat))∧(∀ r7:(List Part),(r7=(segCut r.snd.snd r.fst.mps))→(true=true)∧(if ((!r1.ok)=true) then ((true=true)∧(((((List.length r1.t.flight)≤(137438953472:Nat))∧(∀ y:Part,(List.Mem y r1.t.flight)→((List.length y.data)≤(137438953472:Nat))))∧(((List.length r1.t.queue)≤(137438953472:Nat))∧(∀ y:Part,(List.Mem y r1.t.queue)→((List.length y.data)≤(137438953472:Nat)))))∧(∀ r8:Bool,(r8=(decide ((TxS.mk r1.t.next r1.t.acked r1.t.flight r1.t.sent r1.t.queue r1.t.asks r1.t.tries r1.t.held r1.t.count r1.t.dead)=r.snd.fst)))→(true=true)∧(if (r8=true) then (if (r.snd.fst.dead=true) then ((true=true)∧(K [(aB true)] [])) else (if ((decide ((((List.length r.snd.snd):Nat):Int) > r.fst.mtu))=true) then ((true=true)∧(K [(aB true)] [])) else ((true=true)∧(K [(aB (decide ((IntKind.wrap IntKind.i64 ((((List.length r.snd.fst.queue):Nat):Int) + (((List.length r7):Nat):Int))) > (24:Int))))] [])))) else ((true=true)∧(K [(aB false)] [])))))) else ((true=true)∧(True∧(∀ r8:Bool,(r8=(decide (TxP r.fst (TxS.mk r1.t.next r1.t.acked r1.t.flight r1.t.sent r1.t.queue r1.t.asks r1.t.tries r1.t.held r1.t.count r1.t.dead))))→(true=true)∧((true=true)∧(if (r8=true) then ((true=true)∧((((0:Nat) + (List.length r.snd.fst.queue))≤(137438953472:Nat))∧((true=true)∧((((List.length (([]:(List Part)) ++ r.snd.fst.queue:(List Part))) + (List.length r7))≤(137438953472:Nat))∧((true=true)∧((true=true)∧((((List.length r1.t.queue)≤(137438953472:Nat))∧(∀ y:Part,(List.Mem y r1.t.queue)→((List.length y.data)≤(137438953472:Nat))))∧(∀ r9:Bool,(r9=(decide (r1.t.queue=((([]:(List Part)) ++ r.snd.fst.queue:(List Part)) ++ r7:(List Part)))))→(true=true)∧((true=true)∧(if (r9=true) then ((true=true)∧((((List.length r1.t.flight)≤(137438953472:Nat))∧(∀ y:Part,(List.Mem y r1.t.flight)→((List.length y.data)≤(137438953472:Nat))))∧(∀ r10:Bool,(r10=(decide (r1.t.flight=r.snd.fst.flight)))→(true=true)∧((true=true)∧(if (r10=true) then ((true=true)∧((((List.length r1.t.flight)≤(1000000:Nat))∧((List.length r1.t.queue)≤(1000000:Nat)))∧(∀ r11:Int,(r11=((((List.length r1.t.flight):Nat):Int) + (((List.length r1.t.queue):Nat):Int)))→(true=true)∧((true=true)∧((true=true)∧((((List.length r.snd.fst.flight)≤(1000000:Nat))∧((List.length r.snd.fst.queue)≤(1000000:Nat)))∧(∀ r12:Int,(r12=((((List.length r.snd.fst.flight):Nat):Int) + (((List.length r.snd.fst.queue):Nat):Int)))→(true=true)∧((true=true)∧((true=true)∧(K [(aB (r11 == (IntKind.wrap IntKind.i64 (r12 + (((List.length r7):Nat):Int)))))] [])))))))))) else ((true=true)∧((true=true)∧((true=true)∧(K [(aB false)] []))))))))) else ((true=true)∧((true=true)∧((true=true)∧((true=true)∧(K [(aB false)] []))))))))))))))) else ((true=true)∧((true=true)∧((true=true)∧((true=true)∧((true=true)∧((true=true)∧((true=true)∧((true=true)∧(K [(aB false)] [])))))))))))))))))))))))))))))))))))))))))))))) := by
  repeat' first
    | exact rfl
    | exact True.intro
    | with_reducible apply And.intro
    | (with_reducible intro y_ hy_; subst hy_)
    | with_reducible intro y_
    | (refine iteI (fun h => ?_) (fun h => ?_))
  all_goals try simp only [Bool.not_eq_true', decide_eq_false_iff_not, decide_eq_true_eq, Bool.not_eq_true, bne_iff_ne, beq_iff_eq, ne_eq, Decidable.not_not, Bool.not_eq_false, gt_iff_lt, ge_iff_le, Int.not_le, Int.not_lt, beq_eq_false_iff_ne, bne_eq_false_iff_eq, Bool.and_eq_true, Bool.or_eq_true, Bool.true_eq_false, Bool.false_eq_true] at *
  all_goals try simp (disch := first | omega | grind [tput_no, tput_not, tput_yes, zTx, → TxP.rng, IntKind.wrap_i64, segCut_len]) only [wr] at *
  all_goals try simp only [TxS.eta] at *
  all_goals first
    | assumption
    | omega
    | exact (TxD.b (by assumption)).fl
    | exact (TxD.b (by assumption)).ql
    | exact (TxD.b (by assumption)).fd _ ‹List.Mem _ _›
    | exact (TxD.b (by assumption)).qd _ ‹List.Mem _ _›
    | exact txPut_b.fl
    | exact txPut_b.ql
    | exact txPut_b.fd _ ‹List.Mem _ _›
    | exact txPut_b.qd _ ‹List.Mem _ _›
    | exact txSend_b.fl
    | exact txSend_b.ql
    | exact txSend_b.fd _ ‹List.Mem _ _›
    | exact txSend_b.qd _ ‹List.Mem _ _›
    | exact txHear_b.fl
    | exact txHear_b.ql
    | exact txHear_b.fd _ ‹List.Mem _ _›
    | exact txHear_b.qd _ ‹List.Mem _ _›
    | exact txTick_b.fl
    | exact txTick_b.ql
    | exact txTick_b.fd _ ‹List.Mem _ _›
    | exact txTick_b.qd _ ‹List.Mem _ _›
    | exact Nat.le_trans (TxD.fl (by assumption)) (by decide)
    | exact Nat.le_trans (TxD.ql (by assumption)) (by decide)
    | exact hk _ (by grind [tput_no, tput_not, tput_yes, zTx, → TxP.rng, IntKind.wrap_i64, segCut_len])
    | (simp only [LIM] at *; omega)
    | grind [tput_no, tput_not, tput_yes, zTx, → TxP.rng, IntKind.wrap_i64, segCut_len, LIM]
theorem w_laws_FnTxPut : Valid Try.prog 8 c_laws_FnTxPut :=
  valid_ctr2 (V := V_laws_FnTxPut) (tysB_ok tys_ok) ⟨(CallsL.cons w_spec_TxPut (CallsL.cons w_impl_TxPut (CallsL.cons w_spec_TxOk (CallsL.cons w_impl_TxOk (CallsL.cons w_laws_liOk (CallsL.cons w_laws_liTx (CallsL.cons w_spec_DrawTxPut (CallsL.cons w_impl_SegCut (CallsL.cons w_laws_liParts (CallsL.cons w_impl_TxLeft (CallsL.nil _))))))))))), (IosL.nil _)⟩ mixed 1 4 Try.func8 rfl (by kernel_rfl)
    (fun c hc => by
      obtain rfl := Option.some.inj hc
      exact ⟨trivial, ⟨⟨trivial, ⟨⟨trivial, trivial⟩, trivial⟩⟩, ⟨trivial, ⟨trivial, ⟨trivial, ⟨⟨trivial, ⟨⟨trivial, trivial⟩, trivial⟩⟩, ⟨⟨trivial, ⟨⟨trivial, trivial⟩, trivial⟩⟩, ⟨trivial, ⟨⟨trivial, ⟨⟨trivial, trivial⟩, trivial⟩⟩, ⟨trivial, trivial⟩⟩⟩⟩⟩⟩⟩⟩⟩⟩)
    (fun x K hp hk => ⟨_, by kernel_rfl, vF_laws_FnTxPut x K hp (fun r h => hk r h)⟩)
theorem vF_laws_FnTxTick (l:List Int) (K:List Arg→List (List AC)→Prop) (hp:Bytes l) (hk:∀ (r:Bool),(r=true)→K ([rB.to r]) ([])):if ((decide ((((List.length l):Nat):Int) > (1048576:Int)))=true) then ((true=true)∧(K [(aB true)] [])) else ((true=true)∧((Bytes l)∧(∀ r:(Prod Cfg (Prod TxS (Prod Int Bool))),(TxD r.snd.fst)→(true=true)∧((true=true)∧(True∧(∀ r1:TxSendR,(r1=(txTick r.fst r.snd.fst r.snd.snd.fst r.snd.snd.snd))→(true=true)∧((true=true)∧(True∧(∀ r2:TxSendR,(r2=(txTick r.fst r.snd.fst r.snd.snd.fst r.snd.snd.snd))→(true=true)∧((true=true)∧(((((List.length r1.t.flight)≤(137438953472:Nat))∧(∀ y:Part,(List.Mem y r1.t.flight)→((List.length y.data)≤(137438953472:Nat))))∧(((List.length r1.t.queue)≤(137438953472:Nat))∧(∀ y:Part,(List.Mem y r1.t.queue)→((List.length y.data)≤(137438953472:Nat)))))∧(∀ r3:Bool,(r3=(decide ((TxS.mk r1.t.next r1.t.acked r1.t.flight r1.t.sent r1.t.queue r1.t.asks r1.t.tries r1.t.held r1.t.count r1.t.dead)=(TxS.mk r2.t.next r2.t.acked r2.t.flight r2.t.sent r2.t.queue r2.t.asks r2.t.tries r2.t.held r2.t.count r2.t.dead))))→(true=true)∧(if ((!r3)=true) then ((true=true)∧(K [(aB false)] [])) else ((true=true)∧(((List.length r1.f.data)≤(137438953472:Nat))∧(∀ r4:Bool,(r4=(decide (r1.f=r2.f)))→(true=true)∧(if ((!r4)=true) then ((true=true)∧(K [(aB false)] [])) else (if ((r1.ok != r2.ok)=true) then ((true=true)∧(K [(aB false)] [])) else ((true=true)∧(True∧(∀ r5:Bool,(r5=(decide (TxP r.fst r.snd.fst)))→(true=true)∧(if ((!r5)=true) then (if ((!r1.ok)=true) then ((true=true)∧(((((List.length r1.t.flight)≤(137438953472:Nat))∧(∀ y:Part,(List.Mem y r1.t.flight)→((List.length y.data)≤(137438953472:Nat))))∧(((List.length r1.t.queue)≤(137438953472:Nat))∧(∀ y:Part,(List.Mem y r1.t.queue)→((List.length y.data)≤(137438953472:Nat)))))∧(∀ r6:Bool,(r6=(decide ((TxS.mk r1.t.next r1.t.acked r1.t.flight r1.t.sent r1.t.queue r1.t.asks r1.t.tries r1.t.held r1.t.count r1.t.dead)=(TxS.mk (0:Int) (0:Int) ([]:(List Part)) (0:Int) ([]:(List Part)) false (0:Int) false (0:Int) false))))→(true=true)∧(if (r6=true) then ((true=true)∧(True∧(∀ r7:Bool,(r7=true)→(true=true)∧((true=true)∧(K [(aB r7)] []))))) else ((true=true)∧(K [(aB false)] [])))))) else ((true=true)∧(K [(aB false)] []))) else (if ((decide (r.snd.snd.fst < (0:Int)))=true) then (if ((!r1.ok)=true) then ((true=true)∧(((((List.length r1.t.flight)≤(137438953472:Nat))∧(∀ y:Part,(List.Mem y r1.t.flight)→((List.length y.data)≤(137438953472:Nat))))∧(((List.length r1.t.queue)≤(137438953472:Nat))∧(∀ y:Part,(List.Mem y r1.t.queue)→((List.length y.data)≤(137438953472:Nat)))))∧(∀ r6:Bool,(r6=(decide ((TxS.mk r1.t.next r1.t.acked r1.t.flight r1.t.sent r1.t.queue r1.t.asks r1.t.tries r1.t.held r1.t.count r1.t.dead)=(TxS.mk (0:Int) (0:Int) ([]:(List Part)) (0:Int) ([]:(List Part)) false (0:Int) false (0:Int) false))))→(true=true)∧(if (r6=true) then ((true=true)∧(True∧(∀ r7:Bool,(r7=true)→(true=true)∧((true=true)∧(K [(aB r7)] []))))) else ((true=true)∧(K [(aB false)] [])))))) else ((true=true)∧(K [(aB false)] []))) else (if ((decide (r.snd.snd.fst ≥ (8:Int)))=true) then (if ((!r1.ok)=true) then ((true=true)∧(((((List.length r1.t.flight)≤(137438953472:Nat))∧(∀ y:Part,(List.Mem y r1.t.flight)→((List.length y.data)≤(137438953472:Nat))))∧(((List.length r1.t.queue)≤(137438953472:Nat))∧(∀ y:Part,(List.Mem y r1.t.queue)→((List.length y.data)≤(137438953472:Nat)))))∧(∀ r6:Bool,(r6=(decide ((TxS.mk r1.t.next r1.t.acked r1.t.flight r1.t.sent r1.t.queue r1.t.asks r1.t.tries r1.t.held r1.t.count r1.t.dead)=(TxS.mk (0:Int) (0:Int) ([]:(List Part)) (0:Int) ([]:(List Part)) false (0:Int) false (0:Int) false))))→(true=true)∧(if (r6=true) then ((true=true)∧(True∧(∀ r7:Bool,(r7=true)→(true=true)∧((true=true)∧(K [(aB r7)] []))))) else ((true=true)∧(K [(aB false)] [])))))) else ((true=true)∧(K [(aB false)] []))) else (if ((!r.snd.fst.dead)=true) then (if ((decide ((((List.length r.snd.fst.flight):Nat):Int) > (0:Int)))=true) then (if ((r.snd.fst.tries == r.fst.try_)=true) then (if ((!r1.ok)=true) then ((true=true)∧(K [(aB r1.t.dead)] [])) else ((true=true)∧(K [(aB false)] []))) else (if (r1.ok=true) then ((true=true)∧(True∧(∀ r6:Bool,(r6=(decide (TxP r.fst (TxS.mk r1.t.next r1.t.acked r1.t.flight r1.t.sent r1.t.queue r1.t.asks r1.t.tries r1.t.held r1.t.count r1.t.dead))))→(true=true)∧(if (r6=true) then (if (r1.t.asks=true) then (if ((r1.t.tries == (IntKind.wrap IntKind.i64 (r.snd.fst.tries + (1:Int))))=true) then (if (r1.f.poll=true) then (if ((r1.f.ack == r.snd.snd.fst)=true) then ((true=true)∧(K [(aB ((r1.f.say == (2:Int)) == r.snd.snd.snd))] [])) else ((true=true)∧(K [(aB false)] []))) else ((true=true)∧(K [(aB false)] []))) else ((true=true)∧(K [(aB false)] []))) else ((true=true)∧(K [(aB false)] []))) else ((true=true)∧(K [(aB false)] [])))))) else ((true=true)∧(K [(aB false)] [])))) else (if (r.snd.fst.held=true) then (if ((r.snd.fst.tries == r.fst.try_)=true) then (if ((!r1.ok)=true) then ((true=true)∧(K [(aB r1.t.dead)] [])) else ((true=true)∧(K [(aB false)] []))) else (if (r1.ok=true) then ((true=true)∧(True∧(∀ r6:Bool,(r6=(decide (TxP r.fst (TxS.mk r1.t.next r1.t.acked r1.t.flight r1.t.sent r1.t.queue r1.t.asks r1.t.tries r1.t.held r1.t.count r1.t.dead))))→(true=true)∧(if (r6=true) then (if (r1.t.asks=true) then (if ((r1.t.tries == (IntKind.wrap IntKind.i64 (r.snd.fst.tries + (1:Int))))=true) then (if (r1.f.poll=true) then (if ((r1.f.ack == r.snd.snd.fst)=true) then ((true=true)∧(K [(aB ((r1.f.say == (2:Int)) == r.snd.snd.snd))] [])) else ((true=true)∧(K [(aB false)] []))) else ((true=true)∧(K [(aB false)] []))) else ((true=true)∧(K [(aB false)] []))) else ((true=true)∧(K [(aB false)] []))) else ((true=true)∧(K [(aB false)] [])))))) else ((true=true)∧(K [(aB false)] [])))) else (if ((!r.snd.fst.asks)=true) then (if ((!r1.ok)=true) then ((true=true)∧(((((List.length r1.t.flight)≤(137438953472:Nat))∧(∀ y:Part,(List.Mem y r1.t.flight)→((List.length y.data)≤(137438953472:Nat))))∧(((List.length r1.t.queue)≤(137438953472:Nat))∧(∀ y:Part,(List.Mem y r1.t.queue)→((List.length y.data)≤(137438953472:Nat)))))∧(∀ r6:Bool,(r6=(decide ((TxS.mk r1.t.next r1.t.acked r1.t.flight r1.t.sent r1.t.queue r1.t.asks r1.t.tries r1.t.held r1.t.count r1.t.dead)=r.snd.fst)))→(true=true)∧((true=true)∧(K [(aB r6)] []))))) else ((true=true)∧(K [(aB false)] []))) else (if ((r.snd.fst.tries == r.fst.try_)=true) then (if ((!r1.ok)=true) then ((true=true)∧(K [(aB r1.t.dead)] [])) else ((true=true)∧(K [(aB false)] []))) else (if (r1.ok=true) then ((true=true)∧(True∧(∀ r6:Bool,(r6=(decide (TxP r.fst (TxS.mk r1.t.next r1.t.acked r1.t.flight r1.t.sent r1.t.queue r1.t.asks r1.t.tries r1.t.held r1.t.count r1.t.dead))))→(true=true)∧(if (r6=true) then (if (r1.t.asks=true) then (if ((r1.t.tries == (IntKind.wrap IntKind.i64 (r.snd.fst.tries + (1:Int))))=true) then (if (r1.f.poll=true) then (if ((r1.f.ack == r.snd.snd.fst)=true) then ((true=true)∧(K [(aB ((r1.f.say == (2:Int)) == r.snd.snd.snd))] [])) else ((true=true)∧(K [(aB false)] []))) else ((true=true)∧(K [(aB false)] []))) else ((true=true)∧(K [(aB false)] []))) else ((true=true)∧(K [(aB false)] []))) else ((true=true)∧(K [(aB false)] [])))))) else ((true=true)∧(K [(aB false)] []))))))) else (if ((!r1.ok)=true) then ((true=true)∧(((((List.length r1.t.flight)≤(137438953472:Nat))∧(∀ y:Part,(List.Mem y r1.t.flight)→((List.length y.data)≤(137438953472:Nat))))∧(((List.length r1.t.queue)≤(137438953472:Nat))∧(∀ y:Part,(List.Mem y r1.t.queue)→((List.length y.data)≤(137438953472:Nat)))))∧(∀ r6:Bool,(r6=(decide ((TxS.mk r1.t.next r1.t.acked r1.t.flight r1.t.sent r1.t.queue r1.t.asks r1.t.tries r1.t.held r1.t.count r1.t.dead)=r.snd.fst)))→(true=true)∧((true=true)∧(K [(aB r6)] []))))) else ((true=true)∧(K [(aB false)] [])))))))))))))))))))))))))))) := by
  repeat' first
    | exact rfl
    | exact True.intro
    | with_reducible apply And.intro
    | (with_reducible intro y_ hy_; subst hy_)
    | with_reducible intro y_
    | (refine iteI (fun h => ?_) (fun h => ?_))
  all_goals try simp only [Bool.not_eq_true', decide_eq_false_iff_not, decide_eq_true_eq, Bool.not_eq_true, bne_iff_ne, beq_iff_eq, ne_eq, Decidable.not_not, Bool.not_eq_false, gt_iff_lt, ge_iff_le, Int.not_le, Int.not_lt, beq_eq_false_iff_ne, bne_eq_false_iff_eq, Bool.and_eq_true, Bool.or_eq_true, Bool.true_eq_false, Bool.false_eq_true] at *
  all_goals try simp (disch := first | omega | grind [ttick_no, ttick_rest, ttick_last, ttick_yes, goWait_2, zTx, zFrm, → TxP.rng, IntKind.wrap_i64]) only [wr] at *
  all_goals try simp only [TxS.eta] at *
  all_goals first
    | assumption
    | omega
    | exact (TxD.b (by assumption)).fl
    | exact (TxD.b (by assumption)).ql
    | exact (TxD.b (by assumption)).fd _ ‹List.Mem _ _›
    | exact (TxD.b (by assumption)).qd _ ‹List.Mem _ _›
    | exact txPut_b.fl
    | exact txPut_b.ql
    | exact txPut_b.fd _ ‹List.Mem _ _›
    | exact txPut_b.qd _ ‹List.Mem _ _›
    | exact txSend_b.fl
    | exact txSend_b.ql
    | exact txSend_b.fd _ ‹List.Mem _ _›
    | exact txSend_b.qd _ ‹List.Mem _ _›
    | exact txHear_b.fl
    | exact txHear_b.ql
    | exact txHear_b.fd _ ‹List.Mem _ _›
    | exact txHear_b.qd _ ‹List.Mem _ _›
    | exact txTick_b.fl
    | exact txTick_b.ql
    | exact txTick_b.fd _ ‹List.Mem _ _›
    | exact txTick_b.qd _ ‹List.Mem _ _›
    | exact Nat.le_trans (TxD.fl (by assumption)) (by decide)
    | exact Nat.le_trans (TxD.ql (by assumption)) (by decide)
    | exact hk _ (by grind [ttick_no, ttick_rest, ttick_last, ttick_yes, goWait_2, zTx, zFrm, → TxP.rng, IntKind.wrap_i64])
    | (simp only [LIM] at *; omega)
    | grind [ttick_no, ttick_rest, ttick_last, ttick_yes, goWait_2, zTx, zFrm, → TxP.rng, IntKind.wrap_i64, LIM]
theorem w_laws_FnTxTick : Valid Try.prog 7 c_laws_FnTxTick :=
  valid_ctr2 (V := V_laws_FnTxTick) (tysB_ok tys_ok) ⟨(CallsL.cons w_spec_TxTick (CallsL.cons w_impl_TxTick (CallsL.cons w_spec_TxOk (CallsL.cons w_impl_TxOk (CallsL.cons w_laws_liOk (CallsL.cons w_spec_DrawTxTick (CallsL.cons w_laws_liTx (CallsL.cons w_laws_liFrame (CallsL.nil _))))))))), (IosL.nil _)⟩ mixed 0 6 Try.func7 rfl (by kernel_rfl)
    (fun c hc => by
      obtain rfl := Option.some.inj hc
      exact ⟨trivial, ⟨⟨trivial, ⟨⟨trivial, trivial⟩, trivial⟩⟩, ⟨trivial, ⟨trivial, ⟨trivial, ⟨⟨trivial, ⟨⟨trivial, trivial⟩, trivial⟩⟩, ⟨⟨trivial, ⟨⟨trivial, trivial⟩, trivial⟩⟩, ⟨trivial, ⟨⟨trivial, ⟨⟨trivial, trivial⟩, trivial⟩⟩, ⟨⟨trivial, ⟨⟨trivial, trivial⟩, trivial⟩⟩, ⟨trivial, trivial⟩⟩⟩⟩⟩⟩⟩⟩⟩⟩⟩)
    (fun x K hp hk => ⟨_, by kernel_rfl, vF_laws_FnTxTick x K hp (fun r h => hk r h)⟩)
end Go.Proofs.YtfcllghcdeifbaaE
