/- A part of the proof of laws of the program: what calls of the program answer. Conditions: none. -/
import Derived.Test.YtfcllghcdeifbaaMb6a43712
set_option linter.unusedVariables false
set_option linter.unusedSimpArgs false
set_option linter.unusedSectionVars false

/- Contracts: T3. Conditions: none. -/
set_option linter.unusedVariables false
set_option maxHeartbeats 1600000
namespace Go.Proofs.YtfcllghcdeifbaaE
open Go
theorem TxR.f {t : TxS} (h : TxR t) : t.flight.length ≤ 4 := h.2.1
theorem txAcked_eq {t : TxS} {a : Int} (h : TxR t) (h2 : (a - t.acked + 8) % 8 ≤ t.flight.length) : txAcked t a = ⟨t.next, a, t.flight.drop ((a - t.acked + 8) % 8).toNat, if t.sent - (a - t.acked + 8) % 8 > 0 then t.sent - (a - t.acked + 8) % 8 else 0, t.queue, t.asks, t.tries, t.held, t.count + (a - t.acked + 8) % 8, t.dead⟩ := by
  unfold txAcked; rw [if_neg (by omega)]
theorem TxP.fp {c : Cfg} {t : TxS} (h : TxP c t) : ∀ p, List.Mem p t.flight → PartP p := fun p hp => (h.2.2.2.2.2.2.2.2.2.2.1 p hp).1
theorem TxP.fm {c : Cfg} {t : TxS} (h : TxP c t) : ∀ p, List.Mem p t.flight → (p.data.length : Int) ≤ c.mps := fun p hp => (h.2.2.2.2.2.2.2.2.2.2.1 p hp).2
theorem TxP.qp {c : Cfg} {t : TxS} (h : TxP c t) : ∀ p, List.Mem p t.queue → PartP p := fun p hp => (h.2.2.2.2.2.2.2.2.2.2.2 p hp).1
theorem TxP.qm {c : Cfg} {t : TxS} (h : TxP c t) : ∀ p, List.Mem p t.queue → (p.data.length : Int) ≤ c.mps := fun p hp => (h.2.2.2.2.2.2.2.2.2.2.2 p hp).2
theorem txHear1_eq {t : TxS} {f : Frm} (hd : t.dead = false) : txHear1 t f = if (txAcked t f.ack).dead = true then txAcked t f.ack else txSaid (txAcked t f.ack) f := by
  unfold txHear1
  rw [hd, if_neg (by decide)]
  by_cases h : (f.ack - t.acked + 8) % 8 > t.flight.length
  · rw [if_pos h, show txAcked t f.ack = { t with dead := true } from if_pos h, if_pos rfl]
  · have e : (txAcked t f.ack).dead = false := by
      rw [show txAcked t f.ack = _ from if_neg h]; exact hd
    rw [if_neg h, e, if_neg (by decide)]
theorem txHear_in {c : Cfg} {t : TxS} {f : Frm} (h : TxP c t) (hf : FrmP f) (hk : f.kind = 1 ∨ f.kind = 2) : txHear c t f = txHear1 t f := if_pos ⟨h, hf, hk⟩
theorem txHear_go {t : TxS} {f : Frm} (hd : t.dead = false) (hn : (f.ack - t.acked + 8) % 8 ≤ t.flight.length) : txHear1 t f = txSaid ⟨t.next, f.ack, t.flight.drop ((f.ack - t.acked + 8) % 8).toNat, if t.sent - (f.ack - t.acked + 8) % 8 > 0 then t.sent - (f.ack - t.acked + 8) % 8 else 0, t.queue, t.asks, t.tries, t.held, t.count + (f.ack - t.acked + 8) % 8, t.dead⟩ f := by
  unfold txHear1 txAcked
  rw [hd, if_neg (by decide), if_neg (by omega), if_neg (by omega)]
theorem wrap_wait (b : Bool) : IntKind.i64.wrap (2 * bit b) = goWait b := by cases b <;> rfl

/-! impl.TxSend -/
/-! spec.TxSend -/
/-! spec.l6Acked -/
/-! spec.l6Hear -/
/-! spec.l6Tick -/
def c_spec_l6Tick : Ent := ctr (α := (Cfg) × (TxS) × (Int) × (Bool)) (ρ := (TxSendR)) [] [] (rs rCfg (rs rTx (rs rInt (rs1 rB)))) (fun x_ => (fun (c : Cfg) (t : TxS) (a : Int) (b : Bool) => (TxR t ∧ 0 ≤ a ∧ a ≤ 7)) x_.1 x_.2.1 x_.2.2.1 x_.2.2.2) (fun x_ r_ => (fun x_ => (fun (c : Cfg) (t : TxS) (a : Int) (b : Bool) => ((fun r_ => (fun (q : TxSendR) => (q = txTick1 c t a b)) r_))) x_.1 x_.2.1 x_.2.2.1 x_.2.2.2) x_ r_) (fun r_ => (fun (q : TxSendR) => ([rTx.to q.t, rFrm.to q.f, rB.to q.ok])) r_) (fun r_ => (fun (q : TxSendR) => ([])) r_)
def V_spec_l6Tick : Env := ⟨tys, [(102, c_spec_l2Bit)], [], [(4, 0), (5, 1), (8, 2), (9, 3)], [(8, ([2, 3], []))], [], [500013, 500018, 500023], [], [(8, [(0, false), (1, false), (2, false), (3, true), (4, false), (5, false), (6, true), (7, true), (8, false)])]⟩
/-! impl.TxHear -/
/-! spec.TxHear -/
/-! impl.TxTick -/
/-! spec.TxTick -/
def c_spec_TxTick : Ent := ctr (α := (Cfg) × (TxS) × (Int) × (Bool)) (ρ := (TxSendR)) [] [(0, 2), (0, 4)] (rs rCfg (rs rTx (rs rInt (rs1 rB)))) (fun x_ => (fun (c : Cfg) (t : TxS) (a : Int) (b : Bool) => (True)) x_.1 x_.2.1 x_.2.2.1 x_.2.2.2) (fun x_ r_ => (fun x_ => (fun (c : Cfg) (t : TxS) (a : Int) (b : Bool) => ((fun r_ => (fun (q : TxSendR) => (q = txTick c t a b)) r_))) x_.1 x_.2.1 x_.2.2.1 x_.2.2.2) x_ r_) (fun r_ => (fun (q : TxSendR) => ([oTx q.t, rFrm.to q.f, rB.to q.ok])) r_) (fun r_ => (fun (q : TxSendR) => ([])) r_)
def V_spec_TxTick : Env := ⟨tys, [(33, c_spec_TxOk), (60, c_spec_l6Copy), (67, c_spec_l1In), (68, c_spec_l6Tick)], [(23, [0, 1]), (36, [0, 1])], [(4, 0), (5, 1), (8, 2), (9, 3), (11, 4), (12, 5)], [(3, ([4, 5], [])), (4, ([2, 3], [0, 1]))], [], [500018], [], [(3, [(0, false), (1, false), (3, false), (4, false), (10, false), (11, false), (2, true), (5, true), (6, false), (7, false), (8, false), (9, false), (12, true), (13, true), (14, false)]), (4, [(0, false), (2, false), (3, false), (1, true), (4, true), (5, true), (6, false)])]⟩
/-! impl.TxLeft -/
end Go.Proofs.YtfcllghcdeifbaaE


/- Calls answer what is promised: T3. Conditions: none. -/
set_option linter.unusedVariables false
set_option maxHeartbeats 1600000
namespace Go.Proofs.YtfcllghcdeifbaaE
open Go
theorem vF_spec_l6Tick (c:Cfg) (t:TxS) (a:Int) (b:Bool) (K:List Arg→List (List AC)→Prop) (hp:TxR t∧0≤a∧a≤7) (hk:∀ (q:TxSendR),(q=txTick1 c t a b)→K ([rTx.to q.t,rFrm.to q.f,rB.to q.ok]) ([])):if (t.dead=true) then ((true=true)∧(K [(Arg.v true [(AC.d (D.i IntKind.i64 t.next)),(AC.d (D.i IntKind.i64 t.acked)),(AC.d (D.r RK.part t.flight)),(AC.d (D.i IntKind.i64 t.sent)),(AC.d (D.r RK.part t.queue)),(AC.d (D.b t.asks)),(AC.d (D.i IntKind.i64 t.tries)),(AC.d (D.b t.held)),(AC.d (D.i IntKind.i64 t.count)),(AC.d (D.b t.dead))]),(Arg.v true [(AC.d (D.i IntKind.i64 (0:Int))),(AC.d (D.i IntKind.i64 (0:Int))),(AC.d (D.i IntKind.i64 (0:Int))),(AC.d (D.b false)),(AC.d (D.b false)),(AC.d (D.i IntKind.i64 (0:Int))),(AC.d (D.i IntKind.i64 (0:Int))),(AC.d (D.i IntKind.i64 (0:Int))),(AC.d (D.r RK.u8 ([]:(List Int))))]),(aB false)] [])) else (if (((((List.length t.flight):Nat):Int) == (0:Int))=true) then (if ((!t.held)=true) then (if ((!t.asks)=true) then ((true=true)∧(K [(Arg.v true [(AC.d (D.i IntKind.i64 t.next)),(AC.d (D.i IntKind.i64 t.acked)),(AC.d (D.r RK.part t.flight)),(AC.d (D.i IntKind.i64 t.sent)),(AC.d (D.r RK.part t.queue)),(AC.d (D.b t.asks)),(AC.d (D.i IntKind.i64 t.tries)),(AC.d (D.b t.held)),(AC.d (D.i IntKind.i64 t.count)),(AC.d (D.b t.dead))]),(Arg.v true [(AC.d (D.i IntKind.i64 (0:Int))),(AC.d (D.i IntKind.i64 (0:Int))),(AC.d (D.i IntKind.i64 (0:Int))),(AC.d (D.b false)),(AC.d (D.b false)),(AC.d (D.i IntKind.i64 (0:Int))),(AC.d (D.i IntKind.i64 (0:Int))),(AC.d (D.i IntKind.i64 (0:Int))),(AC.d (D.r RK.u8 ([]:(List Int))))]),(aB false)] [])) else (if ((t.tries == c.try_)=true) then ((true=true)∧(K [(Arg.v true [(AC.d (D.i IntKind.i64 t.next)),(AC.d (D.i IntKind.i64 t.acked)),(AC.d (D.r RK.part t.flight)),(AC.d (D.i IntKind.i64 t.sent)),(AC.d (D.r RK.part t.queue)),(AC.d (D.b t.asks)),(AC.d (D.i IntKind.i64 t.tries)),(AC.d (D.b t.held)),(AC.d (D.i IntKind.i64 t.count)),(AC.d (D.b true))]),(Arg.v true [(AC.d (D.i IntKind.i64 (0:Int))),(AC.d (D.i IntKind.i64 (0:Int))),(AC.d (D.i IntKind.i64 (0:Int))),(AC.d (D.b false)),(AC.d (D.b false)),(AC.d (D.i IntKind.i64 (0:Int))),(AC.d (D.i IntKind.i64 (0:Int))),(AC.d (D.i IntKind.i64 (0:Int))),(AC.d (D.r RK.u8 ([]:(List Int))))]),(aB false)] [])) else ((true=true)∧(True∧(∀ r:Int,(r=(bit b))→(true=true)∧((true=true)∧((true=true)∧((true=true)∧((true=true)∧(K [(Arg.v true [(AC.d (D.i IntKind.i64 t.next)),(AC.d (D.i IntKind.i64 t.acked)),(AC.d (D.r RK.part t.flight)),(AC.d (D.i IntKind.i64 t.sent)),(AC.d (D.r RK.part t.queue)),(AC.d (D.b true)),(AC.d (D.i IntKind.i64 (IntKind.wrap IntKind.i64 (t.tries + (1:Int))))),(AC.d (D.b t.held)),(AC.d (D.i IntKind.i64 t.count)),(AC.d (D.b t.dead))]),(Arg.v true [(AC.d (D.i IntKind.i64 (2:Int))),(AC.d (D.i IntKind.i64 (0:Int))),(AC.d (D.i IntKind.i64 a)),(AC.d (D.b true)),(AC.d (D.b false)),(AC.d (D.i IntKind.i64 (IntKind.wrap IntKind.i64 ((2:Int) * r)))),(AC.d (D.i IntKind.i64 (0:Int))),(AC.d (D.i IntKind.i64 (0:Int))),(AC.d (D.r RK.u8 ([]:(List Int))))]),(aB true)] [])))))))))) else (if ((t.tries == c.try_)=true) then ((true=true)∧(K [(Arg.v true [(AC.d (D.i IntKind.i64 t.next)),(AC.d (D.i IntKind.i64 t.acked)),(AC.d (D.r RK.part t.flight)),(AC.d (D.i IntKind.i64 t.sent)),(AC.d (D.r RK.part t.queue)),(AC.d (D.b t.asks)),(AC.d (D.i IntKind.i64 t.tries)),(AC.d (D.b t.held)),(AC.d (D.i IntKind.i64 t.count)),(AC.d (D.b true))]),(Arg.v true [(AC.d (D.i IntKind.i64 (0:Int))),(AC.d (D.i IntKind.i64 (0:Int))),(AC.d (D.i IntKind.i64 (0:Int))),(AC.d (D.b false)),(AC.d (D.b false)),(AC.d (D.i IntKind.i64 (0:Int))),(AC.d (D.i IntKind.i64 (0:Int))),(AC.d (D.i IntKind.i64 (0:Int))),(AC.d (D.r RK.u8 ([]:(List Int))))]),(aB false)] [])) else ((true=true)∧(True∧(∀ r:Int,(r=(bit b))→(true=true)∧((true=true)∧((true=true)∧((true=true)∧((true=true)∧(K [(Arg.v true [(AC.d (D.i IntKind.i64 t.next)),(AC.d (D.i IntKind.i64 t.acked)),(AC.d (D.r RK.part t.flight)),(AC.d (D.i IntKind.i64 t.sent)),(AC.d (D.r RK.part t.queue)),(AC.d (D.b true)),(AC.d (D.i IntKind.i64 (IntKind.wrap IntKind.i64 (t.tries + (1:Int))))),(AC.d (D.b t.held)),(AC.d (D.i IntKind.i64 t.count)),(AC.d (D.b t.dead))]),(Arg.v true [(AC.d (D.i IntKind.i64 (2:Int))),(AC.d (D.i IntKind.i64 (0:Int))),(AC.d (D.i IntKind.i64 a)),(AC.d (D.b true)),(AC.d (D.b false)),(AC.d (D.i IntKind.i64 (IntKind.wrap IntKind.i64 ((2:Int) * r)))),(AC.d (D.i IntKind.i64 (0:Int))),(AC.d (D.i IntKind.i64 (0:Int))),(AC.d (D.r RK.u8 ([]:(List Int))))]),(aB true)] [])))))))))) else (if ((t.tries == c.try_)=true) then ((true=true)∧(K [(Arg.v true [(AC.d (D.i IntKind.i64 t.next)),(AC.d (D.i IntKind.i64 t.acked)),(AC.d (D.r RK.part t.flight)),(AC.d (D.i IntKind.i64 t.sent)),(AC.d (D.r RK.part t.queue)),(AC.d (D.b t.asks)),(AC.d (D.i IntKind.i64 t.tries)),(AC.d (D.b t.held)),(AC.d (D.i IntKind.i64 t.count)),(AC.d (D.b true))]),(Arg.v true [(AC.d (D.i IntKind.i64 (0:Int))),(AC.d (D.i IntKind.i64 (0:Int))),(AC.d (D.i IntKind.i64 (0:Int))),(AC.d (D.b false)),(AC.d (D.b false)),(AC.d (D.i IntKind.i64 (0:Int))),(AC.d (D.i IntKind.i64 (0:Int))),(AC.d (D.i IntKind.i64 (0:Int))),(AC.d (D.r RK.u8 ([]:(List Int))))]),(aB false)] [])) else ((true=true)∧(True∧(∀ r:Int,(r=(bit b))→(true=true)∧((true=true)∧((true=true)∧((true=true)∧((true=true)∧(K [(Arg.v true [(AC.d (D.i IntKind.i64 t.next)),(AC.d (D.i IntKind.i64 t.acked)),(AC.d (D.r RK.part t.flight)),(AC.d (D.i IntKind.i64 t.sent)),(AC.d (D.r RK.part t.queue)),(AC.d (D.b true)),(AC.d (D.i IntKind.i64 (IntKind.wrap IntKind.i64 (t.tries + (1:Int))))),(AC.d (D.b t.held)),(AC.d (D.i IntKind.i64 t.count)),(AC.d (D.b t.dead))]),(Arg.v true [(AC.d (D.i IntKind.i64 (2:Int))),(AC.d (D.i IntKind.i64 (0:Int))),(AC.d (D.i IntKind.i64 a)),(AC.d (D.b true)),(AC.d (D.b false)),(AC.d (D.i IntKind.i64 (IntKind.wrap IntKind.i64 ((2:Int) * r)))),(AC.d (D.i IntKind.i64 (0:Int))),(AC.d (D.i IntKind.i64 (0:Int))),(AC.d (D.r RK.u8 ([]:(List Int))))]),(aB true)] [])))))))))) := by
  repeat' first
    | exact rfl
    | exact True.intro
    | with_reducible apply And.intro
    | (with_reducible intro y_ hy_; subst hy_)
    | with_reducible intro y_
    | (refine iteI (fun h => ?_) (fun h => ?_))
  all_goals try simp only [Bool.not_eq_true', decide_eq_false_iff_not, decide_eq_true_eq, Bool.not_eq_true, bne_iff_ne, beq_iff_eq, ne_eq, Decidable.not_not, Bool.not_eq_false, gt_iff_lt, ge_iff_le, Int.not_le, Int.not_lt, beq_eq_false_iff_ne, bne_eq_false_iff_eq, Bool.and_eq_true, Bool.or_eq_true, Bool.true_eq_false, Bool.false_eq_true] at *
  all_goals try simp (disch := first | omega | grind [TxR]) only [wr] at *
  all_goals try simp only [wrap_wait] at *
  all_goals first
    | assumption
    | omega
    | (have h := hk _ rfl
       unfold txTick1 at h
       try dsimp only at h
       first
       | exact h
       | (repeat' split at h
          all_goals first | exact h | (exfalso; grind [TxR]) | (exfalso; simp at *; omega)))
    | exact hk _ (by grind [TxR])
    | (simp only [LIM] at *; omega)
    | grind [TxR, LIM]
theorem w_spec_l6Tick : Valid Try.prog 68 c_spec_l6Tick :=
  valid_ctr2 (V := V_spec_l6Tick) (tysB_ok tys_ok) ⟨(CallsL.cons w_spec_l2Bit (CallsL.nil _)), (IosL.nil _)⟩ mixed 0 4 Try.func68 rfl (by kernel_rfl)
    (fun c hc => by
      obtain rfl := Option.some.inj hc
      exact ⟨trivial, ⟨⟨trivial, ⟨⟨trivial, trivial⟩, trivial⟩⟩, ⟨⟨trivial, ⟨⟨trivial, ⟨trivial, trivial⟩⟩, trivial⟩⟩, ⟨trivial, ⟨trivial, ⟨trivial, trivial⟩⟩⟩⟩⟩⟩)
    (fun x K hp hk => ⟨_, by kernel_rfl, vF_spec_l6Tick x.1 x.2.1 x.2.2.1 x.2.2.2 K hp (fun q h => hk q h)⟩)
theorem vF_spec_TxTick (c:Cfg) (t:TxS) (a:Int) (b:Bool) (K:List Arg→List (List AC)→Prop) (hp:True) (hk:∀ (q:TxSendR),(q=txTick c t a b)→K ([oTx q.t,rFrm.to q.f,rB.to q.ok]) ([])):(true=true)∧(True∧(∀ r:Bool,(r=(decide (TxP c t)))→(true=true)∧(if ((!r)=true) then ((true=true)∧(K [(Arg.v true [(AC.d (D.i IntKind.i64 (0:Int))),(AC.d (D.i IntKind.i64 (0:Int))),(AC.own (RC.mk (58:Nat) RK.part ([]:(List Part)) (RM.mk (dpM false (Option.none)) false (0:Nat) false))),(AC.d (D.i IntKind.i64 (0:Int))),(AC.own (RC.mk (58:Nat) RK.part ([]:(List Part)) (RM.mk (dpM false (Option.none)) false (0:Nat) false))),(AC.d (D.b false)),(AC.d (D.i IntKind.i64 (0:Int))),(AC.d (D.b false)),(AC.d (D.i IntKind.i64 (0:Int))),(AC.d (D.b false))]),(Arg.v true [(AC.d (D.i IntKind.i64 (0:Int))),(AC.d (D.i IntKind.i64 (0:Int))),(AC.d (D.i IntKind.i64 (0:Int))),(AC.d (D.b false)),(AC.d (D.b false)),(AC.d (D.i IntKind.i64 (0:Int))),(AC.d (D.i IntKind.i64 (0:Int))),(AC.d (D.i IntKind.i64 (0:Int))),(AC.d (D.r RK.u8 ([]:(List Int))))]),(aB false)] [])) else ((true=true)∧(True∧(∀ r1:Bool,(r1=(decide (((0:Int)≤a)∧(a≤(7:Int)))))→(true=true)∧(if ((!r1)=true) then ((true=true)∧(K [(Arg.v true [(AC.d (D.i IntKind.i64 (0:Int))),(AC.d (D.i IntKind.i64 (0:Int))),(AC.own (RC.mk (58:Nat) RK.part ([]:(List Part)) (RM.mk (dpM false (Option.none)) false (0:Nat) false))),(AC.d (D.i IntKind.i64 (0:Int))),(AC.own (RC.mk (58:Nat) RK.part ([]:(List Part)) (RM.mk (dpM false (Option.none)) false (0:Nat) false))),(AC.d (D.b false)),(AC.d (D.i IntKind.i64 (0:Int))),(AC.d (D.b false)),(AC.d (D.i IntKind.i64 (0:Int))),(AC.d (D.b false))]),(Arg.v true [(AC.d (D.i IntKind.i64 (0:Int))),(AC.d (D.i IntKind.i64 (0:Int))),(AC.d (D.i IntKind.i64 (0:Int))),(AC.d (D.b false)),(AC.d (D.b false)),(AC.d (D.i IntKind.i64 (0:Int))),(AC.d (D.i IntKind.i64 (0:Int))),(AC.d (D.i IntKind.i64 (0:Int))),(AC.d (D.r RK.u8 ([]:(List Int))))]),(aB false)] [])) else ((true=true)∧(((((List.length t.flight)≤(1000:Nat))∧(∀ p:Part,(List.Mem p t.flight)→((List.length p.data)≤(137438953472:Nat))))∧(((List.length t.queue)≤(1000:Nat))∧(∀ p:Part,(List.Mem p t.queue)→((List.length p.data)≤(137438953472:Nat)))))∧(∀ r2:TxS,(r2=t)→(true=true)∧((true=true)∧((true=true)∧((((((0:Int)≤r2.acked)∧(r2.acked≤(7:Int)))∧(((List.length r2.flight)≤(4:Nat))∧((((0:Int)≤r2.sent)∧(r2.sent≤(4:Int)))∧((((0:Int)≤r2.count)∧(r2.count≤(9999:Int)))∧((((0:Int)≤r2.tries)∧(r2.tries≤(5:Int)))∧(∀ p:Part,(List.Mem p r2.flight)→((List.length p.data)≤(137438953472:Nat))))))))∧(((0:Int)≤a)∧(a≤(7:Int))))∧(∀ r3:TxSendR,(r3=(txTick1 c (TxS.mk r2.next r2.acked r2.flight r2.sent r2.queue r2.asks r2.tries r2.held r2.count r2.dead) a b))→(true=true)∧((true=true)∧((true=true)∧((true=true)∧((true=true)∧(((((List.length r3.t.flight)≤(1000:Nat))∧(∀ p:Part,(List.Mem p r3.t.flight)→((List.length p.data)≤(137438953472:Nat))))∧(((List.length r3.t.queue)≤(1000:Nat))∧(∀ p:Part,(List.Mem p r3.t.queue)→((List.length p.data)≤(137438953472:Nat)))))∧(∀ r4:TxS,(r4=r3.t)→(true=true)∧((true=true)∧((true=true)∧((true=true)∧((true=true)∧(K [(Arg.v true [(AC.d (D.i IntKind.i64 r4.next)),(AC.d (D.i IntKind.i64 r4.acked)),(AC.own (RC.mk (58:Nat) RK.part r4.flight (RM.mk (dpM false (Option.none)) false (0:Nat) false))),(AC.d (D.i IntKind.i64 r4.sent)),(AC.own (RC.mk (58:Nat) RK.part r4.queue (RM.mk (dpM false (Option.none)) false (0:Nat) false))),(AC.d (D.b r4.asks)),(AC.d (D.i IntKind.i64 r4.tries)),(AC.d (D.b r4.held)),(AC.d (D.i IntKind.i64 r4.count)),(AC.d (D.b r4.dead))]),(Arg.v true [(AC.d (D.i IntKind.i64 r3.f.kind)),(AC.d (D.i IntKind.i64 r3.f.seq)),(AC.d (D.i IntKind.i64 r3.f.ack)),(AC.d (D.b r3.f.poll)),(AC.d (D.b r3.f.final)),(AC.d (D.i IntKind.i64 r3.f.say)),(AC.d (D.i IntKind.i64 r3.f.seg)),(AC.d (D.i IntKind.i64 r3.f.len)),(AC.d (D.r RK.u8 r3.f.data))]),(aB r3.ok)] []))))))))))))))))))))))))) := by
  repeat' first
    | exact rfl
    | exact True.intro
    | with_reducible apply And.intro
    | (with_reducible intro y_ hy_; subst hy_)
    | with_reducible intro y_
    | (refine iteI (fun h => ?_) (fun h => ?_))
  all_goals try simp only [Bool.not_eq_true', decide_eq_false_iff_not, decide_eq_true_eq, Bool.not_eq_true, bne_iff_ne, beq_iff_eq, ne_eq, Decidable.not_not, Bool.not_eq_false, gt_iff_lt, ge_iff_le, Int.not_le, Int.not_lt, beq_eq_false_iff_ne, bne_eq_false_iff_eq, Bool.and_eq_true, Bool.or_eq_true, Bool.true_eq_false, Bool.false_eq_true] at *
  all_goals try simp (disch := first | omega | grind [TxP]) only [wr] at *
  all_goals try simp only [take_drop_n, wrap_wait] at *
  all_goals try have h7 := TxP.rng ‹TxP _ _›
  all_goals try simp (disch := omega) only [wr] at *
  all_goals first
    | assumption
    | omega
    | exact TxP.fdata ‹TxP _ _› _ ‹List.Mem _ _›
    | exact TxP.qdata ‹TxP _ _› _ ‹List.Mem _ _›
    | (rcases List.mem_append.1 (show _ ∈ _ ++ _ from ‹List.Mem _ _›) with h9 | h9
       · exact TxP.qdata ‹TxP _ _› _ h9
       · exact segCut_d _ _ _ h9)
    | (rw [List.length_append]; omega)
    | exact (txPut1_l ‹TxP _ _›).1.1
    | exact (txPut1_l ‹TxP _ _›).1.2 _ ‹List.Mem _ _›
    | exact (txPut1_l ‹TxP _ _›).2.1
    | exact (txPut1_l ‹TxP _ _›).2.2 _ ‹List.Mem _ _›
    | exact (txSend1_l ‹TxP _ _›).1.1
    | exact (txSend1_l ‹TxP _ _›).1.2 _ ‹List.Mem _ _›
    | exact (txSend1_l ‹TxP _ _›).2.1
    | exact (txSend1_l ‹TxP _ _›).2.2 _ ‹List.Mem _ _›
    | exact (txHear1_l ‹TxP _ _›).1.1
    | exact (txHear1_l ‹TxP _ _›).1.2 _ ‹List.Mem _ _›
    | exact (txHear1_l ‹TxP _ _›).2.1
    | exact (txHear1_l ‹TxP _ _›).2.2 _ ‹List.Mem _ _›
    | exact (txTick1_l ‹TxP _ _›).1.1
    | exact (txTick1_l ‹TxP _ _›).1.2 _ ‹List.Mem _ _›
    | exact (txTick1_l ‹TxP _ _›).2.1
    | exact (txTick1_l ‹TxP _ _›).2.2 _ ‹List.Mem _ _›
    | exact TxP.r ‹TxP _ _›
    | exact FrmP.ack ‹FrmP _›
    | exact TxP.fp ‹TxP _ _› _ ‹List.Mem _ _›
    | exact TxP.fm ‹TxP _ _› _ ‹List.Mem _ _›
    | exact TxP.qp ‹TxP _ _› _ ‹List.Mem _ _›
    | exact TxP.qm ‹TxP _ _› _ ‹List.Mem _ _›
    | exact (FrmP.ack ‹FrmP _›).1
    | exact (FrmP.ack ‹FrmP _›).2
    | (have h9 := hk _ rfl
       rw [txHear_in ‹TxP _ _› ‹FrmP _› (by first | exact .inl ‹_› | exact .inr ‹_› | omega), txHear_go ‹_ = false› (by omega)] at h9
       unfold txSaid at h9
       dsimp only at h9
       repeat' split at h9
       all_goals first | exact h9 | (split <;> first | exact h9 | (exfalso; omega)) | (exfalso; grind) | (exfalso; simp at *; omega))
    | (have h := hk _ rfl
       unfold txTick at h
       try dsimp only at h
       first
       | exact h
       | (repeat' split at h
          all_goals first | exact h | (exfalso; grind [TxP]) | (exfalso; simp at *; omega)))
    | (have h := hk _ rfl
       unfold txTick txTick1 at h
       try dsimp only at h
       repeat' split at h
       all_goals first | exact h | (exfalso; grind [TxP]) | (exfalso; simp at *; omega))
    | exact hk _ (by grind [TxP])
    | (simp only [LIM] at *; omega)
    | grind [TxP, LIM]
theorem w_spec_TxTick : Valid Try.prog 27 c_spec_TxTick :=
  valid_ctr2 (V := V_spec_TxTick) (tysB_ok tys_ok) ⟨(CallsL.cons w_spec_TxOk (CallsL.cons w_spec_l6Copy (CallsL.cons w_spec_l1In (CallsL.cons w_spec_l6Tick (CallsL.nil _))))), (IosL.nil _)⟩ mixed 2 6 Try.func27 rfl (by kernel_rfl)
    (fun c hc => by
      obtain rfl := Option.some.inj hc
      exact ⟨trivial, ⟨⟨trivial, ⟨⟨trivial, trivial⟩, trivial⟩⟩, ⟨trivial, ⟨trivial, trivial⟩⟩⟩⟩)
    (fun x K hp hk => ⟨_, by kernel_rfl, vF_spec_TxTick x.1 x.2.1 x.2.2.1 x.2.2.2 K hp (fun q h => hk q h)⟩)
end Go.Proofs.YtfcllghcdeifbaaE
