/- A part of the proof of laws of the program: what calls of the program answer. Conditions: none. -/
import Derived.Test.YtfcllghcdeifbaaMc38f1a79
set_option linter.unusedVariables false
set_option linter.unusedSimpArgs false
set_option linter.unusedSectionVars false

/- Contracts: T3. Conditions: none. -/
set_option linter.unusedVariables false
set_option maxHeartbeats 1600000
namespace Go.Proofs.YtfcllghcdeifbaaE
open Go
theorem TxR.f {t : TxS} (h : TxR t) : t.flight.length ≤ 4 := h.2.1
theorem txAcked_eq {t : TxS} {a : Int} (h : TxR t) (h2 : (a - t.acked + 8) % 8 ≤ t.flight.length) : txAcked t a = ⟨t.next, a, t.flight.drop ((a - t.acked + 8) % 8).toNat, if t.sent - (a - t.acked + 8) % 8 > 0 then t.sent - (a - t.acked + 8) % 8 else 0, t.queue, t.asks, t.tries, t.held, t.count + (a - t.acked + 8) % 8, t.dead⟩ := by
  unfold txAcked; rw [if_neg (by omega)]
theorem TxP.fp {c : Cfg} {t : TxS} (h : TxP c t) : ∀ p, List.Mem p t.flight → PartP p := fun p hp => (h.2.2.2.2.2.2.2.2.2.2.1 p hp).1
theorem TxP.fm {c : Cfg} {t : TxS} (h : TxP c t) : ∀ p, List.Mem p t.flight → (p.data.length : Int) ≤ c.mps := fun p hp => (h.2.2.2.2.2.2.2.2.2.2.1 p hp).2
theorem TxP.qp {c : Cfg} {t : TxS} (h : TxP c t) : ∀ p, List.Mem p t.queue → PartP p := fun p hp => (h.2.2.2.2.2.2.2.2.2.2.2 p hp).1
theorem TxP.qm {c : Cfg} {t : TxS} (h : TxP c t) : ∀ p, List.Mem p t.queue → (p.data.length : Int) ≤ c.mps := fun p hp => (h.2.2.2.2.2.2.2.2.2.2.2 p hp).2
theorem txHear1_eq {t : TxS} {f : Frm} (hd : t.dead = false) : txHear1 t f = if (txAcked t f.ack).dead = true then txAcked t f.ack else txSaid (txAcked t f.ack) f := by
  unfold txHear1
  rw [hd, if_neg (by decide)]
  by_cases h : (f.ack - t.acked + 8) % 8 > t.flight.length
  · rw [if_pos h, show txAcked t f.ack = { t with dead := true } from if_pos h, if_pos rfl]
  · have e : (txAcked t f.ack).dead = false := by
      rw [show txAcked t f.ack = _ from if_neg h]; exact hd
    rw [if_neg h, e, if_neg (by decide)]
theorem txHear_in {c : Cfg} {t : TxS} {f : Frm} (h : TxP c t) (hf : FrmP f) (hk : f.kind = 1 ∨ f.kind = 2) : txHear c t f = txHear1 t f := if_pos ⟨h, hf, hk⟩
theorem txHear_go {t : TxS} {f : Frm} (hd : t.dead = false) (hn : (f.ack - t.acked + 8) % 8 ≤ t.flight.length) : txHear1 t f = txSaid ⟨t.next, f.ack, t.flight.drop ((f.ack - t.acked + 8) % 8).toNat, if t.sent - (f.ack - t.acked + 8) % 8 > 0 then t.sent - (f.ack - t.acked + 8) % 8 else 0, t.queue, t.asks, t.tries, t.held, t.count + (f.ack - t.acked + 8) % 8, t.dead⟩ f := by
  unfold txHear1 txAcked
  rw [hd, if_neg (by decide), if_neg (by omega), if_neg (by omega)]
theorem wrap_wait (b : Bool) : IntKind.i64.wrap (2 * bit b) = goWait b := by cases b <;> rfl

/-! impl.TxSend -/
/-! spec.TxSend -/
/-! spec.l6Acked -/
def c_spec_l6Acked : Ent := ctr (α := (TxS) × (Int)) (ρ := (TxS)) [] [] (rs rTx (rs1 rInt)) (fun x_ => (fun (t : TxS) (a : Int) => (TxR t ∧ 0 ≤ a ∧ a ≤ 7)) x_.1 x_.2) (fun x_ r_ => (fun x_ => (fun (t : TxS) (a : Int) => ((fun r_ => (fun (q : TxS) => (q = txAcked t a)) r_))) x_.1 x_.2) x_ r_) (fun r_ => (fun (q : TxS) => ([rTx.to q])) r_) (fun r_ => (fun (q : TxS) => ([])) r_)
def V_spec_l6Acked : Env := ⟨tys, [(77, c_spec_NumFar), (96, c_spec_l6List)], [], [(2, 0), (4, 1)], [], [], [], [], []⟩
/-! spec.l6Hear -/
def c_spec_l6Hear : Ent := ctr (α := (TxS) × (Frm)) (ρ := (TxS)) [] [] (rs rTx (rs1 rFrm)) (fun x_ => (fun (t : TxS) (f : Frm) => (TxR t ∧ 0 ≤ f.ack ∧ f.ack ≤ 7)) x_.1 x_.2) (fun x_ r_ => (fun x_ => (fun (t : TxS) (f : Frm) => ((fun r_ => (fun (q : TxS) => (q = txHear1 t f)) r_))) x_.1 x_.2) x_ r_) (fun r_ => (fun (q : TxS) => ([rTx.to q])) r_) (fun r_ => (fun (q : TxS) => ([])) r_)
def V_spec_l6Hear : Env := ⟨tys, [(115, c_spec_l6Acked)], [], [(2, 0), (3, 1), (4, 2)], [], [], [500014, 500018, 500034, 500044, 500049], [], []⟩
/-! spec.l6Tick -/
/-! impl.TxHear -/
/-! spec.TxHear -/
def c_spec_TxHear : Ent := ctr (α := (Cfg) × (TxS) × (Frm)) (ρ := (TxS)) [] [(0, 2), (0, 4)] (rs rCfg (rs rTx (rs1 rFrm))) (fun x_ => (fun (c : Cfg) (t : TxS) (f : Frm) => (f.data.length ≤ 137438953472)) x_.1 x_.2.1 x_.2.2) (fun x_ r_ => (fun x_ => (fun (c : Cfg) (t : TxS) (f : Frm) => ((fun r_ => (fun (q : TxS) => (q = txHear c t f)) r_))) x_.1 x_.2.1 x_.2.2) x_ r_) (fun r_ => (fun (q : TxS) => ([oTx q])) r_) (fun r_ => (fun (q : TxS) => ([])) r_)
def V_spec_TxHear : Env := ⟨tys, [(33, c_spec_TxOk), (55, c_spec_FrmOk), (60, c_spec_l6Copy), (91, c_spec_l6Hear)], [(26, [0, 1]), (31, [0, 1])], [(3, 0), (4, 1), (5, 2), (6, 3)], [(3, ([], [0, 1]))], [], [500011, 500016, 500020], [], [(3, [(0, false), (2, false), (1, true), (3, true), (4, true), (5, true)])]⟩
/-! impl.TxTick -/
/-! spec.TxTick -/
/-! impl.TxLeft -/
end Go.Proofs.YtfcllghcdeifbaaE


/- Calls answer what is promised: T3. Conditions: none. -/
set_option linter.unusedVariables false
set_option maxHeartbeats 1600000
namespace Go.Proofs.YtfcllghcdeifbaaE
open Go
theorem vF_spec_l6Acked (t:TxS) (a:Int) (K:List Arg→List (List AC)→Prop) (hp:TxR t∧0≤a∧a≤7) (hk:∀ (q:TxS),(q=txAcked t a)→K ([rTx.to q]) ([])):(true=true)∧(True∧(∀ r:Int,(r=(if (((0:Int)≤t.acked)∧((t.acked≤(7:Int))∧(((0:Int)≤a)∧(a≤(7:Int))))) then (((a - t.acked) + (8:Int)) % (8:Int)) else (-1:Int)))→(true=true)∧(if ((decide (r > (((List.length t.flight):Nat):Int)))=true) then ((true=true)∧(K [(Arg.v true [(AC.d (D.i IntKind.i64 t.next)),(AC.d (D.i IntKind.i64 t.acked)),(AC.d (D.r RK.part t.flight)),(AC.d (D.i IntKind.i64 t.sent)),(AC.d (D.r RK.part t.queue)),(AC.d (D.b t.asks)),(AC.d (D.i IntKind.i64 t.tries)),(AC.d (D.b t.held)),(AC.d (D.i IntKind.i64 t.count)),(AC.d (D.b true))])] [])) else ((((0:Int)≤r)∧((r≤(((List.length t.flight):Nat):Int))∧((((List.length t.flight):Nat):Int)≤(((List.length t.flight):Nat):Int))))∧((true=true)∧((((List.length (List.take ((Int.toNat (((List.length t.flight):Nat):Int)) - (Int.toNat r)) (List.drop (Int.toNat r) t.flight)))≤(1000:Nat))∧(∀ p:Part,(List.Mem p (List.take ((Int.toNat (((List.length t.flight):Nat):Int)) - (Int.toNat r)) (List.drop (Int.toNat r) t.flight)))→((List.length p.data)≤(137438953472:Nat))))∧(∀ r1:(List Part),(r1=(List.take ((Int.toNat (((List.length t.flight):Nat):Int)) - (Int.toNat r)) (List.drop (Int.toNat r) t.flight)))→(true=true)∧((true=true)∧(K [(Arg.v true [(AC.d (D.i IntKind.i64 t.next)),(AC.d (D.i IntKind.i64 a)),(AC.d (D.r RK.part r1)),(AC.d (D.i IntKind.i64 (if ((IntKind.wrap IntKind.i64 (t.sent - r)) > (0:Int)) then (IntKind.wrap IntKind.i64 (t.sent - r)) else (0:Int)))),(AC.d (D.r RK.part t.queue)),(AC.d (D.b t.asks)),(AC.d (D.i IntKind.i64 t.tries)),(AC.d (D.b t.held)),(AC.d (D.i IntKind.i64 (IntKind.wrap IntKind.i64 (t.count + r)))),(AC.d (D.b t.dead))])] []))))))))) := by
  have hR : TxR t := hp.1
  obtain ⟨⟨h1, h2, h3, h4, h5, h6⟩, h7, h8⟩ := hp
  have hfar : (if 0 ≤ t.acked ∧ t.acked ≤ 7 ∧ 0 ≤ a ∧ a ≤ 7 then (a - t.acked + 8) % 8 else (-1 : Int)) = (a - t.acked + 8) % 8 := if_pos ⟨h1.1, h1.2, h7, h8⟩
  try simp only [hfar]

  repeat' first
    | exact rfl
    | exact True.intro
    | with_reducible apply And.intro
    | (with_reducible intro y_ hy_; subst hy_)
    | with_reducible intro y_
    | (refine iteI (fun h => ?_) (fun h => ?_))
  all_goals try simp only [Bool.not_eq_true', decide_eq_false_iff_not, decide_eq_true_eq, Bool.not_eq_true, bne_iff_ne, beq_iff_eq, ne_eq, Decidable.not_not, Bool.not_eq_false, gt_iff_lt, ge_iff_le, Int.not_le, Int.not_lt, beq_eq_false_iff_ne, bne_eq_false_iff_eq, Bool.and_eq_true, Bool.or_eq_true, Bool.true_eq_false, Bool.false_eq_true] at *
  all_goals try simp (disch := first | omega | grind []) only [wr] at *
  all_goals try simp only [hfar] at *
  all_goals try simp (disch := omega) only [wr] at *
  all_goals first
    | assumption
    | omega
    | exact h6 _ (List.mem_of_mem_drop (List.mem_of_mem_take (show List.Mem _ (List.take _ _) from ‹List.Mem _ _›)))
    | exact h6 _ ‹List.Mem _ _›
    | (have h9 := hk _ rfl
       rw [txAcked_eq hR (by omega), ← take_drop_n] at h9
       exact h9)
    | (have h := hk _ rfl
       unfold txAcked at h
       try dsimp only at h
       first
       | exact h
       | (repeat' split at h
          all_goals first | exact h | (exfalso; grind []) | (exfalso; simp at *; omega)))
    | exact hk _ (by grind [])
    | (simp only [LIM] at *; omega)
    | grind [LIM]
theorem w_spec_l6Acked : Valid Try.prog 115 c_spec_l6Acked :=
  valid_ctr2 (V := V_spec_l6Acked) (tysB_ok tys_ok) ⟨(CallsL.cons w_spec_NumFar (CallsL.cons w_spec_l6List (CallsL.nil _))), (IosL.nil _)⟩ mixed 0 2 Try.func115 rfl (by kernel_rfl)
    (fun c hc => by
      obtain rfl := Option.some.inj hc
      exact ⟨trivial, ⟨trivial, ⟨⟨trivial, ⟨⟨trivial, ⟨trivial, trivial⟩⟩, trivial⟩⟩, ⟨trivial, ⟨trivial, ⟨trivial, ⟨trivial, ⟨trivial, trivial⟩⟩⟩⟩⟩⟩⟩⟩)
    (fun x K hp hk => ⟨_, by kernel_rfl, vF_spec_l6Acked x.1 x.2 K hp (fun q h => hk q h)⟩)
theorem vF_spec_l6Hear (t:TxS) (f:Frm) (K:List Arg→List (List AC)→Prop) (hp:TxR t∧0≤f.ack∧f.ack≤7) (hk:∀ (q:TxS),(q=txHear1 t f)→K ([rTx.to q]) ([])):if (t.dead=true) then ((true=true)∧(K [(Arg.v true [(AC.d (D.i IntKind.i64 t.next)),(AC.d (D.i IntKind.i64 t.acked)),(AC.d (D.r RK.part t.flight)),(AC.d (D.i IntKind.i64 t.sent)),(AC.d (D.r RK.part t.queue)),(AC.d (D.b t.asks)),(AC.d (D.i IntKind.i64 t.tries)),(AC.d (D.b t.held)),(AC.d (D.i IntKind.i64 t.count)),(AC.d (D.b t.dead))])] [])) else ((true=true)∧((((((0:Int)≤t.acked)∧(t.acked≤(7:Int)))∧(((List.length t.flight)≤(4:Nat))∧((((0:Int)≤t.sent)∧(t.sent≤(4:Int)))∧((((0:Int)≤t.count)∧(t.count≤(9999:Int)))∧((((0:Int)≤t.tries)∧(t.tries≤(5:Int)))∧(∀ p:Part,(List.Mem p t.flight)→((List.length p.data)≤(137438953472:Nat))))))))∧(((0:Int)≤f.ack)∧(f.ack≤(7:Int))))∧(∀ r:TxS,(r=(txAcked t f.ack))→(true=true)∧(if (r.dead=true) then ((true=true)∧(K [(Arg.v true [(AC.d (D.i IntKind.i64 r.next)),(AC.d (D.i IntKind.i64 r.acked)),(AC.d (D.r RK.part r.flight)),(AC.d (D.i IntKind.i64 r.sent)),(AC.d (D.r RK.part r.queue)),(AC.d (D.b r.asks)),(AC.d (D.i IntKind.i64 r.tries)),(AC.d (D.b r.held)),(AC.d (D.i IntKind.i64 r.count)),(AC.d (D.b r.dead))])] [])) else (if ((f.kind != (2:Int))=true) then (if ((!f.final)=true) then ((true=true)∧(K [(Arg.v true [(AC.d (D.i IntKind.i64 r.next)),(AC.d (D.i IntKind.i64 r.acked)),(AC.d (D.r RK.part r.flight)),(AC.d (D.i IntKind.i64 r.sent)),(AC.d (D.r RK.part r.queue)),(AC.d (D.b r.asks)),(AC.d (D.i IntKind.i64 r.tries)),(AC.d (D.b r.held)),(AC.d (D.i IntKind.i64 r.count)),(AC.d (D.b r.dead))])] [])) else (if ((f.kind == (2:Int))=true) then (if (f.final=true) then (if (r.asks=true) then (if ((f.kind == (2:Int))=true) then (if ((f.say == (1:Int))=true) then ((true=true)∧(K [(Arg.v true [(AC.d (D.i IntKind.i64 r.next)),(AC.d (D.i IntKind.i64 r.acked)),(AC.d (D.r RK.part r.flight)),(AC.d (D.i IntKind.i64 (0:Int))),(AC.d (D.r RK.part r.queue)),(AC.d (D.b false)),(AC.d (D.i IntKind.i64 (0:Int))),(AC.d (D.b (f.say == (2:Int)))),(AC.d (D.i IntKind.i64 r.count)),(AC.d (D.b r.dead))])] [])) else ((true=true)∧(K [(Arg.v true [(AC.d (D.i IntKind.i64 r.next)),(AC.d (D.i IntKind.i64 r.acked)),(AC.d (D.r RK.part r.flight)),(AC.d (D.i IntKind.i64 (0:Int))),(AC.d (D.r RK.part r.queue)),(AC.d (D.b false)),(AC.d (D.i IntKind.i64 (0:Int))),(AC.d (D.b (f.say == (2:Int)))),(AC.d (D.i IntKind.i64 r.count)),(AC.d (D.b r.dead))])] []))) else ((true=true)∧(K [(Arg.v true [(AC.d (D.i IntKind.i64 r.next)),(AC.d (D.i IntKind.i64 r.acked)),(AC.d (D.r RK.part r.flight)),(AC.d (D.i IntKind.i64 (0:Int))),(AC.d (D.r RK.part r.queue)),(AC.d (D.b false)),(AC.d (D.i IntKind.i64 (0:Int))),(AC.d (D.b (f.say == (2:Int)))),(AC.d (D.i IntKind.i64 r.count)),(AC.d (D.b r.dead))])] []))) else (if ((f.kind == (2:Int))=true) then (if ((f.say == (1:Int))=true) then (if ((!r.asks)=true) then ((true=true)∧(K [(Arg.v true [(AC.d (D.i IntKind.i64 r.next)),(AC.d (D.i IntKind.i64 r.acked)),(AC.d (D.r RK.part r.flight)),(AC.d (D.i IntKind.i64 (0:Int))),(AC.d (D.r RK.part r.queue)),(AC.d (D.b r.asks)),(AC.d (D.i IntKind.i64 r.tries)),(AC.d (D.b (f.say == (2:Int)))),(AC.d (D.i IntKind.i64 r.count)),(AC.d (D.b r.dead))])] [])) else ((true=true)∧(K [(Arg.v true [(AC.d (D.i IntKind.i64 r.next)),(AC.d (D.i IntKind.i64 r.acked)),(AC.d (D.r RK.part r.flight)),(AC.d (D.i IntKind.i64 r.sent)),(AC.d (D.r RK.part r.queue)),(AC.d (D.b r.asks)),(AC.d (D.i IntKind.i64 r.tries)),(AC.d (D.b (f.say == (2:Int)))),(AC.d (D.i IntKind.i64 r.count)),(AC.d (D.b r.dead))])] []))) else ((true=true)∧(K [(Arg.v true [(AC.d (D.i IntKind.i64 r.next)),(AC.d (D.i IntKind.i64 r.acked)),(AC.d (D.r RK.part r.flight)),(AC.d (D.i IntKind.i64 r.sent)),(AC.d (D.r RK.part r.queue)),(AC.d (D.b r.asks)),(AC.d (D.i IntKind.i64 r.tries)),(AC.d (D.b (f.say == (2:Int)))),(AC.d (D.i IntKind.i64 r.count)),(AC.d (D.b r.dead))])] []))) else ((true=true)∧(K [(Arg.v true [(AC.d (D.i IntKind.i64 r.next)),(AC.d (D.i IntKind.i64 r.acked)),(AC.d (D.r RK.part r.flight)),(AC.d (D.i IntKind.i64 r.sent)),(AC.d (D.r RK.part r.queue)),(AC.d (D.b r.asks)),(AC.d (D.i IntKind.i64 r.tries)),(AC.d (D.b (f.say == (2:Int)))),(AC.d (D.i IntKind.i64 r.count)),(AC.d (D.b r.dead))])] [])))) else (if ((f.kind == (2:Int))=true) then (if ((f.say == (1:Int))=true) then (if ((!r.asks)=true) then ((true=true)∧(K [(Arg.v true [(AC.d (D.i IntKind.i64 r.next)),(AC.d (D.i IntKind.i64 r.acked)),(AC.d (D.r RK.part r.flight)),(AC.d (D.i IntKind.i64 (0:Int))),(AC.d (D.r RK.part r.queue)),(AC.d (D.b r.asks)),(AC.d (D.i IntKind.i64 r.tries)),(AC.d (D.b (f.say == (2:Int)))),(AC.d (D.i IntKind.i64 r.count)),(AC.d (D.b r.dead))])] [])) else ((true=true)∧(K [(Arg.v true [(AC.d (D.i IntKind.i64 r.next)),(AC.d (D.i IntKind.i64 r.acked)),(AC.d (D.r RK.part r.flight)),(AC.d (D.i IntKind.i64 r.sent)),(AC.d (D.r RK.part r.queue)),(AC.d (D.b r.asks)),(AC.d (D.i IntKind.i64 r.tries)),(AC.d (D.b (f.say == (2:Int)))),(AC.d (D.i IntKind.i64 r.count)),(AC.d (D.b r.dead))])] []))) else ((true=true)∧(K [(Arg.v true [(AC.d (D.i IntKind.i64 r.next)),(AC.d (D.i IntKind.i64 r.acked)),(AC.d (D.r RK.part r.flight)),(AC.d (D.i IntKind.i64 r.sent)),(AC.d (D.r RK.part r.queue)),(AC.d (D.b r.asks)),(AC.d (D.i IntKind.i64 r.tries)),(AC.d (D.b (f.say == (2:Int)))),(AC.d (D.i IntKind.i64 r.count)),(AC.d (D.b r.dead))])] []))) else ((true=true)∧(K [(Arg.v true [(AC.d (D.i IntKind.i64 r.next)),(AC.d (D.i IntKind.i64 r.acked)),(AC.d (D.r RK.part r.flight)),(AC.d (D.i IntKind.i64 r.sent)),(AC.d (D.r RK.part r.queue)),(AC.d (D.b r.asks)),(AC.d (D.i IntKind.i64 r.tries)),(AC.d (D.b (f.say == (2:Int)))),(AC.d (D.i IntKind.i64 r.count)),(AC.d (D.b r.dead))])] [])))) else (if (f.final=true) then (if (r.asks=true) then (if ((f.kind == (2:Int))=true) then (if ((f.say == (1:Int))=true) then ((true=true)∧(K [(Arg.v true [(AC.d (D.i IntKind.i64 r.next)),(AC.d (D.i IntKind.i64 r.acked)),(AC.d (D.r RK.part r.flight)),(AC.d (D.i IntKind.i64 (0:Int))),(AC.d (D.r RK.part r.queue)),(AC.d (D.b false)),(AC.d (D.i IntKind.i64 (0:Int))),(AC.d (D.b r.held)),(AC.d (D.i IntKind.i64 r.count)),(AC.d (D.b r.dead))])] [])) else ((true=true)∧(K [(Arg.v true [(AC.d (D.i IntKind.i64 r.next)),(AC.d (D.i IntKind.i64 r.acked)),(AC.d (D.r RK.part r.flight)),(AC.d (D.i IntKind.i64 (0:Int))),(AC.d (D.r RK.part r.queue)),(AC.d (D.b false)),(AC.d (D.i IntKind.i64 (0:Int))),(AC.d (D.b r.held)),(AC.d (D.i IntKind.i64 r.count)),(AC.d (D.b r.dead))])] []))) else ((true=true)∧(K [(Arg.v true [(AC.d (D.i IntKind.i64 r.next)),(AC.d (D.i IntKind.i64 r.acked)),(AC.d (D.r RK.part r.flight)),(AC.d (D.i IntKind.i64 (0:Int))),(AC.d (D.r RK.part r.queue)),(AC.d (D.b false)),(AC.d (D.i IntKind.i64 (0:Int))),(AC.d (D.b r.held)),(AC.d (D.i IntKind.i64 r.count)),(AC.d (D.b r.dead))])] []))) else (if ((f.kind == (2:Int))=true) then (if ((f.say == (1:Int))=true) then (if ((!r.asks)=true) then ((true=true)∧(K [(Arg.v true [(AC.d (D.i IntKind.i64 r.next)),(AC.d (D.i IntKind.i64 r.acked)),(AC.d (D.r RK.part r.flight)),(AC.d (D.i IntKind.i64 (0:Int))),(AC.d (D.r RK.part r.queue)),(AC.d (D.b r.asks)),(AC.d (D.i IntKind.i64 r.tries)),(AC.d (D.b r.held)),(AC.d (D.i IntKind.i64 r.count)),(AC.d (D.b r.dead))])] [])) else ((true=true)∧(K [(Arg.v true [(AC.d (D.i IntKind.i64 r.next)),(AC.d (D.i IntKind.i64 r.acked)),(AC.d (D.r RK.part r.flight)),(AC.d (D.i IntKind.i64 r.sent)),(AC.d (D.r RK.part r.queue)),(AC.d (D.b r.asks)),(AC.d (D.i IntKind.i64 r.tries)),(AC.d (D.b r.held)),(AC.d (D.i IntKind.i64 r.count)),(AC.d (D.b r.dead))])] []))) else ((true=true)∧(K [(Arg.v true [(AC.d (D.i IntKind.i64 r.next)),(AC.d (D.i IntKind.i64 r.acked)),(AC.d (D.r RK.part r.flight)),(AC.d (D.i IntKind.i64 r.sent)),(AC.d (D.r RK.part r.queue)),(AC.d (D.b r.asks)),(AC.d (D.i IntKind.i64 r.tries)),(AC.d (D.b r.held)),(AC.d (D.i IntKind.i64 r.count)),(AC.d (D.b r.dead))])] []))) else ((true=true)∧(K [(Arg.v true [(AC.d (D.i IntKind.i64 r.next)),(AC.d (D.i IntKind.i64 r.acked)),(AC.d (D.r RK.part r.flight)),(AC.d (D.i IntKind.i64 r.sent)),(AC.d (D.r RK.part r.queue)),(AC.d (D.b r.asks)),(AC.d (D.i IntKind.i64 r.tries)),(AC.d (D.b r.held)),(AC.d (D.i IntKind.i64 r.count)),(AC.d (D.b r.dead))])] [])))) else (if ((f.kind == (2:Int))=true) then (if ((f.say == (1:Int))=true) then (if ((!r.asks)=true) then ((true=true)∧(K [(Arg.v true [(AC.d (D.i IntKind.i64 r.next)),(AC.d (D.i IntKind.i64 r.acked)),(AC.d (D.r RK.part r.flight)),(AC.d (D.i IntKind.i64 (0:Int))),(AC.d (D.r RK.part r.queue)),(AC.d (D.b r.asks)),(AC.d (D.i IntKind.i64 r.tries)),(AC.d (D.b r.held)),(AC.d (D.i IntKind.i64 r.count)),(AC.d (D.b r.dead))])] [])) else ((true=true)∧(K [(Arg.v true [(AC.d (D.i IntKind.i64 r.next)),(AC.d (D.i IntKind.i64 r.acked)),(AC.d (D.r RK.part r.flight)),(AC.d (D.i IntKind.i64 r.sent)),(AC.d (D.r RK.part r.queue)),(AC.d (D.b r.asks)),(AC.d (D.i IntKind.i64 r.tries)),(AC.d (D.b r.held)),(AC.d (D.i IntKind.i64 r.count)),(AC.d (D.b r.dead))])] []))) else ((true=true)∧(K [(Arg.v true [(AC.d (D.i IntKind.i64 r.next)),(AC.d (D.i IntKind.i64 r.acked)),(AC.d (D.r RK.part r.flight)),(AC.d (D.i IntKind.i64 r.sent)),(AC.d (D.r RK.part r.queue)),(AC.d (D.b r.asks)),(AC.d (D.i IntKind.i64 r.tries)),(AC.d (D.b r.held)),(AC.d (D.i IntKind.i64 r.count)),(AC.d (D.b r.dead))])] []))) else ((true=true)∧(K [(Arg.v true [(AC.d (D.i IntKind.i64 r.next)),(AC.d (D.i IntKind.i64 r.acked)),(AC.d (D.r RK.part r.flight)),(AC.d (D.i IntKind.i64 r.sent)),(AC.d (D.r RK.part r.queue)),(AC.d (D.b r.asks)),(AC.d (D.i IntKind.i64 r.tries)),(AC.d (D.b r.held)),(AC.d (D.i IntKind.i64 r.count)),(AC.d (D.b r.dead))])] [])))))) else (if ((f.kind == (2:Int))=true) then (if (f.final=true) then (if (r.asks=true) then (if ((f.kind == (2:Int))=true) then (if ((f.say == (1:Int))=true) then ((true=true)∧(K [(Arg.v true [(AC.d (D.i IntKind.i64 r.next)),(AC.d (D.i IntKind.i64 r.acked)),(AC.d (D.r RK.part r.flight)),(AC.d (D.i IntKind.i64 (0:Int))),(AC.d (D.r RK.part r.queue)),(AC.d (D.b false)),(AC.d (D.i IntKind.i64 (0:Int))),(AC.d (D.b (f.say == (2:Int)))),(AC.d (D.i IntKind.i64 r.count)),(AC.d (D.b r.dead))])] [])) else ((true=true)∧(K [(Arg.v true [(AC.d (D.i IntKind.i64 r.next)),(AC.d (D.i IntKind.i64 r.acked)),(AC.d (D.r RK.part r.flight)),(AC.d (D.i IntKind.i64 (0:Int))),(AC.d (D.r RK.part r.queue)),(AC.d (D.b false)),(AC.d (D.i IntKind.i64 (0:Int))),(AC.d (D.b (f.say == (2:Int)))),(AC.d (D.i IntKind.i64 r.count)),(AC.d (D.b r.dead))])] []))) else ((true=true)∧(K [(Arg.v true [(AC.d (D.i IntKind.i64 r.next)),(AC.d (D.i IntKind.i64 r.acked)),(AC.d (D.r RK.part r.flight)),(AC.d (D.i IntKind.i64 (0:Int))),(AC.d (D.r RK.part r.queue)),(AC.d (D.b false)),(AC.d (D.i IntKind.i64 (0:Int))),(AC.d (D.b (f.say == (2:Int)))),(AC.d (D.i IntKind.i64 r.count)),(AC.d (D.b r.dead))])] []))) else (if ((f.kind == (2:Int))=true) then (if ((f.say == (1:Int))=true) then (if ((!r.asks)=true) then ((true=true)∧(K [(Arg.v true [(AC.d (D.i IntKind.i64 r.next)),(AC.d (D.i IntKind.i64 r.acked)),(AC.d (D.r RK.part r.flight)),(AC.d (D.i IntKind.i64 (0:Int))),(AC.d (D.r RK.part r.queue)),(AC.d (D.b r.asks)),(AC.d (D.i IntKind.i64 r.tries)),(AC.d (D.b (f.say == (2:Int)))),(AC.d (D.i IntKind.i64 r.count)),(AC.d (D.b r.dead))])] [])) else ((true=true)∧(K [(Arg.v true [(AC.d (D.i IntKind.i64 r.next)),(AC.d (D.i IntKind.i64 r.acked)),(AC.d (D.r RK.part r.flight)),(AC.d (D.i IntKind.i64 r.sent)),(AC.d (D.r RK.part r.queue)),(AC.d (D.b r.asks)),(AC.d (D.i IntKind.i64 r.tries)),(AC.d (D.b (f.say == (2:Int)))),(AC.d (D.i IntKind.i64 r.count)),(AC.d (D.b r.dead))])] []))) else ((true=true)∧(K [(Arg.v true [(AC.d (D.i IntKind.i64 r.next)),(AC.d (D.i IntKind.i64 r.acked)),(AC.d (D.r RK.part r.flight)),(AC.d (D.i IntKind.i64 r.sent)),(AC.d (D.r RK.part r.queue)),(AC.d (D.b r.asks)),(AC.d (D.i IntKind.i64 r.tries)),(AC.d (D.b (f.say == (2:Int)))),(AC.d (D.i IntKind.i64 r.count)),(AC.d (D.b r.dead))])] []))) else ((true=true)∧(K [(Arg.v true [(AC.d (D.i IntKind.i64 r.next)),(AC.d (D.i IntKind.i64 r.acked)),(AC.d (D.r RK.part r.flight)),(AC.d (D.i IntKind.i64 r.sent)),(AC.d (D.r RK.part r.queue)),(AC.d (D.b r.asks)),(AC.d (D.i IntKind.i64 r.tries)),(AC.d (D.b (f.say == (2:Int)))),(AC.d (D.i IntKind.i64 r.count)),(AC.d (D.b r.dead))])] [])))) else (if ((f.kind == (2:Int))=true) then (if ((f.say == (1:Int))=true) then (if ((!r.asks)=true) then ((true=true)∧(K [(Arg.v true [(AC.d (D.i IntKind.i64 r.next)),(AC.d (D.i IntKind.i64 r.acked)),(AC.d (D.r RK.part r.flight)),(AC.d (D.i IntKind.i64 (0:Int))),(AC.d (D.r RK.part r.queue)),(AC.d (D.b r.asks)),(AC.d (D.i IntKind.i64 r.tries)),(AC.d (D.b (f.say == (2:Int)))),(AC.d (D.i IntKind.i64 r.count)),(AC.d (D.b r.dead))])] [])) else ((true=true)∧(K [(Arg.v true [(AC.d (D.i IntKind.i64 r.next)),(AC.d (D.i IntKind.i64 r.acked)),(AC.d (D.r RK.part r.flight)),(AC.d (D.i IntKind.i64 r.sent)),(AC.d (D.r RK.part r.queue)),(AC.d (D.b r.asks)),(AC.d (D.i IntKind.i64 r.tries)),(AC.d (D.b (f.say == (2:Int)))),(AC.d (D.i IntKind.i64 r.count)),(AC.d (D.b r.dead))])] []))) else ((true=true)∧(K [(Arg.v true [(AC.d (D.i IntKind.i64 r.next)),(AC.d (D.i IntKind.i64 r.acked)),(AC.d (D.r RK.part r.flight)),(AC.d (D.i IntKind.i64 r.sent)),(AC.d (D.r RK.part r.queue)),(AC.d (D.b r.asks)),(AC.d (D.i IntKind.i64 r.tries)),(AC.d (D.b (f.say == (2:Int)))),(AC.d (D.i IntKind.i64 r.count)),(AC.d (D.b r.dead))])] []))) else ((true=true)∧(K [(Arg.v true [(AC.d (D.i IntKind.i64 r.next)),(AC.d (D.i IntKind.i64 r.acked)),(AC.d (D.r RK.part r.flight)),(AC.d (D.i IntKind.i64 r.sent)),(AC.d (D.r RK.part r.queue)),(AC.d (D.b r.asks)),(AC.d (D.i IntKind.i64 r.tries)),(AC.d (D.b (f.say == (2:Int)))),(AC.d (D.i IntKind.i64 r.count)),(AC.d (D.b r.dead))])] [])))) else (if (f.final=true) then (if (r.asks=true) then (if ((f.kind == (2:Int))=true) then (if ((f.say == (1:Int))=true) then ((true=true)∧(K [(Arg.v true [(AC.d (D.i IntKind.i64 r.next)),(AC.d (D.i IntKind.i64 r.acked)),(AC.d (D.r RK.part r.flight)),(AC.d (D.i IntKind.i64 (0:Int))),(AC.d (D.r RK.part r.queue)),(AC.d (D.b false)),(AC.d (D.i IntKind.i64 (0:Int))),(AC.d (D.b r.held)),(AC.d (D.i IntKind.i64 r.count)),(AC.d (D.b r.dead))])] [])) else ((true=true)∧(K [(Arg.v true [(AC.d (D.i IntKind.i64 r.next)),(AC.d (D.i IntKind.i64 r.acked)),(AC.d (D.r RK.part r.flight)),(AC.d (D.i IntKind.i64 (0:Int))),(AC.d (D.r RK.part r.queue)),(AC.d (D.b false)),(AC.d (D.i IntKind.i64 (0:Int))),(AC.d (D.b r.held)),(AC.d (D.i IntKind.i64 r.count)),(AC.d (D.b r.dead))])] []))) else ((true=true)∧(K [(Arg.v true [(AC.d (D.i IntKind.i64 r.next)),(AC.d (D.i IntKind.i64 r.acked)),(AC.d (D.r RK.part r.flight)),(AC.d (D.i IntKind.i64 (0:Int))),(AC.d (D.r RK.part r.queue)),(AC.d (D.b false)),(AC.d (D.i IntKind.i64 (0:Int))),(AC.d (D.b r.held)),(AC.d (D.i IntKind.i64 r.count)),(AC.d (D.b r.dead))])] []))) else (if ((f.kind == (2:Int))=true) then (if ((f.say == (1:Int))=true) then (if ((!r.asks)=true) then ((true=true)∧(K [(Arg.v true [(AC.d (D.i IntKind.i64 r.next)),(AC.d (D.i IntKind.i64 r.acked)),(AC.d (D.r RK.part r.flight)),(AC.d (D.i IntKind.i64 (0:Int))),(AC.d (D.r RK.part r.queue)),(AC.d (D.b r.asks)),(AC.d (D.i IntKind.i64 r.tries)),(AC.d (D.b r.held)),(AC.d (D.i IntKind.i64 r.count)),(AC.d (D.b r.dead))])] [])) else ((true=true)∧(K [(Arg.v true [(AC.d (D.i IntKind.i64 r.next)),(AC.d (D.i IntKind.i64 r.acked)),(AC.d (D.r RK.part r.flight)),(AC.d (D.i IntKind.i64 r.sent)),(AC.d (D.r RK.part r.queue)),(AC.d (D.b r.asks)),(AC.d (D.i IntKind.i64 r.tries)),(AC.d (D.b r.held)),(AC.d (D.i IntKind.i64 r.count)),(AC.d (D.b r.dead))])] []))) else ((true=true)∧(K [(Arg.v true [(AC.d (D.i IntKind.i64 r.next)),(AC.d (D.i IntKind.i64 r.acked)),(AC.d (D.r RK.part r.flight)),(AC.d (D.i IntKind.i64 r.sent)),(AC.d (D.r RK.part r.queue)),(AC.d (D.b r.asks)),(AC.d (D.i IntKind.i64 r.tries)),(AC.d (D.b r.held)),(AC.d (D.i IntKind.i64 r.count)),(AC.d (D.b r.dead))])] []))) else ((true=true)∧(K [(Arg.v true [(AC.d (D.i IntKind.i64 r.next)),(AC.d (D.i IntKind.i64 r.acked)),(AC.d (D.r RK.part r.flight)),(AC.d (D.i IntKind.i64 r.sent)),(AC.d (D.r RK.part r.queue)),(AC.d (D.b r.asks)),(AC.d (D.i IntKind.i64 r.tries)),(AC.d (D.b r.held)),(AC.d (D.i IntKind.i64 r.count)),(AC.d (D.b r.dead))])] [])))) else (if ((f.kind == (2:Int))=true) then (if ((f.say == (1:Int))=true) then (if ((!r.asks)=true) then ((true=true)∧(K [(Arg.v true [(AC.d (D.i IntKind.i64 r.next)),(AC.d (D.i IntKind.i64 r.acked)),(AC.d (D.r RK.part r.flight)),(AC.d (D.i IntKind.i64 (0:Int))),(AC.d (D.r RK.part r.queue)),(AC.d (D.b r.asks)),(AC.d (D.i IntKind.i64 r.tries)),(AC.d (D.b r.held)),(AC.d (D.i IntKind.i64 r.count)),(AC.d (D.b r.dead))])] [])) else ((true=true)∧(K [(Arg.v true [(AC.d (D.i IntKind.i64 r.next)),(AC.d (D.i IntKind.i64 r.acked)),(AC.d (D.r RK.part r.flight)),(AC.d (D.i IntKind.i64 r.sent)),(AC.d (D.r RK.part r.queue)),(AC.d (D.b r.asks)),(AC.d (D.i IntKind.i64 r.tries)),(AC.d (D.b r.held)),(AC.d (D.i IntKind.i64 r.count)),(AC.d (D.b r.dead))])] []))) else ((true=true)∧(K [(Arg.v true [(AC.d (D.i IntKind.i64 r.next)),(AC.d (D.i IntKind.i64 r.acked)),(AC.d (D.r RK.part r.flight)),(AC.d (D.i IntKind.i64 r.sent)),(AC.d (D.r RK.part r.queue)),(AC.d (D.b r.asks)),(AC.d (D.i IntKind.i64 r.tries)),(AC.d (D.b r.held)),(AC.d (D.i IntKind.i64 r.count)),(AC.d (D.b r.dead))])] []))) else ((true=true)∧(K [(Arg.v true [(AC.d (D.i IntKind.i64 r.next)),(AC.d (D.i IntKind.i64 r.acked)),(AC.d (D.r RK.part r.flight)),(AC.d (D.i IntKind.i64 r.sent)),(AC.d (D.r RK.part r.queue)),(AC.d (D.b r.asks)),(AC.d (D.i IntKind.i64 r.tries)),(AC.d (D.b r.held)),(AC.d (D.i IntKind.i64 r.count)),(AC.d (D.b r.dead))])] [])))))))))) := by
  repeat' first
    | exact rfl
    | exact True.intro
    | with_reducible apply And.intro
    | (with_reducible intro y_ hy_; subst hy_)
    | with_reducible intro y_
    | (refine iteI (fun h => ?_) (fun h => ?_))
  all_goals try simp only [Bool.not_eq_true', decide_eq_false_iff_not, decide_eq_true_eq, Bool.not_eq_true, bne_iff_ne, beq_iff_eq, ne_eq, Decidable.not_not, Bool.not_eq_false, gt_iff_lt, ge_iff_le, Int.not_le, Int.not_lt, beq_eq_false_iff_ne, bne_eq_false_iff_eq, Bool.and_eq_true, Bool.or_eq_true, Bool.true_eq_false, Bool.false_eq_true] at *
  all_goals try simp (disch := first | omega | grind [TxR]) only [wr] at *
  all_goals first
    | assumption
    | omega
    | exact hp.1.2.2.2.2.2 _ ‹List.Mem _ _›
    | (have h9 := hk _ rfl
       rw [txHear1_eq ‹t.dead = false›] at h9
       unfold txSaid at h9
       dsimp only at h9
       repeat' split at h9
       all_goals first | exact h9 | (exfalso; grind) | (exfalso; simp at *; omega))
    | (have h := hk _ rfl
       unfold txHear1 at h
       try dsimp only at h
       first
       | exact h
       | (repeat' split at h
          all_goals first | exact h | (exfalso; grind [TxR]) | (exfalso; simp at *; omega)))
    | exact hk _ (by grind [TxR])
    | (simp only [LIM] at *; omega)
    | grind [TxR, LIM]
theorem w_spec_l6Hear : Valid Try.prog 91 c_spec_l6Hear :=
  valid_ctr2 (V := V_spec_l6Hear) (tysB_ok tys_ok) ⟨(CallsL.cons w_spec_l6Acked (CallsL.nil _)), (IosL.nil _)⟩ mixed 0 3 Try.func91 rfl (by kernel_rfl)
    (fun c hc => by
      obtain rfl := Option.some.inj hc
      exact ⟨trivial, ⟨⟨trivial, ⟨⟨trivial, trivial⟩, trivial⟩⟩, ⟨trivial, ⟨⟨trivial, ⟨⟨trivial, trivial⟩, trivial⟩⟩, ⟨⟨trivial, ⟨trivial, trivial⟩⟩, ⟨⟨trivial, ⟨⟨trivial, ⟨trivial, trivial⟩⟩, trivial⟩⟩, ⟨⟨trivial, ⟨trivial, trivial⟩⟩, ⟨trivial, trivial⟩⟩⟩⟩⟩⟩⟩⟩)
    (fun x K hp hk => ⟨_, by kernel_rfl, vF_spec_l6Hear x.1 x.2 K hp (fun q h => hk q h)⟩)
theorem vF_spec_TxHear (c:Cfg) (t:TxS) (f:Frm) (K:List Arg→List (List AC)→Prop) (hp:f.data.length≤137438953472) (hk:∀ (q:TxS),(q=txHear c t f)→K ([oTx q]) ([])):(true=true)∧(True∧(∀ r:Bool,(r=(decide (TxP c t)))→(true=true)∧(if ((!r)=true) then ((true=true)∧(K [(Arg.v true [(AC.d (D.i IntKind.i64 (0:Int))),(AC.d (D.i IntKind.i64 (0:Int))),(AC.own (RC.mk (58:Nat) RK.part ([]:(List Part)) (RM.mk (dpM false (Option.none)) false (0:Nat) false))),(AC.d (D.i IntKind.i64 (0:Int))),(AC.own (RC.mk (58:Nat) RK.part ([]:(List Part)) (RM.mk (dpM false (Option.none)) false (0:Nat) false))),(AC.d (D.b false)),(AC.d (D.i IntKind.i64 (0:Int))),(AC.d (D.b false)),(AC.d (D.i IntKind.i64 (0:Int))),(AC.d (D.b false))])] [])) else ((true=true)∧(True∧(∀ r1:Bool,(r1=(decide (FrmP f)))→(true=true)∧(if ((!r1)=true) then ((true=true)∧(K [(Arg.v true [(AC.d (D.i IntKind.i64 (0:Int))),(AC.d (D.i IntKind.i64 (0:Int))),(AC.own (RC.mk (58:Nat) RK.part ([]:(List Part)) (RM.mk (dpM false (Option.none)) false (0:Nat) false))),(AC.d (D.i IntKind.i64 (0:Int))),(AC.own (RC.mk (58:Nat) RK.part ([]:(List Part)) (RM.mk (dpM false (Option.none)) false (0:Nat) false))),(AC.d (D.b false)),(AC.d (D.i IntKind.i64 (0:Int))),(AC.d (D.b false)),(AC.d (D.i IntKind.i64 (0:Int))),(AC.d (D.b false))])] [])) else (if ((f.kind != (1:Int))=true) then (if ((f.kind != (2:Int))=true) then ((true=true)∧(K [(Arg.v true [(AC.d (D.i IntKind.i64 (0:Int))),(AC.d (D.i IntKind.i64 (0:Int))),(AC.own (RC.mk (58:Nat) RK.part ([]:(List Part)) (RM.mk (dpM false (Option.none)) false (0:Nat) false))),(AC.d (D.i IntKind.i64 (0:Int))),(AC.own (RC.mk (58:Nat) RK.part ([]:(List Part)) (RM.mk (dpM false (Option.none)) false (0:Nat) false))),(AC.d (D.b false)),(AC.d (D.i IntKind.i64 (0:Int))),(AC.d (D.b false)),(AC.d (D.i IntKind.i64 (0:Int))),(AC.d (D.b false))])] [])) else ((true=true)∧(((((List.length t.flight)≤(1000:Nat))∧(∀ p:Part,(List.Mem p t.flight)→((List.length p.data)≤(137438953472:Nat))))∧(((List.length t.queue)≤(1000:Nat))∧(∀ p:Part,(List.Mem p t.queue)→((List.length p.data)≤(137438953472:Nat)))))∧(∀ r2:TxS,(r2=t)→(true=true)∧((true=true)∧((true=true)∧((((((0:Int)≤r2.acked)∧(r2.acked≤(7:Int)))∧(((List.length r2.flight)≤(4:Nat))∧((((0:Int)≤r2.sent)∧(r2.sent≤(4:Int)))∧((((0:Int)≤r2.count)∧(r2.count≤(9999:Int)))∧((((0:Int)≤r2.tries)∧(r2.tries≤(5:Int)))∧(∀ p:Part,(List.Mem p r2.flight)→((List.length p.data)≤(137438953472:Nat))))))))∧(((0:Int)≤f.ack)∧(f.ack≤(7:Int))))∧(∀ r3:TxS,(r3=(txHear1 (TxS.mk r2.next r2.acked r2.flight r2.sent r2.queue r2.asks r2.tries r2.held r2.count r2.dead) f))→(true=true)∧((true=true)∧((true=true)∧(((((List.length r3.flight)≤(1000:Nat))∧(∀ p:Part,(List.Mem p r3.flight)→((List.length p.data)≤(137438953472:Nat))))∧(((List.length r3.queue)≤(1000:Nat))∧(∀ p:Part,(List.Mem p r3.queue)→((List.length p.data)≤(137438953472:Nat)))))∧(∀ r4:TxS,(r4=r3)→(true=true)∧((true=true)∧((true=true)∧((true=true)∧(K [(Arg.v true [(AC.d (D.i IntKind.i64 r4.next)),(AC.d (D.i IntKind.i64 r4.acked)),(AC.own (RC.mk (58:Nat) RK.part r4.flight (RM.mk (dpM false (Option.none)) false (0:Nat) false))),(AC.d (D.i IntKind.i64 r4.sent)),(AC.own (RC.mk (58:Nat) RK.part r4.queue (RM.mk (dpM false (Option.none)) false (0:Nat) false))),(AC.d (D.b r4.asks)),(AC.d (D.i IntKind.i64 r4.tries)),(AC.d (D.b r4.held)),(AC.d (D.i IntKind.i64 r4.count)),(AC.d (D.b r4.dead))])] [])))))))))))))))) else ((true=true)∧(((((List.length t.flight)≤(1000:Nat))∧(∀ p:Part,(List.Mem p t.flight)→((List.length p.data)≤(137438953472:Nat))))∧(((List.length t.queue)≤(1000:Nat))∧(∀ p:Part,(List.Mem p t.queue)→((List.length p.data)≤(137438953472:Nat)))))∧(∀ r2:TxS,(r2=t)→(true=true)∧((true=true)∧((true=true)∧((((((0:Int)≤r2.acked)∧(r2.acked≤(7:Int)))∧(((List.length r2.flight)≤(4:Nat))∧((((0:Int)≤r2.sent)∧(r2.sent≤(4:Int)))∧((((0:Int)≤r2.count)∧(r2.count≤(9999:Int)))∧((((0:Int)≤r2.tries)∧(r2.tries≤(5:Int)))∧(∀ p:Part,(List.Mem p r2.flight)→((List.length p.data)≤(137438953472:Nat))))))))∧(((0:Int)≤f.ack)∧(f.ack≤(7:Int))))∧(∀ r3:TxS,(r3=(txHear1 (TxS.mk r2.next r2.acked r2.flight r2.sent r2.queue r2.asks r2.tries r2.held r2.count r2.dead) f))→(true=true)∧((true=true)∧((true=true)∧(((((List.length r3.flight)≤(1000:Nat))∧(∀ p:Part,(List.Mem p r3.flight)→((List.length p.data)≤(137438953472:Nat))))∧(((List.length r3.queue)≤(1000:Nat))∧(∀ p:Part,(List.Mem p r3.queue)→((List.length p.data)≤(137438953472:Nat)))))∧(∀ r4:TxS,(r4=r3)→(true=true)∧((true=true)∧((true=true)∧((true=true)∧(K [(Arg.v true [(AC.d (D.i IntKind.i64 r4.next)),(AC.d (D.i IntKind.i64 r4.acked)),(AC.own (RC.mk (58:Nat) RK.part r4.flight (RM.mk (dpM false (Option.none)) false (0:Nat) false))),(AC.d (D.i IntKind.i64 r4.sent)),(AC.own (RC.mk (58:Nat) RK.part r4.queue (RM.mk (dpM false (Option.none)) false (0:Nat) false))),(AC.d (D.b r4.asks)),(AC.d (D.i IntKind.i64 r4.tries)),(AC.d (D.b r4.held)),(AC.d (D.i IntKind.i64 r4.count)),(AC.d (D.b r4.dead))])] []))))))))))))))))))))))) := by
  repeat' first
    | exact rfl
    | exact True.intro
    | with_reducible apply And.intro
    | (with_reducible intro y_ hy_; subst hy_)
    | with_reducible intro y_
    | (refine iteI (fun h => ?_) (fun h => ?_))
  all_goals try simp only [Bool.not_eq_true', decide_eq_false_iff_not, decide_eq_true_eq, Bool.not_eq_true, bne_iff_ne, beq_iff_eq, ne_eq, Decidable.not_not, Bool.not_eq_false, gt_iff_lt, ge_iff_le, Int.not_le, Int.not_lt, beq_eq_false_iff_ne, bne_eq_false_iff_eq, Bool.and_eq_true, Bool.or_eq_true, Bool.true_eq_false, Bool.false_eq_true] at *
  all_goals try simp (disch := first | omega | grind [TxP, TxIn]) only [wr] at *
  all_goals try simp only [take_drop_n, wrap_wait] at *
  all_goals try have h7 := TxP.rng ‹TxP _ _›
  all_goals try simp (disch := omega) only [wr] at *
  all_goals first
    | assumption
    | omega
    | exact TxP.fdata ‹TxP _ _› _ ‹List.Mem _ _›
    | exact TxP.qdata ‹TxP _ _› _ ‹List.Mem _ _›
    | (rcases List.mem_append.1 (show _ ∈ _ ++ _ from ‹List.Mem _ _›) with h9 | h9
       · exact TxP.qdata ‹TxP _ _› _ h9
       · exact segCut_d _ _ _ h9)
    | (rw [List.length_append]; omega)
    | exact (txPut1_l ‹TxP _ _›).1.1
    | exact (txPut1_l ‹TxP _ _›).1.2 _ ‹List.Mem _ _›
    | exact (txPut1_l ‹TxP _ _›).2.1
    | exact (txPut1_l ‹TxP _ _›).2.2 _ ‹List.Mem _ _›
    | exact (txSend1_l ‹TxP _ _›).1.1
    | exact (txSend1_l ‹TxP _ _›).1.2 _ ‹List.Mem _ _›
    | exact (txSend1_l ‹TxP _ _›).2.1
    | exact (txSend1_l ‹TxP _ _›).2.2 _ ‹List.Mem _ _›
    | exact (txHear1_l ‹TxP _ _›).1.1
    | exact (txHear1_l ‹TxP _ _›).1.2 _ ‹List.Mem _ _›
    | exact (txHear1_l ‹TxP _ _›).2.1
    | exact (txHear1_l ‹TxP _ _›).2.2 _ ‹List.Mem _ _›
    | exact (txTick1_l ‹TxP _ _›).1.1
    | exact (txTick1_l ‹TxP _ _›).1.2 _ ‹List.Mem _ _›
    | exact (txTick1_l ‹TxP _ _›).2.1
    | exact (txTick1_l ‹TxP _ _›).2.2 _ ‹List.Mem _ _›
    | exact TxP.r ‹TxP _ _›
    | exact FrmP.ack ‹FrmP _›
    | exact TxP.fp ‹TxP _ _› _ ‹List.Mem _ _›
    | exact TxP.fm ‹TxP _ _› _ ‹List.Mem _ _›
    | exact TxP.qp ‹TxP _ _› _ ‹List.Mem _ _›
    | exact TxP.qm ‹TxP _ _› _ ‹List.Mem _ _›
    | exact (FrmP.ack ‹FrmP _›).1
    | exact (FrmP.ack ‹FrmP _›).2
    | (have h9 := hk _ rfl
       rw [txHear_in ‹TxP _ _› ‹FrmP _› (by first | exact .inl ‹_› | exact .inr ‹_› | omega), txHear_go ‹_ = false› (by omega)] at h9
       unfold txSaid at h9
       dsimp only at h9
       repeat' split at h9
       all_goals first | exact h9 | (split <;> first | exact h9 | (exfalso; omega)) | (exfalso; grind) | (exfalso; simp at *; omega))
    | (have h := hk _ rfl
       unfold txHear at h
       try dsimp only at h
       first
       | exact h
       | (repeat' split at h
          all_goals first | exact h | (exfalso; grind [TxP, TxIn]) | (exfalso; simp at *; omega)))
    | exact hk _ (by grind [TxP, TxIn])
    | (simp only [LIM] at *; omega)
    | grind [TxP, TxIn, LIM]
theorem w_spec_TxHear : Valid Try.prog 52 c_spec_TxHear :=
  valid_ctr2 (V := V_spec_TxHear) (tysB_ok tys_ok) ⟨(CallsL.cons w_spec_TxOk (CallsL.cons w_spec_FrmOk (CallsL.cons w_spec_l6Copy (CallsL.cons w_spec_l6Hear (CallsL.nil _))))), (IosL.nil _)⟩ mixed 2 4 Try.func52 rfl (by kernel_rfl)
    (fun c hc => by
      obtain rfl := Option.some.inj hc
      exact ⟨trivial, ⟨⟨trivial, ⟨⟨trivial, trivial⟩, trivial⟩⟩, ⟨trivial, trivial⟩⟩⟩)
    (fun x K hp hk => ⟨_, by kernel_rfl, vF_spec_TxHear x.1 x.2.1 x.2.2 K hp (fun q h => hk q h)⟩)
end Go.Proofs.YtfcllghcdeifbaaE
