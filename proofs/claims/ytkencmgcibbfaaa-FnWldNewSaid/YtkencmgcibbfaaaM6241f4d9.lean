/- A part of the proof of laws of the program: what calls of the program answer. Conditions: none. -/
import Derived.Test.YtkencmgcibbfaaaMdd66059e
set_option linter.unusedVariables false
set_option linter.unusedSimpArgs false
set_option linter.unusedSectionVars false
/- Contracts: T. Conditions: none. -/
set_option linter.unusedVariables false
set_option maxHeartbeats 1600000
namespace Go.Proofs.YtkencmgcibbfaaaE
open Go
def TxP (c : Cfg) (t : TxS) : Prop := CfgP c ∧ (0 ≤ t.acked ∧ t.acked ≤ 7) ∧ (0 ≤ t.next ∧ t.next ≤ 7) ∧ (t.next - t.acked + 8) % 8 = t.flight.length ∧ (t.flight.length : Int) ≤ c.win ∧ (0 ≤ t.sent ∧ t.sent ≤ t.flight.length) ∧ t.queue.length ≤ 24 ∧ (0 ≤ t.tries ∧ t.tries ≤ c.try_) ∧ (0 ≤ t.count ∧ t.count ≤ 9999) ∧ t.count % 8 = t.acked ∧ PartsP c.mps t.flight ∧ PartsP c.mps t.queue
instance (c : Cfg) (t : TxS) : Decidable (TxP c t) := by unfold TxP; infer_instance
def zTx : TxS := ⟨0, 0, [], 0, [], false, 0, false, 0, false⟩
/-- Who sends by numbers, its pieces rows of one's own. -/
def oTx (t : TxS) : Arg := .v true [.d (.i .i64 t.next), .d (.i .i64 t.acked), .own ⟨102, .part, t.flight, m0⟩, .d (.i .i64 t.sent), .own ⟨102, .part, t.queue, m0⟩, .d (.b t.asks), .d (.i .i64 t.tries), .d (.b t.held), .d (.i .i64 t.count), .d (.b t.dead)]
theorem TxP.rng {c : Cfg} {t : TxS} (h : TxP c t) : (0 ≤ t.acked ∧ t.acked ≤ 7) ∧ (0 ≤ t.next ∧ t.next ≤ 7) ∧ (t.next - t.acked + 8) % 8 = t.flight.length ∧ t.flight.length ≤ 4 ∧ (0 ≤ t.sent ∧ t.sent ≤ t.flight.length) ∧ t.queue.length ≤ 24 ∧ (0 ≤ t.tries ∧ t.tries ≤ 5) ∧ (0 ≤ t.count ∧ t.count ≤ 9999) ∧ t.count % 8 = t.acked := by
  obtain ⟨⟨_, _, _, _, _, _, _, _, _, _⟩, _, _, _, _, _, _, _, _, _, _, _⟩ := h
  omega
theorem TxP.fdata {c : Cfg} {t : TxS} (h : TxP c t) : ∀ p ∈ t.flight, p.data.length ≤ 137438953472 := fun p hp => by
  have := h.2.2.2.2.2.2.2.2.2.2.1.data p hp
  omega
theorem TxP.qdata {c : Cfg} {t : TxS} (h : TxP c t) : ∀ p ∈ t.queue, p.data.length ≤ 137438953472 := fun p hp => by
  have := h.2.2.2.2.2.2.2.2.2.2.2.data p hp
  omega

/-! impl.TxOk -/
def c_impl_TxOk : Ent := ctr (α := (Cfg) × (TxS)) (ρ := (Bool)) [] [] (rs rCfg (rs1 rTx)) (fun x_ => (fun (c : Cfg) (t : TxS) => (True)) x_.1 x_.2) (fun x_ r_ => (fun x_ => (fun (c : Cfg) (t : TxS) => ((fun r_ => (fun (r : Bool) => (r = decide (TxP c t))) r_))) x_.1 x_.2) x_ r_) (fun r_ => (fun (r : Bool) => ([rB.to r])) r_) (fun r_ => (fun (r : Bool) => ([])) r_)
def V_impl_TxOk : Env := ⟨tys, [(20, c_impl_CfgOk), (28, c_impl_in), (50, c_impl_isNumber), (51, c_impl_far), (52, c_impl_NumOf), (53, c_impl_CfgOpts_partsOk)], [], [(2, 0), (3, 1)], [], [], [500011, 500016, 500021, 500030, 500036, 500042, 500048, 500055, 500060, 500068, 500074], [], [(2, [(0, false), (1, true), (2, false), (3, false), (4, false), (5, true), (6, false), (7, false), (8, false), (9, false), (10, true), (11, false), (12, false), (13, false), (14, false), (15, false), (16, false), (18, false), (17, true), (19, false), (20, false), (21, false), (22, false), (23, false), (24, false), (25, false), (26, false), (27, false), (28, false), (29, false), (30, false), (31, true), (32, false), (33, false), (34, false), (35, false), (36, false), (37, false), (38, false), (39, false), (40, false), (41, false), (42, false), (43, false), (44, true), (45, false), (46, false), (47, false), (48, false), (49, true), (50, false), (51, false), (52, false), (53, false), (55, false), (56, false), (54, true), (57, false), (58, false), (59, false), (60, false), (61, false), (62, false), (63, true), (64, false), (65, false), (66, false), (67, false), (68, false), (69, true), (70, false), (71, false)])]⟩
end Go.Proofs.YtkencmgcibbfaaaE

/- Calls answer what is promised: T. Conditions: none. -/
set_option linter.unusedVariables false
set_option maxHeartbeats 1600000
namespace Go.Proofs.YtkencmgcibbfaaaE
open Go
theorem vF_impl_TxOk (c:Cfg) (t:TxS) (K:List Arg→List (List AC)→Prop) (hp:True) (hk:∀ (r:Bool),(r=decide (TxP c t))→K ([rB.to r]) ([])):(true=true)∧(True∧(∀ r:Bool,(r=(decide (CfgP c)))→(true=true)∧((true=true)∧(if (r=true) then ((true=true)∧(True∧(∀ r1:Bool,(r1=(decide (((0:Int)≤t.acked)∧(t.acked≤(7:Int)))))→(true=true)∧((true=true)∧(if (r1=true) then ((true=true)∧(True∧(∀ r2:Bool,(r2=(decide (((0:Int)≤t.next)∧(t.next≤(7:Int)))))→(true=true)∧((true=true)∧(if (r2=true) then ((true=true)∧((((0:Int)≤t.acked)∧((t.acked≤(7:Int))∧(((0:Int)≤t.next)∧(t.next≤(7:Int)))))∧(∀ r3:Int,(r3=(((t.next - t.acked) + (8:Int)) % (8:Int)))→(true=true)∧((true=true)∧(if ((r3 == (((List.length t.flight):Nat):Int))=true) then (if ((decide ((((List.length t.flight):Nat):Int)≤c.win))=true) then ((true=true)∧(True∧(∀ r4:Bool,(r4=(decide (((0:Int)≤t.sent)∧(t.sent≤(((List.length t.flight):Nat):Int)))))→(true=true)∧((true=true)∧(if (r4=true) then (if ((decide ((((List.length t.queue):Nat):Int)≤(24:Int)))=true) then ((true=true)∧(True∧(∀ r5:Bool,(r5=(decide (((0:Int)≤t.tries)∧(t.tries≤c.try_))))→(true=true)∧((true=true)∧(if (r5=true) then ((true=true)∧(True∧(∀ r6:Bool,(r6=(decide (((0:Int)≤t.count)∧(t.count≤(9999:Int)))))→(true=true)∧((true=true)∧(if (r6=true) then ((true=true)∧(True∧(∀ r7:Int,(r7=(if (t.count < (0:Int)) then (-1:Int) else (t.count % (8:Int))))→(true=true)∧((true=true)∧(if ((r7 == t.acked)=true) then ((true=true)∧(((List.length t.flight)≤(1000:Nat))∧(∀ r8:Bool,(r8=(decide (PartsP c.mps t.flight)))→(true=true)∧((true=true)∧(if (r8=true) then ((true=true)∧(((List.length t.queue)≤(1000:Nat))∧(∀ r9:Bool,(r9=(decide (PartsP c.mps t.queue)))→(true=true)∧((true=true)∧((true=true)∧(K [(aB r9)] [])))))) else ((true=true)∧((true=true)∧(K [(aB false)] [])))))))) else ((true=true)∧((true=true)∧((true=true)∧(K [(aB false)] []))))))))) else ((true=true)∧((true=true)∧((true=true)∧((true=true)∧(K [(aB false)] [])))))))))) else ((true=true)∧((true=true)∧((true=true)∧((true=true)∧((true=true)∧(K [(aB false)] []))))))))))) else ((true=true)∧((true=true)∧((true=true)∧((true=true)∧((true=true)∧((true=true)∧(K [(aB false)] [])))))))) else ((true=true)∧((true=true)∧((true=true)∧((true=true)∧((true=true)∧((true=true)∧(K [(aB false)] [])))))))))))) else ((true=true)∧((true=true)∧((true=true)∧((true=true)∧((true=true)∧((true=true)∧((true=true)∧(K [(aB false)] []))))))))) else ((true=true)∧((true=true)∧((true=true)∧((true=true)∧((true=true)∧((true=true)∧((true=true)∧(K [(aB false)] []))))))))))))) else ((true=true)∧((true=true)∧((true=true)∧((true=true)∧((true=true)∧((true=true)∧((true=true)∧((true=true)∧(K [(aB false)] [])))))))))))))) else ((true=true)∧((true=true)∧((true=true)∧((true=true)∧((true=true)∧((true=true)∧((true=true)∧((true=true)∧((true=true)∧(K [(aB false)] []))))))))))))))) else ((true=true)∧((true=true)∧((true=true)∧((true=true)∧((true=true)∧((true=true)∧((true=true)∧((true=true)∧((true=true)∧((true=true)∧(K [(aB false)] []))))))))))))))) := by
  repeat' first
    | exact rfl
    | exact True.intro
    | with_reducible apply And.intro
    | (with_reducible intro y_ hy_; subst hy_)
    | with_reducible intro y_
    | (refine iteI (fun h => ?_) (fun h => ?_))
  all_goals try simp only [Bool.not_eq_true', decide_eq_false_iff_not, decide_eq_true_eq, Bool.not_eq_true, bne_iff_ne, beq_iff_eq, ne_eq, Decidable.not_not, Bool.not_eq_false, gt_iff_lt, ge_iff_le, Int.not_le, Int.not_lt, beq_eq_false_iff_ne, bne_eq_false_iff_eq, Bool.and_eq_true, Bool.or_eq_true, Bool.true_eq_false, Bool.false_eq_true] at *
  all_goals try simp (disch := first | omega | grind [TxP, CfgP]) only [wr] at *
  all_goals first
    | assumption
    | omega
    | exact hk _ (by simp only [TxP]; grind)
    | exact hk _ (by grind [TxP, CfgP])
    | (simp only [LIM] at *; omega)
    | grind [TxP, CfgP, LIM]
theorem w_impl_TxOk : Valid Try.prog 29 c_impl_TxOk :=
  valid_ctr2 (V := V_impl_TxOk) (tysB_ok tys_ok) ⟨(CallsL.cons w_impl_CfgOk (CallsL.cons w_impl_in (CallsL.cons w_impl_isNumber (CallsL.cons w_impl_far (CallsL.cons w_impl_NumOf (CallsL.cons w_impl_CfgOpts_partsOk (CallsL.nil _))))))), (IosL.nil _)⟩ mixed 0 2 Try.func29 rfl (by kernel_rfl)
    (fun c hc => by
      obtain rfl := Option.some.inj hc
      exact ⟨trivial, ⟨trivial, ⟨trivial, trivial⟩⟩⟩)
    (fun x K hp hk => ⟨_, by kernel_rfl, vF_impl_TxOk x.1 x.2 K hp (fun r h => hk r h)⟩)
end Go.Proofs.YtkencmgcibbfaaaE
