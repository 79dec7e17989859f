/- A part of the proof of laws of the program: what calls of the program answer. Conditions: none. -/
import Derived.Test.YtkencmgcibbfaaaM3c63aad0
set_option linter.unusedVariables false
set_option linter.unusedSimpArgs false
set_option linter.unusedSectionVars false
/- Contracts: X3. Conditions: none. -/
set_option linter.unusedVariables false
set_option maxHeartbeats 1600000
namespace Go.Proofs.YtkencmgcibbfaaaE
open Go
/-- Who sends, its pieces one's own, and their bytes. -/
def dTxC (t : TxS) : List AC := [.d (.i .i64 t.next), .d (.i .i64 t.acked), .own ⟨102, .part, t.flight, mD t.flight.length⟩, .d (.i .i64 t.sent), .own ⟨102, .part, t.queue, mD t.queue.length⟩, .d (.b t.asks), .d (.i .i64 t.tries), .d (.b t.held), .d (.i .i64 t.count), .d (.b t.dead)]
def dTx (t : TxS) : Arg := .v true (dTxC t)
def mkTxD : List AC → Option TxS
  | [.d (.i .i64 a0), .d (.i .i64 a1), .own ⟨e1, .part, a2, ⟨some _, false, 0, false⟩⟩, .d (.i .i64 a3), .own ⟨e2, .part, a4, ⟨some _, false, 0, false⟩⟩, .d (.b a5), .d (.i .i64 a6), .d (.b a7), .d (.i .i64 a8), .d (.b a9)] => if e1 = 102 ∧ e2 = 102 then some ⟨a0, a1, a2, a3, a4, a5, a6, a7, a8, a9⟩ else none
  | _ => none
def sdTxD : List AC → Prop
  | [_, _, .own ⟨_, _, l1, ⟨some d1, _, _, _⟩⟩, _, .own ⟨_, _, l2, ⟨some d2, _, _, _⟩⟩, _, _, _, _, _] => d1 = l1.length ∧ d2 = l2.length
  | _ => False
theorem mkTxD_cells {cs : List AC} {t : TxS} (h : mkTxD cs = some t) (hs : sdTxD cs) : cs = dTxC t := by
  unfold mkTxD at h
  split at h
  · split at h
    · rename_i he
      cases h
      obtain ⟨rfl, rfl⟩ := he
      obtain ⟨h1, h2⟩ := hs
      subst h1
      subst h2
      rfl
    · simp at h
  · simp at h
def odTx : Arg → Option TxS
  | .v true cs => mkTxD cs
  | _ => none
def sdTx : Arg → Prop
  | .v _ cs => sdTxD cs
  | .p _ => False
def rDTx : Rep TxS where
  to t := .v true (dTxC t)
  of := odTx
  sd := some sdTx
  inv a x h hs := by
    have hs := hs _ rfl
    unfold odTx at h
    split at h
    · rw [mkTxD_cells h hs]
    · simp at h

/-! laws.eqTxState -/
def c_laws_eqTxState : Ent := ctr (α := (TxS) × (TxS)) (ρ := (Bool)) [] [] (rs rTx (rs1 rTx)) (fun x_ => (fun (a : TxS) (b : TxS) => ((a.flight.length ≤ LIM ∧ ∀ y ∈ a.flight, y.data.length ≤ LIM) ∧ a.queue.length ≤ LIM ∧ ∀ y ∈ a.queue, y.data.length ≤ LIM)) x_.1 x_.2) (fun x_ r_ => (fun x_ => (fun (a : TxS) (b : TxS) => ((fun r_ => (fun (r : Bool) => (r = decide (a = b))) r_))) x_.1 x_.2) x_ r_) (fun r_ => (fun (r : Bool) => ([rB.to r])) r_) (fun r_ => (fun (r : Bool) => ([])) r_)
def V_laws_eqTxState : Env := ⟨tys, [(82, c_laws_eqSegPartS)], [], [(2, 0), (3, 1)], [], [], [], [], []⟩
end Go.Proofs.YtkencmgcibbfaaaE

/- Calls answer what is promised: X3. Conditions: none. -/
set_option linter.unusedVariables false
set_option maxHeartbeats 1600000
namespace Go.Proofs.YtkencmgcibbfaaaE
open Go
theorem vF_laws_eqTxState (a:TxS) (b:TxS) (K:List Arg→List (List AC)→Prop) (hp:(a.flight.length≤LIM∧∀ y ∈ a.flight,y.data.length≤LIM)∧a.queue.length≤LIM∧∀ y ∈ a.queue,y.data.length≤LIM) (hk:∀ (r:Bool),(r=decide (a=b))→K ([rB.to r]) ([])):if ((a.next != b.next)=true) then ((true=true)∧(K [(aB false)] [])) else (if ((a.acked != b.acked)=true) then ((true=true)∧(K [(aB false)] [])) else ((true=true)∧((((List.length a.flight)≤(137438953472:Nat))∧(∀ p:Part,(List.Mem p a.flight)→((List.length p.data)≤(137438953472:Nat))))∧(∀ r:Bool,(r=(decide (a.flight=b.flight)))→(true=true)∧(if ((!r)=true) then ((true=true)∧(K [(aB false)] [])) else (if ((a.sent != b.sent)=true) then ((true=true)∧(K [(aB false)] [])) else ((true=true)∧((((List.length a.queue)≤(137438953472:Nat))∧(∀ p:Part,(List.Mem p a.queue)→((List.length p.data)≤(137438953472:Nat))))∧(∀ r1:Bool,(r1=(decide (a.queue=b.queue)))→(true=true)∧(if ((!r1)=true) then ((true=true)∧(K [(aB false)] [])) else (if ((a.asks != b.asks)=true) then ((true=true)∧(K [(aB false)] [])) else (if ((a.tries != b.tries)=true) then ((true=true)∧(K [(aB false)] [])) else (if ((a.held != b.held)=true) then ((true=true)∧(K [(aB false)] [])) else (if ((a.count != b.count)=true) then ((true=true)∧(K [(aB false)] [])) else (if ((a.dead != b.dead)=true) then ((true=true)∧(K [(aB false)] [])) else ((true=true)∧(K [(aB true)] []))))))))))))))))) := by
  obtain ⟨_, _, _, _, _, _, _, _, _, _⟩ := a
  obtain ⟨_, _, _, _, _, _, _, _, _, _⟩ := b

  repeat' first
    | exact rfl
    | exact True.intro
    | with_reducible apply And.intro
    | (with_reducible intro y_ hy_; subst hy_)
    | with_reducible intro y_
    | (refine iteI (fun h => ?_) (fun h => ?_))
  all_goals try simp only [Bool.not_eq_true', decide_eq_false_iff_not, decide_eq_true_eq, Bool.not_eq_true, bne_iff_ne, beq_iff_eq, ne_eq, Decidable.not_not, Bool.not_eq_false, gt_iff_lt, ge_iff_le, Int.not_le, Int.not_lt, beq_eq_false_iff_ne, bne_eq_false_iff_eq, Bool.and_eq_true, Bool.or_eq_true, Bool.true_eq_false, Bool.false_eq_true] at *
  all_goals try simp (disch := first | omega | grind []) only [wr] at *
  all_goals first
    | assumption
    | omega
    | exact hp.1.1
    | exact hp.2.1
    | exact hp.1.2 _ ‹List.Mem _ _›
    | exact hp.2.2 _ ‹List.Mem _ _›
    | exact hk _ (by grind [])
    | (simp only [LIM] at *; omega)
    | grind [LIM]
theorem w_laws_eqTxState : Valid Try.prog 74 c_laws_eqTxState :=
  valid_ctr2 (V := V_laws_eqTxState) (tysB_ok tys_ok) ⟨(CallsL.cons w_laws_eqSegPartS (CallsL.nil _)), (IosL.nil _)⟩ mixed 0 2 Try.func74 rfl (by kernel_rfl)
    (fun c hc => by
      obtain rfl := Option.some.inj hc
      exact ⟨trivial, ⟨⟨trivial, ⟨⟨trivial, trivial⟩, trivial⟩⟩, ⟨⟨trivial, ⟨⟨trivial, trivial⟩, trivial⟩⟩, ⟨⟨trivial, ⟨⟨trivial, trivial⟩, trivial⟩⟩, ⟨⟨trivial, ⟨⟨trivial, trivial⟩, trivial⟩⟩, ⟨⟨trivial, ⟨⟨trivial, trivial⟩, trivial⟩⟩, ⟨⟨trivial, ⟨⟨trivial, trivial⟩, trivial⟩⟩, ⟨⟨trivial, ⟨⟨trivial, trivial⟩, trivial⟩⟩, ⟨⟨trivial, ⟨⟨trivial, trivial⟩, trivial⟩⟩, ⟨⟨trivial, ⟨⟨trivial, trivial⟩, trivial⟩⟩, ⟨⟨trivial, ⟨⟨trivial, trivial⟩, trivial⟩⟩, ⟨trivial, trivial⟩⟩⟩⟩⟩⟩⟩⟩⟩⟩⟩⟩)
    (fun x K hp hk => ⟨_, by kernel_rfl, vF_laws_eqTxState x.1 x.2 K hp (fun r h => hk r h)⟩)
end Go.Proofs.YtkencmgcibbfaaaE
