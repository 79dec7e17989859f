/- A part of the proof of laws of the program: what calls of the program answer. Conditions: none. -/
import Derived.Test.YtfcllghcdeifbaaMa3964b54
set_option linter.unusedVariables false
set_option linter.unusedSimpArgs false
set_option linter.unusedSectionVars false

/- Contracts: X9T. Conditions: none. -/
set_option linter.unusedVariables false
set_option maxHeartbeats 1600000
namespace Go.Proofs.YtfcllghcdeifbaaE
open Go
/-! impl.TxPut@x -/
def c_impl_TxPut_x : Ent := ctr (α := (Cfg) × (TxS) × (List Int)) (ρ := (TxPutR)) [] [(0, 2), (0, 4)] (rs rCfg (rs rTx (rs1 rBytes))) (fun x_ => (fun (c : Cfg) (t : TxS) (s : List Int) => (s.length ≤ 1048576)) x_.1 x_.2.1 x_.2.2) (fun x_ r_ => (fun x_ => (fun (c : Cfg) (t : TxS) (s : List Int) => ((fun r_ => (fun (q : TxPutR) => (q = txPut c t s)) r_))) x_.1 x_.2.1 x_.2.2) x_ r_) (fun r_ => (fun (q : TxPutR) => ([dTx q.t, rB.to q.ok])) r_) (fun r_ => (fun (q : TxPutR) => ([])) r_)
def V_impl_TxPut_x : Env := ⟨tys, [(34, c_impl_TxOk), (44, c_impl_SegCut_x), (62, c_impl_TxState_copyOf_x), (63, c_impl_clone_impl_SegPart_d)], [(14, [0, 1]), (16, [0, 1]), (30, [3]), (43, [2])], [(3, 0), (4, 1), (6, 2), (8, 3)], [], [], [500019, 700014], [], []⟩
/-! spec.l6Put@x -/
def c_spec_l6Put_x : Ent := ctr (α := (Cfg) × (TxS) × (List Int)) (ρ := (TxPutR)) [(1, 2), (1, 4)] [] (rs rCfg (rs rOTx (rs1 rBytes))) (fun x_ => (fun (c : Cfg) (t : TxS) (s : List Int) => (s.length ≤ 1048576 ∧ t.queue.length ≤ 24)) x_.1 x_.2.1 x_.2.2) (fun x_ r_ => (fun x_ => (fun (c : Cfg) (t : TxS) (s : List Int) => ((fun r_ => (fun (q : TxPutR) => (q = txPut1 c t s)) r_))) x_.1 x_.2.1 x_.2.2) x_ r_) (fun r_ => (fun (q : TxPutR) => ([rTx.to q.t, rB.to q.ok])) r_) (fun r_ => (fun (q : TxPutR) => ([])) r_)
def V_spec_l6Put_x : Env := ⟨tys, [(95, c_spec_SegCut_x)], [], [(3, 0), (4, 1), (6, 2)], [], [], [500015, 500022], [], []⟩
/-! spec.TxPut@x -/
def c_spec_TxPut_x : Ent := ctr (α := (Cfg) × (TxS) × (List Int)) (ρ := (TxPutR)) [] [(0, 2), (0, 4)] (rs rCfg (rs rTx (rs1 rBytes))) (fun x_ => (fun (c : Cfg) (t : TxS) (s : List Int) => (s.length ≤ 1048576)) x_.1 x_.2.1 x_.2.2) (fun x_ r_ => (fun x_ => (fun (c : Cfg) (t : TxS) (s : List Int) => ((fun r_ => (fun (q : TxPutR) => (q = txPut c t s)) r_))) x_.1 x_.2.1 x_.2.2) x_ r_) (fun r_ => (fun (q : TxPutR) => ([oTx q.t, rB.to q.ok])) r_) (fun r_ => (fun (q : TxPutR) => ([])) r_)
def V_spec_TxPut_x : Env := ⟨tys, [(33, c_spec_TxOk), (59, c_spec_l6Put_x), (60, c_spec_l6Copy)], [(14, [0, 1]), (18, [0, 1]), (24, [2, 3])], [(3, 0), (4, 1), (6, 2), (8, 3)], [(3, ([3], [0, 1]))], [], [], [], [(3, [(0, false), (1, false), (3, false), (8, false), (2, true), (4, true), (5, false), (6, false), (7, false), (9, true), (10, false)])]⟩
end Go.Proofs.YtfcllghcdeifbaaE


/- Calls answer what is promised: X9T. Conditions: none. -/
set_option linter.unusedVariables false
set_option maxHeartbeats 1600000
namespace Go.Proofs.YtfcllghcdeifbaaE
open Go
theorem vF_impl_TxPut_x (c:Cfg) (t:TxS) (s:List Int) (K:List Arg→List (List AC)→Prop) (hp:s.length≤1048576) (hk:∀ (q:TxPutR),(q=txPut c t s)→K ([dTx q.t,rB.to q.ok]) ([])):(true=true)∧(True∧(∀ r:Bool,(r=(decide (TxP c t)))→(true=true)∧(if ((!r)=true) then ((true=true)∧(K [(Arg.v true [(AC.d (D.i IntKind.i64 (0:Int))),(AC.d (D.i IntKind.i64 (0:Int))),(AC.own (RC.mk (58:Nat) RK.part ([]:(List Part)) (RM.mk (dpM false (Option.some (0:Nat))) false (0:Nat) false))),(AC.d (D.i IntKind.i64 (0:Int))),(AC.own (RC.mk (58:Nat) RK.part ([]:(List Part)) (RM.mk (dpM false (Option.some (0:Nat))) false (0:Nat) false))),(AC.d (D.b false)),(AC.d (D.i IntKind.i64 (0:Int))),(AC.d (D.b false)),(AC.d (D.i IntKind.i64 (0:Int))),(AC.d (D.b false))]),(aB false)] [])) else ((true=true)∧(((((List.length t.flight)≤(1000:Nat))∧(∀ p:Part,(List.Mem p t.flight)→((List.length p.data)≤(137438953472:Nat))))∧(((List.length t.queue)≤(1000:Nat))∧(∀ p:Part,(List.Mem p t.queue)→((List.length p.data)≤(137438953472:Nat)))))∧(∀ r1:TxS,(r1=t)→((List.length r1.flight)=(List.length r1.flight))∧(((List.length r1.queue)=(List.length r1.queue))∧((true=true)∧(if (t.dead=true) then ((true=true)∧(K [(Arg.v true [(AC.d (D.i IntKind.i64 r1.next)),(AC.d (D.i IntKind.i64 r1.acked)),(AC.own (RC.mk (58:Nat) RK.part r1.flight (RM.mk (dpM false (Option.some (List.length r1.flight))) false (0:Nat) false))),(AC.d (D.i IntKind.i64 r1.sent)),(AC.own (RC.mk (58:Nat) RK.part r1.queue (RM.mk (dpM false (Option.some (List.length r1.queue))) false (0:Nat) false))),(AC.d (D.b r1.asks)),(AC.d (D.i IntKind.i64 r1.tries)),(AC.d (D.b r1.held)),(AC.d (D.i IntKind.i64 r1.count)),(AC.d (D.b r1.dead))]),(aB false)] [])) else (if ((decide ((((List.length s):Nat):Int) > c.mtu))=true) then ((true=true)∧(K [(Arg.v true [(AC.d (D.i IntKind.i64 r1.next)),(AC.d (D.i IntKind.i64 r1.acked)),(AC.own (RC.mk (58:Nat) RK.part r1.flight (RM.mk (dpM false (Option.some (List.length r1.flight))) false (0:Nat) false))),(AC.d (D.i IntKind.i64 r1.sent)),(AC.own (RC.mk (58:Nat) RK.part r1.queue (RM.mk (dpM false (Option.some (List.length r1.queue))) false (0:Nat) false))),(AC.d (D.b r1.asks)),(AC.d (D.i IntKind.i64 r1.tries)),(AC.d (D.b r1.held)),(AC.d (D.i IntKind.i64 r1.count)),(AC.d (D.b r1.dead))]),(aB false)] [])) else ((true=true)∧(((List.length s)≤(1048576:Nat))∧(∀ r2:(List Part),(r2=(segCut s c.mps))→((List.length r2)=(List.length r2))∧((true=true)∧(if ((decide ((IntKind.wrap IntKind.i64 ((((List.length t.queue):Nat):Int) + (((List.length r2):Nat):Int))) > (24:Int)))=true) then ((true=true)∧(K [(Arg.v true [(AC.d (D.i IntKind.i64 r1.next)),(AC.d (D.i IntKind.i64 r1.acked)),(AC.own (RC.mk (58:Nat) RK.part r1.flight (RM.mk (dpM false (Option.some (List.length r1.flight))) false (0:Nat) false))),(AC.d (D.i IntKind.i64 r1.sent)),(AC.own (RC.mk (58:Nat) RK.part r1.queue (RM.mk (dpM false (Option.some (List.length r1.queue))) false (0:Nat) false))),(AC.d (D.b r1.asks)),(AC.d (D.i IntKind.i64 r1.tries)),(AC.d (D.b r1.held)),(AC.d (D.i IntKind.i64 r1.count)),(AC.d (D.b r1.dead))]),(aB false)] [])) else ((((List.length r1.queue)=(List.length r1.queue))∧(((List.length r2)=(List.length r2))∧(((List.length r1.queue) + (List.length r2))≤(137438953472:Nat))))∧((true=true)∧((((List.length r1.queue) + (List.length r2))=(List.length (r1.queue ++ r2:(List Part))))∧(((List.length (r1.queue ++ r2:(List Part)))≤(137438953472:Nat))∧(∀ r3:(List Part),(r3=(r1.queue ++ r2:(List Part)))→((List.length r3)=(List.length r3))∧((true=true)∧((true=true)∧(K [(Arg.v true [(AC.d (D.i IntKind.i64 r1.next)),(AC.d (D.i IntKind.i64 r1.acked)),(AC.own (RC.mk (58:Nat) RK.part r1.flight (RM.mk (dpM false (Option.some (List.length r1.flight))) false (0:Nat) false))),(AC.d (D.i IntKind.i64 r1.sent)),(AC.own (RC.mk (58:Nat) RK.part r3 (RM.mk (dpM false (Option.some (List.length r3))) false (0:Nat) false))),(AC.d (D.b r1.asks)),(AC.d (D.i IntKind.i64 r1.tries)),(AC.d (D.b r1.held)),(AC.d (D.i IntKind.i64 r1.count)),(AC.d (D.b r1.dead))]),(aB true)] []))))))))))))))))))))))) := by
  repeat' first
    | exact rfl
    | exact True.intro
    | with_reducible apply And.intro
    | (with_reducible intro y_ hy_; subst hy_)
    | with_reducible intro y_
    | (refine iteI (fun h => ?_) (fun h => ?_))
  all_goals try simp only [Bool.not_eq_true', decide_eq_false_iff_not, decide_eq_true_eq, Bool.not_eq_true, bne_iff_ne, beq_iff_eq, ne_eq, Decidable.not_not, Bool.not_eq_false, gt_iff_lt, ge_iff_le, Int.not_le, Int.not_lt, beq_eq_false_iff_ne, bne_eq_false_iff_eq, Bool.and_eq_true, Bool.or_eq_true, Bool.true_eq_false, Bool.false_eq_true] at *
  all_goals try simp (disch := first | omega | grind [TxP]) only [wr] at *
  all_goals try have h7 := TxP.rng ‹TxP _ _›
  all_goals try have h8 := segCut_len s c.mps
  all_goals try simp (disch := omega) only [wr] at *
  all_goals first
    | assumption
    | omega
    | exact TxP.fdata ‹TxP _ _› _ ‹List.Mem _ _›
    | exact TxP.qdata ‹TxP _ _› _ ‹List.Mem _ _›
    | (rcases List.mem_append.1 (show _ ∈ _ ++ _ from ‹List.Mem _ _›) with h9 | h9
       · exact TxP.qdata ‹TxP _ _› _ h9
       · exact segCut_d _ _ _ h9)
    | (rw [List.length_append]; omega)
    | exact (txPut1_l ‹TxP _ _›).1.1
    | exact (txPut1_l ‹TxP _ _›).1.2 _ ‹List.Mem _ _›
    | exact (txPut1_l ‹TxP _ _›).2.1
    | exact (txPut1_l ‹TxP _ _›).2.2 _ ‹List.Mem _ _›
    | exact (txSend1_l ‹TxP _ _›).1.1
    | exact (txSend1_l ‹TxP _ _›).1.2 _ ‹List.Mem _ _›
    | exact (txSend1_l ‹TxP _ _›).2.1
    | exact (txSend1_l ‹TxP _ _›).2.2 _ ‹List.Mem _ _›
    | exact (txHear1_l ‹TxP _ _›).1.1
    | exact (txHear1_l ‹TxP _ _›).1.2 _ ‹List.Mem _ _›
    | exact (txHear1_l ‹TxP _ _›).2.1
    | exact (txHear1_l ‹TxP _ _›).2.2 _ ‹List.Mem _ _›
    | exact (txTick1_l ‹TxP _ _›).1.1
    | exact (txTick1_l ‹TxP _ _›).1.2 _ ‹List.Mem _ _›
    | exact (txTick1_l ‹TxP _ _›).2.1
    | exact (txTick1_l ‹TxP _ _›).2.2 _ ‹List.Mem _ _›
    | exact TxP.r ‹TxP _ _›
    | exact FrmP.ack ‹FrmP _›
    | (have h := hk _ rfl
       unfold txPut at h
       try dsimp only at h
       first
       | exact h
       | (repeat' split at h
          all_goals first | exact h | (exfalso; grind [TxP]) | (exfalso; simp at *; omega)))
    | (have h := hk _ rfl
       unfold txPut txPut1 at h
       try dsimp only at h
       repeat' split at h
       all_goals first | exact h | (exfalso; grind [TxP]) | (exfalso; simp at *; omega))
    | exact hk _ (by grind [TxP])
    | (simp only [LIM] at *; omega)
    | grind [TxP, LIM]
theorem w_impl_TxPut_x : Valid Try.prog 21 c_impl_TxPut_x :=
  valid_ctr2 (V := V_impl_TxPut_x) (tysB_ok tys_ok) ⟨(CallsL.cons w_impl_TxOk (CallsL.cons w_impl_SegCut_x (CallsL.cons w_impl_TxState_copyOf_x (CallsL.cons w_impl_clone_impl_SegPart_d (CallsL.nil _))))), (IosL.nil _)⟩ mixed 4 4 Try.func21 rfl (by kernel_rfl)
    (fun c hc => by
      obtain rfl := Option.some.inj hc
      exact ⟨trivial, ⟨⟨trivial, ⟨⟨trivial, trivial⟩, trivial⟩⟩, ⟨trivial, ⟨⟨trivial, ⟨⟨trivial, trivial⟩, trivial⟩⟩, ⟨trivial, ⟨⟨trivial, ⟨⟨trivial, trivial⟩, trivial⟩⟩, ⟨trivial, ⟨trivial, trivial⟩⟩⟩⟩⟩⟩⟩⟩)
    (fun x K hp hk => ⟨_, by kernel_rfl, vF_impl_TxPut_x x.1 x.2.1 x.2.2 K hp (fun q h => hk q h)⟩)
theorem vF_spec_l6Put_x (c:Cfg) (t:TxS) (s:List Int) (K:List Arg→List (List AC)→Prop) (hp:s.length≤1048576∧t.queue.length≤24) (hk:∀ (q:TxPutR),(q=txPut1 c t s)→K ([rTx.to q.t,rB.to q.ok]) ([])):(true=true)∧(((List.length s)≤(1048576:Nat))∧(∀ r:(List Part),(r=(segCut s c.mps))→(true=true)∧(if (t.dead=true) then ((true=true)∧(K [(Arg.v true [(AC.d (D.i IntKind.i64 t.next)),(AC.d (D.i IntKind.i64 t.acked)),(AC.d (D.r RK.part t.flight)),(AC.d (D.i IntKind.i64 t.sent)),(AC.d (D.r RK.part t.queue)),(AC.d (D.b t.asks)),(AC.d (D.i IntKind.i64 t.tries)),(AC.d (D.b t.held)),(AC.d (D.i IntKind.i64 t.count)),(AC.d (D.b t.dead))]),(aB false)] [])) else (if ((decide ((((List.length s):Nat):Int) > c.mtu))=true) then ((true=true)∧(K [(Arg.v true [(AC.d (D.i IntKind.i64 t.next)),(AC.d (D.i IntKind.i64 t.acked)),(AC.d (D.r RK.part t.flight)),(AC.d (D.i IntKind.i64 t.sent)),(AC.d (D.r RK.part t.queue)),(AC.d (D.b t.asks)),(AC.d (D.i IntKind.i64 t.tries)),(AC.d (D.b t.held)),(AC.d (D.i IntKind.i64 t.count)),(AC.d (D.b t.dead))]),(aB false)] [])) else (if ((decide ((IntKind.wrap IntKind.i64 ((((List.length t.queue):Nat):Int) + (((List.length r):Nat):Int))) > (24:Int)))=true) then ((true=true)∧(K [(Arg.v true [(AC.d (D.i IntKind.i64 t.next)),(AC.d (D.i IntKind.i64 t.acked)),(AC.d (D.r RK.part t.flight)),(AC.d (D.i IntKind.i64 t.sent)),(AC.d (D.r RK.part t.queue)),(AC.d (D.b t.asks)),(AC.d (D.i IntKind.i64 t.tries)),(AC.d (D.b t.held)),(AC.d (D.i IntKind.i64 t.count)),(AC.d (D.b t.dead))]),(aB false)] [])) else ((((List.length t.queue) + (List.length r))≤(137438953472:Nat))∧((true=true)∧(K [(Arg.v true [(AC.d (D.i IntKind.i64 t.next)),(AC.d (D.i IntKind.i64 t.acked)),(AC.d (D.r RK.part t.flight)),(AC.d (D.i IntKind.i64 t.sent)),(AC.d (D.r RK.part (t.queue ++ r:(List Part)))),(AC.d (D.b t.asks)),(AC.d (D.i IntKind.i64 t.tries)),(AC.d (D.b t.held)),(AC.d (D.i IntKind.i64 t.count)),(AC.d (D.b t.dead))]),(aB true)] [])))))))) := by
  have h8 := segCut_len s c.mps

  repeat' first
    | exact rfl
    | exact True.intro
    | with_reducible apply And.intro
    | (with_reducible intro y_ hy_; subst hy_)
    | with_reducible intro y_
    | (refine iteI (fun h => ?_) (fun h => ?_))
  all_goals try simp only [Bool.not_eq_true', decide_eq_false_iff_not, decide_eq_true_eq, Bool.not_eq_true, bne_iff_ne, beq_iff_eq, ne_eq, Decidable.not_not, Bool.not_eq_false, gt_iff_lt, ge_iff_le, Int.not_le, Int.not_lt, beq_eq_false_iff_ne, bne_eq_false_iff_eq, Bool.and_eq_true, Bool.or_eq_true, Bool.true_eq_false, Bool.false_eq_true] at *
  all_goals try simp (disch := first | omega | grind []) only [wr] at *
  all_goals first
    | assumption
    | omega
    | (have h := hk _ rfl
       unfold txPut1 at h
       try dsimp only at h
       first
       | exact h
       | (repeat' split at h
          all_goals first | exact h | (exfalso; grind []) | (exfalso; simp at *; omega)))
    | exact hk _ (by grind [])
    | (simp only [LIM] at *; omega)
    | grind [LIM]
theorem w_spec_l6Put_x : Valid Try.prog 59 c_spec_l6Put_x :=
  valid_ctr2 (V := V_spec_l6Put_x) (tysB_ok tys_ok) ⟨(CallsL.cons w_spec_SegCut_x (CallsL.nil _)), (IosL.nil _)⟩ mixed 1 3 Try.func59 rfl (by kernel_rfl)
    (fun c hc => by
      obtain rfl := Option.some.inj hc
      exact ⟨trivial, ⟨trivial, ⟨⟨trivial, ⟨⟨trivial, trivial⟩, trivial⟩⟩, ⟨trivial, ⟨trivial, trivial⟩⟩⟩⟩⟩)
    (fun x K hp hk => ⟨_, by kernel_rfl, vF_spec_l6Put_x x.1 x.2.1 x.2.2 K hp (fun q h => hk q h)⟩)
theorem vF_spec_TxPut_x (c:Cfg) (t:TxS) (s:List Int) (K:List Arg→List (List AC)→Prop) (hp:s.length≤1048576) (hk:∀ (q:TxPutR),(q=txPut c t s)→K ([oTx q.t,rB.to q.ok]) ([])):(true=true)∧(True∧(∀ r:Bool,(r=(decide (TxP c t)))→(true=true)∧(if ((!r)=true) then ((true=true)∧(K [(Arg.v true [(AC.d (D.i IntKind.i64 (0:Int))),(AC.d (D.i IntKind.i64 (0:Int))),(AC.own (RC.mk (58:Nat) RK.part ([]:(List Part)) (RM.mk (dpM false (Option.none)) false (0:Nat) false))),(AC.d (D.i IntKind.i64 (0:Int))),(AC.own (RC.mk (58:Nat) RK.part ([]:(List Part)) (RM.mk (dpM false (Option.none)) false (0:Nat) false))),(AC.d (D.b false)),(AC.d (D.i IntKind.i64 (0:Int))),(AC.d (D.b false)),(AC.d (D.i IntKind.i64 (0:Int))),(AC.d (D.b false))]),(aB false)] [])) else ((true=true)∧(((((List.length t.flight)≤(1000:Nat))∧(∀ p:Part,(List.Mem p t.flight)→((List.length p.data)≤(137438953472:Nat))))∧(((List.length t.queue)≤(1000:Nat))∧(∀ p:Part,(List.Mem p t.queue)→((List.length p.data)≤(137438953472:Nat)))))∧(∀ r1:TxS,(r1=t)→(true=true)∧((true=true)∧((true=true)∧((((List.length s)≤(1048576:Nat))∧((List.length r1.queue)≤(24:Nat)))∧(∀ r2:TxPutR,(r2=(txPut1 c (TxS.mk r1.next r1.acked r1.flight r1.sent r1.queue r1.asks r1.tries r1.held r1.count r1.dead) s))→(true=true)∧((true=true)∧((true=true)∧((true=true)∧(((((List.length r2.t.flight)≤(1000:Nat))∧(∀ p:Part,(List.Mem p r2.t.flight)→((List.length p.data)≤(137438953472:Nat))))∧(((List.length r2.t.queue)≤(1000:Nat))∧(∀ p:Part,(List.Mem p r2.t.queue)→((List.length p.data)≤(137438953472:Nat)))))∧(∀ r3:TxS,(r3=r2.t)→(true=true)∧((true=true)∧(K [(Arg.v true [(AC.d (D.i IntKind.i64 r3.next)),(AC.d (D.i IntKind.i64 r3.acked)),(AC.own (RC.mk (58:Nat) RK.part r3.flight (RM.mk (dpM false (Option.none)) false (0:Nat) false))),(AC.d (D.i IntKind.i64 r3.sent)),(AC.own (RC.mk (58:Nat) RK.part r3.queue (RM.mk (dpM false (Option.none)) false (0:Nat) false))),(AC.d (D.b r3.asks)),(AC.d (D.i IntKind.i64 r3.tries)),(AC.d (D.b r3.held)),(AC.d (D.i IntKind.i64 r3.count)),(AC.d (D.b r3.dead))]),(aB r2.ok)] []))))))))))))))))) := by
  repeat' first
    | exact rfl
    | exact True.intro
    | with_reducible apply And.intro
    | (with_reducible intro y_ hy_; subst hy_)
    | with_reducible intro y_
    | (refine iteI (fun h => ?_) (fun h => ?_))
  all_goals try simp only [Bool.not_eq_true', decide_eq_false_iff_not, decide_eq_true_eq, Bool.not_eq_true, bne_iff_ne, beq_iff_eq, ne_eq, Decidable.not_not, Bool.not_eq_false, gt_iff_lt, ge_iff_le, Int.not_le, Int.not_lt, beq_eq_false_iff_ne, bne_eq_false_iff_eq, Bool.and_eq_true, Bool.or_eq_true, Bool.true_eq_false, Bool.false_eq_true] at *
  all_goals try simp (disch := first | omega | grind [TxP]) only [wr] at *
  all_goals try have h7 := TxP.rng ‹TxP _ _›
  all_goals try have h8 := segCut_len s c.mps
  all_goals try simp (disch := omega) only [wr] at *
  all_goals first
    | assumption
    | omega
    | exact TxP.fdata ‹TxP _ _› _ ‹List.Mem _ _›
    | exact TxP.qdata ‹TxP _ _› _ ‹List.Mem _ _›
    | (rcases List.mem_append.1 (show _ ∈ _ ++ _ from ‹List.Mem _ _›) with h9 | h9
       · exact TxP.qdata ‹TxP _ _› _ h9
       · exact segCut_d _ _ _ h9)
    | (rw [List.length_append]; omega)
    | exact (txPut1_l ‹TxP _ _›).1.1
    | exact (txPut1_l ‹TxP _ _›).1.2 _ ‹List.Mem _ _›
    | exact (txPut1_l ‹TxP _ _›).2.1
    | exact (txPut1_l ‹TxP _ _›).2.2 _ ‹List.Mem _ _›
    | exact (txSend1_l ‹TxP _ _›).1.1
    | exact (txSend1_l ‹TxP _ _›).1.2 _ ‹List.Mem _ _›
    | exact (txSend1_l ‹TxP _ _›).2.1
    | exact (txSend1_l ‹TxP _ _›).2.2 _ ‹List.Mem _ _›
    | exact (txHear1_l ‹TxP _ _›).1.1
    | exact (txHear1_l ‹TxP _ _›).1.2 _ ‹List.Mem _ _›
    | exact (txHear1_l ‹TxP _ _›).2.1
    | exact (txHear1_l ‹TxP _ _›).2.2 _ ‹List.Mem _ _›
    | exact (txTick1_l ‹TxP _ _›).1.1
    | exact (txTick1_l ‹TxP _ _›).1.2 _ ‹List.Mem _ _›
    | exact (txTick1_l ‹TxP _ _›).2.1
    | exact (txTick1_l ‹TxP _ _›).2.2 _ ‹List.Mem _ _›
    | exact TxP.r ‹TxP _ _›
    | exact FrmP.ack ‹FrmP _›
    | (have h := hk _ rfl
       unfold txPut at h
       try dsimp only at h
       first
       | exact h
       | (repeat' split at h
          all_goals first | exact h | (exfalso; grind [TxP]) | (exfalso; simp at *; omega)))
    | (have h := hk _ rfl
       unfold txPut txPut1 at h
       try dsimp only at h
       repeat' split at h
       all_goals first | exact h | (exfalso; grind [TxP]) | (exfalso; simp at *; omega))
    | exact hk _ (by grind [TxP])
    | (simp only [LIM] at *; omega)
    | grind [TxP, LIM]
theorem w_spec_TxPut_x : Valid Try.prog 17 c_spec_TxPut_x :=
  valid_ctr2 (V := V_spec_TxPut_x) (tysB_ok tys_ok) ⟨(CallsL.cons w_spec_TxOk (CallsL.cons w_spec_l6Put_x (CallsL.cons w_spec_l6Copy (CallsL.nil _)))), (IosL.nil _)⟩ mixed 4 4 Try.func17 rfl (by kernel_rfl)
    (fun c hc => by
      obtain rfl := Option.some.inj hc
      exact ⟨trivial, ⟨⟨trivial, ⟨⟨trivial, trivial⟩, trivial⟩⟩, ⟨trivial, ⟨trivial, trivial⟩⟩⟩⟩)
    (fun x K hp hk => ⟨_, by kernel_rfl, vF_spec_TxPut_x x.1 x.2.1 x.2.2 K hp (fun q h => hk q h)⟩)
end Go.Proofs.YtfcllghcdeifbaaE
