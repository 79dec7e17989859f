/- A part of the proof of laws of the program: what calls of the program answer. Conditions: none. -/
import Derived.Test.YtjjcjpmfkbfdfaaM3513898e
set_option linter.unusedVariables false
set_option linter.unusedSimpArgs false
set_option linter.unusedSectionVars false

/- Contracts: N3. Conditions: none. -/
set_option linter.unusedVariables false
set_option maxHeartbeats 1600000
namespace Go.Proofs.YtjjcjpmfkbfdfaaE
open Go
/-! spec.l6Copy -/
def c_spec_l6Copy : Ent := ctr (α := (TxN)) (ρ := (TxN)) [] [] (rs1 rTxN) (fun x_ => (fun (t : TxN) => (t.flight ≤ 1000 ∧ t.queue ≤ 1000)) x_) (fun x_ r_ => (fun x_ => (fun (t : TxN) => ((fun r_ => (fun (q : TxN) => (q = t)) r_))) x_) x_ r_) (fun r_ => (fun (q : TxN) => ([rTxN.to q])) r_) (fun r_ => (fun (q : TxN) => ([])) r_)
def V_spec_l6Copy : Env := ⟨tys2, [(61, c_spec_l6List)], [], [(1, 0), (2, 1), (3, 2)], [], [], [], [], []⟩
/-! spec.l6Put -/
def c_spec_l6Put : Ent := ctr (α := (Cfg) × (TxN) × (Nat)) (ρ := (TxN) × (Bool)) [] [] (rs rCfg (rs rTxN (rs1 (rH .u8)))) (fun x_ => (fun (c : Cfg) (t : TxN) (m : Nat) => (CfgP c ∧ TxB t ∧ m ≤ 1000)) x_.1 x_.2.1 x_.2.2) (fun x_ r_ => (fun x_ => (fun (c : Cfg) (t : TxN) (m : Nat) => ((fun r_ => (fun (q : TxN) (b : Bool) => (TxB q ∧ q.flight = t.flight ∧ (b = true → m ≤ 24))) r_.1 r_.2))) x_.1 x_.2.1 x_.2.2) x_ r_) (fun r_ => (fun (q : TxN) (b : Bool) => ([rTxN.to q, rB.to b])) r_.1 r_.2) (fun r_ => (fun (q : TxN) (b : Bool) => ([])) r_.1 r_.2)
def V_spec_l6Put : Env := ⟨tys2, [(60, c_spec_SegCut)], [], [(3, 0), (4, 1), (6, 2)], [], [], [500015, 500022], [], []⟩
/-! spec.TxPut -/
def c_spec_TxPut : Ent := ctr (α := (Cfg) × (TxN) × (Nat)) (ρ := (TxN) × (Bool)) [] [] (rs rCfg (rs rTxN (rs1 (rH .u8)))) (fun x_ => (fun (c : Cfg) (t : TxN) (m : Nat) => (TxB t ∧ m ≤ 1000)) x_.1 x_.2.1 x_.2.2) (fun x_ r_ => (fun x_ => (fun (c : Cfg) (t : TxN) (m : Nat) => ((fun r_ => (fun (q : TxN) (b : Bool) => (TxB q ∧ q.flight ≤ t.flight)) r_.1 r_.2))) x_.1 x_.2.1 x_.2.2) x_ r_) (fun r_ => (fun (q : TxN) (b : Bool) => ([rTxN.to q, rB.to b])) r_.1 r_.2) (fun r_ => (fun (q : TxN) (b : Bool) => ([])) r_.1 r_.2)
def V_spec_TxPut : Env := ⟨tys2, [(48, c_spec_l6Copy), (53, c_spec_TxOk), (54, c_spec_l6Put)], [], [(3, 0), (4, 1), (6, 2), (8, 3)], [(3, ([3], []))], [], [], [], [(3, [(0, false), (1, false), (3, false), (8, false), (2, true), (4, true), (5, false), (6, false), (7, false), (9, true), (10, false)])]⟩
/-! spec.l6Frame -/
def c_spec_l6Frame : Ent := ctr (α := (PartN) × (Int) × (Int)) (ρ := (FrmN)) [] [] (rs rPartN (rs rInt (rs1 rInt))) (fun x_ => (fun (p : PartN) (a : Int) (b : Int) => (p.data ≤ 1000)) x_.1 x_.2.1 x_.2.2) (fun x_ r_ => (fun x_ => (fun (p : PartN) (a : Int) (b : Int) => ((fun r_ => (fun (f : FrmN) => (f.data ≤ 1000)) r_))) x_.1 x_.2.1 x_.2.2) x_ r_) (fun r_ => (fun (f : FrmN) => ([rFrmN.to f])) r_) (fun r_ => (fun (f : FrmN) => ([])) r_)
def V_spec_l6Frame : Env := ⟨tys2, [], [], [(3, 0), (6, 1)], [], [], [], [], [(1, [(0, false), (1, false), (2, false), (3, false), (4, false), (5, false), (7, false), (8, false), (6, true), (9, true), (10, false), (11, true)])]⟩
/-! spec.l6Send -/
def c_spec_l6Send : Ent := ctr (α := (Cfg) × (TxN) × (Int)) (ρ := (TxN) × (FrmN) × (Bool)) [] [] (rs rCfg (rs rTxN (rs1 rInt))) (fun x_ => (fun (c : Cfg) (t : TxN) (a : Int) => (CfgP c ∧ TxB t ∧ (t.flight : Int) ≤ c.win)) x_.1 x_.2.1 x_.2.2) (fun x_ r_ => (fun x_ => (fun (c : Cfg) (t : TxN) (a : Int) => ((fun r_ => (fun (q : TxN) (f : FrmN) (b : Bool) => (TxB q ∧ (q.flight : Int) ≤ c.win ∧ f.data ≤ 1000)) r_.1 r_.2.1 r_.2.2))) x_.1 x_.2.1 x_.2.2) x_ r_) (fun r_ => (fun (q : TxN) (f : FrmN) (b : Bool) => ([rTxN.to q, rFrmN.to f, rB.to b])) r_.1 r_.2.1 r_.2.2) (fun r_ => (fun (q : TxN) (f : FrmN) (b : Bool) => ([])) r_.1 r_.2.1 r_.2.2)
def V_spec_l6Send : Env := ⟨tys2, [(32, c_spec_NumNext), (61, c_spec_l6List), (75, c_spec_l6Frame)], [], [(3, 0), (4, 1), (6, 2), (7, 3), (9, 4)], [(11, ([2, 3], []))], [], [500012, 500016, 500034, 500040], [], [(6, [(0, false), (1, false), (2, false), (3, false), (4, false), (5, false), (6, true), (7, true), (8, false), (9, true)]), (9, [(0, false), (1, false), (2, false), (3, false), (4, false), (5, false), (6, false), (7, false), (8, false), (9, false), (10, false), (11, false), (12, false), (14, false), (13, true), (15, true)]), (11, [(0, false), (1, false), (2, true), (3, true), (4, false)])]⟩
/-! spec.TxSend -/
def c_spec_TxSend : Ent := ctr (α := (Cfg) × (TxN) × (Int)) (ρ := (TxN) × (FrmN) × (Bool)) [] [] (rs rCfg (rs rTxN (rs1 rInt))) (fun x_ => (fun (c : Cfg) (t : TxN) (a : Int) => (TxB t)) x_.1 x_.2.1 x_.2.2) (fun x_ r_ => (fun x_ => (fun (c : Cfg) (t : TxN) (a : Int) => ((fun r_ => (fun (q : TxN) (f : FrmN) (b : Bool) => (TxB q ∧ q.flight ≤ 4)) r_.1 r_.2.1 r_.2.2))) x_.1 x_.2.1 x_.2.2) x_ r_) (fun r_ => (fun (q : TxN) (f : FrmN) (b : Bool) => ([rTxN.to q, rFrmN.to f, rB.to b])) r_.1 r_.2.1 r_.2.2) (fun r_ => (fun (q : TxN) (f : FrmN) (b : Bool) => ([])) r_.1 r_.2.1 r_.2.2)
def V_spec_TxSend : Env := ⟨tys2, [(42, c_spec_l1In), (48, c_spec_l6Copy), (53, c_spec_TxOk), (55, c_spec_l6Send)], [], [(3, 0), (4, 1), (6, 2), (7, 3), (9, 4), (10, 5)], [(3, ([4, 5], [])), (4, ([2, 3], []))], [], [500016], [], [(3, [(0, false), (1, false), (3, false), (9, false), (10, false), (2, true), (4, true), (5, false), (6, false), (7, false), (8, false), (11, true), (12, true), (13, false)]), (4, [(0, false), (2, false), (3, false), (1, true), (4, true), (5, true), (6, false)])]⟩
/-! spec.l6Acked -/
def c_spec_l6Acked : Ent := ctr (α := (TxN) × (Int)) (ρ := (TxN)) [] [] (rs rTxN (rs1 rInt)) (fun x_ => (fun (t : TxN) (a : Int) => (TxB t ∧ 0 ≤ a ∧ a ≤ 7)) x_.1 x_.2) (fun x_ r_ => (fun x_ => (fun (t : TxN) (a : Int) => ((fun r_ => (fun (q : TxN) => (TxB q ∧ q.flight ≤ t.flight)) r_))) x_.1 x_.2) x_ r_) (fun r_ => (fun (q : TxN) => ([rTxN.to q])) r_) (fun r_ => (fun (q : TxN) => ([])) r_)
def V_spec_l6Acked : Env := ⟨tys2, [(61, c_spec_l6List), (72, c_spec_NumFar)], [], [(2, 0), (4, 1)], [], [], [], [], []⟩
/-! spec.l6Hear -/
def c_spec_l6Hear : Ent := ctr (α := (TxN) × (FrmN)) (ρ := (TxN)) [] [] (rs rTxN (rs1 rFrmN)) (fun x_ => (fun (t : TxN) (f : FrmN) => (TxB t ∧ 0 ≤ f.ack ∧ f.ack ≤ 7)) x_.1 x_.2) (fun x_ r_ => (fun x_ => (fun (t : TxN) (f : FrmN) => ((fun r_ => (fun (q : TxN) => (TxB q ∧ q.flight ≤ t.flight)) r_))) x_.1 x_.2) x_ r_) (fun r_ => (fun (q : TxN) => ([rTxN.to q])) r_) (fun r_ => (fun (q : TxN) => ([])) r_)
def V_spec_l6Hear : Env := ⟨tys2, [(77, c_spec_l6Acked)], [], [(2, 0), (3, 1), (4, 2)], [], [], [500014, 500018, 500034, 500044, 500049], [], []⟩
/-! spec.TxHear -/
def c_spec_TxHear : Ent := ctr (α := (Cfg) × (TxN) × (FrmN)) (ρ := (TxN)) [] [] (rs rCfg (rs rTxN (rs1 rFrmN))) (fun x_ => (fun (c : Cfg) (t : TxN) (f : FrmN) => (TxB t)) x_.1 x_.2.1 x_.2.2) (fun x_ r_ => (fun x_ => (fun (c : Cfg) (t : TxN) (f : FrmN) => ((fun r_ => (fun (q : TxN) => (TxB q ∧ q.flight ≤ t.flight)) r_))) x_.1 x_.2.1 x_.2.2) x_ r_) (fun r_ => (fun (q : TxN) => ([rTxN.to q])) r_) (fun r_ => (fun (q : TxN) => ([])) r_)
def V_spec_TxHear : Env := ⟨tys2, [(48, c_spec_l6Copy), (53, c_spec_TxOk), (56, c_spec_FrmOk), (57, c_spec_l6Hear)], [], [(3, 0), (4, 1), (5, 2), (6, 3)], [], [], [500011, 500016, 500020], [], [(3, [(0, false), (2, false), (1, true), (3, true), (4, true), (5, true)])]⟩
/-! spec.l6Tick -/
def c_spec_l6Tick : Ent := ctr (α := (Cfg) × (TxN) × (Int) × (Bool)) (ρ := (TxN) × (FrmN) × (Bool)) [] [] (rs rCfg (rs rTxN (rs rInt (rs1 rB)))) (fun x_ => (fun (c : Cfg) (t : TxN) (a : Int) (b : Bool) => (TxB t)) x_.1 x_.2.1 x_.2.2.1 x_.2.2.2) (fun x_ r_ => (fun x_ => (fun (c : Cfg) (t : TxN) (a : Int) (b : Bool) => ((fun r_ => (fun (q : TxN) (f : FrmN) (b : Bool) => (TxB q ∧ q.flight = t.flight ∧ f.data = 0)) r_.1 r_.2.1 r_.2.2))) x_.1 x_.2.1 x_.2.2.1 x_.2.2.2) x_ r_) (fun r_ => (fun (q : TxN) (f : FrmN) (b : Bool) => ([rTxN.to q, rFrmN.to f, rB.to b])) r_.1 r_.2.1 r_.2.2) (fun r_ => (fun (q : TxN) (f : FrmN) (b : Bool) => ([])) r_.1 r_.2.1 r_.2.2)
def V_spec_l6Tick : Env := ⟨tys2, [(62, c_spec_l2Bit)], [], [(4, 0), (5, 1), (8, 2), (9, 3)], [(8, ([2, 3], []))], [], [500013, 500018, 500023], [], [(8, [(0, false), (1, false), (2, false), (3, true), (4, false), (5, false), (6, true), (7, true), (8, false)])]⟩
/-! spec.TxTick -/
def c_spec_TxTick : Ent := ctr (α := (Cfg) × (TxN) × (Int) × (Bool)) (ρ := (TxN) × (FrmN) × (Bool)) [] [] (rs rCfg (rs rTxN (rs rInt (rs1 rB)))) (fun x_ => (fun (c : Cfg) (t : TxN) (a : Int) (b : Bool) => (TxB t)) x_.1 x_.2.1 x_.2.2.1 x_.2.2.2) (fun x_ r_ => (fun x_ => (fun (c : Cfg) (t : TxN) (a : Int) (b : Bool) => ((fun r_ => (fun (q : TxN) (f : FrmN) (b : Bool) => (TxB q ∧ q.flight ≤ t.flight)) r_.1 r_.2.1 r_.2.2))) x_.1 x_.2.1 x_.2.2.1 x_.2.2.2) x_ r_) (fun r_ => (fun (q : TxN) (f : FrmN) (b : Bool) => ([rTxN.to q, rFrmN.to f, rB.to b])) r_.1 r_.2.1 r_.2.2) (fun r_ => (fun (q : TxN) (f : FrmN) (b : Bool) => ([])) r_.1 r_.2.1 r_.2.2)
def V_spec_TxTick : Env := ⟨tys2, [(42, c_spec_l1In), (48, c_spec_l6Copy), (53, c_spec_TxOk), (58, c_spec_l6Tick)], [], [(4, 0), (5, 1), (8, 2), (9, 3), (11, 4), (12, 5)], [(3, ([4, 5], [])), (4, ([2, 3], []))], [], [500018], [], [(3, [(0, false), (1, false), (3, false), (4, false), (10, false), (11, false), (2, true), (5, true), (6, false), (7, false), (8, false), (9, false), (12, true), (13, true), (14, false)]), (4, [(0, false), (2, false), (3, false), (1, true), (4, true), (5, true), (6, false)])]⟩
end Go.Proofs.YtjjcjpmfkbfdfaaE


/- Calls answer what is promised: N3. Conditions: none. -/
set_option linter.unusedVariables false
set_option maxHeartbeats 1600000
namespace Go.Proofs.YtjjcjpmfkbfdfaaE
open Go
theorem vF_spec_l6Copy (t:TxN) (K:List Arg→List (List AC)→Prop) (hp:t.flight≤1000∧t.queue≤1000) (hk:∀ (q:TxN),(q=t)→K ([rTxN.to q]) ([])):Tt ((t.flight≤1000)∧(∀ r:Nat,(r=t.flight)→Tt (Tt ((t.queue≤1000)∧(∀ r1:Nat,(r1=t.queue)→Tt (Tt (K [(Arg.v true [(ai t.next),(ai t.acked),(AC.d (D.h RK.part r)),(ai t.sent),(AC.d (D.h RK.part r1)),(AC.d (D.b t.asks)),(ai t.tries),(AC.d (D.b t.held)),(ai t.count),(AC.d (D.b t.dead))])] []))))))) := by
  have hkk := fun a1_ a2_ a3_ a4_ a5_ a6_ a7_ a8_ a9_ a10_ h_ => hk ⟨a1_, a2_, a3_, a4_, a5_, a6_, a7_, a8_, a9_, a10_⟩ h_
  dsimp only [rTxN, rS, txNC, List.map] at hkk
  try simp (disch := omega) only [wr]
  repeat' first
    | exact rfl
    | exact True.intro
    | with_reducible apply And.intro
    | (with_reducible intro y_ hy_; subst hy_)
    | with_reducible intro y_
    | (refine iteI (fun h => ?_) (fun h => ?_))
    | fail
  all_goals try simp only [cq1, cq2, cq3, cq4, cq5, cq6, cq7, cq8, cq9, cq10, cq11, cq12, cq13, cq14, cq15, cq16, cq17, cq18, cq19] at *
  all_goals try simp (disch := omega) only [wr] at *
  all_goals first
    | assumption
    | omega
    | exact (wr8_in _).1
    | exact (wr8_in _).2
    | (refine hkk _ _ _ _ _ _ _ _ _ _ ?_
       (try dsimp only)
       first | done | exact True.intro | assumption | exact fun _ => by assumption | omega | grind [])
    | (simp only [LIM, HL] at *; omega)
    | grind [LIM, HL]
theorem w_spec_l6Copy : Valid Try.prog 48 c_spec_l6Copy :=
  valid_ctr2 (V := V_spec_l6Copy) (tysB_ok tys2_ok) ⟨(CallsL.cons w_spec_l6List (CallsL.nil _)), (IosL.nil _)⟩ mixed 0 3 Try.func48 rfl (by kernel_rfl)
    (fun c hc => by
      obtain rfl := Option.some.inj hc
      exact ⟨trivial, ⟨trivial, ⟨trivial, ⟨trivial, ⟨trivial, trivial⟩⟩⟩⟩⟩)
    (fun x K hp hk => ⟨_, by kernel_rfl, vF_spec_l6Copy x K hp (fun q h => hk q h)⟩)
theorem vF_spec_l6Put (c:Cfg) (t:TxN) (m:Nat) (K:List Arg→List (List AC)→Prop) (hp:CfgP c∧TxB t∧m≤1000) (hk:∀ (q:TxN) (b:Bool),(TxB q∧q.flight=t.flight∧(b=true→m≤24))→K ([rTxN.to q,rB.to b]) ([])):Tt ((m≤1000)∧(∀ r:Nat,(r≤24)→Tt (if (t.dead=true) then (Tt (K [(Arg.v true [(ai t.next),(ai t.acked),(AC.d (D.h RK.part t.flight)),(ai t.sent),(AC.d (D.h RK.part t.queue)),(AC.d (D.b t.asks)),(ai t.tries),(AC.d (D.b t.held)),(ai t.count),(AC.d (D.b t.dead))]),(aB false)] [])) else (if ((decide (((m:Nat):Int) > c.mtu))=true) then (Tt (K [(Arg.v true [(ai t.next),(ai t.acked),(AC.d (D.h RK.part t.flight)),(ai t.sent),(AC.d (D.h RK.part t.queue)),(AC.d (D.b t.asks)),(ai t.tries),(AC.d (D.b t.held)),(ai t.count),(AC.d (D.b t.dead))]),(aB false)] [])) else (if ((decide ((IntKind.i64.wrap (((t.queue:Nat):Int) + ((r:Nat):Int))) > (24:Int)))=true) then (Tt (K [(Arg.v true [(ai t.next),(ai t.acked),(AC.d (D.h RK.part t.flight)),(ai t.sent),(AC.d (D.h RK.part t.queue)),(AC.d (D.b t.asks)),(ai t.tries),(AC.d (D.b t.held)),(ai t.count),(AC.d (D.b t.dead))]),(aB false)] [])) else (((t.queue + r)≤137438953472)∧(Tt (K [(Arg.v true [(ai t.next),(ai t.acked),(AC.d (D.h RK.part t.flight)),(ai t.sent),(AC.d (D.h RK.part (t.queue + r))),(AC.d (D.b t.asks)),(ai t.tries),(AC.d (D.b t.held)),(ai t.count),(AC.d (D.b t.dead))]),(aB true)] [])))))))) := by
  have hkk := fun a1_ a2_ a3_ a4_ a5_ a6_ a7_ a8_ a9_ a10_ a11_ h_ => hk ⟨a1_, a2_, a3_, a4_, a5_, a6_, a7_, a8_, a9_, a10_⟩ a11_ h_
  dsimp only [rTxN, rS, txNC, List.map] at hkk
  try simp (disch := omega) only [wr]
  repeat' first
    | exact rfl
    | exact True.intro
    | with_reducible apply And.intro
    | (with_reducible intro y_ hy_; subst hy_)
    | with_reducible intro y_
    | (refine iteI (fun h => ?_) (fun h => ?_))
    | fail
  all_goals try simp only [cq1, cq2, cq3, cq4, cq5, cq6, cq7, cq8, cq9, cq10, cq11, cq12, cq13, cq14, cq15, cq16, cq17, cq18, cq19, TxB, CfgP] at *
  all_goals try simp (disch := omega) only [wr] at *
  all_goals first
    | assumption
    | omega
    | exact (wr8_in _).1
    | exact (wr8_in _).2
    | (refine hkk _ _ _ _ _ _ _ _ _ _ _ ?_
       (try dsimp only)
       first | done | exact True.intro | assumption | exact fun _ => by assumption | omega | grind [TxB, CfgP])
    | (simp only [LIM, HL] at *; omega)
    | grind [TxB, CfgP, LIM, HL]
theorem w_spec_l6Put : Valid Try.prog 54 c_spec_l6Put :=
  valid_ctr2 (V := V_spec_l6Put) (tysB_ok tys2_ok) ⟨(CallsL.cons w_spec_SegCut (CallsL.nil _)), (IosL.nil _)⟩ mixed 0 3 Try.func54 rfl (by kernel_rfl)
    (fun c hc => by
      obtain rfl := Option.some.inj hc
      exact ⟨trivial, ⟨trivial, ⟨⟨trivial, ⟨⟨trivial, trivial⟩, trivial⟩⟩, ⟨trivial, ⟨trivial, trivial⟩⟩⟩⟩⟩)
    (fun x K hp hk => ⟨_, by kernel_rfl, vF_spec_l6Put x.1 x.2.1 x.2.2 K hp (fun q b h => hk (q, b) h)⟩)
theorem vF_spec_TxPut (c:Cfg) (t:TxN) (m:Nat) (K:List Arg→List (List AC)→Prop) (hp:TxB t∧m≤1000) (hk:∀ (q:TxN) (b:Bool),(TxB q∧q.flight≤t.flight)→K ([rTxN.to q,rB.to b]) ([])):Tt (((t.flight≤1000)∧(t.queue≤1000))∧(∀ r:Bool,((r=true)→((CfgP c)∧((TxB t)∧(((t.flight:Nat):Int)≤c.win))))→Tt (if ((!r)=true) then (Tt (K [(Arg.v true [(ai 0),(ai 0),(AC.d (D.h RK.part 0)),(ai 0),(AC.d (D.h RK.part 0)),(AC.d (D.b false)),(ai 0),(AC.d (D.b false)),(ai 0),(AC.d (D.b false))]),(aB false)] [])) else (Tt (((t.flight≤1000)∧(t.queue≤1000))∧(∀ r1:TxN,(r1=t)→Tt (Tt (Tt (((CfgP c)∧(((0≤r1.acked)∧((r1.acked≤7)∧((0≤r1.sent)∧((r1.sent≤((r1.flight:Nat):Int))∧((r1.queue≤24)∧(r1.flight≤1000))))))∧(m≤1000)))∧(∀ r2:(Prod TxN Bool),((TxB r2.fst)∧((r2.fst.flight=r1.flight)∧((r2.snd=true)→(m≤24))))→Tt (Tt (Tt (Tt (((r2.fst.flight≤1000)∧(r2.fst.queue≤1000))∧(∀ r3:TxN,(r3=r2.fst)→Tt (Tt (K [(Arg.v true [(ai r3.next),(ai r3.acked),(AC.d (D.h RK.part r3.flight)),(ai r3.sent),(AC.d (D.h RK.part r3.queue)),(AC.d (D.b r3.asks)),(ai r3.tries),(AC.d (D.b r3.held)),(ai r3.count),(AC.d (D.b r3.dead))]),(aB r2.snd)] []))))))))))))))))) := by
  have hkk := fun a1_ a2_ a3_ a4_ a5_ a6_ a7_ a8_ a9_ a10_ a11_ h_ => hk ⟨a1_, a2_, a3_, a4_, a5_, a6_, a7_, a8_, a9_, a10_⟩ a11_ h_
  dsimp only [rTxN, rS, txNC, List.map] at hkk
  try simp (disch := omega) only [wr]
  repeat' first
    | exact rfl
    | exact True.intro
    | with_reducible apply And.intro
    | (with_reducible intro y_ hy_; subst hy_)
    | with_reducible intro y_
    | (refine iteI (fun h => ?_) (fun h => ?_))
    | fail
  all_goals try simp only [cq1, cq2, cq3, cq4, cq5, cq6, cq7, cq8, cq9, cq10, cq11, cq12, cq13, cq14, cq15, cq16, cq17, cq18, cq19, TxB, CfgP] at *
  all_goals try simp (disch := omega) only [wr] at *
  all_goals first
    | assumption
    | omega
    | exact (wr8_in _).1
    | exact (wr8_in _).2
    | (refine hkk _ _ _ _ _ _ _ _ _ _ _ ?_
       (try dsimp only)
       first | done | exact True.intro | assumption | exact fun _ => by assumption | omega | grind [TxB, CfgP])
    | (simp only [LIM, HL] at *; omega)
    | grind [TxB, CfgP, LIM, HL]
theorem w_spec_TxPut : Valid Try.prog 27 c_spec_TxPut :=
  valid_ctr2 (V := V_spec_TxPut) (tysB_ok tys2_ok) ⟨(CallsL.cons w_spec_l6Copy (CallsL.cons w_spec_TxOk (CallsL.cons w_spec_l6Put (CallsL.nil _)))), (IosL.nil _)⟩ mixed 0 4 Try.func27 rfl (by kernel_rfl)
    (fun c hc => by
      obtain rfl := Option.some.inj hc
      exact ⟨trivial, ⟨⟨trivial, ⟨⟨trivial, trivial⟩, trivial⟩⟩, ⟨trivial, ⟨trivial, trivial⟩⟩⟩⟩)
    (fun x K hp hk => ⟨_, by kernel_rfl, vF_spec_TxPut x.1 x.2.1 x.2.2 K hp (fun q b h => hk (q, b) h)⟩)
theorem vF_spec_l6Frame (p:PartN) (a:Int) (b:Int) (K:List Arg→List (List AC)→Prop) (hp:p.data≤1000) (hk:∀ (f:FrmN),(f.data≤1000)→K ([rFrmN.to f]) ([])):True∧(Tt (((0 + p.data)≤137438953472)∧(Tt (Tt (Tt (K [(Arg.v true [(ai 1),(ai a),(ai b),(AC.d (D.b false)),(AC.d (D.b false)),(ai 0),(ai p.seg),(ai p.len),(AC.d (D.h RK.u8 (0 + p.data)))])] [])))))) := by
  have hkk := fun a1_ a2_ a3_ a4_ a5_ a6_ a7_ a8_ a9_ h_ => hk ⟨a1_, a2_, a3_, a4_, a5_, a6_, a7_, a8_, a9_⟩ h_
  dsimp only [rFrmN, rS, frmNC, List.map] at hkk
  try simp (disch := omega) only [wr]
  repeat' first
    | exact rfl
    | exact True.intro
    | with_reducible apply And.intro
    | (with_reducible intro y_ hy_; subst hy_)
    | with_reducible intro y_
    | (refine iteI (fun h => ?_) (fun h => ?_))
    | fail
  all_goals try simp only [cq1, cq2, cq3, cq4, cq5, cq6, cq7, cq8, cq9, cq10, cq11, cq12, cq13, cq14, cq15, cq16, cq17, cq18, cq19] at *
  all_goals try simp (disch := omega) only [wr] at *
  all_goals first
    | assumption
    | omega
    | exact (wr8_in _).1
    | exact (wr8_in _).2
    | (refine hkk _ _ _ _ _ _ _ _ _ ?_
       (try dsimp only)
       first | done | exact True.intro | assumption | exact fun _ => by assumption | omega | grind [])
    | (simp only [LIM, HL] at *; omega)
    | grind [LIM, HL]
theorem w_spec_l6Frame : Valid Try.prog 75 c_spec_l6Frame :=
  valid_ctr2 (V := V_spec_l6Frame) (tysB_ok tys2_ok) ⟨(CallsL.nil _), (IosL.nil _)⟩ mixed 0 2 Try.func75 rfl (by kernel_rfl)
    (fun c hc => by
      obtain rfl := Option.some.inj hc
      exact ⟨trivial, ⟨trivial, trivial⟩⟩)
    (fun x K hp hk => ⟨_, by kernel_rfl, vF_spec_l6Frame x.1 x.2.1 x.2.2 K hp (fun f h => hk f h)⟩)
theorem vF_spec_l6Send (c:Cfg) (t:TxN) (a:Int) (K:List Arg→List (List AC)→Prop) (hp:CfgP c∧TxB t∧(t.flight:Int)≤c.win) (hk:∀ (q:TxN) (f:FrmN) (b:Bool),(TxB q∧(q.flight:Int)≤c.win∧f.data≤1000)→K ([rTxN.to q,rFrmN.to f,rB.to b]) ([])):if (t.dead=true) then (Tt (K [(Arg.v true [(ai t.next),(ai t.acked),(AC.d (D.h RK.part t.flight)),(ai t.sent),(AC.d (D.h RK.part t.queue)),(AC.d (D.b t.asks)),(ai t.tries),(AC.d (D.b t.held)),(ai t.count),(AC.d (D.b t.dead))]),(Arg.v true [(ai 0),(ai 0),(ai 0),(AC.d (D.b false)),(AC.d (D.b false)),(ai 0),(ai 0),(ai 0),(AC.d (D.h RK.u8 0))]),(aB false)] [])) else (if (t.asks=true) then (Tt (K [(Arg.v true [(ai t.next),(ai t.acked),(AC.d (D.h RK.part t.flight)),(ai t.sent),(AC.d (D.h RK.part t.queue)),(AC.d (D.b t.asks)),(ai t.tries),(AC.d (D.b t.held)),(ai t.count),(AC.d (D.b t.dead))]),(Arg.v true [(ai 0),(ai 0),(ai 0),(AC.d (D.b false)),(AC.d (D.b false)),(ai 0),(ai 0),(ai 0),(AC.d (D.h RK.u8 0))]),(aB false)] [])) else (if (t.held=true) then (Tt (K [(Arg.v true [(ai t.next),(ai t.acked),(AC.d (D.h RK.part t.flight)),(ai t.sent),(AC.d (D.h RK.part t.queue)),(AC.d (D.b t.asks)),(ai t.tries),(AC.d (D.b t.held)),(ai t.count),(AC.d (D.b t.dead))]),(Arg.v true [(ai 0),(ai 0),(ai 0),(AC.d (D.b false)),(AC.d (D.b false)),(ai 0),(ai 0),(ai 0),(AC.d (D.h RK.u8 0))]),(aB false)] [])) else (if ((t.sent == ((t.flight:Nat):Int))=true) then (if ((((t.flight:Nat):Int) == c.win)=true) then (Tt (K [(Arg.v true [(ai t.next),(ai t.acked),(AC.d (D.h RK.part t.flight)),(ai t.sent),(AC.d (D.h RK.part t.queue)),(AC.d (D.b t.asks)),(ai t.tries),(AC.d (D.b t.held)),(ai t.count),(AC.d (D.b t.dead))]),(Arg.v true [(ai 0),(ai 0),(ai 0),(AC.d (D.b false)),(AC.d (D.b false)),(ai 0),(ai 0),(ai 0),(AC.d (D.h RK.u8 0))]),(aB false)] [])) else (if ((((t.queue:Nat):Int) == (0:Int))=true) then (Tt (K [(Arg.v true [(ai t.next),(ai t.acked),(AC.d (D.h RK.part t.flight)),(ai t.sent),(AC.d (D.h RK.part t.queue)),(AC.d (D.b t.asks)),(ai t.tries),(AC.d (D.b t.held)),(ai t.count),(AC.d (D.b t.dead))]),(Arg.v true [(ai 0),(ai 0),(ai 0),(AC.d (D.b false)),(AC.d (D.b false)),(ai 0),(ai 0),(ai 0),(AC.d (D.h RK.u8 0))]),(aB false)] [])) else (if ((decide ((IntKind.i64.wrap (t.count + ((t.flight:Nat):Int))) ≥ (9999:Int)))=true) then (Tt (K [(Arg.v true [(ai t.next),(ai t.acked),(AC.d (D.h RK.part t.flight)),(ai t.sent),(AC.d (D.h RK.part t.queue)),(AC.d (D.b t.asks)),(ai t.tries),(AC.d (D.b t.held)),(ai t.count),(AC.d (D.b t.dead))]),(Arg.v true [(ai 0),(ai 0),(ai 0),(AC.d (D.b false)),(AC.d (D.b false)),(ai 0),(ai 0),(ai 0),(AC.d (D.h RK.u8 0))]),(aB false)] [])) else ((((0:Int)≤(0:Int))∧((0:Int) < ((t.queue:Nat):Int)))∧(∀ x:Int,∀ x1:Int,∀ n:Nat,(n≤1000)→((((RK.u8=RK.u8)∧(n≤1000))∧True)∧True)∧(Tt (((t.flight + 1)≤137438953472)∧(Tt (Tt ((((0:Int)≤(1:Int))∧(((1:Int)≤((t.queue:Nat):Int))∧(((t.queue:Nat):Int)≤((t.queue:Nat):Int))))∧(Tt ((((Int.toNat ((t.queue:Nat):Int)) - 1)≤1000)∧(∀ r:Nat,(r=((Int.toNat ((t.queue:Nat):Int)) - 1))→Tt (Tt (True∧(∀ r1:Int,True→Tt (((0≤t.sent)∧(t.sent < (((t.flight + 1):Nat):Int)))∧(∀ x2:Int,∀ x3:Int,∀ n1:Nat,(n1≤1000)→((8:Int) ≠ (0:Int))∧(Tt ((n1≤1000)∧(∀ r2:FrmN,(r2.data≤1000)→Tt (Tt (Tt (Tt (Tt (Tt (K [(Arg.v true [(ai r1),(ai t.acked),(AC.d (D.h RK.part (t.flight + 1))),(ai (IntKind.i64.wrap (t.sent + 1))),(AC.d (D.h RK.part r)),(AC.d (D.b t.asks)),(ai t.tries),(AC.d (D.b t.held)),(ai t.count),(AC.d (D.b t.dead))]),(Arg.v true [(ai r2.kind),(ai r2.seq),(ai r2.ack),(AC.d (D.b r2.poll)),(AC.d (D.b r2.final)),(ai r2.say),(ai r2.seg),(ai r2.len),(AC.d (D.h RK.u8 r2.data))]),(aB true)] []))))))))))))))))))))))))))) else (((0≤t.sent)∧(t.sent < ((t.flight:Nat):Int)))∧(∀ x:Int,∀ x1:Int,∀ n:Nat,(n≤1000)→((8:Int) ≠ (0:Int))∧(Tt ((n≤1000)∧(∀ r:FrmN,(r.data≤1000)→Tt (Tt (Tt (Tt (Tt (Tt (K [(Arg.v true [(ai t.next),(ai t.acked),(AC.d (D.h RK.part t.flight)),(ai (IntKind.i64.wrap (t.sent + 1))),(AC.d (D.h RK.part t.queue)),(AC.d (D.b t.asks)),(ai t.tries),(AC.d (D.b t.held)),(ai t.count),(AC.d (D.b t.dead))]),(Arg.v true [(ai r.kind),(ai r.seq),(ai r.ack),(AC.d (D.b r.poll)),(AC.d (D.b r.final)),(ai r.say),(ai r.seg),(ai r.len),(AC.d (D.h RK.u8 r.data))]),(aB true)] [])))))))))))))) := by
  have hkk := fun a1_ a2_ a3_ a4_ a5_ a6_ a7_ a8_ a9_ a10_ a11_ a12_ a13_ a14_ a15_ a16_ a17_ a18_ a19_ a20_ h_ => hk ⟨a1_, a2_, a3_, a4_, a5_, a6_, a7_, a8_, a9_, a10_⟩ ⟨a11_, a12_, a13_, a14_, a15_, a16_, a17_, a18_, a19_⟩ a20_ h_
  dsimp only [rFrmN, rTxN, rS, frmNC, txNC, List.map] at hkk
  try simp (disch := omega) only [wr]
  repeat' first
    | exact rfl
    | exact True.intro
    | with_reducible apply And.intro
    | (with_reducible intro y_ hy_; subst hy_)
    | with_reducible intro y_
    | (refine iteI (fun h => ?_) (fun h => ?_))
    | fail
  all_goals try simp only [cq1, cq2, cq3, cq4, cq5, cq6, cq7, cq8, cq9, cq10, cq11, cq12, cq13, cq14, cq15, cq16, cq17, cq18, cq19, TxB, CfgP] at *
  all_goals try simp (disch := omega) only [wr] at *
  all_goals first
    | assumption
    | omega
    | exact (wr8_in _).1
    | exact (wr8_in _).2
    | (refine hkk _ _ _ _ _ _ _ _ _ _ _ _ _ _ _ _ _ _ _ _ ?_
       (try dsimp only)
       first | done | exact True.intro | assumption | exact fun _ => by assumption | omega | grind [TxB, CfgP])
    | (simp only [LIM, HL] at *; omega)
    | grind [TxB, CfgP, LIM, HL]
theorem w_spec_l6Send : Valid Try.prog 55 c_spec_l6Send :=
  valid_ctr2 (V := V_spec_l6Send) (tysB_ok tys2_ok) ⟨(CallsL.cons w_spec_NumNext (CallsL.cons w_spec_l6List (CallsL.cons w_spec_l6Frame (CallsL.nil _)))), (IosL.nil _)⟩ mixed 0 5 Try.func55 rfl (by kernel_rfl)
    (fun c hc => by
      obtain rfl := Option.some.inj hc
      exact ⟨trivial, ⟨⟨trivial, ⟨⟨trivial, trivial⟩, trivial⟩⟩, ⟨⟨trivial, ⟨⟨⟨trivial, ⟨⟨trivial, trivial⟩, trivial⟩⟩, ⟨trivial, ⟨trivial, trivial⟩⟩⟩, trivial⟩⟩, ⟨trivial, ⟨trivial, ⟨trivial, trivial⟩⟩⟩⟩⟩⟩)
    (fun x K hp hk => ⟨_, by kernel_rfl, vF_spec_l6Send x.1 x.2.1 x.2.2 K hp (fun q f b h => hk (q, f, b) h)⟩)
theorem vF_spec_TxSend (c:Cfg) (t:TxN) (a:Int) (K:List Arg→List (List AC)→Prop) (hp:TxB t) (hk:∀ (q:TxN) (f:FrmN) (b:Bool),(TxB q∧q.flight≤4)→K ([rTxN.to q,rFrmN.to f,rB.to b]) ([])):Tt (((t.flight≤1000)∧(t.queue≤1000))∧(∀ r:Bool,((r=true)→((CfgP c)∧((TxB t)∧(((t.flight:Nat):Int)≤c.win))))→Tt (if ((!r)=true) then (Tt (K [(Arg.v true [(ai 0),(ai 0),(AC.d (D.h RK.part 0)),(ai 0),(AC.d (D.h RK.part 0)),(AC.d (D.b false)),(ai 0),(AC.d (D.b false)),(ai 0),(AC.d (D.b false))]),(Arg.v true [(ai 0),(ai 0),(ai 0),(AC.d (D.b false)),(AC.d (D.b false)),(ai 0),(ai 0),(ai 0),(AC.d (D.h RK.u8 0))]),(aB false)] [])) else (Tt (True∧(∀ r1:Bool,(r1=(decide ((0≤a)∧(a≤7))))→Tt (if ((!r1)=true) then (Tt (K [(Arg.v true [(ai 0),(ai 0),(AC.d (D.h RK.part 0)),(ai 0),(AC.d (D.h RK.part 0)),(AC.d (D.b false)),(ai 0),(AC.d (D.b false)),(ai 0),(AC.d (D.b false))]),(Arg.v true [(ai 0),(ai 0),(ai 0),(AC.d (D.b false)),(AC.d (D.b false)),(ai 0),(ai 0),(ai 0),(AC.d (D.h RK.u8 0))]),(aB false)] [])) else (Tt (((t.flight≤1000)∧(t.queue≤1000))∧(∀ r2:TxN,(r2=t)→Tt (Tt (Tt (((CfgP c)∧(((0≤r2.acked)∧((r2.acked≤7)∧((0≤r2.sent)∧((r2.sent≤((r2.flight:Nat):Int))∧((r2.queue≤24)∧(r2.flight≤1000))))))∧(((r2.flight:Nat):Int)≤c.win)))∧(∀ r3:(Prod TxN (Prod FrmN Bool)),((TxB r3.fst)∧((((r3.fst.flight:Nat):Int)≤c.win)∧(r3.snd.fst.data≤1000)))→Tt (Tt (Tt (Tt (Tt (((r3.fst.flight≤1000)∧(r3.fst.queue≤1000))∧(∀ r4:TxN,(r4=r3.fst)→Tt (Tt (Tt (Tt (Tt (K [(Arg.v true [(ai r4.next),(ai r4.acked),(AC.d (D.h RK.part r4.flight)),(ai r4.sent),(AC.d (D.h RK.part r4.queue)),(AC.d (D.b r4.asks)),(ai r4.tries),(AC.d (D.b r4.held)),(ai r4.count),(AC.d (D.b r4.dead))]),(Arg.v true [(ai r3.snd.fst.kind),(ai r3.snd.fst.seq),(ai r3.snd.fst.ack),(AC.d (D.b r3.snd.fst.poll)),(AC.d (D.b r3.snd.fst.final)),(ai r3.snd.fst.say),(ai r3.snd.fst.seg),(ai r3.snd.fst.len),(AC.d (D.h RK.u8 r3.snd.fst.data))]),(aB r3.snd.snd)] []))))))))))))))))))))))))) := by
  have hkk := fun a1_ a2_ a3_ a4_ a5_ a6_ a7_ a8_ a9_ a10_ a11_ a12_ a13_ a14_ a15_ a16_ a17_ a18_ a19_ a20_ h_ => hk ⟨a1_, a2_, a3_, a4_, a5_, a6_, a7_, a8_, a9_, a10_⟩ ⟨a11_, a12_, a13_, a14_, a15_, a16_, a17_, a18_, a19_⟩ a20_ h_
  dsimp only [rFrmN, rTxN, rS, frmNC, txNC, List.map] at hkk
  try simp (disch := omega) only [wr]
  repeat' first
    | exact rfl
    | exact True.intro
    | with_reducible apply And.intro
    | (with_reducible intro y_ hy_; subst hy_)
    | with_reducible intro y_
    | (refine iteI (fun h => ?_) (fun h => ?_))
    | fail
  all_goals try simp only [cq1, cq2, cq3, cq4, cq5, cq6, cq7, cq8, cq9, cq10, cq11, cq12, cq13, cq14, cq15, cq16, cq17, cq18, cq19, TxB, CfgP] at *
  all_goals try simp (disch := omega) only [wr] at *
  all_goals first
    | assumption
    | omega
    | exact (wr8_in _).1
    | exact (wr8_in _).2
    | (refine hkk _ _ _ _ _ _ _ _ _ _ _ _ _ _ _ _ _ _ _ _ ?_
       (try dsimp only)
       first | done | exact True.intro | assumption | exact fun _ => by assumption | omega | grind [TxB, CfgP])
    | (simp only [LIM, HL] at *; omega)
    | grind [TxB, CfgP, LIM, HL]
theorem w_spec_TxSend : Valid Try.prog 29 c_spec_TxSend :=
  valid_ctr2 (V := V_spec_TxSend) (tysB_ok tys2_ok) ⟨(CallsL.cons w_spec_l1In (CallsL.cons w_spec_l6Copy (CallsL.cons w_spec_TxOk (CallsL.cons w_spec_l6Send (CallsL.nil _))))), (IosL.nil _)⟩ mixed 0 6 Try.func29 rfl (by kernel_rfl)
    (fun c hc => by
      obtain rfl := Option.some.inj hc
      exact ⟨trivial, ⟨⟨trivial, ⟨⟨trivial, trivial⟩, trivial⟩⟩, ⟨trivial, ⟨trivial, trivial⟩⟩⟩⟩)
    (fun x K hp hk => ⟨_, by kernel_rfl, vF_spec_TxSend x.1 x.2.1 x.2.2 K hp (fun q f b h => hk (q, f, b) h)⟩)
theorem vF_spec_l6Acked (t:TxN) (a:Int) (K:List Arg→List (List AC)→Prop) (hp:TxB t∧0≤a∧a≤7) (hk:∀ (q:TxN),(TxB q∧q.flight≤t.flight)→K ([rTxN.to q]) ([])):Tt (True∧(∀ r:Int,(((0≤t.acked)∧((t.acked≤7)∧((0≤a)∧(a≤7))))→((0≤r)∧(r≤7)))→Tt (if ((decide (r > ((t.flight:Nat):Int)))=true) then (Tt (K [(Arg.v true [(ai t.next),(ai t.acked),(AC.d (D.h RK.part t.flight)),(ai t.sent),(AC.d (D.h RK.part t.queue)),(AC.d (D.b t.asks)),(ai t.tries),(AC.d (D.b t.held)),(ai t.count),(AC.d (D.b true))])] [])) else (((0≤r)∧((r≤((t.flight:Nat):Int))∧(((t.flight:Nat):Int)≤((t.flight:Nat):Int))))∧(Tt ((((Int.toNat ((t.flight:Nat):Int)) - r.toNat)≤1000)∧(∀ r1:Nat,(r1=((Int.toNat ((t.flight:Nat):Int)) - r.toNat))→Tt (Tt (K [(Arg.v true [(ai t.next),(ai a),(AC.d (D.h RK.part r1)),(ai (if ((IntKind.i64.wrap (t.sent - r)) > (0:Int)) then (IntKind.i64.wrap (t.sent - r)) else (0:Int))),(AC.d (D.h RK.part t.queue)),(AC.d (D.b t.asks)),(ai t.tries),(AC.d (D.b t.held)),(ai (IntKind.i64.wrap (t.count + r))),(AC.d (D.b t.dead))])] []))))))))) := by
  have hkk := fun a1_ a2_ a3_ a4_ a5_ a6_ a7_ a8_ a9_ a10_ h_ => hk ⟨a1_, a2_, a3_, a4_, a5_, a6_, a7_, a8_, a9_, a10_⟩ h_
  dsimp only [rTxN, rS, txNC, List.map] at hkk
  try simp (disch := omega) only [wr]
  repeat' first
    | exact rfl
    | exact True.intro
    | with_reducible apply And.intro
    | (with_reducible intro y_ hy_; subst hy_)
    | with_reducible intro y_
    | (refine iteI (fun h => ?_) (fun h => ?_))
    | fail
  all_goals try simp only [cq1, cq2, cq3, cq4, cq5, cq6, cq7, cq8, cq9, cq10, cq11, cq12, cq13, cq14, cq15, cq16, cq17, cq18, cq19, TxB] at *
  all_goals try simp (disch := omega) only [wr] at *
  all_goals first
    | assumption
    | omega
    | exact (wr8_in _).1
    | exact (wr8_in _).2
    | (refine hkk _ _ _ _ _ _ _ _ _ _ ?_
       (try dsimp only)
       first | done | exact True.intro | assumption | exact fun _ => by assumption | omega | grind [TxB])
    | (simp only [LIM, HL] at *; omega)
    | grind [TxB, LIM, HL]
theorem w_spec_l6Acked : Valid Try.prog 77 c_spec_l6Acked :=
  valid_ctr2 (V := V_spec_l6Acked) (tysB_ok tys2_ok) ⟨(CallsL.cons w_spec_l6List (CallsL.cons w_spec_NumFar (CallsL.nil _))), (IosL.nil _)⟩ mixed 0 2 Try.func77 rfl (by kernel_rfl)
    (fun c hc => by
      obtain rfl := Option.some.inj hc
      exact ⟨trivial, ⟨trivial, ⟨⟨trivial, ⟨⟨trivial, ⟨trivial, trivial⟩⟩, trivial⟩⟩, ⟨trivial, ⟨trivial, ⟨trivial, ⟨trivial, ⟨trivial, trivial⟩⟩⟩⟩⟩⟩⟩⟩)
    (fun x K hp hk => ⟨_, by kernel_rfl, vF_spec_l6Acked x.1 x.2 K hp (fun q h => hk q h)⟩)
theorem vF_spec_l6Hear (t:TxN) (f:FrmN) (K:List Arg→List (List AC)→Prop) (hp:TxB t∧0≤f.ack∧f.ack≤7) (hk:∀ (q:TxN),(TxB q∧q.flight≤t.flight)→K ([rTxN.to q]) ([])):if (t.dead=true) then (Tt (K [(Arg.v true [(ai t.next),(ai t.acked),(AC.d (D.h RK.part t.flight)),(ai t.sent),(AC.d (D.h RK.part t.queue)),(AC.d (D.b t.asks)),(ai t.tries),(AC.d (D.b t.held)),(ai t.count),(AC.d (D.b t.dead))])] [])) else (Tt ((((0≤t.acked)∧((t.acked≤7)∧((0≤t.sent)∧((t.sent≤((t.flight:Nat):Int))∧((t.queue≤24)∧(t.flight≤1000))))))∧((0≤f.ack)∧(f.ack≤7)))∧(∀ r:TxN,((TxB r)∧(r.flight≤t.flight))→Tt (if (r.dead=true) then (Tt (K [(Arg.v true [(ai r.next),(ai r.acked),(AC.d (D.h RK.part r.flight)),(ai r.sent),(AC.d (D.h RK.part r.queue)),(AC.d (D.b r.asks)),(ai r.tries),(AC.d (D.b r.held)),(ai r.count),(AC.d (D.b r.dead))])] [])) else (if ((f.kind != (2:Int))=true) then (if ((!f.final)=true) then (Tt (K [(Arg.v true [(ai r.next),(ai r.acked),(AC.d (D.h RK.part r.flight)),(ai r.sent),(AC.d (D.h RK.part r.queue)),(AC.d (D.b r.asks)),(ai r.tries),(AC.d (D.b r.held)),(ai r.count),(AC.d (D.b r.dead))])] [])) else (if ((f.kind == 2)=true) then (if (f.final=true) then (if (r.asks=true) then (if ((f.kind == 2)=true) then (if ((f.say == 1)=true) then (Tt (K [(Arg.v true [(ai r.next),(ai r.acked),(AC.d (D.h RK.part r.flight)),(ai 0),(AC.d (D.h RK.part r.queue)),(AC.d (D.b false)),(ai 0),(AC.d (D.b (f.say == 2))),(ai r.count),(AC.d (D.b r.dead))])] [])) else (Tt (K [(Arg.v true [(ai r.next),(ai r.acked),(AC.d (D.h RK.part r.flight)),(ai 0),(AC.d (D.h RK.part r.queue)),(AC.d (D.b false)),(ai 0),(AC.d (D.b (f.say == 2))),(ai r.count),(AC.d (D.b r.dead))])] []))) else (Tt (K [(Arg.v true [(ai r.next),(ai r.acked),(AC.d (D.h RK.part r.flight)),(ai 0),(AC.d (D.h RK.part r.queue)),(AC.d (D.b false)),(ai 0),(AC.d (D.b (f.say == 2))),(ai r.count),(AC.d (D.b r.dead))])] []))) else (if ((f.kind == 2)=true) then (if ((f.say == 1)=true) then (if ((!r.asks)=true) then (Tt (K [(Arg.v true [(ai r.next),(ai r.acked),(AC.d (D.h RK.part r.flight)),(ai 0),(AC.d (D.h RK.part r.queue)),(AC.d (D.b r.asks)),(ai r.tries),(AC.d (D.b (f.say == 2))),(ai r.count),(AC.d (D.b r.dead))])] [])) else (Tt (K [(Arg.v true [(ai r.next),(ai r.acked),(AC.d (D.h RK.part r.flight)),(ai r.sent),(AC.d (D.h RK.part r.queue)),(AC.d (D.b r.asks)),(ai r.tries),(AC.d (D.b (f.say == 2))),(ai r.count),(AC.d (D.b r.dead))])] []))) else (Tt (K [(Arg.v true [(ai r.next),(ai r.acked),(AC.d (D.h RK.part r.flight)),(ai r.sent),(AC.d (D.h RK.part r.queue)),(AC.d (D.b r.asks)),(ai r.tries),(AC.d (D.b (f.say == 2))),(ai r.count),(AC.d (D.b r.dead))])] []))) else (Tt (K [(Arg.v true [(ai r.next),(ai r.acked),(AC.d (D.h RK.part r.flight)),(ai r.sent),(AC.d (D.h RK.part r.queue)),(AC.d (D.b r.asks)),(ai r.tries),(AC.d (D.b (f.say == 2))),(ai r.count),(AC.d (D.b r.dead))])] [])))) else (if ((f.kind == 2)=true) then (if ((f.say == 1)=true) then (if ((!r.asks)=true) then (Tt (K [(Arg.v true [(ai r.next),(ai r.acked),(AC.d (D.h RK.part r.flight)),(ai 0),(AC.d (D.h RK.part r.queue)),(AC.d (D.b r.asks)),(ai r.tries),(AC.d (D.b (f.say == 2))),(ai r.count),(AC.d (D.b r.dead))])] [])) else (Tt (K [(Arg.v true [(ai r.next),(ai r.acked),(AC.d (D.h RK.part r.flight)),(ai r.sent),(AC.d (D.h RK.part r.queue)),(AC.d (D.b r.asks)),(ai r.tries),(AC.d (D.b (f.say == 2))),(ai r.count),(AC.d (D.b r.dead))])] []))) else (Tt (K [(Arg.v true [(ai r.next),(ai r.acked),(AC.d (D.h RK.part r.flight)),(ai r.sent),(AC.d (D.h RK.part r.queue)),(AC.d (D.b r.asks)),(ai r.tries),(AC.d (D.b (f.say == 2))),(ai r.count),(AC.d (D.b r.dead))])] []))) else (Tt (K [(Arg.v true [(ai r.next),(ai r.acked),(AC.d (D.h RK.part r.flight)),(ai r.sent),(AC.d (D.h RK.part r.queue)),(AC.d (D.b r.asks)),(ai r.tries),(AC.d (D.b (f.say == 2))),(ai r.count),(AC.d (D.b r.dead))])] [])))) else (if (f.final=true) then (if (r.asks=true) then (if ((f.kind == 2)=true) then (if ((f.say == 1)=true) then (Tt (K [(Arg.v true [(ai r.next),(ai r.acked),(AC.d (D.h RK.part r.flight)),(ai 0),(AC.d (D.h RK.part r.queue)),(AC.d (D.b false)),(ai 0),(AC.d (D.b r.held)),(ai r.count),(AC.d (D.b r.dead))])] [])) else (Tt (K [(Arg.v true [(ai r.next),(ai r.acked),(AC.d (D.h RK.part r.flight)),(ai 0),(AC.d (D.h RK.part r.queue)),(AC.d (D.b false)),(ai 0),(AC.d (D.b r.held)),(ai r.count),(AC.d (D.b r.dead))])] []))) else (Tt (K [(Arg.v true [(ai r.next),(ai r.acked),(AC.d (D.h RK.part r.flight)),(ai 0),(AC.d (D.h RK.part r.queue)),(AC.d (D.b false)),(ai 0),(AC.d (D.b r.held)),(ai r.count),(AC.d (D.b r.dead))])] []))) else (if ((f.kind == 2)=true) then (if ((f.say == 1)=true) then (if ((!r.asks)=true) then (Tt (K [(Arg.v true [(ai r.next),(ai r.acked),(AC.d (D.h RK.part r.flight)),(ai 0),(AC.d (D.h RK.part r.queue)),(AC.d (D.b r.asks)),(ai r.tries),(AC.d (D.b r.held)),(ai r.count),(AC.d (D.b r.dead))])] [])) else (Tt (K [(Arg.v true [(ai r.next),(ai r.acked),(AC.d (D.h RK.part r.flight)),(ai r.sent),(AC.d (D.h RK.part r.queue)),(AC.d (D.b r.asks)),(ai r.tries),(AC.d (D.b r.held)),(ai r.count),(AC.d (D.b r.dead))])] []))) else (Tt (K [(Arg.v true [(ai r.next),(ai r.acked),(AC.d (D.h RK.part r.flight)),(ai r.sent),(AC.d (D.h RK.part r.queue)),(AC.d (D.b r.asks)),(ai r.tries),(AC.d (D.b r.held)),(ai r.count),(AC.d (D.b r.dead))])] []))) else (Tt (K [(Arg.v true [(ai r.next),(ai r.acked),(AC.d (D.h RK.part r.flight)),(ai r.sent),(AC.d (D.h RK.part r.queue)),(AC.d (D.b r.asks)),(ai r.tries),(AC.d (D.b r.held)),(ai r.count),(AC.d (D.b r.dead))])] [])))) else (if ((f.kind == 2)=true) then (if ((f.say == 1)=true) then (if ((!r.asks)=true) then (Tt (K [(Arg.v true [(ai r.next),(ai r.acked),(AC.d (D.h RK.part r.flight)),(ai 0),(AC.d (D.h RK.part r.queue)),(AC.d (D.b r.asks)),(ai r.tries),(AC.d (D.b r.held)),(ai r.count),(AC.d (D.b r.dead))])] [])) else (Tt (K [(Arg.v true [(ai r.next),(ai r.acked),(AC.d (D.h RK.part r.flight)),(ai r.sent),(AC.d (D.h RK.part r.queue)),(AC.d (D.b r.asks)),(ai r.tries),(AC.d (D.b r.held)),(ai r.count),(AC.d (D.b r.dead))])] []))) else (Tt (K [(Arg.v true [(ai r.next),(ai r.acked),(AC.d (D.h RK.part r.flight)),(ai r.sent),(AC.d (D.h RK.part r.queue)),(AC.d (D.b r.asks)),(ai r.tries),(AC.d (D.b r.held)),(ai r.count),(AC.d (D.b r.dead))])] []))) else (Tt (K [(Arg.v true [(ai r.next),(ai r.acked),(AC.d (D.h RK.part r.flight)),(ai r.sent),(AC.d (D.h RK.part r.queue)),(AC.d (D.b r.asks)),(ai r.tries),(AC.d (D.b r.held)),(ai r.count),(AC.d (D.b r.dead))])] [])))))) else (if ((f.kind == 2)=true) then (if (f.final=true) then (if (r.asks=true) then (if ((f.kind == 2)=true) then (if ((f.say == 1)=true) then (Tt (K [(Arg.v true [(ai r.next),(ai r.acked),(AC.d (D.h RK.part r.flight)),(ai 0),(AC.d (D.h RK.part r.queue)),(AC.d (D.b false)),(ai 0),(AC.d (D.b (f.say == 2))),(ai r.count),(AC.d (D.b r.dead))])] [])) else (Tt (K [(Arg.v true [(ai r.next),(ai r.acked),(AC.d (D.h RK.part r.flight)),(ai 0),(AC.d (D.h RK.part r.queue)),(AC.d (D.b false)),(ai 0),(AC.d (D.b (f.say == 2))),(ai r.count),(AC.d (D.b r.dead))])] []))) else (Tt (K [(Arg.v true [(ai r.next),(ai r.acked),(AC.d (D.h RK.part r.flight)),(ai 0),(AC.d (D.h RK.part r.queue)),(AC.d (D.b false)),(ai 0),(AC.d (D.b (f.say == 2))),(ai r.count),(AC.d (D.b r.dead))])] []))) else (if ((f.kind == 2)=true) then (if ((f.say == 1)=true) then (if ((!r.asks)=true) then (Tt (K [(Arg.v true [(ai r.next),(ai r.acked),(AC.d (D.h RK.part r.flight)),(ai 0),(AC.d (D.h RK.part r.queue)),(AC.d (D.b r.asks)),(ai r.tries),(AC.d (D.b (f.say == 2))),(ai r.count),(AC.d (D.b r.dead))])] [])) else (Tt (K [(Arg.v true [(ai r.next),(ai r.acked),(AC.d (D.h RK.part r.flight)),(ai r.sent),(AC.d (D.h RK.part r.queue)),(AC.d (D.b r.asks)),(ai r.tries),(AC.d (D.b (f.say == 2))),(ai r.count),(AC.d (D.b r.dead))])] []))) else (Tt (K [(Arg.v true [(ai r.next),(ai r.acked),(AC.d (D.h RK.part r.flight)),(ai r.sent),(AC.d (D.h RK.part r.queue)),(AC.d (D.b r.asks)),(ai r.tries),(AC.d (D.b (f.say == 2))),(ai r.count),(AC.d (D.b r.dead))])] []))) else (Tt (K [(Arg.v true [(ai r.next),(ai r.acked),(AC.d (D.h RK.part r.flight)),(ai r.sent),(AC.d (D.h RK.part r.queue)),(AC.d (D.b r.asks)),(ai r.tries),(AC.d (D.b (f.say == 2))),(ai r.count),(AC.d (D.b r.dead))])] [])))) else (if ((f.kind == 2)=true) then (if ((f.say == 1)=true) then (if ((!r.asks)=true) then (Tt (K [(Arg.v true [(ai r.next),(ai r.acked),(AC.d (D.h RK.part r.flight)),(ai 0),(AC.d (D.h RK.part r.queue)),(AC.d (D.b r.asks)),(ai r.tries),(AC.d (D.b (f.say == 2))),(ai r.count),(AC.d (D.b r.dead))])] [])) else (Tt (K [(Arg.v true [(ai r.next),(ai r.acked),(AC.d (D.h RK.part r.flight)),(ai r.sent),(AC.d (D.h RK.part r.queue)),(AC.d (D.b r.asks)),(ai r.tries),(AC.d (D.b (f.say == 2))),(ai r.count),(AC.d (D.b r.dead))])] []))) else (Tt (K [(Arg.v true [(ai r.next),(ai r.acked),(AC.d (D.h RK.part r.flight)),(ai r.sent),(AC.d (D.h RK.part r.queue)),(AC.d (D.b r.asks)),(ai r.tries),(AC.d (D.b (f.say == 2))),(ai r.count),(AC.d (D.b r.dead))])] []))) else (Tt (K [(Arg.v true [(ai r.next),(ai r.acked),(AC.d (D.h RK.part r.flight)),(ai r.sent),(AC.d (D.h RK.part r.queue)),(AC.d (D.b r.asks)),(ai r.tries),(AC.d (D.b (f.say == 2))),(ai r.count),(AC.d (D.b r.dead))])] [])))) else (if (f.final=true) then (if (r.asks=true) then (if ((f.kind == 2)=true) then (if ((f.say == 1)=true) then (Tt (K [(Arg.v true [(ai r.next),(ai r.acked),(AC.d (D.h RK.part r.flight)),(ai 0),(AC.d (D.h RK.part r.queue)),(AC.d (D.b false)),(ai 0),(AC.d (D.b r.held)),(ai r.count),(AC.d (D.b r.dead))])] [])) else (Tt (K [(Arg.v true [(ai r.next),(ai r.acked),(AC.d (D.h RK.part r.flight)),(ai 0),(AC.d (D.h RK.part r.queue)),(AC.d (D.b false)),(ai 0),(AC.d (D.b r.held)),(ai r.count),(AC.d (D.b r.dead))])] []))) else (Tt (K [(Arg.v true [(ai r.next),(ai r.acked),(AC.d (D.h RK.part r.flight)),(ai 0),(AC.d (D.h RK.part r.queue)),(AC.d (D.b false)),(ai 0),(AC.d (D.b r.held)),(ai r.count),(AC.d (D.b r.dead))])] []))) else (if ((f.kind == 2)=true) then (if ((f.say == 1)=true) then (if ((!r.asks)=true) then (Tt (K [(Arg.v true [(ai r.next),(ai r.acked),(AC.d (D.h RK.part r.flight)),(ai 0),(AC.d (D.h RK.part r.queue)),(AC.d (D.b r.asks)),(ai r.tries),(AC.d (D.b r.held)),(ai r.count),(AC.d (D.b r.dead))])] [])) else (Tt (K [(Arg.v true [(ai r.next),(ai r.acked),(AC.d (D.h RK.part r.flight)),(ai r.sent),(AC.d (D.h RK.part r.queue)),(AC.d (D.b r.asks)),(ai r.tries),(AC.d (D.b r.held)),(ai r.count),(AC.d (D.b r.dead))])] []))) else (Tt (K [(Arg.v true [(ai r.next),(ai r.acked),(AC.d (D.h RK.part r.flight)),(ai r.sent),(AC.d (D.h RK.part r.queue)),(AC.d (D.b r.asks)),(ai r.tries),(AC.d (D.b r.held)),(ai r.count),(AC.d (D.b r.dead))])] []))) else (Tt (K [(Arg.v true [(ai r.next),(ai r.acked),(AC.d (D.h RK.part r.flight)),(ai r.sent),(AC.d (D.h RK.part r.queue)),(AC.d (D.b r.asks)),(ai r.tries),(AC.d (D.b r.held)),(ai r.count),(AC.d (D.b r.dead))])] [])))) else (if ((f.kind == 2)=true) then (if ((f.say == 1)=true) then (if ((!r.asks)=true) then (Tt (K [(Arg.v true [(ai r.next),(ai r.acked),(AC.d (D.h RK.part r.flight)),(ai 0),(AC.d (D.h RK.part r.queue)),(AC.d (D.b r.asks)),(ai r.tries),(AC.d (D.b r.held)),(ai r.count),(AC.d (D.b r.dead))])] [])) else (Tt (K [(Arg.v true [(ai r.next),(ai r.acked),(AC.d (D.h RK.part r.flight)),(ai r.sent),(AC.d (D.h RK.part r.queue)),(AC.d (D.b r.asks)),(ai r.tries),(AC.d (D.b r.held)),(ai r.count),(AC.d (D.b r.dead))])] []))) else (Tt (K [(Arg.v true [(ai r.next),(ai r.acked),(AC.d (D.h RK.part r.flight)),(ai r.sent),(AC.d (D.h RK.part r.queue)),(AC.d (D.b r.asks)),(ai r.tries),(AC.d (D.b r.held)),(ai r.count),(AC.d (D.b r.dead))])] []))) else (Tt (K [(Arg.v true [(ai r.next),(ai r.acked),(AC.d (D.h RK.part r.flight)),(ai r.sent),(AC.d (D.h RK.part r.queue)),(AC.d (D.b r.asks)),(ai r.tries),(AC.d (D.b r.held)),(ai r.count),(AC.d (D.b r.dead))])] [])))))))))) := by
  have hkk := fun a1_ a2_ a3_ a4_ a5_ a6_ a7_ a8_ a9_ a10_ h_ => hk ⟨a1_, a2_, a3_, a4_, a5_, a6_, a7_, a8_, a9_, a10_⟩ h_
  dsimp only [rTxN, rS, txNC, List.map] at hkk
  try simp (disch := omega) only [wr]
  repeat' first
    | exact rfl
    | exact True.intro
    | with_reducible apply And.intro
    | (with_reducible intro y_ hy_; subst hy_)
    | with_reducible intro y_
    | (refine iteI (fun h => ?_) (fun h => ?_))
    | fail
  all_goals try simp only [cq1, cq2, cq3, cq4, cq5, cq6, cq7, cq8, cq9, cq10, cq11, cq12, cq13, cq14, cq15, cq16, cq17, cq18, cq19, TxB] at *
  all_goals try simp (disch := omega) only [wr] at *
  all_goals first
    | assumption
    | omega
    | exact (wr8_in _).1
    | exact (wr8_in _).2
    | (refine hkk _ _ _ _ _ _ _ _ _ _ ?_
       (try dsimp only)
       first | done | exact True.intro | assumption | exact fun _ => by assumption | omega | grind [TxB])
    | (simp only [LIM, HL] at *; omega)
    | grind [TxB, LIM, HL]
theorem w_spec_l6Hear : Valid Try.prog 57 c_spec_l6Hear :=
  valid_ctr2 (V := V_spec_l6Hear) (tysB_ok tys2_ok) ⟨(CallsL.cons w_spec_l6Acked (CallsL.nil _)), (IosL.nil _)⟩ mixed 0 3 Try.func57 rfl (by kernel_rfl)
    (fun c hc => by
      obtain rfl := Option.some.inj hc
      exact ⟨trivial, ⟨⟨trivial, ⟨⟨trivial, trivial⟩, trivial⟩⟩, ⟨trivial, ⟨⟨trivial, ⟨⟨trivial, trivial⟩, trivial⟩⟩, ⟨⟨trivial, ⟨trivial, trivial⟩⟩, ⟨⟨trivial, ⟨⟨trivial, ⟨trivial, trivial⟩⟩, trivial⟩⟩, ⟨⟨trivial, ⟨trivial, trivial⟩⟩, ⟨trivial, trivial⟩⟩⟩⟩⟩⟩⟩⟩)
    (fun x K hp hk => ⟨_, by kernel_rfl, vF_spec_l6Hear x.1 x.2 K hp (fun q h => hk q h)⟩)
theorem vF_spec_TxHear (c:Cfg) (t:TxN) (f:FrmN) (K:List Arg→List (List AC)→Prop) (hp:TxB t) (hk:∀ (q:TxN),(TxB q∧q.flight≤t.flight)→K ([rTxN.to q]) ([])):Tt (((t.flight≤1000)∧(t.queue≤1000))∧(∀ r:Bool,((r=true)→((CfgP c)∧((TxB t)∧(((t.flight:Nat):Int)≤c.win))))→Tt (if ((!r)=true) then (Tt (K [(Arg.v true [(ai 0),(ai 0),(AC.d (D.h RK.part 0)),(ai 0),(AC.d (D.h RK.part 0)),(AC.d (D.b false)),(ai 0),(AC.d (D.b false)),(ai 0),(AC.d (D.b false))])] [])) else (Tt (True∧(∀ r1:Bool,(r1=(decide (FrmPN f)))→Tt (if ((!r1)=true) then (Tt (K [(Arg.v true [(ai 0),(ai 0),(AC.d (D.h RK.part 0)),(ai 0),(AC.d (D.h RK.part 0)),(AC.d (D.b false)),(ai 0),(AC.d (D.b false)),(ai 0),(AC.d (D.b false))])] [])) else (if ((f.kind != (1:Int))=true) then (if ((f.kind != (2:Int))=true) then (Tt (K [(Arg.v true [(ai 0),(ai 0),(AC.d (D.h RK.part 0)),(ai 0),(AC.d (D.h RK.part 0)),(AC.d (D.b false)),(ai 0),(AC.d (D.b false)),(ai 0),(AC.d (D.b false))])] [])) else (Tt (((t.flight≤1000)∧(t.queue≤1000))∧(∀ r2:TxN,(r2=t)→Tt (Tt (Tt ((((0≤r2.acked)∧((r2.acked≤7)∧((0≤r2.sent)∧((r2.sent≤((r2.flight:Nat):Int))∧((r2.queue≤24)∧(r2.flight≤1000))))))∧((0≤f.ack)∧(f.ack≤7)))∧(∀ r3:TxN,((TxB r3)∧(r3.flight≤r2.flight))→Tt (Tt (Tt (((r3.flight≤1000)∧(r3.queue≤1000))∧(∀ r4:TxN,(r4=r3)→Tt (Tt (Tt (Tt (K [(Arg.v true [(ai r4.next),(ai r4.acked),(AC.d (D.h RK.part r4.flight)),(ai r4.sent),(AC.d (D.h RK.part r4.queue)),(AC.d (D.b r4.asks)),(ai r4.tries),(AC.d (D.b r4.held)),(ai r4.count),(AC.d (D.b r4.dead))])] [])))))))))))))))) else (Tt (((t.flight≤1000)∧(t.queue≤1000))∧(∀ r2:TxN,(r2=t)→Tt (Tt (Tt ((((0≤r2.acked)∧((r2.acked≤7)∧((0≤r2.sent)∧((r2.sent≤((r2.flight:Nat):Int))∧((r2.queue≤24)∧(r2.flight≤1000))))))∧((0≤f.ack)∧(f.ack≤7)))∧(∀ r3:TxN,((TxB r3)∧(r3.flight≤r2.flight))→Tt (Tt (Tt (((r3.flight≤1000)∧(r3.queue≤1000))∧(∀ r4:TxN,(r4=r3)→Tt (Tt (Tt (Tt (K [(Arg.v true [(ai r4.next),(ai r4.acked),(AC.d (D.h RK.part r4.flight)),(ai r4.sent),(AC.d (D.h RK.part r4.queue)),(AC.d (D.b r4.asks)),(ai r4.tries),(AC.d (D.b r4.held)),(ai r4.count),(AC.d (D.b r4.dead))])] []))))))))))))))))))))))) := by
  have hkk := fun a1_ a2_ a3_ a4_ a5_ a6_ a7_ a8_ a9_ a10_ h_ => hk ⟨a1_, a2_, a3_, a4_, a5_, a6_, a7_, a8_, a9_, a10_⟩ h_
  dsimp only [rTxN, rS, txNC, List.map] at hkk
  try simp (disch := omega) only [wr]
  repeat' first
    | exact rfl
    | exact True.intro
    | with_reducible apply And.intro
    | (with_reducible intro y_ hy_; subst hy_)
    | with_reducible intro y_
    | (refine iteI (fun h => ?_) (fun h => ?_))
    | fail
  all_goals try simp only [cq1, cq2, cq3, cq4, cq5, cq6, cq7, cq8, cq9, cq10, cq11, cq12, cq13, cq14, cq15, cq16, cq17, cq18, cq19, TxB, FrmPN] at *
  all_goals try simp (disch := omega) only [wr] at *
  all_goals first
    | assumption
    | omega
    | exact (wr8_in _).1
    | exact (wr8_in _).2
    | (refine hkk _ _ _ _ _ _ _ _ _ _ ?_
       (try dsimp only)
       first | done | exact True.intro | assumption | exact fun _ => by assumption | omega | grind [TxB, FrmPN])
    | (simp only [LIM, HL] at *; omega)
    | grind [TxB, FrmPN, LIM, HL]
theorem w_spec_TxHear : Valid Try.prog 30 c_spec_TxHear :=
  valid_ctr2 (V := V_spec_TxHear) (tysB_ok tys2_ok) ⟨(CallsL.cons w_spec_l6Copy (CallsL.cons w_spec_TxOk (CallsL.cons w_spec_FrmOk (CallsL.cons w_spec_l6Hear (CallsL.nil _))))), (IosL.nil _)⟩ mixed 0 4 Try.func30 rfl (by kernel_rfl)
    (fun c hc => by
      obtain rfl := Option.some.inj hc
      exact ⟨trivial, ⟨⟨trivial, ⟨⟨trivial, trivial⟩, trivial⟩⟩, ⟨trivial, trivial⟩⟩⟩)
    (fun x K hp hk => ⟨_, by kernel_rfl, vF_spec_TxHear x.1 x.2.1 x.2.2 K hp (fun q h => hk q h)⟩)
theorem vF_spec_l6Tick (c:Cfg) (t:TxN) (a:Int) (b:Bool) (K:List Arg→List (List AC)→Prop) (hp:TxB t) (hk:∀ (q:TxN) (f:FrmN) (b:Bool),(TxB q∧q.flight=t.flight∧f.data=0)→K ([rTxN.to q,rFrmN.to f,rB.to b]) ([])):if (t.dead=true) then (Tt (K [(Arg.v true [(ai t.next),(ai t.acked),(AC.d (D.h RK.part t.flight)),(ai t.sent),(AC.d (D.h RK.part t.queue)),(AC.d (D.b t.asks)),(ai t.tries),(AC.d (D.b t.held)),(ai t.count),(AC.d (D.b t.dead))]),(Arg.v true [(ai 0),(ai 0),(ai 0),(AC.d (D.b false)),(AC.d (D.b false)),(ai 0),(ai 0),(ai 0),(AC.d (D.h RK.u8 0))]),(aB false)] [])) else (if ((((t.flight:Nat):Int) == (0:Int))=true) then (if ((!t.held)=true) then (if ((!t.asks)=true) then (Tt (K [(Arg.v true [(ai t.next),(ai t.acked),(AC.d (D.h RK.part t.flight)),(ai t.sent),(AC.d (D.h RK.part t.queue)),(AC.d (D.b t.asks)),(ai t.tries),(AC.d (D.b t.held)),(ai t.count),(AC.d (D.b t.dead))]),(Arg.v true [(ai 0),(ai 0),(ai 0),(AC.d (D.b false)),(AC.d (D.b false)),(ai 0),(ai 0),(ai 0),(AC.d (D.h RK.u8 0))]),(aB false)] [])) else (if ((t.tries == c.try_)=true) then (Tt (K [(Arg.v true [(ai t.next),(ai t.acked),(AC.d (D.h RK.part t.flight)),(ai t.sent),(AC.d (D.h RK.part t.queue)),(AC.d (D.b t.asks)),(ai t.tries),(AC.d (D.b t.held)),(ai t.count),(AC.d (D.b true))]),(Arg.v true [(ai 0),(ai 0),(ai 0),(AC.d (D.b false)),(AC.d (D.b false)),(ai 0),(ai 0),(ai 0),(AC.d (D.h RK.u8 0))]),(aB false)] [])) else (Tt (True∧(∀ r:Int,(r=(if (b=true) then (1:Int) else (0:Int)))→Tt (Tt (Tt (Tt (Tt (K [(Arg.v true [(ai t.next),(ai t.acked),(AC.d (D.h RK.part t.flight)),(ai t.sent),(AC.d (D.h RK.part t.queue)),(AC.d (D.b true)),(ai (IntKind.i64.wrap (t.tries + 1))),(AC.d (D.b t.held)),(ai t.count),(AC.d (D.b t.dead))]),(Arg.v true [(ai 2),(ai 0),(ai a),(AC.d (D.b true)),(AC.d (D.b false)),(ai (IntKind.i64.wrap ((2:Int) * r))),(ai 0),(ai 0),(AC.d (D.h RK.u8 0))]),(aB true)] [])))))))))) else (if ((t.tries == c.try_)=true) then (Tt (K [(Arg.v true [(ai t.next),(ai t.acked),(AC.d (D.h RK.part t.flight)),(ai t.sent),(AC.d (D.h RK.part t.queue)),(AC.d (D.b t.asks)),(ai t.tries),(AC.d (D.b t.held)),(ai t.count),(AC.d (D.b true))]),(Arg.v true [(ai 0),(ai 0),(ai 0),(AC.d (D.b false)),(AC.d (D.b false)),(ai 0),(ai 0),(ai 0),(AC.d (D.h RK.u8 0))]),(aB false)] [])) else (Tt (True∧(∀ r:Int,(r=(if (b=true) then (1:Int) else (0:Int)))→Tt (Tt (Tt (Tt (Tt (K [(Arg.v true [(ai t.next),(ai t.acked),(AC.d (D.h RK.part t.flight)),(ai t.sent),(AC.d (D.h RK.part t.queue)),(AC.d (D.b true)),(ai (IntKind.i64.wrap (t.tries + 1))),(AC.d (D.b t.held)),(ai t.count),(AC.d (D.b t.dead))]),(Arg.v true [(ai 2),(ai 0),(ai a),(AC.d (D.b true)),(AC.d (D.b false)),(ai (IntKind.i64.wrap ((2:Int) * r))),(ai 0),(ai 0),(AC.d (D.h RK.u8 0))]),(aB true)] [])))))))))) else (if ((t.tries == c.try_)=true) then (Tt (K [(Arg.v true [(ai t.next),(ai t.acked),(AC.d (D.h RK.part t.flight)),(ai t.sent),(AC.d (D.h RK.part t.queue)),(AC.d (D.b t.asks)),(ai t.tries),(AC.d (D.b t.held)),(ai t.count),(AC.d (D.b true))]),(Arg.v true [(ai 0),(ai 0),(ai 0),(AC.d (D.b false)),(AC.d (D.b false)),(ai 0),(ai 0),(ai 0),(AC.d (D.h RK.u8 0))]),(aB false)] [])) else (Tt (True∧(∀ r:Int,(r=(if (b=true) then (1:Int) else (0:Int)))→Tt (Tt (Tt (Tt (Tt (K [(Arg.v true [(ai t.next),(ai t.acked),(AC.d (D.h RK.part t.flight)),(ai t.sent),(AC.d (D.h RK.part t.queue)),(AC.d (D.b true)),(ai (IntKind.i64.wrap (t.tries + 1))),(AC.d (D.b t.held)),(ai t.count),(AC.d (D.b t.dead))]),(Arg.v true [(ai 2),(ai 0),(ai a),(AC.d (D.b true)),(AC.d (D.b false)),(ai (IntKind.i64.wrap ((2:Int) * r))),(ai 0),(ai 0),(AC.d (D.h RK.u8 0))]),(aB true)] [])))))))))) := by
  have hkk := fun a1_ a2_ a3_ a4_ a5_ a6_ a7_ a8_ a9_ a10_ a11_ a12_ a13_ a14_ a15_ a16_ a17_ a18_ a19_ a20_ h_ => hk ⟨a1_, a2_, a3_, a4_, a5_, a6_, a7_, a8_, a9_, a10_⟩ ⟨a11_, a12_, a13_, a14_, a15_, a16_, a17_, a18_, a19_⟩ a20_ h_
  dsimp only [rFrmN, rTxN, rS, frmNC, txNC, List.map] at hkk
  try simp (disch := omega) only [wr]
  repeat' first
    | exact rfl
    | exact True.intro
    | with_reducible apply And.intro
    | (with_reducible intro y_ hy_; subst hy_)
    | with_reducible intro y_
    | (refine iteI (fun h => ?_) (fun h => ?_))
    | fail
  all_goals try simp only [cq1, cq2, cq3, cq4, cq5, cq6, cq7, cq8, cq9, cq10, cq11, cq12, cq13, cq14, cq15, cq16, cq17, cq18, cq19, TxB] at *
  all_goals try simp (disch := omega) only [wr] at *
  all_goals first
    | assumption
    | omega
    | exact (wr8_in _).1
    | exact (wr8_in _).2
    | (refine hkk _ _ _ _ _ _ _ _ _ _ _ _ _ _ _ _ _ _ _ _ ?_
       (try dsimp only)
       first | done | exact True.intro | assumption | exact fun _ => by assumption | omega | grind [TxB])
    | (simp only [LIM, HL] at *; omega)
    | grind [TxB, LIM, HL]
theorem w_spec_l6Tick : Valid Try.prog 58 c_spec_l6Tick :=
  valid_ctr2 (V := V_spec_l6Tick) (tysB_ok tys2_ok) ⟨(CallsL.cons w_spec_l2Bit (CallsL.nil _)), (IosL.nil _)⟩ mixed 0 4 Try.func58 rfl (by kernel_rfl)
    (fun c hc => by
      obtain rfl := Option.some.inj hc
      exact ⟨trivial, ⟨⟨trivial, ⟨⟨trivial, trivial⟩, trivial⟩⟩, ⟨⟨trivial, ⟨⟨trivial, ⟨trivial, trivial⟩⟩, trivial⟩⟩, ⟨trivial, ⟨trivial, ⟨trivial, trivial⟩⟩⟩⟩⟩⟩)
    (fun x K hp hk => ⟨_, by kernel_rfl, vF_spec_l6Tick x.1 x.2.1 x.2.2.1 x.2.2.2 K hp (fun q f b h => hk (q, f, b) h)⟩)
theorem vF_spec_TxTick (c:Cfg) (t:TxN) (a:Int) (b:Bool) (K:List Arg→List (List AC)→Prop) (hp:TxB t) (hk:∀ (q:TxN) (f:FrmN) (b:Bool),(TxB q∧q.flight≤t.flight)→K ([rTxN.to q,rFrmN.to f,rB.to b]) ([])):Tt (((t.flight≤1000)∧(t.queue≤1000))∧(∀ r:Bool,((r=true)→((CfgP c)∧((TxB t)∧(((t.flight:Nat):Int)≤c.win))))→Tt (if ((!r)=true) then (Tt (K [(Arg.v true [(ai 0),(ai 0),(AC.d (D.h RK.part 0)),(ai 0),(AC.d (D.h RK.part 0)),(AC.d (D.b false)),(ai 0),(AC.d (D.b false)),(ai 0),(AC.d (D.b false))]),(Arg.v true [(ai 0),(ai 0),(ai 0),(AC.d (D.b false)),(AC.d (D.b false)),(ai 0),(ai 0),(ai 0),(AC.d (D.h RK.u8 0))]),(aB false)] [])) else (Tt (True∧(∀ r1:Bool,(r1=(decide ((0≤a)∧(a≤7))))→Tt (if ((!r1)=true) then (Tt (K [(Arg.v true [(ai 0),(ai 0),(AC.d (D.h RK.part 0)),(ai 0),(AC.d (D.h RK.part 0)),(AC.d (D.b false)),(ai 0),(AC.d (D.b false)),(ai 0),(AC.d (D.b false))]),(Arg.v true [(ai 0),(ai 0),(ai 0),(AC.d (D.b false)),(AC.d (D.b false)),(ai 0),(ai 0),(ai 0),(AC.d (D.h RK.u8 0))]),(aB false)] [])) else (Tt (((t.flight≤1000)∧(t.queue≤1000))∧(∀ r2:TxN,(r2=t)→Tt (Tt (Tt (((0≤r2.acked)∧((r2.acked≤7)∧((0≤r2.sent)∧((r2.sent≤((r2.flight:Nat):Int))∧((r2.queue≤24)∧(r2.flight≤1000))))))∧(∀ r3:(Prod TxN (Prod FrmN Bool)),((TxB r3.fst)∧((r3.fst.flight=r2.flight)∧(r3.snd.fst.data=0)))→Tt (Tt (Tt (Tt (Tt (((r3.fst.flight≤1000)∧(r3.fst.queue≤1000))∧(∀ r4:TxN,(r4=r3.fst)→Tt (Tt (Tt (Tt (Tt (K [(Arg.v true [(ai r4.next),(ai r4.acked),(AC.d (D.h RK.part r4.flight)),(ai r4.sent),(AC.d (D.h RK.part r4.queue)),(AC.d (D.b r4.asks)),(ai r4.tries),(AC.d (D.b r4.held)),(ai r4.count),(AC.d (D.b r4.dead))]),(Arg.v true [(ai r3.snd.fst.kind),(ai r3.snd.fst.seq),(ai r3.snd.fst.ack),(AC.d (D.b r3.snd.fst.poll)),(AC.d (D.b r3.snd.fst.final)),(ai r3.snd.fst.say),(ai r3.snd.fst.seg),(ai r3.snd.fst.len),(AC.d (D.h RK.u8 r3.snd.fst.data))]),(aB r3.snd.snd)] []))))))))))))))))))))))))) := by
  have hkk := fun a1_ a2_ a3_ a4_ a5_ a6_ a7_ a8_ a9_ a10_ a11_ a12_ a13_ a14_ a15_ a16_ a17_ a18_ a19_ a20_ h_ => hk ⟨a1_, a2_, a3_, a4_, a5_, a6_, a7_, a8_, a9_, a10_⟩ ⟨a11_, a12_, a13_, a14_, a15_, a16_, a17_, a18_, a19_⟩ a20_ h_
  dsimp only [rFrmN, rTxN, rS, frmNC, txNC, List.map] at hkk
  try simp (disch := omega) only [wr]
  repeat' first
    | exact rfl
    | exact True.intro
    | with_reducible apply And.intro
    | (with_reducible intro y_ hy_; subst hy_)
    | with_reducible intro y_
    | (refine iteI (fun h => ?_) (fun h => ?_))
    | fail
  all_goals try simp only [cq1, cq2, cq3, cq4, cq5, cq6, cq7, cq8, cq9, cq10, cq11, cq12, cq13, cq14, cq15, cq16, cq17, cq18, cq19, TxB] at *
  all_goals try simp (disch := omega) only [wr] at *
  all_goals first
    | assumption
    | omega
    | exact (wr8_in _).1
    | exact (wr8_in _).2
    | (refine hkk _ _ _ _ _ _ _ _ _ _ _ _ _ _ _ _ _ _ _ _ ?_
       (try dsimp only)
       first | done | exact True.intro | assumption | exact fun _ => by assumption | omega | grind [TxB])
    | (simp only [LIM, HL] at *; omega)
    | grind [TxB, LIM, HL]
theorem w_spec_TxTick : Valid Try.prog 31 c_spec_TxTick :=
  valid_ctr2 (V := V_spec_TxTick) (tysB_ok tys2_ok) ⟨(CallsL.cons w_spec_l1In (CallsL.cons w_spec_l6Copy (CallsL.cons w_spec_TxOk (CallsL.cons w_spec_l6Tick (CallsL.nil _))))), (IosL.nil _)⟩ mixed 0 6 Try.func31 rfl (by kernel_rfl)
    (fun c hc => by
      obtain rfl := Option.some.inj hc
      exact ⟨trivial, ⟨⟨trivial, ⟨⟨trivial, trivial⟩, trivial⟩⟩, ⟨trivial, ⟨trivial, trivial⟩⟩⟩⟩)
    (fun x K hp hk => ⟨_, by kernel_rfl, vF_spec_TxTick x.1 x.2.1 x.2.2.1 x.2.2.2 K hp (fun q f b h => hk (q, f, b) h)⟩)
end Go.Proofs.YtjjcjpmfkbfdfaaE
