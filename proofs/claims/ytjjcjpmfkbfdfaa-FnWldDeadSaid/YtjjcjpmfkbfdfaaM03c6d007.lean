/- A part of the proof of laws of the program: what calls of the program answer. Conditions: none. -/
import Derived.Test.YtjjcjpmfkbfdfaaM72e84d62
set_option linter.unusedVariables false
set_option linter.unusedSimpArgs false
set_option linter.unusedSectionVars false

/- Contracts: N6. Conditions: none. -/
set_option linter.unusedVariables false
set_option maxHeartbeats 1600000
namespace Go.Proofs.YtjjcjpmfkbfdfaaE
open Go
theorem netI_00 : ∀ j, at_hnet [0, 0] j ≤ 30 := fun j => by
  match j with
  | 0 => decide
  | 1 => decide
  | j + 2 => exact Nat.zero_le 30

/-! spec.l9Put -/
def c_spec_l9Put : Ent := ctr (α := (WldN) × (Int) × (Nat)) (ρ := (WldN)) [(0, 5), (0, 6)] [(0, 5), (0, 6)] (rs rWldNO (rs rInt (rs1 (rH .u8)))) (fun x_ => (fun (w : WldN) (who : Int) (m : Nat) => (WldI w ∧ 0 ≤ who ∧ who ≤ 1 ∧ m ≤ 1000)) x_.1 x_.2.1 x_.2.2) (fun x_ r_ => (fun x_ => (fun (w : WldN) (who : Int) (m : Nat) => ((fun r_ => (fun (q : WldN) => (WldI q ∧ q.cfg = w.cfg)) r_))) x_.1 x_.2.1 x_.2.2) x_ r_) (fun r_ => (fun (q : WldN) => ([rWldNO.to q])) r_) (fun r_ => (fun (q : WldN) => ([])) r_)
def V_spec_l9Put : Env := ⟨tys2, [(36, c_spec_CrdPut), (54, c_spec_l6Put)], [], [(3, 0), (6, 1), (7, 2)], [(6, ([], [0])), (7, ([], [0]))], [], [], [], [(6, [(0, false), (1, false), (2, false), (3, false), (4, false), (5, false), (6, false), (7, false), (8, true), (9, false), (10, false), (11, false), (12, true), (13, true), (14, true), (15, false)]), (7, [(0, false), (1, false), (2, false), (3, false), (4, false), (5, false), (6, false), (7, false), (8, true), (9, false), (10, false), (11, false), (12, true), (13, true), (14, true), (15, false)]), (9, [(0, false), (1, false), (2, false), (3, false), (4, false), (6, false), (5, true), (7, true), (8, true), (9, true), (10, false), (11, false), (12, true)])]⟩
/-! spec.l9Send -/
def c_spec_l9Send : Ent := ctr (α := (WldN) × (Int)) (ρ := (WldN)) [(0, 5), (0, 6)] [(0, 5), (0, 6)] (rs rWldNO (rs1 rInt)) (fun x_ => (fun (w : WldN) (who : Int) => (WldI w ∧ 0 ≤ who ∧ who ≤ 1)) x_.1 x_.2) (fun x_ r_ => (fun x_ => (fun (w : WldN) (who : Int) => ((fun r_ => (fun (q : WldN) => (WldI q ∧ q.cfg = w.cfg)) r_))) x_.1 x_.2) x_ r_) (fun r_ => (fun (q : WldN) => ([rWldNO.to q])) r_) (fun r_ => (fun (q : WldN) => ([])) r_)
def V_spec_l9Send : Env := ⟨tys2, [(38, c_spec_CrdSend), (55, c_spec_l6Send), (64, c_spec_l9Way)], [(63, [0, 1])], [(2, 0), (4, 1), (5, 2), (6, 3)], [(7, ([3], [0])), (8, ([3], [0]))], [], [], [], [(7, [(0, false), (1, false), (2, false), (3, false), (4, false), (5, false), (6, false), (7, false), (8, false), (9, false), (10, true), (11, false), (12, false), (13, false), (14, false), (15, true), (16, true), (17, true), (18, true), (19, false)]), (8, [(0, false), (1, false), (2, false), (3, false), (4, false), (5, false), (6, false), (7, true), (8, false), (9, false), (10, false), (11, false), (12, true), (13, true), (14, true), (15, true), (16, false)])]⟩
/-! spec.l9Tick -/
def c_spec_l9Tick : Ent := ctr (α := (WldN) × (Int)) (ρ := (WldN)) [(0, 5), (0, 6)] [(0, 5), (0, 6)] (rs rWldNO (rs1 rInt)) (fun x_ => (fun (w : WldN) (who : Int) => (WldI w ∧ 0 ≤ who ∧ who ≤ 1)) x_.1 x_.2) (fun x_ r_ => (fun x_ => (fun (w : WldN) (who : Int) => ((fun r_ => (fun (q : WldN) => (WldI q ∧ q.cfg = w.cfg)) r_))) x_.1 x_.2) x_ r_) (fun r_ => (fun (q : WldN) => ([rWldNO.to q])) r_) (fun r_ => (fun (q : WldN) => ([])) r_)
def V_spec_l9Tick : Env := ⟨tys2, [(58, c_spec_l6Tick), (64, c_spec_l9Way)], [(45, [0, 1])], [(2, 0), (4, 1), (5, 2), (6, 3), (7, 4)], [], [], [], [], []⟩
/-! spec.l9Say -/
def c_spec_l9Say : Ent := ctr (α := (WldN) × (EvN)) (ρ := (WldN)) [(0, 5), (0, 6)] [(0, 5), (0, 6)] (rs rWldNO (rs1 rEvN)) (fun x_ => (fun (w : WldN) (e : EvN) => (WldI w ∧ 0 ≤ e.who ∧ e.who ≤ 1)) x_.1 x_.2) (fun x_ r_ => (fun x_ => (fun (w : WldN) (e : EvN) => ((fun r_ => (fun (q : WldN) => (WldI q ∧ q.cfg = w.cfg)) r_))) x_.1 x_.2) x_ r_) (fun r_ => (fun (q : WldN) => ([rWldNO.to q])) r_) (fun r_ => (fun (q : WldN) => ([])) r_)
def V_spec_l9Say : Env := ⟨tys2, [(64, c_spec_l9Way), (65, c_spec_RxBusy), (66, c_spec_l9Ways), (67, c_spec_l7Say), (68, c_spec_CrdGrant)], [(48, [0, 1]), (72, [0, 1]), (114, [0, 1])], [(2, 0), (3, 1), (4, 2), (5, 3), (6, 4), (8, 5), (9, 6)], [(7, ([], [0, 1]))], [], [500021, 500053, 500059, 500077, 500083], [], [(7, [(0, false), (1, false), (2, false), (3, false), (4, false), (5, false), (6, true), (7, true), (8, true)])]⟩
/-! spec.l9Num -/
def c_spec_l9Num : Ent := ctr (α := (WldN) × (Int) × (FrmN)) (ρ := (WldN)) [(0, 5), (0, 6)] [(0, 5), (0, 6)] (rs rWldNO (rs rInt (rs1 rFrmN))) (fun x_ => (fun (w : WldN) (who : Int) (f : FrmN) => (WldI w ∧ 0 ≤ who ∧ who ≤ 1 ∧ FrmPN f ∧ (f.kind = 1 ∨ f.kind = 2))) x_.1 x_.2.1 x_.2.2) (fun x_ r_ => (fun x_ => (fun (w : WldN) (who : Int) (f : FrmN) => ((fun r_ => (fun (q : WldN) => (WldI q ∧ q.cfg = w.cfg)) r_))) x_.1 x_.2.1 x_.2.2) x_ r_) (fun r_ => (fun (q : WldN) => ([rWldNO.to q])) r_) (fun r_ => (fun (q : WldN) => ([])) r_)
def V_spec_l9Num : Env := ⟨tys2, [(57, c_spec_l6Hear), (66, c_spec_l9Ways), (84, c_spec_l9Tell), (88, c_spec_l7Hear)], [(44, [0, 1]), (48, [0, 1])], [(3, 0), (5, 1), (6, 2), (7, 3), (8, 4)], [], [], [], [], [(2, [(0, false), (1, false), (2, false), (3, false), (4, false), (5, false), (6, true), (7, false), (8, false), (9, true)])]⟩
/-! spec.l9Frame -/
def c_spec_l9Frame : Ent := ctr (α := (WldN) × (Int) × (FrmN)) (ρ := (WldN)) [(0, 5), (0, 6)] [(0, 5), (0, 6)] (rs rWldNO (rs rInt (rs1 rFrmN))) (fun x_ => (fun (w : WldN) (who : Int) (f : FrmN) => (WldI w ∧ 0 ≤ who ∧ who ≤ 1 ∧ FrmPN f)) x_.1 x_.2.1 x_.2.2) (fun x_ r_ => (fun x_ => (fun (w : WldN) (who : Int) (f : FrmN) => ((fun r_ => (fun (q : WldN) => (WldI q ∧ q.cfg = w.cfg)) r_))) x_.1 x_.2.1 x_.2.2) x_ r_) (fun r_ => (fun (q : WldN) => ([rWldNO.to q])) r_) (fun r_ => (fun (q : WldN) => ([])) r_)
def V_spec_l9Frame : Env := ⟨tys2, [(37, c_spec_CrdTake), (82, c_spec_l9Num), (83, c_spec_CrdHear), (84, c_spec_l9Tell)], [(25, [0, 1]), (68, [0, 1])], [(3, 0), (5, 1), (6, 2), (7, 3), (8, 4)], [], [], [500017], [], [(7, [(0, false), (1, false), (2, false), (3, false), (4, false), (5, false), (6, false), (7, false), (8, false), (9, true), (10, false), (11, false), (12, true)])]⟩
/-! spec.l9First -/
def c_spec_l9First : Ent := ctr (α := (WldN) × (Int)) (ρ := (WldN) × (NetN)) [(0, 5), (0, 6)] [(0, 5), (0, 6)] (rs rWldNO (rs1 rInt)) (fun x_ => (fun (w : WldN) (who : Int) => (WldI w ∧ 0 ≤ who ∧ who ≤ 1 ∧ 0 < at_hnet w.net who.toNat)) x_.1 x_.2) (fun x_ r_ => (fun x_ => (fun (w : WldN) (who : Int) => ((fun r_ => (fun (q : WldN) (m : NetN) => (WldI q ∧ q.cfg = w.cfg ∧ m.bytes ≤ 1000)) r_.1 r_.2))) x_.1 x_.2) x_ r_) (fun r_ => (fun (q : WldN) (m : NetN) => ([rWldNO.to q, rNetN.to m])) r_.1 r_.2) (fun r_ => (fun (q : WldN) (m : NetN) => ([])) r_.1 r_.2)
def V_spec_l9First : Env := ⟨tys2, [], [], [(2, 0), (4, 1), (5, 2), (6, 3)], [(3, ([1], []))], [], [], [], [(2, [(0, false), (1, false), (2, false), (4, false), (5, false), (6, false), (7, false), (8, false), (9, false), (3, true), (10, true), (11, false), (12, true)]), (3, [(0, false), (1, false), (2, true), (3, true)])]⟩
/-! spec.l9Net -/
def c_spec_l9Net : Ent := ctr (α := (WldN) × (EvN)) (ρ := (WldN)) [(0, 5), (0, 6)] [(0, 5), (0, 6)] (rs rWldNO (rs1 rEvN)) (fun x_ => (fun (w : WldN) (e : EvN) => (WldI w ∧ 0 ≤ e.who ∧ e.who ≤ 1 ∧ 7 ≤ e.kind ∧ e.kind ≤ 9)) x_.1 x_.2) (fun x_ r_ => (fun x_ => (fun (w : WldN) (e : EvN) => ((fun r_ => (fun (q : WldN) => (WldI q ∧ q.cfg = w.cfg)) r_))) x_.1 x_.2) x_ r_) (fun r_ => (fun (q : WldN) => ([rWldNO.to q])) r_) (fun r_ => (fun (q : WldN) => ([])) r_)
def V_spec_l9Net : Env := ⟨tys2, [(42, c_spec_l1In), (69, c_spec_l9First), (70, c_spec_FrmRead), (71, c_spec_l9Frame)], [(29, [0, 1]), (45, [0, 1]), (52, [0, 1])], [(2, 0), (3, 1), (4, 2), (5, 3), (6, 4), (7, 5), (9, 6), (10, 7), (11, 8)], [], [], [500066, 500076], [], [(16, [(0, false), (1, false), (2, false), (3, false), (4, false), (5, false), (6, false), (7, false), (8, false), (9, false), (10, false), (11, false), (12, false), (13, false), (14, false), (15, true)]), (18, [(0, false), (1, false), (2, false), (3, false), (4, false), (5, false), (6, false), (7, false), (8, true)])]⟩
/-! spec.l9Step -/
def c_spec_l9Step : Ent := ctr (α := (WldN) × (EvN)) (ρ := (WldN)) [(0, 5), (0, 6)] [(0, 5), (0, 6)] (rs rWldNO (rs1 rEvN)) (fun x_ => (fun (w : WldN) (e : EvN) => (WldI w ∧ e.data ≤ 1000)) x_.1 x_.2) (fun x_ r_ => (fun x_ => (fun (w : WldN) (e : EvN) => ((fun r_ => (fun (q : WldN) => (WldI q ∧ q.cfg = w.cfg)) r_))) x_.1 x_.2) x_ r_) (fun r_ => (fun (q : WldN) => ([rWldNO.to q])) r_) (fun r_ => (fun (q : WldN) => ([])) r_)
def V_spec_l9Step : Env := ⟨tys2, [(42, c_spec_l1In), (43, c_spec_l9Put), (44, c_spec_l9Send), (45, c_spec_l9Tick), (46, c_spec_l9Say), (47, c_spec_l9Net)], [(19, [0, 1]), (25, [0, 1]), (31, [0, 1]), (38, [0, 1]), (45, [0, 1]), (54, [1])], [(2, 0), (3, 1), (4, 2)], [], [], [500066], [], [(23, [(0, false), (1, false), (2, false), (3, false), (4, false), (5, false), (6, false), (7, false), (8, false), (9, false), (11, false), (12, false), (10, true), (13, true), (14, false), (15, true), (16, true), (17, false), (18, true)])]⟩
end Go.Proofs.YtjjcjpmfkbfdfaaE


/- Calls answer what is promised: N6. Conditions: none. -/
set_option linter.unusedVariables false
set_option maxHeartbeats 1600000
namespace Go.Proofs.YtjjcjpmfkbfdfaaE
open Go
theorem vF_spec_l9Put (w:WldN) (who:Int) (m:Nat) (K:List Arg→List (List AC)→Prop) (hp:WldI w∧0≤who∧who≤1∧m≤1000) (hk:∀ (q:WldN),(WldI q∧q.cfg=w.cfg)→K ([rWldNO.to q]) ([])):((0≤who)∧(who < ((w.ends.length:Nat):Int)))∧(if (((((at_hend w.ends who.toNat).put:Nat):Int) == (60:Int))=true) then (Tt (K [(Arg.v true [(ai w.cfg.mode),(ai w.cfg.win),(ai w.cfg.mps),(ai w.cfg.mtu),(ai w.cfg.try_),(AC.own (RC.mk 44 RK.hend w.ends (RM.mk (dpM false (none)) false 0 false))),(AC.own (RC.mk 64 RK.hnet w.net (RM.mk (dpM false (none)) false 0 false))),(ai w.link)])] [])) else (if ((w.cfg.mode == 1)=true) then (Tt (((CfgP w.cfg)∧((((0:Int)≤(at_hend w.ends who.toNat).tx.acked)∧(((at_hend w.ends who.toNat).tx.acked≤7)∧(((0:Int)≤(at_hend w.ends who.toNat).tx.sent)∧(((at_hend w.ends who.toNat).tx.sent≤(((at_hend w.ends who.toNat).tx.flight:Nat):Int))∧(((at_hend w.ends who.toNat).tx.queue≤24)∧((at_hend w.ends who.toNat).tx.flight≤1000))))))∧(m≤1000)))∧(∀ r:(Prod TxN Bool),((TxB r.fst)∧((r.fst.flight=(at_hend w.ends who.toNat).tx.flight)∧((r.snd=true)→(m≤24))))→Tt (Tt (((0≤who)∧(who < ((w.ends.length:Nat):Int)))∧(Tt (Tt (Tt (if (r.snd=true) then (True∧(Tt (((0 + m)≤137438953472)∧(Tt (((((RK.u8=RK.u8)∧((0 + m)≤1000))∧True)∧True)∧(Tt ((((at_hend w.ends who.toNat).put + 1)≤137438953472)∧(Tt (((0≤who)∧(who < (((List.length (List.set w.ends who.toNat (EndN.mk r.fst (at_hend w.ends who.toNat).rx (at_hend w.ends who.toNat).ctx (at_hend w.ends who.toNat).crx (at_hend w.ends who.toNat).put (at_hend w.ends who.toNat).got))):Nat):Int)))∧(Tt (Tt (K [(Arg.v true [(ai w.cfg.mode),(ai w.cfg.win),(ai w.cfg.mps),(ai w.cfg.mtu),(ai w.cfg.try_),(AC.own (RC.mk 44 RK.hend (List.set (List.set w.ends who.toNat (EndN.mk r.fst (at_hend w.ends who.toNat).rx (at_hend w.ends who.toNat).ctx (at_hend w.ends who.toNat).crx (at_hend w.ends who.toNat).put (at_hend w.ends who.toNat).got)) who.toNat (EndN.mk (at_hend (List.set w.ends who.toNat (EndN.mk r.fst (at_hend w.ends who.toNat).rx (at_hend w.ends who.toNat).ctx (at_hend w.ends who.toNat).crx (at_hend w.ends who.toNat).put (at_hend w.ends who.toNat).got)) who.toNat).tx (at_hend (List.set w.ends who.toNat (EndN.mk r.fst (at_hend w.ends who.toNat).rx (at_hend w.ends who.toNat).ctx (at_hend w.ends who.toNat).crx (at_hend w.ends who.toNat).put (at_hend w.ends who.toNat).got)) who.toNat).rx (at_hend (List.set w.ends who.toNat (EndN.mk r.fst (at_hend w.ends who.toNat).rx (at_hend w.ends who.toNat).ctx (at_hend w.ends who.toNat).crx (at_hend w.ends who.toNat).put (at_hend w.ends who.toNat).got)) who.toNat).ctx (at_hend (List.set w.ends who.toNat (EndN.mk r.fst (at_hend w.ends who.toNat).rx (at_hend w.ends who.toNat).ctx (at_hend w.ends who.toNat).crx (at_hend w.ends who.toNat).put (at_hend w.ends who.toNat).got)) who.toNat).crx ((at_hend w.ends who.toNat).put + 1) (at_hend (List.set w.ends who.toNat (EndN.mk r.fst (at_hend w.ends who.toNat).rx (at_hend w.ends who.toNat).ctx (at_hend w.ends who.toNat).crx (at_hend w.ends who.toNat).put (at_hend w.ends who.toNat).got)) who.toNat).got)) (RM.mk (dpM false (none)) false 0 false))),(AC.own (RC.mk 64 RK.hnet w.net (RM.mk (dpM false (none)) false 0 false))),(ai w.link)])] [])))))))))))) else (Tt (K [(Arg.v true [(ai w.cfg.mode),(ai w.cfg.win),(ai w.cfg.mps),(ai w.cfg.mtu),(ai w.cfg.try_),(AC.own (RC.mk 44 RK.hend (List.set w.ends who.toNat (EndN.mk r.fst (at_hend w.ends who.toNat).rx (at_hend w.ends who.toNat).ctx (at_hend w.ends who.toNat).crx (at_hend w.ends who.toNat).put (at_hend w.ends who.toNat).got)) (RM.mk (dpM false (none)) false 0 false))),(AC.own (RC.mk 64 RK.hnet w.net (RM.mk (dpM false (none)) false 0 false))),(ai w.link)])] []))))))))))) else (Tt ((((at_hend w.ends who.toNat).ctx.queue≤1000)∧(m≤1000))∧(∀ r:(Prod CtN Bool),((r.fst.queue≤24)∧((r.snd=true)→(m≤24)))→Tt (Tt (((0≤who)∧(who < ((w.ends.length:Nat):Int)))∧(Tt (Tt (Tt (if (r.snd=true) then (True∧(Tt (((0 + m)≤137438953472)∧(Tt (((((RK.u8=RK.u8)∧((0 + m)≤1000))∧True)∧True)∧(Tt ((((at_hend w.ends who.toNat).put + 1)≤137438953472)∧(Tt (((0≤who)∧(who < (((List.length (List.set w.ends who.toNat (EndN.mk (at_hend w.ends who.toNat).tx (at_hend w.ends who.toNat).rx r.fst (at_hend w.ends who.toNat).crx (at_hend w.ends who.toNat).put (at_hend w.ends who.toNat).got))):Nat):Int)))∧(Tt (Tt (K [(Arg.v true [(ai w.cfg.mode),(ai w.cfg.win),(ai w.cfg.mps),(ai w.cfg.mtu),(ai w.cfg.try_),(AC.own (RC.mk 44 RK.hend (List.set (List.set w.ends who.toNat (EndN.mk (at_hend w.ends who.toNat).tx (at_hend w.ends who.toNat).rx r.fst (at_hend w.ends who.toNat).crx (at_hend w.ends who.toNat).put (at_hend w.ends who.toNat).got)) who.toNat (EndN.mk (at_hend (List.set w.ends who.toNat (EndN.mk (at_hend w.ends who.toNat).tx (at_hend w.ends who.toNat).rx r.fst (at_hend w.ends who.toNat).crx (at_hend w.ends who.toNat).put (at_hend w.ends who.toNat).got)) who.toNat).tx (at_hend (List.set w.ends who.toNat (EndN.mk (at_hend w.ends who.toNat).tx (at_hend w.ends who.toNat).rx r.fst (at_hend w.ends who.toNat).crx (at_hend w.ends who.toNat).put (at_hend w.ends who.toNat).got)) who.toNat).rx (at_hend (List.set w.ends who.toNat (EndN.mk (at_hend w.ends who.toNat).tx (at_hend w.ends who.toNat).rx r.fst (at_hend w.ends who.toNat).crx (at_hend w.ends who.toNat).put (at_hend w.ends who.toNat).got)) who.toNat).ctx (at_hend (List.set w.ends who.toNat (EndN.mk (at_hend w.ends who.toNat).tx (at_hend w.ends who.toNat).rx r.fst (at_hend w.ends who.toNat).crx (at_hend w.ends who.toNat).put (at_hend w.ends who.toNat).got)) who.toNat).crx ((at_hend w.ends who.toNat).put + 1) (at_hend (List.set w.ends who.toNat (EndN.mk (at_hend w.ends who.toNat).tx (at_hend w.ends who.toNat).rx r.fst (at_hend w.ends who.toNat).crx (at_hend w.ends who.toNat).put (at_hend w.ends who.toNat).got)) who.toNat).got)) (RM.mk (dpM false (none)) false 0 false))),(AC.own (RC.mk 64 RK.hnet w.net (RM.mk (dpM false (none)) false 0 false))),(ai w.link)])] [])))))))))))) else (Tt (K [(Arg.v true [(ai w.cfg.mode),(ai w.cfg.win),(ai w.cfg.mps),(ai w.cfg.mtu),(ai w.cfg.try_),(AC.own (RC.mk 44 RK.hend (List.set w.ends who.toNat (EndN.mk (at_hend w.ends who.toNat).tx (at_hend w.ends who.toNat).rx r.fst (at_hend w.ends who.toNat).crx (at_hend w.ends who.toNat).put (at_hend w.ends who.toNat).got)) (RM.mk (dpM false (none)) false 0 false))),(AC.own (RC.mk 64 RK.hnet w.net (RM.mk (dpM false (none)) false 0 false))),(ai w.link)])] []))))))))))))) := by
  have hw := hp.1
  have hc := hw.cfg
  have hl1 := hw.el
  have hl2 := hw.nl
  have he0 := hw.en who.toNat
  have hn0 := hw.nn who.toNat
  have he1 := hw.en (1 - who).toNat
  have hn1 := hw.nn (1 - who).toNat
  have hkk := fun a1_ a2_ a3_ a4_ a5_ a6_ a7_ a8_ h_ => hk ⟨⟨a1_, a2_, a3_, a4_, a5_⟩, a6_, a7_, a8_⟩ h_
  dsimp only [rWldNO, wldNO, rS, List.map] at hkk
  try simp (disch := omega) only [wr]
  repeat' first
    | exact rfl
    | exact True.intro
    | with_reducible apply And.intro
    | (intro (hy_ : WldI _ ∧ _)
       obtain ⟨hw_, hc_⟩ := hy_
       try have hm_ := hc_.2
       try have hc_ := hc_.1
       have hl1_ := hw_.el
       have hl2_ := hw_.nl)
    | (with_reducible intro y_ hy_; subst hy_)
    | with_reducible intro y_
    | (refine iteI (fun h => ?_) (fun h => ?_))
    | fail
  all_goals try simp only [cq1, cq2, cq3, cq4, cq5, cq6, cq7, cq8, cq9, cq10, cq11, cq12, cq13, cq14, cq15, cq16, cq17, cq18, cq19] at *
  all_goals try simp (disch := omega) only [hend_self, hnet_self, List.length_set] at *
  all_goals try simp (disch := omega) only [wr] at *
  all_goals first
    | assumption
    | omega
    | exact hi.2.1
    | exact hc_
    | exact hc_.trans hi.2.1
    | (refine WldI.mk ?_ ?_ ?_ ?_ ?_
       all_goals try dsimp only
       all_goals repeat' first | (refine endI_set ?_ ?_) | (refine netI_set ?_ ?_) | (refine lenE_set ?_) | (refine lenN_set ?_)
       all_goals first
         | assumption
         | (apply WldI.cfg; assumption)
         | (apply WldI.en; assumption)
         | (apply WldI.nn; assumption)
         | exact netI_00
         | omega
         | (simp only [EndI, TxB, JInv] at *; omega)
         | grind [EndI, TxB, JInv]
         | skip)
    | (refine hkk _ _ _ _ _ _ _ _ ?_
       refine ⟨?_, ?_⟩
       · (refine WldI.mk ?_ ?_ ?_ ?_ ?_
          all_goals try dsimp only
          all_goals repeat' first | (refine endI_set ?_ ?_) | (refine netI_set ?_ ?_) | (refine lenE_set ?_) | (refine lenN_set ?_)
          all_goals first
            | assumption
            | (apply WldI.cfg; assumption)
            | (apply WldI.en; assumption)
            | (apply WldI.nn; assumption)
            | exact netI_00
            | omega
            | (simp only [EndI, TxB, JInv] at *; omega)
            | grind [EndI, TxB, JInv]
            | skip)
       · first | done | rfl | assumption | exact hi.2.1 | exact hc_ | exact hc_.trans hi.2.1 | exact hc_.trans (by assumption) | grind)
    | exact (wr8_in _).1
    | exact (wr8_in _).2
    | (simp only [EndI, TxB, JInv, LIM, HL] at *; omega)
    | grind [EndI, TxB, JInv, LIM, HL]
theorem w_spec_l9Put : Valid Try.prog 43 c_spec_l9Put :=
  valid_ctr2 (V := V_spec_l9Put) (tysB_ok tys2_ok) ⟨(CallsL.cons w_spec_CrdPut (CallsL.cons w_spec_l6Put (CallsL.nil _))), (IosL.nil _)⟩ mixed 0 3 Try.func43 rfl (by kernel_rfl)
    (fun c hc => by
      obtain rfl := Option.some.inj hc
      exact ⟨trivial, ⟨trivial, ⟨⟨trivial, ⟨⟨trivial, trivial⟩, trivial⟩⟩, ⟨trivial, ⟨⟨trivial, ⟨trivial, trivial⟩⟩, ⟨⟨trivial, ⟨trivial, trivial⟩⟩, ⟨trivial, trivial⟩⟩⟩⟩⟩⟩⟩)
    (fun x K hp hk => ⟨_, by kernel_rfl, vF_spec_l9Put x.1 x.2.1 x.2.2 K hp (fun q h => hk q h)⟩)
theorem vF_spec_l9Send (w:WldN) (who:Int) (K:List Arg→List (List AC)→Prop) (hp:WldI w∧0≤who∧who≤1) (hk:∀ (q:WldN),(WldI q∧q.cfg=w.cfg)→K ([rWldNO.to q]) ([])):((0≤who)∧(who < ((w.ends.length:Nat):Int)))∧((((0:Int)≤(IntKind.i64.wrap ((1:Int) - who)))∧((IntKind.i64.wrap ((1:Int) - who)) < ((w.net.length:Nat):Int)))∧(if (((((at_hnet w.net (Int.toNat (IntKind.i64.wrap ((1:Int) - who)))):Nat):Int) == (30:Int))=true) then (Tt (K [(Arg.v true [(ai w.cfg.mode),(ai w.cfg.win),(ai w.cfg.mps),(ai w.cfg.mtu),(ai w.cfg.try_),(AC.own (RC.mk 44 RK.hend w.ends (RM.mk (dpM false (none)) false 0 false))),(AC.own (RC.mk 64 RK.hnet w.net (RM.mk (dpM false (none)) false 0 false))),(ai w.link)])] [])) else (if ((w.cfg.mode == 1)=true) then (Tt (((CfgP w.cfg)∧((((0:Int)≤(at_hend w.ends who.toNat).tx.acked)∧(((at_hend w.ends who.toNat).tx.acked≤7)∧(((0:Int)≤(at_hend w.ends who.toNat).tx.sent)∧(((at_hend w.ends who.toNat).tx.sent≤(((at_hend w.ends who.toNat).tx.flight:Nat):Int))∧(((at_hend w.ends who.toNat).tx.queue≤24)∧((at_hend w.ends who.toNat).tx.flight≤1000))))))∧((((at_hend w.ends who.toNat).tx.flight:Nat):Int)≤w.cfg.win)))∧(∀ r:(Prod TxN (Prod FrmN Bool)),((TxB r.fst)∧((((r.fst.flight:Nat):Int)≤w.cfg.win)∧(r.snd.fst.data≤1000)))→Tt (Tt (((0≤who)∧(who < ((w.ends.length:Nat):Int)))∧(Tt (Tt (Tt (Tt (if (r.snd.snd=true) then (Tt (((WldI (WldN.mk w.cfg (List.set w.ends who.toNat (EndN.mk r.fst (at_hend w.ends who.toNat).rx (at_hend w.ends who.toNat).ctx (at_hend w.ends who.toNat).crx (at_hend w.ends who.toNat).put (at_hend w.ends who.toNat).got)) w.net w.link))∧((r.snd.fst.data≤1000)∧(((0:Int)≤(IntKind.i64.wrap ((1:Int) - who)))∧((IntKind.i64.wrap ((1:Int) - who))≤(1:Int)))))∧(∀ r1:WldN,((WldI r1)∧(r1.cfg=w.cfg))→Tt (Tt (K [(Arg.v true [(ai r1.cfg.mode),(ai r1.cfg.win),(ai r1.cfg.mps),(ai r1.cfg.mtu),(ai r1.cfg.try_),(AC.own (RC.mk 44 RK.hend r1.ends (RM.mk (dpM false (none)) false 0 false))),(AC.own (RC.mk 64 RK.hnet r1.net (RM.mk (dpM false (none)) false 0 false))),(ai r1.link)])] []))))) else (Tt (K [(Arg.v true [(ai w.cfg.mode),(ai w.cfg.win),(ai w.cfg.mps),(ai w.cfg.mtu),(ai w.cfg.try_),(AC.own (RC.mk 44 RK.hend (List.set w.ends who.toNat (EndN.mk r.fst (at_hend w.ends who.toNat).rx (at_hend w.ends who.toNat).ctx (at_hend w.ends who.toNat).crx (at_hend w.ends who.toNat).put (at_hend w.ends who.toNat).got)) (RM.mk (dpM false (none)) false 0 false))),(AC.own (RC.mk 64 RK.hnet w.net (RM.mk (dpM false (none)) false 0 false))),(ai w.link)])] [])))))))))))) else (Tt (((at_hend w.ends who.toNat).ctx.queue≤1000)∧(∀ r:(Prod CtN (Prod FrmN Bool)),((r.fst.queue≤24)∧(r.snd.fst.data≤1000))→Tt (Tt (((0≤who)∧(who < ((w.ends.length:Nat):Int)))∧(Tt (Tt (Tt (Tt (if (r.snd.snd=true) then (Tt (((WldI (WldN.mk w.cfg (List.set w.ends who.toNat (EndN.mk (at_hend w.ends who.toNat).tx (at_hend w.ends who.toNat).rx r.fst (at_hend w.ends who.toNat).crx (at_hend w.ends who.toNat).put (at_hend w.ends who.toNat).got)) w.net w.link))∧((r.snd.fst.data≤1000)∧(((0:Int)≤(IntKind.i64.wrap ((1:Int) - who)))∧((IntKind.i64.wrap ((1:Int) - who))≤(1:Int)))))∧(∀ r1:WldN,((WldI r1)∧(r1.cfg=w.cfg))→Tt (Tt (K [(Arg.v true [(ai r1.cfg.mode),(ai r1.cfg.win),(ai r1.cfg.mps),(ai r1.cfg.mtu),(ai r1.cfg.try_),(AC.own (RC.mk 44 RK.hend r1.ends (RM.mk (dpM false (none)) false 0 false))),(AC.own (RC.mk 64 RK.hnet r1.net (RM.mk (dpM false (none)) false 0 false))),(ai r1.link)])] []))))) else (Tt (K [(Arg.v true [(ai w.cfg.mode),(ai w.cfg.win),(ai w.cfg.mps),(ai w.cfg.mtu),(ai w.cfg.try_),(AC.own (RC.mk 44 RK.hend (List.set w.ends who.toNat (EndN.mk (at_hend w.ends who.toNat).tx (at_hend w.ends who.toNat).rx r.fst (at_hend w.ends who.toNat).crx (at_hend w.ends who.toNat).put (at_hend w.ends who.toNat).got)) (RM.mk (dpM false (none)) false 0 false))),(AC.own (RC.mk 64 RK.hnet w.net (RM.mk (dpM false (none)) false 0 false))),(ai w.link)])] []))))))))))))))) := by
  have hw := hp.1
  have hc := hw.cfg
  have hl1 := hw.el
  have hl2 := hw.nl
  have he0 := hw.en who.toNat
  have hn0 := hw.nn who.toNat
  have he1 := hw.en (1 - who).toNat
  have hn1 := hw.nn (1 - who).toNat
  have hkk := fun a1_ a2_ a3_ a4_ a5_ a6_ a7_ a8_ h_ => hk ⟨⟨a1_, a2_, a3_, a4_, a5_⟩, a6_, a7_, a8_⟩ h_
  dsimp only [rWldNO, wldNO, rS, List.map] at hkk
  try simp (disch := omega) only [wr]
  repeat' first
    | exact rfl
    | exact True.intro
    | with_reducible apply And.intro
    | (intro (hy_ : WldI _ ∧ _)
       obtain ⟨hw_, hc_⟩ := hy_
       try have hm_ := hc_.2
       try have hc_ := hc_.1
       have hl1_ := hw_.el
       have hl2_ := hw_.nl)
    | (with_reducible intro y_ hy_; subst hy_)
    | with_reducible intro y_
    | (refine iteI (fun h => ?_) (fun h => ?_))
    | fail
  all_goals try simp only [cq1, cq2, cq3, cq4, cq5, cq6, cq7, cq8, cq9, cq10, cq11, cq12, cq13, cq14, cq15, cq16, cq17, cq18, cq19] at *
  all_goals try simp (disch := omega) only [hend_self, hnet_self, List.length_set] at *
  all_goals try simp (disch := omega) only [wr] at *
  all_goals first
    | assumption
    | omega
    | exact hi.2.1
    | exact hc_
    | exact hc_.trans hi.2.1
    | (refine WldI.mk ?_ ?_ ?_ ?_ ?_
       all_goals try dsimp only
       all_goals repeat' first | (refine endI_set ?_ ?_) | (refine netI_set ?_ ?_) | (refine lenE_set ?_) | (refine lenN_set ?_)
       all_goals first
         | assumption
         | (apply WldI.cfg; assumption)
         | (apply WldI.en; assumption)
         | (apply WldI.nn; assumption)
         | exact netI_00
         | omega
         | (simp only [EndI, TxB, JInv] at *; omega)
         | grind [EndI, TxB, JInv]
         | skip)
    | (refine hkk _ _ _ _ _ _ _ _ ?_
       refine ⟨?_, ?_⟩
       · (refine WldI.mk ?_ ?_ ?_ ?_ ?_
          all_goals try dsimp only
          all_goals repeat' first | (refine endI_set ?_ ?_) | (refine netI_set ?_ ?_) | (refine lenE_set ?_) | (refine lenN_set ?_)
          all_goals first
            | assumption
            | (apply WldI.cfg; assumption)
            | (apply WldI.en; assumption)
            | (apply WldI.nn; assumption)
            | exact netI_00
            | omega
            | (simp only [EndI, TxB, JInv] at *; omega)
            | grind [EndI, TxB, JInv]
            | skip)
       · first | done | rfl | assumption | exact hi.2.1 | exact hc_ | exact hc_.trans hi.2.1 | exact hc_.trans (by assumption) | grind)
    | exact (wr8_in _).1
    | exact (wr8_in _).2
    | (simp only [EndI, TxB, JInv, LIM, HL] at *; omega)
    | grind [EndI, TxB, JInv, LIM, HL]
theorem w_spec_l9Send : Valid Try.prog 44 c_spec_l9Send :=
  valid_ctr2 (V := V_spec_l9Send) (tysB_ok tys2_ok) ⟨(CallsL.cons w_spec_CrdSend (CallsL.cons w_spec_l6Send (CallsL.cons w_spec_l9Way (CallsL.nil _)))), (IosL.nil _)⟩ mixed 0 4 Try.func44 rfl (by kernel_rfl)
    (fun c hc => by
      obtain rfl := Option.some.inj hc
      exact ⟨trivial, ⟨trivial, ⟨⟨trivial, ⟨⟨trivial, trivial⟩, trivial⟩⟩, ⟨trivial, ⟨trivial, ⟨⟨trivial, ⟨trivial, trivial⟩⟩, ⟨⟨trivial, ⟨⟨trivial, trivial⟩, trivial⟩⟩, ⟨trivial, trivial⟩⟩⟩⟩⟩⟩⟩⟩)
    (fun x K hp hk => ⟨_, by kernel_rfl, vF_spec_l9Send x.1 x.2 K hp (fun q h => hk q h)⟩)
theorem vF_spec_l9Tick (w:WldN) (who:Int) (K:List Arg→List (List AC)→Prop) (hp:WldI w∧0≤who∧who≤1) (hk:∀ (q:WldN),(WldI q∧q.cfg=w.cfg)→K ([rWldNO.to q]) ([])):((0≤who)∧(who < ((w.ends.length:Nat):Int)))∧(if ((w.cfg.mode != (1:Int))=true) then (Tt (K [(Arg.v true [(ai w.cfg.mode),(ai w.cfg.win),(ai w.cfg.mps),(ai w.cfg.mtu),(ai w.cfg.try_),(AC.own (RC.mk 44 RK.hend w.ends (RM.mk (dpM false (none)) false 0 false))),(AC.own (RC.mk 64 RK.hnet w.net (RM.mk (dpM false (none)) false 0 false))),(ai w.link)])] [])) else (Tt ((((0:Int)≤(at_hend w.ends who.toNat).tx.acked)∧(((at_hend w.ends who.toNat).tx.acked≤7)∧(((0:Int)≤(at_hend w.ends who.toNat).tx.sent)∧(((at_hend w.ends who.toNat).tx.sent≤(((at_hend w.ends who.toNat).tx.flight:Nat):Int))∧(((at_hend w.ends who.toNat).tx.queue≤24)∧((at_hend w.ends who.toNat).tx.flight≤1000))))))∧(∀ r:(Prod TxN (Prod FrmN Bool)),((TxB r.fst)∧((r.fst.flight=(at_hend w.ends who.toNat).tx.flight)∧(r.snd.fst.data=0)))→Tt (((0≤who)∧(who < ((w.ends.length:Nat):Int)))∧(if (r.snd.snd=true) then (Tt (((WldI (WldN.mk w.cfg (List.set w.ends who.toNat (EndN.mk r.fst (at_hend w.ends who.toNat).rx (at_hend w.ends who.toNat).ctx (at_hend w.ends who.toNat).crx (at_hend w.ends who.toNat).put (at_hend w.ends who.toNat).got)) w.net w.link))∧((r.snd.fst.data≤1000)∧(((0:Int)≤(IntKind.i64.wrap ((1:Int) - who)))∧((IntKind.i64.wrap ((1:Int) - who))≤(1:Int)))))∧(∀ r1:WldN,((WldI r1)∧(r1.cfg=w.cfg))→Tt (Tt (K [(Arg.v true [(ai r1.cfg.mode),(ai r1.cfg.win),(ai r1.cfg.mps),(ai r1.cfg.mtu),(ai r1.cfg.try_),(AC.own (RC.mk 44 RK.hend r1.ends (RM.mk (dpM false (none)) false 0 false))),(AC.own (RC.mk 64 RK.hnet r1.net (RM.mk (dpM false (none)) false 0 false))),(ai r1.link)])] []))))) else (Tt (K [(Arg.v true [(ai w.cfg.mode),(ai w.cfg.win),(ai w.cfg.mps),(ai w.cfg.mtu),(ai w.cfg.try_),(AC.own (RC.mk 44 RK.hend (List.set w.ends who.toNat (EndN.mk r.fst (at_hend w.ends who.toNat).rx (at_hend w.ends who.toNat).ctx (at_hend w.ends who.toNat).crx (at_hend w.ends who.toNat).put (at_hend w.ends who.toNat).got)) (RM.mk (dpM false (none)) false 0 false))),(AC.own (RC.mk 64 RK.hnet w.net (RM.mk (dpM false (none)) false 0 false))),(ai w.link)])] [])))))))) := by
  have hw := hp.1
  have hc := hw.cfg
  have hl1 := hw.el
  have hl2 := hw.nl
  have he0 := hw.en who.toNat
  have hn0 := hw.nn who.toNat
  have he1 := hw.en (1 - who).toNat
  have hn1 := hw.nn (1 - who).toNat
  have hkk := fun a1_ a2_ a3_ a4_ a5_ a6_ a7_ a8_ h_ => hk ⟨⟨a1_, a2_, a3_, a4_, a5_⟩, a6_, a7_, a8_⟩ h_
  dsimp only [rWldNO, wldNO, rS, List.map] at hkk
  try simp (disch := omega) only [wr]
  repeat' first
    | exact rfl
    | exact True.intro
    | with_reducible apply And.intro
    | (intro (hy_ : WldI _ ∧ _)
       obtain ⟨hw_, hc_⟩ := hy_
       try have hm_ := hc_.2
       try have hc_ := hc_.1
       have hl1_ := hw_.el
       have hl2_ := hw_.nl)
    | (with_reducible intro y_ hy_; subst hy_)
    | with_reducible intro y_
    | (refine iteI (fun h => ?_) (fun h => ?_))
    | fail
  all_goals try simp only [cq1, cq2, cq3, cq4, cq5, cq6, cq7, cq8, cq9, cq10, cq11, cq12, cq13, cq14, cq15, cq16, cq17, cq18, cq19] at *
  all_goals try simp (disch := omega) only [hend_self, hnet_self, List.length_set] at *
  all_goals try simp (disch := omega) only [wr] at *
  all_goals first
    | assumption
    | omega
    | exact hi.2.1
    | exact hc_
    | exact hc_.trans hi.2.1
    | (refine WldI.mk ?_ ?_ ?_ ?_ ?_
       all_goals try dsimp only
       all_goals repeat' first | (refine endI_set ?_ ?_) | (refine netI_set ?_ ?_) | (refine lenE_set ?_) | (refine lenN_set ?_)
       all_goals first
         | assumption
         | (apply WldI.cfg; assumption)
         | (apply WldI.en; assumption)
         | (apply WldI.nn; assumption)
         | exact netI_00
         | omega
         | (simp only [EndI, TxB, JInv] at *; omega)
         | grind [EndI, TxB, JInv]
         | skip)
    | (refine hkk _ _ _ _ _ _ _ _ ?_
       refine ⟨?_, ?_⟩
       · (refine WldI.mk ?_ ?_ ?_ ?_ ?_
          all_goals try dsimp only
          all_goals repeat' first | (refine endI_set ?_ ?_) | (refine netI_set ?_ ?_) | (refine lenE_set ?_) | (refine lenN_set ?_)
          all_goals first
            | assumption
            | (apply WldI.cfg; assumption)
            | (apply WldI.en; assumption)
            | (apply WldI.nn; assumption)
            | exact netI_00
            | omega
            | (simp only [EndI, TxB, JInv] at *; omega)
            | grind [EndI, TxB, JInv]
            | skip)
       · first | done | rfl | assumption | exact hi.2.1 | exact hc_ | exact hc_.trans hi.2.1 | exact hc_.trans (by assumption) | grind)
    | exact (wr8_in _).1
    | exact (wr8_in _).2
    | (simp only [EndI, TxB, JInv, LIM, HL] at *; omega)
    | grind [EndI, TxB, JInv, LIM, HL]
theorem w_spec_l9Tick : Valid Try.prog 45 c_spec_l9Tick :=
  valid_ctr2 (V := V_spec_l9Tick) (tysB_ok tys2_ok) ⟨(CallsL.cons w_spec_l6Tick (CallsL.cons w_spec_l9Way (CallsL.nil _))), (IosL.nil _)⟩ mixed 0 5 Try.func45 rfl (by kernel_rfl)
    (fun c hc => by
      obtain rfl := Option.some.inj hc
      exact ⟨trivial, ⟨trivial, ⟨⟨trivial, ⟨⟨trivial, trivial⟩, trivial⟩⟩, ⟨trivial, ⟨trivial, ⟨⟨trivial, ⟨⟨trivial, trivial⟩, trivial⟩⟩, ⟨trivial, trivial⟩⟩⟩⟩⟩⟩⟩)
    (fun x K hp hk => ⟨_, by kernel_rfl, vF_spec_l9Tick x.1 x.2 K hp (fun q h => hk q h)⟩)
theorem vF_spec_l9Say (w:WldN) (e:EvN) (K:List Arg→List (List AC)→Prop) (hp:WldI w∧0≤e.who∧e.who≤1) (hk:∀ (q:WldN),(WldI q∧q.cfg=w.cfg)→K ([rWldNO.to q]) ([])):((0≤e.who)∧(e.who < ((w.ends.length:Nat):Int)))∧(if ((e.kind == 4)=true) then (if ((w.cfg.mode == 1)=true) then (Tt (((((at_hend w.ends e.who.toNat).rx.len=0)∧((at_hend w.ends e.who.toNat).rx.got=0))∨(((1:Int)≤(at_hend w.ends e.who.toNat).rx.len)∧(((at_hend w.ends e.who.toNat).rx.len≤255)∧((at_hend w.ends e.who.toNat).rx.got≤255))))∧(∀ r:(Prod RxN Nat),((JInv r.fst.len r.fst.got)∧(r.snd≤1))→Tt (((0≤e.who)∧(e.who < ((w.ends.length:Nat):Int)))∧(Tt (((WldI (WldN.mk w.cfg (List.set w.ends e.who.toNat (EndN.mk (at_hend w.ends e.who.toNat).tx r.fst (at_hend w.ends e.who.toNat).ctx (at_hend w.ends e.who.toNat).crx (at_hend w.ends e.who.toNat).put (at_hend w.ends e.who.toNat).got)) w.net w.link))∧((r.snd≤1000)∧(((0:Int)≤(IntKind.i64.wrap ((1:Int) - e.who)))∧((IntKind.i64.wrap ((1:Int) - e.who))≤(1:Int)))))∧(∀ r1:WldN,((WldI r1)∧(r1.cfg=w.cfg))→Tt (Tt (K [(Arg.v true [(ai r1.cfg.mode),(ai r1.cfg.win),(ai r1.cfg.mps),(ai r1.cfg.mtu),(ai r1.cfg.try_),(AC.own (RC.mk 44 RK.hend r1.ends (RM.mk (dpM false (none)) false 0 false))),(AC.own (RC.mk 64 RK.hnet r1.net (RM.mk (dpM false (none)) false 0 false))),(ai r1.link)])] []))))))))) else (if ((e.kind == 5)=true) then (if ((w.cfg.mode == 1)=true) then (if ((!(at_hend w.ends e.who.toNat).rx.dead)=true) then (Tt (True∧(∀ r:FrmN,(r.data=0)→Tt (Tt (Tt (((WldI (WldN.mk w.cfg w.ends w.net w.link))∧((r.data≤1000)∧(((0:Int)≤(IntKind.i64.wrap ((1:Int) - e.who)))∧((IntKind.i64.wrap ((1:Int) - e.who))≤(1:Int)))))∧(∀ r1:WldN,((WldI r1)∧(r1.cfg=w.cfg))→Tt (Tt (Tt (Tt (K [(Arg.v true [(ai r1.cfg.mode),(ai r1.cfg.win),(ai r1.cfg.mps),(ai r1.cfg.mtu),(ai r1.cfg.try_),(AC.own (RC.mk 44 RK.hend r1.ends (RM.mk (dpM false (none)) false 0 false))),(AC.own (RC.mk 64 RK.hnet r1.net (RM.mk (dpM false (none)) false 0 false))),(ai r1.link)])] []))))))))))) else (if ((e.kind == 6)=true) then (if ((w.cfg.mode == 2)=true) then ((((0:Int)≤(IntKind.i64.wrap ((1:Int) - e.who)))∧((IntKind.i64.wrap ((1:Int) - e.who)) < ((w.net.length:Nat):Int)))∧(if ((decide ((((at_hnet w.net (Int.toNat (IntKind.i64.wrap ((1:Int) - e.who)))):Nat):Int) < (30:Int)))=true) then (Tt (((((at_hend w.ends e.who.toNat).crx.len=0)∧((at_hend w.ends e.who.toNat).crx.got=0))∨(((1:Int)≤(at_hend w.ends e.who.toNat).crx.len)∧(((at_hend w.ends e.who.toNat).crx.len≤255)∧((at_hend w.ends e.who.toNat).crx.got≤255))))∧(∀ r:(Prod CrN (Prod FrmN Bool)),((JInv r.fst.len r.fst.got)∧(r.snd.fst.data=0))→Tt (((0≤e.who)∧(e.who < ((w.ends.length:Nat):Int)))∧(if (r.snd.snd=true) then (Tt (((WldI (WldN.mk w.cfg (List.set w.ends e.who.toNat (EndN.mk (at_hend w.ends e.who.toNat).tx (at_hend w.ends e.who.toNat).rx (at_hend w.ends e.who.toNat).ctx r.fst (at_hend w.ends e.who.toNat).put (at_hend w.ends e.who.toNat).got)) w.net w.link))∧((r.snd.fst.data≤1000)∧(((0:Int)≤(IntKind.i64.wrap ((1:Int) - e.who)))∧((IntKind.i64.wrap ((1:Int) - e.who))≤(1:Int)))))∧(∀ r1:WldN,((WldI r1)∧(r1.cfg=w.cfg))→Tt (Tt (K [(Arg.v true [(ai r1.cfg.mode),(ai r1.cfg.win),(ai r1.cfg.mps),(ai r1.cfg.mtu),(ai r1.cfg.try_),(AC.own (RC.mk 44 RK.hend r1.ends (RM.mk (dpM false (none)) false 0 false))),(AC.own (RC.mk 64 RK.hnet r1.net (RM.mk (dpM false (none)) false 0 false))),(ai r1.link)])] []))))) else (Tt (K [(Arg.v true [(ai w.cfg.mode),(ai w.cfg.win),(ai w.cfg.mps),(ai w.cfg.mtu),(ai w.cfg.try_),(AC.own (RC.mk 44 RK.hend (List.set w.ends e.who.toNat (EndN.mk (at_hend w.ends e.who.toNat).tx (at_hend w.ends e.who.toNat).rx (at_hend w.ends e.who.toNat).ctx r.fst (at_hend w.ends e.who.toNat).put (at_hend w.ends e.who.toNat).got)) (RM.mk (dpM false (none)) false 0 false))),(AC.own (RC.mk 64 RK.hnet w.net (RM.mk (dpM false (none)) false 0 false))),(ai w.link)])] []))))))) else (Tt (K [(Arg.v true [(ai w.cfg.mode),(ai w.cfg.win),(ai w.cfg.mps),(ai w.cfg.mtu),(ai w.cfg.try_),(AC.own (RC.mk 44 RK.hend w.ends (RM.mk (dpM false (none)) false 0 false))),(AC.own (RC.mk 64 RK.hnet w.net (RM.mk (dpM false (none)) false 0 false))),(ai w.link)])] [])))) else (Tt (K [(Arg.v true [(ai w.cfg.mode),(ai w.cfg.win),(ai w.cfg.mps),(ai w.cfg.mtu),(ai w.cfg.try_),(AC.own (RC.mk 44 RK.hend w.ends (RM.mk (dpM false (none)) false 0 false))),(AC.own (RC.mk 64 RK.hnet w.net (RM.mk (dpM false (none)) false 0 false))),(ai w.link)])] []))) else (Tt (K [(Arg.v true [(ai w.cfg.mode),(ai w.cfg.win),(ai w.cfg.mps),(ai w.cfg.mtu),(ai w.cfg.try_),(AC.own (RC.mk 44 RK.hend w.ends (RM.mk (dpM false (none)) false 0 false))),(AC.own (RC.mk 64 RK.hnet w.net (RM.mk (dpM false (none)) false 0 false))),(ai w.link)])] [])))) else (if ((e.kind == 6)=true) then (if ((w.cfg.mode == 2)=true) then ((((0:Int)≤(IntKind.i64.wrap ((1:Int) - e.who)))∧((IntKind.i64.wrap ((1:Int) - e.who)) < ((w.net.length:Nat):Int)))∧(if ((decide ((((at_hnet w.net (Int.toNat (IntKind.i64.wrap ((1:Int) - e.who)))):Nat):Int) < (30:Int)))=true) then (Tt (((((at_hend w.ends e.who.toNat).crx.len=0)∧((at_hend w.ends e.who.toNat).crx.got=0))∨(((1:Int)≤(at_hend w.ends e.who.toNat).crx.len)∧(((at_hend w.ends e.who.toNat).crx.len≤255)∧((at_hend w.ends e.who.toNat).crx.got≤255))))∧(∀ r:(Prod CrN (Prod FrmN Bool)),((JInv r.fst.len r.fst.got)∧(r.snd.fst.data=0))→Tt (((0≤e.who)∧(e.who < ((w.ends.length:Nat):Int)))∧(if (r.snd.snd=true) then (Tt (((WldI (WldN.mk w.cfg (List.set w.ends e.who.toNat (EndN.mk (at_hend w.ends e.who.toNat).tx (at_hend w.ends e.who.toNat).rx (at_hend w.ends e.who.toNat).ctx r.fst (at_hend w.ends e.who.toNat).put (at_hend w.ends e.who.toNat).got)) w.net w.link))∧((r.snd.fst.data≤1000)∧(((0:Int)≤(IntKind.i64.wrap ((1:Int) - e.who)))∧((IntKind.i64.wrap ((1:Int) - e.who))≤(1:Int)))))∧(∀ r1:WldN,((WldI r1)∧(r1.cfg=w.cfg))→Tt (Tt (K [(Arg.v true [(ai r1.cfg.mode),(ai r1.cfg.win),(ai r1.cfg.mps),(ai r1.cfg.mtu),(ai r1.cfg.try_),(AC.own (RC.mk 44 RK.hend r1.ends (RM.mk (dpM false (none)) false 0 false))),(AC.own (RC.mk 64 RK.hnet r1.net (RM.mk (dpM false (none)) false 0 false))),(ai r1.link)])] []))))) else (Tt (K [(Arg.v true [(ai w.cfg.mode),(ai w.cfg.win),(ai w.cfg.mps),(ai w.cfg.mtu),(ai w.cfg.try_),(AC.own (RC.mk 44 RK.hend (List.set w.ends e.who.toNat (EndN.mk (at_hend w.ends e.who.toNat).tx (at_hend w.ends e.who.toNat).rx (at_hend w.ends e.who.toNat).ctx r.fst (at_hend w.ends e.who.toNat).put (at_hend w.ends e.who.toNat).got)) (RM.mk (dpM false (none)) false 0 false))),(AC.own (RC.mk 64 RK.hnet w.net (RM.mk (dpM false (none)) false 0 false))),(ai w.link)])] []))))))) else (Tt (K [(Arg.v true [(ai w.cfg.mode),(ai w.cfg.win),(ai w.cfg.mps),(ai w.cfg.mtu),(ai w.cfg.try_),(AC.own (RC.mk 44 RK.hend w.ends (RM.mk (dpM false (none)) false 0 false))),(AC.own (RC.mk 64 RK.hnet w.net (RM.mk (dpM false (none)) false 0 false))),(ai w.link)])] [])))) else (Tt (K [(Arg.v true [(ai w.cfg.mode),(ai w.cfg.win),(ai w.cfg.mps),(ai w.cfg.mtu),(ai w.cfg.try_),(AC.own (RC.mk 44 RK.hend w.ends (RM.mk (dpM false (none)) false 0 false))),(AC.own (RC.mk 64 RK.hnet w.net (RM.mk (dpM false (none)) false 0 false))),(ai w.link)])] []))) else (Tt (K [(Arg.v true [(ai w.cfg.mode),(ai w.cfg.win),(ai w.cfg.mps),(ai w.cfg.mtu),(ai w.cfg.try_),(AC.own (RC.mk 44 RK.hend w.ends (RM.mk (dpM false (none)) false 0 false))),(AC.own (RC.mk 64 RK.hnet w.net (RM.mk (dpM false (none)) false 0 false))),(ai w.link)])] [])))) else (if ((e.kind == 6)=true) then (if ((w.cfg.mode == 2)=true) then ((((0:Int)≤(IntKind.i64.wrap ((1:Int) - e.who)))∧((IntKind.i64.wrap ((1:Int) - e.who)) < ((w.net.length:Nat):Int)))∧(if ((decide ((((at_hnet w.net (Int.toNat (IntKind.i64.wrap ((1:Int) - e.who)))):Nat):Int) < (30:Int)))=true) then (Tt (((((at_hend w.ends e.who.toNat).crx.len=0)∧((at_hend w.ends e.who.toNat).crx.got=0))∨(((1:Int)≤(at_hend w.ends e.who.toNat).crx.len)∧(((at_hend w.ends e.who.toNat).crx.len≤255)∧((at_hend w.ends e.who.toNat).crx.got≤255))))∧(∀ r:(Prod CrN (Prod FrmN Bool)),((JInv r.fst.len r.fst.got)∧(r.snd.fst.data=0))→Tt (((0≤e.who)∧(e.who < ((w.ends.length:Nat):Int)))∧(if (r.snd.snd=true) then (Tt (((WldI (WldN.mk w.cfg (List.set w.ends e.who.toNat (EndN.mk (at_hend w.ends e.who.toNat).tx (at_hend w.ends e.who.toNat).rx (at_hend w.ends e.who.toNat).ctx r.fst (at_hend w.ends e.who.toNat).put (at_hend w.ends e.who.toNat).got)) w.net w.link))∧((r.snd.fst.data≤1000)∧(((0:Int)≤(IntKind.i64.wrap ((1:Int) - e.who)))∧((IntKind.i64.wrap ((1:Int) - e.who))≤(1:Int)))))∧(∀ r1:WldN,((WldI r1)∧(r1.cfg=w.cfg))→Tt (Tt (K [(Arg.v true [(ai r1.cfg.mode),(ai r1.cfg.win),(ai r1.cfg.mps),(ai r1.cfg.mtu),(ai r1.cfg.try_),(AC.own (RC.mk 44 RK.hend r1.ends (RM.mk (dpM false (none)) false 0 false))),(AC.own (RC.mk 64 RK.hnet r1.net (RM.mk (dpM false (none)) false 0 false))),(ai r1.link)])] []))))) else (Tt (K [(Arg.v true [(ai w.cfg.mode),(ai w.cfg.win),(ai w.cfg.mps),(ai w.cfg.mtu),(ai w.cfg.try_),(AC.own (RC.mk 44 RK.hend (List.set w.ends e.who.toNat (EndN.mk (at_hend w.ends e.who.toNat).tx (at_hend w.ends e.who.toNat).rx (at_hend w.ends e.who.toNat).ctx r.fst (at_hend w.ends e.who.toNat).put (at_hend w.ends e.who.toNat).got)) (RM.mk (dpM false (none)) false 0 false))),(AC.own (RC.mk 64 RK.hnet w.net (RM.mk (dpM false (none)) false 0 false))),(ai w.link)])] []))))))) else (Tt (K [(Arg.v true [(ai w.cfg.mode),(ai w.cfg.win),(ai w.cfg.mps),(ai w.cfg.mtu),(ai w.cfg.try_),(AC.own (RC.mk 44 RK.hend w.ends (RM.mk (dpM false (none)) false 0 false))),(AC.own (RC.mk 64 RK.hnet w.net (RM.mk (dpM false (none)) false 0 false))),(ai w.link)])] [])))) else (Tt (K [(Arg.v true [(ai w.cfg.mode),(ai w.cfg.win),(ai w.cfg.mps),(ai w.cfg.mtu),(ai w.cfg.try_),(AC.own (RC.mk 44 RK.hend w.ends (RM.mk (dpM false (none)) false 0 false))),(AC.own (RC.mk 64 RK.hnet w.net (RM.mk (dpM false (none)) false 0 false))),(ai w.link)])] []))) else (Tt (K [(Arg.v true [(ai w.cfg.mode),(ai w.cfg.win),(ai w.cfg.mps),(ai w.cfg.mtu),(ai w.cfg.try_),(AC.own (RC.mk 44 RK.hend w.ends (RM.mk (dpM false (none)) false 0 false))),(AC.own (RC.mk 64 RK.hnet w.net (RM.mk (dpM false (none)) false 0 false))),(ai w.link)])] []))))) else (if ((e.kind == 5)=true) then (if ((w.cfg.mode == 1)=true) then (if ((!(at_hend w.ends e.who.toNat).rx.dead)=true) then (Tt (True∧(∀ r:FrmN,(r.data=0)→Tt (Tt (Tt (((WldI (WldN.mk w.cfg w.ends w.net w.link))∧((r.data≤1000)∧(((0:Int)≤(IntKind.i64.wrap ((1:Int) - e.who)))∧((IntKind.i64.wrap ((1:Int) - e.who))≤(1:Int)))))∧(∀ r1:WldN,((WldI r1)∧(r1.cfg=w.cfg))→Tt (Tt (Tt (Tt (K [(Arg.v true [(ai r1.cfg.mode),(ai r1.cfg.win),(ai r1.cfg.mps),(ai r1.cfg.mtu),(ai r1.cfg.try_),(AC.own (RC.mk 44 RK.hend r1.ends (RM.mk (dpM false (none)) false 0 false))),(AC.own (RC.mk 64 RK.hnet r1.net (RM.mk (dpM false (none)) false 0 false))),(ai r1.link)])] []))))))))))) else (if ((e.kind == 6)=true) then (if ((w.cfg.mode == 2)=true) then ((((0:Int)≤(IntKind.i64.wrap ((1:Int) - e.who)))∧((IntKind.i64.wrap ((1:Int) - e.who)) < ((w.net.length:Nat):Int)))∧(if ((decide ((((at_hnet w.net (Int.toNat (IntKind.i64.wrap ((1:Int) - e.who)))):Nat):Int) < (30:Int)))=true) then (Tt (((((at_hend w.ends e.who.toNat).crx.len=0)∧((at_hend w.ends e.who.toNat).crx.got=0))∨(((1:Int)≤(at_hend w.ends e.who.toNat).crx.len)∧(((at_hend w.ends e.who.toNat).crx.len≤255)∧((at_hend w.ends e.who.toNat).crx.got≤255))))∧(∀ r:(Prod CrN (Prod FrmN Bool)),((JInv r.fst.len r.fst.got)∧(r.snd.fst.data=0))→Tt (((0≤e.who)∧(e.who < ((w.ends.length:Nat):Int)))∧(if (r.snd.snd=true) then (Tt (((WldI (WldN.mk w.cfg (List.set w.ends e.who.toNat (EndN.mk (at_hend w.ends e.who.toNat).tx (at_hend w.ends e.who.toNat).rx (at_hend w.ends e.who.toNat).ctx r.fst (at_hend w.ends e.who.toNat).put (at_hend w.ends e.who.toNat).got)) w.net w.link))∧((r.snd.fst.data≤1000)∧(((0:Int)≤(IntKind.i64.wrap ((1:Int) - e.who)))∧((IntKind.i64.wrap ((1:Int) - e.who))≤(1:Int)))))∧(∀ r1:WldN,((WldI r1)∧(r1.cfg=w.cfg))→Tt (Tt (K [(Arg.v true [(ai r1.cfg.mode),(ai r1.cfg.win),(ai r1.cfg.mps),(ai r1.cfg.mtu),(ai r1.cfg.try_),(AC.own (RC.mk 44 RK.hend r1.ends (RM.mk (dpM false (none)) false 0 false))),(AC.own (RC.mk 64 RK.hnet r1.net (RM.mk (dpM false (none)) false 0 false))),(ai r1.link)])] []))))) else (Tt (K [(Arg.v true [(ai w.cfg.mode),(ai w.cfg.win),(ai w.cfg.mps),(ai w.cfg.mtu),(ai w.cfg.try_),(AC.own (RC.mk 44 RK.hend (List.set w.ends e.who.toNat (EndN.mk (at_hend w.ends e.who.toNat).tx (at_hend w.ends e.who.toNat).rx (at_hend w.ends e.who.toNat).ctx r.fst (at_hend w.ends e.who.toNat).put (at_hend w.ends e.who.toNat).got)) (RM.mk (dpM false (none)) false 0 false))),(AC.own (RC.mk 64 RK.hnet w.net (RM.mk (dpM false (none)) false 0 false))),(ai w.link)])] []))))))) else (Tt (K [(Arg.v true [(ai w.cfg.mode),(ai w.cfg.win),(ai w.cfg.mps),(ai w.cfg.mtu),(ai w.cfg.try_),(AC.own (RC.mk 44 RK.hend w.ends (RM.mk (dpM false (none)) false 0 false))),(AC.own (RC.mk 64 RK.hnet w.net (RM.mk (dpM false (none)) false 0 false))),(ai w.link)])] [])))) else (Tt (K [(Arg.v true [(ai w.cfg.mode),(ai w.cfg.win),(ai w.cfg.mps),(ai w.cfg.mtu),(ai w.cfg.try_),(AC.own (RC.mk 44 RK.hend w.ends (RM.mk (dpM false (none)) false 0 false))),(AC.own (RC.mk 64 RK.hnet w.net (RM.mk (dpM false (none)) false 0 false))),(ai w.link)])] []))) else (Tt (K [(Arg.v true [(ai w.cfg.mode),(ai w.cfg.win),(ai w.cfg.mps),(ai w.cfg.mtu),(ai w.cfg.try_),(AC.own (RC.mk 44 RK.hend w.ends (RM.mk (dpM false (none)) false 0 false))),(AC.own (RC.mk 64 RK.hnet w.net (RM.mk (dpM false (none)) false 0 false))),(ai w.link)])] [])))) else (if ((e.kind == 6)=true) then (if ((w.cfg.mode == 2)=true) then ((((0:Int)≤(IntKind.i64.wrap ((1:Int) - e.who)))∧((IntKind.i64.wrap ((1:Int) - e.who)) < ((w.net.length:Nat):Int)))∧(if ((decide ((((at_hnet w.net (Int.toNat (IntKind.i64.wrap ((1:Int) - e.who)))):Nat):Int) < (30:Int)))=true) then (Tt (((((at_hend w.ends e.who.toNat).crx.len=0)∧((at_hend w.ends e.who.toNat).crx.got=0))∨(((1:Int)≤(at_hend w.ends e.who.toNat).crx.len)∧(((at_hend w.ends e.who.toNat).crx.len≤255)∧((at_hend w.ends e.who.toNat).crx.got≤255))))∧(∀ r:(Prod CrN (Prod FrmN Bool)),((JInv r.fst.len r.fst.got)∧(r.snd.fst.data=0))→Tt (((0≤e.who)∧(e.who < ((w.ends.length:Nat):Int)))∧(if (r.snd.snd=true) then (Tt (((WldI (WldN.mk w.cfg (List.set w.ends e.who.toNat (EndN.mk (at_hend w.ends e.who.toNat).tx (at_hend w.ends e.who.toNat).rx (at_hend w.ends e.who.toNat).ctx r.fst (at_hend w.ends e.who.toNat).put (at_hend w.ends e.who.toNat).got)) w.net w.link))∧((r.snd.fst.data≤1000)∧(((0:Int)≤(IntKind.i64.wrap ((1:Int) - e.who)))∧((IntKind.i64.wrap ((1:Int) - e.who))≤(1:Int)))))∧(∀ r1:WldN,((WldI r1)∧(r1.cfg=w.cfg))→Tt (Tt (K [(Arg.v true [(ai r1.cfg.mode),(ai r1.cfg.win),(ai r1.cfg.mps),(ai r1.cfg.mtu),(ai r1.cfg.try_),(AC.own (RC.mk 44 RK.hend r1.ends (RM.mk (dpM false (none)) false 0 false))),(AC.own (RC.mk 64 RK.hnet r1.net (RM.mk (dpM false (none)) false 0 false))),(ai r1.link)])] []))))) else (Tt (K [(Arg.v true [(ai w.cfg.mode),(ai w.cfg.win),(ai w.cfg.mps),(ai w.cfg.mtu),(ai w.cfg.try_),(AC.own (RC.mk 44 RK.hend (List.set w.ends e.who.toNat (EndN.mk (at_hend w.ends e.who.toNat).tx (at_hend w.ends e.who.toNat).rx (at_hend w.ends e.who.toNat).ctx r.fst (at_hend w.ends e.who.toNat).put (at_hend w.ends e.who.toNat).got)) (RM.mk (dpM false (none)) false 0 false))),(AC.own (RC.mk 64 RK.hnet w.net (RM.mk (dpM false (none)) false 0 false))),(ai w.link)])] []))))))) else (Tt (K [(Arg.v true [(ai w.cfg.mode),(ai w.cfg.win),(ai w.cfg.mps),(ai w.cfg.mtu),(ai w.cfg.try_),(AC.own (RC.mk 44 RK.hend w.ends (RM.mk (dpM false (none)) false 0 false))),(AC.own (RC.mk 64 RK.hnet w.net (RM.mk (dpM false (none)) false 0 false))),(ai w.link)])] [])))) else (Tt (K [(Arg.v true [(ai w.cfg.mode),(ai w.cfg.win),(ai w.cfg.mps),(ai w.cfg.mtu),(ai w.cfg.try_),(AC.own (RC.mk 44 RK.hend w.ends (RM.mk (dpM false (none)) false 0 false))),(AC.own (RC.mk 64 RK.hnet w.net (RM.mk (dpM false (none)) false 0 false))),(ai w.link)])] []))) else (Tt (K [(Arg.v true [(ai w.cfg.mode),(ai w.cfg.win),(ai w.cfg.mps),(ai w.cfg.mtu),(ai w.cfg.try_),(AC.own (RC.mk 44 RK.hend w.ends (RM.mk (dpM false (none)) false 0 false))),(AC.own (RC.mk 64 RK.hnet w.net (RM.mk (dpM false (none)) false 0 false))),(ai w.link)])] [])))) else (if ((e.kind == 6)=true) then (if ((w.cfg.mode == 2)=true) then ((((0:Int)≤(IntKind.i64.wrap ((1:Int) - e.who)))∧((IntKind.i64.wrap ((1:Int) - e.who)) < ((w.net.length:Nat):Int)))∧(if ((decide ((((at_hnet w.net (Int.toNat (IntKind.i64.wrap ((1:Int) - e.who)))):Nat):Int) < (30:Int)))=true) then (Tt (((((at_hend w.ends e.who.toNat).crx.len=0)∧((at_hend w.ends e.who.toNat).crx.got=0))∨(((1:Int)≤(at_hend w.ends e.who.toNat).crx.len)∧(((at_hend w.ends e.who.toNat).crx.len≤255)∧((at_hend w.ends e.who.toNat).crx.got≤255))))∧(∀ r:(Prod CrN (Prod FrmN Bool)),((JInv r.fst.len r.fst.got)∧(r.snd.fst.data=0))→Tt (((0≤e.who)∧(e.who < ((w.ends.length:Nat):Int)))∧(if (r.snd.snd=true) then (Tt (((WldI (WldN.mk w.cfg (List.set w.ends e.who.toNat (EndN.mk (at_hend w.ends e.who.toNat).tx (at_hend w.ends e.who.toNat).rx (at_hend w.ends e.who.toNat).ctx r.fst (at_hend w.ends e.who.toNat).put (at_hend w.ends e.who.toNat).got)) w.net w.link))∧((r.snd.fst.data≤1000)∧(((0:Int)≤(IntKind.i64.wrap ((1:Int) - e.who)))∧((IntKind.i64.wrap ((1:Int) - e.who))≤(1:Int)))))∧(∀ r1:WldN,((WldI r1)∧(r1.cfg=w.cfg))→Tt (Tt (K [(Arg.v true [(ai r1.cfg.mode),(ai r1.cfg.win),(ai r1.cfg.mps),(ai r1.cfg.mtu),(ai r1.cfg.try_),(AC.own (RC.mk 44 RK.hend r1.ends (RM.mk (dpM false (none)) false 0 false))),(AC.own (RC.mk 64 RK.hnet r1.net (RM.mk (dpM false (none)) false 0 false))),(ai r1.link)])] []))))) else (Tt (K [(Arg.v true [(ai w.cfg.mode),(ai w.cfg.win),(ai w.cfg.mps),(ai w.cfg.mtu),(ai w.cfg.try_),(AC.own (RC.mk 44 RK.hend (List.set w.ends e.who.toNat (EndN.mk (at_hend w.ends e.who.toNat).tx (at_hend w.ends e.who.toNat).rx (at_hend w.ends e.who.toNat).ctx r.fst (at_hend w.ends e.who.toNat).put (at_hend w.ends e.who.toNat).got)) (RM.mk (dpM false (none)) false 0 false))),(AC.own (RC.mk 64 RK.hnet w.net (RM.mk (dpM false (none)) false 0 false))),(ai w.link)])] []))))))) else (Tt (K [(Arg.v true [(ai w.cfg.mode),(ai w.cfg.win),(ai w.cfg.mps),(ai w.cfg.mtu),(ai w.cfg.try_),(AC.own (RC.mk 44 RK.hend w.ends (RM.mk (dpM false (none)) false 0 false))),(AC.own (RC.mk 64 RK.hnet w.net (RM.mk (dpM false (none)) false 0 false))),(ai w.link)])] [])))) else (Tt (K [(Arg.v true [(ai w.cfg.mode),(ai w.cfg.win),(ai w.cfg.mps),(ai w.cfg.mtu),(ai w.cfg.try_),(AC.own (RC.mk 44 RK.hend w.ends (RM.mk (dpM false (none)) false 0 false))),(AC.own (RC.mk 64 RK.hnet w.net (RM.mk (dpM false (none)) false 0 false))),(ai w.link)])] []))) else (Tt (K [(Arg.v true [(ai w.cfg.mode),(ai w.cfg.win),(ai w.cfg.mps),(ai w.cfg.mtu),(ai w.cfg.try_),(AC.own (RC.mk 44 RK.hend w.ends (RM.mk (dpM false (none)) false 0 false))),(AC.own (RC.mk 64 RK.hnet w.net (RM.mk (dpM false (none)) false 0 false))),(ai w.link)])] []))))) := by
  have hw := hp.1
  have hc := hw.cfg
  have hl1 := hw.el
  have hl2 := hw.nl
  have he0 := hw.en e.who.toNat
  have hn0 := hw.nn e.who.toNat
  have he1 := hw.en (1 - e.who).toNat
  have hn1 := hw.nn (1 - e.who).toNat
  have hkk := fun a1_ a2_ a3_ a4_ a5_ a6_ a7_ a8_ h_ => hk ⟨⟨a1_, a2_, a3_, a4_, a5_⟩, a6_, a7_, a8_⟩ h_
  dsimp only [rWldNO, wldNO, rS, List.map] at hkk
  try simp (disch := omega) only [wr]
  repeat' first
    | exact rfl
    | exact True.intro
    | with_reducible apply And.intro
    | (intro (hy_ : WldI _ ∧ _)
       obtain ⟨hw_, hc_⟩ := hy_
       try have hm_ := hc_.2
       try have hc_ := hc_.1
       have hl1_ := hw_.el
       have hl2_ := hw_.nl)
    | (with_reducible intro y_ hy_; subst hy_)
    | with_reducible intro y_
    | (refine iteI (fun h => ?_) (fun h => ?_))
    | fail
  all_goals try simp only [cq1, cq2, cq3, cq4, cq5, cq6, cq7, cq8, cq9, cq10, cq11, cq12, cq13, cq14, cq15, cq16, cq17, cq18, cq19] at *
  all_goals try simp (disch := omega) only [hend_self, hnet_self, List.length_set] at *
  all_goals try simp (disch := omega) only [wr] at *
  all_goals first
    | assumption
    | omega
    | exact hi.2.1
    | exact hc_
    | exact hc_.trans hi.2.1
    | (refine WldI.mk ?_ ?_ ?_ ?_ ?_
       all_goals try dsimp only
       all_goals repeat' first | (refine endI_set ?_ ?_) | (refine netI_set ?_ ?_) | (refine lenE_set ?_) | (refine lenN_set ?_)
       all_goals first
         | assumption
         | (apply WldI.cfg; assumption)
         | (apply WldI.en; assumption)
         | (apply WldI.nn; assumption)
         | exact netI_00
         | omega
         | (simp only [EndI, TxB, JInv] at *; omega)
         | grind [EndI, TxB, JInv]
         | skip)
    | (refine hkk _ _ _ _ _ _ _ _ ?_
       refine ⟨?_, ?_⟩
       · (refine WldI.mk ?_ ?_ ?_ ?_ ?_
          all_goals try dsimp only
          all_goals repeat' first | (refine endI_set ?_ ?_) | (refine netI_set ?_ ?_) | (refine lenE_set ?_) | (refine lenN_set ?_)
          all_goals first
            | assumption
            | (apply WldI.cfg; assumption)
            | (apply WldI.en; assumption)
            | (apply WldI.nn; assumption)
            | exact netI_00
            | omega
            | (simp only [EndI, TxB, JInv] at *; omega)
            | grind [EndI, TxB, JInv]
            | skip)
       · first | done | rfl | assumption | exact hi.2.1 | exact hc_ | exact hc_.trans hi.2.1 | exact hc_.trans (by assumption) | grind)
    | exact (wr8_in _).1
    | exact (wr8_in _).2
    | (simp only [EndI, TxB, JInv, LIM, HL] at *; omega)
    | grind [EndI, TxB, JInv, LIM, HL]
theorem w_spec_l9Say : Valid Try.prog 46 c_spec_l9Say :=
  valid_ctr2 (V := V_spec_l9Say) (tysB_ok tys2_ok) ⟨(CallsL.cons w_spec_l9Way (CallsL.cons w_spec_RxBusy (CallsL.cons w_spec_l9Ways (CallsL.cons w_spec_l7Say (CallsL.cons w_spec_CrdGrant (CallsL.nil _)))))), (IosL.nil _)⟩ mixed 0 7 Try.func46 rfl (by kernel_rfl)
    (fun c hc => by
      obtain rfl := Option.some.inj hc
      exact ⟨trivial, ⟨trivial, ⟨⟨trivial, ⟨⟨trivial, ⟨trivial, ⟨trivial, trivial⟩⟩⟩, ⟨trivial, ⟨⟨trivial, trivial⟩, ⟨trivial, ⟨⟨trivial, ⟨trivial, ⟨trivial, ⟨⟨trivial, trivial⟩, trivial⟩⟩⟩⟩, trivial⟩⟩⟩⟩⟩⟩, ⟨trivial, trivial⟩⟩⟩⟩)
    (fun x K hp hk => ⟨_, by kernel_rfl, vF_spec_l9Say x.1 x.2 K hp (fun q h => hk q h)⟩)
theorem vF_spec_l9Num (w:WldN) (who:Int) (f:FrmN) (K:List Arg→List (List AC)→Prop) (hp:WldI w∧0≤who∧who≤1∧FrmPN f∧(f.kind=1∨f.kind=2)) (hk:∀ (q:WldN),(WldI q∧q.cfg=w.cfg)→K ([rWldNO.to q]) ([])):((0≤who)∧(who < ((w.ends.length:Nat):Int)))∧(Tt (((((0:Int)≤(at_hend w.ends who.toNat).tx.acked)∧(((at_hend w.ends who.toNat).tx.acked≤7)∧(((0:Int)≤(at_hend w.ends who.toNat).tx.sent)∧(((at_hend w.ends who.toNat).tx.sent≤(((at_hend w.ends who.toNat).tx.flight:Nat):Int))∧(((at_hend w.ends who.toNat).tx.queue≤24)∧((at_hend w.ends who.toNat).tx.flight≤1000))))))∧((0≤f.ack)∧(f.ack≤7)))∧(∀ r:TxN,((TxB r)∧(r.flight≤(at_hend w.ends who.toNat).tx.flight))→Tt (Tt (((0≤who)∧(who < ((w.ends.length:Nat):Int)))∧(Tt (Tt ((((((at_hend w.ends who.toNat).rx.len=0)∧((at_hend w.ends who.toNat).rx.got=0))∨(((1:Int)≤(at_hend w.ends who.toNat).rx.len)∧(((at_hend w.ends who.toNat).rx.len≤255)∧((at_hend w.ends who.toNat).rx.got≤255))))∧(((f.kind=1)∧(((0≤f.seq)∧(f.seq≤7))∧(((0≤f.ack)∧(f.ack≤7))∧((f.poll=false)∧((f.say=0)∧(SegP f.seg f.len ((f.data:Nat):Int)))))))∨(((f.kind=2)∧((f.seq=0)∧(((0≤f.ack)∧(f.ack≤7))∧(((f.poll && f.final)=false)∧(((0≤f.say)∧(f.say≤2))∧((f.seg=0)∧((f.len=0)∧(f.data=0))))))))∨(((f.kind=3)∧((f.seq=0)∧((f.ack=0)∧((f.poll=false)∧((f.final=false)∧((f.say=0)∧(SegP f.seg f.len ((f.data:Nat):Int))))))))∨((f.kind=4)∧((f.seq=0)∧((f.ack=0)∧((f.poll=false)∧((f.final=false)∧((f.say=0)∧((f.seg=0)∧(((1≤f.len)∧(f.len≤255))∧(f.data=0)))))))))))))∧(∀ r1:(Prod RxN (Prod Nat Nat)),((JInv r1.fst.len r1.fst.got)∧((r1.snd.fst≤1)∧(r1.snd.snd≤1)))→Tt (((0≤who)∧(who < (((List.length (List.set w.ends who.toNat (EndN.mk r (at_hend w.ends who.toNat).rx (at_hend w.ends who.toNat).ctx (at_hend w.ends who.toNat).crx (at_hend w.ends who.toNat).put (at_hend w.ends who.toNat).got))):Nat):Int)))∧(Tt (((WldI (WldN.mk w.cfg (List.set (List.set w.ends who.toNat (EndN.mk r (at_hend w.ends who.toNat).rx (at_hend w.ends who.toNat).ctx (at_hend w.ends who.toNat).crx (at_hend w.ends who.toNat).put (at_hend w.ends who.toNat).got)) who.toNat (EndN.mk (at_hend (List.set w.ends who.toNat (EndN.mk r (at_hend w.ends who.toNat).rx (at_hend w.ends who.toNat).ctx (at_hend w.ends who.toNat).crx (at_hend w.ends who.toNat).put (at_hend w.ends who.toNat).got)) who.toNat).tx r1.fst (at_hend (List.set w.ends who.toNat (EndN.mk r (at_hend w.ends who.toNat).rx (at_hend w.ends who.toNat).ctx (at_hend w.ends who.toNat).crx (at_hend w.ends who.toNat).put (at_hend w.ends who.toNat).got)) who.toNat).ctx (at_hend (List.set w.ends who.toNat (EndN.mk r (at_hend w.ends who.toNat).rx (at_hend w.ends who.toNat).ctx (at_hend w.ends who.toNat).crx (at_hend w.ends who.toNat).put (at_hend w.ends who.toNat).got)) who.toNat).crx (at_hend (List.set w.ends who.toNat (EndN.mk r (at_hend w.ends who.toNat).rx (at_hend w.ends who.toNat).ctx (at_hend w.ends who.toNat).crx (at_hend w.ends who.toNat).put (at_hend w.ends who.toNat).got)) who.toNat).put (at_hend (List.set w.ends who.toNat (EndN.mk r (at_hend w.ends who.toNat).rx (at_hend w.ends who.toNat).ctx (at_hend w.ends who.toNat).crx (at_hend w.ends who.toNat).put (at_hend w.ends who.toNat).got)) who.toNat).got)) w.net w.link))∧((r1.snd.fst≤1000)∧((0≤who)∧(who≤1))))∧(∀ r2:WldN,((WldI r2)∧(r2.cfg=w.cfg))→Tt (Tt (((WldI (WldN.mk r2.cfg r2.ends r2.net r2.link))∧((r1.snd.snd≤1000)∧(((0:Int)≤(IntKind.i64.wrap ((1:Int) - who)))∧((IntKind.i64.wrap ((1:Int) - who))≤(1:Int)))))∧(∀ r3:WldN,((WldI r3)∧(r3.cfg=r2.cfg))→Tt (Tt (K [(Arg.v true [(ai r3.cfg.mode),(ai r3.cfg.win),(ai r3.cfg.mps),(ai r3.cfg.mtu),(ai r3.cfg.try_),(AC.own (RC.mk 44 RK.hend r3.ends (RM.mk (dpM false (none)) false 0 false))),(AC.own (RC.mk 64 RK.hnet r3.net (RM.mk (dpM false (none)) false 0 false))),(ai r3.link)])] [])))))))))))))))))) := by
  have hw := hp.1
  have hc := hw.cfg
  have hl1 := hw.el
  have hl2 := hw.nl
  have he0 := hw.en who.toNat
  have hn0 := hw.nn who.toNat
  have he1 := hw.en (1 - who).toNat
  have hn1 := hw.nn (1 - who).toNat
  have hkk := fun a1_ a2_ a3_ a4_ a5_ a6_ a7_ a8_ h_ => hk ⟨⟨a1_, a2_, a3_, a4_, a5_⟩, a6_, a7_, a8_⟩ h_
  dsimp only [rWldNO, wldNO, rS, List.map] at hkk
  have hf := hp.2.2.2.1
  have hf2 := hf
  unfold FrmPN at hf2
  try simp (disch := omega) only [wr]
  repeat' first
    | exact rfl
    | exact True.intro
    | with_reducible apply And.intro
    | (intro (hy_ : WldI _ ∧ _)
       obtain ⟨hw_, hc_⟩ := hy_
       try have hm_ := hc_.2
       try have hc_ := hc_.1
       have hl1_ := hw_.el
       have hl2_ := hw_.nl)
    | (with_reducible intro y_ hy_; subst hy_)
    | with_reducible intro y_
    | (refine iteI (fun h => ?_) (fun h => ?_))
    | fail
  all_goals try simp only [cq1, cq2, cq3, cq4, cq5, cq6, cq7, cq8, cq9, cq10, cq11, cq12, cq13, cq14, cq15, cq16, cq17, cq18, cq19] at *
  all_goals try simp (disch := omega) only [hend_self, hnet_self, List.length_set] at *
  all_goals try simp (disch := omega) only [wr] at *
  all_goals first
    | assumption
    | omega
    | exact hf
    | exact hi.2.1
    | exact hc_
    | exact hc_.trans hi.2.1
    | (refine WldI.mk ?_ ?_ ?_ ?_ ?_
       all_goals try dsimp only
       all_goals repeat' first | (refine endI_set ?_ ?_) | (refine netI_set ?_ ?_) | (refine lenE_set ?_) | (refine lenN_set ?_)
       all_goals first
         | assumption
         | (apply WldI.cfg; assumption)
         | (apply WldI.en; assumption)
         | (apply WldI.nn; assumption)
         | exact netI_00
         | omega
         | (simp only [EndI, TxB, JInv] at *; omega)
         | grind [EndI, TxB, JInv]
         | skip)
    | (refine hkk _ _ _ _ _ _ _ _ ?_
       refine ⟨?_, ?_⟩
       · (refine WldI.mk ?_ ?_ ?_ ?_ ?_
          all_goals try dsimp only
          all_goals repeat' first | (refine endI_set ?_ ?_) | (refine netI_set ?_ ?_) | (refine lenE_set ?_) | (refine lenN_set ?_)
          all_goals first
            | assumption
            | (apply WldI.cfg; assumption)
            | (apply WldI.en; assumption)
            | (apply WldI.nn; assumption)
            | exact netI_00
            | omega
            | (simp only [EndI, TxB, JInv] at *; omega)
            | grind [EndI, TxB, JInv]
            | skip)
       · first | done | rfl | assumption | exact hi.2.1 | exact hc_ | exact hc_.trans hi.2.1 | exact hc_.trans (by assumption) | grind)
    | exact (wr8_in _).1
    | exact (wr8_in _).2
    | (simp only [EndI, TxB, JInv, FrmPN, LIM, HL] at *; omega)
    | grind [EndI, TxB, JInv, FrmPN, LIM, HL]
theorem w_spec_l9Num : Valid Try.prog 82 c_spec_l9Num :=
  valid_ctr2 (V := V_spec_l9Num) (tysB_ok tys2_ok) ⟨(CallsL.cons w_spec_l6Hear (CallsL.cons w_spec_l9Ways (CallsL.cons w_spec_l9Tell (CallsL.cons w_spec_l7Hear (CallsL.nil _))))), (IosL.nil _)⟩ mixed 0 5 Try.func82 rfl (by kernel_rfl)
    (fun c hc => by
      obtain rfl := Option.some.inj hc
      exact ⟨trivial, ⟨trivial, ⟨trivial, ⟨trivial, ⟨trivial, ⟨trivial, trivial⟩⟩⟩⟩⟩⟩)
    (fun x K hp hk => ⟨_, by kernel_rfl, vF_spec_l9Num x.1 x.2.1 x.2.2 K hp (fun q h => hk q h)⟩)
theorem vF_spec_l9Frame (w:WldN) (who:Int) (f:FrmN) (K:List Arg→List (List AC)→Prop) (hp:WldI w∧0≤who∧who≤1∧FrmPN f) (hk:∀ (q:WldN),(WldI q∧q.cfg=w.cfg)→K ([rWldNO.to q]) ([])):if ((w.cfg.mode == 1)=true) then (if ((f.kind == 1)=true) then (Tt (((WldI (WldN.mk w.cfg w.ends w.net w.link))∧((0≤who)∧((who≤1)∧((((f.kind=1)∧(((0≤f.seq)∧(f.seq≤7))∧(((0≤f.ack)∧(f.ack≤7))∧((f.poll=false)∧((f.say=0)∧(SegP f.seg f.len ((f.data:Nat):Int)))))))∨(((f.kind=2)∧((f.seq=0)∧(((0≤f.ack)∧(f.ack≤7))∧(((f.poll && f.final)=false)∧(((0≤f.say)∧(f.say≤2))∧((f.seg=0)∧((f.len=0)∧(f.data=0))))))))∨(((f.kind=3)∧((f.seq=0)∧((f.ack=0)∧((f.poll=false)∧((f.final=false)∧((f.say=0)∧(SegP f.seg f.len ((f.data:Nat):Int))))))))∨((f.kind=4)∧((f.seq=0)∧((f.ack=0)∧((f.poll=false)∧((f.final=false)∧((f.say=0)∧((f.seg=0)∧(((1≤f.len)∧(f.len≤255))∧(f.data=0))))))))))))∧((f.kind=1)∨(f.kind=2))))))∧(∀ r:WldN,((WldI r)∧(r.cfg=w.cfg))→Tt (Tt (K [(Arg.v true [(ai r.cfg.mode),(ai r.cfg.win),(ai r.cfg.mps),(ai r.cfg.mtu),(ai r.cfg.try_),(AC.own (RC.mk 44 RK.hend r.ends (RM.mk (dpM false (none)) false 0 false))),(AC.own (RC.mk 64 RK.hnet r.net (RM.mk (dpM false (none)) false 0 false))),(ai r.link)])] []))))) else (if ((f.kind == 2)=true) then (Tt (((WldI (WldN.mk w.cfg w.ends w.net w.link))∧((0≤who)∧((who≤1)∧((((f.kind=1)∧(((0≤f.seq)∧(f.seq≤7))∧(((0≤f.ack)∧(f.ack≤7))∧((f.poll=false)∧((f.say=0)∧(SegP f.seg f.len ((f.data:Nat):Int)))))))∨(((f.kind=2)∧((f.seq=0)∧(((0≤f.ack)∧(f.ack≤7))∧(((f.poll && f.final)=false)∧(((0≤f.say)∧(f.say≤2))∧((f.seg=0)∧((f.len=0)∧(f.data=0))))))))∨(((f.kind=3)∧((f.seq=0)∧((f.ack=0)∧((f.poll=false)∧((f.final=false)∧((f.say=0)∧(SegP f.seg f.len ((f.data:Nat):Int))))))))∨((f.kind=4)∧((f.seq=0)∧((f.ack=0)∧((f.poll=false)∧((f.final=false)∧((f.say=0)∧((f.seg=0)∧(((1≤f.len)∧(f.len≤255))∧(f.data=0))))))))))))∧((f.kind=1)∨(f.kind=2))))))∧(∀ r:WldN,((WldI r)∧(r.cfg=w.cfg))→Tt (Tt (K [(Arg.v true [(ai r.cfg.mode),(ai r.cfg.win),(ai r.cfg.mps),(ai r.cfg.mtu),(ai r.cfg.try_),(AC.own (RC.mk 44 RK.hend r.ends (RM.mk (dpM false (none)) false 0 false))),(AC.own (RC.mk 64 RK.hnet r.net (RM.mk (dpM false (none)) false 0 false))),(ai r.link)])] []))))) else (Tt (K [(Arg.v true [(ai w.cfg.mode),(ai w.cfg.win),(ai w.cfg.mps),(ai w.cfg.mtu),(ai w.cfg.try_),(AC.own (RC.mk 44 RK.hend w.ends (RM.mk (dpM false (none)) false 0 false))),(AC.own (RC.mk 64 RK.hnet w.net (RM.mk (dpM false (none)) false 0 false))),(ai w.link)])] [])))) else (((0≤who)∧(who < ((w.ends.length:Nat):Int)))∧(if ((f.kind == 4)=true) then (Tt (((at_hend w.ends who.toNat).ctx.queue≤1000)∧(∀ r:CtN,(r.queue≤24)→Tt (Tt (((0≤who)∧(who < ((w.ends.length:Nat):Int)))∧(Tt (if ((f.kind == 3)=true) then (Tt (((((at_hend w.ends who.toNat).crx.len=0)∧((at_hend w.ends who.toNat).crx.got=0))∨(((1:Int)≤(at_hend w.ends who.toNat).crx.len)∧(((at_hend w.ends who.toNat).crx.len≤255)∧((at_hend w.ends who.toNat).crx.got≤255))))∧(∀ r1:(Prod CrN Nat),((JInv r1.fst.len r1.fst.got)∧(r1.snd≤1))→Tt (((0≤who)∧(who < (((List.length (List.set w.ends who.toNat (EndN.mk (at_hend w.ends who.toNat).tx (at_hend w.ends who.toNat).rx r (at_hend w.ends who.toNat).crx (at_hend w.ends who.toNat).put (at_hend w.ends who.toNat).got))):Nat):Int)))∧(Tt (((WldI (WldN.mk w.cfg (List.set (List.set w.ends who.toNat (EndN.mk (at_hend w.ends who.toNat).tx (at_hend w.ends who.toNat).rx r (at_hend w.ends who.toNat).crx (at_hend w.ends who.toNat).put (at_hend w.ends who.toNat).got)) who.toNat (EndN.mk (at_hend (List.set w.ends who.toNat (EndN.mk (at_hend w.ends who.toNat).tx (at_hend w.ends who.toNat).rx r (at_hend w.ends who.toNat).crx (at_hend w.ends who.toNat).put (at_hend w.ends who.toNat).got)) who.toNat).tx (at_hend (List.set w.ends who.toNat (EndN.mk (at_hend w.ends who.toNat).tx (at_hend w.ends who.toNat).rx r (at_hend w.ends who.toNat).crx (at_hend w.ends who.toNat).put (at_hend w.ends who.toNat).got)) who.toNat).rx (at_hend (List.set w.ends who.toNat (EndN.mk (at_hend w.ends who.toNat).tx (at_hend w.ends who.toNat).rx r (at_hend w.ends who.toNat).crx (at_hend w.ends who.toNat).put (at_hend w.ends who.toNat).got)) who.toNat).ctx r1.fst (at_hend (List.set w.ends who.toNat (EndN.mk (at_hend w.ends who.toNat).tx (at_hend w.ends who.toNat).rx r (at_hend w.ends who.toNat).crx (at_hend w.ends who.toNat).put (at_hend w.ends who.toNat).got)) who.toNat).put (at_hend (List.set w.ends who.toNat (EndN.mk (at_hend w.ends who.toNat).tx (at_hend w.ends who.toNat).rx r (at_hend w.ends who.toNat).crx (at_hend w.ends who.toNat).put (at_hend w.ends who.toNat).got)) who.toNat).got)) w.net w.link))∧((r1.snd≤1000)∧((0≤who)∧(who≤1))))∧(∀ r2:WldN,((WldI r2)∧(r2.cfg=w.cfg))→Tt (Tt (K [(Arg.v true [(ai r2.cfg.mode),(ai r2.cfg.win),(ai r2.cfg.mps),(ai r2.cfg.mtu),(ai r2.cfg.try_),(AC.own (RC.mk 44 RK.hend r2.ends (RM.mk (dpM false (none)) false 0 false))),(AC.own (RC.mk 64 RK.hnet r2.net (RM.mk (dpM false (none)) false 0 false))),(ai r2.link)])] []))))))))) else (Tt (K [(Arg.v true [(ai w.cfg.mode),(ai w.cfg.win),(ai w.cfg.mps),(ai w.cfg.mtu),(ai w.cfg.try_),(AC.own (RC.mk 44 RK.hend (List.set w.ends who.toNat (EndN.mk (at_hend w.ends who.toNat).tx (at_hend w.ends who.toNat).rx r (at_hend w.ends who.toNat).crx (at_hend w.ends who.toNat).put (at_hend w.ends who.toNat).got)) (RM.mk (dpM false (none)) false 0 false))),(AC.own (RC.mk 64 RK.hnet w.net (RM.mk (dpM false (none)) false 0 false))),(ai w.link)])] []))))))))) else (if ((f.kind == 3)=true) then (Tt (((((at_hend w.ends who.toNat).crx.len=0)∧((at_hend w.ends who.toNat).crx.got=0))∨(((1:Int)≤(at_hend w.ends who.toNat).crx.len)∧(((at_hend w.ends who.toNat).crx.len≤255)∧((at_hend w.ends who.toNat).crx.got≤255))))∧(∀ r:(Prod CrN Nat),((JInv r.fst.len r.fst.got)∧(r.snd≤1))→Tt (((0≤who)∧(who < ((w.ends.length:Nat):Int)))∧(Tt (((WldI (WldN.mk w.cfg (List.set w.ends who.toNat (EndN.mk (at_hend w.ends who.toNat).tx (at_hend w.ends who.toNat).rx (at_hend w.ends who.toNat).ctx r.fst (at_hend w.ends who.toNat).put (at_hend w.ends who.toNat).got)) w.net w.link))∧((r.snd≤1000)∧((0≤who)∧(who≤1))))∧(∀ r1:WldN,((WldI r1)∧(r1.cfg=w.cfg))→Tt (Tt (K [(Arg.v true [(ai r1.cfg.mode),(ai r1.cfg.win),(ai r1.cfg.mps),(ai r1.cfg.mtu),(ai r1.cfg.try_),(AC.own (RC.mk 44 RK.hend r1.ends (RM.mk (dpM false (none)) false 0 false))),(AC.own (RC.mk 64 RK.hnet r1.net (RM.mk (dpM false (none)) false 0 false))),(ai r1.link)])] []))))))))) else (Tt (K [(Arg.v true [(ai w.cfg.mode),(ai w.cfg.win),(ai w.cfg.mps),(ai w.cfg.mtu),(ai w.cfg.try_),(AC.own (RC.mk 44 RK.hend w.ends (RM.mk (dpM false (none)) false 0 false))),(AC.own (RC.mk 64 RK.hnet w.net (RM.mk (dpM false (none)) false 0 false))),(ai w.link)])] []))))) := by
  have hw := hp.1
  have hc := hw.cfg
  have hl1 := hw.el
  have hl2 := hw.nl
  have he0 := hw.en who.toNat
  have hn0 := hw.nn who.toNat
  have he1 := hw.en (1 - who).toNat
  have hn1 := hw.nn (1 - who).toNat
  have hkk := fun a1_ a2_ a3_ a4_ a5_ a6_ a7_ a8_ h_ => hk ⟨⟨a1_, a2_, a3_, a4_, a5_⟩, a6_, a7_, a8_⟩ h_
  dsimp only [rWldNO, wldNO, rS, List.map] at hkk
  have hf := hp.2.2.2
  try simp (disch := omega) only [wr]
  repeat' first
    | exact rfl
    | exact True.intro
    | with_reducible apply And.intro
    | (intro (hy_ : WldI _ ∧ _)
       obtain ⟨hw_, hc_⟩ := hy_
       try have hm_ := hc_.2
       try have hc_ := hc_.1
       have hl1_ := hw_.el
       have hl2_ := hw_.nl)
    | (with_reducible intro y_ hy_; subst hy_)
    | with_reducible intro y_
    | (refine iteI (fun h => ?_) (fun h => ?_))
    | fail
  all_goals try simp only [cq1, cq2, cq3, cq4, cq5, cq6, cq7, cq8, cq9, cq10, cq11, cq12, cq13, cq14, cq15, cq16, cq17, cq18, cq19] at *
  all_goals try simp (disch := omega) only [hend_self, hnet_self, List.length_set] at *
  all_goals try simp (disch := omega) only [wr] at *
  all_goals first
    | assumption
    | omega
    | exact hf
    | exact hi.2.1
    | exact hc_
    | exact hc_.trans hi.2.1
    | (refine WldI.mk ?_ ?_ ?_ ?_ ?_
       all_goals try dsimp only
       all_goals repeat' first | (refine endI_set ?_ ?_) | (refine netI_set ?_ ?_) | (refine lenE_set ?_) | (refine lenN_set ?_)
       all_goals first
         | assumption
         | (apply WldI.cfg; assumption)
         | (apply WldI.en; assumption)
         | (apply WldI.nn; assumption)
         | exact netI_00
         | omega
         | (simp only [EndI, TxB, JInv] at *; omega)
         | grind [EndI, TxB, JInv]
         | skip)
    | (refine hkk _ _ _ _ _ _ _ _ ?_
       refine ⟨?_, ?_⟩
       · (refine WldI.mk ?_ ?_ ?_ ?_ ?_
          all_goals try dsimp only
          all_goals repeat' first | (refine endI_set ?_ ?_) | (refine netI_set ?_ ?_) | (refine lenE_set ?_) | (refine lenN_set ?_)
          all_goals first
            | assumption
            | (apply WldI.cfg; assumption)
            | (apply WldI.en; assumption)
            | (apply WldI.nn; assumption)
            | exact netI_00
            | omega
            | (simp only [EndI, TxB, JInv] at *; omega)
            | grind [EndI, TxB, JInv]
            | skip)
       · first | done | rfl | assumption | exact hi.2.1 | exact hc_ | exact hc_.trans hi.2.1 | exact hc_.trans (by assumption) | grind)
    | exact (wr8_in _).1
    | exact (wr8_in _).2
    | (simp only [EndI, TxB, JInv, FrmPN, LIM, HL] at *; omega)
    | grind [EndI, TxB, JInv, FrmPN, LIM, HL]
theorem w_spec_l9Frame : Valid Try.prog 71 c_spec_l9Frame :=
  valid_ctr2 (V := V_spec_l9Frame) (tysB_ok tys2_ok) ⟨(CallsL.cons w_spec_CrdTake (CallsL.cons w_spec_l9Num (CallsL.cons w_spec_CrdHear (CallsL.cons w_spec_l9Tell (CallsL.nil _))))), (IosL.nil _)⟩ mixed 0 5 Try.func71 rfl (by kernel_rfl)
    (fun c hc => by
      obtain rfl := Option.some.inj hc
      exact ⟨trivial, ⟨⟨trivial, ⟨⟨⟨trivial, ⟨⟨trivial, trivial⟩, trivial⟩⟩, ⟨trivial, trivial⟩⟩, trivial⟩⟩, ⟨trivial, ⟨⟨trivial, ⟨trivial, trivial⟩⟩, ⟨⟨trivial, ⟨⟨trivial, ⟨trivial, ⟨trivial, trivial⟩⟩⟩, trivial⟩⟩, ⟨trivial, trivial⟩⟩⟩⟩⟩⟩)
    (fun x K hp hk => ⟨_, by kernel_rfl, vF_spec_l9Frame x.1 x.2.1 x.2.2 K hp (fun q h => hk q h)⟩)
theorem vF_spec_l9First (w:WldN) (who:Int) (K:List Arg→List (List AC)→Prop) (hp:WldI w∧0≤who∧who≤1∧0 < at_hnet w.net who.toNat) (hk:∀ (q:WldN) (m:NetN),(WldI q∧q.cfg=w.cfg∧m.bytes≤1000)→K ([rWldNO.to q,rNetN.to m]) ([])):((0≤who)∧(who < ((w.net.length:Nat):Int)))∧((((0:Int)≤(0:Int))∧((0:Int) < (((at_hnet w.net who.toNat):Nat):Int)))∧(∀ x:Bool,∀ n:Nat,(n≤1000)→((0≤who)∧(who < ((w.net.length:Nat):Int)))∧((((0:Int)≤(1:Int))∧(((1:Int)≤(((at_hnet w.net who.toNat):Nat):Int))∧((((at_hnet w.net who.toNat):Nat):Int)≤(((at_hnet w.net who.toNat):Nat):Int))))∧(True∧(Tt (((0 + ((Int.toNat (((at_hnet w.net who.toNat):Nat):Int)) - 1))≤137438953472)∧(Tt (((0≤who)∧(who < ((w.net.length:Nat):Int)))∧(Tt (Tt (Tt (Tt (K [(Arg.v true [(ai w.cfg.mode),(ai w.cfg.win),(ai w.cfg.mps),(ai w.cfg.mtu),(ai w.cfg.try_),(AC.own (RC.mk 44 RK.hend w.ends (RM.mk (dpM false (none)) false 0 false))),(AC.own (RC.mk 64 RK.hnet (List.set w.net who.toNat (0 + ((Int.toNat (((at_hnet w.net who.toNat):Nat):Int)) - 1))) (RM.mk (dpM false (none)) false 0 false))),(ai w.link)]),(Arg.v true [(AC.d (D.b x)),(AC.d (D.h RK.u8 n))])] []))))))))))))) := by
  have hw := hp.1
  have hc := hw.cfg
  have hl1 := hw.el
  have hl2 := hw.nl
  have he0 := hw.en who.toNat
  have hn0 := hw.nn who.toNat
  have he1 := hw.en (1 - who).toNat
  have hn1 := hw.nn (1 - who).toNat
  have hkk := fun a1_ a2_ a3_ a4_ a5_ a6_ a7_ a8_ a9_ a10_ h_ => hk ⟨⟨a1_, a2_, a3_, a4_, a5_⟩, a6_, a7_, a8_⟩ ⟨a9_, a10_⟩ h_
  dsimp only [rWldNO, wldNO, rNetN, rS, netNC, List.map] at hkk
  try simp (disch := omega) only [wr]
  repeat' first
    | exact rfl
    | exact True.intro
    | with_reducible apply And.intro
    | (intro (hy_ : WldI _ ∧ _)
       obtain ⟨hw_, hc_⟩ := hy_
       try have hm_ := hc_.2
       try have hc_ := hc_.1
       have hl1_ := hw_.el
       have hl2_ := hw_.nl)
    | (with_reducible intro y_ hy_; subst hy_)
    | with_reducible intro y_
    | (refine iteI (fun h => ?_) (fun h => ?_))
    | fail
  all_goals try simp only [cq1, cq2, cq3, cq4, cq5, cq6, cq7, cq8, cq9, cq10, cq11, cq12, cq13, cq14, cq15, cq16, cq17, cq18, cq19] at *
  all_goals try simp (disch := omega) only [hend_self, hnet_self, List.length_set] at *
  all_goals try simp (disch := omega) only [wr] at *
  all_goals first
    | assumption
    | omega
    | exact hi.2.1
    | exact hc_
    | exact hc_.trans hi.2.1
    | (refine WldI.mk ?_ ?_ ?_ ?_ ?_
       all_goals try dsimp only
       all_goals repeat' first | (refine endI_set ?_ ?_) | (refine netI_set ?_ ?_) | (refine lenE_set ?_) | (refine lenN_set ?_)
       all_goals first
         | assumption
         | (apply WldI.cfg; assumption)
         | (apply WldI.en; assumption)
         | (apply WldI.nn; assumption)
         | exact netI_00
         | omega
         | (simp only [EndI, TxB, JInv] at *; omega)
         | grind [EndI, TxB, JInv]
         | skip)
    | (refine hkk _ _ _ _ _ _ _ _ _ _ ?_
       refine ⟨?_, ?_⟩
       · (refine WldI.mk ?_ ?_ ?_ ?_ ?_
          all_goals try dsimp only
          all_goals repeat' first | (refine endI_set ?_ ?_) | (refine netI_set ?_ ?_) | (refine lenE_set ?_) | (refine lenN_set ?_)
          all_goals first
            | assumption
            | (apply WldI.cfg; assumption)
            | (apply WldI.en; assumption)
            | (apply WldI.nn; assumption)
            | exact netI_00
            | omega
            | (simp only [EndI, TxB, JInv] at *; omega)
            | grind [EndI, TxB, JInv]
            | skip)
       · first | done | rfl | assumption | exact hi.2.1 | exact hc_ | exact hc_.trans hi.2.1 | exact hc_.trans (by assumption) | grind)
    | exact (wr8_in _).1
    | exact (wr8_in _).2
    | (simp only [EndI, TxB, JInv, LIM, HL] at *; omega)
    | grind [EndI, TxB, JInv, LIM, HL]
theorem w_spec_l9First : Valid Try.prog 69 c_spec_l9First :=
  valid_ctr2 (V := V_spec_l9First) (tysB_ok tys2_ok) ⟨(CallsL.nil _), (IosL.nil _)⟩ mixed 0 4 Try.func69 rfl (by kernel_rfl)
    (fun c hc => by
      obtain rfl := Option.some.inj hc
      exact ⟨trivial, ⟨trivial, ⟨trivial, ⟨trivial, trivial⟩⟩⟩⟩)
    (fun x K hp hk => ⟨_, by kernel_rfl, vF_spec_l9First x.1 x.2 K hp (fun q m h => hk (q, m) h)⟩)
theorem vF_spec_l9Net (w:WldN) (e:EvN) (K:List Arg→List (List AC)→Prop) (hp:WldI w∧0≤e.who∧e.who≤1∧7≤e.kind∧e.kind≤9) (hk:∀ (q:WldN),(WldI q∧q.cfg=w.cfg)→K ([rWldNO.to q]) ([])):((0≤e.who)∧(e.who < ((w.net.length:Nat):Int)))∧(if (((((at_hnet w.net e.who.toNat):Nat):Int) == (0:Int))=true) then (Tt (K [(Arg.v true [(ai w.cfg.mode),(ai w.cfg.win),(ai w.cfg.mps),(ai w.cfg.mtu),(ai w.cfg.try_),(AC.own (RC.mk 44 RK.hend w.ends (RM.mk (dpM false (none)) false 0 false))),(AC.own (RC.mk 64 RK.hnet w.net (RM.mk (dpM false (none)) false 0 false))),(ai w.link)])] [])) else (if ((e.kind == 7)=true) then (Tt (((WldI (WldN.mk w.cfg w.ends w.net w.link))∧((0≤e.who)∧((e.who≤1)∧(0 < (at_hnet w.net e.who.toNat)))))∧(∀ r:(Prod WldN NetN),((WldI r.fst)∧((r.fst.cfg=w.cfg)∧(r.snd.bytes≤1000)))→Tt (Tt ((r.snd.bytes≤1000)∧(∀ r1:(Prod FrmN Bool),((r1.snd=true)→(FrmPN r1.fst))→Tt (if ((!r1.snd)=true) then (Tt (K [(Arg.v true [(ai r.fst.cfg.mode),(ai r.fst.cfg.win),(ai r.fst.cfg.mps),(ai r.fst.cfg.mtu),(ai r.fst.cfg.try_),(AC.own (RC.mk 44 RK.hend r.fst.ends (RM.mk (dpM false (none)) false 0 false))),(AC.own (RC.mk 64 RK.hnet r.fst.net (RM.mk (dpM false (none)) false 0 false))),(ai r.fst.link)])] [])) else (Tt (((WldI (WldN.mk r.fst.cfg r.fst.ends r.fst.net r.fst.link))∧((0≤e.who)∧((e.who≤1)∧(((r1.fst.kind=1)∧(((0≤r1.fst.seq)∧(r1.fst.seq≤7))∧(((0≤r1.fst.ack)∧(r1.fst.ack≤7))∧((r1.fst.poll=false)∧((r1.fst.say=0)∧(SegP r1.fst.seg r1.fst.len ((r1.fst.data:Nat):Int)))))))∨(((r1.fst.kind=2)∧((r1.fst.seq=0)∧(((0≤r1.fst.ack)∧(r1.fst.ack≤7))∧(((r1.fst.poll && r1.fst.final)=false)∧(((0≤r1.fst.say)∧(r1.fst.say≤2))∧((r1.fst.seg=0)∧((r1.fst.len=0)∧(r1.fst.data=0))))))))∨(((r1.fst.kind=3)∧((r1.fst.seq=0)∧((r1.fst.ack=0)∧((r1.fst.poll=false)∧((r1.fst.final=false)∧((r1.fst.say=0)∧(SegP r1.fst.seg r1.fst.len ((r1.fst.data:Nat):Int))))))))∨((r1.fst.kind=4)∧((r1.fst.seq=0)∧((r1.fst.ack=0)∧((r1.fst.poll=false)∧((r1.fst.final=false)∧((r1.fst.say=0)∧((r1.fst.seg=0)∧(((1≤r1.fst.len)∧(r1.fst.len≤255))∧(r1.fst.data=0)))))))))))))))∧(∀ r2:WldN,((WldI r2)∧(r2.cfg=r.fst.cfg))→Tt (Tt (K [(Arg.v true [(ai r2.cfg.mode),(ai r2.cfg.win),(ai r2.cfg.mps),(ai r2.cfg.mtu),(ai r2.cfg.try_),(AC.own (RC.mk 44 RK.hend r2.ends (RM.mk (dpM false (none)) false 0 false))),(AC.own (RC.mk 64 RK.hnet r2.net (RM.mk (dpM false (none)) false 0 false))),(ai r2.link)])] [])))))))))))) else (if ((e.kind == 8)=true) then (Tt (((WldI (WldN.mk w.cfg w.ends w.net w.link))∧((0≤e.who)∧((e.who≤1)∧(0 < (at_hnet w.net e.who.toNat)))))∧(∀ r:(Prod WldN NetN),((WldI r.fst)∧((r.fst.cfg=w.cfg)∧(r.snd.bytes≤1000)))→Tt (Tt (K [(Arg.v true [(ai r.fst.cfg.mode),(ai r.fst.cfg.win),(ai r.fst.cfg.mps),(ai r.fst.cfg.mtu),(ai r.fst.cfg.try_),(AC.own (RC.mk 44 RK.hend r.fst.ends (RM.mk (dpM false (none)) false 0 false))),(AC.own (RC.mk 64 RK.hnet r.fst.net (RM.mk (dpM false (none)) false 0 false))),(ai r.fst.link)])] []))))) else (((0≤e.who)∧(e.who < ((w.net.length:Nat):Int)))∧((((0:Int)≤(0:Int))∧((0:Int) < (((at_hnet w.net e.who.toNat):Nat):Int)))∧(∀ x:Bool,∀ n:Nat,(n≤1000)→if (x=true) then (Tt (K [(Arg.v true [(ai w.cfg.mode),(ai w.cfg.win),(ai w.cfg.mps),(ai w.cfg.mtu),(ai w.cfg.try_),(AC.own (RC.mk 44 RK.hend w.ends (RM.mk (dpM false (none)) false 0 false))),(AC.own (RC.mk 64 RK.hnet w.net (RM.mk (dpM false (none)) false 0 false))),(ai w.link)])] [])) else (Tt (True∧(∀ r:Bool,(r=(decide ((0≤e.at_)∧(e.at_≤(IntKind.i64.wrap (((n:Nat):Int) - (1:Int)))))))→Tt (if ((!r)=true) then (Tt (K [(Arg.v true [(ai w.cfg.mode),(ai w.cfg.win),(ai w.cfg.mps),(ai w.cfg.mtu),(ai w.cfg.try_),(AC.own (RC.mk 44 RK.hend w.ends (RM.mk (dpM false (none)) false 0 false))),(AC.own (RC.mk 64 RK.hnet w.net (RM.mk (dpM false (none)) false 0 false))),(ai w.link)])] [])) else (Tt (True∧(∀ r1:Bool,(r1=(decide ((1≤e.v)∧(e.v≤255))))→Tt (if ((!r1)=true) then (Tt (K [(Arg.v true [(ai w.cfg.mode),(ai w.cfg.win),(ai w.cfg.mps),(ai w.cfg.mtu),(ai w.cfg.try_),(AC.own (RC.mk 44 RK.hend w.ends (RM.mk (dpM false (none)) false 0 false))),(AC.own (RC.mk 64 RK.hnet w.net (RM.mk (dpM false (none)) false 0 false))),(ai w.link)])] [])) else (((0≤e.at_)∧(e.at_ < ((n:Nat):Int)))∧(∀ x1:Int,(0≤x1)→(x1≤255)→((0≤e.at_)∧(e.at_ < ((n:Nat):Int)))∧(((((0:Int)≤(bits BinOp.xor IntKind.u8 x1 (IntKind.u8.wrap e.v)))∧((bits BinOp.xor IntKind.u8 x1 (IntKind.u8.wrap e.v))≤(255:Int)))∧True)∧(Tt (((0≤e.who)∧(e.who < ((w.net.length:Nat):Int)))∧((((0:Int)≤(0:Int))∧((0:Int) < (((at_hnet w.net e.who.toNat):Nat):Int)))∧((((RK.u8=RK.u8)∧(n≤1000))∧True)∧(Tt (Tt (K [(Arg.v true [(ai w.cfg.mode),(ai w.cfg.win),(ai w.cfg.mps),(ai w.cfg.mtu),(ai w.cfg.try_),(AC.own (RC.mk 44 RK.hend w.ends (RM.mk (dpM false (none)) false 0 false))),(AC.own (RC.mk 64 RK.hnet w.net (RM.mk (dpM false (none)) false 0 false))),(ai w.link)])] [])))))))))))))))))))))))) := by
  have hw := hp.1
  have hc := hw.cfg
  have hl1 := hw.el
  have hl2 := hw.nl
  have he0 := hw.en e.who.toNat
  have hn0 := hw.nn e.who.toNat
  have he1 := hw.en (1 - e.who).toNat
  have hn1 := hw.nn (1 - e.who).toNat
  have hkk := fun a1_ a2_ a3_ a4_ a5_ a6_ a7_ a8_ h_ => hk ⟨⟨a1_, a2_, a3_, a4_, a5_⟩, a6_, a7_, a8_⟩ h_
  dsimp only [rWldNO, wldNO, rS, List.map] at hkk
  try simp (disch := omega) only [wr]
  repeat' first
    | exact rfl
    | exact True.intro
    | with_reducible apply And.intro
    | (intro (hy_ : WldI _ ∧ _)
       obtain ⟨hw_, hc_⟩ := hy_
       try have hm_ := hc_.2
       try have hc_ := hc_.1
       have hl1_ := hw_.el
       have hl2_ := hw_.nl)
    | (with_reducible intro y_ hy_; subst hy_)
    | with_reducible intro y_
    | (refine iteI (fun h => ?_) (fun h => ?_))
    | fail
  all_goals try simp only [cq1, cq2, cq3, cq4, cq5, cq6, cq7, cq8, cq9, cq10, cq11, cq12, cq13, cq14, cq15, cq16, cq17, cq18, cq19] at *
  all_goals try simp (disch := omega) only [hend_self, hnet_self, List.length_set] at *
  all_goals try simp (disch := omega) only [wr] at *
  all_goals first
    | assumption
    | omega
    | exact (‹_ = true → FrmPN _›) (by assumption)
    | exact hi.2.1
    | exact hc_
    | exact hc_.trans hi.2.1
    | (refine WldI.mk ?_ ?_ ?_ ?_ ?_
       all_goals try dsimp only
       all_goals repeat' first | (refine endI_set ?_ ?_) | (refine netI_set ?_ ?_) | (refine lenE_set ?_) | (refine lenN_set ?_)
       all_goals first
         | assumption
         | (apply WldI.cfg; assumption)
         | (apply WldI.en; assumption)
         | (apply WldI.nn; assumption)
         | exact netI_00
         | omega
         | (simp only [EndI, TxB, JInv] at *; omega)
         | grind [EndI, TxB, JInv]
         | skip)
    | (refine hkk _ _ _ _ _ _ _ _ ?_
       refine ⟨?_, ?_⟩
       · (refine WldI.mk ?_ ?_ ?_ ?_ ?_
          all_goals try dsimp only
          all_goals repeat' first | (refine endI_set ?_ ?_) | (refine netI_set ?_ ?_) | (refine lenE_set ?_) | (refine lenN_set ?_)
          all_goals first
            | assumption
            | (apply WldI.cfg; assumption)
            | (apply WldI.en; assumption)
            | (apply WldI.nn; assumption)
            | exact netI_00
            | omega
            | (simp only [EndI, TxB, JInv] at *; omega)
            | grind [EndI, TxB, JInv]
            | skip)
       · first | done | rfl | assumption | exact hi.2.1 | exact hc_ | exact hc_.trans hi.2.1 | exact hc_.trans (by assumption) | grind)
    | exact (wr8_in _).1
    | exact (wr8_in _).2
    | (simp only [EndI, TxB, JInv, LIM, HL] at *; omega)
    | grind [EndI, TxB, JInv, LIM, HL]
theorem w_spec_l9Net : Valid Try.prog 47 c_spec_l9Net :=
  valid_ctr2 (V := V_spec_l9Net) (tysB_ok tys2_ok) ⟨(CallsL.cons w_spec_l1In (CallsL.cons w_spec_l9First (CallsL.cons w_spec_FrmRead (CallsL.cons w_spec_l9Frame (CallsL.nil _))))), (IosL.nil _)⟩ mixed 0 9 Try.func47 rfl (by kernel_rfl)
    (fun c hc => by
      obtain rfl := Option.some.inj hc
      exact ⟨trivial, ⟨⟨trivial, ⟨⟨trivial, trivial⟩, trivial⟩⟩, ⟨⟨trivial, ⟨trivial, ⟨⟨trivial, ⟨trivial, ⟨⟨trivial, ⟨⟨trivial, trivial⟩, trivial⟩⟩, ⟨trivial, trivial⟩⟩⟩⟩, ⟨trivial, ⟨⟨trivial, ⟨trivial, trivial⟩⟩, trivial⟩⟩⟩⟩⟩, ⟨trivial, ⟨⟨trivial, ⟨⟨trivial, trivial⟩, trivial⟩⟩, ⟨trivial, ⟨trivial, ⟨trivial, ⟨trivial, trivial⟩⟩⟩⟩⟩⟩⟩⟩⟩)
    (fun x K hp hk => ⟨_, by kernel_rfl, vF_spec_l9Net x.1 x.2 K hp (fun q h => hk q h)⟩)
theorem vF_spec_l9Step (w:WldN) (e:EvN) (K:List Arg→List (List AC)→Prop) (hp:WldI w∧e.data≤1000) (hk:∀ (q:WldN),(WldI q∧q.cfg=w.cfg)→K ([rWldNO.to q]) ([])):Tt (True∧(∀ r:Bool,(r=(decide ((0≤e.who)∧(e.who≤1))))→Tt (if ((!r)=true) then (Tt (K [(Arg.v true [(ai w.cfg.mode),(ai w.cfg.win),(ai w.cfg.mps),(ai w.cfg.mtu),(ai w.cfg.try_),(AC.own (RC.mk 44 RK.hend w.ends (RM.mk (dpM false (none)) false 0 false))),(AC.own (RC.mk 64 RK.hnet w.net (RM.mk (dpM false (none)) false 0 false))),(ai w.link)])] [])) else (if ((e.kind == 1)=true) then (Tt (((WldI (WldN.mk w.cfg w.ends w.net w.link))∧((0≤e.who)∧((e.who≤1)∧(e.data≤1000))))∧(∀ r1:WldN,((WldI r1)∧(r1.cfg=w.cfg))→Tt (Tt (K [(Arg.v true [(ai r1.cfg.mode),(ai r1.cfg.win),(ai r1.cfg.mps),(ai r1.cfg.mtu),(ai r1.cfg.try_),(AC.own (RC.mk 44 RK.hend r1.ends (RM.mk (dpM false (none)) false 0 false))),(AC.own (RC.mk 64 RK.hnet r1.net (RM.mk (dpM false (none)) false 0 false))),(ai r1.link)])] []))))) else (if ((e.kind == 2)=true) then (Tt (((WldI (WldN.mk w.cfg w.ends w.net w.link))∧((0≤e.who)∧(e.who≤1)))∧(∀ r1:WldN,((WldI r1)∧(r1.cfg=w.cfg))→Tt (Tt (K [(Arg.v true [(ai r1.cfg.mode),(ai r1.cfg.win),(ai r1.cfg.mps),(ai r1.cfg.mtu),(ai r1.cfg.try_),(AC.own (RC.mk 44 RK.hend r1.ends (RM.mk (dpM false (none)) false 0 false))),(AC.own (RC.mk 64 RK.hnet r1.net (RM.mk (dpM false (none)) false 0 false))),(ai r1.link)])] []))))) else (if ((e.kind == 3)=true) then (Tt (((WldI (WldN.mk w.cfg w.ends w.net w.link))∧((0≤e.who)∧(e.who≤1)))∧(∀ r1:WldN,((WldI r1)∧(r1.cfg=w.cfg))→Tt (Tt (K [(Arg.v true [(ai r1.cfg.mode),(ai r1.cfg.win),(ai r1.cfg.mps),(ai r1.cfg.mtu),(ai r1.cfg.try_),(AC.own (RC.mk 44 RK.hend r1.ends (RM.mk (dpM false (none)) false 0 false))),(AC.own (RC.mk 64 RK.hnet r1.net (RM.mk (dpM false (none)) false 0 false))),(ai r1.link)])] []))))) else (if ((e.kind == 4)=true) then (if ((e.kind == 4)=true) then (Tt (((WldI (WldN.mk w.cfg w.ends w.net w.link))∧((0≤e.who)∧(e.who≤1)))∧(∀ r1:WldN,((WldI r1)∧(r1.cfg=w.cfg))→Tt (Tt (K [(Arg.v true [(ai r1.cfg.mode),(ai r1.cfg.win),(ai r1.cfg.mps),(ai r1.cfg.mtu),(ai r1.cfg.try_),(AC.own (RC.mk 44 RK.hend r1.ends (RM.mk (dpM false (none)) false 0 false))),(AC.own (RC.mk 64 RK.hnet r1.net (RM.mk (dpM false (none)) false 0 false))),(ai r1.link)])] []))))) else (if ((e.kind == 7)=true) then (if ((e.kind == 7)=true) then (Tt (((WldI (WldN.mk w.cfg w.ends w.net w.link))∧((0≤e.who)∧((e.who≤1)∧((7≤e.kind)∧(e.kind≤9)))))∧(∀ r1:WldN,((WldI r1)∧(r1.cfg=w.cfg))→Tt (Tt (K [(Arg.v true [(ai r1.cfg.mode),(ai r1.cfg.win),(ai r1.cfg.mps),(ai r1.cfg.mtu),(ai r1.cfg.try_),(AC.own (RC.mk 44 RK.hend r1.ends (RM.mk (dpM false (none)) false 0 false))),(AC.own (RC.mk 64 RK.hnet r1.net (RM.mk (dpM false (none)) false 0 false))),(ai r1.link)])] []))))) else (if ((e.kind == 10)=true) then (True∧(True∧(Tt (K [(Arg.v true [(ai w.cfg.mode),(ai w.cfg.win),(ai w.cfg.mps),(ai w.cfg.mtu),(ai w.cfg.try_),(AC.own (RC.mk 44 RK.hend w.ends (RM.mk (dpM false (none)) false 0 false))),(AC.own (RC.mk 64 RK.hnet ((0:Nat) :: ((0:Nat) :: ([]:(List Nat)):(List Nat)):(List Nat)) (RM.mk (dpM false (none)) false 0 false))),(ai (IntKind.i64.wrap ((1:Int) - w.link)))])] [])))) else (if ((e.kind == 11)=true) then (((0≤e.who)∧(e.who < ((w.net.length:Nat):Int)))∧(if ((decide ((((at_hnet w.net e.who.toNat):Nat):Int) < (30:Int)))=true) then (if ((decide (((e.data:Nat):Int)≤(15:Int)))=true) then (((0≤e.who)∧(e.who < ((w.net.length:Nat):Int)))∧(True∧(Tt (((0 + e.data)≤137438953472)∧(Tt (((((RK.u8=RK.u8)∧((0 + e.data)≤1000))∧True)∧True)∧(Tt ((((at_hnet w.net e.who.toNat) + 1)≤137438953472)∧(Tt (((0≤e.who)∧(e.who < ((w.net.length:Nat):Int)))∧(Tt (Tt (K [(Arg.v true [(ai w.cfg.mode),(ai w.cfg.win),(ai w.cfg.mps),(ai w.cfg.mtu),(ai w.cfg.try_),(AC.own (RC.mk 44 RK.hend w.ends (RM.mk (dpM false (none)) false 0 false))),(AC.own (RC.mk 64 RK.hnet (List.set w.net e.who.toNat ((at_hnet w.net e.who.toNat) + 1)) (RM.mk (dpM false (none)) false 0 false))),(ai w.link)])] []))))))))))))) else (Tt (K [(Arg.v true [(ai w.cfg.mode),(ai w.cfg.win),(ai w.cfg.mps),(ai w.cfg.mtu),(ai w.cfg.try_),(AC.own (RC.mk 44 RK.hend w.ends (RM.mk (dpM false (none)) false 0 false))),(AC.own (RC.mk 64 RK.hnet w.net (RM.mk (dpM false (none)) false 0 false))),(ai w.link)])] []))) else (Tt (K [(Arg.v true [(ai w.cfg.mode),(ai w.cfg.win),(ai w.cfg.mps),(ai w.cfg.mtu),(ai w.cfg.try_),(AC.own (RC.mk 44 RK.hend w.ends (RM.mk (dpM false (none)) false 0 false))),(AC.own (RC.mk 64 RK.hnet w.net (RM.mk (dpM false (none)) false 0 false))),(ai w.link)])] [])))) else (Tt (K [(Arg.v true [(ai w.cfg.mode),(ai w.cfg.win),(ai w.cfg.mps),(ai w.cfg.mtu),(ai w.cfg.try_),(AC.own (RC.mk 44 RK.hend w.ends (RM.mk (dpM false (none)) false 0 false))),(AC.own (RC.mk 64 RK.hnet w.net (RM.mk (dpM false (none)) false 0 false))),(ai w.link)])] []))))) else (if ((e.kind == 8)=true) then (if ((e.kind == 8)=true) then (Tt (((WldI (WldN.mk w.cfg w.ends w.net w.link))∧((0≤e.who)∧((e.who≤1)∧((7≤e.kind)∧(e.kind≤9)))))∧(∀ r1:WldN,((WldI r1)∧(r1.cfg=w.cfg))→Tt (Tt (K [(Arg.v true [(ai r1.cfg.mode),(ai r1.cfg.win),(ai r1.cfg.mps),(ai r1.cfg.mtu),(ai r1.cfg.try_),(AC.own (RC.mk 44 RK.hend r1.ends (RM.mk (dpM false (none)) false 0 false))),(AC.own (RC.mk 64 RK.hnet r1.net (RM.mk (dpM false (none)) false 0 false))),(ai r1.link)])] []))))) else (if ((e.kind == 10)=true) then (True∧(True∧(Tt (K [(Arg.v true [(ai w.cfg.mode),(ai w.cfg.win),(ai w.cfg.mps),(ai w.cfg.mtu),(ai w.cfg.try_),(AC.own (RC.mk 44 RK.hend w.ends (RM.mk (dpM false (none)) false 0 false))),(AC.own (RC.mk 64 RK.hnet ((0:Nat) :: ((0:Nat) :: ([]:(List Nat)):(List Nat)):(List Nat)) (RM.mk (dpM false (none)) false 0 false))),(ai (IntKind.i64.wrap ((1:Int) - w.link)))])] [])))) else (if ((e.kind == 11)=true) then (((0≤e.who)∧(e.who < ((w.net.length:Nat):Int)))∧(if ((decide ((((at_hnet w.net e.who.toNat):Nat):Int) < (30:Int)))=true) then (if ((decide (((e.data:Nat):Int)≤(15:Int)))=true) then (((0≤e.who)∧(e.who < ((w.net.length:Nat):Int)))∧(True∧(Tt (((0 + e.data)≤137438953472)∧(Tt (((((RK.u8=RK.u8)∧((0 + e.data)≤1000))∧True)∧True)∧(Tt ((((at_hnet w.net e.who.toNat) + 1)≤137438953472)∧(Tt (((0≤e.who)∧(e.who < ((w.net.length:Nat):Int)))∧(Tt (Tt (K [(Arg.v true [(ai w.cfg.mode),(ai w.cfg.win),(ai w.cfg.mps),(ai w.cfg.mtu),(ai w.cfg.try_),(AC.own (RC.mk 44 RK.hend w.ends (RM.mk (dpM false (none)) false 0 false))),(AC.own (RC.mk 64 RK.hnet (List.set w.net e.who.toNat ((at_hnet w.net e.who.toNat) + 1)) (RM.mk (dpM false (none)) false 0 false))),(ai w.link)])] []))))))))))))) else (Tt (K [(Arg.v true [(ai w.cfg.mode),(ai w.cfg.win),(ai w.cfg.mps),(ai w.cfg.mtu),(ai w.cfg.try_),(AC.own (RC.mk 44 RK.hend w.ends (RM.mk (dpM false (none)) false 0 false))),(AC.own (RC.mk 64 RK.hnet w.net (RM.mk (dpM false (none)) false 0 false))),(ai w.link)])] []))) else (Tt (K [(Arg.v true [(ai w.cfg.mode),(ai w.cfg.win),(ai w.cfg.mps),(ai w.cfg.mtu),(ai w.cfg.try_),(AC.own (RC.mk 44 RK.hend w.ends (RM.mk (dpM false (none)) false 0 false))),(AC.own (RC.mk 64 RK.hnet w.net (RM.mk (dpM false (none)) false 0 false))),(ai w.link)])] [])))) else (Tt (K [(Arg.v true [(ai w.cfg.mode),(ai w.cfg.win),(ai w.cfg.mps),(ai w.cfg.mtu),(ai w.cfg.try_),(AC.own (RC.mk 44 RK.hend w.ends (RM.mk (dpM false (none)) false 0 false))),(AC.own (RC.mk 64 RK.hnet w.net (RM.mk (dpM false (none)) false 0 false))),(ai w.link)])] []))))) else (if ((e.kind == 9)=true) then (Tt (((WldI (WldN.mk w.cfg w.ends w.net w.link))∧((0≤e.who)∧((e.who≤1)∧((7≤e.kind)∧(e.kind≤9)))))∧(∀ r1:WldN,((WldI r1)∧(r1.cfg=w.cfg))→Tt (Tt (K [(Arg.v true [(ai r1.cfg.mode),(ai r1.cfg.win),(ai r1.cfg.mps),(ai r1.cfg.mtu),(ai r1.cfg.try_),(AC.own (RC.mk 44 RK.hend r1.ends (RM.mk (dpM false (none)) false 0 false))),(AC.own (RC.mk 64 RK.hnet r1.net (RM.mk (dpM false (none)) false 0 false))),(ai r1.link)])] []))))) else (if ((e.kind == 10)=true) then (True∧(True∧(Tt (K [(Arg.v true [(ai w.cfg.mode),(ai w.cfg.win),(ai w.cfg.mps),(ai w.cfg.mtu),(ai w.cfg.try_),(AC.own (RC.mk 44 RK.hend w.ends (RM.mk (dpM false (none)) false 0 false))),(AC.own (RC.mk 64 RK.hnet ((0:Nat) :: ((0:Nat) :: ([]:(List Nat)):(List Nat)):(List Nat)) (RM.mk (dpM false (none)) false 0 false))),(ai (IntKind.i64.wrap ((1:Int) - w.link)))])] [])))) else (if ((e.kind == 11)=true) then (((0≤e.who)∧(e.who < ((w.net.length:Nat):Int)))∧(if ((decide ((((at_hnet w.net e.who.toNat):Nat):Int) < (30:Int)))=true) then (if ((decide (((e.data:Nat):Int)≤(15:Int)))=true) then (((0≤e.who)∧(e.who < ((w.net.length:Nat):Int)))∧(True∧(Tt (((0 + e.data)≤137438953472)∧(Tt (((((RK.u8=RK.u8)∧((0 + e.data)≤1000))∧True)∧True)∧(Tt ((((at_hnet w.net e.who.toNat) + 1)≤137438953472)∧(Tt (((0≤e.who)∧(e.who < ((w.net.length:Nat):Int)))∧(Tt (Tt (K [(Arg.v true [(ai w.cfg.mode),(ai w.cfg.win),(ai w.cfg.mps),(ai w.cfg.mtu),(ai w.cfg.try_),(AC.own (RC.mk 44 RK.hend w.ends (RM.mk (dpM false (none)) false 0 false))),(AC.own (RC.mk 64 RK.hnet (List.set w.net e.who.toNat ((at_hnet w.net e.who.toNat) + 1)) (RM.mk (dpM false (none)) false 0 false))),(ai w.link)])] []))))))))))))) else (Tt (K [(Arg.v true [(ai w.cfg.mode),(ai w.cfg.win),(ai w.cfg.mps),(ai w.cfg.mtu),(ai w.cfg.try_),(AC.own (RC.mk 44 RK.hend w.ends (RM.mk (dpM false (none)) false 0 false))),(AC.own (RC.mk 64 RK.hnet w.net (RM.mk (dpM false (none)) false 0 false))),(ai w.link)])] []))) else (Tt (K [(Arg.v true [(ai w.cfg.mode),(ai w.cfg.win),(ai w.cfg.mps),(ai w.cfg.mtu),(ai w.cfg.try_),(AC.own (RC.mk 44 RK.hend w.ends (RM.mk (dpM false (none)) false 0 false))),(AC.own (RC.mk 64 RK.hnet w.net (RM.mk (dpM false (none)) false 0 false))),(ai w.link)])] [])))) else (Tt (K [(Arg.v true [(ai w.cfg.mode),(ai w.cfg.win),(ai w.cfg.mps),(ai w.cfg.mtu),(ai w.cfg.try_),(AC.own (RC.mk 44 RK.hend w.ends (RM.mk (dpM false (none)) false 0 false))),(AC.own (RC.mk 64 RK.hnet w.net (RM.mk (dpM false (none)) false 0 false))),(ai w.link)])] [])))))))) else (if ((e.kind == 5)=true) then (if ((e.kind == 5)=true) then (Tt (((WldI (WldN.mk w.cfg w.ends w.net w.link))∧((0≤e.who)∧(e.who≤1)))∧(∀ r1:WldN,((WldI r1)∧(r1.cfg=w.cfg))→Tt (Tt (K [(Arg.v true [(ai r1.cfg.mode),(ai r1.cfg.win),(ai r1.cfg.mps),(ai r1.cfg.mtu),(ai r1.cfg.try_),(AC.own (RC.mk 44 RK.hend r1.ends (RM.mk (dpM false (none)) false 0 false))),(AC.own (RC.mk 64 RK.hnet r1.net (RM.mk (dpM false (none)) false 0 false))),(ai r1.link)])] []))))) else (if ((e.kind == 7)=true) then (if ((e.kind == 7)=true) then (Tt (((WldI (WldN.mk w.cfg w.ends w.net w.link))∧((0≤e.who)∧((e.who≤1)∧((7≤e.kind)∧(e.kind≤9)))))∧(∀ r1:WldN,((WldI r1)∧(r1.cfg=w.cfg))→Tt (Tt (K [(Arg.v true [(ai r1.cfg.mode),(ai r1.cfg.win),(ai r1.cfg.mps),(ai r1.cfg.mtu),(ai r1.cfg.try_),(AC.own (RC.mk 44 RK.hend r1.ends (RM.mk (dpM false (none)) false 0 false))),(AC.own (RC.mk 64 RK.hnet r1.net (RM.mk (dpM false (none)) false 0 false))),(ai r1.link)])] []))))) else (if ((e.kind == 10)=true) then (True∧(True∧(Tt (K [(Arg.v true [(ai w.cfg.mode),(ai w.cfg.win),(ai w.cfg.mps),(ai w.cfg.mtu),(ai w.cfg.try_),(AC.own (RC.mk 44 RK.hend w.ends (RM.mk (dpM false (none)) false 0 false))),(AC.own (RC.mk 64 RK.hnet ((0:Nat) :: ((0:Nat) :: ([]:(List Nat)):(List Nat)):(List Nat)) (RM.mk (dpM false (none)) false 0 false))),(ai (IntKind.i64.wrap ((1:Int) - w.link)))])] [])))) else (if ((e.kind == 11)=true) then (((0≤e.who)∧(e.who < ((w.net.length:Nat):Int)))∧(if ((decide ((((at_hnet w.net e.who.toNat):Nat):Int) < (30:Int)))=true) then (if ((decide (((e.data:Nat):Int)≤(15:Int)))=true) then (((0≤e.who)∧(e.who < ((w.net.length:Nat):Int)))∧(True∧(Tt (((0 + e.data)≤137438953472)∧(Tt (((((RK.u8=RK.u8)∧((0 + e.data)≤1000))∧True)∧True)∧(Tt ((((at_hnet w.net e.who.toNat) + 1)≤137438953472)∧(Tt (((0≤e.who)∧(e.who < ((w.net.length:Nat):Int)))∧(Tt (Tt (K [(Arg.v true [(ai w.cfg.mode),(ai w.cfg.win),(ai w.cfg.mps),(ai w.cfg.mtu),(ai w.cfg.try_),(AC.own (RC.mk 44 RK.hend w.ends (RM.mk (dpM false (none)) false 0 false))),(AC.own (RC.mk 64 RK.hnet (List.set w.net e.who.toNat ((at_hnet w.net e.who.toNat) + 1)) (RM.mk (dpM false (none)) false 0 false))),(ai w.link)])] []))))))))))))) else (Tt (K [(Arg.v true [(ai w.cfg.mode),(ai w.cfg.win),(ai w.cfg.mps),(ai w.cfg.mtu),(ai w.cfg.try_),(AC.own (RC.mk 44 RK.hend w.ends (RM.mk (dpM false (none)) false 0 false))),(AC.own (RC.mk 64 RK.hnet w.net (RM.mk (dpM false (none)) false 0 false))),(ai w.link)])] []))) else (Tt (K [(Arg.v true [(ai w.cfg.mode),(ai w.cfg.win),(ai w.cfg.mps),(ai w.cfg.mtu),(ai w.cfg.try_),(AC.own (RC.mk 44 RK.hend w.ends (RM.mk (dpM false (none)) false 0 false))),(AC.own (RC.mk 64 RK.hnet w.net (RM.mk (dpM false (none)) false 0 false))),(ai w.link)])] [])))) else (Tt (K [(Arg.v true [(ai w.cfg.mode),(ai w.cfg.win),(ai w.cfg.mps),(ai w.cfg.mtu),(ai w.cfg.try_),(AC.own (RC.mk 44 RK.hend w.ends (RM.mk (dpM false (none)) false 0 false))),(AC.own (RC.mk 64 RK.hnet w.net (RM.mk (dpM false (none)) false 0 false))),(ai w.link)])] []))))) else (if ((e.kind == 8)=true) then (if ((e.kind == 8)=true) then (Tt (((WldI (WldN.mk w.cfg w.ends w.net w.link))∧((0≤e.who)∧((e.who≤1)∧((7≤e.kind)∧(e.kind≤9)))))∧(∀ r1:WldN,((WldI r1)∧(r1.cfg=w.cfg))→Tt (Tt (K [(Arg.v true [(ai r1.cfg.mode),(ai r1.cfg.win),(ai r1.cfg.mps),(ai r1.cfg.mtu),(ai r1.cfg.try_),(AC.own (RC.mk 44 RK.hend r1.ends (RM.mk (dpM false (none)) false 0 false))),(AC.own (RC.mk 64 RK.hnet r1.net (RM.mk (dpM false (none)) false 0 false))),(ai r1.link)])] []))))) else (if ((e.kind == 10)=true) then (True∧(True∧(Tt (K [(Arg.v true [(ai w.cfg.mode),(ai w.cfg.win),(ai w.cfg.mps),(ai w.cfg.mtu),(ai w.cfg.try_),(AC.own (RC.mk 44 RK.hend w.ends (RM.mk (dpM false (none)) false 0 false))),(AC.own (RC.mk 64 RK.hnet ((0:Nat) :: ((0:Nat) :: ([]:(List Nat)):(List Nat)):(List Nat)) (RM.mk (dpM false (none)) false 0 false))),(ai (IntKind.i64.wrap ((1:Int) - w.link)))])] [])))) else (if ((e.kind == 11)=true) then (((0≤e.who)∧(e.who < ((w.net.length:Nat):Int)))∧(if ((decide ((((at_hnet w.net e.who.toNat):Nat):Int) < (30:Int)))=true) then (if ((decide (((e.data:Nat):Int)≤(15:Int)))=true) then (((0≤e.who)∧(e.who < ((w.net.length:Nat):Int)))∧(True∧(Tt (((0 + e.data)≤137438953472)∧(Tt (((((RK.u8=RK.u8)∧((0 + e.data)≤1000))∧True)∧True)∧(Tt ((((at_hnet w.net e.who.toNat) + 1)≤137438953472)∧(Tt (((0≤e.who)∧(e.who < ((w.net.length:Nat):Int)))∧(Tt (Tt (K [(Arg.v true [(ai w.cfg.mode),(ai w.cfg.win),(ai w.cfg.mps),(ai w.cfg.mtu),(ai w.cfg.try_),(AC.own (RC.mk 44 RK.hend w.ends (RM.mk (dpM false (none)) false 0 false))),(AC.own (RC.mk 64 RK.hnet (List.set w.net e.who.toNat ((at_hnet w.net e.who.toNat) + 1)) (RM.mk (dpM false (none)) false 0 false))),(ai w.link)])] []))))))))))))) else (Tt (K [(Arg.v true [(ai w.cfg.mode),(ai w.cfg.win),(ai w.cfg.mps),(ai w.cfg.mtu),(ai w.cfg.try_),(AC.own (RC.mk 44 RK.hend w.ends (RM.mk (dpM false (none)) false 0 false))),(AC.own (RC.mk 64 RK.hnet w.net (RM.mk (dpM false (none)) false 0 false))),(ai w.link)])] []))) else (Tt (K [(Arg.v true [(ai w.cfg.mode),(ai w.cfg.win),(ai w.cfg.mps),(ai w.cfg.mtu),(ai w.cfg.try_),(AC.own (RC.mk 44 RK.hend w.ends (RM.mk (dpM false (none)) false 0 false))),(AC.own (RC.mk 64 RK.hnet w.net (RM.mk (dpM false (none)) false 0 false))),(ai w.link)])] [])))) else (Tt (K [(Arg.v true [(ai w.cfg.mode),(ai w.cfg.win),(ai w.cfg.mps),(ai w.cfg.mtu),(ai w.cfg.try_),(AC.own (RC.mk 44 RK.hend w.ends (RM.mk (dpM false (none)) false 0 false))),(AC.own (RC.mk 64 RK.hnet w.net (RM.mk (dpM false (none)) false 0 false))),(ai w.link)])] []))))) else (if ((e.kind == 9)=true) then (Tt (((WldI (WldN.mk w.cfg w.ends w.net w.link))∧((0≤e.who)∧((e.who≤1)∧((7≤e.kind)∧(e.kind≤9)))))∧(∀ r1:WldN,((WldI r1)∧(r1.cfg=w.cfg))→Tt (Tt (K [(Arg.v true [(ai r1.cfg.mode),(ai r1.cfg.win),(ai r1.cfg.mps),(ai r1.cfg.mtu),(ai r1.cfg.try_),(AC.own (RC.mk 44 RK.hend r1.ends (RM.mk (dpM false (none)) false 0 false))),(AC.own (RC.mk 64 RK.hnet r1.net (RM.mk (dpM false (none)) false 0 false))),(ai r1.link)])] []))))) else (if ((e.kind == 10)=true) then (True∧(True∧(Tt (K [(Arg.v true [(ai w.cfg.mode),(ai w.cfg.win),(ai w.cfg.mps),(ai w.cfg.mtu),(ai w.cfg.try_),(AC.own (RC.mk 44 RK.hend w.ends (RM.mk (dpM false (none)) false 0 false))),(AC.own (RC.mk 64 RK.hnet ((0:Nat) :: ((0:Nat) :: ([]:(List Nat)):(List Nat)):(List Nat)) (RM.mk (dpM false (none)) false 0 false))),(ai (IntKind.i64.wrap ((1:Int) - w.link)))])] [])))) else (if ((e.kind == 11)=true) then (((0≤e.who)∧(e.who < ((w.net.length:Nat):Int)))∧(if ((decide ((((at_hnet w.net e.who.toNat):Nat):Int) < (30:Int)))=true) then (if ((decide (((e.data:Nat):Int)≤(15:Int)))=true) then (((0≤e.who)∧(e.who < ((w.net.length:Nat):Int)))∧(True∧(Tt (((0 + e.data)≤137438953472)∧(Tt (((((RK.u8=RK.u8)∧((0 + e.data)≤1000))∧True)∧True)∧(Tt ((((at_hnet w.net e.who.toNat) + 1)≤137438953472)∧(Tt (((0≤e.who)∧(e.who < ((w.net.length:Nat):Int)))∧(Tt (Tt (K [(Arg.v true [(ai w.cfg.mode),(ai w.cfg.win),(ai w.cfg.mps),(ai w.cfg.mtu),(ai w.cfg.try_),(AC.own (RC.mk 44 RK.hend w.ends (RM.mk (dpM false (none)) false 0 false))),(AC.own (RC.mk 64 RK.hnet (List.set w.net e.who.toNat ((at_hnet w.net e.who.toNat) + 1)) (RM.mk (dpM false (none)) false 0 false))),(ai w.link)])] []))))))))))))) else (Tt (K [(Arg.v true [(ai w.cfg.mode),(ai w.cfg.win),(ai w.cfg.mps),(ai w.cfg.mtu),(ai w.cfg.try_),(AC.own (RC.mk 44 RK.hend w.ends (RM.mk (dpM false (none)) false 0 false))),(AC.own (RC.mk 64 RK.hnet w.net (RM.mk (dpM false (none)) false 0 false))),(ai w.link)])] []))) else (Tt (K [(Arg.v true [(ai w.cfg.mode),(ai w.cfg.win),(ai w.cfg.mps),(ai w.cfg.mtu),(ai w.cfg.try_),(AC.own (RC.mk 44 RK.hend w.ends (RM.mk (dpM false (none)) false 0 false))),(AC.own (RC.mk 64 RK.hnet w.net (RM.mk (dpM false (none)) false 0 false))),(ai w.link)])] [])))) else (Tt (K [(Arg.v true [(ai w.cfg.mode),(ai w.cfg.win),(ai w.cfg.mps),(ai w.cfg.mtu),(ai w.cfg.try_),(AC.own (RC.mk 44 RK.hend w.ends (RM.mk (dpM false (none)) false 0 false))),(AC.own (RC.mk 64 RK.hnet w.net (RM.mk (dpM false (none)) false 0 false))),(ai w.link)])] [])))))))) else (if ((e.kind == 6)=true) then (Tt (((WldI (WldN.mk w.cfg w.ends w.net w.link))∧((0≤e.who)∧(e.who≤1)))∧(∀ r1:WldN,((WldI r1)∧(r1.cfg=w.cfg))→Tt (Tt (K [(Arg.v true [(ai r1.cfg.mode),(ai r1.cfg.win),(ai r1.cfg.mps),(ai r1.cfg.mtu),(ai r1.cfg.try_),(AC.own (RC.mk 44 RK.hend r1.ends (RM.mk (dpM false (none)) false 0 false))),(AC.own (RC.mk 64 RK.hnet r1.net (RM.mk (dpM false (none)) false 0 false))),(ai r1.link)])] []))))) else (if ((e.kind == 7)=true) then (if ((e.kind == 7)=true) then (Tt (((WldI (WldN.mk w.cfg w.ends w.net w.link))∧((0≤e.who)∧((e.who≤1)∧((7≤e.kind)∧(e.kind≤9)))))∧(∀ r1:WldN,((WldI r1)∧(r1.cfg=w.cfg))→Tt (Tt (K [(Arg.v true [(ai r1.cfg.mode),(ai r1.cfg.win),(ai r1.cfg.mps),(ai r1.cfg.mtu),(ai r1.cfg.try_),(AC.own (RC.mk 44 RK.hend r1.ends (RM.mk (dpM false (none)) false 0 false))),(AC.own (RC.mk 64 RK.hnet r1.net (RM.mk (dpM false (none)) false 0 false))),(ai r1.link)])] []))))) else (if ((e.kind == 10)=true) then (True∧(True∧(Tt (K [(Arg.v true [(ai w.cfg.mode),(ai w.cfg.win),(ai w.cfg.mps),(ai w.cfg.mtu),(ai w.cfg.try_),(AC.own (RC.mk 44 RK.hend w.ends (RM.mk (dpM false (none)) false 0 false))),(AC.own (RC.mk 64 RK.hnet ((0:Nat) :: ((0:Nat) :: ([]:(List Nat)):(List Nat)):(List Nat)) (RM.mk (dpM false (none)) false 0 false))),(ai (IntKind.i64.wrap ((1:Int) - w.link)))])] [])))) else (if ((e.kind == 11)=true) then (((0≤e.who)∧(e.who < ((w.net.length:Nat):Int)))∧(if ((decide ((((at_hnet w.net e.who.toNat):Nat):Int) < (30:Int)))=true) then (if ((decide (((e.data:Nat):Int)≤(15:Int)))=true) then (((0≤e.who)∧(e.who < ((w.net.length:Nat):Int)))∧(True∧(Tt (((0 + e.data)≤137438953472)∧(Tt (((((RK.u8=RK.u8)∧((0 + e.data)≤1000))∧True)∧True)∧(Tt ((((at_hnet w.net e.who.toNat) + 1)≤137438953472)∧(Tt (((0≤e.who)∧(e.who < ((w.net.length:Nat):Int)))∧(Tt (Tt (K [(Arg.v true [(ai w.cfg.mode),(ai w.cfg.win),(ai w.cfg.mps),(ai w.cfg.mtu),(ai w.cfg.try_),(AC.own (RC.mk 44 RK.hend w.ends (RM.mk (dpM false (none)) false 0 false))),(AC.own (RC.mk 64 RK.hnet (List.set w.net e.who.toNat ((at_hnet w.net e.who.toNat) + 1)) (RM.mk (dpM false (none)) false 0 false))),(ai w.link)])] []))))))))))))) else (Tt (K [(Arg.v true [(ai w.cfg.mode),(ai w.cfg.win),(ai w.cfg.mps),(ai w.cfg.mtu),(ai w.cfg.try_),(AC.own (RC.mk 44 RK.hend w.ends (RM.mk (dpM false (none)) false 0 false))),(AC.own (RC.mk 64 RK.hnet w.net (RM.mk (dpM false (none)) false 0 false))),(ai w.link)])] []))) else (Tt (K [(Arg.v true [(ai w.cfg.mode),(ai w.cfg.win),(ai w.cfg.mps),(ai w.cfg.mtu),(ai w.cfg.try_),(AC.own (RC.mk 44 RK.hend w.ends (RM.mk (dpM false (none)) false 0 false))),(AC.own (RC.mk 64 RK.hnet w.net (RM.mk (dpM false (none)) false 0 false))),(ai w.link)])] [])))) else (Tt (K [(Arg.v true [(ai w.cfg.mode),(ai w.cfg.win),(ai w.cfg.mps),(ai w.cfg.mtu),(ai w.cfg.try_),(AC.own (RC.mk 44 RK.hend w.ends (RM.mk (dpM false (none)) false 0 false))),(AC.own (RC.mk 64 RK.hnet w.net (RM.mk (dpM false (none)) false 0 false))),(ai w.link)])] []))))) else (if ((e.kind == 8)=true) then (if ((e.kind == 8)=true) then (Tt (((WldI (WldN.mk w.cfg w.ends w.net w.link))∧((0≤e.who)∧((e.who≤1)∧((7≤e.kind)∧(e.kind≤9)))))∧(∀ r1:WldN,((WldI r1)∧(r1.cfg=w.cfg))→Tt (Tt (K [(Arg.v true [(ai r1.cfg.mode),(ai r1.cfg.win),(ai r1.cfg.mps),(ai r1.cfg.mtu),(ai r1.cfg.try_),(AC.own (RC.mk 44 RK.hend r1.ends (RM.mk (dpM false (none)) false 0 false))),(AC.own (RC.mk 64 RK.hnet r1.net (RM.mk (dpM false (none)) false 0 false))),(ai r1.link)])] []))))) else (if ((e.kind == 10)=true) then (True∧(True∧(Tt (K [(Arg.v true [(ai w.cfg.mode),(ai w.cfg.win),(ai w.cfg.mps),(ai w.cfg.mtu),(ai w.cfg.try_),(AC.own (RC.mk 44 RK.hend w.ends (RM.mk (dpM false (none)) false 0 false))),(AC.own (RC.mk 64 RK.hnet ((0:Nat) :: ((0:Nat) :: ([]:(List Nat)):(List Nat)):(List Nat)) (RM.mk (dpM false (none)) false 0 false))),(ai (IntKind.i64.wrap ((1:Int) - w.link)))])] [])))) else (if ((e.kind == 11)=true) then (((0≤e.who)∧(e.who < ((w.net.length:Nat):Int)))∧(if ((decide ((((at_hnet w.net e.who.toNat):Nat):Int) < (30:Int)))=true) then (if ((decide (((e.data:Nat):Int)≤(15:Int)))=true) then (((0≤e.who)∧(e.who < ((w.net.length:Nat):Int)))∧(True∧(Tt (((0 + e.data)≤137438953472)∧(Tt (((((RK.u8=RK.u8)∧((0 + e.data)≤1000))∧True)∧True)∧(Tt ((((at_hnet w.net e.who.toNat) + 1)≤137438953472)∧(Tt (((0≤e.who)∧(e.who < ((w.net.length:Nat):Int)))∧(Tt (Tt (K [(Arg.v true [(ai w.cfg.mode),(ai w.cfg.win),(ai w.cfg.mps),(ai w.cfg.mtu),(ai w.cfg.try_),(AC.own (RC.mk 44 RK.hend w.ends (RM.mk (dpM false (none)) false 0 false))),(AC.own (RC.mk 64 RK.hnet (List.set w.net e.who.toNat ((at_hnet w.net e.who.toNat) + 1)) (RM.mk (dpM false (none)) false 0 false))),(ai w.link)])] []))))))))))))) else (Tt (K [(Arg.v true [(ai w.cfg.mode),(ai w.cfg.win),(ai w.cfg.mps),(ai w.cfg.mtu),(ai w.cfg.try_),(AC.own (RC.mk 44 RK.hend w.ends (RM.mk (dpM false (none)) false 0 false))),(AC.own (RC.mk 64 RK.hnet w.net (RM.mk (dpM false (none)) false 0 false))),(ai w.link)])] []))) else (Tt (K [(Arg.v true [(ai w.cfg.mode),(ai w.cfg.win),(ai w.cfg.mps),(ai w.cfg.mtu),(ai w.cfg.try_),(AC.own (RC.mk 44 RK.hend w.ends (RM.mk (dpM false (none)) false 0 false))),(AC.own (RC.mk 64 RK.hnet w.net (RM.mk (dpM false (none)) false 0 false))),(ai w.link)])] [])))) else (Tt (K [(Arg.v true [(ai w.cfg.mode),(ai w.cfg.win),(ai w.cfg.mps),(ai w.cfg.mtu),(ai w.cfg.try_),(AC.own (RC.mk 44 RK.hend w.ends (RM.mk (dpM false (none)) false 0 false))),(AC.own (RC.mk 64 RK.hnet w.net (RM.mk (dpM false (none)) false 0 false))),(ai w.link)])] []))))) else (if ((e.kind == 9)=true) then (Tt (((WldI (WldN.mk w.cfg w.ends w.net w.link))∧((0≤e.who)∧((e.who≤1)∧((7≤e.kind)∧(e.kind≤9)))))∧(∀ r1:WldN,((WldI r1)∧(r1.cfg=w.cfg))→Tt (Tt (K [(Arg.v true [(ai r1.cfg.mode),(ai r1.cfg.win),(ai r1.cfg.mps),(ai r1.cfg.mtu),(ai r1.cfg.try_),(AC.own (RC.mk 44 RK.hend r1.ends (RM.mk (dpM false (none)) false 0 false))),(AC.own (RC.mk 64 RK.hnet r1.net (RM.mk (dpM false (none)) false 0 false))),(ai r1.link)])] []))))) else (if ((e.kind == 10)=true) then (True∧(True∧(Tt (K [(Arg.v true [(ai w.cfg.mode),(ai w.cfg.win),(ai w.cfg.mps),(ai w.cfg.mtu),(ai w.cfg.try_),(AC.own (RC.mk 44 RK.hend w.ends (RM.mk (dpM false (none)) false 0 false))),(AC.own (RC.mk 64 RK.hnet ((0:Nat) :: ((0:Nat) :: ([]:(List Nat)):(List Nat)):(List Nat)) (RM.mk (dpM false (none)) false 0 false))),(ai (IntKind.i64.wrap ((1:Int) - w.link)))])] [])))) else (if ((e.kind == 11)=true) then (((0≤e.who)∧(e.who < ((w.net.length:Nat):Int)))∧(if ((decide ((((at_hnet w.net e.who.toNat):Nat):Int) < (30:Int)))=true) then (if ((decide (((e.data:Nat):Int)≤(15:Int)))=true) then (((0≤e.who)∧(e.who < ((w.net.length:Nat):Int)))∧(True∧(Tt (((0 + e.data)≤137438953472)∧(Tt (((((RK.u8=RK.u8)∧((0 + e.data)≤1000))∧True)∧True)∧(Tt ((((at_hnet w.net e.who.toNat) + 1)≤137438953472)∧(Tt (((0≤e.who)∧(e.who < ((w.net.length:Nat):Int)))∧(Tt (Tt (K [(Arg.v true [(ai w.cfg.mode),(ai w.cfg.win),(ai w.cfg.mps),(ai w.cfg.mtu),(ai w.cfg.try_),(AC.own (RC.mk 44 RK.hend w.ends (RM.mk (dpM false (none)) false 0 false))),(AC.own (RC.mk 64 RK.hnet (List.set w.net e.who.toNat ((at_hnet w.net e.who.toNat) + 1)) (RM.mk (dpM false (none)) false 0 false))),(ai w.link)])] []))))))))))))) else (Tt (K [(Arg.v true [(ai w.cfg.mode),(ai w.cfg.win),(ai w.cfg.mps),(ai w.cfg.mtu),(ai w.cfg.try_),(AC.own (RC.mk 44 RK.hend w.ends (RM.mk (dpM false (none)) false 0 false))),(AC.own (RC.mk 64 RK.hnet w.net (RM.mk (dpM false (none)) false 0 false))),(ai w.link)])] []))) else (Tt (K [(Arg.v true [(ai w.cfg.mode),(ai w.cfg.win),(ai w.cfg.mps),(ai w.cfg.mtu),(ai w.cfg.try_),(AC.own (RC.mk 44 RK.hend w.ends (RM.mk (dpM false (none)) false 0 false))),(AC.own (RC.mk 64 RK.hnet w.net (RM.mk (dpM false (none)) false 0 false))),(ai w.link)])] [])))) else (Tt (K [(Arg.v true [(ai w.cfg.mode),(ai w.cfg.win),(ai w.cfg.mps),(ai w.cfg.mtu),(ai w.cfg.try_),(AC.own (RC.mk 44 RK.hend w.ends (RM.mk (dpM false (none)) false 0 false))),(AC.own (RC.mk 64 RK.hnet w.net (RM.mk (dpM false (none)) false 0 false))),(ai w.link)])] [])))))))))))))))) := by
  have hw := hp.1
  have hc := hw.cfg
  have hl1 := hw.el
  have hl2 := hw.nl
  have he0 := hw.en e.who.toNat
  have hn0 := hw.nn e.who.toNat
  have he1 := hw.en (1 - e.who).toNat
  have hn1 := hw.nn (1 - e.who).toNat
  have hkk := fun a1_ a2_ a3_ a4_ a5_ a6_ a7_ a8_ h_ => hk ⟨⟨a1_, a2_, a3_, a4_, a5_⟩, a6_, a7_, a8_⟩ h_
  dsimp only [rWldNO, wldNO, rS, List.map] at hkk
  try simp (disch := omega) only [wr]
  repeat' first
    | exact rfl
    | exact True.intro
    | with_reducible apply And.intro
    | (intro (hy_ : WldI _ ∧ _)
       obtain ⟨hw_, hc_⟩ := hy_
       try have hm_ := hc_.2
       try have hc_ := hc_.1
       have hl1_ := hw_.el
       have hl2_ := hw_.nl)
    | (with_reducible intro y_ hy_; subst hy_)
    | with_reducible intro y_
    | (refine iteI (fun h => ?_) (fun h => ?_))
    | fail
  all_goals try simp only [cq1, cq2, cq3, cq4, cq5, cq6, cq7, cq8, cq9, cq10, cq11, cq12, cq13, cq14, cq15, cq16, cq17, cq18, cq19] at *
  all_goals try simp (disch := omega) only [hend_self, hnet_self, List.length_set] at *
  all_goals try simp (disch := omega) only [wr] at *
  all_goals first
    | assumption
    | omega
    | exact hi.2.1
    | exact hc_
    | exact hc_.trans hi.2.1
    | (refine WldI.mk ?_ ?_ ?_ ?_ ?_
       all_goals try dsimp only
       all_goals repeat' first | (refine endI_set ?_ ?_) | (refine netI_set ?_ ?_) | (refine lenE_set ?_) | (refine lenN_set ?_)
       all_goals first
         | assumption
         | (apply WldI.cfg; assumption)
         | (apply WldI.en; assumption)
         | (apply WldI.nn; assumption)
         | exact netI_00
         | omega
         | (simp only [EndI, TxB, JInv] at *; omega)
         | grind [EndI, TxB, JInv]
         | skip)
    | (refine hkk _ _ _ _ _ _ _ _ ?_
       refine ⟨?_, ?_⟩
       · (refine WldI.mk ?_ ?_ ?_ ?_ ?_
          all_goals try dsimp only
          all_goals repeat' first | (refine endI_set ?_ ?_) | (refine netI_set ?_ ?_) | (refine lenE_set ?_) | (refine lenN_set ?_)
          all_goals first
            | assumption
            | (apply WldI.cfg; assumption)
            | (apply WldI.en; assumption)
            | (apply WldI.nn; assumption)
            | exact netI_00
            | omega
            | (simp only [EndI, TxB, JInv] at *; omega)
            | grind [EndI, TxB, JInv]
            | skip)
       · first | done | rfl | assumption | exact hi.2.1 | exact hc_ | exact hc_.trans hi.2.1 | exact hc_.trans (by assumption) | grind)
    | exact (wr8_in _).1
    | exact (wr8_in _).2
    | (simp only [EndI, TxB, JInv, LIM, HL] at *; omega)
    | grind [EndI, TxB, JInv, LIM, HL]
theorem w_spec_l9Step : Valid Try.prog 25 c_spec_l9Step :=
  valid_ctr2 (V := V_spec_l9Step) (tysB_ok tys2_ok) ⟨(CallsL.cons w_spec_l1In (CallsL.cons w_spec_l9Put (CallsL.cons w_spec_l9Send (CallsL.cons w_spec_l9Tick (CallsL.cons w_spec_l9Say (CallsL.cons w_spec_l9Net (CallsL.nil _))))))), (IosL.nil _)⟩ mixed 0 3 Try.func25 rfl (by kernel_rfl)
    (fun c hc => by
      obtain rfl := Option.some.inj hc
      exact ⟨trivial, ⟨⟨trivial, ⟨⟨trivial, trivial⟩, trivial⟩⟩, ⟨⟨trivial, ⟨trivial, ⟨⟨trivial, trivial⟩, ⟨trivial, ⟨⟨trivial, trivial⟩, ⟨trivial, ⟨⟨trivial, trivial⟩, ⟨⟨trivial, ⟨trivial, ⟨trivial, ⟨trivial, trivial⟩⟩⟩⟩, ⟨⟨trivial, trivial⟩, ⟨⟨trivial, ⟨trivial, ⟨trivial, ⟨trivial, trivial⟩⟩⟩⟩, ⟨⟨trivial, trivial⟩, ⟨trivial, ⟨⟨trivial, trivial⟩, ⟨trivial, ⟨⟨trivial, ⟨trivial, trivial⟩⟩, trivial⟩⟩⟩⟩⟩⟩⟩⟩⟩⟩⟩⟩⟩⟩⟩, ⟨trivial, trivial⟩⟩⟩⟩)
    (fun x K hp hk => ⟨_, by kernel_rfl, vF_spec_l9Step x.1 x.2 K hp (fun q h => hk q h)⟩)
end Go.Proofs.YtjjcjpmfkbfdfaaE
