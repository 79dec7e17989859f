/- A part of the proof of laws of the program: what calls of the program answer. Conditions: none. -/
import Derived.Test.YtjjcjpmfkbfdfaaMee182051
set_option linter.unusedVariables false
set_option linter.unusedSimpArgs false
set_option linter.unusedSectionVars false

/- Contracts: N4. Conditions: none. -/
set_option linter.unusedVariables false
set_option maxHeartbeats 1600000
namespace Go.Proofs.YtjjcjpmfkbfdfaaE
open Go
/-! spec.RxOk -/
def c_spec_RxOk : Ent := ctr (α := (RxN)) (ρ := (Bool)) [] [] (rs1 rRxN) (fun x_ => (fun (r : RxN) => (True)) x_) (fun x_ r_ => (fun x_ => (fun (r : RxN) => ((fun r_ => (fun (b : Bool) => (True)) r_))) x_) x_ r_) (fun r_ => (fun (b : Bool) => ([rB.to b])) r_) (fun r_ => (fun (b : Bool) => ([])) r_)
def V_spec_RxOk : Env := ⟨tys2, [(42, c_spec_l1In), (73, c_spec_NumOf), (87, c_spec_JoinOk)], [], [(1, 0)], [], [], [500006, 500011, 500019], [], [(1, [(0, false), (1, false), (2, true), (3, false), (4, false), (5, false), (6, true), (7, false), (8, false), (9, false), (10, false), (12, false), (13, false), (11, true), (14, false), (15, false), (16, false), (17, false), (18, false), (19, true), (20, false), (21, false)])]⟩
/-! spec.l7Copy -/
def c_spec_l7Copy : Ent := ctr (α := (RxN)) (ρ := (RxN)) [] [] (rs1 rRxN) (fun x_ => (fun (r : RxN) => (r.got ≤ 1000)) x_) (fun x_ r_ => (fun x_ => (fun (r : RxN) => ((fun r_ => (fun (q : RxN) => (q = r)) r_))) x_) x_ r_) (fun r_ => (fun (q : RxN) => ([rRxN.to q])) r_) (fun r_ => (fun (q : RxN) => ([])) r_)
def V_spec_l7Copy : Env := ⟨tys2, [], [], [(1, 0), (2, 1), (3, 2)], [], [], [], [], []⟩
/-! spec.l7Say -/
def c_spec_l7Say : Ent := ctr (α := (RxN) × (Bool)) (ρ := (FrmN)) [] [] (rs rRxN (rs1 rB)) (fun x_ => (fun (r : RxN) (b : Bool) => (True)) x_.1 x_.2) (fun x_ r_ => (fun x_ => (fun (r : RxN) (b : Bool) => ((fun r_ => (fun (f : FrmN) => (f.data = 0)) r_))) x_.1 x_.2) x_ r_) (fun r_ => (fun (f : FrmN) => ([rFrmN.to f])) r_) (fun r_ => (fun (f : FrmN) => ([])) r_)
def V_spec_l7Say : Env := ⟨tys2, [], [], [(2, 0), (4, 1), (5, 2)], [], [], [], [], []⟩
/-! spec.l7Take -/
def c_spec_l7Take : Ent := ctr (α := (Cfg) × (RxN) × (FrmN)) (ρ := (RxN) × (Nat)) [] [] (rs rCfg (rs rRxN (rs1 rFrmN))) (fun x_ => (fun (c : Cfg) (r : RxN) (f : FrmN) => (JInv r.len r.got ∧ SegP f.seg f.len f.data)) x_.1 x_.2.1 x_.2.2) (fun x_ r_ => (fun x_ => (fun (c : Cfg) (r : RxN) (f : FrmN) => ((fun r_ => (fun (q : RxN) (s : Nat) => (JInv q.len q.got ∧ s ≤ 1)) r_.1 r_.2))) x_.1 x_.2.1 x_.2.2) x_ r_) (fun r_ => (fun (q : RxN) (s : Nat) => ([rRxN.to q, (rH .byr).to s])) r_.1 r_.2) (fun r_ => (fun (q : RxN) (s : Nat) => ([])) r_.1 r_.2)
def V_spec_l7Take : Env := ⟨tys2, [(32, c_spec_NumNext), (89, c_spec_l4Put)], [], [(3, 0), (4, 1), (5, 2), (6, 3), (8, 4), (9, 5)], [], [], [500024, 500032], [], []⟩
/-! spec.l7Data -/
def c_spec_l7Data : Ent := ctr (α := (Cfg) × (RxN) × (FrmN)) (ρ := (RxN) × (Nat) × (Nat)) [] [] (rs rCfg (rs rRxN (rs1 rFrmN))) (fun x_ => (fun (c : Cfg) (r : RxN) (f : FrmN) => (JInv r.len r.got ∧ SegP f.seg f.len f.data)) x_.1 x_.2.1 x_.2.2) (fun x_ r_ => (fun x_ => (fun (c : Cfg) (r : RxN) (f : FrmN) => ((fun r_ => (fun (q : RxN) (s : Nat) (t : Nat) => (JInv q.len q.got ∧ s ≤ 1 ∧ t ≤ 1)) r_.1 r_.2.1 r_.2.2))) x_.1 x_.2.1 x_.2.2) x_ r_) (fun r_ => (fun (q : RxN) (s : Nat) (t : Nat) => ([rRxN.to q, (rH .byr).to s, (rH .frm).to t])) r_.1 r_.2.1 r_.2.2) (fun r_ => (fun (q : RxN) (s : Nat) (t : Nat) => ([])) r_.1 r_.2.1 r_.2.2)
def V_spec_l7Data : Env := ⟨tys2, [(67, c_spec_l7Say), (72, c_spec_NumFar), (92, c_spec_l7Take)], [], [(3, 0), (4, 1), (5, 2), (6, 3), (10, 4)], [(2, ([3], [])), (9, ([3], []))], [], [500040], [], []⟩
/-! spec.l7Hear -/
def c_spec_l7Hear : Ent := ctr (α := (Cfg) × (RxN) × (FrmN)) (ρ := (RxN) × (Nat) × (Nat)) [] [] (rs rCfg (rs rRxN (rs1 rFrmN))) (fun x_ => (fun (c : Cfg) (r : RxN) (f : FrmN) => (JInv r.len r.got ∧ FrmPN f)) x_.1 x_.2.1 x_.2.2) (fun x_ r_ => (fun x_ => (fun (c : Cfg) (r : RxN) (f : FrmN) => ((fun r_ => (fun (q : RxN) (s : Nat) (t : Nat) => (JInv q.len q.got ∧ s ≤ 1 ∧ t ≤ 1)) r_.1 r_.2.1 r_.2.2))) x_.1 x_.2.1 x_.2.2) x_ r_) (fun r_ => (fun (q : RxN) (s : Nat) (t : Nat) => ([rRxN.to q, (rH .byr).to s, (rH .frm).to t])) r_.1 r_.2.1 r_.2.2) (fun r_ => (fun (q : RxN) (s : Nat) (t : Nat) => ([])) r_.1 r_.2.1 r_.2.2)
def V_spec_l7Hear : Env := ⟨tys2, [(67, c_spec_l7Say), (90, c_spec_l7Data)], [], [(3, 0), (4, 1), (5, 2), (6, 3)], [(7, ([3], []))], [], [], [], []⟩
/-! spec.l7Sdus -/
def c_spec_l7Sdus : Ent := ctr (α := (Nat)) (ρ := (Nat)) [] [] (rs1 (rH .byr)) (fun x_ => (fun (m : Nat) => (m ≤ 1000)) x_) (fun x_ r_ => (fun x_ => (fun (m : Nat) => ((fun r_ => (fun (r : Nat) => (r = m)) r_))) x_) x_ r_) (fun r_ => (fun (r : Nat) => ([(rH .byr).to r])) r_) (fun r_ => (fun (r : Nat) => ([])) r_)
def l_spec_l7Sdus_0 : LoopD ((Nat) × (Nat) × (Int)) ((Nat)) ((Empty)) where
  n := 22
  head := ⟨[0, 3, 4], [], []⟩
  st := fun x_ => (fun (m : Nat) (o : Nat) (i : Int) => (⟨true, [(0, .v false [.d (.h .byr m)]), (3, .v false [.d (.h .byr o)]), (4, num .i64 i)], [], []⟩)) x_.1 x_.2.1 x_.2.2
  pre := fun x_ => (fun (m : Nat) (o : Nat) (i : Int) => (m ≤ 1000 ∧ o = 0 ∧ i = 0)) x_.1 x_.2.1 x_.2.2
  nk := ⟨[3], [], []⟩
  nst := fun r_ => (fun (o : Nat) => (⟨true, [(3, .v false [.d (.h .byr o)])], [], []⟩)) r_
  npost := fun x_ r_ => (fun x_ => (fun (m0 : Nat) (o0 : Nat) (i0 : Int) => ((fun r_ => (fun (o : Nat) => (o = m0)) r_))) x_.1 x_.2.1 x_.2.2) x_ r_
  rk := ⟨[], [], []⟩
  rst := fun _ => ⟨true, [], [], []⟩
  rpost := fun _ _ => False
def i_spec_l7Sdus_0 (x : (Nat) × (Nat) × (Int)) (n : Nat) (s : (Nat) × (Nat) × (Int)) : Prop := (fun x_ => (fun (m0 : Nat) (o0 : Nat) (i0 : Int) => ((fun s_ => (fun (m : Nat) (o : Nat) (i : Int) => (m = m0 ∧ m ≤ 1000 ∧ 0 ≤ i ∧ (o : Int) = i ∧ i + n = m)) s_.1 s_.2.1 s_.2.2))) x_.1 x_.2.1 x_.2.2) x s
def V_spec_l7Sdus : Env := ⟨tys2, [], [], [], [], [(0, l_spec_l7Sdus_0.L)], [], [], []⟩
/-! spec.RxBusy -/
def c_spec_RxBusy : Ent := ctr (α := (RxN) × (Bool)) (ρ := (RxN) × (Nat)) [] [] (rs rRxN (rs1 rB)) (fun x_ => (fun (r : RxN) (b : Bool) => (JInv r.len r.got)) x_.1 x_.2) (fun x_ r_ => (fun x_ => (fun (r : RxN) (b : Bool) => ((fun r_ => (fun (q : RxN) (t : Nat) => (JInv q.len q.got ∧ t ≤ 1)) r_.1 r_.2))) x_.1 x_.2) x_ r_) (fun r_ => (fun (q : RxN) (t : Nat) => ([rRxN.to q, (rH .frm).to t])) r_.1 r_.2) (fun r_ => (fun (q : RxN) (t : Nat) => ([])) r_.1 r_.2)
def V_spec_RxBusy : Env := ⟨tys2, [(49, c_spec_l7Copy), (67, c_spec_l7Say), (79, c_spec_RxOk)], [], [(2, 0), (4, 1), (6, 2)], [(8, ([1], []))], [], [500018], [], []⟩
/-! spec.CrdTxOk -/
def c_spec_CrdTxOk : Ent := ctr (α := (Cfg) × (CtN)) (ρ := (Bool)) [] [] (rs rCfg (rs1 rCtN)) (fun x_ => (fun (c : Cfg) (t : CtN) => (t.queue ≤ 1000)) x_.1 x_.2) (fun x_ r_ => (fun x_ => (fun (c : Cfg) (t : CtN) => ((fun r_ => (fun (r : Bool) => (r = true → CfgP c ∧ t.queue ≤ 24)) r_))) x_.1 x_.2) x_ r_) (fun r_ => (fun (r : Bool) => ([rB.to r])) r_) (fun r_ => (fun (r : Bool) => ([])) r_)
def V_spec_CrdTxOk : Env := ⟨tys2, [(39, c_spec_CfgOk), (42, c_spec_l1In), (74, c_spec_l6Parts)], [], [(2, 0), (3, 1)], [], [], [500007, 500012, 500018, 500023, 500028, 500038], [], []⟩
/-! spec.CrdRxOk -/
def c_spec_CrdRxOk : Ent := ctr (α := (CrN)) (ρ := (Bool)) [] [] (rs1 rCrN) (fun x_ => (fun (r : CrN) => (True)) x_) (fun x_ r_ => (fun x_ => (fun (r : CrN) => ((fun r_ => (fun (b : Bool) => (True)) r_))) x_) x_ r_) (fun r_ => (fun (b : Bool) => ([rB.to b])) r_) (fun r_ => (fun (b : Bool) => ([])) r_)
def V_spec_CrdRxOk : Env := ⟨tys2, [(42, c_spec_l1In), (87, c_spec_JoinOk)], [], [(1, 0)], [], [], [500006], [], []⟩
/-! spec.l8Tx -/
def c_spec_l8Tx : Ent := ctr (α := (CtN)) (ρ := (CtN)) [] [] (rs1 rCtN) (fun x_ => (fun (t : CtN) => (t.queue ≤ 1000)) x_) (fun x_ r_ => (fun x_ => (fun (t : CtN) => ((fun r_ => (fun (q : CtN) => (q = t)) r_))) x_) x_ r_) (fun r_ => (fun (q : CtN) => ([rCtN.to q])) r_) (fun r_ => (fun (q : CtN) => ([])) r_)
def V_spec_l8Tx : Env := ⟨tys2, [(61, c_spec_l6List)], [], [(1, 0), (2, 1), (3, 2)], [], [], [], [], []⟩
/-! spec.l8Rx -/
def c_spec_l8Rx : Ent := ctr (α := (CrN)) (ρ := (CrN)) [] [] (rs1 rCrN) (fun x_ => (fun (r : CrN) => (r.got ≤ 1000)) x_) (fun x_ r_ => (fun x_ => (fun (r : CrN) => ((fun r_ => (fun (q : CrN) => (q = r)) r_))) x_) x_ r_) (fun r_ => (fun (q : CrN) => ([rCrN.to q])) r_) (fun r_ => (fun (q : CrN) => ([])) r_)
def V_spec_l8Rx : Env := ⟨tys2, [], [], [(1, 0), (2, 1), (3, 2)], [], [], [], [], []⟩
/-! spec.CrdPut -/
def c_spec_CrdPut : Ent := ctr (α := (Cfg) × (CtN) × (Nat)) (ρ := (CtN) × (Bool)) [] [] (rs rCfg (rs rCtN (rs1 (rH .u8)))) (fun x_ => (fun (c : Cfg) (t : CtN) (m : Nat) => (t.queue ≤ 1000 ∧ m ≤ 1000)) x_.1 x_.2.1 x_.2.2) (fun x_ r_ => (fun x_ => (fun (c : Cfg) (t : CtN) (m : Nat) => ((fun r_ => (fun (q : CtN) (b : Bool) => (q.queue ≤ 24 ∧ (b = true → m ≤ 24))) r_.1 r_.2))) x_.1 x_.2.1 x_.2.2) x_ r_) (fun r_ => (fun (q : CtN) (b : Bool) => ([rCtN.to q, rB.to b])) r_.1 r_.2) (fun r_ => (fun (q : CtN) (b : Bool) => ([])) r_.1 r_.2)
def V_spec_CrdPut : Env := ⟨tys2, [(50, c_spec_l8Tx), (59, c_spec_CrdTxOk), (60, c_spec_SegCut)], [], [(3, 0), (4, 1), (6, 2), (8, 3)], [], [], [500023, 500030], [], []⟩
/-! spec.CrdSend -/
def c_spec_CrdSend : Ent := ctr (α := (Cfg) × (CtN)) (ρ := (CtN) × (FrmN) × (Bool)) [] [] (rs rCfg (rs1 rCtN)) (fun x_ => (fun (c : Cfg) (t : CtN) => (t.queue ≤ 1000)) x_.1 x_.2) (fun x_ r_ => (fun x_ => (fun (c : Cfg) (t : CtN) => ((fun r_ => (fun (q : CtN) (f : FrmN) (b : Bool) => (q.queue ≤ 24 ∧ f.data ≤ 1000)) r_.1 r_.2.1 r_.2.2))) x_.1 x_.2) x_ r_) (fun r_ => (fun (q : CtN) (f : FrmN) (b : Bool) => ([rCtN.to q, rFrmN.to f, rB.to b])) r_.1 r_.2.1 r_.2.2) (fun r_ => (fun (q : CtN) (f : FrmN) (b : Bool) => ([])) r_.1 r_.2.1 r_.2.2)
def V_spec_CrdSend : Env := ⟨tys2, [(50, c_spec_l8Tx), (59, c_spec_CrdTxOk), (61, c_spec_l6List)], [], [(2, 0), (3, 1), (4, 2), (5, 3), (7, 4), (8, 5)], [(10, ([2, 3], []))], [], [500019, 500024, 500030], [], [(10, [(0, false), (1, false), (2, false), (3, false), (4, false), (6, false), (7, false), (5, true), (8, true), (9, false), (10, true), (11, true), (12, false)])]⟩
/-! spec.CrdTake -/
def c_spec_CrdTake : Ent := ctr (α := (Cfg) × (CtN) × (Int)) (ρ := (CtN)) [] [] (rs rCfg (rs rCtN (rs1 rInt))) (fun x_ => (fun (c : Cfg) (t : CtN) (n : Int) => (t.queue ≤ 1000)) x_.1 x_.2.1 x_.2.2) (fun x_ r_ => (fun x_ => (fun (c : Cfg) (t : CtN) (n : Int) => ((fun r_ => (fun (q : CtN) => (q.queue ≤ 24)) r_))) x_.1 x_.2.1 x_.2.2) x_ r_) (fun r_ => (fun (q : CtN) => ([rCtN.to q])) r_) (fun r_ => (fun (q : CtN) => ([])) r_)
def V_spec_CrdTake : Env := ⟨tys2, [(42, c_spec_l1In), (50, c_spec_l8Tx), (59, c_spec_CrdTxOk)], [], [(3, 0), (4, 1), (6, 2), (7, 3)], [], [], [500012, 500028], [], []⟩
/-! spec.CrdGrant -/
def c_spec_CrdGrant : Ent := ctr (α := (CrN)) (ρ := (CrN) × (FrmN) × (Bool)) [] [] (rs1 rCrN) (fun x_ => (fun (r : CrN) => (JInv r.len r.got)) x_) (fun x_ r_ => (fun x_ => (fun (r : CrN) => ((fun r_ => (fun (q : CrN) (f : FrmN) (b : Bool) => (JInv q.len q.got ∧ f.data = 0)) r_.1 r_.2.1 r_.2.2))) x_) x_ r_) (fun r_ => (fun (q : CrN) (f : FrmN) (b : Bool) => ([rCrN.to q, rFrmN.to f, rB.to b])) r_.1 r_.2.1 r_.2.2) (fun r_ => (fun (q : CrN) (f : FrmN) (b : Bool) => ([])) r_.1 r_.2.1 r_.2.2)
def V_spec_CrdGrant : Env := ⟨tys2, [(51, c_spec_l8Rx), (80, c_spec_CrdRxOk)], [], [(1, 0), (2, 1), (3, 2), (5, 3)], [(7, ([1, 2], []))], [], [500015], [], [(7, [(0, false), (1, false), (2, false), (3, false), (4, false), (5, true), (6, true), (7, false)])]⟩
/-! spec.CrdHear -/
def c_spec_CrdHear : Ent := ctr (α := (Cfg) × (CrN) × (FrmN)) (ρ := (CrN) × (Nat)) [] [] (rs rCfg (rs rCrN (rs1 rFrmN))) (fun x_ => (fun (c : Cfg) (r : CrN) (f : FrmN) => (JInv r.len r.got)) x_.1 x_.2.1 x_.2.2) (fun x_ r_ => (fun x_ => (fun (c : Cfg) (r : CrN) (f : FrmN) => ((fun r_ => (fun (q : CrN) (s : Nat) => (JInv q.len q.got ∧ s ≤ 1)) r_.1 r_.2))) x_.1 x_.2.1 x_.2.2) x_ r_) (fun r_ => (fun (q : CrN) (s : Nat) => ([rCrN.to q, (rH .byr).to s])) r_.1 r_.2) (fun r_ => (fun (q : CrN) (s : Nat) => ([])) r_.1 r_.2)
def V_spec_CrdHear : Env := ⟨tys2, [(39, c_spec_CfgOk), (51, c_spec_l8Rx), (52, c_spec_l7Sdus), (56, c_spec_FrmOk), (80, c_spec_CrdRxOk), (89, c_spec_l4Put)], [], [(3, 0), (4, 1), (5, 2), (6, 3), (8, 4), (9, 5)], [], [], [500015, 500020, 500025, 500041, 500048], [], []⟩
end Go.Proofs.YtjjcjpmfkbfdfaaE


/- Calls answer what is promised: N4. Conditions: none. -/
set_option linter.unusedVariables false
set_option maxHeartbeats 1600000
namespace Go.Proofs.YtjjcjpmfkbfdfaaE
open Go
def k_dc41eb (s_:(Prod Nat (Prod Nat Int))) : KS := (KS.mk true [(Prod.mk 0 (T.v false [(Cm.d (D.h RK.byr s_.fst))])),(Prod.mk 3 (T.v false [(Cm.d (D.h RK.byr s_.snd.fst))])),(Prod.mk 4 (num IntKind.i64 s_.snd.snd))] [] [])
theorem vF_spec_RxOk (r:RxN) (K:List Arg→List (List AC)→Prop) (hp:True) (hk:∀ (b:Bool),(True)→K ([rB.to b]) ([])):Tt (True∧(∀ r1:Bool,(r1=(decide ((0≤r.expect)∧(r.expect≤7))))→Tt (Tt (if (r1=true) then (Tt (True∧(∀ r2:Bool,(r2=(decide ((0≤r.count)∧(r.count≤9999))))→Tt (Tt (if (r2=true) then (Tt (True∧(∀ r3:Int,True→Tt (Tt (if ((r3 == r.expect)=true) then (Tt (True∧(∀ r4:Bool,True→Tt (Tt (Tt (K [(aB r4)] [])))))) else (Tt (Tt (K [(aB false)] [])))))))) else (Tt (Tt (Tt (K [(aB false)] []))))))))) else (Tt (Tt (Tt (Tt (K [(aB false)] []))))))))) := by
  try simp (disch := omega) only [wr]
  repeat' first
    | exact rfl
    | exact True.intro
    | with_reducible apply And.intro
    | (with_reducible intro y_ hy_; subst hy_)
    | with_reducible intro y_
    | (refine iteI (fun h => ?_) (fun h => ?_))
    | fail
  all_goals try simp only [cq1, cq2, cq3, cq4, cq5, cq6, cq7, cq8, cq9, cq10, cq11, cq12, cq13, cq14, cq15, cq16, cq17, cq18, cq19] at *
  all_goals try simp (disch := omega) only [wr] at *
  all_goals first
    | assumption
    | omega
    | exact (wr8_in _).1
    | exact (wr8_in _).2
    | (refine hk _ ?_
       (try dsimp only)
       first | done | exact True.intro | assumption | exact fun _ => by assumption | omega | grind [])
    | (simp only [LIM, HL] at *; omega)
    | grind [LIM, HL]
theorem w_spec_RxOk : Valid Try.prog 79 c_spec_RxOk :=
  valid_ctr2 (V := V_spec_RxOk) (tysB_ok tys2_ok) ⟨(CallsL.cons w_spec_l1In (CallsL.cons w_spec_NumOf (CallsL.cons w_spec_JoinOk (CallsL.nil _)))), (IosL.nil _)⟩ mixed 0 1 Try.func79 rfl (by kernel_rfl)
    (fun c hc => by
      obtain rfl := Option.some.inj hc
      exact ⟨trivial, ⟨trivial, trivial⟩⟩)
    (fun x K hp hk => ⟨_, by kernel_rfl, vF_spec_RxOk x K hp (fun b h => hk b h)⟩)
theorem vF_spec_l7Copy (r:RxN) (K:List Arg→List (List AC)→Prop) (hp:r.got≤1000) (hk:∀ (q:RxN),(q=r)→K ([rRxN.to q]) ([])):True∧(((0 + r.got)≤137438953472)∧(Tt (K [(Arg.v true [(ai r.expect),(ai r.count),(ai r.len),(AC.d (D.h RK.u8 (0 + r.got))),(AC.d (D.b r.again)),(AC.d (D.b r.busy)),(AC.d (D.b r.dead))])] []))) := by
  have hkk := fun a1_ a2_ a3_ a4_ a5_ a6_ a7_ h_ => hk ⟨a1_, a2_, a3_, a4_, a5_, a6_, a7_⟩ h_
  dsimp only [rRxN, rS, rxNC, List.map] at hkk
  try simp (disch := omega) only [wr]
  repeat' first
    | exact rfl
    | exact True.intro
    | with_reducible apply And.intro
    | (with_reducible intro y_ hy_; subst hy_)
    | with_reducible intro y_
    | (refine iteI (fun h => ?_) (fun h => ?_))
    | fail
  all_goals try simp only [cq1, cq2, cq3, cq4, cq5, cq6, cq7, cq8, cq9, cq10, cq11, cq12, cq13, cq14, cq15, cq16, cq17, cq18, cq19] at *
  all_goals try simp (disch := omega) only [wr] at *
  all_goals first
    | assumption
    | omega
    | exact (wr8_in _).1
    | exact (wr8_in _).2
    | (refine hkk _ _ _ _ _ _ _ ?_
       (try dsimp only)
       first | done | exact True.intro | assumption | exact fun _ => by assumption | omega | grind [])
    | (simp only [LIM, HL] at *; omega)
    | grind [LIM, HL]
theorem w_spec_l7Copy : Valid Try.prog 49 c_spec_l7Copy :=
  valid_ctr2 (V := V_spec_l7Copy) (tysB_ok tys2_ok) ⟨(CallsL.nil _), (IosL.nil _)⟩ mixed 0 3 Try.func49 rfl (by kernel_rfl)
    (fun c hc => by
      obtain rfl := Option.some.inj hc
      exact ⟨trivial, ⟨trivial, ⟨trivial, ⟨trivial, trivial⟩⟩⟩⟩)
    (fun x K hp hk => ⟨_, by kernel_rfl, vF_spec_l7Copy x K hp (fun q h => hk q h)⟩)
theorem vF_spec_l7Say (r:RxN) (b:Bool) (K:List Arg→List (List AC)→Prop) (hp:True) (hk:∀ (f:FrmN),(f.data=0)→K ([rFrmN.to f]) ([])):if (r.busy=true) then (Tt (K [(Arg.v true [(ai 2),(ai 0),(ai r.expect),(AC.d (D.b false)),(AC.d (D.b b)),(ai 2),(ai 0),(ai 0),(AC.d (D.h RK.u8 0))])] [])) else (Tt (K [(Arg.v true [(ai 2),(ai 0),(ai r.expect),(AC.d (D.b false)),(AC.d (D.b b)),(ai 0),(ai 0),(ai 0),(AC.d (D.h RK.u8 0))])] [])) := by
  have hkk := fun a1_ a2_ a3_ a4_ a5_ a6_ a7_ a8_ a9_ h_ => hk ⟨a1_, a2_, a3_, a4_, a5_, a6_, a7_, a8_, a9_⟩ h_
  dsimp only [rFrmN, rS, frmNC, List.map] at hkk
  try simp (disch := omega) only [wr]
  repeat' first
    | exact rfl
    | exact True.intro
    | with_reducible apply And.intro
    | (with_reducible intro y_ hy_; subst hy_)
    | with_reducible intro y_
    | (refine iteI (fun h => ?_) (fun h => ?_))
    | fail
  all_goals try simp only [cq1, cq2, cq3, cq4, cq5, cq6, cq7, cq8, cq9, cq10, cq11, cq12, cq13, cq14, cq15, cq16, cq17, cq18, cq19] at *
  all_goals try simp (disch := omega) only [wr] at *
  all_goals first
    | assumption
    | omega
    | exact (wr8_in _).1
    | exact (wr8_in _).2
    | (refine hkk _ _ _ _ _ _ _ _ _ ?_
       (try dsimp only)
       first | done | exact True.intro | assumption | exact fun _ => by assumption | omega | grind [])
    | (simp only [LIM, HL] at *; omega)
    | grind [LIM, HL]
theorem w_spec_l7Say : Valid Try.prog 67 c_spec_l7Say :=
  valid_ctr2 (V := V_spec_l7Say) (tysB_ok tys2_ok) ⟨(CallsL.nil _), (IosL.nil _)⟩ mixed 0 3 Try.func67 rfl (by kernel_rfl)
    (fun c hc => by
      obtain rfl := Option.some.inj hc
      exact ⟨trivial, ⟨trivial, ⟨⟨trivial, ⟨trivial, trivial⟩⟩, ⟨trivial, trivial⟩⟩⟩⟩)
    (fun x K hp hk => ⟨_, by kernel_rfl, vF_spec_l7Say x.1 x.2 K hp (fun f h => hk f h)⟩)
theorem vF_spec_l7Take (c:Cfg) (r:RxN) (f:FrmN) (K:List Arg→List (List AC)→Prop) (hp:JInv r.len r.got∧SegP f.seg f.len f.data) (hk:∀ (q:RxN) (s:Nat),(JInv q.len q.got∧s≤1)→K ([rRxN.to q,(rH .byr).to s]) ([])):if ((decide (f.len > c.mtu))=true) then (True∧(Tt (K [(Arg.v true [(ai r.expect),(ai r.count),(ai r.len),(AC.d (D.h RK.u8 r.got)),(AC.d (D.b r.again)),(AC.d (D.b r.busy)),(AC.d (D.b true))]),(Arg.v false [(AC.d (D.h RK.byr 0))])] []))) else (if ((decide (((f.data:Nat):Int) > c.mps))=true) then (True∧(Tt (K [(Arg.v true [(ai r.expect),(ai r.count),(ai r.len),(AC.d (D.h RK.u8 r.got)),(AC.d (D.b r.again)),(AC.d (D.b r.busy)),(AC.d (D.b true))]),(Arg.v false [(AC.d (D.h RK.byr 0))])] []))) else (if ((r.count == 9999)=true) then (True∧(Tt (K [(Arg.v true [(ai r.expect),(ai r.count),(ai r.len),(AC.d (D.h RK.u8 r.got)),(AC.d (D.b r.again)),(AC.d (D.b r.busy)),(AC.d (D.b true))]),(Arg.v false [(AC.d (D.h RK.byr 0))])] []))) else (Tt (((((r.len=0)∧(r.got=0))∨((1≤r.len)∧((r.len≤255)∧(r.got≤255))))∧(SegP f.seg f.len ((f.data:Nat):Int)))∧(∀ r1:(Prod JoinN (Prod Nat Int)),((JInv r1.fst.len r1.fst.got)∧(r1.snd.fst≤255))→Tt (if ((r1.snd.snd == 3)=true) then (True∧(Tt (K [(Arg.v true [(ai r.expect),(ai r.count),(ai r1.fst.len),(AC.d (D.h RK.u8 r1.fst.got)),(AC.d (D.b r.again)),(AC.d (D.b r.busy)),(AC.d (D.b true))]),(Arg.v false [(AC.d (D.h RK.byr 0))])] []))) else (Tt (True∧(∀ r2:Int,True→Tt (if ((r1.snd.snd == 2)=true) then (((((RK.u8=RK.u8)∧(r1.snd.fst≤1000))∧True)∧True)∧(Tt (K [(Arg.v true [(ai r2),(ai (IntKind.i64.wrap (r.count + 1))),(ai r1.fst.len),(AC.d (D.h RK.u8 r1.fst.got)),(AC.d (D.b false)),(AC.d (D.b r.busy)),(AC.d (D.b r.dead))]),(Arg.v false [(AC.d (D.h RK.byr 1))])] []))) else (True∧(Tt (K [(Arg.v true [(ai r2),(ai (IntKind.i64.wrap (r.count + 1))),(ai r1.fst.len),(AC.d (D.h RK.u8 r1.fst.got)),(AC.d (D.b false)),(AC.d (D.b r.busy)),(AC.d (D.b r.dead))]),(Arg.v false [(AC.d (D.h RK.byr 0))])] []))))))))))))) := by
  have hkk := fun a1_ a2_ a3_ a4_ a5_ a6_ a7_ a8_ h_ => hk ⟨a1_, a2_, a3_, a4_, a5_, a6_, a7_⟩ a8_ h_
  dsimp only [rRxN, rS, rxNC, List.map] at hkk
  try simp (disch := omega) only [wr]
  repeat' first
    | exact rfl
    | exact True.intro
    | with_reducible apply And.intro
    | (with_reducible intro y_ hy_; subst hy_)
    | with_reducible intro y_
    | (refine iteI (fun h => ?_) (fun h => ?_))
    | fail
  all_goals try simp only [cq1, cq2, cq3, cq4, cq5, cq6, cq7, cq8, cq9, cq10, cq11, cq12, cq13, cq14, cq15, cq16, cq17, cq18, cq19, JInv] at *
  all_goals try simp (disch := omega) only [wr] at *
  all_goals first
    | assumption
    | omega
    | exact (wr8_in _).1
    | exact (wr8_in _).2
    | (refine hkk _ _ _ _ _ _ _ _ ?_
       (try dsimp only)
       first | done | exact True.intro | assumption | exact fun _ => by assumption | omega | grind [JInv])
    | (simp only [LIM, HL] at *; omega)
    | grind [JInv, LIM, HL]
theorem w_spec_l7Take : Valid Try.prog 92 c_spec_l7Take :=
  valid_ctr2 (V := V_spec_l7Take) (tysB_ok tys2_ok) ⟨(CallsL.cons w_spec_NumNext (CallsL.cons w_spec_l4Put (CallsL.nil _))), (IosL.nil _)⟩ mixed 0 6 Try.func92 rfl (by kernel_rfl)
    (fun c hc => by
      obtain rfl := Option.some.inj hc
      exact ⟨trivial, ⟨trivial, ⟨⟨trivial, ⟨⟨trivial, ⟨trivial, trivial⟩⟩, trivial⟩⟩, ⟨trivial, ⟨trivial, ⟨⟨trivial, ⟨⟨trivial, ⟨trivial, trivial⟩⟩, trivial⟩⟩, ⟨trivial, ⟨trivial, ⟨trivial, ⟨⟨trivial, ⟨⟨trivial, trivial⟩, trivial⟩⟩, ⟨trivial, trivial⟩⟩⟩⟩⟩⟩⟩⟩⟩⟩⟩)
    (fun x K hp hk => ⟨_, by kernel_rfl, vF_spec_l7Take x.1 x.2.1 x.2.2 K hp (fun q s h => hk (q, s) h)⟩)
theorem vF_spec_l7Data (c:Cfg) (r:RxN) (f:FrmN) (K:List Arg→List (List AC)→Prop) (hp:JInv r.len r.got∧SegP f.seg f.len f.data) (hk:∀ (q:RxN) (s:Nat) (t:Nat),(JInv q.len q.got∧s≤1∧t≤1)→K ([rRxN.to q,(rH .byr).to s,(rH .frm).to t]) ([])):if (r.busy=true) then ((True∧(Tt (Tt (True∧(∀ r1:FrmN,(r1.data=0)→Tt (Tt ((((((RK.u8=RK.u8)∧(r1.data≤1000))∧True)∧True)∧(Tt (Tt (Tt (K [(Arg.v true [(ai r.expect),(ai r.count),(ai r.len),(AC.d (D.h RK.u8 r.got)),(AC.d (D.b r.again)),(AC.d (D.b r.busy)),(AC.d (D.b r.dead))]),(Arg.v false [(AC.d (D.h RK.byr 0))]),(Arg.v false [(AC.d (D.h RK.frm 1))])] [])))))∧(Tt (((((RK.u8=RK.u8)∧(r1.data≤1000))∧True)∧True)∧(Tt (Tt (K [(Arg.v true [(ai r.expect),(ai r.count),(ai r.len),(AC.d (D.h RK.u8 r.got)),(AC.d (D.b r.again)),(AC.d (D.b r.busy)),(AC.d (D.b r.dead))]),(Arg.v false [(AC.d (D.h RK.byr 0))]),(Arg.v false [(AC.d (D.h RK.frm 1))])] []))))))))))))∧(Tt (True∧(∀ r1:FrmN,(r1.data=0)→Tt (Tt ((True∧(Tt ((((((RK.u8=RK.u8)∧(r1.data≤1000))∧True)∧True)∧(Tt (Tt (Tt (K [(Arg.v true [(ai r.expect),(ai r.count),(ai r.len),(AC.d (D.h RK.u8 r.got)),(AC.d (D.b r.again)),(AC.d (D.b r.busy)),(AC.d (D.b r.dead))]),(Arg.v false [(AC.d (D.h RK.byr 0))]),(Arg.v false [(AC.d (D.h RK.frm 1))])] [])))))∧(Tt (((((RK.u8=RK.u8)∧(r1.data≤1000))∧True)∧True)∧(Tt (Tt (K [(Arg.v true [(ai r.expect),(ai r.count),(ai r.len),(AC.d (D.h RK.u8 r.got)),(AC.d (D.b r.again)),(AC.d (D.b r.busy)),(AC.d (D.b r.dead))]),(Arg.v false [(AC.d (D.h RK.byr 0))]),(Arg.v false [(AC.d (D.h RK.frm 1))])] []))))))))∧((((((RK.u8=RK.u8)∧(r1.data≤1000))∧True)∧True)∧(Tt ((True∧(Tt (Tt (Tt (K [(Arg.v true [(ai r.expect),(ai r.count),(ai r.len),(AC.d (D.h RK.u8 r.got)),(AC.d (D.b r.again)),(AC.d (D.b r.busy)),(AC.d (D.b r.dead))]),(Arg.v false [(AC.d (D.h RK.byr 0))]),(Arg.v false [(AC.d (D.h RK.frm 1))])] [])))))∧(Tt (True∧(Tt (Tt (K [(Arg.v true [(ai r.expect),(ai r.count),(ai r.len),(AC.d (D.h RK.u8 r.got)),(AC.d (D.b r.again)),(AC.d (D.b r.busy)),(AC.d (D.b r.dead))]),(Arg.v false [(AC.d (D.h RK.byr 0))]),(Arg.v false [(AC.d (D.h RK.frm 1))])] []))))))))∧(Tt ((True∧(Tt (((((RK.u8=RK.u8)∧(r1.data≤1000))∧True)∧True)∧(Tt (Tt (K [(Arg.v true [(ai r.expect),(ai r.count),(ai r.len),(AC.d (D.h RK.u8 r.got)),(AC.d (D.b r.again)),(AC.d (D.b r.busy)),(AC.d (D.b r.dead))]),(Arg.v false [(AC.d (D.h RK.byr 0))]),(Arg.v false [(AC.d (D.h RK.frm 1))])] []))))))∧(((((RK.u8=RK.u8)∧(r1.data≤1000))∧True)∧True)∧(Tt (True∧(Tt (Tt (K [(Arg.v true [(ai r.expect),(ai r.count),(ai r.len),(AC.d (D.h RK.u8 r.got)),(AC.d (D.b r.again)),(AC.d (D.b r.busy)),(AC.d (D.b r.dead))]),(Arg.v false [(AC.d (D.h RK.byr 0))]),(Arg.v false [(AC.d (D.h RK.frm 1))])] []))))))))))))))) else (Tt (True∧(∀ r1:Int,(((0≤r.expect)∧((r.expect≤7)∧((0≤f.seq)∧(f.seq≤7))))→((0≤r1)∧(r1≤7)))→Tt (if ((r1 == 0)=true) then (Tt (((((r.len=0)∧(r.got=0))∨((1≤r.len)∧((r.len≤255)∧(r.got≤255))))∧(SegP f.seg f.len ((f.data:Nat):Int)))∧(∀ r2:(Prod RxN Nat),((JInv r2.fst.len r2.fst.got)∧(r2.snd≤1))→Tt (True∧(Tt (K [(Arg.v true [(ai r2.fst.expect),(ai r2.fst.count),(ai r2.fst.len),(AC.d (D.h RK.u8 r2.fst.got)),(AC.d (D.b r2.fst.again)),(AC.d (D.b r2.fst.busy)),(AC.d (D.b r2.fst.dead))]),(Arg.v false [(AC.d (D.h RK.byr r2.snd))]),(Arg.v false [(AC.d (D.h RK.frm 0))])] [])))))) else (if ((decide (r1 < c.win))=true) then (if ((!r.again)=true) then ((True∧(Tt ((((((RK.u8=RK.u8)∧(0≤1000))∧True)∧True)∧(Tt (Tt (Tt (K [(Arg.v true [(ai r.expect),(ai r.count),(ai r.len),(AC.d (D.h RK.u8 r.got)),(AC.d (D.b true)),(AC.d (D.b r.busy)),(AC.d (D.b r.dead))]),(Arg.v false [(AC.d (D.h RK.byr 0))]),(Arg.v false [(AC.d (D.h RK.frm 1))])] [])))))∧(Tt (((((RK.u8=RK.u8)∧(0≤1000))∧True)∧True)∧(Tt (Tt (K [(Arg.v true [(ai r.expect),(ai r.count),(ai r.len),(AC.d (D.h RK.u8 r.got)),(AC.d (D.b true)),(AC.d (D.b r.busy)),(AC.d (D.b r.dead))]),(Arg.v false [(AC.d (D.h RK.byr 0))]),(Arg.v false [(AC.d (D.h RK.frm 1))])] []))))))))∧((((((RK.u8=RK.u8)∧(0≤1000))∧True)∧True)∧(Tt ((True∧(Tt (Tt (Tt (K [(Arg.v true [(ai r.expect),(ai r.count),(ai r.len),(AC.d (D.h RK.u8 r.got)),(AC.d (D.b true)),(AC.d (D.b r.busy)),(AC.d (D.b r.dead))]),(Arg.v false [(AC.d (D.h RK.byr 0))]),(Arg.v false [(AC.d (D.h RK.frm 1))])] [])))))∧(Tt (True∧(Tt (Tt (K [(Arg.v true [(ai r.expect),(ai r.count),(ai r.len),(AC.d (D.h RK.u8 r.got)),(AC.d (D.b true)),(AC.d (D.b r.busy)),(AC.d (D.b r.dead))]),(Arg.v false [(AC.d (D.h RK.byr 0))]),(Arg.v false [(AC.d (D.h RK.frm 1))])] []))))))))∧(Tt ((True∧(Tt (((((RK.u8=RK.u8)∧(0≤1000))∧True)∧True)∧(Tt (Tt (K [(Arg.v true [(ai r.expect),(ai r.count),(ai r.len),(AC.d (D.h RK.u8 r.got)),(AC.d (D.b true)),(AC.d (D.b r.busy)),(AC.d (D.b r.dead))]),(Arg.v false [(AC.d (D.h RK.byr 0))]),(Arg.v false [(AC.d (D.h RK.frm 1))])] []))))))∧(((((RK.u8=RK.u8)∧(0≤1000))∧True)∧True)∧(Tt (True∧(Tt (Tt (K [(Arg.v true [(ai r.expect),(ai r.count),(ai r.len),(AC.d (D.h RK.u8 r.got)),(AC.d (D.b true)),(AC.d (D.b r.busy)),(AC.d (D.b r.dead))]),(Arg.v false [(AC.d (D.h RK.byr 0))]),(Arg.v false [(AC.d (D.h RK.frm 1))])] [])))))))))) else (True∧(True∧(Tt (K [(Arg.v true [(ai r.expect),(ai r.count),(ai r.len),(AC.d (D.h RK.u8 r.got)),(AC.d (D.b r.again)),(AC.d (D.b r.busy)),(AC.d (D.b r.dead))]),(Arg.v false [(AC.d (D.h RK.byr 0))]),(Arg.v false [(AC.d (D.h RK.frm 0))])] []))))) else (True∧(True∧(Tt (K [(Arg.v true [(ai r.expect),(ai r.count),(ai r.len),(AC.d (D.h RK.u8 r.got)),(AC.d (D.b r.again)),(AC.d (D.b r.busy)),(AC.d (D.b r.dead))]),(Arg.v false [(AC.d (D.h RK.byr 0))]),(Arg.v false [(AC.d (D.h RK.frm 0))])] []))))))))) := by
  have hkk := fun a1_ a2_ a3_ a4_ a5_ a6_ a7_ a8_ a9_ h_ => hk ⟨a1_, a2_, a3_, a4_, a5_, a6_, a7_⟩ a8_ a9_ h_
  dsimp only [rRxN, rS, rxNC, List.map] at hkk
  try simp (disch := omega) only [wr]
  repeat' first
    | exact rfl
    | exact True.intro
    | with_reducible apply And.intro
    | (with_reducible intro y_ hy_; subst hy_)
    | with_reducible intro y_
    | (refine iteI (fun h => ?_) (fun h => ?_))
    | fail
  all_goals try simp only [cq1, cq2, cq3, cq4, cq5, cq6, cq7, cq8, cq9, cq10, cq11, cq12, cq13, cq14, cq15, cq16, cq17, cq18, cq19, JInv] at *
  all_goals try simp (disch := omega) only [wr] at *
  all_goals first
    | assumption
    | omega
    | exact (wr8_in _).1
    | exact (wr8_in _).2
    | (refine hkk _ _ _ _ _ _ _ _ _ ?_
       (try dsimp only)
       first | done | exact True.intro | assumption | exact fun _ => by assumption | omega | grind [JInv])
    | (simp only [LIM, HL] at *; omega)
    | grind [JInv, LIM, HL]
theorem w_spec_l7Data : Valid Try.prog 90 c_spec_l7Data :=
  valid_ctr2 (V := V_spec_l7Data) (tysB_ok tys2_ok) ⟨(CallsL.cons w_spec_l7Say (CallsL.cons w_spec_NumFar (CallsL.cons w_spec_l7Take (CallsL.nil _)))), (IosL.nil _)⟩ mixed 0 5 Try.func90 rfl (by kernel_rfl)
    (fun c hc => by
      obtain rfl := Option.some.inj hc
      exact ⟨trivial, ⟨⟨trivial, ⟨⟨trivial, trivial⟩, trivial⟩⟩, ⟨trivial, ⟨⟨trivial, ⟨⟨trivial, ⟨trivial, trivial⟩⟩, trivial⟩⟩, ⟨⟨trivial, ⟨⟨trivial, ⟨trivial, trivial⟩⟩, trivial⟩⟩, ⟨trivial, trivial⟩⟩⟩⟩⟩⟩)
    (fun x K hp hk => ⟨_, by kernel_rfl, vF_spec_l7Data x.1 x.2.1 x.2.2 K hp (fun q s t h => hk (q, s, t) h)⟩)
theorem vF_spec_l7Hear (c:Cfg) (r:RxN) (f:FrmN) (K:List Arg→List (List AC)→Prop) (hp:JInv r.len r.got∧FrmPN f) (hk:∀ (q:RxN) (s:Nat) (t:Nat),(JInv q.len q.got∧s≤1∧t≤1)→K ([rRxN.to q,(rH .byr).to s,(rH .frm).to t]) ([])):if (r.dead=true) then (True∧(True∧(Tt (K [(Arg.v true [(ai r.expect),(ai r.count),(ai r.len),(AC.d (D.h RK.u8 r.got)),(AC.d (D.b r.again)),(AC.d (D.b r.busy)),(AC.d (D.b r.dead))]),(Arg.v false [(AC.d (D.h RK.byr 0))]),(Arg.v false [(AC.d (D.h RK.frm 0))])] [])))) else (if ((f.kind == 1)=true) then (Tt (((((r.len=0)∧(r.got=0))∨((1≤r.len)∧((r.len≤255)∧(r.got≤255))))∧(SegP f.seg f.len ((f.data:Nat):Int)))∧(∀ r1:(Prod RxN (Prod Nat Nat)),((JInv r1.fst.len r1.fst.got)∧((r1.snd.fst≤1)∧(r1.snd.snd≤1)))→Tt (Tt (K [(Arg.v true [(ai r1.fst.expect),(ai r1.fst.count),(ai r1.fst.len),(AC.d (D.h RK.u8 r1.fst.got)),(AC.d (D.b r1.fst.again)),(AC.d (D.b r1.fst.busy)),(AC.d (D.b r1.fst.dead))]),(Arg.v false [(AC.d (D.h RK.byr r1.snd.fst))]),(Arg.v false [(AC.d (D.h RK.frm r1.snd.snd))])] []))))) else (if (f.poll=true) then ((True∧(Tt (Tt (True∧(∀ r1:FrmN,(r1.data=0)→Tt (Tt ((((((RK.u8=RK.u8)∧(r1.data≤1000))∧True)∧True)∧(Tt (Tt (Tt (K [(Arg.v true [(ai r.expect),(ai r.count),(ai r.len),(AC.d (D.h RK.u8 r.got)),(AC.d (D.b false)),(AC.d (D.b r.busy)),(AC.d (D.b r.dead))]),(Arg.v false [(AC.d (D.h RK.byr 0))]),(Arg.v false [(AC.d (D.h RK.frm 1))])] [])))))∧(Tt (((((RK.u8=RK.u8)∧(r1.data≤1000))∧True)∧True)∧(Tt (Tt (K [(Arg.v true [(ai r.expect),(ai r.count),(ai r.len),(AC.d (D.h RK.u8 r.got)),(AC.d (D.b false)),(AC.d (D.b r.busy)),(AC.d (D.b r.dead))]),(Arg.v false [(AC.d (D.h RK.byr 0))]),(Arg.v false [(AC.d (D.h RK.frm 1))])] []))))))))))))∧(Tt (True∧(∀ r1:FrmN,(r1.data=0)→Tt (Tt ((True∧(Tt ((((((RK.u8=RK.u8)∧(r1.data≤1000))∧True)∧True)∧(Tt (Tt (Tt (K [(Arg.v true [(ai r.expect),(ai r.count),(ai r.len),(AC.d (D.h RK.u8 r.got)),(AC.d (D.b false)),(AC.d (D.b r.busy)),(AC.d (D.b r.dead))]),(Arg.v false [(AC.d (D.h RK.byr 0))]),(Arg.v false [(AC.d (D.h RK.frm 1))])] [])))))∧(Tt (((((RK.u8=RK.u8)∧(r1.data≤1000))∧True)∧True)∧(Tt (Tt (K [(Arg.v true [(ai r.expect),(ai r.count),(ai r.len),(AC.d (D.h RK.u8 r.got)),(AC.d (D.b false)),(AC.d (D.b r.busy)),(AC.d (D.b r.dead))]),(Arg.v false [(AC.d (D.h RK.byr 0))]),(Arg.v false [(AC.d (D.h RK.frm 1))])] []))))))))∧((((((RK.u8=RK.u8)∧(r1.data≤1000))∧True)∧True)∧(Tt ((True∧(Tt (Tt (Tt (K [(Arg.v true [(ai r.expect),(ai r.count),(ai r.len),(AC.d (D.h RK.u8 r.got)),(AC.d (D.b false)),(AC.d (D.b r.busy)),(AC.d (D.b r.dead))]),(Arg.v false [(AC.d (D.h RK.byr 0))]),(Arg.v false [(AC.d (D.h RK.frm 1))])] [])))))∧(Tt (True∧(Tt (Tt (K [(Arg.v true [(ai r.expect),(ai r.count),(ai r.len),(AC.d (D.h RK.u8 r.got)),(AC.d (D.b false)),(AC.d (D.b r.busy)),(AC.d (D.b r.dead))]),(Arg.v false [(AC.d (D.h RK.byr 0))]),(Arg.v false [(AC.d (D.h RK.frm 1))])] []))))))))∧(Tt ((True∧(Tt (((((RK.u8=RK.u8)∧(r1.data≤1000))∧True)∧True)∧(Tt (Tt (K [(Arg.v true [(ai r.expect),(ai r.count),(ai r.len),(AC.d (D.h RK.u8 r.got)),(AC.d (D.b false)),(AC.d (D.b r.busy)),(AC.d (D.b r.dead))]),(Arg.v false [(AC.d (D.h RK.byr 0))]),(Arg.v false [(AC.d (D.h RK.frm 1))])] []))))))∧(((((RK.u8=RK.u8)∧(r1.data≤1000))∧True)∧True)∧(Tt (True∧(Tt (Tt (K [(Arg.v true [(ai r.expect),(ai r.count),(ai r.len),(AC.d (D.h RK.u8 r.got)),(AC.d (D.b false)),(AC.d (D.b r.busy)),(AC.d (D.b r.dead))]),(Arg.v false [(AC.d (D.h RK.byr 0))]),(Arg.v false [(AC.d (D.h RK.frm 1))])] []))))))))))))))) else (True∧(True∧(Tt (K [(Arg.v true [(ai r.expect),(ai r.count),(ai r.len),(AC.d (D.h RK.u8 r.got)),(AC.d (D.b r.again)),(AC.d (D.b r.busy)),(AC.d (D.b r.dead))]),(Arg.v false [(AC.d (D.h RK.byr 0))]),(Arg.v false [(AC.d (D.h RK.frm 0))])] [])))))) := by
  have hkk := fun a1_ a2_ a3_ a4_ a5_ a6_ a7_ a8_ a9_ h_ => hk ⟨a1_, a2_, a3_, a4_, a5_, a6_, a7_⟩ a8_ a9_ h_
  dsimp only [rRxN, rS, rxNC, List.map] at hkk
  try simp (disch := omega) only [wr]
  repeat' first
    | exact rfl
    | exact True.intro
    | with_reducible apply And.intro
    | (with_reducible intro y_ hy_; subst hy_)
    | with_reducible intro y_
    | (refine iteI (fun h => ?_) (fun h => ?_))
    | fail
  all_goals try simp only [cq1, cq2, cq3, cq4, cq5, cq6, cq7, cq8, cq9, cq10, cq11, cq12, cq13, cq14, cq15, cq16, cq17, cq18, cq19, JInv, FrmPN] at *
  all_goals try simp (disch := omega) only [wr] at *
  all_goals first
    | assumption
    | omega
    | exact (wr8_in _).1
    | exact (wr8_in _).2
    | (refine hkk _ _ _ _ _ _ _ _ _ ?_
       (try dsimp only)
       first | done | exact True.intro | assumption | exact fun _ => by assumption | omega | grind [JInv, FrmPN])
    | (simp only [LIM, HL] at *; omega)
    | grind [JInv, FrmPN, LIM, HL]
theorem w_spec_l7Hear : Valid Try.prog 88 c_spec_l7Hear :=
  valid_ctr2 (V := V_spec_l7Hear) (tysB_ok tys2_ok) ⟨(CallsL.cons w_spec_l7Say (CallsL.cons w_spec_l7Data (CallsL.nil _))), (IosL.nil _)⟩ mixed 0 4 Try.func88 rfl (by kernel_rfl)
    (fun c hc => by
      obtain rfl := Option.some.inj hc
      exact ⟨trivial, ⟨⟨trivial, ⟨⟨trivial, trivial⟩, trivial⟩⟩, ⟨⟨trivial, ⟨⟨trivial, trivial⟩, trivial⟩⟩, ⟨⟨trivial, ⟨⟨trivial, ⟨trivial, trivial⟩⟩, trivial⟩⟩, ⟨trivial, trivial⟩⟩⟩⟩⟩)
    (fun x K hp hk => ⟨_, by kernel_rfl, vF_spec_l7Hear x.1 x.2.1 x.2.2 K hp (fun q s t h => hk (q, s, t) h)⟩)
theorem vF_spec_l7Sdus (m:Nat) (K:List Arg→List (List AC)→Prop) (hp:m≤1000) (hk:∀ (r:Nat),(r=m)→K ([(rH .byr).to r]) ([])):True∧(∃ s:(Prod Nat (Prod Nat Int)),((KS.mk true [(Prod.mk 0 (T.v false [(Cm.d (D.h RK.byr m))])),(Prod.mk 3 (T.v false [(Cm.d (D.h RK.byr 0))])),(Prod.mk 4 (num IntKind.i64 0))] [] [])=(k_dc41eb s))∧(((s.fst≤1000)∧((s.snd.fst=0)∧(s.snd.snd=0)))∧((∀ r:Nat,(r=s.fst)→Tt (K [(Arg.v false [(AC.d (D.h RK.byr r))])] []))∧(∀ r:Empty,False→False)))) := by
  try simp (disch := omega) only [wr]
  repeat' first
    | exact rfl
    | exact True.intro
    | with_reducible apply And.intro
    | (with_reducible intro y_ hy_; subst hy_)
    | with_reducible intro y_
    | (refine iteI (fun h => ?_) (fun h => ?_))
    | refine ⟨(_, _, _), rfl, ?_⟩
    | refine ⟨n - 1, ?_⟩
    | fail
  all_goals try simp only [cq1, cq2, cq3, cq4, cq5, cq6, cq7, cq8, cq9, cq10, cq11, cq12, cq13, cq14, cq15, cq16, cq17, cq18, cq19] at *
  all_goals try simp (disch := omega) only [wr] at *
  all_goals first
    | assumption
    | omega
    | exact (wr8_in _).1
    | exact (wr8_in _).2
    | (refine hk _ ?_
       (try dsimp only)
       first | done | exact True.intro | assumption | exact fun _ => by assumption | omega | grind [])
    | (simp only [LIM, HL] at *; omega)
    | grind [LIM, HL]
theorem vL_spec_l7Sdus_0 (m0:Nat) (o0:Nat) (i0:Int) (m:Nat) (o:Nat) (i:Int) (n:Nat) (hp:(fun (m:Nat) (o:Nat) (i:Int) => (m≤1000∧o=0∧i=0)) m0 o0 i0) (hi:m=m0∧m≤1000∧0≤i∧(o:Int)=i∧i + n=m):if ((decide (i < ((m:Nat):Int)))=true) then (True∧(((0≤i)∧(i < ((m:Nat):Int)))∧(∀ n1:Nat,(n1≤1000)→((0 + n1)≤137438953472)∧(((((RK.u8=RK.u8)∧((0 + n1)≤1000))∧True)∧True)∧(((o + 1)≤137438953472)∧(∃ s:(Prod Nat (Prod Nat Int)),((KS.mk true [(Prod.mk 0 (T.v false [(Cm.d (D.h RK.byr m))])),(Prod.mk 3 (T.v false [(Cm.d (D.h RK.byr (o + 1)))])),(Prod.mk 4 (num IntKind.i64 (IntKind.i64.wrap (i + 1))))] [] [])=(k_dc41eb s))∧(∃ m1:Nat,(m1 < n)∧((s.fst=m0)∧((s.fst≤1000)∧((0≤s.snd.snd)∧((((s.snd.fst:Nat):Int)=s.snd.snd)∧((s.snd.snd + ((m1:Nat):Int))=((s.fst:Nat):Int))))))))))))) else (∃ r:Nat,((KS.mk true [(Prod.mk 3 (T.v false [(Cm.d (D.h RK.byr o))]))] [] [])=(KS.mk true [(Prod.mk 3 (T.v false [(Cm.d (D.h RK.byr r))]))] [] []))∧(r=m0)) := by
  try dsimp only at hp
  try simp (disch := omega) only [wr]
  repeat' first
    | exact rfl
    | exact True.intro
    | with_reducible apply And.intro
    | (with_reducible intro y_ hy_; subst hy_)
    | with_reducible intro y_
    | (refine iteI (fun h => ?_) (fun h => ?_))
    | refine ⟨(_, _, _), rfl, ?_⟩
    | refine ⟨_, rfl, ?_⟩
    | refine ⟨n - 1, ?_⟩
    | fail
  all_goals try simp only [cq1, cq2, cq3, cq4, cq5, cq6, cq7, cq8, cq9, cq10, cq11, cq12, cq13, cq14, cq15, cq16, cq17, cq18, cq19] at *
  all_goals try simp (disch := omega) only [wr] at *
  all_goals first
    | assumption
    | omega
    | exact (wr8_in _).1
    | exact (wr8_in _).2
    | (refine hk _ ?_
       (try dsimp only)
       first | done | exact True.intro | assumption | exact fun _ => by assumption | omega | grind [])
    | (simp only [LIM, HL] at *; omega)
    | grind [LIM, HL]
theorem vS_spec_l7Sdus_0 (m0 : Nat) (o0 : Nat) (i0 : Int) (hp : (fun (m : Nat) (o : Nat) (i : Int) => (m ≤ 1000 ∧ o = 0 ∧ i = 0)) m0 o0 i0) : ∃ n : Nat, (fun (m : Nat) (o : Nat) (i : Int) => (m = m0 ∧ m ≤ 1000 ∧ 0 ≤ i ∧ (o : Int) = i ∧ i + n = m)) m0 o0 i0 := by
  try dsimp only at hp
  try dsimp only
  exact ⟨m0, rfl, hp.1, by omega, by omega, by omega⟩
theorem w_spec_l7Sdus : Valid Try.prog 52 c_spec_l7Sdus :=
  valid_ctr2 (V := V_spec_l7Sdus) (tysB_ok tys2_ok) ⟨(CallsL.nil _), (IosL.nil _)⟩ mixed 0 0 Try.func52 rfl (by kernel_rfl)
    (fun c hc => by
      obtain rfl := Option.some.inj hc
      exact ⟨trivial, ⟨trivial, ⟨⟨trivial, ⟨LoopD.ok2 (V := V_spec_l7Sdus) l_spec_l7Sdus_0 (LoopsM.cons 0 l_spec_l7Sdus_0 LoopsM.nil) 0 _ i_spec_l7Sdus_0 (fun x hx => vS_spec_l7Sdus_0 x.1 x.2.1 x.2.2 hx) (fun x hx n s hi => ⟨_, by kernel_rfl, vL_spec_l7Sdus_0 x.1 x.2.1 x.2.2 s.1 s.2.1 s.2.2 n hx hi⟩), ⟨⟨trivial, ⟨trivial, trivial⟩⟩, ⟨trivial, trivial⟩⟩⟩⟩, ⟨trivial, trivial⟩⟩⟩⟩)
    (fun x K hp hk => ⟨_, by kernel_rfl, vF_spec_l7Sdus x K hp (fun r h => hk r h)⟩)
theorem vF_spec_RxBusy (r:RxN) (b:Bool) (K:List Arg→List (List AC)→Prop) (hp:JInv r.len r.got) (hk:∀ (q:RxN) (t:Nat),(JInv q.len q.got∧t≤1)→K ([rRxN.to q,(rH .frm).to t]) ([])):Tt (True∧(∀ r1:Bool,True→Tt (if ((!r1)=true) then (True∧(Tt (K [(Arg.v true [(ai 0),(ai 0),(ai 0),(AC.d (D.h RK.u8 0)),(AC.d (D.b false)),(AC.d (D.b false)),(AC.d (D.b false))]),(Arg.v false [(AC.d (D.h RK.frm 0))])] []))) else (Tt ((r.got≤1000)∧(∀ r2:RxN,(r2=r)→Tt (if ((r.busy == b)=true) then (True∧(Tt (K [(Arg.v true [(ai r2.expect),(ai r2.count),(ai r2.len),(AC.d (D.h RK.u8 r2.got)),(AC.d (D.b r2.again)),(AC.d (D.b r2.busy)),(AC.d (D.b r2.dead))]),(Arg.v false [(AC.d (D.h RK.frm 0))])] []))) else (if (r.dead=true) then (True∧(Tt (K [(Arg.v true [(ai r2.expect),(ai r2.count),(ai r2.len),(AC.d (D.h RK.u8 r2.got)),(AC.d (D.b r2.again)),(AC.d (D.b r2.busy)),(AC.d (D.b r2.dead))]),(Arg.v false [(AC.d (D.h RK.frm 0))])] []))) else (Tt (True∧(∀ r3:FrmN,(r3.data=0)→Tt (Tt ((((((RK.u8=RK.u8)∧(r3.data≤1000))∧True)∧True)∧(Tt (Tt (Tt (K [(Arg.v true [(ai r2.expect),(ai r2.count),(ai r2.len),(AC.d (D.h RK.u8 r2.got)),(AC.d (D.b false)),(AC.d (D.b b)),(AC.d (D.b r2.dead))]),(Arg.v false [(AC.d (D.h RK.frm 1))])] [])))))∧(Tt (((((RK.u8=RK.u8)∧(r3.data≤1000))∧True)∧True)∧(Tt (Tt (K [(Arg.v true [(ai r2.expect),(ai r2.count),(ai r2.len),(AC.d (D.h RK.u8 r2.got)),(AC.d (D.b false)),(AC.d (D.b b)),(AC.d (D.b r2.dead))]),(Arg.v false [(AC.d (D.h RK.frm 1))])] [])))))))))))))))))) := by
  have hkk := fun a1_ a2_ a3_ a4_ a5_ a6_ a7_ a8_ h_ => hk ⟨a1_, a2_, a3_, a4_, a5_, a6_, a7_⟩ a8_ h_
  dsimp only [rRxN, rS, rxNC, List.map] at hkk
  try simp (disch := omega) only [wr]
  repeat' first
    | exact rfl
    | exact True.intro
    | with_reducible apply And.intro
    | (with_reducible intro y_ hy_; subst hy_)
    | with_reducible intro y_
    | (refine iteI (fun h => ?_) (fun h => ?_))
    | fail
  all_goals try simp only [cq1, cq2, cq3, cq4, cq5, cq6, cq7, cq8, cq9, cq10, cq11, cq12, cq13, cq14, cq15, cq16, cq17, cq18, cq19, JInv] at *
  all_goals try simp (disch := omega) only [wr] at *
  all_goals first
    | assumption
    | omega
    | exact (wr8_in _).1
    | exact (wr8_in _).2
    | (refine hkk _ _ _ _ _ _ _ _ ?_
       (try dsimp only)
       first | done | exact True.intro | assumption | exact fun _ => by assumption | omega | grind [JInv])
    | (simp only [LIM, HL] at *; omega)
    | grind [JInv, LIM, HL]
theorem w_spec_RxBusy : Valid Try.prog 65 c_spec_RxBusy :=
  valid_ctr2 (V := V_spec_RxBusy) (tysB_ok tys2_ok) ⟨(CallsL.cons w_spec_l7Copy (CallsL.cons w_spec_l7Say (CallsL.cons w_spec_RxOk (CallsL.nil _)))), (IosL.nil _)⟩ mixed 0 3 Try.func65 rfl (by kernel_rfl)
    (fun c hc => by
      obtain rfl := Option.some.inj hc
      exact ⟨trivial, ⟨⟨trivial, ⟨⟨trivial, trivial⟩, trivial⟩⟩, ⟨trivial, ⟨⟨trivial, ⟨⟨trivial, trivial⟩, trivial⟩⟩, ⟨trivial, ⟨trivial, ⟨trivial, trivial⟩⟩⟩⟩⟩⟩⟩)
    (fun x K hp hk => ⟨_, by kernel_rfl, vF_spec_RxBusy x.1 x.2 K hp (fun q t h => hk (q, t) h)⟩)
theorem vF_spec_CrdTxOk (c:Cfg) (t:CtN) (K:List Arg→List (List AC)→Prop) (hp:t.queue≤1000) (hk:∀ (r:Bool),(r=true→CfgP c∧t.queue≤24)→K ([rB.to r]) ([])):Tt (True∧(∀ r:Bool,(r=(decide (CfgP c)))→Tt (if (r=true) then (Tt (True∧(∀ r1:Bool,(r1=(decide ((0≤t.have_)∧(t.have_≤255))))→Tt (if (r1=true) then (if ((decide (((t.queue:Nat):Int)≤(24:Int)))=true) then (Tt (True∧(∀ r2:Bool,(r2=(decide ((0≤t.granted)∧(t.granted≤9999))))→Tt (if (r2=true) then (Tt (True∧(∀ r3:Bool,(r3=(decide ((0≤t.sent)∧(t.sent≤9999))))→Tt (if (r3=true) then (if (((IntKind.i64.wrap (t.granted - t.sent)) == t.have_)=true) then (Tt ((t.queue≤1000)∧(∀ r4:Bool,True→Tt (Tt (K [(aB r4)] []))))) else (Tt (K [(aB false)] []))) else (Tt (K [(aB false)] [])))))) else (Tt (K [(aB false)] [])))))) else (Tt (K [(aB false)] []))) else (Tt (K [(aB false)] [])))))) else (Tt (K [(aB false)] []))))) := by
  try simp (disch := omega) only [wr]
  repeat' first
    | exact rfl
    | exact True.intro
    | with_reducible apply And.intro
    | (with_reducible intro y_ hy_; subst hy_)
    | with_reducible intro y_
    | (refine iteI (fun h => ?_) (fun h => ?_))
    | fail
  all_goals try simp only [cq1, cq2, cq3, cq4, cq5, cq6, cq7, cq8, cq9, cq10, cq11, cq12, cq13, cq14, cq15, cq16, cq17, cq18, cq19] at *
  all_goals try simp (disch := omega) only [wr] at *
  all_goals first
    | assumption
    | omega
    | exact (wr8_in _).1
    | exact (wr8_in _).2
    | (refine hk _ ?_
       (try dsimp only)
       first | done | exact True.intro | assumption | exact fun _ => by assumption | omega | grind [])
    | (simp only [LIM, HL] at *; omega)
    | grind [LIM, HL]
theorem w_spec_CrdTxOk : Valid Try.prog 59 c_spec_CrdTxOk :=
  valid_ctr2 (V := V_spec_CrdTxOk) (tysB_ok tys2_ok) ⟨(CallsL.cons w_spec_CfgOk (CallsL.cons w_spec_l1In (CallsL.cons w_spec_l6Parts (CallsL.nil _)))), (IosL.nil _)⟩ mixed 0 2 Try.func59 rfl (by kernel_rfl)
    (fun c hc => by
      obtain rfl := Option.some.inj hc
      exact ⟨trivial, ⟨trivial, trivial⟩⟩)
    (fun x K hp hk => ⟨_, by kernel_rfl, vF_spec_CrdTxOk x.1 x.2 K hp (fun r h => hk r h)⟩)
theorem vF_spec_CrdRxOk (r:CrN) (K:List Arg→List (List AC)→Prop) (hp:True) (hk:∀ (b:Bool),(True)→K ([rB.to b]) ([])):Tt (True∧(∀ r1:Bool,(r1=(decide ((0≤r.out)∧(r.out≤255))))→Tt (if (r1=true) then (Tt (True∧(∀ r2:Bool,True→Tt (Tt (K [(aB r2)] []))))) else (Tt (K [(aB false)] []))))) := by
  try simp (disch := omega) only [wr]
  repeat' first
    | exact rfl
    | exact True.intro
    | with_reducible apply And.intro
    | (with_reducible intro y_ hy_; subst hy_)
    | with_reducible intro y_
    | (refine iteI (fun h => ?_) (fun h => ?_))
    | fail
  all_goals try simp only [cq1, cq2, cq3, cq4, cq5, cq6, cq7, cq8, cq9, cq10, cq11, cq12, cq13, cq14, cq15, cq16, cq17, cq18, cq19] at *
  all_goals try simp (disch := omega) only [wr] at *
  all_goals first
    | assumption
    | omega
    | exact (wr8_in _).1
    | exact (wr8_in _).2
    | (refine hk _ ?_
       (try dsimp only)
       first | done | exact True.intro | assumption | exact fun _ => by assumption | omega | grind [])
    | (simp only [LIM, HL] at *; omega)
    | grind [LIM, HL]
theorem w_spec_CrdRxOk : Valid Try.prog 80 c_spec_CrdRxOk :=
  valid_ctr2 (V := V_spec_CrdRxOk) (tysB_ok tys2_ok) ⟨(CallsL.cons w_spec_l1In (CallsL.cons w_spec_JoinOk (CallsL.nil _))), (IosL.nil _)⟩ mixed 0 1 Try.func80 rfl (by kernel_rfl)
    (fun c hc => by
      obtain rfl := Option.some.inj hc
      exact ⟨trivial, ⟨trivial, trivial⟩⟩)
    (fun x K hp hk => ⟨_, by kernel_rfl, vF_spec_CrdRxOk x K hp (fun b h => hk b h)⟩)
theorem vF_spec_l8Tx (t:CtN) (K:List Arg→List (List AC)→Prop) (hp:t.queue≤1000) (hk:∀ (q:CtN),(q=t)→K ([rCtN.to q]) ([])):Tt ((t.queue≤1000)∧(∀ r:Nat,(r=t.queue)→Tt (Tt (K [(Arg.v true [(ai t.have_),(AC.d (D.h RK.part r)),(ai t.granted),(ai t.sent),(AC.d (D.b t.dead))])] [])))) := by
  have hkk := fun a1_ a2_ a3_ a4_ a5_ h_ => hk ⟨a1_, a2_, a3_, a4_, a5_⟩ h_
  dsimp only [rCtN, rS, ctNC, List.map] at hkk
  try simp (disch := omega) only [wr]
  repeat' first
    | exact rfl
    | exact True.intro
    | with_reducible apply And.intro
    | (with_reducible intro y_ hy_; subst hy_)
    | with_reducible intro y_
    | (refine iteI (fun h => ?_) (fun h => ?_))
    | fail
  all_goals try simp only [cq1, cq2, cq3, cq4, cq5, cq6, cq7, cq8, cq9, cq10, cq11, cq12, cq13, cq14, cq15, cq16, cq17, cq18, cq19] at *
  all_goals try simp (disch := omega) only [wr] at *
  all_goals first
    | assumption
    | omega
    | exact (wr8_in _).1
    | exact (wr8_in _).2
    | (refine hkk _ _ _ _ _ ?_
       (try dsimp only)
       first | done | exact True.intro | assumption | exact fun _ => by assumption | omega | grind [])
    | (simp only [LIM, HL] at *; omega)
    | grind [LIM, HL]
theorem w_spec_l8Tx : Valid Try.prog 50 c_spec_l8Tx :=
  valid_ctr2 (V := V_spec_l8Tx) (tysB_ok tys2_ok) ⟨(CallsL.cons w_spec_l6List (CallsL.nil _)), (IosL.nil _)⟩ mixed 0 3 Try.func50 rfl (by kernel_rfl)
    (fun c hc => by
      obtain rfl := Option.some.inj hc
      exact ⟨trivial, ⟨trivial, ⟨trivial, ⟨trivial, trivial⟩⟩⟩⟩)
    (fun x K hp hk => ⟨_, by kernel_rfl, vF_spec_l8Tx x K hp (fun q h => hk q h)⟩)
theorem vF_spec_l8Rx (r:CrN) (K:List Arg→List (List AC)→Prop) (hp:r.got≤1000) (hk:∀ (q:CrN),(q=r)→K ([rCrN.to q]) ([])):True∧(((0 + r.got)≤137438953472)∧(Tt (K [(Arg.v true [(ai r.out),(ai r.len),(AC.d (D.h RK.u8 (0 + r.got))),(AC.d (D.b r.dead))])] []))) := by
  have hkk := fun a1_ a2_ a3_ a4_ h_ => hk ⟨a1_, a2_, a3_, a4_⟩ h_
  dsimp only [rCrN, rS, crNC, List.map] at hkk
  try simp (disch := omega) only [wr]
  repeat' first
    | exact rfl
    | exact True.intro
    | with_reducible apply And.intro
    | (with_reducible intro y_ hy_; subst hy_)
    | with_reducible intro y_
    | (refine iteI (fun h => ?_) (fun h => ?_))
    | fail
  all_goals try simp only [cq1, cq2, cq3, cq4, cq5, cq6, cq7, cq8, cq9, cq10, cq11, cq12, cq13, cq14, cq15, cq16, cq17, cq18, cq19] at *
  all_goals try simp (disch := omega) only [wr] at *
  all_goals first
    | assumption
    | omega
    | exact (wr8_in _).1
    | exact (wr8_in _).2
    | (refine hkk _ _ _ _ ?_
       (try dsimp only)
       first | done | exact True.intro | assumption | exact fun _ => by assumption | omega | grind [])
    | (simp only [LIM, HL] at *; omega)
    | grind [LIM, HL]
theorem w_spec_l8Rx : Valid Try.prog 51 c_spec_l8Rx :=
  valid_ctr2 (V := V_spec_l8Rx) (tysB_ok tys2_ok) ⟨(CallsL.nil _), (IosL.nil _)⟩ mixed 0 3 Try.func51 rfl (by kernel_rfl)
    (fun c hc => by
      obtain rfl := Option.some.inj hc
      exact ⟨trivial, ⟨trivial, ⟨trivial, ⟨trivial, trivial⟩⟩⟩⟩)
    (fun x K hp hk => ⟨_, by kernel_rfl, vF_spec_l8Rx x K hp (fun q h => hk q h)⟩)
theorem vF_spec_CrdPut (c:Cfg) (t:CtN) (m:Nat) (K:List Arg→List (List AC)→Prop) (hp:t.queue≤1000∧m≤1000) (hk:∀ (q:CtN) (b:Bool),(q.queue≤24∧(b=true→m≤24))→K ([rCtN.to q,rB.to b]) ([])):Tt ((t.queue≤1000)∧(∀ r:Bool,((r=true)→((CfgP c)∧(t.queue≤24)))→Tt (if ((!r)=true) then (Tt (K [(Arg.v true [(ai 0),(AC.d (D.h RK.part 0)),(ai 0),(ai 0),(AC.d (D.b false))]),(aB false)] [])) else (Tt ((t.queue≤1000)∧(∀ r1:CtN,(r1=t)→Tt (Tt ((m≤1000)∧(∀ r2:Nat,(r2≤24)→Tt (if (t.dead=true) then (Tt (K [(Arg.v true [(ai r1.have_),(AC.d (D.h RK.part r1.queue)),(ai r1.granted),(ai r1.sent),(AC.d (D.b r1.dead))]),(aB false)] [])) else (if ((decide (((m:Nat):Int) > c.mtu))=true) then (Tt (K [(Arg.v true [(ai r1.have_),(AC.d (D.h RK.part r1.queue)),(ai r1.granted),(ai r1.sent),(AC.d (D.b r1.dead))]),(aB false)] [])) else (if ((decide ((IntKind.i64.wrap (((t.queue:Nat):Int) + ((r2:Nat):Int))) > (24:Int)))=true) then (Tt (K [(Arg.v true [(ai r1.have_),(AC.d (D.h RK.part r1.queue)),(ai r1.granted),(ai r1.sent),(AC.d (D.b r1.dead))]),(aB false)] [])) else (((r1.queue + r2)≤137438953472)∧(Tt (((r1.queue + r2)≤1000)∧(∀ r3:CtN,(r3=(CtN.mk r1.have_ (r1.queue + r2) r1.granted r1.sent r1.dead))→Tt (Tt (K [(Arg.v true [(ai r3.have_),(AC.d (D.h RK.part r3.queue)),(ai r3.granted),(ai r3.sent),(AC.d (D.b r3.dead))]),(aB true)] [])))))))))))))))))) := by
  have hkk := fun a1_ a2_ a3_ a4_ a5_ a6_ h_ => hk ⟨a1_, a2_, a3_, a4_, a5_⟩ a6_ h_
  dsimp only [rCtN, rS, ctNC, List.map] at hkk
  try simp (disch := omega) only [wr]
  repeat' first
    | exact rfl
    | exact True.intro
    | with_reducible apply And.intro
    | (with_reducible intro y_ hy_; subst hy_)
    | with_reducible intro y_
    | (refine iteI (fun h => ?_) (fun h => ?_))
    | fail
  all_goals try simp only [cq1, cq2, cq3, cq4, cq5, cq6, cq7, cq8, cq9, cq10, cq11, cq12, cq13, cq14, cq15, cq16, cq17, cq18, cq19, CfgP] at *
  all_goals try simp (disch := omega) only [wr] at *
  all_goals first
    | assumption
    | omega
    | exact (wr8_in _).1
    | exact (wr8_in _).2
    | (refine hkk _ _ _ _ _ _ ?_
       (try dsimp only)
       first | done | exact True.intro | assumption | exact fun _ => by assumption | omega | grind [CfgP])
    | (simp only [LIM, HL] at *; omega)
    | grind [CfgP, LIM, HL]
theorem w_spec_CrdPut : Valid Try.prog 36 c_spec_CrdPut :=
  valid_ctr2 (V := V_spec_CrdPut) (tysB_ok tys2_ok) ⟨(CallsL.cons w_spec_l8Tx (CallsL.cons w_spec_CrdTxOk (CallsL.cons w_spec_SegCut (CallsL.nil _)))), (IosL.nil _)⟩ mixed 0 4 Try.func36 rfl (by kernel_rfl)
    (fun c hc => by
      obtain rfl := Option.some.inj hc
      exact ⟨trivial, ⟨⟨trivial, ⟨⟨trivial, trivial⟩, trivial⟩⟩, ⟨trivial, ⟨trivial, ⟨⟨trivial, ⟨⟨trivial, trivial⟩, trivial⟩⟩, ⟨trivial, ⟨trivial, trivial⟩⟩⟩⟩⟩⟩⟩)
    (fun x K hp hk => ⟨_, by kernel_rfl, vF_spec_CrdPut x.1 x.2.1 x.2.2 K hp (fun q b h => hk (q, b) h)⟩)
theorem vF_spec_CrdSend (c:Cfg) (t:CtN) (K:List Arg→List (List AC)→Prop) (hp:t.queue≤1000) (hk:∀ (q:CtN) (f:FrmN) (b:Bool),(q.queue≤24∧f.data≤1000)→K ([rCtN.to q,rFrmN.to f,rB.to b]) ([])):Tt ((t.queue≤1000)∧(∀ r:Bool,((r=true)→((CfgP c)∧(t.queue≤24)))→Tt (if ((!r)=true) then (Tt (K [(Arg.v true [(ai 0),(AC.d (D.h RK.part 0)),(ai 0),(ai 0),(AC.d (D.b false))]),(Arg.v true [(ai 0),(ai 0),(ai 0),(AC.d (D.b false)),(AC.d (D.b false)),(ai 0),(ai 0),(ai 0),(AC.d (D.h RK.u8 0))]),(aB false)] [])) else (Tt ((t.queue≤1000)∧(∀ r1:CtN,(r1=t)→Tt (if (t.dead=true) then (Tt (K [(Arg.v true [(ai r1.have_),(AC.d (D.h RK.part r1.queue)),(ai r1.granted),(ai r1.sent),(AC.d (D.b r1.dead))]),(Arg.v true [(ai 0),(ai 0),(ai 0),(AC.d (D.b false)),(AC.d (D.b false)),(ai 0),(ai 0),(ai 0),(AC.d (D.h RK.u8 0))]),(aB false)] [])) else (if ((t.have_ == 0)=true) then (Tt (K [(Arg.v true [(ai r1.have_),(AC.d (D.h RK.part r1.queue)),(ai r1.granted),(ai r1.sent),(AC.d (D.b r1.dead))]),(Arg.v true [(ai 0),(ai 0),(ai 0),(AC.d (D.b false)),(AC.d (D.b false)),(ai 0),(ai 0),(ai 0),(AC.d (D.h RK.u8 0))]),(aB false)] [])) else (if ((((t.queue:Nat):Int) == (0:Int))=true) then (Tt (K [(Arg.v true [(ai r1.have_),(AC.d (D.h RK.part r1.queue)),(ai r1.granted),(ai r1.sent),(AC.d (D.b r1.dead))]),(Arg.v true [(ai 0),(ai 0),(ai 0),(AC.d (D.b false)),(AC.d (D.b false)),(ai 0),(ai 0),(ai 0),(AC.d (D.h RK.u8 0))]),(aB false)] [])) else (if ((t.sent == 9999)=true) then (Tt (K [(Arg.v true [(ai r1.have_),(AC.d (D.h RK.part r1.queue)),(ai r1.granted),(ai r1.sent),(AC.d (D.b r1.dead))]),(Arg.v true [(ai 0),(ai 0),(ai 0),(AC.d (D.b false)),(AC.d (D.b false)),(ai 0),(ai 0),(ai 0),(AC.d (D.h RK.u8 0))]),(aB false)] [])) else ((((0:Int)≤(0:Int))∧((0:Int) < ((r1.queue:Nat):Int)))∧(∀ x:Int,∀ x1:Int,∀ n:Nat,(n≤1000)→(((0:Int)≤(1:Int))∧(((1:Int)≤((r1.queue:Nat):Int))∧(((r1.queue:Nat):Int)≤((r1.queue:Nat):Int))))∧(Tt ((((Int.toNat ((r1.queue:Nat):Int)) - 1)≤1000)∧(∀ r2:Nat,(r2=((Int.toNat ((r1.queue:Nat):Int)) - 1))→Tt (True∧(Tt (((0 + n)≤137438953472)∧(Tt (Tt (Tt (Tt (K [(Arg.v true [(ai (IntKind.i64.wrap (t.have_ - 1))),(AC.d (D.h RK.part r2)),(ai r1.granted),(ai (IntKind.i64.wrap (t.sent + 1))),(AC.d (D.b r1.dead))]),(Arg.v true [(ai 3),(ai 0),(ai 0),(AC.d (D.b false)),(AC.d (D.b false)),(ai 0),(ai x),(ai x1),(AC.d (D.h RK.u8 (0 + n)))]),(aB true)] []))))))))))))))))))))))) := by
  have hkk := fun a1_ a2_ a3_ a4_ a5_ a6_ a7_ a8_ a9_ a10_ a11_ a12_ a13_ a14_ a15_ h_ => hk ⟨a1_, a2_, a3_, a4_, a5_⟩ ⟨a6_, a7_, a8_, a9_, a10_, a11_, a12_, a13_, a14_⟩ a15_ h_
  dsimp only [rFrmN, rCtN, rS, frmNC, ctNC, List.map] at hkk
  try simp (disch := omega) only [wr]
  repeat' first
    | exact rfl
    | exact True.intro
    | with_reducible apply And.intro
    | (with_reducible intro y_ hy_; subst hy_)
    | with_reducible intro y_
    | (refine iteI (fun h => ?_) (fun h => ?_))
    | fail
  all_goals try simp only [cq1, cq2, cq3, cq4, cq5, cq6, cq7, cq8, cq9, cq10, cq11, cq12, cq13, cq14, cq15, cq16, cq17, cq18, cq19, CfgP] at *
  all_goals try simp (disch := omega) only [wr] at *
  all_goals first
    | assumption
    | omega
    | exact (wr8_in _).1
    | exact (wr8_in _).2
    | (refine hkk _ _ _ _ _ _ _ _ _ _ _ _ _ _ _ ?_
       (try dsimp only)
       first | done | exact True.intro | assumption | exact fun _ => by assumption | omega | grind [CfgP])
    | (simp only [LIM, HL] at *; omega)
    | grind [CfgP, LIM, HL]
theorem w_spec_CrdSend : Valid Try.prog 38 c_spec_CrdSend :=
  valid_ctr2 (V := V_spec_CrdSend) (tysB_ok tys2_ok) ⟨(CallsL.cons w_spec_l8Tx (CallsL.cons w_spec_CrdTxOk (CallsL.cons w_spec_l6List (CallsL.nil _)))), (IosL.nil _)⟩ mixed 0 6 Try.func38 rfl (by kernel_rfl)
    (fun c hc => by
      obtain rfl := Option.some.inj hc
      exact ⟨trivial, ⟨⟨trivial, ⟨⟨trivial, trivial⟩, trivial⟩⟩, ⟨trivial, ⟨⟨trivial, ⟨⟨trivial, trivial⟩, trivial⟩⟩, ⟨trivial, ⟨trivial, ⟨trivial, ⟨trivial, ⟨trivial, trivial⟩⟩⟩⟩⟩⟩⟩⟩⟩)
    (fun x K hp hk => ⟨_, by kernel_rfl, vF_spec_CrdSend x.1 x.2 K hp (fun q f b h => hk (q, f, b) h)⟩)
theorem vF_spec_CrdTake (c:Cfg) (t:CtN) (n:Int) (K:List Arg→List (List AC)→Prop) (hp:t.queue≤1000) (hk:∀ (q:CtN),(q.queue≤24)→K ([rCtN.to q]) ([])):Tt ((t.queue≤1000)∧(∀ r:Bool,((r=true)→((CfgP c)∧(t.queue≤24)))→Tt (if ((!r)=true) then (Tt (K [(Arg.v true [(ai 0),(AC.d (D.h RK.part 0)),(ai 0),(ai 0),(AC.d (D.b false))])] [])) else (Tt (True∧(∀ r1:Bool,(r1=(decide ((1≤n)∧(n≤255))))→Tt (if ((!r1)=true) then (Tt (K [(Arg.v true [(ai 0),(AC.d (D.h RK.part 0)),(ai 0),(ai 0),(AC.d (D.b false))])] [])) else (Tt ((t.queue≤1000)∧(∀ r2:CtN,(r2=t)→Tt (if (t.dead=true) then (Tt (K [(Arg.v true [(ai r2.have_),(AC.d (D.h RK.part r2.queue)),(ai r2.granted),(ai r2.sent),(AC.d (D.b r2.dead))])] [])) else (if ((decide ((IntKind.i64.wrap (t.have_ + n)) > (255:Int)))=true) then (Tt (K [(Arg.v true [(ai r2.have_),(AC.d (D.h RK.part r2.queue)),(ai r2.granted),(ai r2.sent),(AC.d (D.b true))])] [])) else (if ((decide ((IntKind.i64.wrap (t.granted + n)) > (9999:Int)))=true) then (Tt (K [(Arg.v true [(ai r2.have_),(AC.d (D.h RK.part r2.queue)),(ai r2.granted),(ai r2.sent),(AC.d (D.b true))])] [])) else (Tt (K [(Arg.v true [(ai (IntKind.i64.wrap (t.have_ + n))),(AC.d (D.h RK.part r2.queue)),(ai (IntKind.i64.wrap (t.granted + n))),(ai r2.sent),(AC.d (D.b r2.dead))])] []))))))))))))))) := by
  have hkk := fun a1_ a2_ a3_ a4_ a5_ h_ => hk ⟨a1_, a2_, a3_, a4_, a5_⟩ h_
  dsimp only [rCtN, rS, ctNC, List.map] at hkk
  try simp (disch := omega) only [wr]
  repeat' first
    | exact rfl
    | exact True.intro
    | with_reducible apply And.intro
    | (with_reducible intro y_ hy_; subst hy_)
    | with_reducible intro y_
    | (refine iteI (fun h => ?_) (fun h => ?_))
    | fail
  all_goals try simp only [cq1, cq2, cq3, cq4, cq5, cq6, cq7, cq8, cq9, cq10, cq11, cq12, cq13, cq14, cq15, cq16, cq17, cq18, cq19, CfgP] at *
  all_goals try simp (disch := omega) only [wr] at *
  all_goals first
    | assumption
    | omega
    | exact (wr8_in _).1
    | exact (wr8_in _).2
    | (refine hkk _ _ _ _ _ ?_
       (try dsimp only)
       first | done | exact True.intro | assumption | exact fun _ => by assumption | omega | grind [CfgP])
    | (simp only [LIM, HL] at *; omega)
    | grind [CfgP, LIM, HL]
theorem w_spec_CrdTake : Valid Try.prog 37 c_spec_CrdTake :=
  valid_ctr2 (V := V_spec_CrdTake) (tysB_ok tys2_ok) ⟨(CallsL.cons w_spec_l1In (CallsL.cons w_spec_l8Tx (CallsL.cons w_spec_CrdTxOk (CallsL.nil _)))), (IosL.nil _)⟩ mixed 0 4 Try.func37 rfl (by kernel_rfl)
    (fun c hc => by
      obtain rfl := Option.some.inj hc
      exact ⟨trivial, ⟨⟨trivial, ⟨⟨trivial, trivial⟩, trivial⟩⟩, ⟨trivial, ⟨⟨trivial, ⟨⟨trivial, trivial⟩, trivial⟩⟩, ⟨⟨trivial, ⟨⟨trivial, ⟨trivial, trivial⟩⟩, trivial⟩⟩, ⟨trivial, ⟨trivial, ⟨trivial, trivial⟩⟩⟩⟩⟩⟩⟩⟩)
    (fun x K hp hk => ⟨_, by kernel_rfl, vF_spec_CrdTake x.1 x.2.1 x.2.2 K hp (fun q h => hk q h)⟩)
theorem vF_spec_CrdGrant (r:CrN) (K:List Arg→List (List AC)→Prop) (hp:JInv r.len r.got) (hk:∀ (q:CrN) (f:FrmN) (b:Bool),(JInv q.len q.got∧f.data=0)→K ([rCrN.to q,rFrmN.to f,rB.to b]) ([])):Tt (True∧(∀ r1:Bool,True→Tt (if ((!r1)=true) then (Tt (K [(Arg.v true [(ai 0),(ai 0),(AC.d (D.h RK.u8 0)),(AC.d (D.b false))]),(Arg.v true [(ai 0),(ai 0),(ai 0),(AC.d (D.b false)),(AC.d (D.b false)),(ai 0),(ai 0),(ai 0),(AC.d (D.h RK.u8 0))]),(aB false)] [])) else (Tt ((r.got≤1000)∧(∀ r2:CrN,(r2=r)→Tt (if (r.dead=true) then (Tt (K [(Arg.v true [(ai r2.out),(ai r2.len),(AC.d (D.h RK.u8 r2.got)),(AC.d (D.b r2.dead))]),(Arg.v true [(ai 0),(ai 0),(ai 0),(AC.d (D.b false)),(AC.d (D.b false)),(ai 0),(ai 0),(ai 0),(AC.d (D.h RK.u8 0))]),(aB false)] [])) else (if ((decide (r.out ≥ (6:Int)))=true) then (Tt (K [(Arg.v true [(ai r2.out),(ai r2.len),(AC.d (D.h RK.u8 r2.got)),(AC.d (D.b r2.dead))]),(Arg.v true [(ai 0),(ai 0),(ai 0),(AC.d (D.b false)),(AC.d (D.b false)),(ai 0),(ai 0),(ai 0),(AC.d (D.h RK.u8 0))]),(aB false)] [])) else (Tt (Tt (Tt (K [(Arg.v true [(ai 6),(ai r2.len),(AC.d (D.h RK.u8 r2.got)),(AC.d (D.b r2.dead))]),(Arg.v true [(ai 4),(ai 0),(ai 0),(AC.d (D.b false)),(AC.d (D.b false)),(ai 0),(ai 0),(ai (IntKind.i64.wrap ((6:Int) - r.out))),(AC.d (D.h RK.u8 0))]),(aB true)] [])))))))))))) := by
  have hkk := fun a1_ a2_ a3_ a4_ a5_ a6_ a7_ a8_ a9_ a10_ a11_ a12_ a13_ a14_ h_ => hk ⟨a1_, a2_, a3_, a4_⟩ ⟨a5_, a6_, a7_, a8_, a9_, a10_, a11_, a12_, a13_⟩ a14_ h_
  dsimp only [rFrmN, rCrN, rS, frmNC, crNC, List.map] at hkk
  try simp (disch := omega) only [wr]
  repeat' first
    | exact rfl
    | exact True.intro
    | with_reducible apply And.intro
    | (with_reducible intro y_ hy_; subst hy_)
    | with_reducible intro y_
    | (refine iteI (fun h => ?_) (fun h => ?_))
    | fail
  all_goals try simp only [cq1, cq2, cq3, cq4, cq5, cq6, cq7, cq8, cq9, cq10, cq11, cq12, cq13, cq14, cq15, cq16, cq17, cq18, cq19, JInv] at *
  all_goals try simp (disch := omega) only [wr] at *
  all_goals first
    | assumption
    | omega
    | exact (wr8_in _).1
    | exact (wr8_in _).2
    | (refine hkk _ _ _ _ _ _ _ _ _ _ _ _ _ _ ?_
       (try dsimp only)
       first | done | exact True.intro | assumption | exact fun _ => by assumption | omega | grind [JInv])
    | (simp only [LIM, HL] at *; omega)
    | grind [JInv, LIM, HL]
theorem w_spec_CrdGrant : Valid Try.prog 68 c_spec_CrdGrant :=
  valid_ctr2 (V := V_spec_CrdGrant) (tysB_ok tys2_ok) ⟨(CallsL.cons w_spec_l8Rx (CallsL.cons w_spec_CrdRxOk (CallsL.nil _))), (IosL.nil _)⟩ mixed 0 4 Try.func68 rfl (by kernel_rfl)
    (fun c hc => by
      obtain rfl := Option.some.inj hc
      exact ⟨trivial, ⟨⟨trivial, ⟨⟨trivial, trivial⟩, trivial⟩⟩, ⟨trivial, ⟨⟨trivial, ⟨⟨trivial, trivial⟩, trivial⟩⟩, ⟨trivial, ⟨trivial, trivial⟩⟩⟩⟩⟩⟩)
    (fun x K hp hk => ⟨_, by kernel_rfl, vF_spec_CrdGrant x K hp (fun q f b h => hk (q, f, b) h)⟩)
theorem vF_spec_CrdHear (c:Cfg) (r:CrN) (f:FrmN) (K:List Arg→List (List AC)→Prop) (hp:JInv r.len r.got) (hk:∀ (q:CrN) (s:Nat),(JInv q.len q.got∧s≤1)→K ([rCrN.to q,(rH .byr).to s]) ([])):Tt (True∧(∀ r1:Bool,(r1=(decide (CfgP c)))→Tt (if ((!r1)=true) then (True∧(Tt (K [(Arg.v true [(ai 0),(ai 0),(AC.d (D.h RK.u8 0)),(AC.d (D.b false))]),(Arg.v false [(AC.d (D.h RK.byr 0))])] []))) else (Tt (True∧(∀ r2:Bool,True→Tt (if ((!r2)=true) then (True∧(Tt (K [(Arg.v true [(ai 0),(ai 0),(AC.d (D.h RK.u8 0)),(AC.d (D.b false))]),(Arg.v false [(AC.d (D.h RK.byr 0))])] []))) else (Tt (True∧(∀ r3:Bool,(r3=(decide (FrmPN f)))→Tt (if ((!r3)=true) then (True∧(Tt (K [(Arg.v true [(ai 0),(ai 0),(AC.d (D.h RK.u8 0)),(AC.d (D.b false))]),(Arg.v false [(AC.d (D.h RK.byr 0))])] []))) else (if ((f.kind != (3:Int))=true) then (True∧(Tt (K [(Arg.v true [(ai 0),(ai 0),(AC.d (D.h RK.u8 0)),(AC.d (D.b false))]),(Arg.v false [(AC.d (D.h RK.byr 0))])] []))) else (Tt ((r.got≤1000)∧(∀ r4:CrN,(r4=r)→Tt (if (r.dead=true) then (True∧(Tt (K [(Arg.v true [(ai r4.out),(ai r4.len),(AC.d (D.h RK.u8 r4.got)),(AC.d (D.b r4.dead))]),(Arg.v false [(AC.d (D.h RK.byr 0))])] []))) else (if ((r.out == 0)=true) then (True∧(Tt (K [(Arg.v true [(ai r4.out),(ai r4.len),(AC.d (D.h RK.u8 r4.got)),(AC.d (D.b true))]),(Arg.v false [(AC.d (D.h RK.byr 0))])] []))) else (if ((decide (f.len > c.mtu))=true) then (True∧(Tt (K [(Arg.v true [(ai r4.out),(ai r4.len),(AC.d (D.h RK.u8 r4.got)),(AC.d (D.b true))]),(Arg.v false [(AC.d (D.h RK.byr 0))])] []))) else (if ((decide (((f.data:Nat):Int) > c.mps))=true) then (True∧(Tt (K [(Arg.v true [(ai r4.out),(ai r4.len),(AC.d (D.h RK.u8 r4.got)),(AC.d (D.b true))]),(Arg.v false [(AC.d (D.h RK.byr 0))])] []))) else (Tt (((((r4.len=0)∧(r4.got=0))∨((1≤r4.len)∧((r4.len≤255)∧(r4.got≤255))))∧(SegP f.seg f.len ((f.data:Nat):Int)))∧(∀ r5:(Prod JoinN (Prod Nat Int)),((JInv r5.fst.len r5.fst.got)∧(r5.snd.fst≤255))→Tt (if ((r5.snd.snd == 3)=true) then (if ((r5.snd.snd == 2)=true) then (Tt ((r5.fst.got≤1000)∧(∀ r6:CrN,(r6=(CrN.mk (IntKind.i64.wrap (r.out - 1)) r5.fst.len r5.fst.got true))→Tt (((((RK.u8=RK.u8)∧(r5.snd.fst≤1000))∧True)∧True)∧(Tt ((1≤1000)∧(∀ r7:Nat,(r7=1)→Tt (Tt (K [(Arg.v true [(ai r6.out),(ai r6.len),(AC.d (D.h RK.u8 r6.got)),(AC.d (D.b r6.dead))]),(Arg.v false [(AC.d (D.h RK.byr r7))])] []))))))))) else (Tt ((r5.fst.got≤1000)∧(∀ r6:CrN,(r6=(CrN.mk (IntKind.i64.wrap (r.out - 1)) r5.fst.len r5.fst.got true))→Tt (True∧(Tt (K [(Arg.v true [(ai r6.out),(ai r6.len),(AC.d (D.h RK.u8 r6.got)),(AC.d (D.b r6.dead))]),(Arg.v false [(AC.d (D.h RK.byr 0))])] []))))))) else (if ((r5.snd.snd == 2)=true) then (Tt ((r5.fst.got≤1000)∧(∀ r6:CrN,(r6=(CrN.mk (IntKind.i64.wrap (r.out - 1)) r5.fst.len r5.fst.got r4.dead))→Tt (((((RK.u8=RK.u8)∧(r5.snd.fst≤1000))∧True)∧True)∧(Tt ((1≤1000)∧(∀ r7:Nat,(r7=1)→Tt (Tt (K [(Arg.v true [(ai r6.out),(ai r6.len),(AC.d (D.h RK.u8 r6.got)),(AC.d (D.b r6.dead))]),(Arg.v false [(AC.d (D.h RK.byr r7))])] []))))))))) else (Tt ((r5.fst.got≤1000)∧(∀ r6:CrN,(r6=(CrN.mk (IntKind.i64.wrap (r.out - 1)) r5.fst.len r5.fst.got r4.dead))→Tt (True∧(Tt (K [(Arg.v true [(ai r6.out),(ai r6.len),(AC.d (D.h RK.u8 r6.got)),(AC.d (D.b r6.dead))]),(Arg.v false [(AC.d (D.h RK.byr 0))])] [])))))))))))))))))))))))))))))) := by
  have hkk := fun a1_ a2_ a3_ a4_ a5_ h_ => hk ⟨a1_, a2_, a3_, a4_⟩ a5_ h_
  dsimp only [rCrN, rS, crNC, List.map] at hkk
  try simp (disch := omega) only [wr]
  repeat' first
    | exact rfl
    | exact True.intro
    | with_reducible apply And.intro
    | (with_reducible intro y_ hy_; subst hy_)
    | with_reducible intro y_
    | (refine iteI (fun h => ?_) (fun h => ?_))
    | fail
  all_goals try simp only [cq1, cq2, cq3, cq4, cq5, cq6, cq7, cq8, cq9, cq10, cq11, cq12, cq13, cq14, cq15, cq16, cq17, cq18, cq19, JInv, FrmPN] at *
  all_goals try simp (disch := omega) only [wr] at *
  all_goals first
    | assumption
    | omega
    | exact (wr8_in _).1
    | exact (wr8_in _).2
    | (refine hkk _ _ _ _ _ ?_
       (try dsimp only)
       first | done | exact True.intro | assumption | exact fun _ => by assumption | omega | grind [JInv, FrmPN])
    | (simp only [LIM, HL] at *; omega)
    | grind [JInv, FrmPN, LIM, HL]
theorem w_spec_CrdHear : Valid Try.prog 83 c_spec_CrdHear :=
  valid_ctr2 (V := V_spec_CrdHear) (tysB_ok tys2_ok) ⟨(CallsL.cons w_spec_CfgOk (CallsL.cons w_spec_l8Rx (CallsL.cons w_spec_l7Sdus (CallsL.cons w_spec_FrmOk (CallsL.cons w_spec_CrdRxOk (CallsL.cons w_spec_l4Put (CallsL.nil _))))))), (IosL.nil _)⟩ mixed 0 6 Try.func83 rfl (by kernel_rfl)
    (fun c hc => by
      obtain rfl := Option.some.inj hc
      exact ⟨trivial, ⟨⟨trivial, ⟨⟨trivial, trivial⟩, trivial⟩⟩, ⟨trivial, ⟨⟨trivial, ⟨⟨trivial, trivial⟩, trivial⟩⟩, ⟨⟨trivial, ⟨⟨trivial, ⟨trivial, trivial⟩⟩, trivial⟩⟩, ⟨trivial, ⟨trivial, ⟨trivial, ⟨⟨trivial, ⟨trivial, trivial⟩⟩, ⟨⟨trivial, ⟨⟨trivial, trivial⟩, trivial⟩⟩, ⟨trivial, trivial⟩⟩⟩⟩⟩⟩⟩⟩⟩⟩⟩)
    (fun x K hp hk => ⟨_, by kernel_rfl, vF_spec_CrdHear x.1 x.2.1 x.2.2 K hp (fun q s h => hk (q, s) h)⟩)
end Go.Proofs.YtjjcjpmfkbfdfaaE
