/- A part of the proof of laws of the program: what calls of the program answer. Conditions: none. -/
import Derived.Test.YtjjcjpmfkbfdfaaM3042e502
set_option linter.unusedVariables false
set_option linter.unusedSimpArgs false
set_option linter.unusedSectionVars false

/- Contracts: N2. Conditions: none. -/
set_option linter.unusedVariables false
set_option maxHeartbeats 1600000
namespace Go.Proofs.YtjjcjpmfkbfdfaaE
open Go
def JInv (len : Int) (got : Nat) : Prop := (len = 0 ∧ got = 0) ∨ (1 ≤ len ∧ len ≤ 255 ∧ got ≤ 255)
def TxB (t : TxN) : Prop := 0 ≤ t.acked ∧ t.acked ≤ 7 ∧ 0 ≤ t.sent ∧ t.sent ≤ t.flight ∧ t.queue ≤ 24 ∧ t.flight ≤ 1000

/-! impl.CfgOk -/
def c_impl_CfgOk : Ent := ctr (α := (Cfg)) (ρ := (Bool)) [] [] (rs1 rCfg) (fun x_ => (fun (c : Cfg) => (True)) x_) (fun x_ r_ => (fun x_ => (fun (c : Cfg) => ((fun r_ => (fun (r : Bool) => (r = decide (CfgP c))) r_))) x_) x_ r_) (fun r_ => (fun (r : Bool) => ([rB.to r])) r_) (fun r_ => (fun (r : Bool) => ([])) r_)
def V_impl_CfgOk : Env := ⟨tys2, [(22, c_impl_in)], [], [(1, 0)], [], [], [500006, 500011, 500016, 500021], [], []⟩
/-! spec.CfgOk -/
def c_spec_CfgOk : Ent := ctr (α := (Cfg)) (ρ := (Bool)) [] [] (rs1 rCfg) (fun x_ => (fun (c : Cfg) => (True)) x_) (fun x_ r_ => (fun x_ => (fun (c : Cfg) => ((fun r_ => (fun (r : Bool) => (r = decide (CfgP c))) r_))) x_) x_ r_) (fun r_ => (fun (r : Bool) => ([rB.to r])) r_) (fun r_ => (fun (r : Bool) => ([])) r_)
def V_spec_CfgOk : Env := ⟨tys2, [(42, c_spec_l1In)], [], [(1, 0)], [], [], [500006, 500011, 500016, 500021], [], []⟩
/-! spec.PartOk -/
def c_spec_PartOk : Ent := ctr (α := (PartN)) (ρ := (Bool)) [] [] (rs1 rPartN) (fun x_ => (fun (p : PartN) => (True)) x_) (fun x_ r_ => (fun x_ => (fun (p : PartN) => ((fun r_ => (fun (r : Bool) => (r = decide (SegP p.seg p.len p.data))) r_))) x_) x_ r_) (fun r_ => (fun (r : Bool) => ([rB.to r])) r_) (fun r_ => (fun (r : Bool) => ([])) r_)
def V_spec_PartOk : Env := ⟨tys2, [(76, c_spec_l2Seg)], [], [(1, 0)], [], [], [], [], []⟩
/-! spec.JoinOk -/
def c_spec_JoinOk : Ent := ctr (α := (JoinN)) (ρ := (Bool)) [] [] (rs1 rJoinN) (fun x_ => (fun (j : JoinN) => (True)) x_) (fun x_ r_ => (fun x_ => (fun (j : JoinN) => ((fun r_ => (fun (r : Bool) => (True)) r_))) x_) x_ r_) (fun r_ => (fun (r : Bool) => ([rB.to r])) r_) (fun r_ => (fun (r : Bool) => ([])) r_)
def V_spec_JoinOk : Env := ⟨tys2, [(42, c_spec_l1In)], [], [(1, 0)], [], [], [500006, 500012, 500016], [], []⟩
/-! spec.SegCut -/
def c_spec_SegCut : Ent := ctr (α := (Nat) × (Int)) (ρ := (Nat)) [] [] (rs (rH .u8) (rs1 rInt)) (fun x_ => (fun (m : Nat) (k : Int) => (m ≤ 1000)) x_.1 x_.2) (fun x_ r_ => (fun x_ => (fun (m : Nat) (k : Int) => ((fun r_ => (fun (r : Nat) => (r ≤ 24)) r_))) x_.1 x_.2) x_ r_) (fun r_ => (fun (r : Nat) => ([(rH .part).to r])) r_) (fun r_ => (fun (r : Nat) => ([])) r_)
def l_spec_SegCut_0 : LoopD ((Nat) × (Int) × (Nat) × (Int)) ((Nat)) ((Empty)) where
  n := 72
  head := ⟨[0, 1, 5, 6], [], []⟩
  st := fun x_ => (fun (m : Nat) (k : Int) (o : Nat) (i : Int) => (⟨true, [(0, .v false [.d (.h .u8 m)]), (1, num .i64 k), (5, .v false [.d (.h .part o)]), (6, num .i64 i)], [], [⟨0, none⟩]⟩)) x_.1 x_.2.1 x_.2.2.1 x_.2.2.2
  pre := fun x_ => (fun (m : Nat) (k : Int) (o : Nat) (i : Int) => (m ≤ 24 ∧ 1 ≤ k ∧ k ≤ 8 ∧ o = 0 ∧ i = 0)) x_.1 x_.2.1 x_.2.2.1 x_.2.2.2
  nk := ⟨[5], [], []⟩
  nst := fun r_ => (fun (o : Nat) => (⟨true, [(5, .v false [.d (.h .part o)])], [], [⟨0, none⟩]⟩)) r_
  npost := fun x_ r_ => (fun x_ => (fun (m0 : Nat) (k0 : Int) (o0 : Nat) (i0 : Int) => ((fun r_ => (fun (o : Nat) => (o ≤ 24)) r_))) x_.1 x_.2.1 x_.2.2.1 x_.2.2.2) x_ r_
  rk := ⟨[], [], []⟩
  rst := fun _ => ⟨true, [], [], []⟩
  rpost := fun _ _ => False
def i_spec_SegCut_0 (x : (Nat) × (Int) × (Nat) × (Int)) (n : Nat) (s : (Nat) × (Int) × (Nat) × (Int)) : Prop := (fun x_ => (fun (m0 : Nat) (k0 : Int) (o0 : Nat) (i0 : Int) => ((fun s_ => (fun (m : Nat) (k : Int) (o : Nat) (i : Int) => (m = m0 ∧ k = k0 ∧ m ≤ 24 ∧ 1 ≤ k ∧ k ≤ 8 ∧ 0 ≤ i ∧ i ≤ m + 8 ∧ (o : Int) ≤ i ∧ o + n = 24)) s_.1 s_.2.1 s_.2.2.1 s_.2.2.2))) x_.1 x_.2.1 x_.2.2.1 x_.2.2.2) x s
def V_spec_SegCut : Env := ⟨tys2, [(42, c_spec_l1In)], [], [(7, 0)], [], [(0, l_spec_SegCut_0.L)], [500012, 500058], [], []⟩
/-! spec.l4Bad -/
def c_spec_l4Bad : Ent := ctr (α := Unit) (ρ := (Unit)) [] [] rs0 (fun x_ => (True)) (fun x_ r_ => (fun x_ => ((fun r_ => (fun (u : Unit) => (True)) r_))) x_ r_) (fun r_ => (fun (u : Unit) => ([rJoinN.to ⟨0, 0⟩, (rH .u8).to 0, rInt.to 3])) r_) (fun r_ => (fun (u : Unit) => ([])) r_)
def V_spec_l4Bad : Env := ⟨tys2, [], [], [(0, 0)], [], [], [], [], []⟩
/-! spec.l4Put -/
def c_spec_l4Put : Ent := ctr (α := (JoinN) × (PartN)) (ρ := (JoinN) × (Nat) × (Int)) [] [] (rs rJoinN (rs1 rPartN)) (fun x_ => (fun (j : JoinN) (p : PartN) => (JInv j.len j.got ∧ SegP p.seg p.len p.data)) x_.1 x_.2) (fun x_ r_ => (fun x_ => (fun (j : JoinN) (p : PartN) => ((fun r_ => (fun (q : JoinN) (s : Nat) (w : Int) => (JInv q.len q.got ∧ s ≤ 255)) r_.1 r_.2.1 r_.2.2))) x_.1 x_.2) x_ r_) (fun r_ => (fun (q : JoinN) (s : Nat) (w : Int) => ([rJoinN.to q, (rH .u8).to s, rInt.to w])) r_.1 r_.2.1 r_.2.2) (fun r_ => (fun (q : JoinN) (s : Nat) (w : Int) => ([])) r_.1 r_.2.1 r_.2.2)
def V_spec_l4Put : Env := ⟨tys2, [(91, c_spec_l4Bad)], [], [(2, 0), (3, 1), (4, 2)], [], [], [500046, 500064], [], [(2, [(1, false), (2, false), (4, false), (5, false), (0, true), (3, true), (6, true), (7, false)])]⟩
/-! spec.l6Parts -/
def c_spec_l6Parts : Ent := ctr (α := (Nat) × (Int)) (ρ := (Bool)) [] [] (rs (rH .part) (rs1 rInt)) (fun x_ => (fun (m : Nat) (k : Int) => (m ≤ 1000)) x_.1 x_.2) (fun x_ r_ => (fun x_ => (fun (m : Nat) (k : Int) => ((fun r_ => (fun (r : Bool) => (True)) r_))) x_.1 x_.2) x_ r_) (fun r_ => (fun (r : Bool) => ([rB.to r])) r_) (fun r_ => (fun (r : Bool) => ([])) r_)
def l_spec_l6Parts_0 : LoopD ((Nat) × (Int) × (Int)) ((Unit)) ((Bool)) where
  n := 28
  head := ⟨[0, 1, 5], [], []⟩
  st := fun x_ => (fun (m : Nat) (k : Int) (i : Int) => (⟨true, [(0, .v false [.d (.h .part m)]), (1, num .i64 k), (5, num .i64 i)], [], []⟩)) x_.1 x_.2.1 x_.2.2
  pre := fun x_ => (fun (m : Nat) (k : Int) (i : Int) => (m ≤ 1000 ∧ i = 0)) x_.1 x_.2.1 x_.2.2
  nk := ⟨[], [], []⟩
  nst := fun r_ => (fun (u : Unit) => (⟨true, [], [], []⟩)) r_
  npost := fun x_ r_ => (fun x_ => (fun (m0 : Nat) (k0 : Int) (i0 : Int) => ((fun r_ => (fun (u : Unit) => (True)) r_))) x_.1 x_.2.1 x_.2.2) x_ r_
  rk := ⟨[4], [], []⟩
  rst := fun r_ => (fun (b : Bool) => (⟨true, [(4, boo b)], [], []⟩)) r_
  rpost := fun x_ r_ => (fun x_ => (fun (m0 : Nat) (k0 : Int) (i0 : Int) => ((fun r_ => (fun (b : Bool) => (True)) r_))) x_.1 x_.2.1 x_.2.2) x_ r_
def i_spec_l6Parts_0 (x : (Nat) × (Int) × (Int)) (n : Nat) (s : (Nat) × (Int) × (Int)) : Prop := (fun x_ => (fun (m0 : Nat) (k0 : Int) (i0 : Int) => ((fun s_ => (fun (m : Nat) (k : Int) (i : Int) => (m = m0 ∧ m ≤ 1000 ∧ 0 ≤ i ∧ i + n = m)) s_.1 s_.2.1 s_.2.2))) x_.1 x_.2.1 x_.2.2) x s
def V_spec_l6Parts : Env := ⟨tys2, [(85, c_spec_PartOk)], [], [], [], [(0, l_spec_l6Parts_0.L)], [500018], [], []⟩
/-! spec.TxOk -/
def c_spec_TxOk : Ent := ctr (α := (Cfg) × (TxN)) (ρ := (Bool)) [] [] (rs rCfg (rs1 rTxN)) (fun x_ => (fun (c : Cfg) (t : TxN) => (t.flight ≤ 1000 ∧ t.queue ≤ 1000)) x_.1 x_.2) (fun x_ r_ => (fun x_ => (fun (c : Cfg) (t : TxN) => ((fun r_ => (fun (r : Bool) => (r = true → CfgP c ∧ TxB t ∧ (t.flight : Int) ≤ c.win)) r_))) x_.1 x_.2) x_ r_) (fun r_ => (fun (r : Bool) => ([rB.to r])) r_) (fun r_ => (fun (r : Bool) => ([])) r_)
def V_spec_TxOk : Env := ⟨tys2, [(39, c_spec_CfgOk), (42, c_spec_l1In), (72, c_spec_NumFar), (73, c_spec_NumOf), (74, c_spec_l6Parts)], [], [(2, 0), (3, 1)], [], [], [500008, 500014, 500020, 500028, 500039, 500048, 500054, 500062, 500068, 500081], [], [(1, [(0, false), (1, true), (2, false), (3, false), (4, false), (5, false), (6, true), (7, false), (8, false), (9, false), (10, false), (11, false), (12, true), (13, false), (14, false), (15, false), (16, false), (17, false), (18, false), (19, false), (20, false), (21, false), (22, false), (23, false), (24, false), (25, false), (26, false), (27, false), (29, false), (30, false), (31, false), (28, true), (32, false), (33, false), (34, false), (35, false), (36, false), (37, false), (38, false), (39, false), (40, true), (41, false), (42, false), (43, false), (44, false), (45, false), (46, false), (47, false), (48, false), (49, false), (50, false), (51, false), (52, false), (53, false), (54, true), (55, false), (56, false), (57, false), (58, false), (59, false), (60, true), (61, false), (62, false), (63, false), (64, false), (65, false), (67, false), (68, false), (66, true), (69, false), (70, false)])]⟩
/-! spec.l6List -/
def c_spec_l6List : Ent := ctr (α := (Nat)) (ρ := (Nat)) [] [] (rs1 (rH .part)) (fun x_ => (fun (m : Nat) => (m ≤ 1000)) x_) (fun x_ r_ => (fun x_ => (fun (m : Nat) => ((fun r_ => (fun (r : Nat) => (r = m)) r_))) x_) x_ r_) (fun r_ => (fun (r : Nat) => ([(rH .part).to r])) r_) (fun r_ => (fun (r : Nat) => ([])) r_)
def l_spec_l6List_0 : LoopD ((Nat) × (Nat) × (Int)) ((Nat)) ((Empty)) where
  n := 34
  head := ⟨[0, 3, 4], [], []⟩
  st := fun x_ => (fun (m : Nat) (o : Nat) (i : Int) => (⟨true, [(0, .v false [.d (.h .part m)]), (3, .v false [.d (.h .part o)]), (4, num .i64 i)], [], []⟩)) x_.1 x_.2.1 x_.2.2
  pre := fun x_ => (fun (m : Nat) (o : Nat) (i : Int) => (m ≤ 1000 ∧ o = 0 ∧ i = 0)) x_.1 x_.2.1 x_.2.2
  nk := ⟨[3], [], []⟩
  nst := fun r_ => (fun (o : Nat) => (⟨true, [(3, .v false [.d (.h .part o)])], [], []⟩)) r_
  npost := fun x_ r_ => (fun x_ => (fun (m0 : Nat) (o0 : Nat) (i0 : Int) => ((fun r_ => (fun (o : Nat) => (o = m0)) r_))) x_.1 x_.2.1 x_.2.2) x_ r_
  rk := ⟨[], [], []⟩
  rst := fun _ => ⟨true, [], [], []⟩
  rpost := fun _ _ => False
def i_spec_l6List_0 (x : (Nat) × (Nat) × (Int)) (n : Nat) (s : (Nat) × (Nat) × (Int)) : Prop := (fun x_ => (fun (m0 : Nat) (o0 : Nat) (i0 : Int) => ((fun s_ => (fun (m : Nat) (o : Nat) (i : Int) => (m = m0 ∧ m ≤ 1000 ∧ 0 ≤ i ∧ (o : Int) = i ∧ i + n = m)) s_.1 s_.2.1 s_.2.2))) x_.1 x_.2.1 x_.2.2) x s
def V_spec_l6List : Env := ⟨tys2, [], [], [], [], [(0, l_spec_l6List_0.L)], [], [], [(5, [(0, false), (1, false), (2, false), (3, false), (4, false), (5, false), (6, false), (7, false), (8, false), (9, false), (10, false), (12, false), (13, false), (14, false), (15, false), (16, false), (11, true), (17, true), (18, false), (19, true), (20, true), (21, false)])]⟩
end Go.Proofs.YtjjcjpmfkbfdfaaE


/- Calls answer what is promised: N2. Conditions: none. -/
set_option linter.unusedVariables false
set_option maxHeartbeats 1600000
namespace Go.Proofs.YtjjcjpmfkbfdfaaE
open Go
def k_e5d914 (s_:(Prod Nat (Prod Int (Prod Nat Int)))) : KS := (KS.mk true [(Prod.mk 0 (T.v false [(Cm.d (D.h RK.u8 s_.fst))])),(Prod.mk 1 (num IntKind.i64 s_.snd.fst)),(Prod.mk 5 (T.v false [(Cm.d (D.h RK.part s_.snd.snd.fst))])),(Prod.mk 6 (num IntKind.i64 s_.snd.snd.snd))] [] [(Box.mk 0 none)])
def k_d9344a (s_:(Prod Nat (Prod Int Int))) : KS := (KS.mk true [(Prod.mk 0 (T.v false [(Cm.d (D.h RK.part s_.fst))])),(Prod.mk 1 (num IntKind.i64 s_.snd.fst)),(Prod.mk 5 (num IntKind.i64 s_.snd.snd))] [] [])
def k_454851 (s_:(Prod Nat (Prod Nat Int))) : KS := (KS.mk true [(Prod.mk 0 (T.v false [(Cm.d (D.h RK.part s_.fst))])),(Prod.mk 3 (T.v false [(Cm.d (D.h RK.part s_.snd.fst))])),(Prod.mk 4 (num IntKind.i64 s_.snd.snd))] [] [])
theorem vF_impl_CfgOk (c:Cfg) (K:List Arg→List (List AC)→Prop) (hp:True) (hk:∀ (r:Bool),(r=decide (CfgP c))→K ([rB.to r]) ([])):Tt (True∧(∀ r:Bool,(r=(decide ((1≤c.mode)∧(c.mode≤2))))→Tt (if (r=true) then (Tt (True∧(∀ r1:Bool,(r1=(decide ((1≤c.win)∧(c.win≤4))))→Tt (if (r1=true) then (Tt (True∧(∀ r2:Bool,(r2=(decide ((1≤c.mps)∧(c.mps≤8))))→Tt (if (r2=true) then (Tt (True∧(∀ r3:Bool,(r3=(decide ((1≤c.mtu)∧(c.mtu≤24))))→Tt (if (r3=true) then (Tt (True∧(∀ r4:Bool,(r4=(decide ((1≤c.try_)∧(c.try_≤5))))→Tt (Tt (K [(aB r4)] []))))) else (Tt (K [(aB false)] [])))))) else (Tt (K [(aB false)] [])))))) else (Tt (K [(aB false)] [])))))) else (Tt (K [(aB false)] []))))) := by
  try simp (disch := omega) only [wr]
  repeat' first
    | exact rfl
    | exact True.intro
    | with_reducible apply And.intro
    | (with_reducible intro y_ hy_; subst hy_)
    | with_reducible intro y_
    | (refine iteI (fun h => ?_) (fun h => ?_))
    | fail
  all_goals try simp only [cq1, cq2, cq3, cq4, cq5, cq6, cq7, cq8, cq9, cq10, cq11, cq12, cq13, cq14, cq15, cq16, cq17, cq18, cq19, CfgP] at *
  all_goals try simp (disch := omega) only [wr] at *
  all_goals first
    | assumption
    | omega
    | exact (wr8_in _).1
    | exact (wr8_in _).2
    | (refine hk _ ?_
       (try dsimp only)
       first | done | exact True.intro | assumption | exact fun _ => by assumption | omega | grind [CfgP])
    | (simp only [LIM, HL] at *; omega)
    | grind [CfgP, LIM, HL]
theorem w_impl_CfgOk : Valid Try.prog 12 c_impl_CfgOk :=
  valid_ctr2 (V := V_impl_CfgOk) (tysB_ok tys2_ok) ⟨(CallsL.cons w_impl_in (CallsL.nil _)), (IosL.nil _)⟩ mixed 0 1 Try.func12 rfl (by kernel_rfl)
    (fun c hc => by
      obtain rfl := Option.some.inj hc
      exact ⟨trivial, ⟨trivial, trivial⟩⟩)
    (fun x K hp hk => ⟨_, by kernel_rfl, vF_impl_CfgOk x K hp (fun r h => hk r h)⟩)
theorem vF_spec_CfgOk (c:Cfg) (K:List Arg→List (List AC)→Prop) (hp:True) (hk:∀ (r:Bool),(r=decide (CfgP c))→K ([rB.to r]) ([])):Tt (True∧(∀ r:Bool,(r=(decide ((1≤c.mode)∧(c.mode≤2))))→Tt (if (r=true) then (Tt (True∧(∀ r1:Bool,(r1=(decide ((1≤c.win)∧(c.win≤4))))→Tt (if (r1=true) then (Tt (True∧(∀ r2:Bool,(r2=(decide ((1≤c.mps)∧(c.mps≤8))))→Tt (if (r2=true) then (Tt (True∧(∀ r3:Bool,(r3=(decide ((1≤c.mtu)∧(c.mtu≤24))))→Tt (if (r3=true) then (Tt (True∧(∀ r4:Bool,(r4=(decide ((1≤c.try_)∧(c.try_≤5))))→Tt (Tt (K [(aB r4)] []))))) else (Tt (K [(aB false)] [])))))) else (Tt (K [(aB false)] [])))))) else (Tt (K [(aB false)] [])))))) else (Tt (K [(aB false)] []))))) := by
  try simp (disch := omega) only [wr]
  repeat' first
    | exact rfl
    | exact True.intro
    | with_reducible apply And.intro
    | (with_reducible intro y_ hy_; subst hy_)
    | with_reducible intro y_
    | (refine iteI (fun h => ?_) (fun h => ?_))
    | fail
  all_goals try simp only [cq1, cq2, cq3, cq4, cq5, cq6, cq7, cq8, cq9, cq10, cq11, cq12, cq13, cq14, cq15, cq16, cq17, cq18, cq19, CfgP] at *
  all_goals try simp (disch := omega) only [wr] at *
  all_goals first
    | assumption
    | omega
    | exact (wr8_in _).1
    | exact (wr8_in _).2
    | (refine hk _ ?_
       (try dsimp only)
       first | done | exact True.intro | assumption | exact fun _ => by assumption | omega | grind [CfgP])
    | (simp only [LIM, HL] at *; omega)
    | grind [CfgP, LIM, HL]
theorem w_spec_CfgOk : Valid Try.prog 39 c_spec_CfgOk :=
  valid_ctr2 (V := V_spec_CfgOk) (tysB_ok tys2_ok) ⟨(CallsL.cons w_spec_l1In (CallsL.nil _)), (IosL.nil _)⟩ mixed 0 1 Try.func39 rfl (by kernel_rfl)
    (fun c hc => by
      obtain rfl := Option.some.inj hc
      exact ⟨trivial, ⟨trivial, trivial⟩⟩)
    (fun x K hp hk => ⟨_, by kernel_rfl, vF_spec_CfgOk x K hp (fun r h => hk r h)⟩)
theorem vF_spec_PartOk (p:PartN) (K:List Arg→List (List AC)→Prop) (hp:True) (hk:∀ (r:Bool),(r=decide (SegP p.seg p.len p.data))→K ([rB.to r]) ([])):Tt (True∧(∀ r:Bool,(r=(decide (SegP p.seg p.len ((p.data:Nat):Int))))→Tt (Tt (K [(aB r)] [])))) := by
  try simp (disch := omega) only [wr]
  repeat' first
    | exact rfl
    | exact True.intro
    | with_reducible apply And.intro
    | (with_reducible intro y_ hy_; subst hy_)
    | with_reducible intro y_
    | (refine iteI (fun h => ?_) (fun h => ?_))
    | fail
  all_goals try simp only [cq1, cq2, cq3, cq4, cq5, cq6, cq7, cq8, cq9, cq10, cq11, cq12, cq13, cq14, cq15, cq16, cq17, cq18, cq19] at *
  all_goals try simp (disch := omega) only [wr] at *
  all_goals first
    | assumption
    | omega
    | exact (wr8_in _).1
    | exact (wr8_in _).2
    | (refine hk _ ?_
       (try dsimp only)
       first | done | exact True.intro | assumption | exact fun _ => by assumption | omega | grind [])
    | (simp only [LIM, HL] at *; omega)
    | grind [LIM, HL]
theorem w_spec_PartOk : Valid Try.prog 85 c_spec_PartOk :=
  valid_ctr2 (V := V_spec_PartOk) (tysB_ok tys2_ok) ⟨(CallsL.cons w_spec_l2Seg (CallsL.nil _)), (IosL.nil _)⟩ mixed 0 1 Try.func85 rfl (by kernel_rfl)
    (fun c hc => by
      obtain rfl := Option.some.inj hc
      exact ⟨trivial, ⟨trivial, trivial⟩⟩)
    (fun x K hp hk => ⟨_, by kernel_rfl, vF_spec_PartOk x K hp (fun r h => hk r h)⟩)
theorem vF_spec_JoinOk (j:JoinN) (K:List Arg→List (List AC)→Prop) (hp:True) (hk:∀ (r:Bool),(True)→K ([rB.to r]) ([])):if ((j.len == 0)=true) then (if ((((j.got:Nat):Int) == (0:Int))=true) then (Tt (K [(aB true)] [])) else (Tt (True∧(∀ r:Bool,(r=(decide ((2≤j.len)∧(j.len≤24))))→Tt (if (r=true) then (Tt (True∧(∀ r1:Bool,(r1=(decide (((1:Int)≤((j.got:Nat):Int))∧(((j.got:Nat):Int)≤(IntKind.i64.wrap (j.len - 1))))))→Tt (Tt (K [(aB r1)] []))))) else (Tt (K [(aB false)] []))))))) else (Tt (True∧(∀ r:Bool,(r=(decide ((2≤j.len)∧(j.len≤24))))→Tt (if (r=true) then (Tt (True∧(∀ r1:Bool,(r1=(decide (((1:Int)≤((j.got:Nat):Int))∧(((j.got:Nat):Int)≤(IntKind.i64.wrap (j.len - 1))))))→Tt (Tt (K [(aB r1)] []))))) else (Tt (K [(aB false)] [])))))) := by
  try simp (disch := omega) only [wr]
  repeat' first
    | exact rfl
    | exact True.intro
    | with_reducible apply And.intro
    | (with_reducible intro y_ hy_; subst hy_)
    | with_reducible intro y_
    | (refine iteI (fun h => ?_) (fun h => ?_))
    | fail
  all_goals try simp only [cq1, cq2, cq3, cq4, cq5, cq6, cq7, cq8, cq9, cq10, cq11, cq12, cq13, cq14, cq15, cq16, cq17, cq18, cq19] at *
  all_goals try simp (disch := omega) only [wr] at *
  all_goals first
    | assumption
    | omega
    | exact (wr8_in _).1
    | exact (wr8_in _).2
    | (refine hk _ ?_
       (try dsimp only)
       first | done | exact True.intro | assumption | exact fun _ => by assumption | omega | grind [])
    | (simp only [LIM, HL] at *; omega)
    | grind [LIM, HL]
theorem w_spec_JoinOk : Valid Try.prog 87 c_spec_JoinOk :=
  valid_ctr2 (V := V_spec_JoinOk) (tysB_ok tys2_ok) ⟨(CallsL.cons w_spec_l1In (CallsL.nil _)), (IosL.nil _)⟩ mixed 0 1 Try.func87 rfl (by kernel_rfl)
    (fun c hc => by
      obtain rfl := Option.some.inj hc
      exact ⟨trivial, ⟨trivial, trivial⟩⟩)
    (fun x K hp hk => ⟨_, by kernel_rfl, vF_spec_JoinOk x K hp (fun r h => hk r h)⟩)
theorem vF_spec_SegCut (m:Nat) (k:Int) (K:List Arg→List (List AC)→Prop) (hp:m≤1000) (hk:∀ (r:Nat),(r≤24)→K ([(rH .part).to r]) ([])):True∧(if ((decide (((m:Nat):Int) > (24:Int)))=true) then (Tt (K [(Arg.v false [(AC.d (D.h RK.part 0))])] [])) else (Tt (True∧(∀ r:Bool,(r=(decide ((1≤k)∧(k≤8))))→Tt (if ((!r)=true) then (Tt (K [(Arg.v false [(AC.d (D.h RK.part 0))])] [])) else (if ((decide (((m:Nat):Int)≤k))=true) then (True∧(((0 + m)≤137438953472)∧(((((RK.u8=RK.u8)∧((0 + m)≤1000))∧True)∧True)∧((1≤137438953472)∧(Tt (K [(Arg.v false [(AC.d (D.h RK.part 1))])] [])))))) else (∃ s:(Prod Nat (Prod Int (Prod Nat Int))),((KS.mk true [(Prod.mk 0 (T.v false [(Cm.d (D.h RK.u8 m))])),(Prod.mk 1 (num IntKind.i64 k)),(Prod.mk 5 (T.v false [(Cm.d (D.h RK.part 0))])),(Prod.mk 6 (num IntKind.i64 0))] [] [(Box.mk 0 none)])=(k_e5d914 s))∧(((s.fst≤24)∧((1≤s.snd.fst)∧((s.snd.fst≤8)∧((s.snd.snd.fst=0)∧(s.snd.snd.snd=0)))))∧((∀ r1:Nat,(r1≤24)→Tt (K [(Arg.v false [(AC.d (D.h RK.part r1))])] []))∧(∀ r1:Empty,False→False)))))))))) := by
  try simp (disch := omega) only [wr]
  repeat' first
    | exact rfl
    | exact True.intro
    | with_reducible apply And.intro
    | (with_reducible intro y_ hy_; subst hy_)
    | with_reducible intro y_
    | (refine iteI (fun h => ?_) (fun h => ?_))
    | refine ⟨(_, _, _, _), rfl, ?_⟩
    | refine ⟨n - 1, ?_⟩
    | fail
  all_goals try simp only [cq1, cq2, cq3, cq4, cq5, cq6, cq7, cq8, cq9, cq10, cq11, cq12, cq13, cq14, cq15, cq16, cq17, cq18, cq19] at *
  all_goals try simp (disch := omega) only [wr] at *
  all_goals first
    | assumption
    | omega
    | exact (wr8_in _).1
    | exact (wr8_in _).2
    | (refine hk _ ?_
       (try dsimp only)
       first | done | exact True.intro | assumption | exact fun _ => by assumption | omega | grind [])
    | (simp only [LIM, HL] at *; omega)
    | grind [LIM, HL]
theorem vL_spec_SegCut_0 (m0:Nat) (k0:Int) (o0:Nat) (i0:Int) (m:Nat) (k:Int) (o:Nat) (i:Int) (n:Nat) (hp:(fun (m:Nat) (k:Int) (o:Nat) (i:Int) => (m≤24∧1≤k∧k≤8∧o=0∧i=0)) m0 k0 o0 i0) (hi:m=m0∧k=k0∧m≤24∧1≤k∧k≤8∧0≤i∧i≤m + 8∧(o:Int)≤i∧o + n=24):if ((decide (i < ((m:Nat):Int)))=true) then (True∧(((0≤i)∧((i≤(if ((IntKind.i64.wrap (i + k)) < ((m:Nat):Int)) then (IntKind.i64.wrap (i + k)) else ((m:Nat):Int)))∧((if ((IntKind.i64.wrap (i + k)) < ((m:Nat):Int)) then (IntKind.i64.wrap (i + k)) else ((m:Nat):Int))≤((m:Nat):Int))))∧(((0 + ((Int.toNat (if ((IntKind.i64.wrap (i + k)) < ((m:Nat):Int)) then (IntKind.i64.wrap (i + k)) else ((m:Nat):Int))) - i.toNat))≤137438953472)∧(if ((i == 0)=true) then (if ((decide (i > (0:Int)))=true) then (if ((decide ((IntKind.i64.wrap (i + k)) ≥ ((m:Nat):Int)))=true) then (((((RK.u8=RK.u8)∧((0 + ((Int.toNat (if ((IntKind.i64.wrap (i + k)) < ((m:Nat):Int)) then (IntKind.i64.wrap (i + k)) else ((m:Nat):Int))) - i.toNat))≤1000))∧True)∧True)∧(((o + 1)≤137438953472)∧(∃ s:(Prod Nat (Prod Int (Prod Nat Int))),((KS.mk true [(Prod.mk 0 (T.v false [(Cm.d (D.h RK.u8 m))])),(Prod.mk 1 (num IntKind.i64 k)),(Prod.mk 5 (T.v false [(Cm.d (D.h RK.part (o + 1)))])),(Prod.mk 6 (num IntKind.i64 (IntKind.i64.wrap (i + k))))] [] [(Box.mk 0 none)])=(k_e5d914 s))∧(∃ m1:Nat,(m1 < n)∧((s.fst=m0)∧((s.snd.fst=k0)∧((s.fst≤24)∧((1≤s.snd.fst)∧((s.snd.fst≤8)∧((0≤s.snd.snd.snd)∧((s.snd.snd.snd≤(((s.fst:Nat):Int) + (8:Int)))∧((((s.snd.snd.fst:Nat):Int)≤s.snd.snd.snd)∧((s.snd.snd.fst + m1)=24))))))))))))) else (((((RK.u8=RK.u8)∧((0 + ((Int.toNat (if ((IntKind.i64.wrap (i + k)) < ((m:Nat):Int)) then (IntKind.i64.wrap (i + k)) else ((m:Nat):Int))) - i.toNat))≤1000))∧True)∧True)∧(((o + 1)≤137438953472)∧(∃ s:(Prod Nat (Prod Int (Prod Nat Int))),((KS.mk true [(Prod.mk 0 (T.v false [(Cm.d (D.h RK.u8 m))])),(Prod.mk 1 (num IntKind.i64 k)),(Prod.mk 5 (T.v false [(Cm.d (D.h RK.part (o + 1)))])),(Prod.mk 6 (num IntKind.i64 (IntKind.i64.wrap (i + k))))] [] [(Box.mk 0 none)])=(k_e5d914 s))∧(∃ m1:Nat,(m1 < n)∧((s.fst=m0)∧((s.snd.fst=k0)∧((s.fst≤24)∧((1≤s.snd.fst)∧((s.snd.fst≤8)∧((0≤s.snd.snd.snd)∧((s.snd.snd.snd≤(((s.fst:Nat):Int) + (8:Int)))∧((((s.snd.snd.fst:Nat):Int)≤s.snd.snd.snd)∧((s.snd.snd.fst + m1)=24)))))))))))))) else (((((RK.u8=RK.u8)∧((0 + ((Int.toNat (if ((IntKind.i64.wrap (i + k)) < ((m:Nat):Int)) then (IntKind.i64.wrap (i + k)) else ((m:Nat):Int))) - i.toNat))≤1000))∧True)∧True)∧(((o + 1)≤137438953472)∧(∃ s:(Prod Nat (Prod Int (Prod Nat Int))),((KS.mk true [(Prod.mk 0 (T.v false [(Cm.d (D.h RK.u8 m))])),(Prod.mk 1 (num IntKind.i64 k)),(Prod.mk 5 (T.v false [(Cm.d (D.h RK.part (o + 1)))])),(Prod.mk 6 (num IntKind.i64 (IntKind.i64.wrap (i + k))))] [] [(Box.mk 0 none)])=(k_e5d914 s))∧(∃ m1:Nat,(m1 < n)∧((s.fst=m0)∧((s.snd.fst=k0)∧((s.fst≤24)∧((1≤s.snd.fst)∧((s.snd.fst≤8)∧((0≤s.snd.snd.snd)∧((s.snd.snd.snd≤(((s.fst:Nat):Int) + (8:Int)))∧((((s.snd.snd.fst:Nat):Int)≤s.snd.snd.snd)∧((s.snd.snd.fst + m1)=24)))))))))))))) else (if ((decide (i > (0:Int)))=true) then (if ((decide ((IntKind.i64.wrap (i + k)) ≥ ((m:Nat):Int)))=true) then (((((RK.u8=RK.u8)∧((0 + ((Int.toNat (if ((IntKind.i64.wrap (i + k)) < ((m:Nat):Int)) then (IntKind.i64.wrap (i + k)) else ((m:Nat):Int))) - i.toNat))≤1000))∧True)∧True)∧(((o + 1)≤137438953472)∧(∃ s:(Prod Nat (Prod Int (Prod Nat Int))),((KS.mk true [(Prod.mk 0 (T.v false [(Cm.d (D.h RK.u8 m))])),(Prod.mk 1 (num IntKind.i64 k)),(Prod.mk 5 (T.v false [(Cm.d (D.h RK.part (o + 1)))])),(Prod.mk 6 (num IntKind.i64 (IntKind.i64.wrap (i + k))))] [] [(Box.mk 0 none)])=(k_e5d914 s))∧(∃ m1:Nat,(m1 < n)∧((s.fst=m0)∧((s.snd.fst=k0)∧((s.fst≤24)∧((1≤s.snd.fst)∧((s.snd.fst≤8)∧((0≤s.snd.snd.snd)∧((s.snd.snd.snd≤(((s.fst:Nat):Int) + (8:Int)))∧((((s.snd.snd.fst:Nat):Int)≤s.snd.snd.snd)∧((s.snd.snd.fst + m1)=24))))))))))))) else (((((RK.u8=RK.u8)∧((0 + ((Int.toNat (if ((IntKind.i64.wrap (i + k)) < ((m:Nat):Int)) then (IntKind.i64.wrap (i + k)) else ((m:Nat):Int))) - i.toNat))≤1000))∧True)∧True)∧(((o + 1)≤137438953472)∧(∃ s:(Prod Nat (Prod Int (Prod Nat Int))),((KS.mk true [(Prod.mk 0 (T.v false [(Cm.d (D.h RK.u8 m))])),(Prod.mk 1 (num IntKind.i64 k)),(Prod.mk 5 (T.v false [(Cm.d (D.h RK.part (o + 1)))])),(Prod.mk 6 (num IntKind.i64 (IntKind.i64.wrap (i + k))))] [] [(Box.mk 0 none)])=(k_e5d914 s))∧(∃ m1:Nat,(m1 < n)∧((s.fst=m0)∧((s.snd.fst=k0)∧((s.fst≤24)∧((1≤s.snd.fst)∧((s.snd.fst≤8)∧((0≤s.snd.snd.snd)∧((s.snd.snd.snd≤(((s.fst:Nat):Int) + (8:Int)))∧((((s.snd.snd.fst:Nat):Int)≤s.snd.snd.snd)∧((s.snd.snd.fst + m1)=24)))))))))))))) else (((((RK.u8=RK.u8)∧((0 + ((Int.toNat (if ((IntKind.i64.wrap (i + k)) < ((m:Nat):Int)) then (IntKind.i64.wrap (i + k)) else ((m:Nat):Int))) - i.toNat))≤1000))∧True)∧True)∧(((o + 1)≤137438953472)∧(∃ s:(Prod Nat (Prod Int (Prod Nat Int))),((KS.mk true [(Prod.mk 0 (T.v false [(Cm.d (D.h RK.u8 m))])),(Prod.mk 1 (num IntKind.i64 k)),(Prod.mk 5 (T.v false [(Cm.d (D.h RK.part (o + 1)))])),(Prod.mk 6 (num IntKind.i64 (IntKind.i64.wrap (i + k))))] [] [(Box.mk 0 none)])=(k_e5d914 s))∧(∃ m1:Nat,(m1 < n)∧((s.fst=m0)∧((s.snd.fst=k0)∧((s.fst≤24)∧((1≤s.snd.fst)∧((s.snd.fst≤8)∧((0≤s.snd.snd.snd)∧((s.snd.snd.snd≤(((s.fst:Nat):Int) + (8:Int)))∧((((s.snd.snd.fst:Nat):Int)≤s.snd.snd.snd)∧((s.snd.snd.fst + m1)=24)))))))))))))))))) else (∃ r:Nat,((KS.mk true [(Prod.mk 5 (T.v false [(Cm.d (D.h RK.part o))]))] [] [(Box.mk 0 none)])=(KS.mk true [(Prod.mk 5 (T.v false [(Cm.d (D.h RK.part r))]))] [] [(Box.mk 0 none)]))∧(r≤24)) := by
  try dsimp only at hp
  try simp (disch := omega) only [wr]
  repeat' first
    | exact rfl
    | exact True.intro
    | with_reducible apply And.intro
    | (with_reducible intro y_ hy_; subst hy_)
    | with_reducible intro y_
    | (refine iteI (fun h => ?_) (fun h => ?_))
    | refine ⟨(_, _, _, _), rfl, ?_⟩
    | refine ⟨_, rfl, ?_⟩
    | refine ⟨n - 1, ?_⟩
    | fail
  all_goals try simp only [cq1, cq2, cq3, cq4, cq5, cq6, cq7, cq8, cq9, cq10, cq11, cq12, cq13, cq14, cq15, cq16, cq17, cq18, cq19] at *
  all_goals try simp (disch := omega) only [wr] at *
  all_goals first
    | assumption
    | omega
    | exact (wr8_in _).1
    | exact (wr8_in _).2
    | (refine hk _ ?_
       (try dsimp only)
       first | done | exact True.intro | assumption | exact fun _ => by assumption | omega | grind [])
    | (simp only [LIM, HL] at *; omega)
    | grind [LIM, HL]
theorem vS_spec_SegCut_0 (m0 : Nat) (k0 : Int) (o0 : Nat) (i0 : Int) (hp : (fun (m : Nat) (k : Int) (o : Nat) (i : Int) => (m ≤ 24 ∧ 1 ≤ k ∧ k ≤ 8 ∧ o = 0 ∧ i = 0)) m0 k0 o0 i0) : ∃ n : Nat, (fun (m : Nat) (k : Int) (o : Nat) (i : Int) => (m = m0 ∧ k = k0 ∧ m ≤ 24 ∧ 1 ≤ k ∧ k ≤ 8 ∧ 0 ≤ i ∧ i ≤ m + 8 ∧ (o : Int) ≤ i ∧ o + n = 24)) m0 k0 o0 i0 := by
  try dsimp only at hp
  try dsimp only
  exact ⟨24, rfl, rfl, by omega, by omega, by omega, by omega, by omega, by omega, by omega⟩
theorem w_spec_SegCut : Valid Try.prog 60 c_spec_SegCut :=
  valid_ctr2 (V := V_spec_SegCut) (tysB_ok tys2_ok) ⟨(CallsL.cons w_spec_l1In (CallsL.nil _)), (IosL.nil _)⟩ mixed 0 1 Try.func60 rfl (by kernel_rfl)
    (fun c hc => by
      obtain rfl := Option.some.inj hc
      exact ⟨trivial, ⟨trivial, ⟨⟨trivial, ⟨⟨trivial, trivial⟩, trivial⟩⟩, ⟨⟨trivial, ⟨⟨trivial, trivial⟩, trivial⟩⟩, ⟨⟨trivial, ⟨LoopD.ok2 (V := V_spec_SegCut) l_spec_SegCut_0 (LoopsM.cons 0 l_spec_SegCut_0 LoopsM.nil) 0 _ i_spec_SegCut_0 (fun x hx => vS_spec_SegCut_0 x.1 x.2.1 x.2.2.1 x.2.2.2 hx) (fun x hx n s hi => ⟨_, by kernel_rfl, vL_spec_SegCut_0 x.1 x.2.1 x.2.2.1 x.2.2.2 s.1 s.2.1 s.2.2.1 s.2.2.2 n hx hi⟩), ⟨⟨trivial, ⟨trivial, trivial⟩⟩, ⟨⟨trivial, ⟨⟨trivial, ⟨⟨trivial, trivial⟩, trivial⟩⟩, ⟨⟨trivial, ⟨trivial, trivial⟩⟩, trivial⟩⟩⟩, trivial⟩⟩⟩⟩, ⟨trivial, trivial⟩⟩⟩⟩⟩⟩)
    (fun x K hp hk => ⟨_, by kernel_rfl, vF_spec_SegCut x.1 x.2 K hp (fun r h => hk r h)⟩)
theorem vF_spec_l4Bad (K:List Arg→List (List AC)→Prop) (hp:True) (hk:∀ (u:Unit),(True)→K ([rJoinN.to ⟨0,0⟩,(rH .u8).to 0,rInt.to 3]) ([])):True∧(Tt (K [(Arg.v true [(ai 0),(AC.d (D.h RK.u8 0))]),(Arg.v false [(AC.d (D.h RK.u8 0))]),(aI IntKind.i64 (3:Int))] [])) := by
  try simp (disch := omega) only [wr]
  repeat' first
    | exact rfl
    | exact True.intro
    | with_reducible apply And.intro
    | (with_reducible intro y_ hy_; subst hy_)
    | with_reducible intro y_
    | (refine iteI (fun h => ?_) (fun h => ?_))
    | fail
  all_goals try simp only [cq1, cq2, cq3, cq4, cq5, cq6, cq7, cq8, cq9, cq10, cq11, cq12, cq13, cq14, cq15, cq16, cq17, cq18, cq19] at *
  all_goals try simp (disch := omega) only [wr] at *
  all_goals first
    | assumption
    | omega
    | exact (wr8_in _).1
    | exact (wr8_in _).2
    | (refine hk () ?_
       (try dsimp only)
       first | done | exact True.intro | assumption | exact fun _ => by assumption | omega | grind [])
    | (simp only [LIM, HL] at *; omega)
    | grind [LIM, HL]
theorem w_spec_l4Bad : Valid Try.prog 91 c_spec_l4Bad :=
  valid_ctr2 (V := V_spec_l4Bad) (tysB_ok tys2_ok) ⟨(CallsL.nil _), (IosL.nil _)⟩ mixed 0 1 Try.func91 rfl (by kernel_rfl)
    (fun c hc => by
      obtain rfl := Option.some.inj hc
      exact ⟨trivial, ⟨trivial, trivial⟩⟩)
    (fun x K hp hk => ⟨_, by kernel_rfl, vF_spec_l4Bad  K hp (fun u h => hk u h)⟩)
theorem vF_spec_l4Put (j:JoinN) (p:PartN) (K:List Arg→List (List AC)→Prop) (hp:JInv j.len j.got∧SegP p.seg p.len p.data) (hk:∀ (q:JoinN) (s:Nat) (w:Int),(JInv q.len q.got∧s≤255)→K ([rJoinN.to q,(rH .u8).to s,rInt.to w]) ([])):True∧(Tt (((0 + j.got)≤137438953472)∧(Tt ((((0 + j.got) + p.data)≤137438953472)∧(Tt (if ((p.seg == 0)=true) then (if ((decide (j.len > (0:Int)))=true) then (Tt (True∧(∀ r:Unit,True→Tt (Tt (K [(Arg.v true [(ai 0),(AC.d (D.h RK.u8 0))]),(Arg.v false [(AC.d (D.h RK.u8 0))]),(aI IntKind.i64 (3:Int))] []))))) else (Tt (K [(Arg.v true [(ai 0),(AC.d (D.h RK.u8 0))]),(Arg.v false [(AC.d (D.h RK.u8 ((0 + j.got) + p.data)))]),(aI IntKind.i64 (2:Int))] []))) else (if ((p.seg == 1)=true) then (if ((decide (j.len > (0:Int)))=true) then (Tt (True∧(∀ r:Unit,True→Tt (Tt (K [(Arg.v true [(ai 0),(AC.d (D.h RK.u8 0))]),(Arg.v false [(AC.d (D.h RK.u8 0))]),(aI IntKind.i64 (3:Int))] []))))) else (True∧(Tt (K [(Arg.v true [(ai p.len),(AC.d (D.h RK.u8 ((0 + j.got) + p.data)))]),(Arg.v false [(AC.d (D.h RK.u8 0))]),(aI IntKind.i64 (1:Int))] [])))) else (if ((p.seg == 2)=true) then (if ((!(decide (j.len > (0:Int))))=true) then (Tt (True∧(∀ r:Unit,True→Tt (Tt (K [(Arg.v true [(ai 0),(AC.d (D.h RK.u8 0))]),(Arg.v false [(AC.d (D.h RK.u8 0))]),(aI IntKind.i64 (3:Int))] []))))) else (if ((decide (((((0 + j.got) + p.data):Nat):Int) ≥ j.len))=true) then (Tt (True∧(∀ r:Unit,True→Tt (Tt (K [(Arg.v true [(ai 0),(AC.d (D.h RK.u8 0))]),(Arg.v false [(AC.d (D.h RK.u8 0))]),(aI IntKind.i64 (3:Int))] []))))) else (True∧(Tt (K [(Arg.v true [(ai j.len),(AC.d (D.h RK.u8 ((0 + j.got) + p.data)))]),(Arg.v false [(AC.d (D.h RK.u8 0))]),(aI IntKind.i64 (1:Int))] []))))) else (if ((!(decide (j.len > (0:Int))))=true) then (Tt (True∧(∀ r:Unit,True→Tt (Tt (K [(Arg.v true [(ai 0),(AC.d (D.h RK.u8 0))]),(Arg.v false [(AC.d (D.h RK.u8 0))]),(aI IntKind.i64 (3:Int))] []))))) else (if ((((((0 + j.got) + p.data):Nat):Int) != j.len)=true) then (Tt (True∧(∀ r:Unit,True→Tt (Tt (K [(Arg.v true [(ai 0),(AC.d (D.h RK.u8 0))]),(Arg.v false [(AC.d (D.h RK.u8 0))]),(aI IntKind.i64 (3:Int))] []))))) else (Tt (K [(Arg.v true [(ai 0),(AC.d (D.h RK.u8 0))]),(Arg.v false [(AC.d (D.h RK.u8 ((0 + j.got) + p.data)))]),(aI IntKind.i64 (2:Int))] [])))))))))))) := by
  have hkk := fun a1_ a2_ a3_ a4_ h_ => hk ⟨a1_, a2_⟩ a3_ a4_ h_
  dsimp only [rJoinN, rS, joinNC, List.map] at hkk
  try simp (disch := omega) only [wr]
  repeat' first
    | exact rfl
    | exact True.intro
    | with_reducible apply And.intro
    | (with_reducible intro y_ hy_; subst hy_)
    | with_reducible intro y_
    | (refine iteI (fun h => ?_) (fun h => ?_))
    | fail
  all_goals try simp only [cq1, cq2, cq3, cq4, cq5, cq6, cq7, cq8, cq9, cq10, cq11, cq12, cq13, cq14, cq15, cq16, cq17, cq18, cq19, JInv, SegP] at *
  all_goals try simp (disch := omega) only [wr] at *
  all_goals first
    | assumption
    | omega
    | exact (wr8_in _).1
    | exact (wr8_in _).2
    | (refine hkk _ _ _ _ ?_
       (try dsimp only)
       first | done | exact True.intro | assumption | exact fun _ => by assumption | omega | grind [JInv, SegP])
    | (simp only [LIM, HL] at *; omega)
    | grind [JInv, SegP, LIM, HL]
theorem w_spec_l4Put : Valid Try.prog 89 c_spec_l4Put :=
  valid_ctr2 (V := V_spec_l4Put) (tysB_ok tys2_ok) ⟨(CallsL.cons w_spec_l4Bad (CallsL.nil _)), (IosL.nil _)⟩ mixed 0 3 Try.func89 rfl (by kernel_rfl)
    (fun c hc => by
      obtain rfl := Option.some.inj hc
      exact ⟨trivial, ⟨trivial, ⟨trivial, ⟨⟨trivial, ⟨trivial, ⟨⟨⟨trivial, ⟨⟨trivial, trivial⟩, trivial⟩⟩, ⟨trivial, trivial⟩⟩, ⟨trivial, ⟨⟨⟨trivial, ⟨⟨trivial, trivial⟩, trivial⟩⟩, ⟨trivial, trivial⟩⟩, ⟨trivial, ⟨⟨⟨trivial, ⟨⟨trivial, trivial⟩, trivial⟩⟩, ⟨trivial, trivial⟩⟩, trivial⟩⟩⟩⟩⟩⟩⟩, ⟨⟨trivial, ⟨⟨trivial, trivial⟩, trivial⟩⟩, ⟨trivial, trivial⟩⟩⟩⟩⟩⟩)
    (fun x K hp hk => ⟨_, by kernel_rfl, vF_spec_l4Put x.1 x.2 K hp (fun q s w h => hk (q, s, w) h)⟩)
theorem vF_spec_l6Parts (m:Nat) (k:Int) (K:List Arg→List (List AC)→Prop) (hp:m≤1000) (hk:∀ (r:Bool),(True)→K ([rB.to r]) ([])):∃ s:(Prod Nat (Prod Int Int)),((KS.mk true [(Prod.mk 0 (T.v false [(Cm.d (D.h RK.part m))])),(Prod.mk 1 (num IntKind.i64 k)),(Prod.mk 5 (num IntKind.i64 0))] [] [])=(k_d9344a s))∧(((s.fst≤1000)∧(s.snd.snd=0))∧((∀ r:Unit,True→Tt (K [(aB true)] []))∧(∀ r:Bool,True→Tt (K [(aB r)] [])))) := by
  try simp (disch := omega) only [wr]
  repeat' first
    | exact rfl
    | exact True.intro
    | with_reducible apply And.intro
    | (with_reducible intro y_ hy_; subst hy_)
    | with_reducible intro y_
    | (refine iteI (fun h => ?_) (fun h => ?_))
    | refine ⟨(_, _, _), rfl, ?_⟩
    | refine ⟨n - 1, ?_⟩
    | fail
  all_goals try simp only [cq1, cq2, cq3, cq4, cq5, cq6, cq7, cq8, cq9, cq10, cq11, cq12, cq13, cq14, cq15, cq16, cq17, cq18, cq19] at *
  all_goals try simp (disch := omega) only [wr] at *
  all_goals first
    | assumption
    | omega
    | exact (wr8_in _).1
    | exact (wr8_in _).2
    | (refine hk _ ?_
       (try dsimp only)
       first | done | exact True.intro | assumption | exact fun _ => by assumption | omega | grind [])
    | (simp only [LIM, HL] at *; omega)
    | grind [LIM, HL]
theorem vL_spec_l6Parts_0 (m0:Nat) (k0:Int) (i0:Int) (m:Nat) (k:Int) (i:Int) (n:Nat) (hp:(fun (m:Nat) (k:Int) (i:Int) => (m≤1000∧i=0)) m0 k0 i0) (hi:m=m0∧m≤1000∧0≤i∧i + n=m):if ((decide (i < ((m:Nat):Int)))=true) then (((0≤i)∧(i < ((m:Nat):Int)))∧(∀ x:Int,∀ x1:Int,∀ n1:Nat,(n1≤1000)→Tt (True∧(∀ r:Bool,(r=(decide (SegP x x1 ((n1:Nat):Int))))→Tt (if ((!r)=true) then (∃ r1:Bool,((KS.mk true [(Prod.mk 4 (boo false))] [] [])=(KS.mk true [(Prod.mk 4 (boo r1))] [] []))∧True) else (((0≤i)∧(i < ((m:Nat):Int)))∧(∀ n2:Nat,(n2≤1000)→if ((decide (((n2:Nat):Int) > k))=true) then (∃ r1:Bool,((KS.mk true [(Prod.mk 4 (boo false))] [] [])=(KS.mk true [(Prod.mk 4 (boo r1))] [] []))∧True) else (∃ s:(Prod Nat (Prod Int Int)),((KS.mk true [(Prod.mk 0 (T.v false [(Cm.d (D.h RK.part m))])),(Prod.mk 1 (num IntKind.i64 k)),(Prod.mk 5 (num IntKind.i64 (IntKind.i64.wrap (i + 1))))] [] [])=(k_d9344a s))∧(∃ m1:Nat,(m1 < n)∧((s.fst=m0)∧((s.fst≤1000)∧((0≤s.snd.snd)∧((s.snd.snd + ((m1:Nat):Int))=((s.fst:Nat):Int)))))))))))))) else (∃ r:Unit,((KS.mk true [] [] [])=(KS.mk true [] [] []))∧True) := by
  try dsimp only at hp
  try simp (disch := omega) only [wr]
  repeat' first
    | exact rfl
    | exact True.intro
    | with_reducible apply And.intro
    | (with_reducible intro y_ hy_; subst hy_)
    | with_reducible intro y_
    | (refine iteI (fun h => ?_) (fun h => ?_))
    | refine ⟨(_, _, _), rfl, ?_⟩
    | refine ⟨(), by trivial, ?_⟩
    | refine ⟨_, rfl, ?_⟩
    | refine ⟨n - 1, ?_⟩
    | fail
  all_goals try simp only [cq1, cq2, cq3, cq4, cq5, cq6, cq7, cq8, cq9, cq10, cq11, cq12, cq13, cq14, cq15, cq16, cq17, cq18, cq19] at *
  all_goals try simp (disch := omega) only [wr] at *
  all_goals first
    | assumption
    | omega
    | exact (wr8_in _).1
    | exact (wr8_in _).2
    | (refine hk _ ?_
       (try dsimp only)
       first | done | exact True.intro | assumption | exact fun _ => by assumption | omega | grind [])
    | (simp only [LIM, HL] at *; omega)
    | grind [LIM, HL]
theorem vS_spec_l6Parts_0 (m0 : Nat) (k0 : Int) (i0 : Int) (hp : (fun (m : Nat) (k : Int) (i : Int) => (m ≤ 1000 ∧ i = 0)) m0 k0 i0) : ∃ n : Nat, (fun (m : Nat) (k : Int) (i : Int) => (m = m0 ∧ m ≤ 1000 ∧ 0 ≤ i ∧ i + n = m)) m0 k0 i0 := by
  try dsimp only at hp
  try dsimp only
  exact ⟨m0, rfl, hp.1, by omega, by omega⟩
theorem w_spec_l6Parts : Valid Try.prog 74 c_spec_l6Parts :=
  valid_ctr2 (V := V_spec_l6Parts) (tysB_ok tys2_ok) ⟨(CallsL.cons w_spec_PartOk (CallsL.nil _)), (IosL.nil _)⟩ mixed 0 0 Try.func74 rfl (by kernel_rfl)
    (fun c hc => by
      obtain rfl := Option.some.inj hc
      exact ⟨trivial, ⟨⟨trivial, ⟨LoopD.ok2 (V := V_spec_l6Parts) l_spec_l6Parts_0 (LoopsM.cons 0 l_spec_l6Parts_0 LoopsM.nil) 0 _ i_spec_l6Parts_0 (fun x hx => vS_spec_l6Parts_0 x.1 x.2.1 x.2.2 hx) (fun x hx n s hi => ⟨_, by kernel_rfl, vL_spec_l6Parts_0 x.1 x.2.1 x.2.2 s.1 s.2.1 s.2.2 n hx hi⟩), ⟨⟨trivial, ⟨trivial, trivial⟩⟩, ⟨⟨trivial, ⟨⟨trivial, trivial⟩, trivial⟩⟩, trivial⟩⟩⟩⟩, ⟨trivial, trivial⟩⟩⟩)
    (fun x K hp hk => ⟨_, by kernel_rfl, vF_spec_l6Parts x.1 x.2 K hp (fun r h => hk r h)⟩)
theorem vF_spec_TxOk (c:Cfg) (t:TxN) (K:List Arg→List (List AC)→Prop) (hp:t.flight≤1000∧t.queue≤1000) (hk:∀ (r:Bool),(r=true→CfgP c∧TxB t∧(t.flight:Int)≤c.win)→K ([rB.to r]) ([])):Tt (True∧(∀ r:Bool,(r=(decide (CfgP c)))→Tt (Tt (if ((!r)=true) then (Tt (Tt (Tt (Tt (Tt (Tt (Tt (Tt (K [(aB false)] []))))))))) else (Tt (True∧(∀ r1:Bool,(r1=(decide ((0≤t.next)∧(t.next≤7))))→Tt (Tt (if ((!r1)=true) then (Tt (Tt (Tt (Tt (Tt (Tt (Tt (K [(aB false)] [])))))))) else (Tt (True∧(∀ r2:Bool,(r2=(decide ((0≤t.acked)∧(t.acked≤7))))→Tt (Tt (if ((!r2)=true) then (Tt (Tt (Tt (Tt (Tt (Tt (K [(aB false)] []))))))) else (if ((decide (((t.flight:Nat):Int) > c.win))=true) then (Tt (Tt (Tt (Tt (Tt (Tt (K [(aB false)] []))))))) else (Tt (True∧(∀ r3:Int,(((0≤t.acked)∧((t.acked≤7)∧((0≤t.next)∧(t.next≤7))))→((0≤r3)∧(r3≤7)))→Tt (Tt (if ((r3 != ((t.flight:Nat):Int))=true) then (Tt (Tt (Tt (Tt (Tt (K [(aB false)] [])))))) else (Tt (True∧(∀ r4:Bool,(r4=(decide ((0≤t.sent)∧(t.sent≤((t.flight:Nat):Int)))))→Tt (Tt (if ((!r4)=true) then (Tt (Tt (Tt (Tt (K [(aB false)] []))))) else (if ((decide (((t.queue:Nat):Int) > (24:Int)))=true) then (Tt (Tt (Tt (Tt (K [(aB false)] []))))) else (Tt (True∧(∀ r5:Bool,(r5=(decide ((0≤t.tries)∧(t.tries≤c.try_))))→Tt (Tt (if ((!r5)=true) then (Tt (Tt (Tt (K [(aB false)] [])))) else (Tt (True∧(∀ r6:Bool,(r6=(decide ((0≤t.count)∧(t.count≤9999))))→Tt (Tt (if ((!r6)=true) then (Tt (Tt (K [(aB false)] []))) else (Tt (True∧(∀ r7:Int,True→Tt (Tt (if ((r7 != t.acked)=true) then (Tt (K [(aB false)] [])) else (Tt ((t.flight≤1000)∧(∀ r8:Bool,True→Tt (if (r8=true) then (Tt ((t.queue≤1000)∧(∀ r9:Bool,True→Tt (Tt (K [(aB r9)] []))))) else (Tt (K [(aB false)] []))))))))))))))))))))))))))))))))))))))))))))))) := by
  try simp (disch := omega) only [wr]
  repeat' first
    | exact rfl
    | exact True.intro
    | with_reducible apply And.intro
    | (with_reducible intro y_ hy_; subst hy_)
    | with_reducible intro y_
    | (refine iteI (fun h => ?_) (fun h => ?_))
    | fail
  all_goals try simp only [cq1, cq2, cq3, cq4, cq5, cq6, cq7, cq8, cq9, cq10, cq11, cq12, cq13, cq14, cq15, cq16, cq17, cq18, cq19, TxB] at *
  all_goals try simp (disch := omega) only [wr] at *
  all_goals first
    | assumption
    | omega
    | exact (wr8_in _).1
    | exact (wr8_in _).2
    | (refine hk _ ?_
       (try dsimp only)
       first | done | exact True.intro | assumption | exact fun _ => by assumption | omega | grind [TxB])
    | (simp only [LIM, HL] at *; omega)
    | grind [TxB, LIM, HL]
theorem w_spec_TxOk : Valid Try.prog 53 c_spec_TxOk :=
  valid_ctr2 (V := V_spec_TxOk) (tysB_ok tys2_ok) ⟨(CallsL.cons w_spec_CfgOk (CallsL.cons w_spec_l1In (CallsL.cons w_spec_NumFar (CallsL.cons w_spec_NumOf (CallsL.cons w_spec_l6Parts (CallsL.nil _)))))), (IosL.nil _)⟩ mixed 0 2 Try.func53 rfl (by kernel_rfl)
    (fun c hc => by
      obtain rfl := Option.some.inj hc
      exact ⟨trivial, ⟨⟨trivial, ⟨⟨trivial, trivial⟩, trivial⟩⟩, ⟨trivial, trivial⟩⟩⟩)
    (fun x K hp hk => ⟨_, by kernel_rfl, vF_spec_TxOk x.1 x.2 K hp (fun r h => hk r h)⟩)
theorem vF_spec_l6List (m:Nat) (K:List Arg→List (List AC)→Prop) (hp:m≤1000) (hk:∀ (r:Nat),(r=m)→K ([(rH .part).to r]) ([])):True∧(∃ s:(Prod Nat (Prod Nat Int)),((KS.mk true [(Prod.mk 0 (T.v false [(Cm.d (D.h RK.part m))])),(Prod.mk 3 (T.v false [(Cm.d (D.h RK.part 0))])),(Prod.mk 4 (num IntKind.i64 0))] [] [])=(k_454851 s))∧(((s.fst≤1000)∧((s.snd.fst=0)∧(s.snd.snd=0)))∧((∀ r:Nat,(r=s.fst)→Tt (K [(Arg.v false [(AC.d (D.h RK.part r))])] []))∧(∀ r:Empty,False→False)))) := by
  try simp (disch := omega) only [wr]
  repeat' first
    | exact rfl
    | exact True.intro
    | with_reducible apply And.intro
    | (with_reducible intro y_ hy_; subst hy_)
    | with_reducible intro y_
    | (refine iteI (fun h => ?_) (fun h => ?_))
    | refine ⟨(_, _, _), rfl, ?_⟩
    | refine ⟨n - 1, ?_⟩
    | fail
  all_goals try simp only [cq1, cq2, cq3, cq4, cq5, cq6, cq7, cq8, cq9, cq10, cq11, cq12, cq13, cq14, cq15, cq16, cq17, cq18, cq19] at *
  all_goals try simp (disch := omega) only [wr] at *
  all_goals first
    | assumption
    | omega
    | exact (wr8_in _).1
    | exact (wr8_in _).2
    | (refine hk _ ?_
       (try dsimp only)
       first | done | exact True.intro | assumption | exact fun _ => by assumption | omega | grind [])
    | (simp only [LIM, HL] at *; omega)
    | grind [LIM, HL]
theorem vL_spec_l6List_0 (m0:Nat) (o0:Nat) (i0:Int) (m:Nat) (o:Nat) (i:Int) (n:Nat) (hp:(fun (m:Nat) (o:Nat) (i:Int) => (m≤1000∧o=0∧i=0)) m0 o0 i0) (hi:m=m0∧m≤1000∧0≤i∧(o:Int)=i∧i + n=m):if ((decide (i < ((m:Nat):Int)))=true) then (((0≤i)∧(i < ((m:Nat):Int)))∧(∀ x:Int,((0≤i)∧(i < ((m:Nat):Int)))∧(∀ x1:Int,((0≤i)∧(i < ((m:Nat):Int)))∧(∀ n1:Nat,(n1≤1000)→True∧(Tt (((0 + n1)≤137438953472)∧(Tt (((((RK.u8=RK.u8)∧((0 + n1)≤1000))∧True)∧True)∧(Tt (((o + 1)≤137438953472)∧(Tt (∃ s:(Prod Nat (Prod Nat Int)),((KS.mk true [(Prod.mk 0 (T.v false [(Cm.d (D.h RK.part m))])),(Prod.mk 3 (T.v false [(Cm.d (D.h RK.part (o + 1)))])),(Prod.mk 4 (num IntKind.i64 (IntKind.i64.wrap (i + 1))))] [] [])=(k_454851 s))∧(∃ m1:Nat,(m1 < n)∧((s.fst=m0)∧((s.fst≤1000)∧((0≤s.snd.snd)∧((((s.snd.fst:Nat):Int)=s.snd.snd)∧((s.snd.snd + ((m1:Nat):Int))=((s.fst:Nat):Int))))))))))))))))))) else (∃ r:Nat,((KS.mk true [(Prod.mk 3 (T.v false [(Cm.d (D.h RK.part o))]))] [] [])=(KS.mk true [(Prod.mk 3 (T.v false [(Cm.d (D.h RK.part r))]))] [] []))∧(r=m0)) := by
  try dsimp only at hp
  try simp (disch := omega) only [wr]
  repeat' first
    | exact rfl
    | exact True.intro
    | with_reducible apply And.intro
    | (with_reducible intro y_ hy_; subst hy_)
    | with_reducible intro y_
    | (refine iteI (fun h => ?_) (fun h => ?_))
    | refine ⟨(_, _, _), rfl, ?_⟩
    | refine ⟨_, rfl, ?_⟩
    | refine ⟨n - 1, ?_⟩
    | fail
  all_goals try simp only [cq1, cq2, cq3, cq4, cq5, cq6, cq7, cq8, cq9, cq10, cq11, cq12, cq13, cq14, cq15, cq16, cq17, cq18, cq19] at *
  all_goals try simp (disch := omega) only [wr] at *
  all_goals first
    | assumption
    | omega
    | exact (wr8_in _).1
    | exact (wr8_in _).2
    | (refine hk _ ?_
       (try dsimp only)
       first | done | exact True.intro | assumption | exact fun _ => by assumption | omega | grind [])
    | (simp only [LIM, HL] at *; omega)
    | grind [LIM, HL]
theorem vS_spec_l6List_0 (m0 : Nat) (o0 : Nat) (i0 : Int) (hp : (fun (m : Nat) (o : Nat) (i : Int) => (m ≤ 1000 ∧ o = 0 ∧ i = 0)) m0 o0 i0) : ∃ n : Nat, (fun (m : Nat) (o : Nat) (i : Int) => (m = m0 ∧ m ≤ 1000 ∧ 0 ≤ i ∧ (o : Int) = i ∧ i + n = m)) m0 o0 i0 := by
  try dsimp only at hp
  try dsimp only
  exact ⟨m0, rfl, hp.1, by omega, by omega, by omega⟩
theorem w_spec_l6List : Valid Try.prog 61 c_spec_l6List :=
  valid_ctr2 (V := V_spec_l6List) (tysB_ok tys2_ok) ⟨(CallsL.nil _), (IosL.nil _)⟩ mixed 0 0 Try.func61 rfl (by kernel_rfl)
    (fun c hc => by
      obtain rfl := Option.some.inj hc
      exact ⟨trivial, ⟨trivial, ⟨⟨trivial, ⟨LoopD.ok2 (V := V_spec_l6List) l_spec_l6List_0 (LoopsM.cons 0 l_spec_l6List_0 LoopsM.nil) 0 _ i_spec_l6List_0 (fun x hx => vS_spec_l6List_0 x.1 x.2.1 x.2.2 hx) (fun x hx n s hi => ⟨_, by kernel_rfl, vL_spec_l6List_0 x.1 x.2.1 x.2.2 s.1 s.2.1 s.2.2 n hx hi⟩), ⟨⟨trivial, ⟨trivial, trivial⟩⟩, ⟨trivial, trivial⟩⟩⟩⟩, ⟨trivial, trivial⟩⟩⟩⟩)
    (fun x K hp hk => ⟨_, by kernel_rfl, vF_spec_l6List x K hp (fun r h => hk r h)⟩)
end Go.Proofs.YtjjcjpmfkbfdfaaE
