/- A part of the proof of laws of the program: what calls of the program answer. Conditions: none. -/
import Derived.Test.YtkencmgcibbfaaaMb6d9f39f
set_option linter.unusedVariables false
set_option linter.unusedSimpArgs false
set_option linter.unusedSectionVars false
/- Contracts: Z1. Conditions: none. -/
set_option linter.unusedVariables false
set_option maxHeartbeats 1600000
namespace Go.Proofs.YtkencmgcibbfaaaE
open Go
def zEnd : EndS := ⟨⟨0, 0, [], 0, [], false, 0, false, 0, false⟩, ⟨0, 0, ⟨0, []⟩, false, false, false⟩, ⟨0, [], 0, 0, false⟩, ⟨0, ⟨0, []⟩, false⟩, [], []⟩
def zWld : WldS := ⟨⟨0, 0, 0, 0, 0⟩, [], [], 0⟩
def newWld (c : Cfg) : WldS := ⟨c, [zEnd, zEnd], [[], []], 0⟩
def wldNew (c : Cfg) : WldS := if CfgP c then newWld c else zWld
theorem wldNew_ok {c : Cfg} (h : CfgP c) : wldNew c = newWld c := if_pos h
theorem wldNew_no {c : Cfg} (h : ¬ CfgP c) : wldNew c = zWld := if_neg h

/-! impl.WldNew -/
def c_impl_WldNew : Ent := ctr (α := (Cfg)) (ρ := (WldS)) [] [] (rs1 rCfg) (fun x_ => (fun (c : Cfg) => (True)) x_) (fun x_ r_ => (fun x_ => (fun (c : Cfg) => ((fun r_ => (fun (w : WldS) => (w = wldNew c)) r_))) x_) x_ r_) (fun r_ => (fun (w : WldS) => ([rWld.to w])) r_) (fun r_ => (fun (w : WldS) => ([])) r_)
def V_impl_WldNew : Env := ⟨tys, [(20, c_impl_CfgOk)], [], [(1, 0), (2, 1)], [], [], [], [], [(3, [(0, false), (1, false), (2, false), (3, false), (4, true)])]⟩
/-! spec.WldNew -/
def c_spec_WldNew : Ent := ctr (α := (Cfg)) (ρ := (WldS)) [] [] (rs1 rCfg) (fun x_ => (fun (c : Cfg) => (True)) x_) (fun x_ r_ => (fun x_ => (fun (c : Cfg) => ((fun r_ => (fun (w : WldS) => (w = wldNew c)) r_))) x_) x_ r_) (fun r_ => (fun (w : WldS) => ([rWld.to w])) r_) (fun r_ => (fun (w : WldS) => ([])) r_)
def l_spec_WldNew_0 : LoopD ((Cfg) × (Nat)) ((Cfg)) ((Empty)) where
  n := 28
  head := ⟨[2, 3, 4], [1, 2], [0, 1]⟩
  st := fun x_ => (fun (c : Cfg) (k : Nat) => (⟨true, [(2, .pb 1 1 0), (3, .pb 2 1 0), (4, num .i64 k)], [⟨0, some ⟨48, .wend, (List.replicate k zEnd), m0⟩⟩, ⟨0, some ⟨49, .nets, (List.replicate k []), m0⟩⟩], [⟨0, none⟩, ⟨1, some ((wldC zWld).map .d)⟩, ⟨1, some ((cfgC c).map .d ++ [.ref 0 0, .ref 1 0, .d (.i .i64 0)])⟩]⟩)) x_.1 x_.2
  pre := fun x_ => (fun (c : Cfg) (k : Nat) => (k = 0)) x_.1 x_.2
  nk := ⟨[2, 3], [1, 2], [0, 1]⟩
  nst := fun r_ => (fun (c : Cfg) => (⟨true, [(2, .pb 1 1 0), (3, .pb 2 1 0)], [⟨0, some ⟨48, .wend, [zEnd, zEnd], m0⟩⟩, ⟨0, some ⟨49, .nets, [[], []], m0⟩⟩], [⟨0, none⟩, ⟨1, some ((wldC zWld).map .d)⟩, ⟨1, some ((cfgC c).map .d ++ [.ref 0 0, .ref 1 0, .d (.i .i64 0)])⟩]⟩)) r_
  npost := fun x_ r_ => (fun x_ => (fun (c0 : Cfg) (k0 : Nat) => ((fun r_ => (fun (c : Cfg) => (c = c0)) r_))) x_.1 x_.2) x_ r_
  rk := ⟨[], [], []⟩
  rst := fun _ => ⟨true, [], [], []⟩
  rpost := fun _ _ => False
def i_spec_WldNew_0 (x : (Cfg) × (Nat)) (n : Nat) (s : (Cfg) × (Nat)) : Prop := (fun x_ => (fun (c0 : Cfg) (k0 : Nat) => ((fun s_ => (fun (c : Cfg) (k : Nat) => (c = c0 ∧ k + n = 2)) s_.1 s_.2))) x_.1 x_.2) x s
def V_spec_WldNew : Env := ⟨tys, [(9, c_spec_CfgOk)], [(10, [0, 1])], [(1, 0), (2, 1), (3, 2)], [], [(0, l_spec_WldNew_0.L)], [], [], []⟩
/-! laws.liTx -/
def c_laws_liTx : Ent := ctr (α := (TxS) × (TxS)) (ρ := (Bool)) [] [] (rs rTx (rs1 rTx)) (fun x_ => (fun (a : TxS) (b : TxS) => ((a.flight.length ≤ LIM ∧ ∀ y ∈ a.flight, y.data.length ≤ LIM) ∧ a.queue.length ≤ LIM ∧ ∀ y ∈ a.queue, y.data.length ≤ LIM)) x_.1 x_.2) (fun x_ r_ => (fun x_ => (fun (a : TxS) (b : TxS) => ((fun r_ => (fun (r : Bool) => (r = decide (a = b))) r_))) x_.1 x_.2) x_ r_) (fun r_ => (fun (r : Bool) => ([rB.to r])) r_) (fun r_ => (fun (r : Bool) => ([])) r_)
def V_laws_liTx : Env := ⟨tys, [(48, c_laws_liParts)], [], [(2, 0), (3, 1)], [], [], [500010, 500017, 500024, 500031, 500038, 500045, 500052, 500059, 500066], [], []⟩
/-! laws.liNet -/
def c_laws_liNet : Ent := ctr (α := (List NetS) × (List NetS)) (ρ := (Bool)) [] [] (rs (rR .netm) (rs1 (rR .netm))) (fun x_ => (fun (a : List NetS) (b : List NetS) => (a.length ≤ LIM ∧ ∀ y ∈ a, y.bytes.length ≤ 137438953472)) x_.1 x_.2) (fun x_ r_ => (fun x_ => (fun (a : List NetS) (b : List NetS) => ((fun r_ => (fun (r : Bool) => (r = decide (a = b))) r_))) x_.1 x_.2) x_ r_) (fun r_ => (fun (r : Bool) => ([rB.to r])) r_) (fun r_ => (fun (r : Bool) => ([])) r_)
def l_laws_liNet_0 : LoopD ((List NetS) × (List NetS) × (Int)) ((Unit)) ((Unit)) where
  n := 42
  head := ⟨[0, 1, 5], [], []⟩
  st := fun x_ => (fun (a : List NetS) (b : List NetS) (i : Int) => (⟨true, [(0, .v false [.d (.r .netm a)]), (1, .v false [.d (.r .netm b)]), (5, num .i64 i)], [], []⟩)) x_.1 x_.2.1 x_.2.2
  pre := fun x_ => (fun (a : List NetS) (b : List NetS) (i : Int) => (a.length = b.length ∧ i = 0 ∧ a.length ≤ LIM ∧ ∀ y ∈ a, y.bytes.length ≤ 137438953472)) x_.1 x_.2.1 x_.2.2
  nk := ⟨[], [], []⟩
  nst := fun r_ => (fun (u : Unit) => (⟨true, [], [], []⟩)) r_
  npost := fun x_ r_ => (fun x_ => (fun (a0 : List NetS) (b0 : List NetS) (i0 : Int) => ((fun r_ => (fun (u : Unit) => (a0 = b0)) r_))) x_.1 x_.2.1 x_.2.2) x_ r_
  rk := ⟨[4], [], []⟩
  rst := fun r_ => (fun (u : Unit) => (⟨true, [(4, boo false)], [], []⟩)) r_
  rpost := fun x_ r_ => (fun x_ => (fun (a0 : List NetS) (b0 : List NetS) (i0 : Int) => ((fun r_ => (fun (u : Unit) => (a0 ≠ b0)) r_))) x_.1 x_.2.1 x_.2.2) x_ r_
def i_laws_liNet_0 (x : (List NetS) × (List NetS) × (Int)) (n : Nat) (s : (List NetS) × (List NetS) × (Int)) : Prop := (fun x_ => (fun (a0 : List NetS) (b0 : List NetS) (i0 : Int) => ((fun s_ => (fun (a : List NetS) (b : List NetS) (i : Int) => (a = a0 ∧ b = b0 ∧ a.length = b.length ∧ a.length ≤ LIM ∧ (∀ y ∈ a, y.bytes.length ≤ 137438953472) ∧ 0 ≤ i ∧ i + n = a.length ∧ a.take i.toNat = b.take i.toNat)) s_.1 s_.2.1 s_.2.2))) x_.1 x_.2.1 x_.2.2) x s
def V_laws_liNet : Env := ⟨tys, [(47, c_laws_liBytes)], [], [], [], [(0, l_laws_liNet_0.L)], [500028], [], [(6, [(0, false), (1, false), (2, false), (3, false), (4, false), (5, false), (6, false), (7, false), (8, false), (9, false), (10, false), (11, false), (12, false), (13, false), (14, false), (15, false), (16, false), (17, false), (18, false), (19, false), (20, false), (21, false), (22, true), (23, false), (24, false)])]⟩
/-! laws.liEnd -/
def c_laws_liEnd : Ent := ctr (α := (EndS) × (EndS)) (ρ := (Bool)) [] [] (rs rEnd (rs1 rEnd)) (fun x_ => (fun (a : EndS) (b : EndS) => (EndM 137438953472 a)) x_.1 x_.2) (fun x_ r_ => (fun x_ => (fun (a : EndS) (b : EndS) => ((fun r_ => (fun (r : Bool) => (r = decide (a = b))) r_))) x_.1 x_.2) x_ r_) (fun r_ => (fun (r : Bool) => ([rB.to r])) r_) (fun r_ => (fun (r : Bool) => ([])) r_)
def V_laws_liEnd : Env := ⟨tys, [(23, c_laws_liTx), (24, c_laws_liRx), (25, c_laws_liCtx), (26, c_laws_liCrx), (27, c_laws_liSdus)], [], [(2, 0), (3, 1)], [], [], [500010, 500017, 500024, 500031, 500038], [], []⟩
/-! laws.liWorld -/
def c_laws_liWorld : Ent := ctr (α := (WldS) × (WldS)) (ρ := (Bool)) [] [] (rs rWld (rs1 rWld)) (fun x_ => (fun (a : WldS) (b : WldS) => (WldM 137438953472 a)) x_.1 x_.2) (fun x_ r_ => (fun x_ => (fun (a : WldS) (b : WldS) => ((fun r_ => (fun (r : Bool) => (r = decide (a = b))) r_))) x_.1 x_.2) x_ r_) (fun r_ => (fun (r : Bool) => ([rB.to r])) r_) (fun r_ => (fun (r : Bool) => ([])) r_)
def l_laws_liWorld_0 : LoopD ((WldS) × (WldS) × (Int)) ((WldS) × (WldS)) ((Unit)) where
  n := 75
  head := ⟨[2, 3, 5], [0, 1], []⟩
  st := fun x_ => (fun (a : WldS) (b : WldS) (i : Int) => (⟨true, [(2, .pb 0 1 0), (3, .pb 1 1 0), (5, num .i64 i)], [], [⟨1, some ((wldC a).map .d)⟩, ⟨1, some ((wldC b).map .d)⟩]⟩)) x_.1 x_.2.1 x_.2.2
  pre := fun x_ => (fun (a : WldS) (b : WldS) (i : Int) => (WldM 137438953472 a ∧ a.ends.length = b.ends.length ∧ i = 0)) x_.1 x_.2.1 x_.2.2
  nk := ⟨[2, 3], [0, 1], []⟩
  nst := fun r_ => (fun (a : WldS) (b : WldS) => (⟨true, [(2, .pb 0 1 0), (3, .pb 1 1 0)], [], [⟨1, some ((wldC a).map .d)⟩, ⟨1, some ((wldC b).map .d)⟩]⟩)) r_.1 r_.2
  npost := fun x_ r_ => (fun x_ => (fun (a0 : WldS) (b0 : WldS) (i0 : Int) => ((fun r_ => (fun (a : WldS) (b : WldS) => (a = a0 ∧ b = b0 ∧ a.ends = b.ends)) r_.1 r_.2))) x_.1 x_.2.1 x_.2.2) x_ r_
  rk := ⟨[4], [], []⟩
  rst := fun r_ => (fun (u : Unit) => (⟨true, [(4, boo false)], [], [⟨0, none⟩, ⟨0, none⟩]⟩)) r_
  rpost := fun x_ r_ => (fun x_ => (fun (a0 : WldS) (b0 : WldS) (i0 : Int) => ((fun r_ => (fun (u : Unit) => (a0.ends ≠ b0.ends)) r_))) x_.1 x_.2.1 x_.2.2) x_ r_
def i_laws_liWorld_0 (x : (WldS) × (WldS) × (Int)) (n : Nat) (s : (WldS) × (WldS) × (Int)) : Prop := (fun x_ => (fun (a0 : WldS) (b0 : WldS) (i0 : Int) => ((fun s_ => (fun (a : WldS) (b : WldS) (i : Int) => (a = a0 ∧ b = b0 ∧ 0 ≤ i ∧ i + n = a.ends.length ∧ a.ends.take i.toNat = b.ends.take i.toNat)) s_.1 s_.2.1 s_.2.2))) x_.1 x_.2.1 x_.2.2) x s
def l_laws_liWorld_2 : LoopD ((WldS) × (WldS) × (Int)) ((Unit)) ((Unit)) where
  n := 75
  head := ⟨[2, 3, 6], [0, 1], []⟩
  st := fun x_ => (fun (a : WldS) (b : WldS) (i : Int) => (⟨true, [(2, .pb 0 1 0), (3, .pb 1 1 0), (6, num .i64 i)], [], [⟨1, some ((wldC a).map .d)⟩, ⟨1, some ((wldC b).map .d)⟩]⟩)) x_.1 x_.2.1 x_.2.2
  pre := fun x_ => (fun (a : WldS) (b : WldS) (i : Int) => (WldM 137438953472 a ∧ a.net.length = b.net.length ∧ i = 0)) x_.1 x_.2.1 x_.2.2
  nk := ⟨[], [], []⟩
  nst := fun r_ => (fun (u : Unit) => (⟨true, [], [], [⟨0, none⟩, ⟨0, none⟩]⟩)) r_
  npost := fun x_ r_ => (fun x_ => (fun (a0 : WldS) (b0 : WldS) (i0 : Int) => ((fun r_ => (fun (u : Unit) => (a0.net = b0.net)) r_))) x_.1 x_.2.1 x_.2.2) x_ r_
  rk := ⟨[4], [], []⟩
  rst := fun r_ => (fun (u : Unit) => (⟨true, [(4, boo false)], [], [⟨0, none⟩, ⟨0, none⟩]⟩)) r_
  rpost := fun x_ r_ => (fun x_ => (fun (a0 : WldS) (b0 : WldS) (i0 : Int) => ((fun r_ => (fun (u : Unit) => (a0.net ≠ b0.net)) r_))) x_.1 x_.2.1 x_.2.2) x_ r_
def i_laws_liWorld_2 (x : (WldS) × (WldS) × (Int)) (n : Nat) (s : (WldS) × (WldS) × (Int)) : Prop := (fun x_ => (fun (a0 : WldS) (b0 : WldS) (i0 : Int) => ((fun s_ => (fun (a : WldS) (b : WldS) (i : Int) => (a = a0 ∧ b = b0 ∧ 0 ≤ i ∧ i + n = a.net.length ∧ a.net.take i.toNat = b.net.take i.toNat)) s_.1 s_.2.1 s_.2.2))) x_.1 x_.2.1 x_.2.2) x s
def V_laws_liWorld : Env := ⟨tys, [(11, c_laws_liEnd), (21, c_laws_liNet)], [], [(2, 0), (3, 1)], [], [(0, l_laws_liWorld_0.L), (2, l_laws_liWorld_2.L)], [500012, 500019, 500028], [], [(6, [(0, false), (1, false), (2, false), (3, false), (4, false), (5, false), (6, false), (7, false), (8, false), (9, false), (10, true), (11, false)]), (11, [(0, false), (1, false), (2, false), (3, false), (4, false), (5, false), (6, false), (7, false), (8, false), (9, false), (10, true), (11, false)])]⟩
end Go.Proofs.YtkencmgcibbfaaaE

/- Calls answer what is promised: Z1. Conditions: none. -/
set_option linter.unusedVariables false
set_option maxHeartbeats 1600000
namespace Go.Proofs.YtkencmgcibbfaaaE
open Go
theorem vF_impl_WldNew (c:Cfg) (K:List Arg→List (List AC)→Prop) (hp:True) (hk:∀ (w:WldS),(w=wldNew c)→K ([rWld.to w]) ([])):(true=true)∧(True∧(∀ r:Bool,(r=(decide (CfgP c)))→(true=true)∧(if ((!r)=true) then ((true=true)∧(K [(Arg.v true [(AC.d (D.i IntKind.i64 (0:Int))),(AC.d (D.i IntKind.i64 (0:Int))),(AC.d (D.i IntKind.i64 (0:Int))),(AC.d (D.i IntKind.i64 (0:Int))),(AC.d (D.i IntKind.i64 (0:Int))),(AC.d (D.r RK.wend ([]:(List EndS)))),(AC.d (D.r RK.nets ([]:(List (List NetS))))),(AC.d (D.i IntKind.i64 (0:Int)))])] [])) else ((((0:Int)≤(2:Int))∧(((2:Int)=(2:Int))∧((2:Nat)≤(137438953472:Nat))))∧((((0:Int)≤(2:Int))∧(((2:Int)=(2:Int))∧((2:Nat)≤(137438953472:Nat))))∧((true=true)∧((true=true)∧(K [(Arg.v true [(AC.d (D.i IntKind.i64 c.mode)),(AC.d (D.i IntKind.i64 c.win)),(AC.d (D.i IntKind.i64 c.mps)),(AC.d (D.i IntKind.i64 c.mtu)),(AC.d (D.i IntKind.i64 c.try_)),(AC.d (D.r RK.wend (List.replicate (2:Nat) (RK.z RK.wend)))),(AC.d (D.r RK.nets (List.replicate (2:Nat) (RK.z RK.nets)))),(AC.d (D.i IntKind.i64 (0:Int)))])] [])))))))) := by
  repeat' first
    | exact rfl
    | exact True.intro
    | with_reducible apply And.intro
    | (with_reducible intro y_ hy_; subst hy_)
    | with_reducible intro y_
    | (refine iteI (fun h => ?_) (fun h => ?_))
  all_goals try simp only [Bool.not_eq_true', decide_eq_false_iff_not, decide_eq_true_eq, Bool.not_eq_true, bne_iff_ne, beq_iff_eq, ne_eq, Decidable.not_not, Bool.not_eq_false, gt_iff_lt, ge_iff_le, Int.not_le, Int.not_lt, beq_eq_false_iff_ne, bne_eq_false_iff_eq, Bool.and_eq_true, Bool.or_eq_true, Bool.true_eq_false, Bool.false_eq_true] at *
  all_goals try simp (disch := first | omega | grind []) only [wr] at *
  all_goals first
    | assumption
    | omega
    | exact hk _ (wldNew_ok ‹CfgP _›).symm
    | exact hk _ (wldNew_no ‹¬ CfgP _›).symm
    | exact hk _ (by grind [])
    | (simp only [LIM] at *; omega)
    | grind [LIM]
theorem w_impl_WldNew : Valid Try.prog 6 c_impl_WldNew :=
  valid_ctr2 (V := V_impl_WldNew) (tysB_ok tys_ok) ⟨(CallsL.cons w_impl_CfgOk (CallsL.nil _)), (IosL.nil _)⟩ mixed 0 2 Try.func6 rfl (by kernel_rfl)
    (fun c hc => by
      obtain rfl := Option.some.inj hc
      exact ⟨trivial, ⟨⟨trivial, ⟨⟨trivial, trivial⟩, trivial⟩⟩, ⟨trivial, trivial⟩⟩⟩)
    (fun x K hp hk => ⟨_, by kernel_rfl, vF_impl_WldNew x K hp (fun w h => hk w h)⟩)
theorem vF_spec_WldNew (c:Cfg) (K:List Arg→List (List AC)→Prop) (hp:True) (hk:∀ (w:WldS),(w=wldNew c)→K ([rWld.to w]) ([])):(true=true)∧(True∧(∀ r:Bool,(r=(decide (CfgP c)))→(true=true)∧(if ((!r)=true) then ((true=true)∧(K [(Arg.v true [(AC.d (D.i IntKind.i64 (0:Int))),(AC.d (D.i IntKind.i64 (0:Int))),(AC.d (D.i IntKind.i64 (0:Int))),(AC.d (D.i IntKind.i64 (0:Int))),(AC.d (D.i IntKind.i64 (0:Int))),(AC.d (D.r RK.wend ([]:(List EndS)))),(AC.d (D.r RK.nets ([]:(List (List NetS))))),(AC.d (D.i IntKind.i64 (0:Int)))])] [])) else (∃ s:(Prod Cfg Nat),((KS.mk true [(Prod.mk (2:Nat) (T.pb (1:Nat) (1:Nat) (0:Nat))),(Prod.mk (3:Nat) (T.pb (2:Nat) (1:Nat) (0:Nat))),(Prod.mk (4:Nat) (num IntKind.i64 (0:Int)))] [(Row.mk (0:Nat) (Option.some (RC.mk (48:Nat) RK.wend ([]:(List EndS)) (RM.mk (Option.none) false (0:Nat) false)))),(Row.mk (0:Nat) (Option.some (RC.mk (49:Nat) RK.nets ([]:(List (List NetS))) (RM.mk (Option.none) false (0:Nat) false))))] [(Box.mk (0:Nat) Option.none),(Box.mk (1:Nat) (Option.some [(Cm.d (D.i IntKind.i64 (0:Int))),(Cm.d (D.i IntKind.i64 (0:Int))),(Cm.d (D.i IntKind.i64 (0:Int))),(Cm.d (D.i IntKind.i64 (0:Int))),(Cm.d (D.i IntKind.i64 (0:Int))),(Cm.d (D.r RK.wend ([]:(List EndS)))),(Cm.d (D.r RK.nets ([]:(List (List NetS))))),(Cm.d (D.i IntKind.i64 (0:Int)))])),(Box.mk (Min.min (1:Nat) (1:Nat)) (Option.some [(Cm.d (D.i IntKind.i64 c.mode)),(Cm.d (D.i IntKind.i64 c.win)),(Cm.d (D.i IntKind.i64 c.mps)),(Cm.d (D.i IntKind.i64 c.mtu)),(Cm.d (D.i IntKind.i64 c.try_)),(Cm.ref (0:Nat) (0:Nat)),(Cm.ref (1:Nat) (0:Nat)),(Cm.d (D.i IntKind.i64 (0:Int)))]))])=(KS.mk true [(Prod.mk (2:Nat) (T.pb (1:Nat) (1:Nat) (0:Nat))),(Prod.mk (3:Nat) (T.pb (2:Nat) (1:Nat) (0:Nat))),(Prod.mk (4:Nat) (num IntKind.i64 ((s.snd:Nat):Int)))] [(Row.mk (0:Nat) (Option.some (RC.mk (48:Nat) RK.wend (List.replicate s.snd zEnd) (RM.mk (Option.none) false (0:Nat) false)))),(Row.mk (0:Nat) (Option.some (RC.mk (49:Nat) RK.nets (List.replicate s.snd ([]:(List NetS))) (RM.mk (Option.none) false (0:Nat) false))))] [(Box.mk (0:Nat) Option.none),(Box.mk (1:Nat) (Option.some [(Cm.d (D.i IntKind.i64 (0:Int))),(Cm.d (D.i IntKind.i64 (0:Int))),(Cm.d (D.i IntKind.i64 (0:Int))),(Cm.d (D.i IntKind.i64 (0:Int))),(Cm.d (D.i IntKind.i64 (0:Int))),(Cm.d (D.r RK.wend ([]:(List EndS)))),(Cm.d (D.r RK.nets ([]:(List (List NetS))))),(Cm.d (D.i IntKind.i64 (0:Int)))])),(Box.mk (1:Nat) (Option.some [(Cm.d (D.i IntKind.i64 s.fst.mode)),(Cm.d (D.i IntKind.i64 s.fst.win)),(Cm.d (D.i IntKind.i64 s.fst.mps)),(Cm.d (D.i IntKind.i64 s.fst.mtu)),(Cm.d (D.i IntKind.i64 s.fst.try_)),(Cm.ref (0:Nat) (0:Nat)),(Cm.ref (1:Nat) (0:Nat)),(Cm.d (D.i IntKind.i64 (0:Int)))]))]))∧((s.snd=(0:Nat))∧((∀ r1:Cfg,(r1=s.fst)→(true=true)∧(K [(Arg.v true [(AC.d (D.i IntKind.i64 r1.mode)),(AC.d (D.i IntKind.i64 r1.win)),(AC.d (D.i IntKind.i64 r1.mps)),(AC.d (D.i IntKind.i64 r1.mtu)),(AC.d (D.i IntKind.i64 r1.try_)),(AC.d (D.r RK.wend (zEnd :: (zEnd :: ([]:(List EndS)):(List EndS)):(List EndS)))),(AC.d (D.r RK.nets (([]:(List NetS)) :: (([]:(List NetS)) :: ([]:(List (List NetS))):(List (List NetS))):(List (List NetS))))),(AC.d (D.i IntKind.i64 (0:Int)))])] []))∧(∀ r1:Empty,False→False))))))) := by
  refine ⟨by trivial, trivial, fun r hr => ⟨by trivial, ?_⟩⟩
  subst hr
  refine iteI (fun h => ?_) (fun h => ?_)
  · exact ⟨by trivial, hk zWld (wldNew_no (by simpa using h)).symm⟩
  · exact ⟨(c, 0), rfl, rfl, fun r1 hr => ⟨by trivial, hk (newWld r1) (by rw [show r1 = c from hr]; exact (wldNew_ok (by simpa using h)).symm)⟩, fun _ h => h⟩
theorem vL_spec_WldNew_0 (c0:Cfg) (k0:Nat) (c:Cfg) (k:Nat) (n:Nat) (hp:(fun (c:Cfg) (k:Nat) => (k=0)) c0 k0) (hi:c=c0∧k + n=2):if ((decide (((k:Nat):Int) < (2:Int)))=true) then ((((List.length (List.replicate k zEnd)) + (1:Nat))≤(137438953472:Nat))∧((((List.length (List.replicate k ([]:(List NetS)))) + (1:Nat))≤(137438953472:Nat))∧(∃ s:(Prod Cfg Nat),((KS.mk true [(Prod.mk (2:Nat) (T.pb (1:Nat) (1:Nat) (0:Nat))),(Prod.mk (3:Nat) (T.pb (2:Nat) (1:Nat) (0:Nat))),(Prod.mk (4:Nat) (num IntKind.i64 (IntKind.wrap IntKind.i64 (((k:Nat):Int) + (1:Int)))))] [(Row.mk (0:Nat) (Option.some (RC.mk (48:Nat) RK.wend ((List.replicate k zEnd) ++ ((EndS.mk (TxS.mk (0:Int) (0:Int) ([]:(List Part)) (0:Int) ([]:(List Part)) false (0:Int) false (0:Int) false) (RxS.mk (0:Int) (0:Int) (JoinS.mk (0:Int) ([]:(List Int))) false false false) (CtS.mk (0:Int) ([]:(List Part)) (0:Int) (0:Int) false) (CrS.mk (0:Int) (JoinS.mk (0:Int) ([]:(List Int))) false) ([]:(List (List Int))) ([]:(List (List Int)))) :: ([]:(List EndS)):(List EndS)):(List EndS)) (RM.mk (Option.none) false (0:Nat) false)))),(Row.mk (0:Nat) (Option.some (RC.mk (49:Nat) RK.nets ((List.replicate k ([]:(List NetS))) ++ (([]:(List NetS)) :: ([]:(List (List NetS))):(List (List NetS))):(List (List NetS))) (RM.mk (Option.none) false (0:Nat) false))))] [(Box.mk (0:Nat) Option.none),(Box.mk (1:Nat) (Option.some [(Cm.d (D.i IntKind.i64 (0:Int))),(Cm.d (D.i IntKind.i64 (0:Int))),(Cm.d (D.i IntKind.i64 (0:Int))),(Cm.d (D.i IntKind.i64 (0:Int))),(Cm.d (D.i IntKind.i64 (0:Int))),(Cm.d (D.r RK.wend ([]:(List EndS)))),(Cm.d (D.r RK.nets ([]:(List (List NetS))))),(Cm.d (D.i IntKind.i64 (0:Int)))])),(Box.mk (Min.min (1:Nat) (1:Nat)) (Option.some [(Cm.d (D.i IntKind.i64 c.mode)),(Cm.d (D.i IntKind.i64 c.win)),(Cm.d (D.i IntKind.i64 c.mps)),(Cm.d (D.i IntKind.i64 c.mtu)),(Cm.d (D.i IntKind.i64 c.try_)),(Cm.ref (0:Nat) (0:Nat)),(Cm.ref (1:Nat) (0:Nat)),(Cm.d (D.i IntKind.i64 (0:Int)))]))])=(KS.mk true [(Prod.mk (2:Nat) (T.pb (1:Nat) (1:Nat) (0:Nat))),(Prod.mk (3:Nat) (T.pb (2:Nat) (1:Nat) (0:Nat))),(Prod.mk (4:Nat) (num IntKind.i64 ((s.snd:Nat):Int)))] [(Row.mk (0:Nat) (Option.some (RC.mk (48:Nat) RK.wend (List.replicate s.snd zEnd) (RM.mk (Option.none) false (0:Nat) false)))),(Row.mk (0:Nat) (Option.some (RC.mk (49:Nat) RK.nets (List.replicate s.snd ([]:(List NetS))) (RM.mk (Option.none) false (0:Nat) false))))] [(Box.mk (0:Nat) Option.none),(Box.mk (1:Nat) (Option.some [(Cm.d (D.i IntKind.i64 (0:Int))),(Cm.d (D.i IntKind.i64 (0:Int))),(Cm.d (D.i IntKind.i64 (0:Int))),(Cm.d (D.i IntKind.i64 (0:Int))),(Cm.d (D.i IntKind.i64 (0:Int))),(Cm.d (D.r RK.wend ([]:(List EndS)))),(Cm.d (D.r RK.nets ([]:(List (List NetS))))),(Cm.d (D.i IntKind.i64 (0:Int)))])),(Box.mk (1:Nat) (Option.some [(Cm.d (D.i IntKind.i64 s.fst.mode)),(Cm.d (D.i IntKind.i64 s.fst.win)),(Cm.d (D.i IntKind.i64 s.fst.mps)),(Cm.d (D.i IntKind.i64 s.fst.mtu)),(Cm.d (D.i IntKind.i64 s.fst.try_)),(Cm.ref (0:Nat) (0:Nat)),(Cm.ref (1:Nat) (0:Nat)),(Cm.d (D.i IntKind.i64 (0:Int)))]))]))∧(∃ m:Nat,(m < n)∧((s.fst=c0)∧((s.snd + m)=(2:Nat))))))) else (∃ r:Cfg,((KS.mk true [(Prod.mk (2:Nat) (T.pb (1:Nat) (1:Nat) (0:Nat))),(Prod.mk (3:Nat) (T.pb (2:Nat) (1:Nat) (0:Nat)))] [(Row.mk (0:Nat) (Option.some (RC.mk (48:Nat) RK.wend (List.replicate k zEnd) (RM.mk (Option.none) false (0:Nat) false)))),(Row.mk (0:Nat) (Option.some (RC.mk (49:Nat) RK.nets (List.replicate k ([]:(List NetS))) (RM.mk (Option.none) false (0:Nat) false))))] [(Box.mk (0:Nat) Option.none),(Box.mk (1:Nat) (Option.some [(Cm.d (D.i IntKind.i64 (0:Int))),(Cm.d (D.i IntKind.i64 (0:Int))),(Cm.d (D.i IntKind.i64 (0:Int))),(Cm.d (D.i IntKind.i64 (0:Int))),(Cm.d (D.i IntKind.i64 (0:Int))),(Cm.d (D.r RK.wend ([]:(List EndS)))),(Cm.d (D.r RK.nets ([]:(List (List NetS))))),(Cm.d (D.i IntKind.i64 (0:Int)))])),(Box.mk (Min.min (1:Nat) (1:Nat)) (Option.some [(Cm.d (D.i IntKind.i64 c.mode)),(Cm.d (D.i IntKind.i64 c.win)),(Cm.d (D.i IntKind.i64 c.mps)),(Cm.d (D.i IntKind.i64 c.mtu)),(Cm.d (D.i IntKind.i64 c.try_)),(Cm.ref (0:Nat) (0:Nat)),(Cm.ref (1:Nat) (0:Nat)),(Cm.d (D.i IntKind.i64 (0:Int)))]))])=(KS.mk true [(Prod.mk (2:Nat) (T.pb (1:Nat) (1:Nat) (0:Nat))),(Prod.mk (3:Nat) (T.pb (2:Nat) (1:Nat) (0:Nat)))] [(Row.mk (0:Nat) (Option.some (RC.mk (48:Nat) RK.wend (zEnd :: (zEnd :: ([]:(List EndS)):(List EndS)):(List EndS)) (RM.mk (Option.none) false (0:Nat) false)))),(Row.mk (0:Nat) (Option.some (RC.mk (49:Nat) RK.nets (([]:(List NetS)) :: (([]:(List NetS)) :: ([]:(List (List NetS))):(List (List NetS))):(List (List NetS))) (RM.mk (Option.none) false (0:Nat) false))))] [(Box.mk (0:Nat) Option.none),(Box.mk (1:Nat) (Option.some [(Cm.d (D.i IntKind.i64 (0:Int))),(Cm.d (D.i IntKind.i64 (0:Int))),(Cm.d (D.i IntKind.i64 (0:Int))),(Cm.d (D.i IntKind.i64 (0:Int))),(Cm.d (D.i IntKind.i64 (0:Int))),(Cm.d (D.r RK.wend ([]:(List EndS)))),(Cm.d (D.r RK.nets ([]:(List (List NetS))))),(Cm.d (D.i IntKind.i64 (0:Int)))])),(Box.mk (1:Nat) (Option.some [(Cm.d (D.i IntKind.i64 r.mode)),(Cm.d (D.i IntKind.i64 r.win)),(Cm.d (D.i IntKind.i64 r.mps)),(Cm.d (D.i IntKind.i64 r.mtu)),(Cm.d (D.i IntKind.i64 r.try_)),(Cm.ref (0:Nat) (0:Nat)),(Cm.ref (1:Nat) (0:Nat)),(Cm.d (D.i IntKind.i64 (0:Int)))]))]))∧(r=c0)) := by
  try dsimp only at hp
  obtain ⟨rfl, hn⟩ := hi
  match k, hn with
  | 0, hn =>
    rw [if_pos (by decide)]
    exact ⟨by decide, by decide, (c, 1), rfl, n - 1, by omega, rfl, by dsimp only; omega⟩
  | 1, hn =>
    rw [if_pos (by decide)]
    exact ⟨by decide, by decide, (c, 2), rfl, n - 1, by omega, rfl, by dsimp only; omega⟩
  | 2, hn =>
    rw [if_neg (by decide)]
    exact ⟨c, rfl, rfl⟩
  | k + 3, hn => exact absurd hn (by omega)
theorem vS_spec_WldNew_0 (c0 : Cfg) (k0 : Nat) (hp : (fun (c : Cfg) (k : Nat) => (k = 0)) c0 k0) : ∃ n : Nat, (fun (c : Cfg) (k : Nat) => (c = c0 ∧ k + n = 2)) c0 k0 := by
  try dsimp only at hp
  try dsimp only
  subst hp
  exact ⟨2, rfl, rfl⟩
theorem w_spec_WldNew : Valid Try.prog 8 c_spec_WldNew :=
  valid_ctr2 (V := V_spec_WldNew) (tysB_ok tys_ok) ⟨(CallsL.cons w_spec_CfgOk (CallsL.nil _)), (IosL.nil _)⟩ mixed 2 3 Try.func8 rfl (by kernel_rfl)
    (fun c hc => by
      obtain rfl := Option.some.inj hc
      exact ⟨trivial, ⟨⟨trivial, ⟨⟨trivial, trivial⟩, trivial⟩⟩, ⟨trivial, ⟨⟨trivial, ⟨LoopD.ok2 (V := V_spec_WldNew) l_spec_WldNew_0 (LoopsM.cons 0 l_spec_WldNew_0 LoopsM.nil) 0 _ i_spec_WldNew_0 (fun x hx => vS_spec_WldNew_0 x.1 x.2 hx) (fun x hx n s hi => ⟨_, by kernel_rfl, vL_spec_WldNew_0 x.1 x.2 s.1 s.2 n hx hi⟩), ⟨⟨trivial, ⟨trivial, trivial⟩⟩, ⟨⟨trivial, trivial⟩, trivial⟩⟩⟩⟩, ⟨trivial, trivial⟩⟩⟩⟩⟩)
    (fun x K hp hk => ⟨_, by kernel_rfl, vF_spec_WldNew x K hp (fun w h => hk w h)⟩)
theorem vF_laws_liTx (a:TxS) (b:TxS) (K:List Arg→List (List AC)→Prop) (hp:(a.flight.length≤LIM∧∀ y ∈ a.flight,y.data.length≤LIM)∧a.queue.length≤LIM∧∀ y ∈ a.queue,y.data.length≤LIM) (hk:∀ (r:Bool),(r=decide (a=b))→K ([rB.to r]) ([])):if ((a.next == b.next)=true) then (if ((a.acked == b.acked)=true) then ((true=true)∧((((List.length a.flight)≤(137438953472:Nat))∧(∀ y:Part,(List.Mem y a.flight)→((List.length y.data)≤(137438953472:Nat))))∧(∀ r:Bool,(r=(decide (a.flight=b.flight)))→(true=true)∧(if (r=true) then (if ((a.sent == b.sent)=true) then ((true=true)∧((((List.length a.queue)≤(137438953472:Nat))∧(∀ y:Part,(List.Mem y a.queue)→((List.length y.data)≤(137438953472:Nat))))∧(∀ r1:Bool,(r1=(decide (a.queue=b.queue)))→(true=true)∧(if (r1=true) then (if ((a.asks == b.asks)=true) then (if ((a.tries == b.tries)=true) then (if ((a.held == b.held)=true) then (if ((a.count == b.count)=true) then ((true=true)∧(K [(aB (a.dead == b.dead))] [])) else ((true=true)∧(K [(aB false)] []))) else ((true=true)∧(K [(aB false)] []))) else ((true=true)∧(K [(aB false)] []))) else ((true=true)∧(K [(aB false)] []))) else ((true=true)∧(K [(aB false)] [])))))) else ((true=true)∧(K [(aB false)] []))) else ((true=true)∧(K [(aB false)] [])))))) else ((true=true)∧(K [(aB false)] []))) else ((true=true)∧(K [(aB false)] [])) := by
  obtain ⟨_, _, _, _, _, _, _, _, _, _⟩ := a
  obtain ⟨_, _, _, _, _, _, _, _, _, _⟩ := b

  repeat' first
    | exact rfl
    | exact True.intro
    | with_reducible apply And.intro
    | (with_reducible intro y_ hy_; subst hy_)
    | with_reducible intro y_
    | (refine iteI (fun h => ?_) (fun h => ?_))
  all_goals try simp only [Bool.not_eq_true', decide_eq_false_iff_not, decide_eq_true_eq, Bool.not_eq_true, bne_iff_ne, beq_iff_eq, ne_eq, Decidable.not_not, Bool.not_eq_false, gt_iff_lt, ge_iff_le, Int.not_le, Int.not_lt, beq_eq_false_iff_ne, bne_eq_false_iff_eq, Bool.and_eq_true, Bool.or_eq_true, Bool.true_eq_false, Bool.false_eq_true] at *
  all_goals try simp (disch := first | omega | grind []) only [wr] at *
  all_goals first
    | assumption
    | omega
    | exact hp.1.1
    | exact hp.2.1
    | exact hp.1.2 _ ‹List.Mem _ _›
    | exact hp.2.2 _ ‹List.Mem _ _›
    | exact hk _ (by grind [])
    | (simp only [LIM] at *; omega)
    | grind [LIM]
theorem w_laws_liTx : Valid Try.prog 23 c_laws_liTx :=
  valid_ctr2 (V := V_laws_liTx) (tysB_ok tys_ok) ⟨(CallsL.cons w_laws_liParts (CallsL.nil _)), (IosL.nil _)⟩ mixed 0 2 Try.func23 rfl (by kernel_rfl)
    (fun c hc => by
      obtain rfl := Option.some.inj hc
      exact ⟨trivial, ⟨trivial, trivial⟩⟩)
    (fun x K hp hk => ⟨_, by kernel_rfl, vF_laws_liTx x.1 x.2 K hp (fun r h => hk r h)⟩)
theorem vF_laws_liNet (a:List NetS) (b:List NetS) (K:List Arg→List (List AC)→Prop) (hp:a.length≤LIM∧∀ y ∈ a,y.bytes.length≤137438953472) (hk:∀ (r:Bool),(r=decide (a=b))→K ([rB.to r]) ([])):if (((((List.length a):Nat):Int) != (((List.length b):Nat):Int))=true) then ((true=true)∧(K [(aB false)] [])) else (∃ s:(Prod (List NetS) (Prod (List NetS) Int)),((KS.mk true [(Prod.mk (0:Nat) (T.v false [(Cm.d (D.r RK.netm a))])),(Prod.mk (1:Nat) (T.v false [(Cm.d (D.r RK.netm b))])),(Prod.mk (5:Nat) (num IntKind.i64 (0:Int)))] [] [])=(KS.mk true [(Prod.mk (0:Nat) (T.v false [(Cm.d (D.r RK.netm s.fst))])),(Prod.mk (1:Nat) (T.v false [(Cm.d (D.r RK.netm s.snd.fst))])),(Prod.mk (5:Nat) (num IntKind.i64 s.snd.snd))] [] []))∧((((List.length s.fst)=(List.length s.snd.fst))∧((s.snd.snd=(0:Int))∧(((List.length s.fst)≤(137438953472:Nat))∧(∀ y:NetS,(List.Mem y s.fst)→((List.length y.bytes)≤(137438953472:Nat))))))∧((∀ r:Unit,(s.fst=s.snd.fst)→(true=true)∧(K [(aB true)] []))∧(∀ r:Unit,(s.fst ≠ s.snd.fst)→(true=true)∧(K [(aB false)] []))))) := by
  refine iteI (fun h => ?_) (fun h => ?_)
  · refine ⟨by trivial, hk false ?_⟩
    symm; rw [decide_eq_false_iff_not]; rintro rfl; simp at h
  · have h1 : a.length = b.length := by simp at h; omega
    refine ⟨(a, b, 0), rfl, ⟨h1, rfl, hp.1, hp.2⟩, fun _ hr => ⟨by trivial, hk true (by simp; exact hr)⟩, fun _ hr => ⟨by trivial, hk false (by simp; exact hr)⟩⟩
theorem vL_laws_liNet_0 (a0:List NetS) (b0:List NetS) (i0:Int) (a:List NetS) (b:List NetS) (i:Int) (n:Nat) (hp:(fun (a:List NetS) (b:List NetS) (i:Int) => (a.length=b.length∧i=0∧a.length≤LIM∧∀ y ∈ a,y.bytes.length≤137438953472)) a0 b0 i0) (hi:a=a0∧b=b0∧a.length=b.length∧a.length≤LIM∧(∀ y ∈ a,y.bytes.length≤137438953472)∧0≤i∧i + n=a.length∧a.take i.toNat=b.take i.toNat):if ((decide (i < (((List.length a):Nat):Int)))=true) then ((((0:Int)≤i)∧(i < (((List.length a):Nat):Int)))∧((((0:Int)≤i)∧(i < (((List.length b):Nat):Int)))∧(if (((at_netm a (Int.toNat i)).bent != (at_netm b (Int.toNat i)).bent)=true) then ((true=true)∧(∃ r:Unit,((KS.mk true [(Prod.mk (4:Nat) (boo false))] [] [])=(KS.mk true [(Prod.mk (4:Nat) (boo false))] [] []))∧(a0 ≠ b0))) else ((((0:Int)≤i)∧(i < (((List.length a):Nat):Int)))∧((((0:Int)≤i)∧(i < (((List.length b):Nat):Int)))∧((true=true)∧((((List.length (at_netm a (Int.toNat i)).bytes)≤(137438953472:Nat))∧True)∧(∀ r:Bool,(r=(decide ((at_netm a (Int.toNat i)).bytes=(at_netm b (Int.toNat i)).bytes)))→(true=true)∧((true=true)∧(if ((!r)=true) then (∃ r1:Unit,((KS.mk true [(Prod.mk (4:Nat) (boo false))] [] [])=(KS.mk true [(Prod.mk (4:Nat) (boo false))] [] []))∧(a0 ≠ b0)) else (∃ s:(Prod (List NetS) (Prod (List NetS) Int)),((KS.mk true [(Prod.mk (0:Nat) (T.v false [(Cm.d (D.r RK.netm a))])),(Prod.mk (1:Nat) (T.v false [(Cm.d (D.r RK.netm b))])),(Prod.mk (5:Nat) (num IntKind.i64 (IntKind.wrap IntKind.i64 (i + (1:Int)))))] [] [])=(KS.mk true [(Prod.mk (0:Nat) (T.v false [(Cm.d (D.r RK.netm s.fst))])),(Prod.mk (1:Nat) (T.v false [(Cm.d (D.r RK.netm s.snd.fst))])),(Prod.mk (5:Nat) (num IntKind.i64 s.snd.snd))] [] []))∧(∃ m:Nat,(m < n)∧((s.fst=a0)∧((s.snd.fst=b0)∧(((List.length s.fst)=(List.length s.snd.fst))∧(((List.length s.fst)≤(137438953472:Nat))∧((∀ y:NetS,(List.Mem y s.fst)→((List.length y.bytes)≤(137438953472:Nat)))∧(((0:Int)≤s.snd.snd)∧(((s.snd.snd + ((m:Nat):Int))=(((List.length s.fst):Nat):Int))∧((List.take (Int.toNat s.snd.snd) s.fst)=(List.take (Int.toNat s.snd.snd) s.snd.fst))))))))))))))))))))) else (∃ r:Unit,((KS.mk true [] [] [])=(KS.mk true [] [] []))∧(a0=b0)) := by
  try dsimp only at hp
  obtain ⟨rfl, rfl, h1, h2, hw, h3, h4, h5⟩ := hi
  have hL : a.length ≤ 137438953472 := h2
  obtain ⟨i, rfl⟩ : ∃ m : Nat, i = m := ⟨i.toNat, by omega⟩
  rw [wr (x := (i : Int) + 1) (by omega) (by omega)]
  simp only [Int.toNat_natCast] at h5 ⊢
  refine iteI (fun h => ?_) (fun h => ?_)
  · have hi : i < a.length := by simp at h; omega
    have ea : a.take (i + 1) = a.take i ++ [at_netm a i] := take_at .netm a i hi
    have eb : b.take (i + 1) = b.take i ++ [at_netm b i] := take_at .netm b i (show i < b.length by omega)
    have hm : a = b → at_netm a i = at_netm b i := fun he => by rw [he]
    repeat' first
      | exact rfl
      | exact True.intro
      | exact hw _ (at_mem .netm a i hi)
      | with_reducible apply And.intro
      | (with_reducible intro r hr; subst r)
      | omega
      | refine iteI (fun hx => ?_) (fun hx => ?_)
    all_goals first
      | exact ⟨(), by trivial, fun he => by have e9 := hm he; simp [e9] at hx⟩
      | (rename_i hx0
         have e1 : (at_netm a i).bent = (at_netm b i).bent := by simpa using hx0
         have e2 : (at_netm a i).bytes = (at_netm b i).bytes := by simpa using hx
         refine ⟨(a, b, (i : Int) + 1), rfl, n - 1, by omega, rfl, rfl, h1, h2, hw, by dsimp only; omega, by dsimp only; omega, ?_⟩
         dsimp only
         rw [show ((i : Int) + 1).toNat = i + 1 by omega, ea, eb, h5]
         have e3 : at_netm a i = at_netm b i := by
           generalize at_netm a i = x at e1 e2
           generalize at_netm b i = y at e1 e2
           obtain ⟨_, _⟩ := x
           obtain ⟨_, _⟩ := y
           dsimp only at e1 e2
           rw [e1, e2]
         exact congrArg (fun z => List.take i b ++ [z]) e3)
  · have hi : i = a.length := by simp at h; omega
    subst hi
    refine ⟨(), by trivial, ?_⟩
    rw [List.take_length, h1, List.take_length] at h5
    exact h5
theorem vS_laws_liNet_0 (a0 : List NetS) (b0 : List NetS) (i0 : Int) (hp : (fun (a : List NetS) (b : List NetS) (i : Int) => (a.length = b.length ∧ i = 0 ∧ a.length ≤ LIM ∧ ∀ y ∈ a, y.bytes.length ≤ 137438953472)) a0 b0 i0) : ∃ n : Nat, (fun (a : List NetS) (b : List NetS) (i : Int) => (a = a0 ∧ b = b0 ∧ a.length = b.length ∧ a.length ≤ LIM ∧ (∀ y ∈ a, y.bytes.length ≤ 137438953472) ∧ 0 ≤ i ∧ i + n = a.length ∧ a.take i.toNat = b.take i.toNat)) a0 b0 i0 := by
  try dsimp only at hp
  try dsimp only
  obtain ⟨h1, h2, h3, hw⟩ := hp
  exact ⟨a0.length, rfl, rfl, h1, h3, hw, by omega, by omega, by subst h2; simp⟩
theorem w_laws_liNet : Valid Try.prog 21 c_laws_liNet :=
  valid_ctr2 (V := V_laws_liNet) (tysB_ok tys_ok) ⟨(CallsL.cons w_laws_liBytes (CallsL.nil _)), (IosL.nil _)⟩ mixed 0 0 Try.func21 rfl (by kernel_rfl)
    (fun c hc => by
      obtain rfl := Option.some.inj hc
      exact ⟨trivial, ⟨⟨trivial, ⟨⟨trivial, trivial⟩, trivial⟩⟩, ⟨⟨trivial, ⟨LoopD.ok2 (V := V_laws_liNet) l_laws_liNet_0 (LoopsM.cons 0 l_laws_liNet_0 LoopsM.nil) 0 _ i_laws_liNet_0 (fun x hx => vS_laws_liNet_0 x.1 x.2.1 x.2.2 hx) (fun x hx n s hi => ⟨_, by kernel_rfl, vL_laws_liNet_0 x.1 x.2.1 x.2.2 s.1 s.2.1 s.2.2 n hx hi⟩), ⟨⟨trivial, ⟨trivial, trivial⟩⟩, ⟨⟨trivial, ⟨⟨trivial, trivial⟩, trivial⟩⟩, trivial⟩⟩⟩⟩, ⟨trivial, trivial⟩⟩⟩⟩)
    (fun x K hp hk => ⟨_, by kernel_rfl, vF_laws_liNet x.1 x.2 K hp (fun r h => hk r h)⟩)
theorem vF_laws_liEnd (a:EndS) (b:EndS) (K:List Arg→List (List AC)→Prop) (hp:EndM 137438953472 a) (hk:∀ (r:Bool),(r=decide (a=b))→K ([rB.to r]) ([])):(true=true)∧(((((List.length a.tx.flight)≤(137438953472:Nat))∧(∀ y:Part,(List.Mem y a.tx.flight)→((List.length y.data)≤(137438953472:Nat))))∧(((List.length a.tx.queue)≤(137438953472:Nat))∧(∀ y:Part,(List.Mem y a.tx.queue)→((List.length y.data)≤(137438953472:Nat)))))∧(∀ r:Bool,(r=(decide (a.tx=b.tx)))→(true=true)∧(if (r=true) then ((true=true)∧(((List.length a.rx.join.got)≤(137438953472:Nat))∧(∀ r1:Bool,(r1=(decide (a.rx=b.rx)))→(true=true)∧(if (r1=true) then ((true=true)∧((((List.length a.ctx.queue)≤(137438953472:Nat))∧(∀ y:Part,(List.Mem y a.ctx.queue)→((List.length y.data)≤(137438953472:Nat))))∧(∀ r2:Bool,(r2=(decide (a.ctx=b.ctx)))→(true=true)∧(if (r2=true) then ((true=true)∧(((List.length a.crx.join.got)≤(137438953472:Nat))∧(∀ r3:Bool,(r3=(decide (a.crx=b.crx)))→(true=true)∧(if (r3=true) then ((true=true)∧((((List.length a.put)≤(137438953472:Nat))∧(∀ y:(List Int),(List.Mem y a.put)→((List.length y)≤(137438953472:Nat))))∧(∀ r4:Bool,(r4=(decide (a.put=b.put)))→(true=true)∧(if (r4=true) then ((true=true)∧((((List.length a.got)≤(137438953472:Nat))∧(∀ y:(List Int),(List.Mem y a.got)→((List.length y)≤(137438953472:Nat))))∧(∀ r5:Bool,(r5=(decide (a.got=b.got)))→(true=true)∧((true=true)∧(K [(aB r5)] []))))) else ((true=true)∧(K [(aB false)] [])))))) else ((true=true)∧(K [(aB false)] [])))))) else ((true=true)∧(K [(aB false)] [])))))) else ((true=true)∧(K [(aB false)] [])))))) else ((true=true)∧(K [(aB false)] []))))) := by
  repeat' first
    | exact rfl
    | exact True.intro
    | with_reducible apply And.intro
    | (with_reducible intro y_ hy_; subst hy_)
    | with_reducible intro y_
    | refine ifLtB (fun h => ?_) (fun h => ?_)
    | refine iteI (fun h => ?_) (fun h => ?_)
    | exact hp.tf
    | exact hp.tfd _ ‹List.Mem _ _›
    | exact hp.tq
    | exact hp.tqd _ ‹List.Mem _ _›
    | exact hp.rg
    | exact hp.cq
    | exact hp.cqd _ ‹List.Mem _ _›
    | exact hp.cg
    | exact hp.pl
    | exact hp.pd _ ‹List.Mem _ _›
    | exact hp.gl
    | exact hp.gd _ ‹List.Mem _ _›
    | exact hk _ (decide_eq_false (fun e => by subst e; simp at h)).symm
    | exact hk _ (by
        have e1 : a.tx = b.tx := by simpa using ‹decide (a.tx = b.tx) = true›
        have e2 : a.rx = b.rx := by simpa using ‹decide (a.rx = b.rx) = true›
        have e3 : a.ctx = b.ctx := by simpa using ‹decide (a.ctx = b.ctx) = true›
        have e4 : a.crx = b.crx := by simpa using ‹decide (a.crx = b.crx) = true›
        have e5 : a.put = b.put := by simpa using ‹decide (a.put = b.put) = true›
        rw [decide_eq_decide]
        exact ⟨fun e6 => end_eq e1 e2 e3 e4 e5 e6, fun e => by rw [e]⟩)
    | with_reducible assumption
    | omega
theorem w_laws_liEnd : Valid Try.prog 11 c_laws_liEnd :=
  valid_ctr2 (V := V_laws_liEnd) (tysB_ok tys_ok) ⟨(CallsL.cons w_laws_liTx (CallsL.cons w_laws_liRx (CallsL.cons w_laws_liCtx (CallsL.cons w_laws_liCrx (CallsL.cons w_laws_liSdus (CallsL.nil _)))))), (IosL.nil _)⟩ mixed 0 2 Try.func11 rfl (by kernel_rfl)
    (fun c hc => by
      obtain rfl := Option.some.inj hc
      exact ⟨trivial, ⟨trivial, trivial⟩⟩)
    (fun x K hp hk => ⟨_, by kernel_rfl, vF_laws_liEnd x.1 x.2 K hp (fun r h => hk r h)⟩)
theorem vF_laws_liWorld (a:WldS) (b:WldS) (K:List Arg→List (List AC)→Prop) (hp:WldM 137438953472 a) (hk:∀ (r:Bool),(r=decide (a=b))→K ([rB.to r]) ([])):if ((!((a.cfg.mode == b.cfg.mode) && ((a.cfg.win == b.cfg.win) && ((a.cfg.mps == b.cfg.mps) && ((a.cfg.mtu == b.cfg.mtu) && (a.cfg.try_ == b.cfg.try_))))))=true) then ((true=true)∧(K [(aB false)] [])) else (if ((a.link != b.link)=true) then ((true=true)∧(K [(aB false)] [])) else (if (((((List.length a.ends):Nat):Int) != (((List.length b.ends):Nat):Int))=true) then ((true=true)∧(K [(aB false)] [])) else (if (((((List.length a.net):Nat):Int) != (((List.length b.net):Nat):Int))=true) then ((true=true)∧(K [(aB false)] [])) else (∃ s:(Prod WldS (Prod WldS Int)),((KS.mk true [(Prod.mk (2:Nat) (T.pb (0:Nat) (1:Nat) (0:Nat))),(Prod.mk (3:Nat) (T.pb (1:Nat) (1:Nat) (0:Nat))),(Prod.mk (5:Nat) (num IntKind.i64 (0:Int)))] [] [(Box.mk (Min.min (1:Nat) (1:Nat)) (Option.some [(Cm.d (D.i IntKind.i64 a.cfg.mode)),(Cm.d (D.i IntKind.i64 a.cfg.win)),(Cm.d (D.i IntKind.i64 a.cfg.mps)),(Cm.d (D.i IntKind.i64 a.cfg.mtu)),(Cm.d (D.i IntKind.i64 a.cfg.try_)),(Cm.d (D.r RK.wend a.ends)),(Cm.d (D.r RK.nets a.net)),(Cm.d (D.i IntKind.i64 a.link))])),(Box.mk (Min.min (1:Nat) (1:Nat)) (Option.some [(Cm.d (D.i IntKind.i64 b.cfg.mode)),(Cm.d (D.i IntKind.i64 b.cfg.win)),(Cm.d (D.i IntKind.i64 b.cfg.mps)),(Cm.d (D.i IntKind.i64 b.cfg.mtu)),(Cm.d (D.i IntKind.i64 b.cfg.try_)),(Cm.d (D.r RK.wend b.ends)),(Cm.d (D.r RK.nets b.net)),(Cm.d (D.i IntKind.i64 b.link))]))])=(KS.mk true [(Prod.mk (2:Nat) (T.pb (0:Nat) (1:Nat) (0:Nat))),(Prod.mk (3:Nat) (T.pb (1:Nat) (1:Nat) (0:Nat))),(Prod.mk (5:Nat) (num IntKind.i64 s.snd.snd))] [] [(Box.mk (1:Nat) (Option.some [(Cm.d (D.i IntKind.i64 s.fst.cfg.mode)),(Cm.d (D.i IntKind.i64 s.fst.cfg.win)),(Cm.d (D.i IntKind.i64 s.fst.cfg.mps)),(Cm.d (D.i IntKind.i64 s.fst.cfg.mtu)),(Cm.d (D.i IntKind.i64 s.fst.cfg.try_)),(Cm.d (D.r RK.wend s.fst.ends)),(Cm.d (D.r RK.nets s.fst.net)),(Cm.d (D.i IntKind.i64 s.fst.link))])),(Box.mk (1:Nat) (Option.some [(Cm.d (D.i IntKind.i64 s.snd.fst.cfg.mode)),(Cm.d (D.i IntKind.i64 s.snd.fst.cfg.win)),(Cm.d (D.i IntKind.i64 s.snd.fst.cfg.mps)),(Cm.d (D.i IntKind.i64 s.snd.fst.cfg.mtu)),(Cm.d (D.i IntKind.i64 s.snd.fst.cfg.try_)),(Cm.d (D.r RK.wend s.snd.fst.ends)),(Cm.d (D.r RK.nets s.snd.fst.net)),(Cm.d (D.i IntKind.i64 s.snd.fst.link))]))]))∧(((WldM (137438953472:Nat) s.fst)∧(((List.length s.fst.ends)=(List.length s.snd.fst.ends))∧(s.snd.snd=(0:Int))))∧((∀ r:(Prod WldS WldS),((r.fst=s.fst)∧((r.snd=s.snd.fst)∧(r.fst.ends=r.snd.ends)))→∃ s1:(Prod WldS (Prod WldS Int)),((KS.mk true [(Prod.mk (2:Nat) (T.pb (0:Nat) (1:Nat) (0:Nat))),(Prod.mk (3:Nat) (T.pb (1:Nat) (1:Nat) (0:Nat))),(Prod.mk (6:Nat) (num IntKind.i64 (0:Int)))] [] [(Box.mk (Min.min (1:Nat) (1:Nat)) (Option.some [(Cm.d (D.i IntKind.i64 r.fst.cfg.mode)),(Cm.d (D.i IntKind.i64 r.fst.cfg.win)),(Cm.d (D.i IntKind.i64 r.fst.cfg.mps)),(Cm.d (D.i IntKind.i64 r.fst.cfg.mtu)),(Cm.d (D.i IntKind.i64 r.fst.cfg.try_)),(Cm.d (D.r RK.wend r.fst.ends)),(Cm.d (D.r RK.nets r.fst.net)),(Cm.d (D.i IntKind.i64 r.fst.link))])),(Box.mk (Min.min (1:Nat) (1:Nat)) (Option.some [(Cm.d (D.i IntKind.i64 r.snd.cfg.mode)),(Cm.d (D.i IntKind.i64 r.snd.cfg.win)),(Cm.d (D.i IntKind.i64 r.snd.cfg.mps)),(Cm.d (D.i IntKind.i64 r.snd.cfg.mtu)),(Cm.d (D.i IntKind.i64 r.snd.cfg.try_)),(Cm.d (D.r RK.wend r.snd.ends)),(Cm.d (D.r RK.nets r.snd.net)),(Cm.d (D.i IntKind.i64 r.snd.link))]))])=(KS.mk true [(Prod.mk (2:Nat) (T.pb (0:Nat) (1:Nat) (0:Nat))),(Prod.mk (3:Nat) (T.pb (1:Nat) (1:Nat) (0:Nat))),(Prod.mk (6:Nat) (num IntKind.i64 s1.snd.snd))] [] [(Box.mk (1:Nat) (Option.some [(Cm.d (D.i IntKind.i64 s1.fst.cfg.mode)),(Cm.d (D.i IntKind.i64 s1.fst.cfg.win)),(Cm.d (D.i IntKind.i64 s1.fst.cfg.mps)),(Cm.d (D.i IntKind.i64 s1.fst.cfg.mtu)),(Cm.d (D.i IntKind.i64 s1.fst.cfg.try_)),(Cm.d (D.r RK.wend s1.fst.ends)),(Cm.d (D.r RK.nets s1.fst.net)),(Cm.d (D.i IntKind.i64 s1.fst.link))])),(Box.mk (1:Nat) (Option.some [(Cm.d (D.i IntKind.i64 s1.snd.fst.cfg.mode)),(Cm.d (D.i IntKind.i64 s1.snd.fst.cfg.win)),(Cm.d (D.i IntKind.i64 s1.snd.fst.cfg.mps)),(Cm.d (D.i IntKind.i64 s1.snd.fst.cfg.mtu)),(Cm.d (D.i IntKind.i64 s1.snd.fst.cfg.try_)),(Cm.d (D.r RK.wend s1.snd.fst.ends)),(Cm.d (D.r RK.nets s1.snd.fst.net)),(Cm.d (D.i IntKind.i64 s1.snd.fst.link))]))]))∧(((WldM (137438953472:Nat) s1.fst)∧(((List.length s1.fst.net)=(List.length s1.snd.fst.net))∧(s1.snd.snd=(0:Int))))∧((∀ r1:Unit,(s1.fst.net=s1.snd.fst.net)→(true=true)∧(K [(aB true)] []))∧(∀ r1:Unit,(s1.fst.net ≠ s1.snd.fst.net)→(true=true)∧(K [(aB false)] [])))))∧(∀ r:Unit,(s.fst.ends ≠ s.snd.fst.ends)→(true=true)∧(K [(aB false)] [])))))))) := by
  refine iteI (fun h1 => ?_) (fun h1 => ?_)
  · exact ⟨by trivial, hk _ (decide_eq_false (fun e => by subst e; simp at h1)).symm⟩
  refine iteI (fun h2 => ?_) (fun h2 => ?_)
  · exact ⟨by trivial, hk _ (decide_eq_false (fun e => by subst e; simp at h2)).symm⟩
  refine iteI (fun h3 => ?_) (fun h3 => ?_)
  · exact ⟨by trivial, hk _ (decide_eq_false (fun e => by subst e; simp at h3)).symm⟩
  refine iteI (fun h4 => ?_) (fun h4 => ?_)
  · exact ⟨by trivial, hk _ (decide_eq_false (fun e => by subst e; simp at h4)).symm⟩
  have l1 : a.ends.length = b.ends.length := by simp at h3; omega
  have l2 : a.net.length = b.net.length := by simp at h4; omega
  refine ⟨(a, b, 0), rfl, ⟨hp, l1, rfl⟩, ?_, fun u hu => ⟨by trivial, hk _ (decide_eq_false (fun e => hu (by rw [e]))).symm⟩⟩
  rintro ⟨a', b'⟩ ⟨e1, e2, e3⟩
  dsimp only at e1 e2 e3
  subst e1 e2
  refine ⟨(a', b', 0), rfl, ⟨hp, l2, rfl⟩, ?_, fun u hu => ⟨by trivial, hk _ (decide_eq_false (fun e => hu (by rw [e]))).symm⟩⟩
  intro u hu
  have hu' : a'.net = b'.net := hu
  refine ⟨by trivial, hk _ (decide_eq_true (wld_eq ?_ e3 hu' ?_)).symm⟩
  · have h1' := h1
    simp only [Bool.not_eq_true', Bool.not_eq_false, Bool.and_eq_true, beq_iff_eq] at h1'
    obtain ⟨q1, q2, q3, q4, q5⟩ := h1'
    generalize a'.cfg = x at q1 q2 q3 q4 q5
    generalize b'.cfg = y at q1 q2 q3 q4 q5
    obtain ⟨_, _, _, _, _⟩ := x
    obtain ⟨_, _, _, _, _⟩ := y
    dsimp only at q1 q2 q3 q4 q5
    subst q1 q2 q3 q4 q5
    rfl
  · simpa using h2
theorem vL_laws_liWorld_0 (a0:WldS) (b0:WldS) (i0:Int) (a:WldS) (b:WldS) (i:Int) (n:Nat) (hp:(fun (a:WldS) (b:WldS) (i:Int) => (WldM 137438953472 a∧a.ends.length=b.ends.length∧i=0)) a0 b0 i0) (hi:a=a0∧b=b0∧0≤i∧i + n=a.ends.length∧a.ends.take i.toNat=b.ends.take i.toNat):if ((decide (i < (((List.length a.ends):Nat):Int)))=true) then ((((0:Int)≤i)∧(i < (((List.length a.ends):Nat):Int)))∧((((0:Int)≤i)∧(i < (((List.length b.ends):Nat):Int)))∧((true=true)∧((EndM (137438953472:Nat) (at_wend a.ends (Int.toNat i)))∧(∀ r:Bool,(r=(decide ((at_wend a.ends (Int.toNat i))=(at_wend b.ends (Int.toNat i)))))→(true=true)∧((true=true)∧(if ((!r)=true) then (∃ r1:Unit,((KS.mk true [(Prod.mk (4:Nat) (boo false))] [] [(Box.mk (0:Nat) Option.none),(Box.mk (0:Nat) Option.none)])=(KS.mk true [(Prod.mk (4:Nat) (boo false))] [] [(Box.mk (0:Nat) Option.none),(Box.mk (0:Nat) Option.none)]))∧(a0.ends ≠ b0.ends)) else (∃ s:(Prod WldS (Prod WldS Int)),((KS.mk true [(Prod.mk (2:Nat) (T.pb (0:Nat) (1:Nat) (0:Nat))),(Prod.mk (3:Nat) (T.pb (1:Nat) (1:Nat) (0:Nat))),(Prod.mk (5:Nat) (num IntKind.i64 (IntKind.wrap IntKind.i64 (i + (1:Int)))))] [] [(Box.mk (Min.min (1:Nat) (1:Nat)) (Option.some [(Cm.d (D.i IntKind.i64 a.cfg.mode)),(Cm.d (D.i IntKind.i64 a.cfg.win)),(Cm.d (D.i IntKind.i64 a.cfg.mps)),(Cm.d (D.i IntKind.i64 a.cfg.mtu)),(Cm.d (D.i IntKind.i64 a.cfg.try_)),(Cm.d (D.r RK.wend a.ends)),(Cm.d (D.r RK.nets a.net)),(Cm.d (D.i IntKind.i64 a.link))])),(Box.mk (Min.min (1:Nat) (1:Nat)) (Option.some [(Cm.d (D.i IntKind.i64 b.cfg.mode)),(Cm.d (D.i IntKind.i64 b.cfg.win)),(Cm.d (D.i IntKind.i64 b.cfg.mps)),(Cm.d (D.i IntKind.i64 b.cfg.mtu)),(Cm.d (D.i IntKind.i64 b.cfg.try_)),(Cm.d (D.r RK.wend b.ends)),(Cm.d (D.r RK.nets b.net)),(Cm.d (D.i IntKind.i64 b.link))]))])=(KS.mk true [(Prod.mk (2:Nat) (T.pb (0:Nat) (1:Nat) (0:Nat))),(Prod.mk (3:Nat) (T.pb (1:Nat) (1:Nat) (0:Nat))),(Prod.mk (5:Nat) (num IntKind.i64 s.snd.snd))] [] [(Box.mk (1:Nat) (Option.some [(Cm.d (D.i IntKind.i64 s.fst.cfg.mode)),(Cm.d (D.i IntKind.i64 s.fst.cfg.win)),(Cm.d (D.i IntKind.i64 s.fst.cfg.mps)),(Cm.d (D.i IntKind.i64 s.fst.cfg.mtu)),(Cm.d (D.i IntKind.i64 s.fst.cfg.try_)),(Cm.d (D.r RK.wend s.fst.ends)),(Cm.d (D.r RK.nets s.fst.net)),(Cm.d (D.i IntKind.i64 s.fst.link))])),(Box.mk (1:Nat) (Option.some [(Cm.d (D.i IntKind.i64 s.snd.fst.cfg.mode)),(Cm.d (D.i IntKind.i64 s.snd.fst.cfg.win)),(Cm.d (D.i IntKind.i64 s.snd.fst.cfg.mps)),(Cm.d (D.i IntKind.i64 s.snd.fst.cfg.mtu)),(Cm.d (D.i IntKind.i64 s.snd.fst.cfg.try_)),(Cm.d (D.r RK.wend s.snd.fst.ends)),(Cm.d (D.r RK.nets s.snd.fst.net)),(Cm.d (D.i IntKind.i64 s.snd.fst.link))]))]))∧(∃ m:Nat,(m < n)∧((s.fst=a0)∧((s.snd.fst=b0)∧(((0:Int)≤s.snd.snd)∧(((s.snd.snd + ((m:Nat):Int))=(((List.length s.fst.ends):Nat):Int))∧((List.take (Int.toNat s.snd.snd) s.fst.ends)=(List.take (Int.toNat s.snd.snd) s.snd.fst.ends))))))))))))))) else (∃ r:(Prod WldS WldS),((KS.mk true [(Prod.mk (2:Nat) (T.pb (0:Nat) (1:Nat) (0:Nat))),(Prod.mk (3:Nat) (T.pb (1:Nat) (1:Nat) (0:Nat)))] [] [(Box.mk (Min.min (1:Nat) (1:Nat)) (Option.some [(Cm.d (D.i IntKind.i64 a.cfg.mode)),(Cm.d (D.i IntKind.i64 a.cfg.win)),(Cm.d (D.i IntKind.i64 a.cfg.mps)),(Cm.d (D.i IntKind.i64 a.cfg.mtu)),(Cm.d (D.i IntKind.i64 a.cfg.try_)),(Cm.d (D.r RK.wend a.ends)),(Cm.d (D.r RK.nets a.net)),(Cm.d (D.i IntKind.i64 a.link))])),(Box.mk (Min.min (1:Nat) (1:Nat)) (Option.some [(Cm.d (D.i IntKind.i64 b.cfg.mode)),(Cm.d (D.i IntKind.i64 b.cfg.win)),(Cm.d (D.i IntKind.i64 b.cfg.mps)),(Cm.d (D.i IntKind.i64 b.cfg.mtu)),(Cm.d (D.i IntKind.i64 b.cfg.try_)),(Cm.d (D.r RK.wend b.ends)),(Cm.d (D.r RK.nets b.net)),(Cm.d (D.i IntKind.i64 b.link))]))])=(KS.mk true [(Prod.mk (2:Nat) (T.pb (0:Nat) (1:Nat) (0:Nat))),(Prod.mk (3:Nat) (T.pb (1:Nat) (1:Nat) (0:Nat)))] [] [(Box.mk (1:Nat) (Option.some [(Cm.d (D.i IntKind.i64 r.fst.cfg.mode)),(Cm.d (D.i IntKind.i64 r.fst.cfg.win)),(Cm.d (D.i IntKind.i64 r.fst.cfg.mps)),(Cm.d (D.i IntKind.i64 r.fst.cfg.mtu)),(Cm.d (D.i IntKind.i64 r.fst.cfg.try_)),(Cm.d (D.r RK.wend r.fst.ends)),(Cm.d (D.r RK.nets r.fst.net)),(Cm.d (D.i IntKind.i64 r.fst.link))])),(Box.mk (1:Nat) (Option.some [(Cm.d (D.i IntKind.i64 r.snd.cfg.mode)),(Cm.d (D.i IntKind.i64 r.snd.cfg.win)),(Cm.d (D.i IntKind.i64 r.snd.cfg.mps)),(Cm.d (D.i IntKind.i64 r.snd.cfg.mtu)),(Cm.d (D.i IntKind.i64 r.snd.cfg.try_)),(Cm.d (D.r RK.wend r.snd.ends)),(Cm.d (D.r RK.nets r.snd.net)),(Cm.d (D.i IntKind.i64 r.snd.link))]))]))∧((r.fst=a0)∧((r.snd=b0)∧(r.fst.ends=r.snd.ends)))) := by
  try dsimp only at hp
  obtain ⟨hM, hl, _⟩ := hp
  obtain ⟨rfl, rfl, h3, h4, h5⟩ := hi
  have hL : a.ends.length ≤ 137438953472 := hM.el
  obtain ⟨i, rfl⟩ : ∃ m : Nat, i = m := ⟨i.toNat, by omega⟩
  rw [wr (x := (i : Int) + 1) (by omega) (by omega)]
  simp only [Int.toNat_natCast] at h5 ⊢
  cases n with
  | zero =>
    rw [if_neg (by simp; omega)]
    have hi : i = a.ends.length := by omega
    subst hi
    rw [List.take_length, hl, List.take_length] at h5
    exact ⟨(a, b), rfl, rfl, rfl, h5⟩
  | succ n =>
    have hi : i < a.ends.length := by omega
    rw [if_pos (by simp; omega)]
    have ea : a.ends.take (i + 1) = a.ends.take i ++ [at_wend a.ends i] := take_at .wend a.ends i hi
    have eb : b.ends.take (i + 1) = b.ends.take i ++ [at_wend b.ends i] := take_at .wend b.ends i (show i < b.ends.length by omega)
    have hE := hM.ed _ (at_mem .wend a.ends i hi)
    have hm : a.ends = b.ends → at_wend a.ends i = at_wend b.ends i := fun he => by rw [he]
    repeat' first
      | exact rfl
      | exact True.intro
      | exact hE
      | exact (show NetM 137438953472 (at_nets a.net i) from hE).len
      | exact (show NetM 137438953472 (at_nets a.net i) from hE).dat
      | exact (show NetM 137438953472 (at_nets a.net i) from hE).dat _ (by assumption)
      | with_reducible apply And.intro
      | (with_reducible intro r hr; subst r)
      | omega
      | with_reducible intro y_
      | refine iteI (fun hx => ?_) (fun hx => ?_)
    all_goals first
      | exact ⟨(), by trivial, fun he => by have e9 := hm he; simp [e9] at hx⟩
      | (have e3 : at_wend a.ends i = at_wend b.ends i := by simpa using hx
         refine ⟨(a, b, (i : Int) + 1), rfl, n, by omega, rfl, rfl, by dsimp only; omega, by dsimp only; omega, ?_⟩
         dsimp only
         rw [show ((i : Int) + 1).toNat = i + 1 by omega, ea, eb, h5, e3])
theorem vS_laws_liWorld_0 (a0 : WldS) (b0 : WldS) (i0 : Int) (hp : (fun (a : WldS) (b : WldS) (i : Int) => (WldM 137438953472 a ∧ a.ends.length = b.ends.length ∧ i = 0)) a0 b0 i0) : ∃ n : Nat, (fun (a : WldS) (b : WldS) (i : Int) => (a = a0 ∧ b = b0 ∧ 0 ≤ i ∧ i + n = a.ends.length ∧ a.ends.take i.toNat = b.ends.take i.toNat)) a0 b0 i0 := by
  try dsimp only at hp
  try dsimp only
  obtain ⟨h1, h2, rfl⟩ := hp
  exact ⟨a0.ends.length, rfl, rfl, by omega, by omega, rfl⟩
theorem vL_laws_liWorld_2 (a0:WldS) (b0:WldS) (i0:Int) (a:WldS) (b:WldS) (i:Int) (n:Nat) (hp:(fun (a:WldS) (b:WldS) (i:Int) => (WldM 137438953472 a∧a.net.length=b.net.length∧i=0)) a0 b0 i0) (hi:a=a0∧b=b0∧0≤i∧i + n=a.net.length∧a.net.take i.toNat=b.net.take i.toNat):if ((decide (i < (((List.length a.net):Nat):Int)))=true) then ((((0:Int)≤i)∧(i < (((List.length a.net):Nat):Int)))∧((((0:Int)≤i)∧(i < (((List.length b.net):Nat):Int)))∧((true=true)∧((((List.length (at_nets a.net (Int.toNat i)))≤(137438953472:Nat))∧(∀ y:NetS,(List.Mem y (at_nets a.net (Int.toNat i)))→((List.length y.bytes)≤(137438953472:Nat))))∧(∀ r:Bool,(r=(decide ((at_nets a.net (Int.toNat i))=(at_nets b.net (Int.toNat i)))))→(true=true)∧((true=true)∧(if ((!r)=true) then (∃ r1:Unit,((KS.mk true [(Prod.mk (4:Nat) (boo false))] [] [(Box.mk (0:Nat) Option.none),(Box.mk (0:Nat) Option.none)])=(KS.mk true [(Prod.mk (4:Nat) (boo false))] [] [(Box.mk (0:Nat) Option.none),(Box.mk (0:Nat) Option.none)]))∧(a0.net ≠ b0.net)) else (∃ s:(Prod WldS (Prod WldS Int)),((KS.mk true [(Prod.mk (2:Nat) (T.pb (0:Nat) (1:Nat) (0:Nat))),(Prod.mk (3:Nat) (T.pb (1:Nat) (1:Nat) (0:Nat))),(Prod.mk (6:Nat) (num IntKind.i64 (IntKind.wrap IntKind.i64 (i + (1:Int)))))] [] [(Box.mk (Min.min (1:Nat) (1:Nat)) (Option.some [(Cm.d (D.i IntKind.i64 a.cfg.mode)),(Cm.d (D.i IntKind.i64 a.cfg.win)),(Cm.d (D.i IntKind.i64 a.cfg.mps)),(Cm.d (D.i IntKind.i64 a.cfg.mtu)),(Cm.d (D.i IntKind.i64 a.cfg.try_)),(Cm.d (D.r RK.wend a.ends)),(Cm.d (D.r RK.nets a.net)),(Cm.d (D.i IntKind.i64 a.link))])),(Box.mk (Min.min (1:Nat) (1:Nat)) (Option.some [(Cm.d (D.i IntKind.i64 b.cfg.mode)),(Cm.d (D.i IntKind.i64 b.cfg.win)),(Cm.d (D.i IntKind.i64 b.cfg.mps)),(Cm.d (D.i IntKind.i64 b.cfg.mtu)),(Cm.d (D.i IntKind.i64 b.cfg.try_)),(Cm.d (D.r RK.wend b.ends)),(Cm.d (D.r RK.nets b.net)),(Cm.d (D.i IntKind.i64 b.link))]))])=(KS.mk true [(Prod.mk (2:Nat) (T.pb (0:Nat) (1:Nat) (0:Nat))),(Prod.mk (3:Nat) (T.pb (1:Nat) (1:Nat) (0:Nat))),(Prod.mk (6:Nat) (num IntKind.i64 s.snd.snd))] [] [(Box.mk (1:Nat) (Option.some [(Cm.d (D.i IntKind.i64 s.fst.cfg.mode)),(Cm.d (D.i IntKind.i64 s.fst.cfg.win)),(Cm.d (D.i IntKind.i64 s.fst.cfg.mps)),(Cm.d (D.i IntKind.i64 s.fst.cfg.mtu)),(Cm.d (D.i IntKind.i64 s.fst.cfg.try_)),(Cm.d (D.r RK.wend s.fst.ends)),(Cm.d (D.r RK.nets s.fst.net)),(Cm.d (D.i IntKind.i64 s.fst.link))])),(Box.mk (1:Nat) (Option.some [(Cm.d (D.i IntKind.i64 s.snd.fst.cfg.mode)),(Cm.d (D.i IntKind.i64 s.snd.fst.cfg.win)),(Cm.d (D.i IntKind.i64 s.snd.fst.cfg.mps)),(Cm.d (D.i IntKind.i64 s.snd.fst.cfg.mtu)),(Cm.d (D.i IntKind.i64 s.snd.fst.cfg.try_)),(Cm.d (D.r RK.wend s.snd.fst.ends)),(Cm.d (D.r RK.nets s.snd.fst.net)),(Cm.d (D.i IntKind.i64 s.snd.fst.link))]))]))∧(∃ m:Nat,(m < n)∧((s.fst=a0)∧((s.snd.fst=b0)∧(((0:Int)≤s.snd.snd)∧(((s.snd.snd + ((m:Nat):Int))=(((List.length s.fst.net):Nat):Int))∧((List.take (Int.toNat s.snd.snd) s.fst.net)=(List.take (Int.toNat s.snd.snd) s.snd.fst.net))))))))))))))) else (∃ r:Unit,((KS.mk true [] [] [(Box.mk (0:Nat) Option.none),(Box.mk (0:Nat) Option.none)])=(KS.mk true [] [] [(Box.mk (0:Nat) Option.none),(Box.mk (0:Nat) Option.none)]))∧(a0.net=b0.net)) := by
  try dsimp only at hp
  obtain ⟨hM, hl, _⟩ := hp
  obtain ⟨rfl, rfl, h3, h4, h5⟩ := hi
  have hL : a.net.length ≤ 137438953472 := hM.nl
  obtain ⟨i, rfl⟩ : ∃ m : Nat, i = m := ⟨i.toNat, by omega⟩
  rw [wr (x := (i : Int) + 1) (by omega) (by omega)]
  simp only [Int.toNat_natCast] at h5 ⊢
  cases n with
  | zero =>
    rw [if_neg (by simp; omega)]
    have hi : i = a.net.length := by omega
    subst hi
    rw [List.take_length, hl, List.take_length] at h5
    exact ⟨(), by trivial, h5⟩
  | succ n =>
    have hi : i < a.net.length := by omega
    rw [if_pos (by simp; omega)]
    have ea : a.net.take (i + 1) = a.net.take i ++ [at_nets a.net i] := take_at .nets a.net i hi
    have eb : b.net.take (i + 1) = b.net.take i ++ [at_nets b.net i] := take_at .nets b.net i (show i < b.net.length by omega)
    have hE := hM.nd _ (at_mem .nets a.net i hi)
    have hm : a.net = b.net → at_nets a.net i = at_nets b.net i := fun he => by rw [he]
    repeat' first
      | exact rfl
      | exact True.intro
      | exact hE
      | exact (show NetM 137438953472 (at_nets a.net i) from hE).len
      | exact (show NetM 137438953472 (at_nets a.net i) from hE).dat
      | exact (show NetM 137438953472 (at_nets a.net i) from hE).dat _ (by assumption)
      | with_reducible apply And.intro
      | (with_reducible intro r hr; subst r)
      | omega
      | with_reducible intro y_
      | refine iteI (fun hx => ?_) (fun hx => ?_)
    all_goals first
      | exact ⟨(), by trivial, fun he => by have e9 := hm he; simp [e9] at hx⟩
      | (have e3 : at_nets a.net i = at_nets b.net i := by simpa using hx
         refine ⟨(a, b, (i : Int) + 1), rfl, n, by omega, rfl, rfl, by dsimp only; omega, by dsimp only; omega, ?_⟩
         dsimp only
         rw [show ((i : Int) + 1).toNat = i + 1 by omega, ea, eb, h5, e3])
theorem vS_laws_liWorld_2 (a0 : WldS) (b0 : WldS) (i0 : Int) (hp : (fun (a : WldS) (b : WldS) (i : Int) => (WldM 137438953472 a ∧ a.net.length = b.net.length ∧ i = 0)) a0 b0 i0) : ∃ n : Nat, (fun (a : WldS) (b : WldS) (i : Int) => (a = a0 ∧ b = b0 ∧ 0 ≤ i ∧ i + n = a.net.length ∧ a.net.take i.toNat = b.net.take i.toNat)) a0 b0 i0 := by
  try dsimp only at hp
  try dsimp only
  obtain ⟨h1, h2, rfl⟩ := hp
  exact ⟨a0.net.length, rfl, rfl, by omega, by omega, rfl⟩
theorem w_laws_liWorld : Valid Try.prog 7 c_laws_liWorld :=
  valid_ctr2 (V := V_laws_liWorld) (tysB_ok tys_ok) ⟨(CallsL.cons w_laws_liEnd (CallsL.cons w_laws_liNet (CallsL.nil _))), (IosL.nil _)⟩ mixed 0 2 Try.func7 rfl (by kernel_rfl)
    (fun c hc => by
      obtain rfl := Option.some.inj hc
      exact ⟨trivial, ⟨⟨trivial, ⟨⟨trivial, trivial⟩, trivial⟩⟩, ⟨⟨trivial, ⟨LoopD.ok2 (V := V_laws_liWorld) l_laws_liWorld_0 (LoopsM.cons 0 l_laws_liWorld_0 (LoopsM.cons 2 l_laws_liWorld_2 LoopsM.nil)) 0 _ i_laws_liWorld_0 (fun x hx => vS_laws_liWorld_0 x.1 x.2.1 x.2.2 hx) (fun x hx n s hi => ⟨_, by kernel_rfl, vL_laws_liWorld_0 x.1 x.2.1 x.2.2 s.1 s.2.1 s.2.2 n hx hi⟩), ⟨⟨trivial, ⟨trivial, trivial⟩⟩, ⟨⟨trivial, ⟨⟨trivial, trivial⟩, trivial⟩⟩, trivial⟩⟩⟩⟩, ⟨⟨trivial, ⟨LoopD.ok2 (V := V_laws_liWorld) l_laws_liWorld_2 (LoopsM.cons 0 l_laws_liWorld_0 (LoopsM.cons 2 l_laws_liWorld_2 LoopsM.nil)) 2 _ i_laws_liWorld_2 (fun x hx => vS_laws_liWorld_2 x.1 x.2.1 x.2.2 hx) (fun x hx n s hi => ⟨_, by kernel_rfl, vL_laws_liWorld_2 x.1 x.2.1 x.2.2 s.1 s.2.1 s.2.2 n hx hi⟩), ⟨⟨trivial, ⟨trivial, trivial⟩⟩, ⟨⟨trivial, ⟨⟨trivial, trivial⟩, trivial⟩⟩, trivial⟩⟩⟩⟩, ⟨trivial, trivial⟩⟩⟩⟩⟩)
    (fun x K hp hk => ⟨_, by kernel_rfl, vF_laws_liWorld x.1 x.2 K hp (fun r h => hk r h)⟩)
end Go.Proofs.YtkencmgcibbfaaaE
