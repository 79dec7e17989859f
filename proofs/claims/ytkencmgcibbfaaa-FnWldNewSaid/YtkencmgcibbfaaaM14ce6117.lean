/- A part of the proof of laws of the program: what calls of the program answer. Conditions: none. -/
import Derived.Test.YtkencmgcibbfaaaM076ca40e
set_option linter.unusedVariables false
set_option linter.unusedSimpArgs false
set_option linter.unusedSectionVars false
/- Contracts: Y1. Conditions: none. -/
set_option linter.unusedVariables false
set_option maxHeartbeats 1600000
namespace Go.Proofs.YtkencmgcibbfaaaE
open Go
/-- Bounds of what an end holds: as handed over; as counted. -/
structure EndM (m : Nat) (e : EndS) : Prop where
  tf : e.tx.flight.length ≤ m
  tfd : ∀ p ∈ e.tx.flight, p.data.length ≤ m
  tq : e.tx.queue.length ≤ m
  tqd : ∀ p ∈ e.tx.queue, p.data.length ≤ m
  rg : e.rx.join.got.length ≤ m
  cq : e.ctx.queue.length ≤ m
  cqd : ∀ p ∈ e.ctx.queue, p.data.length ≤ m
  cg : e.crx.join.got.length ≤ m
  pl : e.put.length ≤ m
  pd : ∀ y ∈ e.put, y.length ≤ m
  gl : e.got.length ≤ m
  gd : ∀ y ∈ e.got, y.length ≤ m
structure NetM (m : Nat) (l : List NetS) : Prop where
  len : l.length ≤ m
  dat : ∀ x ∈ l, x.bytes.length ≤ m
structure WldM (m : Nat) (w : WldS) : Prop where
  el : w.ends.length ≤ m
  ed : ∀ e ∈ w.ends, EndM m e
  nl : w.net.length ≤ m
  nd : ∀ l ∈ w.net, NetM m l
theorem EndM.le {m k : Nat} {e : EndS} (h : EndM m e) (hk : m ≤ k) : EndM k e := by
  obtain ⟨a1, a2, a3, a4, a5, a6, a7, a8, a9, b1, b2, b3⟩ := h
  exact ⟨by omega, fun p hp => Nat.le_trans (a2 p hp) hk, by omega, fun p hp => Nat.le_trans (a4 p hp) hk, by omega, by omega, fun p hp => Nat.le_trans (a7 p hp) hk, by omega, by omega, fun p hp => Nat.le_trans (b1 p hp) hk, by omega, fun p hp => Nat.le_trans (b3 p hp) hk⟩
theorem NetM.le {m k : Nat} {l : List NetS} (h : NetM m l) (hk : m ≤ k) : NetM k l := ⟨Nat.le_trans h.len hk, fun x hx => Nat.le_trans (h.dat x hx) hk⟩
theorem or_in {r l : Int} {P : Prop} (h : (0 ≤ r ∧ r ≤ l ∧ P) ∨ r = -1) (h2 : ¬ r < 0) : P := by
  rcases h with h | h
  · exact h.2.2
  · omega
theorem end_eq {a b : EndS} (h1 : a.tx = b.tx) (h2 : a.rx = b.rx) (h3 : a.ctx = b.ctx) (h4 : a.crx = b.crx) (h5 : a.put = b.put) (h6 : a.got = b.got) : a = b := by
  obtain ⟨_, _, _, _, _, _⟩ := a
  obtain ⟨_, _, _, _, _, _⟩ := b
  dsimp only at h1 h2 h3 h4 h5 h6
  subst h1 h2 h3 h4 h5 h6
  rfl
theorem wld_eq {a b : WldS} (h1 : a.cfg = b.cfg) (h2 : a.ends = b.ends) (h3 : a.net = b.net) (h4 : a.link = b.link) : a = b := by
  obtain ⟨_, _, _, _⟩ := a
  obtain ⟨_, _, _, _⟩ := b
  dsimp only at h1 h2 h3 h4
  subst h1 h2 h3 h4
  rfl
deriving instance DecidableEq for WldS
theorem ifEq {α : Type} [DecidableEq α] {a b : α} {P Q : Prop} (h : a = b) (q : Q) : if (!decide (a = b)) = true then P else Q := by
  rw [if_neg (by simp [h])]; exact q
theorem ifTr {i : Decidable True} {P Q : Prop} (q : Q) : if (!(@decide True i)) = true then P else Q := by
  rw [if_neg (by simp)]; exact q
theorem ifLt {a b : Int} {P Q : Prop} (h : b ≤ a) (q : Q) : if (decide (a < b)) = true then P else Q := by
  rw [if_neg (by simp; omega)]; exact q
theorem ifNe {a b : Int} {P Q : Prop} (h : a = b) (q : Q) : if (a != b) = true then P else Q := by
  rw [if_neg (by simp [h])]; exact q
theorem ifNeB {a b : Bool} {P Q : Prop} (h : a = b) (q : Q) : if (a != b) = true then P else Q := by
  rw [if_neg (by simp [h])]; exact q
theorem ifLtB {a b : Int} {P Q : Prop} (h : a < b → P) (q : ¬ a < b → Q) : if (decide (a < b)) = true then P else Q := by
  by_cases hx : a < b
  · rw [if_pos (by simp [hx])]; exact h hx
  · rw [if_neg (by simp [hx])]; exact q hx
theorem andI {a b c : Prop} (h : a → b → c) : a ∧ b → c := fun x => h x.1 x.2
theorem set_takeG {α : Type} {o : List α} {i : Nat} {x : α} (h : i < o.length) : (o.set i x).take (i + 1) = o.take i ++ [x] := by
  rw [List.take_add_one, List.take_set, List.getElem?_set_self h, List.set_eq_of_length_le (by rw [List.length_take]; omega)]
  rfl

/-! laws.eqNetMsg -/
def c_laws_eqNetMsg : Ent := ctr (α := (NetS) × (NetS)) (ρ := (Bool)) [] [] (rs rNet (rs1 rNet)) (fun x_ => (fun (a : NetS) (b : NetS) => (a.bytes.length ≤ 137438953472)) x_.1 x_.2) (fun x_ r_ => (fun x_ => (fun (a : NetS) (b : NetS) => ((fun r_ => (fun (r : Bool) => (r = decide (a = b))) r_))) x_.1 x_.2) x_ r_) (fun r_ => (fun (r : Bool) => ([rB.to r])) r_) (fun r_ => (fun (r : Bool) => ([])) r_)
def V_laws_eqNetMsg : Env := ⟨tys, [(84, c_laws_eqByteS)], [], [(2, 0), (3, 1)], [], [], [], [], []⟩
/-! laws.eqByteSS -/
def c_laws_eqByteSS : Ent := ctr (α := (List (List Int)) × (List (List Int))) (ρ := (Bool)) [] [] (rs (rR .byr) (rs1 (rR .byr))) (fun x_ => (fun (a : List (List Int)) (b : List (List Int)) => (a.length ≤ LIM ∧ ∀ y ∈ a, y.length ≤ LIM)) x_.1 x_.2) (fun x_ r_ => (fun x_ => (fun (a : List (List Int)) (b : List (List Int)) => ((fun r_ => (fun (r : Bool) => (r = decide (a = b))) r_))) x_.1 x_.2) x_ r_) (fun r_ => (fun (r : Bool) => ([rB.to r])) r_) (fun r_ => (fun (r : Bool) => ([])) r_)
def l_laws_eqByteSS_0 : LoopD ((List (List Int)) × (List (List Int)) × (Int)) ((Unit)) ((Unit)) where
  n := 27
  head := ⟨[0, 1, 5], [], []⟩
  st := fun x_ => (fun (a : List (List Int)) (b : List (List Int)) (i : Int) => (⟨true, [(0, .v false [.d (.r .byr a)]), (1, .v false [.d (.r .byr b)]), (5, num .i64 i)], [], []⟩)) x_.1 x_.2.1 x_.2.2
  pre := fun x_ => (fun (a : List (List Int)) (b : List (List Int)) (i : Int) => (a.length = b.length ∧ i = 0 ∧ a.length ≤ LIM ∧ ∀ y ∈ a, y.length ≤ LIM)) x_.1 x_.2.1 x_.2.2
  nk := ⟨[], [], []⟩
  nst := fun r_ => (fun (u : Unit) => (⟨true, [], [], []⟩)) r_
  npost := fun x_ r_ => (fun x_ => (fun (a0 : List (List Int)) (b0 : List (List Int)) (i0 : Int) => ((fun r_ => (fun (u : Unit) => (a0 = b0)) r_))) x_.1 x_.2.1 x_.2.2) x_ r_
  rk := ⟨[4], [], []⟩
  rst := fun r_ => (fun (u : Unit) => (⟨true, [(4, boo false)], [], []⟩)) r_
  rpost := fun x_ r_ => (fun x_ => (fun (a0 : List (List Int)) (b0 : List (List Int)) (i0 : Int) => ((fun r_ => (fun (u : Unit) => (a0 ≠ b0)) r_))) x_.1 x_.2.1 x_.2.2) x_ r_
def i_laws_eqByteSS_0 (x : (List (List Int)) × (List (List Int)) × (Int)) (n : Nat) (s : (List (List Int)) × (List (List Int)) × (Int)) : Prop := (fun x_ => (fun (a0 : List (List Int)) (b0 : List (List Int)) (i0 : Int) => ((fun s_ => (fun (a : List (List Int)) (b : List (List Int)) (i : Int) => (a = a0 ∧ b = b0 ∧ a.length = b.length ∧ a.length ≤ LIM ∧ (∀ y ∈ a, y.length ≤ LIM) ∧ 0 ≤ i ∧ i + n = a.length ∧ a.take i.toNat = b.take i.toNat)) s_.1 s_.2.1 s_.2.2))) x_.1 x_.2.1 x_.2.2) x s
def V_laws_eqByteSS : Env := ⟨tys, [(84, c_laws_eqByteS)], [], [], [], [(0, l_laws_eqByteSS_0.L)], [], [], [(6, [(0, false), (1, false), (2, false), (3, false), (4, false), (5, false), (6, false), (7, false), (8, true), (9, false)])]⟩
/-! laws.eqNetMsgS -/
def c_laws_eqNetMsgS : Ent := ctr (α := (List NetS) × (List NetS)) (ρ := (Bool)) [] [] (rs (rR .netm) (rs1 (rR .netm))) (fun x_ => (fun (a : List NetS) (b : List NetS) => (a.length ≤ LIM ∧ ∀ y ∈ a, y.bytes.length ≤ 137438953472)) x_.1 x_.2) (fun x_ r_ => (fun x_ => (fun (a : List NetS) (b : List NetS) => ((fun r_ => (fun (r : Bool) => (r = decide (a = b))) r_))) x_.1 x_.2) x_ r_) (fun r_ => (fun (r : Bool) => ([rB.to r])) r_) (fun r_ => (fun (r : Bool) => ([])) r_)
def l_laws_eqNetMsgS_0 : LoopD ((List NetS) × (List NetS) × (Int)) ((Unit)) ((Unit)) where
  n := 27
  head := ⟨[0, 1, 5], [], []⟩
  st := fun x_ => (fun (a : List NetS) (b : List NetS) (i : Int) => (⟨true, [(0, .v false [.d (.r .netm a)]), (1, .v false [.d (.r .netm b)]), (5, num .i64 i)], [], []⟩)) x_.1 x_.2.1 x_.2.2
  pre := fun x_ => (fun (a : List NetS) (b : List NetS) (i : Int) => (a.length = b.length ∧ i = 0 ∧ a.length ≤ LIM ∧ ∀ y ∈ a, y.bytes.length ≤ 137438953472)) x_.1 x_.2.1 x_.2.2
  nk := ⟨[], [], []⟩
  nst := fun r_ => (fun (u : Unit) => (⟨true, [], [], []⟩)) r_
  npost := fun x_ r_ => (fun x_ => (fun (a0 : List NetS) (b0 : List NetS) (i0 : Int) => ((fun r_ => (fun (u : Unit) => (a0 = b0)) r_))) x_.1 x_.2.1 x_.2.2) x_ r_
  rk := ⟨[4], [], []⟩
  rst := fun r_ => (fun (u : Unit) => (⟨true, [(4, boo false)], [], []⟩)) r_
  rpost := fun x_ r_ => (fun x_ => (fun (a0 : List NetS) (b0 : List NetS) (i0 : Int) => ((fun r_ => (fun (u : Unit) => (a0 ≠ b0)) r_))) x_.1 x_.2.1 x_.2.2) x_ r_
def i_laws_eqNetMsgS_0 (x : (List NetS) × (List NetS) × (Int)) (n : Nat) (s : (List NetS) × (List NetS) × (Int)) : Prop := (fun x_ => (fun (a0 : List NetS) (b0 : List NetS) (i0 : Int) => ((fun s_ => (fun (a : List NetS) (b : List NetS) (i : Int) => (a = a0 ∧ b = b0 ∧ a.length = b.length ∧ a.length ≤ LIM ∧ (∀ y ∈ a, y.bytes.length ≤ 137438953472) ∧ 0 ≤ i ∧ i + n = a.length ∧ a.take i.toNat = b.take i.toNat)) s_.1 s_.2.1 s_.2.2))) x_.1 x_.2.1 x_.2.2) x s
def V_laws_eqNetMsgS : Env := ⟨tys, [(79, c_laws_eqNetMsg)], [], [], [], [(0, l_laws_eqNetMsgS_0.L)], [], [], [(6, [(0, false), (1, false), (2, false), (3, false), (4, false), (5, false), (6, false), (7, false), (8, true), (9, false)])]⟩
/-! laws.eqNetMsgSS -/
def c_laws_eqNetMsgSS : Ent := ctr (α := (List (List NetS)) × (List (List NetS))) (ρ := (Bool)) [] [] (rs (rR .nets) (rs1 (rR .nets))) (fun x_ => (fun (a : List (List NetS)) (b : List (List NetS)) => (a.length ≤ LIM ∧ ∀ y ∈ a, y.length ≤ 137438953472 ∧ ∀ z ∈ y, z.bytes.length ≤ 137438953472)) x_.1 x_.2) (fun x_ r_ => (fun x_ => (fun (a : List (List NetS)) (b : List (List NetS)) => ((fun r_ => (fun (r : Bool) => (r = decide (a = b))) r_))) x_.1 x_.2) x_ r_) (fun r_ => (fun (r : Bool) => ([rB.to r])) r_) (fun r_ => (fun (r : Bool) => ([])) r_)
def l_laws_eqNetMsgSS_0 : LoopD ((List (List NetS)) × (List (List NetS)) × (Int)) ((Unit)) ((Unit)) where
  n := 27
  head := ⟨[0, 1, 5], [], []⟩
  st := fun x_ => (fun (a : List (List NetS)) (b : List (List NetS)) (i : Int) => (⟨true, [(0, .v false [.d (.r .nets a)]), (1, .v false [.d (.r .nets b)]), (5, num .i64 i)], [], []⟩)) x_.1 x_.2.1 x_.2.2
  pre := fun x_ => (fun (a : List (List NetS)) (b : List (List NetS)) (i : Int) => (a.length = b.length ∧ i = 0 ∧ a.length ≤ LIM ∧ ∀ y ∈ a, y.length ≤ 137438953472 ∧ ∀ z ∈ y, z.bytes.length ≤ 137438953472)) x_.1 x_.2.1 x_.2.2
  nk := ⟨[], [], []⟩
  nst := fun r_ => (fun (u : Unit) => (⟨true, [], [], []⟩)) r_
  npost := fun x_ r_ => (fun x_ => (fun (a0 : List (List NetS)) (b0 : List (List NetS)) (i0 : Int) => ((fun r_ => (fun (u : Unit) => (a0 = b0)) r_))) x_.1 x_.2.1 x_.2.2) x_ r_
  rk := ⟨[4], [], []⟩
  rst := fun r_ => (fun (u : Unit) => (⟨true, [(4, boo false)], [], []⟩)) r_
  rpost := fun x_ r_ => (fun x_ => (fun (a0 : List (List NetS)) (b0 : List (List NetS)) (i0 : Int) => ((fun r_ => (fun (u : Unit) => (a0 ≠ b0)) r_))) x_.1 x_.2.1 x_.2.2) x_ r_
def i_laws_eqNetMsgSS_0 (x : (List (List NetS)) × (List (List NetS)) × (Int)) (n : Nat) (s : (List (List NetS)) × (List (List NetS)) × (Int)) : Prop := (fun x_ => (fun (a0 : List (List NetS)) (b0 : List (List NetS)) (i0 : Int) => ((fun s_ => (fun (a : List (List NetS)) (b : List (List NetS)) (i : Int) => (a = a0 ∧ b = b0 ∧ a.length = b.length ∧ a.length ≤ LIM ∧ (∀ y ∈ a, y.length ≤ 137438953472 ∧ ∀ z ∈ y, z.bytes.length ≤ 137438953472) ∧ 0 ≤ i ∧ i + n = a.length ∧ a.take i.toNat = b.take i.toNat)) s_.1 s_.2.1 s_.2.2))) x_.1 x_.2.1 x_.2.2) x s
def V_laws_eqNetMsgSS : Env := ⟨tys, [(60, c_laws_eqNetMsgS)], [], [], [], [(0, l_laws_eqNetMsgSS_0.L)], [], [], [(6, [(0, false), (1, false), (2, false), (3, false), (4, false), (5, false), (6, false), (7, false), (8, true), (9, false)])]⟩
/-! laws.eqWldEnd -/
def c_laws_eqWldEnd : Ent := ctr (α := (EndS) × (EndS)) (ρ := (Bool)) [] [] (rs rEnd (rs1 rEnd)) (fun x_ => (fun (a : EndS) (b : EndS) => (EndM 137438953472 a)) x_.1 x_.2) (fun x_ r_ => (fun x_ => (fun (a : EndS) (b : EndS) => ((fun r_ => (fun (r : Bool) => (r = decide (a = b))) r_))) x_.1 x_.2) x_ r_) (fun r_ => (fun (r : Bool) => ([rB.to r])) r_) (fun r_ => (fun (r : Bool) => ([])) r_)
def V_laws_eqWldEnd : Env := ⟨tys, [(74, c_laws_eqTxState), (75, c_laws_eqRxState), (76, c_laws_eqCrdTx), (77, c_laws_eqCrdRx), (78, c_laws_eqByteSS)], [], [(2, 0), (3, 1)], [], [], [], [], []⟩
/-! laws.eqWldEndS -/
def c_laws_eqWldEndS : Ent := ctr (α := (List EndS) × (List EndS)) (ρ := (Bool)) [] [] (rs (rR .wend) (rs1 (rR .wend))) (fun x_ => (fun (a : List EndS) (b : List EndS) => (a.length ≤ LIM ∧ ∀ y ∈ a, EndM 137438953472 y)) x_.1 x_.2) (fun x_ r_ => (fun x_ => (fun (a : List EndS) (b : List EndS) => ((fun r_ => (fun (r : Bool) => (r = decide (a = b))) r_))) x_.1 x_.2) x_ r_) (fun r_ => (fun (r : Bool) => ([rB.to r])) r_) (fun r_ => (fun (r : Bool) => ([])) r_)
def l_laws_eqWldEndS_0 : LoopD ((List EndS) × (List EndS) × (Int)) ((Unit)) ((Unit)) where
  n := 27
  head := ⟨[0, 1, 5], [], []⟩
  st := fun x_ => (fun (a : List EndS) (b : List EndS) (i : Int) => (⟨true, [(0, .v false [.d (.r .wend a)]), (1, .v false [.d (.r .wend b)]), (5, num .i64 i)], [], []⟩)) x_.1 x_.2.1 x_.2.2
  pre := fun x_ => (fun (a : List EndS) (b : List EndS) (i : Int) => (a.length = b.length ∧ i = 0 ∧ a.length ≤ LIM ∧ ∀ y ∈ a, EndM 137438953472 y)) x_.1 x_.2.1 x_.2.2
  nk := ⟨[], [], []⟩
  nst := fun r_ => (fun (u : Unit) => (⟨true, [], [], []⟩)) r_
  npost := fun x_ r_ => (fun x_ => (fun (a0 : List EndS) (b0 : List EndS) (i0 : Int) => ((fun r_ => (fun (u : Unit) => (a0 = b0)) r_))) x_.1 x_.2.1 x_.2.2) x_ r_
  rk := ⟨[4], [], []⟩
  rst := fun r_ => (fun (u : Unit) => (⟨true, [(4, boo false)], [], []⟩)) r_
  rpost := fun x_ r_ => (fun x_ => (fun (a0 : List EndS) (b0 : List EndS) (i0 : Int) => ((fun r_ => (fun (u : Unit) => (a0 ≠ b0)) r_))) x_.1 x_.2.1 x_.2.2) x_ r_
def i_laws_eqWldEndS_0 (x : (List EndS) × (List EndS) × (Int)) (n : Nat) (s : (List EndS) × (List EndS) × (Int)) : Prop := (fun x_ => (fun (a0 : List EndS) (b0 : List EndS) (i0 : Int) => ((fun s_ => (fun (a : List EndS) (b : List EndS) (i : Int) => (a = a0 ∧ b = b0 ∧ a.length = b.length ∧ a.length ≤ LIM ∧ (∀ y ∈ a, EndM 137438953472 y) ∧ 0 ≤ i ∧ i + n = a.length ∧ a.take i.toNat = b.take i.toNat)) s_.1 s_.2.1 s_.2.2))) x_.1 x_.2.1 x_.2.2) x s
def V_laws_eqWldEndS : Env := ⟨tys, [(59, c_laws_eqWldEnd)], [], [], [], [(0, l_laws_eqWldEndS_0.L)], [], [], [(6, [(0, false), (1, false), (2, false), (3, false), (4, false), (5, false), (6, false), (7, false), (8, true), (9, false)])]⟩
/-! laws.eqCfgOpts -/
def c_laws_eqCfgOpts : Ent := ctr (α := (Cfg) × (Cfg)) (ρ := (Bool)) [] [] (rs rCfg (rs1 rCfg)) (fun x_ => (fun (a : Cfg) (b : Cfg) => (True)) x_.1 x_.2) (fun x_ r_ => (fun x_ => (fun (a : Cfg) (b : Cfg) => ((fun r_ => (fun (r : Bool) => (r = decide (a = b))) r_))) x_.1 x_.2) x_ r_) (fun r_ => (fun (r : Bool) => ([rB.to r])) r_) (fun r_ => (fun (r : Bool) => ([])) r_)
def V_laws_eqCfgOpts : Env := ⟨tys, [], [], [(2, 0), (3, 1)], [], [], [], [], []⟩
/-! laws.eqWldWorld -/
def c_laws_eqWldWorld : Ent := ctr (α := (WldS) × (WldS)) (ρ := (Bool)) [] [] (rs rWld (rs1 rWld)) (fun x_ => (fun (a : WldS) (b : WldS) => (WldM 137438953472 a)) x_.1 x_.2) (fun x_ r_ => (fun x_ => (fun (a : WldS) (b : WldS) => ((fun r_ => (fun (r : Bool) => (r = decide (a = b))) r_))) x_.1 x_.2) x_ r_) (fun r_ => (fun (r : Bool) => ([rB.to r])) r_) (fun r_ => (fun (r : Bool) => ([])) r_)
def V_laws_eqWldWorld : Env := ⟨tys, [(38, c_laws_eqCfgOpts), (39, c_laws_eqWldEndS), (40, c_laws_eqNetMsgSS)], [], [(2, 0), (3, 1)], [], [], [], [], []⟩
end Go.Proofs.YtkencmgcibbfaaaE

/- Calls answer what is promised: Y1. Conditions: none. -/
set_option linter.unusedVariables false
set_option maxHeartbeats 1600000
namespace Go.Proofs.YtkencmgcibbfaaaE
open Go
theorem vF_laws_eqNetMsg (a:NetS) (b:NetS) (K:List Arg→List (List AC)→Prop) (hp:a.bytes.length≤137438953472) (hk:∀ (r:Bool),(r=decide (a=b))→K ([rB.to r]) ([])):if ((a.bent != b.bent)=true) then ((true=true)∧(K [(aB false)] [])) else ((true=true)∧((((List.length a.bytes)≤(137438953472:Nat))∧True)∧(∀ r:Bool,(r=(decide (a.bytes=b.bytes)))→(true=true)∧(if ((!r)=true) then ((true=true)∧(K [(aB false)] [])) else ((true=true)∧(K [(aB true)] [])))))) := by
  obtain ⟨a1, a2⟩ := a
  obtain ⟨b1, b2⟩ := b

  repeat' first
    | exact rfl
    | exact True.intro
    | with_reducible apply And.intro
    | (with_reducible intro y_ hy_; subst hy_)
    | with_reducible intro y_
    | (refine iteI (fun h => ?_) (fun h => ?_))
  all_goals try simp only [Bool.not_eq_true', decide_eq_false_iff_not, decide_eq_true_eq, Bool.not_eq_true, bne_iff_ne, beq_iff_eq, ne_eq, Decidable.not_not, Bool.not_eq_false, gt_iff_lt, ge_iff_le, Int.not_le, Int.not_lt, beq_eq_false_iff_ne, bne_eq_false_iff_eq, Bool.and_eq_true, Bool.or_eq_true, Bool.true_eq_false, Bool.false_eq_true] at *
  all_goals try simp (disch := first | omega | grind []) only [wr] at *
  all_goals first
    | assumption
    | omega
    | exact hk _ (by grind [])
    | (simp only [LIM] at *; omega)
    | grind [LIM]
theorem w_laws_eqNetMsg : Valid Try.prog 79 c_laws_eqNetMsg :=
  valid_ctr2 (V := V_laws_eqNetMsg) (tysB_ok tys_ok) ⟨(CallsL.cons w_laws_eqByteS (CallsL.nil _)), (IosL.nil _)⟩ mixed 0 2 Try.func79 rfl (by kernel_rfl)
    (fun c hc => by
      obtain rfl := Option.some.inj hc
      exact ⟨trivial, ⟨⟨trivial, ⟨⟨trivial, trivial⟩, trivial⟩⟩, ⟨⟨trivial, ⟨⟨trivial, trivial⟩, trivial⟩⟩, ⟨trivial, trivial⟩⟩⟩⟩)
    (fun x K hp hk => ⟨_, by kernel_rfl, vF_laws_eqNetMsg x.1 x.2 K hp (fun r h => hk r h)⟩)
theorem vF_laws_eqByteSS (a:List (List Int)) (b:List (List Int)) (K:List Arg→List (List AC)→Prop) (hp:a.length≤LIM∧∀ y ∈ a,y.length≤LIM) (hk:∀ (r:Bool),(r=decide (a=b))→K ([rB.to r]) ([])):if (((((List.length a):Nat):Int) != (((List.length b):Nat):Int))=true) then ((true=true)∧(K [(aB false)] [])) else (∃ s:(Prod (List (List Int)) (Prod (List (List Int)) Int)),((KS.mk true [(Prod.mk (0:Nat) (T.v false [(Cm.d (D.r RK.byr a))])),(Prod.mk (1:Nat) (T.v false [(Cm.d (D.r RK.byr b))])),(Prod.mk (5:Nat) (num IntKind.i64 (0:Int)))] [] [])=(KS.mk true [(Prod.mk (0:Nat) (T.v false [(Cm.d (D.r RK.byr s.fst))])),(Prod.mk (1:Nat) (T.v false [(Cm.d (D.r RK.byr s.snd.fst))])),(Prod.mk (5:Nat) (num IntKind.i64 s.snd.snd))] [] []))∧((((List.length s.fst)=(List.length s.snd.fst))∧((s.snd.snd=(0:Int))∧(((List.length s.fst)≤(137438953472:Nat))∧(∀ y:(List Int),(List.Mem y s.fst)→((List.length y)≤(137438953472:Nat))))))∧((∀ r:Unit,(s.fst=s.snd.fst)→(true=true)∧(K [(aB true)] []))∧(∀ r:Unit,(s.fst ≠ s.snd.fst)→(true=true)∧(K [(aB false)] []))))) := by
  refine iteI (fun h => ?_) (fun h => ?_)
  · refine ⟨by trivial, hk false ?_⟩
    symm; rw [decide_eq_false_iff_not]; rintro rfl; simp at h
  · have h1 : a.length = b.length := by simp at h; omega
    refine ⟨(a, b, 0), rfl, ⟨h1, rfl, hp.1, hp.2⟩, fun _ hr => ⟨by trivial, hk true (by simp; exact hr)⟩, fun _ hr => ⟨by trivial, hk false (by simp; exact hr)⟩⟩
theorem vL_laws_eqByteSS_0 (a0:List (List Int)) (b0:List (List Int)) (i0:Int) (a:List (List Int)) (b:List (List Int)) (i:Int) (n:Nat) (hp:(fun (a:List (List Int)) (b:List (List Int)) (i:Int) => (a.length=b.length∧i=0∧a.length≤LIM∧∀ y ∈ a,y.length≤LIM)) a0 b0 i0) (hi:a=a0∧b=b0∧a.length=b.length∧a.length≤LIM∧(∀ y ∈ a,y.length≤LIM)∧0≤i∧i + n=a.length∧a.take i.toNat=b.take i.toNat):if ((decide (i < (((List.length a):Nat):Int)))=true) then ((((0:Int)≤i)∧(i < (((List.length a):Nat):Int)))∧((((0:Int)≤i)∧(i < (((List.length b):Nat):Int)))∧((true=true)∧((((List.length (at_byr a (Int.toNat i)))≤(137438953472:Nat))∧True)∧(∀ r:Bool,(r=(decide ((at_byr a (Int.toNat i))=(at_byr b (Int.toNat i)))))→(true=true)∧((true=true)∧(if ((!r)=true) then (∃ r1:Unit,((KS.mk true [(Prod.mk (4:Nat) (boo false))] [] [])=(KS.mk true [(Prod.mk (4:Nat) (boo false))] [] []))∧(a0 ≠ b0)) else (∃ s:(Prod (List (List Int)) (Prod (List (List Int)) Int)),((KS.mk true [(Prod.mk (0:Nat) (T.v false [(Cm.d (D.r RK.byr a))])),(Prod.mk (1:Nat) (T.v false [(Cm.d (D.r RK.byr b))])),(Prod.mk (5:Nat) (num IntKind.i64 (IntKind.wrap IntKind.i64 (i + (1:Int)))))] [] [])=(KS.mk true [(Prod.mk (0:Nat) (T.v false [(Cm.d (D.r RK.byr s.fst))])),(Prod.mk (1:Nat) (T.v false [(Cm.d (D.r RK.byr s.snd.fst))])),(Prod.mk (5:Nat) (num IntKind.i64 s.snd.snd))] [] []))∧(∃ m:Nat,(m < n)∧((s.fst=a0)∧((s.snd.fst=b0)∧(((List.length s.fst)=(List.length s.snd.fst))∧(((List.length s.fst)≤(137438953472:Nat))∧((∀ y:(List Int),(List.Mem y s.fst)→((List.length y)≤(137438953472:Nat)))∧(((0:Int)≤s.snd.snd)∧(((s.snd.snd + ((m:Nat):Int))=(((List.length s.fst):Nat):Int))∧((List.take (Int.toNat s.snd.snd) s.fst)=(List.take (Int.toNat s.snd.snd) s.snd.fst)))))))))))))))))) else (∃ r:Unit,((KS.mk true [] [] [])=(KS.mk true [] [] []))∧(a0=b0)) := by
  try dsimp only at hp
  obtain ⟨rfl, rfl, h1, h2, hw, h3, h4, h5⟩ := hi
  have hL : a.length ≤ 137438953472 := h2
  obtain ⟨i, rfl⟩ : ∃ m : Nat, i = m := ⟨i.toNat, by omega⟩
  rw [wr (x := (i : Int) + 1) (by omega) (by omega)]
  simp only [Int.toNat_natCast] at h5 ⊢
  refine iteI (fun h => ?_) (fun h => ?_)
  · have hi : i < a.length := by simp at h; omega
    refine ⟨⟨by omega, by omega⟩, ⟨by omega, by omega⟩, by trivial, ?_⟩
    have ea : a.take (i + 1) = a.take i ++ [at_byr a i] := take_at .byr a i hi
    have eb : b.take (i + 1) = b.take i ++ [at_byr b i] := take_at .byr b i (show i < b.length by omega)
    refine ⟨⟨hw _ (at_mem .byr a i hi), trivial⟩, fun r hr => ?_⟩
    subst hr
    repeat refine ⟨by trivial, ?_⟩
    refine iteI (fun hx => ?_) (fun hx => ?_)
    · refine ⟨(), by trivial, fun he => ?_⟩
      simp [he] at hx
    · refine ⟨(a, b, (i : Int) + 1), rfl, n - 1, by omega, rfl, rfl, h1, h2, hw, by dsimp only; omega, by dsimp only; omega, ?_⟩
      dsimp only
      rw [show ((i : Int) + 1).toNat = i + 1 by omega, ea, eb, h5]
      simp at hx
      exact congrArg (fun z => List.take i b ++ [z]) hx
  · have hi : i = a.length := by simp at h; omega
    subst hi
    refine ⟨(), by trivial, ?_⟩
    rw [List.take_length, h1, List.take_length] at h5
    exact h5
theorem vS_laws_eqByteSS_0 (a0 : List (List Int)) (b0 : List (List Int)) (i0 : Int) (hp : (fun (a : List (List Int)) (b : List (List Int)) (i : Int) => (a.length = b.length ∧ i = 0 ∧ a.length ≤ LIM ∧ ∀ y ∈ a, y.length ≤ LIM)) a0 b0 i0) : ∃ n : Nat, (fun (a : List (List Int)) (b : List (List Int)) (i : Int) => (a = a0 ∧ b = b0 ∧ a.length = b.length ∧ a.length ≤ LIM ∧ (∀ y ∈ a, y.length ≤ LIM) ∧ 0 ≤ i ∧ i + n = a.length ∧ a.take i.toNat = b.take i.toNat)) a0 b0 i0 := by
  try dsimp only at hp
  try dsimp only
  obtain ⟨h1, h2, h3, hw⟩ := hp
  exact ⟨a0.length, rfl, rfl, h1, h3, hw, by omega, by omega, by subst h2; simp⟩
theorem w_laws_eqByteSS : Valid Try.prog 78 c_laws_eqByteSS :=
  valid_ctr2 (V := V_laws_eqByteSS) (tysB_ok tys_ok) ⟨(CallsL.cons w_laws_eqByteS (CallsL.nil _)), (IosL.nil _)⟩ mixed 0 0 Try.func78 rfl (by kernel_rfl)
    (fun c hc => by
      obtain rfl := Option.some.inj hc
      exact ⟨trivial, ⟨⟨trivial, ⟨⟨trivial, trivial⟩, trivial⟩⟩, ⟨⟨trivial, ⟨LoopD.ok2 (V := V_laws_eqByteSS) l_laws_eqByteSS_0 (LoopsM.cons 0 l_laws_eqByteSS_0 LoopsM.nil) 0 _ i_laws_eqByteSS_0 (fun x hx => vS_laws_eqByteSS_0 x.1 x.2.1 x.2.2 hx) (fun x hx n s hi => ⟨_, by kernel_rfl, vL_laws_eqByteSS_0 x.1 x.2.1 x.2.2 s.1 s.2.1 s.2.2 n hx hi⟩), ⟨⟨trivial, ⟨trivial, trivial⟩⟩, ⟨⟨trivial, ⟨⟨trivial, trivial⟩, trivial⟩⟩, trivial⟩⟩⟩⟩, ⟨trivial, trivial⟩⟩⟩⟩)
    (fun x K hp hk => ⟨_, by kernel_rfl, vF_laws_eqByteSS x.1 x.2 K hp (fun r h => hk r h)⟩)
theorem vF_laws_eqNetMsgS (a:List NetS) (b:List NetS) (K:List Arg→List (List AC)→Prop) (hp:a.length≤LIM∧∀ y ∈ a,y.bytes.length≤137438953472) (hk:∀ (r:Bool),(r=decide (a=b))→K ([rB.to r]) ([])):if (((((List.length a):Nat):Int) != (((List.length b):Nat):Int))=true) then ((true=true)∧(K [(aB false)] [])) else (∃ s:(Prod (List NetS) (Prod (List NetS) Int)),((KS.mk true [(Prod.mk (0:Nat) (T.v false [(Cm.d (D.r RK.netm a))])),(Prod.mk (1:Nat) (T.v false [(Cm.d (D.r RK.netm b))])),(Prod.mk (5:Nat) (num IntKind.i64 (0:Int)))] [] [])=(KS.mk true [(Prod.mk (0:Nat) (T.v false [(Cm.d (D.r RK.netm s.fst))])),(Prod.mk (1:Nat) (T.v false [(Cm.d (D.r RK.netm s.snd.fst))])),(Prod.mk (5:Nat) (num IntKind.i64 s.snd.snd))] [] []))∧((((List.length s.fst)=(List.length s.snd.fst))∧((s.snd.snd=(0:Int))∧(((List.length s.fst)≤(137438953472:Nat))∧(∀ y:NetS,(List.Mem y s.fst)→((List.length y.bytes)≤(137438953472:Nat))))))∧((∀ r:Unit,(s.fst=s.snd.fst)→(true=true)∧(K [(aB true)] []))∧(∀ r:Unit,(s.fst ≠ s.snd.fst)→(true=true)∧(K [(aB false)] []))))) := by
  refine iteI (fun h => ?_) (fun h => ?_)
  · refine ⟨by trivial, hk false ?_⟩
    symm; rw [decide_eq_false_iff_not]; rintro rfl; simp at h
  · have h1 : a.length = b.length := by simp at h; omega
    refine ⟨(a, b, 0), rfl, ⟨h1, rfl, hp.1, hp.2⟩, fun _ hr => ⟨by trivial, hk true (by simp; exact hr)⟩, fun _ hr => ⟨by trivial, hk false (by simp; exact hr)⟩⟩
theorem vL_laws_eqNetMsgS_0 (a0:List NetS) (b0:List NetS) (i0:Int) (a:List NetS) (b:List NetS) (i:Int) (n:Nat) (hp:(fun (a:List NetS) (b:List NetS) (i:Int) => (a.length=b.length∧i=0∧a.length≤LIM∧∀ y ∈ a,y.bytes.length≤137438953472)) a0 b0 i0) (hi:a=a0∧b=b0∧a.length=b.length∧a.length≤LIM∧(∀ y ∈ a,y.bytes.length≤137438953472)∧0≤i∧i + n=a.length∧a.take i.toNat=b.take i.toNat):if ((decide (i < (((List.length a):Nat):Int)))=true) then ((((0:Int)≤i)∧(i < (((List.length a):Nat):Int)))∧((((0:Int)≤i)∧(i < (((List.length b):Nat):Int)))∧((true=true)∧(((List.length (at_netm a (Int.toNat i)).bytes)≤(137438953472:Nat))∧(∀ r:Bool,(r=(decide ((at_netm a (Int.toNat i))=(at_netm b (Int.toNat i)))))→(true=true)∧((true=true)∧(if ((!r)=true) then (∃ r1:Unit,((KS.mk true [(Prod.mk (4:Nat) (boo false))] [] [])=(KS.mk true [(Prod.mk (4:Nat) (boo false))] [] []))∧(a0 ≠ b0)) else (∃ s:(Prod (List NetS) (Prod (List NetS) Int)),((KS.mk true [(Prod.mk (0:Nat) (T.v false [(Cm.d (D.r RK.netm a))])),(Prod.mk (1:Nat) (T.v false [(Cm.d (D.r RK.netm b))])),(Prod.mk (5:Nat) (num IntKind.i64 (IntKind.wrap IntKind.i64 (i + (1:Int)))))] [] [])=(KS.mk true [(Prod.mk (0:Nat) (T.v false [(Cm.d (D.r RK.netm s.fst))])),(Prod.mk (1:Nat) (T.v false [(Cm.d (D.r RK.netm s.snd.fst))])),(Prod.mk (5:Nat) (num IntKind.i64 s.snd.snd))] [] []))∧(∃ m:Nat,(m < n)∧((s.fst=a0)∧((s.snd.fst=b0)∧(((List.length s.fst)=(List.length s.snd.fst))∧(((List.length s.fst)≤(137438953472:Nat))∧((∀ y:NetS,(List.Mem y s.fst)→((List.length y.bytes)≤(137438953472:Nat)))∧(((0:Int)≤s.snd.snd)∧(((s.snd.snd + ((m:Nat):Int))=(((List.length s.fst):Nat):Int))∧((List.take (Int.toNat s.snd.snd) s.fst)=(List.take (Int.toNat s.snd.snd) s.snd.fst)))))))))))))))))) else (∃ r:Unit,((KS.mk true [] [] [])=(KS.mk true [] [] []))∧(a0=b0)) := by
  try dsimp only at hp
  obtain ⟨rfl, rfl, h1, h2, hw, h3, h4, h5⟩ := hi
  have hL : a.length ≤ 137438953472 := h2
  obtain ⟨i, rfl⟩ : ∃ m : Nat, i = m := ⟨i.toNat, by omega⟩
  rw [wr (x := (i : Int) + 1) (by omega) (by omega)]
  simp only [Int.toNat_natCast] at h5 ⊢
  refine iteI (fun h => ?_) (fun h => ?_)
  · have hi : i < a.length := by simp at h; omega
    refine ⟨⟨by omega, by omega⟩, ⟨by omega, by omega⟩, by trivial, ?_⟩
    have ea : a.take (i + 1) = a.take i ++ [at_netm a i] := take_at .netm a i hi
    have eb : b.take (i + 1) = b.take i ++ [at_netm b i] := take_at .netm b i (show i < b.length by omega)
    refine ⟨hw _ (at_mem .netm a i hi), fun r hr => ?_⟩
    subst hr
    repeat refine ⟨by trivial, ?_⟩
    refine iteI (fun hx => ?_) (fun hx => ?_)
    · refine ⟨(), by trivial, fun he => ?_⟩
      simp [he] at hx
    · refine ⟨(a, b, (i : Int) + 1), rfl, n - 1, by omega, rfl, rfl, h1, h2, hw, by dsimp only; omega, by dsimp only; omega, ?_⟩
      dsimp only
      rw [show ((i : Int) + 1).toNat = i + 1 by omega, ea, eb, h5]
      simp at hx
      exact congrArg (fun z => List.take i b ++ [z]) hx
  · have hi : i = a.length := by simp at h; omega
    subst hi
    refine ⟨(), by trivial, ?_⟩
    rw [List.take_length, h1, List.take_length] at h5
    exact h5
theorem vS_laws_eqNetMsgS_0 (a0 : List NetS) (b0 : List NetS) (i0 : Int) (hp : (fun (a : List NetS) (b : List NetS) (i : Int) => (a.length = b.length ∧ i = 0 ∧ a.length ≤ LIM ∧ ∀ y ∈ a, y.bytes.length ≤ 137438953472)) a0 b0 i0) : ∃ n : Nat, (fun (a : List NetS) (b : List NetS) (i : Int) => (a = a0 ∧ b = b0 ∧ a.length = b.length ∧ a.length ≤ LIM ∧ (∀ y ∈ a, y.bytes.length ≤ 137438953472) ∧ 0 ≤ i ∧ i + n = a.length ∧ a.take i.toNat = b.take i.toNat)) a0 b0 i0 := by
  try dsimp only at hp
  try dsimp only
  obtain ⟨h1, h2, h3, hw⟩ := hp
  exact ⟨a0.length, rfl, rfl, h1, h3, hw, by omega, by omega, by subst h2; simp⟩
theorem w_laws_eqNetMsgS : Valid Try.prog 60 c_laws_eqNetMsgS :=
  valid_ctr2 (V := V_laws_eqNetMsgS) (tysB_ok tys_ok) ⟨(CallsL.cons w_laws_eqNetMsg (CallsL.nil _)), (IosL.nil _)⟩ mixed 0 0 Try.func60 rfl (by kernel_rfl)
    (fun c hc => by
      obtain rfl := Option.some.inj hc
      exact ⟨trivial, ⟨⟨trivial, ⟨⟨trivial, trivial⟩, trivial⟩⟩, ⟨⟨trivial, ⟨LoopD.ok2 (V := V_laws_eqNetMsgS) l_laws_eqNetMsgS_0 (LoopsM.cons 0 l_laws_eqNetMsgS_0 LoopsM.nil) 0 _ i_laws_eqNetMsgS_0 (fun x hx => vS_laws_eqNetMsgS_0 x.1 x.2.1 x.2.2 hx) (fun x hx n s hi => ⟨_, by kernel_rfl, vL_laws_eqNetMsgS_0 x.1 x.2.1 x.2.2 s.1 s.2.1 s.2.2 n hx hi⟩), ⟨⟨trivial, ⟨trivial, trivial⟩⟩, ⟨⟨trivial, ⟨⟨trivial, trivial⟩, trivial⟩⟩, trivial⟩⟩⟩⟩, ⟨trivial, trivial⟩⟩⟩⟩)
    (fun x K hp hk => ⟨_, by kernel_rfl, vF_laws_eqNetMsgS x.1 x.2 K hp (fun r h => hk r h)⟩)
theorem vF_laws_eqNetMsgSS (a:List (List NetS)) (b:List (List NetS)) (K:List Arg→List (List AC)→Prop) (hp:a.length≤LIM∧∀ y ∈ a,y.length≤137438953472∧∀ z ∈ y,z.bytes.length≤137438953472) (hk:∀ (r:Bool),(r=decide (a=b))→K ([rB.to r]) ([])):if (((((List.length a):Nat):Int) != (((List.length b):Nat):Int))=true) then ((true=true)∧(K [(aB false)] [])) else (∃ s:(Prod (List (List NetS)) (Prod (List (List NetS)) Int)),((KS.mk true [(Prod.mk (0:Nat) (T.v false [(Cm.d (D.r RK.nets a))])),(Prod.mk (1:Nat) (T.v false [(Cm.d (D.r RK.nets b))])),(Prod.mk (5:Nat) (num IntKind.i64 (0:Int)))] [] [])=(KS.mk true [(Prod.mk (0:Nat) (T.v false [(Cm.d (D.r RK.nets s.fst))])),(Prod.mk (1:Nat) (T.v false [(Cm.d (D.r RK.nets s.snd.fst))])),(Prod.mk (5:Nat) (num IntKind.i64 s.snd.snd))] [] []))∧((((List.length s.fst)=(List.length s.snd.fst))∧((s.snd.snd=(0:Int))∧(((List.length s.fst)≤(137438953472:Nat))∧(∀ y:(List NetS),(List.Mem y s.fst)→((List.length y)≤(137438953472:Nat))∧(∀ z:NetS,(List.Mem z y)→((List.length z.bytes)≤(137438953472:Nat)))))))∧((∀ r:Unit,(s.fst=s.snd.fst)→(true=true)∧(K [(aB true)] []))∧(∀ r:Unit,(s.fst ≠ s.snd.fst)→(true=true)∧(K [(aB false)] []))))) := by
  refine iteI (fun h => ?_) (fun h => ?_)
  · refine ⟨by trivial, hk false ?_⟩
    symm; rw [decide_eq_false_iff_not]; rintro rfl; simp at h
  · have h1 : a.length = b.length := by simp at h; omega
    refine ⟨(a, b, 0), rfl, ⟨h1, rfl, hp.1, hp.2⟩, fun _ hr => ⟨by trivial, hk true (by simp; exact hr)⟩, fun _ hr => ⟨by trivial, hk false (by simp; exact hr)⟩⟩
theorem vL_laws_eqNetMsgSS_0 (a0:List (List NetS)) (b0:List (List NetS)) (i0:Int) (a:List (List NetS)) (b:List (List NetS)) (i:Int) (n:Nat) (hp:(fun (a:List (List NetS)) (b:List (List NetS)) (i:Int) => (a.length=b.length∧i=0∧a.length≤LIM∧∀ y ∈ a,y.length≤137438953472∧∀ z ∈ y,z.bytes.length≤137438953472)) a0 b0 i0) (hi:a=a0∧b=b0∧a.length=b.length∧a.length≤LIM∧(∀ y ∈ a,y.length≤137438953472∧∀ z ∈ y,z.bytes.length≤137438953472)∧0≤i∧i + n=a.length∧a.take i.toNat=b.take i.toNat):if ((decide (i < (((List.length a):Nat):Int)))=true) then ((((0:Int)≤i)∧(i < (((List.length a):Nat):Int)))∧((((0:Int)≤i)∧(i < (((List.length b):Nat):Int)))∧((true=true)∧((((List.length (at_nets a (Int.toNat i)))≤(137438953472:Nat))∧(∀ y:NetS,(List.Mem y (at_nets a (Int.toNat i)))→((List.length y.bytes)≤(137438953472:Nat))))∧(∀ r:Bool,(r=(decide ((at_nets a (Int.toNat i))=(at_nets b (Int.toNat i)))))→(true=true)∧((true=true)∧(if ((!r)=true) then (∃ r1:Unit,((KS.mk true [(Prod.mk (4:Nat) (boo false))] [] [])=(KS.mk true [(Prod.mk (4:Nat) (boo false))] [] []))∧(a0 ≠ b0)) else (∃ s:(Prod (List (List NetS)) (Prod (List (List NetS)) Int)),((KS.mk true [(Prod.mk (0:Nat) (T.v false [(Cm.d (D.r RK.nets a))])),(Prod.mk (1:Nat) (T.v false [(Cm.d (D.r RK.nets b))])),(Prod.mk (5:Nat) (num IntKind.i64 (IntKind.wrap IntKind.i64 (i + (1:Int)))))] [] [])=(KS.mk true [(Prod.mk (0:Nat) (T.v false [(Cm.d (D.r RK.nets s.fst))])),(Prod.mk (1:Nat) (T.v false [(Cm.d (D.r RK.nets s.snd.fst))])),(Prod.mk (5:Nat) (num IntKind.i64 s.snd.snd))] [] []))∧(∃ m:Nat,(m < n)∧((s.fst=a0)∧((s.snd.fst=b0)∧(((List.length s.fst)=(List.length s.snd.fst))∧(((List.length s.fst)≤(137438953472:Nat))∧((∀ y:(List NetS),(List.Mem y s.fst)→((List.length y)≤(137438953472:Nat))∧(∀ z:NetS,(List.Mem z y)→((List.length z.bytes)≤(137438953472:Nat))))∧(((0:Int)≤s.snd.snd)∧(((s.snd.snd + ((m:Nat):Int))=(((List.length s.fst):Nat):Int))∧((List.take (Int.toNat s.snd.snd) s.fst)=(List.take (Int.toNat s.snd.snd) s.snd.fst)))))))))))))))))) else (∃ r:Unit,((KS.mk true [] [] [])=(KS.mk true [] [] []))∧(a0=b0)) := by
  try dsimp only at hp
  obtain ⟨rfl, rfl, h1, h2, hw, h3, h4, h5⟩ := hi
  have hL : a.length ≤ 137438953472 := h2
  obtain ⟨i, rfl⟩ : ∃ m : Nat, i = m := ⟨i.toNat, by omega⟩
  rw [wr (x := (i : Int) + 1) (by omega) (by omega)]
  simp only [Int.toNat_natCast] at h5 ⊢
  refine iteI (fun h => ?_) (fun h => ?_)
  · have hi : i < a.length := by simp at h; omega
    refine ⟨⟨by omega, by omega⟩, ⟨by omega, by omega⟩, by trivial, ?_⟩
    have ea : a.take (i + 1) = a.take i ++ [at_nets a i] := take_at .nets a i hi
    have eb : b.take (i + 1) = b.take i ++ [at_nets b i] := take_at .nets b i (show i < b.length by omega)
    refine ⟨hw _ (at_mem .nets a i hi), fun r hr => ?_⟩
    subst hr
    repeat refine ⟨by trivial, ?_⟩
    refine iteI (fun hx => ?_) (fun hx => ?_)
    · refine ⟨(), by trivial, fun he => ?_⟩
      simp [he] at hx
    · refine ⟨(a, b, (i : Int) + 1), rfl, n - 1, by omega, rfl, rfl, h1, h2, hw, by dsimp only; omega, by dsimp only; omega, ?_⟩
      dsimp only
      rw [show ((i : Int) + 1).toNat = i + 1 by omega, ea, eb, h5]
      simp at hx
      exact congrArg (fun z => List.take i b ++ [z]) hx
  · have hi : i = a.length := by simp at h; omega
    subst hi
    refine ⟨(), by trivial, ?_⟩
    rw [List.take_length, h1, List.take_length] at h5
    exact h5
theorem vS_laws_eqNetMsgSS_0 (a0 : List (List NetS)) (b0 : List (List NetS)) (i0 : Int) (hp : (fun (a : List (List NetS)) (b : List (List NetS)) (i : Int) => (a.length = b.length ∧ i = 0 ∧ a.length ≤ LIM ∧ ∀ y ∈ a, y.length ≤ 137438953472 ∧ ∀ z ∈ y, z.bytes.length ≤ 137438953472)) a0 b0 i0) : ∃ n : Nat, (fun (a : List (List NetS)) (b : List (List NetS)) (i : Int) => (a = a0 ∧ b = b0 ∧ a.length = b.length ∧ a.length ≤ LIM ∧ (∀ y ∈ a, y.length ≤ 137438953472 ∧ ∀ z ∈ y, z.bytes.length ≤ 137438953472) ∧ 0 ≤ i ∧ i + n = a.length ∧ a.take i.toNat = b.take i.toNat)) a0 b0 i0 := by
  try dsimp only at hp
  try dsimp only
  obtain ⟨h1, h2, h3, hw⟩ := hp
  exact ⟨a0.length, rfl, rfl, h1, h3, hw, by omega, by omega, by subst h2; simp⟩
theorem w_laws_eqNetMsgSS : Valid Try.prog 40 c_laws_eqNetMsgSS :=
  valid_ctr2 (V := V_laws_eqNetMsgSS) (tysB_ok tys_ok) ⟨(CallsL.cons w_laws_eqNetMsgS (CallsL.nil _)), (IosL.nil _)⟩ mixed 0 0 Try.func40 rfl (by kernel_rfl)
    (fun c hc => by
      obtain rfl := Option.some.inj hc
      exact ⟨trivial, ⟨⟨trivial, ⟨⟨trivial, trivial⟩, trivial⟩⟩, ⟨⟨trivial, ⟨LoopD.ok2 (V := V_laws_eqNetMsgSS) l_laws_eqNetMsgSS_0 (LoopsM.cons 0 l_laws_eqNetMsgSS_0 LoopsM.nil) 0 _ i_laws_eqNetMsgSS_0 (fun x hx => vS_laws_eqNetMsgSS_0 x.1 x.2.1 x.2.2 hx) (fun x hx n s hi => ⟨_, by kernel_rfl, vL_laws_eqNetMsgSS_0 x.1 x.2.1 x.2.2 s.1 s.2.1 s.2.2 n hx hi⟩), ⟨⟨trivial, ⟨trivial, trivial⟩⟩, ⟨⟨trivial, ⟨⟨trivial, trivial⟩, trivial⟩⟩, trivial⟩⟩⟩⟩, ⟨trivial, trivial⟩⟩⟩⟩)
    (fun x K hp hk => ⟨_, by kernel_rfl, vF_laws_eqNetMsgSS x.1 x.2 K hp (fun r h => hk r h)⟩)
theorem vF_laws_eqWldEnd (a:EndS) (b:EndS) (K:List Arg→List (List AC)→Prop) (hp:EndM 137438953472 a) (hk:∀ (r:Bool),(r=decide (a=b))→K ([rB.to r]) ([])):(true=true)∧(((((List.length a.tx.flight)≤(137438953472:Nat))∧(∀ y:Part,(List.Mem y a.tx.flight)→((List.length y.data)≤(137438953472:Nat))))∧(((List.length a.tx.queue)≤(137438953472:Nat))∧(∀ y:Part,(List.Mem y a.tx.queue)→((List.length y.data)≤(137438953472:Nat)))))∧(∀ r:Bool,(r=(decide (a.tx=b.tx)))→(true=true)∧(if ((!r)=true) then ((true=true)∧(K [(aB false)] [])) else ((true=true)∧(((List.length a.rx.join.got)≤(137438953472:Nat))∧(∀ r1:Bool,(r1=(decide (a.rx=b.rx)))→(true=true)∧(if ((!r1)=true) then ((true=true)∧(K [(aB false)] [])) else ((true=true)∧((((List.length a.ctx.queue)≤(137438953472:Nat))∧(∀ y:Part,(List.Mem y a.ctx.queue)→((List.length y.data)≤(137438953472:Nat))))∧(∀ r2:Bool,(r2=(decide (a.ctx=b.ctx)))→(true=true)∧(if ((!r2)=true) then ((true=true)∧(K [(aB false)] [])) else ((true=true)∧(((List.length a.crx.join.got)≤(137438953472:Nat))∧(∀ r3:Bool,(r3=(decide (a.crx=b.crx)))→(true=true)∧(if ((!r3)=true) then ((true=true)∧(K [(aB false)] [])) else ((true=true)∧((((List.length a.put)≤(137438953472:Nat))∧(∀ y:(List Int),(List.Mem y a.put)→((List.length y)≤(137438953472:Nat))))∧(∀ r4:Bool,(r4=(decide (a.put=b.put)))→(true=true)∧(if ((!r4)=true) then ((true=true)∧(K [(aB false)] [])) else ((true=true)∧((((List.length a.got)≤(137438953472:Nat))∧(∀ y:(List Int),(List.Mem y a.got)→((List.length y)≤(137438953472:Nat))))∧(∀ r5:Bool,(r5=(decide (a.got=b.got)))→(true=true)∧(if ((!r5)=true) then ((true=true)∧(K [(aB false)] [])) else ((true=true)∧(K [(aB true)] []))))))))))))))))))))))))) := by
  repeat' first
    | exact rfl
    | exact True.intro
    | with_reducible apply And.intro
    | (with_reducible intro y_ hy_; subst hy_)
    | with_reducible intro y_
    | refine ifLtB (fun h => ?_) (fun h => ?_)
    | refine iteI (fun h => ?_) (fun h => ?_)
    | exact hp.tf
    | exact hp.tfd _ ‹List.Mem _ _›
    | exact hp.tq
    | exact hp.tqd _ ‹List.Mem _ _›
    | exact hp.rg
    | exact hp.cq
    | exact hp.cqd _ ‹List.Mem _ _›
    | exact hp.cg
    | exact hp.pl
    | exact hp.pd _ ‹List.Mem _ _›
    | exact hp.gl
    | exact hp.gd _ ‹List.Mem _ _›
    | exact hk _ (decide_eq_false (fun e => by subst e; simp at h)).symm
    | exact hk _ (decide_eq_true (end_eq (by simpa using ‹¬ (!decide (_ = (⟨b.tx.next, _, _, _, _, _, _, _, _, _⟩ : TxS))) = true›) (by simpa using ‹¬ (!decide (_ = (⟨b.rx.expect, _, _, _, _, _⟩ : RxS))) = true›) (by simpa using ‹¬ (!decide (_ = (⟨b.ctx.have_, _, _, _, _⟩ : CtS))) = true›) (by simpa using ‹¬ (!decide (_ = (⟨b.crx.out, _, _⟩ : CrS))) = true›) (by simpa using ‹¬ (!decide (_ = b.put)) = true›) (by simpa using ‹¬ (!decide (_ = b.got)) = true›))).symm
    | with_reducible assumption
    | omega
theorem w_laws_eqWldEnd : Valid Try.prog 59 c_laws_eqWldEnd :=
  valid_ctr2 (V := V_laws_eqWldEnd) (tysB_ok tys_ok) ⟨(CallsL.cons w_laws_eqTxState (CallsL.cons w_laws_eqRxState (CallsL.cons w_laws_eqCrdTx (CallsL.cons w_laws_eqCrdRx (CallsL.cons w_laws_eqByteSS (CallsL.nil _)))))), (IosL.nil _)⟩ mixed 0 2 Try.func59 rfl (by kernel_rfl)
    (fun c hc => by
      obtain rfl := Option.some.inj hc
      exact ⟨trivial, ⟨⟨trivial, ⟨⟨trivial, trivial⟩, trivial⟩⟩, ⟨⟨trivial, ⟨⟨trivial, trivial⟩, trivial⟩⟩, ⟨⟨trivial, ⟨⟨trivial, trivial⟩, trivial⟩⟩, ⟨⟨trivial, ⟨⟨trivial, trivial⟩, trivial⟩⟩, ⟨⟨trivial, ⟨⟨trivial, trivial⟩, trivial⟩⟩, ⟨⟨trivial, ⟨⟨trivial, trivial⟩, trivial⟩⟩, ⟨trivial, trivial⟩⟩⟩⟩⟩⟩⟩⟩)
    (fun x K hp hk => ⟨_, by kernel_rfl, vF_laws_eqWldEnd x.1 x.2 K hp (fun r h => hk r h)⟩)
theorem vF_laws_eqWldEndS (a:List EndS) (b:List EndS) (K:List Arg→List (List AC)→Prop) (hp:a.length≤LIM∧∀ y ∈ a,EndM 137438953472 y) (hk:∀ (r:Bool),(r=decide (a=b))→K ([rB.to r]) ([])):if (((((List.length a):Nat):Int) != (((List.length b):Nat):Int))=true) then ((true=true)∧(K [(aB false)] [])) else (∃ s:(Prod (List EndS) (Prod (List EndS) Int)),((KS.mk true [(Prod.mk (0:Nat) (T.v false [(Cm.d (D.r RK.wend a))])),(Prod.mk (1:Nat) (T.v false [(Cm.d (D.r RK.wend b))])),(Prod.mk (5:Nat) (num IntKind.i64 (0:Int)))] [] [])=(KS.mk true [(Prod.mk (0:Nat) (T.v false [(Cm.d (D.r RK.wend s.fst))])),(Prod.mk (1:Nat) (T.v false [(Cm.d (D.r RK.wend s.snd.fst))])),(Prod.mk (5:Nat) (num IntKind.i64 s.snd.snd))] [] []))∧((((List.length s.fst)=(List.length s.snd.fst))∧((s.snd.snd=(0:Int))∧(((List.length s.fst)≤(137438953472:Nat))∧(∀ y:EndS,(List.Mem y s.fst)→(EndM (137438953472:Nat) y)))))∧((∀ r:Unit,(s.fst=s.snd.fst)→(true=true)∧(K [(aB true)] []))∧(∀ r:Unit,(s.fst ≠ s.snd.fst)→(true=true)∧(K [(aB false)] []))))) := by
  refine iteI (fun h => ?_) (fun h => ?_)
  · refine ⟨by trivial, hk false ?_⟩
    symm; rw [decide_eq_false_iff_not]; rintro rfl; simp at h
  · have h1 : a.length = b.length := by simp at h; omega
    refine ⟨(a, b, 0), rfl, ⟨h1, rfl, hp.1, hp.2⟩, fun _ hr => ⟨by trivial, hk true (by simp; exact hr)⟩, fun _ hr => ⟨by trivial, hk false (by simp; exact hr)⟩⟩
theorem vL_laws_eqWldEndS_0 (a0:List EndS) (b0:List EndS) (i0:Int) (a:List EndS) (b:List EndS) (i:Int) (n:Nat) (hp:(fun (a:List EndS) (b:List EndS) (i:Int) => (a.length=b.length∧i=0∧a.length≤LIM∧∀ y ∈ a,EndM 137438953472 y)) a0 b0 i0) (hi:a=a0∧b=b0∧a.length=b.length∧a.length≤LIM∧(∀ y ∈ a,EndM 137438953472 y)∧0≤i∧i + n=a.length∧a.take i.toNat=b.take i.toNat):if ((decide (i < (((List.length a):Nat):Int)))=true) then ((((0:Int)≤i)∧(i < (((List.length a):Nat):Int)))∧((((0:Int)≤i)∧(i < (((List.length b):Nat):Int)))∧((true=true)∧((EndM (137438953472:Nat) (at_wend a (Int.toNat i)))∧(∀ r:Bool,(r=(decide ((at_wend a (Int.toNat i))=(at_wend b (Int.toNat i)))))→(true=true)∧((true=true)∧(if ((!r)=true) then (∃ r1:Unit,((KS.mk true [(Prod.mk (4:Nat) (boo false))] [] [])=(KS.mk true [(Prod.mk (4:Nat) (boo false))] [] []))∧(a0 ≠ b0)) else (∃ s:(Prod (List EndS) (Prod (List EndS) Int)),((KS.mk true [(Prod.mk (0:Nat) (T.v false [(Cm.d (D.r RK.wend a))])),(Prod.mk (1:Nat) (T.v false [(Cm.d (D.r RK.wend b))])),(Prod.mk (5:Nat) (num IntKind.i64 (IntKind.wrap IntKind.i64 (i + (1:Int)))))] [] [])=(KS.mk true [(Prod.mk (0:Nat) (T.v false [(Cm.d (D.r RK.wend s.fst))])),(Prod.mk (1:Nat) (T.v false [(Cm.d (D.r RK.wend s.snd.fst))])),(Prod.mk (5:Nat) (num IntKind.i64 s.snd.snd))] [] []))∧(∃ m:Nat,(m < n)∧((s.fst=a0)∧((s.snd.fst=b0)∧(((List.length s.fst)=(List.length s.snd.fst))∧(((List.length s.fst)≤(137438953472:Nat))∧((∀ y:EndS,(List.Mem y s.fst)→(EndM (137438953472:Nat) y))∧(((0:Int)≤s.snd.snd)∧(((s.snd.snd + ((m:Nat):Int))=(((List.length s.fst):Nat):Int))∧((List.take (Int.toNat s.snd.snd) s.fst)=(List.take (Int.toNat s.snd.snd) s.snd.fst)))))))))))))))))) else (∃ r:Unit,((KS.mk true [] [] [])=(KS.mk true [] [] []))∧(a0=b0)) := by
  try dsimp only at hp
  obtain ⟨rfl, rfl, h1, h2, hw, h3, h4, h5⟩ := hi
  have hL : a.length ≤ 137438953472 := h2
  obtain ⟨i, rfl⟩ : ∃ m : Nat, i = m := ⟨i.toNat, by omega⟩
  rw [wr (x := (i : Int) + 1) (by omega) (by omega)]
  simp only [Int.toNat_natCast] at h5 ⊢
  refine iteI (fun h => ?_) (fun h => ?_)
  · have hi : i < a.length := by simp at h; omega
    refine ⟨⟨by omega, by omega⟩, ⟨by omega, by omega⟩, by trivial, ?_⟩
    have ea : a.take (i + 1) = a.take i ++ [at_wend a i] := take_at .wend a i hi
    have eb : b.take (i + 1) = b.take i ++ [at_wend b i] := take_at .wend b i (show i < b.length by omega)
    refine ⟨hw _ (at_mem .wend a i hi), fun r hr => ?_⟩
    subst hr
    repeat refine ⟨by trivial, ?_⟩
    refine iteI (fun hx => ?_) (fun hx => ?_)
    · refine ⟨(), by trivial, fun he => ?_⟩
      simp [he] at hx
    · refine ⟨(a, b, (i : Int) + 1), rfl, n - 1, by omega, rfl, rfl, h1, h2, hw, by dsimp only; omega, by dsimp only; omega, ?_⟩
      dsimp only
      rw [show ((i : Int) + 1).toNat = i + 1 by omega, ea, eb, h5]
      simp at hx
      exact congrArg (fun z => List.take i b ++ [z]) hx
  · have hi : i = a.length := by simp at h; omega
    subst hi
    refine ⟨(), by trivial, ?_⟩
    rw [List.take_length, h1, List.take_length] at h5
    exact h5
theorem vS_laws_eqWldEndS_0 (a0 : List EndS) (b0 : List EndS) (i0 : Int) (hp : (fun (a : List EndS) (b : List EndS) (i : Int) => (a.length = b.length ∧ i = 0 ∧ a.length ≤ LIM ∧ ∀ y ∈ a, EndM 137438953472 y)) a0 b0 i0) : ∃ n : Nat, (fun (a : List EndS) (b : List EndS) (i : Int) => (a = a0 ∧ b = b0 ∧ a.length = b.length ∧ a.length ≤ LIM ∧ (∀ y ∈ a, EndM 137438953472 y) ∧ 0 ≤ i ∧ i + n = a.length ∧ a.take i.toNat = b.take i.toNat)) a0 b0 i0 := by
  try dsimp only at hp
  try dsimp only
  obtain ⟨h1, h2, h3, hw⟩ := hp
  exact ⟨a0.length, rfl, rfl, h1, h3, hw, by omega, by omega, by subst h2; simp⟩
theorem w_laws_eqWldEndS : Valid Try.prog 39 c_laws_eqWldEndS :=
  valid_ctr2 (V := V_laws_eqWldEndS) (tysB_ok tys_ok) ⟨(CallsL.cons w_laws_eqWldEnd (CallsL.nil _)), (IosL.nil _)⟩ mixed 0 0 Try.func39 rfl (by kernel_rfl)
    (fun c hc => by
      obtain rfl := Option.some.inj hc
      exact ⟨trivial, ⟨⟨trivial, ⟨⟨trivial, trivial⟩, trivial⟩⟩, ⟨⟨trivial, ⟨LoopD.ok2 (V := V_laws_eqWldEndS) l_laws_eqWldEndS_0 (LoopsM.cons 0 l_laws_eqWldEndS_0 LoopsM.nil) 0 _ i_laws_eqWldEndS_0 (fun x hx => vS_laws_eqWldEndS_0 x.1 x.2.1 x.2.2 hx) (fun x hx n s hi => ⟨_, by kernel_rfl, vL_laws_eqWldEndS_0 x.1 x.2.1 x.2.2 s.1 s.2.1 s.2.2 n hx hi⟩), ⟨⟨trivial, ⟨trivial, trivial⟩⟩, ⟨⟨trivial, ⟨⟨trivial, trivial⟩, trivial⟩⟩, trivial⟩⟩⟩⟩, ⟨trivial, trivial⟩⟩⟩⟩)
    (fun x K hp hk => ⟨_, by kernel_rfl, vF_laws_eqWldEndS x.1 x.2 K hp (fun r h => hk r h)⟩)
theorem vF_laws_eqCfgOpts (a:Cfg) (b:Cfg) (K:List Arg→List (List AC)→Prop) (hp:True) (hk:∀ (r:Bool),(r=decide (a=b))→K ([rB.to r]) ([])):if ((a.mode != b.mode)=true) then ((true=true)∧(K [(aB false)] [])) else (if ((a.win != b.win)=true) then ((true=true)∧(K [(aB false)] [])) else (if ((a.mps != b.mps)=true) then ((true=true)∧(K [(aB false)] [])) else (if ((a.mtu != b.mtu)=true) then ((true=true)∧(K [(aB false)] [])) else (if ((a.try_ != b.try_)=true) then ((true=true)∧(K [(aB false)] [])) else ((true=true)∧(K [(aB true)] [])))))) := by
  obtain ⟨_, _, _, _, _⟩ := a
  obtain ⟨_, _, _, _, _⟩ := b

  repeat' first
    | exact rfl
    | exact True.intro
    | with_reducible apply And.intro
    | (with_reducible intro y_ hy_; subst hy_)
    | with_reducible intro y_
    | (refine iteI (fun h => ?_) (fun h => ?_))
  all_goals try simp only [Bool.not_eq_true', decide_eq_false_iff_not, decide_eq_true_eq, Bool.not_eq_true, bne_iff_ne, beq_iff_eq, ne_eq, Decidable.not_not, Bool.not_eq_false, gt_iff_lt, ge_iff_le, Int.not_le, Int.not_lt, beq_eq_false_iff_ne, bne_eq_false_iff_eq, Bool.and_eq_true, Bool.or_eq_true, Bool.true_eq_false, Bool.false_eq_true] at *
  all_goals try simp (disch := first | omega | grind []) only [wr] at *
  all_goals first
    | assumption
    | omega
    | exact hk _ (by grind [])
    | (simp only [LIM] at *; omega)
    | grind [LIM]
theorem w_laws_eqCfgOpts : Valid Try.prog 38 c_laws_eqCfgOpts :=
  valid_ctr2 (V := V_laws_eqCfgOpts) (tysB_ok tys_ok) ⟨(CallsL.nil _), (IosL.nil _)⟩ mixed 0 2 Try.func38 rfl (by kernel_rfl)
    (fun c hc => by
      obtain rfl := Option.some.inj hc
      exact ⟨trivial, ⟨⟨trivial, ⟨⟨trivial, trivial⟩, trivial⟩⟩, ⟨⟨trivial, ⟨⟨trivial, trivial⟩, trivial⟩⟩, ⟨⟨trivial, ⟨⟨trivial, trivial⟩, trivial⟩⟩, ⟨⟨trivial, ⟨⟨trivial, trivial⟩, trivial⟩⟩, ⟨⟨trivial, ⟨⟨trivial, trivial⟩, trivial⟩⟩, ⟨trivial, trivial⟩⟩⟩⟩⟩⟩⟩)
    (fun x K hp hk => ⟨_, by kernel_rfl, vF_laws_eqCfgOpts x.1 x.2 K hp (fun r h => hk r h)⟩)
theorem vF_laws_eqWldWorld (a:WldS) (b:WldS) (K:List Arg→List (List AC)→Prop) (hp:WldM 137438953472 a) (hk:∀ (r:Bool),(r=decide (a=b))→K ([rB.to r]) ([])):(true=true)∧(True∧(∀ r:Bool,(r=(decide (a.cfg=b.cfg)))→(true=true)∧(if ((!r)=true) then ((true=true)∧(K [(aB false)] [])) else ((true=true)∧((((List.length a.ends)≤(137438953472:Nat))∧(∀ y:EndS,(List.Mem y a.ends)→(EndM (137438953472:Nat) y)))∧(∀ r1:Bool,(r1=(decide (a.ends=b.ends)))→(true=true)∧(if ((!r1)=true) then ((true=true)∧(K [(aB false)] [])) else ((true=true)∧((((List.length a.net)≤(137438953472:Nat))∧(∀ y:(List NetS),(List.Mem y a.net)→((List.length y)≤(137438953472:Nat))∧(∀ z:NetS,(List.Mem z y)→((List.length z.bytes)≤(137438953472:Nat)))))∧(∀ r2:Bool,(r2=(decide (a.net=b.net)))→(true=true)∧(if ((!r2)=true) then ((true=true)∧(K [(aB false)] [])) else (if ((a.link != b.link)=true) then ((true=true)∧(K [(aB false)] [])) else ((true=true)∧(K [(aB true)] [])))))))))))))) := by
  repeat' first
    | exact rfl
    | exact True.intro
    | with_reducible apply And.intro
    | (with_reducible intro y_ hy_; subst hy_)
    | with_reducible intro y_
    | refine ifLtB (fun h => ?_) (fun h => ?_)
    | refine iteI (fun h => ?_) (fun h => ?_)
    | exact hp.el
    | exact hp.ed _ ‹List.Mem _ _›
    | exact hp.nl
    | exact (hp.nd _ ‹List.Mem _ _›).len
    | exact (hp.nd _ ‹List.Mem _ _›).dat _ (by assumption)
    | exact hk _ (decide_eq_false (fun e => by subst e; simp at h)).symm
    | exact hk _ (decide_eq_true (wld_eq (by simpa using ‹¬ (!decide (_ = (⟨b.cfg.mode, _, _, _, _⟩ : Cfg))) = true›) (by simpa using ‹¬ (!decide (_ = b.ends)) = true›) (by simpa using ‹¬ (!decide (_ = b.net)) = true›) (by simpa using ‹¬ (_ != b.link) = true›))).symm
    | with_reducible assumption
    | omega
theorem w_laws_eqWldWorld : Valid Try.prog 15 c_laws_eqWldWorld :=
  valid_ctr2 (V := V_laws_eqWldWorld) (tysB_ok tys_ok) ⟨(CallsL.cons w_laws_eqCfgOpts (CallsL.cons w_laws_eqWldEndS (CallsL.cons w_laws_eqNetMsgSS (CallsL.nil _)))), (IosL.nil _)⟩ mixed 0 2 Try.func15 rfl (by kernel_rfl)
    (fun c hc => by
      obtain rfl := Option.some.inj hc
      exact ⟨trivial, ⟨⟨trivial, ⟨⟨trivial, trivial⟩, trivial⟩⟩, ⟨⟨trivial, ⟨⟨trivial, trivial⟩, trivial⟩⟩, ⟨⟨trivial, ⟨⟨trivial, trivial⟩, trivial⟩⟩, ⟨⟨trivial, ⟨⟨trivial, trivial⟩, trivial⟩⟩, ⟨trivial, trivial⟩⟩⟩⟩⟩⟩)
    (fun x K hp hk => ⟨_, by kernel_rfl, vF_laws_eqWldWorld x.1 x.2 K hp (fun r h => hk r h)⟩)
end Go.Proofs.YtkencmgcibbfaaaE
