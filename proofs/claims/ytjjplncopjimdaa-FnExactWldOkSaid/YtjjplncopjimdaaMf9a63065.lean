/- A part of the proof of laws of the program: what calls of the program answer. Conditions: none. -/
import Derived.Test.YtjjplncopjimdaaM2dafa818
set_option linter.unusedVariables false
set_option linter.unusedSimpArgs false
set_option linter.unusedSectionVars false
/- Contracts: Y1. Conditions: none. -/
set_option linter.unusedVariables false
set_option maxHeartbeats 1600000
namespace Go.Proofs.YtjjplncopjimdaaE
open Go
/-- Bounds of what an end holds: as handed over; as counted. -/
structure EndM (m : Nat) (e : EndS) : Prop where
  tf : e.tx.flight.length ≤ m
  tfd : ∀ p ∈ e.tx.flight, p.data.length ≤ m
  tq : e.tx.queue.length ≤ m
  tqd : ∀ p ∈ e.tx.queue, p.data.length ≤ m
  rg : e.rx.join.got.length ≤ m
  cq : e.ctx.queue.length ≤ m
  cqd : ∀ p ∈ e.ctx.queue, p.data.length ≤ m
  cg : e.crx.join.got.length ≤ m
  pl : e.put.length ≤ m
  pd : ∀ y ∈ e.put, y.length ≤ m
  gl : e.got.length ≤ m
  gd : ∀ y ∈ e.got, y.length ≤ m
structure NetM (m : Nat) (l : List NetS) : Prop where
  len : l.length ≤ m
  dat : ∀ x ∈ l, x.bytes.length ≤ m
structure WldM (m : Nat) (w : WldS) : Prop where
  el : w.ends.length ≤ m
  ed : ∀ e ∈ w.ends, EndM m e
  nl : w.net.length ≤ m
  nd : ∀ l ∈ w.net, NetM m l
theorem EndM.le {m k : Nat} {e : EndS} (h : EndM m e) (hk : m ≤ k) : EndM k e := by
  obtain ⟨a1, a2, a3, a4, a5, a6, a7, a8, a9, b1, b2, b3⟩ := h
  exact ⟨by omega, fun p hp => Nat.le_trans (a2 p hp) hk, by omega, fun p hp => Nat.le_trans (a4 p hp) hk, by omega, by omega, fun p hp => Nat.le_trans (a7 p hp) hk, by omega, by omega, fun p hp => Nat.le_trans (b1 p hp) hk, by omega, fun p hp => Nat.le_trans (b3 p hp) hk⟩
theorem NetM.le {m k : Nat} {l : List NetS} (h : NetM m l) (hk : m ≤ k) : NetM k l := ⟨Nat.le_trans h.len hk, fun x hx => Nat.le_trans (h.dat x hx) hk⟩
theorem or_in {r l : Int} {P : Prop} (h : (0 ≤ r ∧ r ≤ l ∧ P) ∨ r = -1) (h2 : ¬ r < 0) : P := by
  rcases h with h | h
  · exact h.2.2
  · omega
theorem end_eq {a b : EndS} (h1 : a.tx = b.tx) (h2 : a.rx = b.rx) (h3 : a.ctx = b.ctx) (h4 : a.crx = b.crx) (h5 : a.put = b.put) (h6 : a.got = b.got) : a = b := by
  obtain ⟨_, _, _, _, _, _⟩ := a
  obtain ⟨_, _, _, _, _, _⟩ := b
  dsimp only at h1 h2 h3 h4 h5 h6
  subst h1 h2 h3 h4 h5 h6
  rfl
theorem wld_eq {a b : WldS} (h1 : a.cfg = b.cfg) (h2 : a.ends = b.ends) (h3 : a.net = b.net) (h4 : a.link = b.link) : a = b := by
  obtain ⟨_, _, _, _⟩ := a
  obtain ⟨_, _, _, _⟩ := b
  dsimp only at h1 h2 h3 h4
  subst h1 h2 h3 h4
  rfl
deriving instance DecidableEq for WldS
theorem ifEq {α : Type} [DecidableEq α] {a b : α} {P Q : Prop} (h : a = b) (q : Q) : if (!decide (a = b)) = true then P else Q := by
  rw [if_neg (by simp [h])]; exact q
theorem ifTr {i : Decidable True} {P Q : Prop} (q : Q) : if (!(@decide True i)) = true then P else Q := by
  rw [if_neg (by simp)]; exact q
theorem ifLt {a b : Int} {P Q : Prop} (h : b ≤ a) (q : Q) : if (decide (a < b)) = true then P else Q := by
  rw [if_neg (by simp; omega)]; exact q
theorem ifNe {a b : Int} {P Q : Prop} (h : a = b) (q : Q) : if (a != b) = true then P else Q := by
  rw [if_neg (by simp [h])]; exact q
theorem ifNeB {a b : Bool} {P Q : Prop} (h : a = b) (q : Q) : if (a != b) = true then P else Q := by
  rw [if_neg (by simp [h])]; exact q
theorem ifLtB {a b : Int} {P Q : Prop} (h : a < b → P) (q : ¬ a < b → Q) : if (decide (a < b)) = true then P else Q := by
  by_cases hx : a < b
  · rw [if_pos (by simp [hx])]; exact h hx
  · rw [if_neg (by simp [hx])]; exact q hx
theorem andI {a b c : Prop} (h : a → b → c) : a ∧ b → c := fun x => h x.1 x.2
theorem set_takeG {α : Type} {o : List α} {i : Nat} {x : α} (h : i < o.length) : (o.set i x).take (i + 1) = o.take i ++ [x] := by
  rw [List.take_add_one, List.take_set, List.getElem?_set_self h, List.set_eq_of_length_le (by rw [List.length_take]; omega)]
  rfl

/-! laws.toByteSS -/
def c_laws_toByteSS : Ent := ctr (α := (List (List Int))) (ρ := (List (List Int))) [] [] (rs1 (rR .byr)) (fun x_ => (fun (a : List (List Int)) => ((a.length ≤ 1048576 ∧ ∀ x ∈ a, x.length ≤ 1048576))) x_) (fun x_ r_ => (fun x_ => (fun (a : List (List Int)) => ((fun r_ => (fun (r : List (List Int)) => (r = a)) r_))) x_) x_ r_) (fun r_ => (fun (r : List (List Int)) => ([(rR .byr).to r])) r_) (fun r_ => (fun (r : List (List Int)) => ([])) r_)
def l_laws_toByteSS_0 : LoopD ((List (List Int)) × (List (List Int)) × (Int)) ((List (List Int))) ((Empty)) where
  n := 23
  head := ⟨[0, 3, 4], [], [0]⟩
  st := fun x_ => (fun (a : List (List Int)) (o : List (List Int)) (i : Int) => (⟨true, [(0, .v false [.d (.r .byr a)]), (3, .v false [.ref 0 0]), (4, num .i64 i)], [⟨0, some ⟨46, .byr, o, m0⟩⟩], []⟩)) x_.1 x_.2.1 x_.2.2
  pre := fun x_ => (fun (a : List (List Int)) (o : List (List Int)) (i : Int) => (o.length = a.length ∧ i = 0 ∧ (a.length ≤ 1048576 ∧ ∀ x ∈ a, x.length ≤ 1048576))) x_.1 x_.2.1 x_.2.2
  nk := ⟨[3], [], [0]⟩
  nst := fun r_ => (fun (r : List (List Int)) => (⟨true, [(3, .v false [.ref 0 0])], [⟨0, some ⟨46, .byr, r, m0⟩⟩], []⟩)) r_
  npost := fun x_ r_ => (fun x_ => (fun (a0 : List (List Int)) (o0 : List (List Int)) (i0 : Int) => ((fun r_ => (fun (r : List (List Int)) => (r = a0)) r_))) x_.1 x_.2.1 x_.2.2) x_ r_
  rk := ⟨[], [], []⟩
  rst := fun _ => ⟨true, [], [], []⟩
  rpost := fun _ _ => False
def i_laws_toByteSS_0 (x : (List (List Int)) × (List (List Int)) × (Int)) (n : Nat) (s : (List (List Int)) × (List (List Int)) × (Int)) : Prop := (fun x_ => (fun (a0 : List (List Int)) (o0 : List (List Int)) (i0 : Int) => ((fun s_ => (fun (a : List (List Int)) (o : List (List Int)) (i : Int) => (a = a0 ∧ (a.length ≤ 1048576 ∧ ∀ x ∈ a, x.length ≤ 1048576) ∧ 0 ≤ i ∧ i + n = a.length ∧ o.length = a.length ∧ o.take i.toNat = a.take i.toNat)) s_.1 s_.2.1 s_.2.2))) x_.1 x_.2.1 x_.2.2) x s
def V_laws_toByteSS : Env := ⟨tys, [(85, c_laws_toByteS)], [(7, [0])], [], [], [(0, l_laws_toByteSS_0.L)], [], [], []⟩
/-! laws.toNetMsg -/
def c_laws_toNetMsg : Ent := ctr (α := (NetS)) (ρ := (NetS)) [] [] (rs1 rNet) (fun x_ => (fun (m : NetS) => (m.bytes.length ≤ 1048576)) x_) (fun x_ r_ => (fun x_ => (fun (m : NetS) => ((fun r_ => (fun (r : NetS) => (r = m)) r_))) x_) x_ r_) (fun r_ => (fun (r : NetS) => ([rNet.to r])) r_) (fun r_ => (fun (r : NetS) => ([])) r_)
def V_laws_toNetMsg : Env := ⟨tys, [(85, c_laws_toByteS)], [], [(1, 0), (2, 1), (3, 2)], [], [], [], [], []⟩
/-! laws.toNetMsgS -/
def c_laws_toNetMsgS : Ent := ctr (α := (List NetS)) (ρ := (List NetS)) [] [] (rs1 (rR .netm)) (fun x_ => (fun (a : List NetS) => ((a.length ≤ 1048576 ∧ ∀ x ∈ a, x.bytes.length ≤ 1048576))) x_) (fun x_ r_ => (fun x_ => (fun (a : List NetS) => ((fun r_ => (fun (r : List NetS) => (r = a)) r_))) x_) x_ r_) (fun r_ => (fun (r : List NetS) => ([(rR .netm).to r])) r_) (fun r_ => (fun (r : List NetS) => ([])) r_)
def l_laws_toNetMsgS_0 : LoopD ((List NetS) × (List NetS) × (Int)) ((List NetS)) ((Empty)) where
  n := 23
  head := ⟨[0, 3, 4], [], [0]⟩
  st := fun x_ => (fun (a : List NetS) (o : List NetS) (i : Int) => (⟨true, [(0, .v false [.d (.r .netm a)]), (3, .v false [.ref 0 0]), (4, num .i64 i)], [⟨0, some ⟨60, .netm, o, m0⟩⟩], []⟩)) x_.1 x_.2.1 x_.2.2
  pre := fun x_ => (fun (a : List NetS) (o : List NetS) (i : Int) => (o.length = a.length ∧ i = 0 ∧ (a.length ≤ 1048576 ∧ ∀ x ∈ a, x.bytes.length ≤ 1048576))) x_.1 x_.2.1 x_.2.2
  nk := ⟨[3], [], [0]⟩
  nst := fun r_ => (fun (r : List NetS) => (⟨true, [(3, .v false [.ref 0 0])], [⟨0, some ⟨60, .netm, r, m0⟩⟩], []⟩)) r_
  npost := fun x_ r_ => (fun x_ => (fun (a0 : List NetS) (o0 : List NetS) (i0 : Int) => ((fun r_ => (fun (r : List NetS) => (r = a0)) r_))) x_.1 x_.2.1 x_.2.2) x_ r_
  rk := ⟨[], [], []⟩
  rst := fun _ => ⟨true, [], [], []⟩
  rpost := fun _ _ => False
def i_laws_toNetMsgS_0 (x : (List NetS) × (List NetS) × (Int)) (n : Nat) (s : (List NetS) × (List NetS) × (Int)) : Prop := (fun x_ => (fun (a0 : List NetS) (o0 : List NetS) (i0 : Int) => ((fun s_ => (fun (a : List NetS) (o : List NetS) (i : Int) => (a = a0 ∧ (a.length ≤ 1048576 ∧ ∀ x ∈ a, x.bytes.length ≤ 1048576) ∧ 0 ≤ i ∧ i + n = a.length ∧ o.length = a.length ∧ o.take i.toNat = a.take i.toNat)) s_.1 s_.2.1 s_.2.2))) x_.1 x_.2.1 x_.2.2) x s
def V_laws_toNetMsgS : Env := ⟨tys, [(68, c_laws_toNetMsg)], [(7, [0])], [], [], [(0, l_laws_toNetMsgS_0.L)], [], [], []⟩
/-! laws.toNetMsgSS -/
def c_laws_toNetMsgSS : Ent := ctr (α := (List (List NetS))) (ρ := (List (List NetS))) [] [] (rs1 (rR .nets)) (fun x_ => (fun (a : List (List NetS)) => ((a.length ≤ 1048576 ∧ ∀ x ∈ a, NetM 1048576 x))) x_) (fun x_ r_ => (fun x_ => (fun (a : List (List NetS)) => ((fun r_ => (fun (r : List (List NetS)) => (r = a)) r_))) x_) x_ r_) (fun r_ => (fun (r : List (List NetS)) => ([(rR .nets).to r])) r_) (fun r_ => (fun (r : List (List NetS)) => ([])) r_)
def l_laws_toNetMsgSS_0 : LoopD ((List (List NetS)) × (List (List NetS)) × (Int)) ((List (List NetS))) ((Empty)) where
  n := 23
  head := ⟨[0, 3, 4], [], [0]⟩
  st := fun x_ => (fun (a : List (List NetS)) (o : List (List NetS)) (i : Int) => (⟨true, [(0, .v false [.d (.r .nets a)]), (3, .v false [.ref 0 0]), (4, num .i64 i)], [⟨0, some ⟨58, .nets, o, m0⟩⟩], []⟩)) x_.1 x_.2.1 x_.2.2
  pre := fun x_ => (fun (a : List (List NetS)) (o : List (List NetS)) (i : Int) => (o.length = a.length ∧ i = 0 ∧ (a.length ≤ 1048576 ∧ ∀ x ∈ a, NetM 1048576 x))) x_.1 x_.2.1 x_.2.2
  nk := ⟨[3], [], [0]⟩
  nst := fun r_ => (fun (r : List (List NetS)) => (⟨true, [(3, .v false [.ref 0 0])], [⟨0, some ⟨58, .nets, r, m0⟩⟩], []⟩)) r_
  npost := fun x_ r_ => (fun x_ => (fun (a0 : List (List NetS)) (o0 : List (List NetS)) (i0 : Int) => ((fun r_ => (fun (r : List (List NetS)) => (r = a0)) r_))) x_.1 x_.2.1 x_.2.2) x_ r_
  rk := ⟨[], [], []⟩
  rst := fun _ => ⟨true, [], [], []⟩
  rpost := fun _ _ => False
def i_laws_toNetMsgSS_0 (x : (List (List NetS)) × (List (List NetS)) × (Int)) (n : Nat) (s : (List (List NetS)) × (List (List NetS)) × (Int)) : Prop := (fun x_ => (fun (a0 : List (List NetS)) (o0 : List (List NetS)) (i0 : Int) => ((fun s_ => (fun (a : List (List NetS)) (o : List (List NetS)) (i : Int) => (a = a0 ∧ (a.length ≤ 1048576 ∧ ∀ x ∈ a, NetM 1048576 x) ∧ 0 ≤ i ∧ i + n = a.length ∧ o.length = a.length ∧ o.take i.toNat = a.take i.toNat)) s_.1 s_.2.1 s_.2.2))) x_.1 x_.2.1 x_.2.2) x s
def V_laws_toNetMsgSS : Env := ⟨tys, [(41, c_laws_toNetMsgS)], [(7, [0])], [], [], [(0, l_laws_toNetMsgSS_0.L)], [], [], []⟩
/-! laws.toWldEnd -/
def c_laws_toWldEnd : Ent := ctr (α := (EndS)) (ρ := (EndS)) [] [] (rs1 rEnd) (fun x_ => (fun (e : EndS) => (EndM 1048576 e)) x_) (fun x_ r_ => (fun x_ => (fun (e : EndS) => ((fun r_ => (fun (r : EndS) => (r = e)) r_))) x_) x_ r_) (fun r_ => (fun (r : EndS) => ([rEnd.to r])) r_) (fun r_ => (fun (r : EndS) => ([])) r_)
def V_laws_toWldEnd : Env := ⟨tys, [(63, c_laws_toTxState), (64, c_laws_toRxState), (65, c_laws_toCrdTx), (66, c_laws_toCrdRx), (67, c_laws_toByteSS)], [], [(1, 0), (2, 1), (3, 2)], [], [], [], [], []⟩
/-! laws.toWldEndS -/
def c_laws_toWldEndS : Ent := ctr (α := (List EndS)) (ρ := (List EndS)) [] [] (rs1 (rR .wend)) (fun x_ => (fun (a : List EndS) => ((a.length ≤ 1048576 ∧ ∀ x ∈ a, EndM 1048576 x))) x_) (fun x_ r_ => (fun x_ => (fun (a : List EndS) => ((fun r_ => (fun (r : List EndS) => (r = a)) r_))) x_) x_ r_) (fun r_ => (fun (r : List EndS) => ([(rR .wend).to r])) r_) (fun r_ => (fun (r : List EndS) => ([])) r_)
def l_laws_toWldEndS_0 : LoopD ((List EndS) × (List EndS) × (Int)) ((List EndS)) ((Empty)) where
  n := 23
  head := ⟨[0, 3, 4], [], [0]⟩
  st := fun x_ => (fun (a : List EndS) (o : List EndS) (i : Int) => (⟨true, [(0, .v false [.d (.r .wend a)]), (3, .v false [.ref 0 0]), (4, num .i64 i)], [⟨0, some ⟨57, .wend, o, m0⟩⟩], []⟩)) x_.1 x_.2.1 x_.2.2
  pre := fun x_ => (fun (a : List EndS) (o : List EndS) (i : Int) => (o.length = a.length ∧ i = 0 ∧ (a.length ≤ 1048576 ∧ ∀ x ∈ a, EndM 1048576 x))) x_.1 x_.2.1 x_.2.2
  nk := ⟨[3], [], [0]⟩
  nst := fun r_ => (fun (r : List EndS) => (⟨true, [(3, .v false [.ref 0 0])], [⟨0, some ⟨57, .wend, r, m0⟩⟩], []⟩)) r_
  npost := fun x_ r_ => (fun x_ => (fun (a0 : List EndS) (o0 : List EndS) (i0 : Int) => ((fun r_ => (fun (r : List EndS) => (r = a0)) r_))) x_.1 x_.2.1 x_.2.2) x_ r_
  rk := ⟨[], [], []⟩
  rst := fun _ => ⟨true, [], [], []⟩
  rpost := fun _ _ => False
def i_laws_toWldEndS_0 (x : (List EndS) × (List EndS) × (Int)) (n : Nat) (s : (List EndS) × (List EndS) × (Int)) : Prop := (fun x_ => (fun (a0 : List EndS) (o0 : List EndS) (i0 : Int) => ((fun s_ => (fun (a : List EndS) (o : List EndS) (i : Int) => (a = a0 ∧ (a.length ≤ 1048576 ∧ ∀ x ∈ a, EndM 1048576 x) ∧ 0 ≤ i ∧ i + n = a.length ∧ o.length = a.length ∧ o.take i.toNat = a.take i.toNat)) s_.1 s_.2.1 s_.2.2))) x_.1 x_.2.1 x_.2.2) x s
def V_laws_toWldEndS : Env := ⟨tys, [(40, c_laws_toWldEnd)], [(7, [0])], [], [], [(0, l_laws_toWldEndS_0.L)], [], [], []⟩
/-! laws.toWldWorld -/
def c_laws_toWldWorld : Ent := ctr (α := (WldS)) (ρ := (WldS)) [] [] (rs1 rWld) (fun x_ => (fun (w : WldS) => (WldM 1048576 w)) x_) (fun x_ r_ => (fun x_ => (fun (w : WldS) => ((fun r_ => (fun (r : WldS) => (r = w)) r_))) x_) x_ r_) (fun r_ => (fun (r : WldS) => ([rWld.to r])) r_) (fun r_ => (fun (r : WldS) => ([])) r_)
def V_laws_toWldWorld : Env := ⟨tys, [(17, c_laws_toCfgOpts), (18, c_laws_toWldEndS), (19, c_laws_toNetMsgSS)], [], [(1, 0), (2, 1), (3, 2)], [], [], [], [], []⟩
/-! laws.eqNetMsg -/
def c_laws_eqNetMsg : Ent := ctr (α := (NetS) × (NetS)) (ρ := (Bool)) [] [] (rs rNet (rs1 rNet)) (fun x_ => (fun (a : NetS) (b : NetS) => (a.bytes.length ≤ 137438953472)) x_.1 x_.2) (fun x_ r_ => (fun x_ => (fun (a : NetS) (b : NetS) => ((fun r_ => (fun (r : Bool) => (r = decide (a = b))) r_))) x_.1 x_.2) x_ r_) (fun r_ => (fun (r : Bool) => ([rB.to r])) r_) (fun r_ => (fun (r : Bool) => ([])) r_)
def V_laws_eqNetMsg : Env := ⟨tys, [(90, c_laws_eqByteS)], [], [(2, 0), (3, 1)], [], [], [], [], []⟩
/-! laws.eqByteSS -/
def c_laws_eqByteSS : Ent := ctr (α := (List (List Int)) × (List (List Int))) (ρ := (Bool)) [] [] (rs (rR .byr) (rs1 (rR .byr))) (fun x_ => (fun (a : List (List Int)) (b : List (List Int)) => (a.length ≤ LIM ∧ ∀ y ∈ a, y.length ≤ LIM)) x_.1 x_.2) (fun x_ r_ => (fun x_ => (fun (a : List (List Int)) (b : List (List Int)) => ((fun r_ => (fun (r : Bool) => (r = decide (a = b))) r_))) x_.1 x_.2) x_ r_) (fun r_ => (fun (r : Bool) => ([rB.to r])) r_) (fun r_ => (fun (r : Bool) => ([])) r_)
def l_laws_eqByteSS_0 : LoopD ((List (List Int)) × (List (List Int)) × (Int)) ((Unit)) ((Unit)) where
  n := 27
  head := ⟨[0, 1, 5], [], []⟩
  st := fun x_ => (fun (a : List (List Int)) (b : List (List Int)) (i : Int) => (⟨true, [(0, .v false [.d (.r .byr a)]), (1, .v false [.d (.r .byr b)]), (5, num .i64 i)], [], []⟩)) x_.1 x_.2.1 x_.2.2
  pre := fun x_ => (fun (a : List (List Int)) (b : List (List Int)) (i : Int) => (a.length = b.length ∧ i = 0 ∧ a.length ≤ LIM ∧ ∀ y ∈ a, y.length ≤ LIM)) x_.1 x_.2.1 x_.2.2
  nk := ⟨[], [], []⟩
  nst := fun r_ => (fun (u : Unit) => (⟨true, [], [], []⟩)) r_
  npost := fun x_ r_ => (fun x_ => (fun (a0 : List (List Int)) (b0 : List (List Int)) (i0 : Int) => ((fun r_ => (fun (u : Unit) => (a0 = b0)) r_))) x_.1 x_.2.1 x_.2.2) x_ r_
  rk := ⟨[4], [], []⟩
  rst := fun r_ => (fun (u : Unit) => (⟨true, [(4, boo false)], [], []⟩)) r_
  rpost := fun x_ r_ => (fun x_ => (fun (a0 : List (List Int)) (b0 : List (List Int)) (i0 : Int) => ((fun r_ => (fun (u : Unit) => (a0 ≠ b0)) r_))) x_.1 x_.2.1 x_.2.2) x_ r_
def i_laws_eqByteSS_0 (x : (List (List Int)) × (List (List Int)) × (Int)) (n : Nat) (s : (List (List Int)) × (List (List Int)) × (Int)) : Prop := (fun x_ => (fun (a0 : List (List Int)) (b0 : List (List Int)) (i0 : Int) => ((fun s_ => (fun (a : List (List Int)) (b : List (List Int)) (i : Int) => (a = a0 ∧ b = b0 ∧ a.length = b.length ∧ a.length ≤ LIM ∧ (∀ y ∈ a, y.length ≤ LIM) ∧ 0 ≤ i ∧ i + n = a.length ∧ a.take i.toNat = b.take i.toNat)) s_.1 s_.2.1 s_.2.2))) x_.1 x_.2.1 x_.2.2) x s
def V_laws_eqByteSS : Env := ⟨tys, [(90, c_laws_eqByteS)], [], [], [], [(0, l_laws_eqByteSS_0.L)], [], [], [(6, [(0, false), (1, false), (2, false), (3, false), (4, false), (5, false), (6, false), (7, false), (8, true), (9, false)])]⟩
/-! laws.eqNetMsgS -/
def c_laws_eqNetMsgS : Ent := ctr (α := (List NetS) × (List NetS)) (ρ := (Bool)) [] [] (rs (rR .netm) (rs1 (rR .netm))) (fun x_ => (fun (a : List NetS) (b : List NetS) => (a.length ≤ LIM ∧ ∀ y ∈ a, y.bytes.length ≤ 137438953472)) x_.1 x_.2) (fun x_ r_ => (fun x_ => (fun (a : List NetS) (b : List NetS) => ((fun r_ => (fun (r : Bool) => (r = decide (a = b))) r_))) x_.1 x_.2) x_ r_) (fun r_ => (fun (r : Bool) => ([rB.to r])) r_) (fun r_ => (fun (r : Bool) => ([])) r_)
def l_laws_eqNetMsgS_0 : LoopD ((List NetS) × (List NetS) × (Int)) ((Unit)) ((Unit)) where
  n := 27
  head := ⟨[0, 1, 5], [], []⟩
  st := fun x_ => (fun (a : List NetS) (b : List NetS) (i : Int) => (⟨true, [(0, .v false [.d (.r .netm a)]), (1, .v false [.d (.r .netm b)]), (5, num .i64 i)], [], []⟩)) x_.1 x_.2.1 x_.2.2
  pre := fun x_ => (fun (a : List NetS) (b : List NetS) (i : Int) => (a.length = b.length ∧ i = 0 ∧ a.length ≤ LIM ∧ ∀ y ∈ a, y.bytes.length ≤ 137438953472)) x_.1 x_.2.1 x_.2.2
  nk := ⟨[], [], []⟩
  nst := fun r_ => (fun (u : Unit) => (⟨true, [], [], []⟩)) r_
  npost := fun x_ r_ => (fun x_ => (fun (a0 : List NetS) (b0 : List NetS) (i0 : Int) => ((fun r_ => (fun (u : Unit) => (a0 = b0)) r_))) x_.1 x_.2.1 x_.2.2) x_ r_
  rk := ⟨[4], [], []⟩
  rst := fun r_ => (fun (u : Unit) => (⟨true, [(4, boo false)], [], []⟩)) r_
  rpost := fun x_ r_ => (fun x_ => (fun (a0 : List NetS) (b0 : List NetS) (i0 : Int) => ((fun r_ => (fun (u : Unit) => (a0 ≠ b0)) r_))) x_.1 x_.2.1 x_.2.2) x_ r_
def i_laws_eqNetMsgS_0 (x : (List NetS) × (List NetS) × (Int)) (n : Nat) (s : (List NetS) × (List NetS) × (Int)) : Prop := (fun x_ => (fun (a0 : List NetS) (b0 : List NetS) (i0 : Int) => ((fun s_ => (fun (a : List NetS) (b : List NetS) (i : Int) => (a = a0 ∧ b = b0 ∧ a.length = b.length ∧ a.length ≤ LIM ∧ (∀ y ∈ a, y.bytes.length ≤ 137438953472) ∧ 0 ≤ i ∧ i + n = a.length ∧ a.take i.toNat = b.take i.toNat)) s_.1 s_.2.1 s_.2.2))) x_.1 x_.2.1 x_.2.2) x s
def V_laws_eqNetMsgS : Env := ⟨tys, [(78, c_laws_eqNetMsg)], [], [], [], [(0, l_laws_eqNetMsgS_0.L)], [], [], [(6, [(0, false), (1, false), (2, false), (3, false), (4, false), (5, false), (6, false), (7, false), (8, true), (9, false)])]⟩
/-! laws.eqNetMsgSS -/
def c_laws_eqNetMsgSS : Ent := ctr (α := (List (List NetS)) × (List (List NetS))) (ρ := (Bool)) [] [] (rs (rR .nets) (rs1 (rR .nets))) (fun x_ => (fun (a : List (List NetS)) (b : List (List NetS)) => (a.length ≤ LIM ∧ ∀ y ∈ a, y.length ≤ 137438953472 ∧ ∀ z ∈ y, z.bytes.length ≤ 137438953472)) x_.1 x_.2) (fun x_ r_ => (fun x_ => (fun (a : List (List NetS)) (b : List (List NetS)) => ((fun r_ => (fun (r : Bool) => (r = decide (a = b))) r_))) x_.1 x_.2) x_ r_) (fun r_ => (fun (r : Bool) => ([rB.to r])) r_) (fun r_ => (fun (r : Bool) => ([])) r_)
def l_laws_eqNetMsgSS_0 : LoopD ((List (List NetS)) × (List (List NetS)) × (Int)) ((Unit)) ((Unit)) where
  n := 27
  head := ⟨[0, 1, 5], [], []⟩
  st := fun x_ => (fun (a : List (List NetS)) (b : List (List NetS)) (i : Int) => (⟨true, [(0, .v false [.d (.r .nets a)]), (1, .v false [.d (.r .nets b)]), (5, num .i64 i)], [], []⟩)) x_.1 x_.2.1 x_.2.2
  pre := fun x_ => (fun (a : List (List NetS)) (b : List (List NetS)) (i : Int) => (a.length = b.length ∧ i = 0 ∧ a.length ≤ LIM ∧ ∀ y ∈ a, y.length ≤ 137438953472 ∧ ∀ z ∈ y, z.bytes.length ≤ 137438953472)) x_.1 x_.2.1 x_.2.2
  nk := ⟨[], [], []⟩
  nst := fun r_ => (fun (u : Unit) => (⟨true, [], [], []⟩)) r_
  npost := fun x_ r_ => (fun x_ => (fun (a0 : List (List NetS)) (b0 : List (List NetS)) (i0 : Int) => ((fun r_ => (fun (u : Unit) => (a0 = b0)) r_))) x_.1 x_.2.1 x_.2.2) x_ r_
  rk := ⟨[4], [], []⟩
  rst := fun r_ => (fun (u : Unit) => (⟨true, [(4, boo false)], [], []⟩)) r_
  rpost := fun x_ r_ => (fun x_ => (fun (a0 : List (List NetS)) (b0 : List (List NetS)) (i0 : Int) => ((fun r_ => (fun (u : Unit) => (a0 ≠ b0)) r_))) x_.1 x_.2.1 x_.2.2) x_ r_
def i_laws_eqNetMsgSS_0 (x : (List (List NetS)) × (List (List NetS)) × (Int)) (n : Nat) (s : (List (List NetS)) × (List (List NetS)) × (Int)) : Prop := (fun x_ => (fun (a0 : List (List NetS)) (b0 : List (List NetS)) (i0 : Int) => ((fun s_ => (fun (a : List (List NetS)) (b : List (List NetS)) (i : Int) => (a = a0 ∧ b = b0 ∧ a.length = b.length ∧ a.length ≤ LIM ∧ (∀ y ∈ a, y.length ≤ 137438953472 ∧ ∀ z ∈ y, z.bytes.length ≤ 137438953472) ∧ 0 ≤ i ∧ i + n = a.length ∧ a.take i.toNat = b.take i.toNat)) s_.1 s_.2.1 s_.2.2))) x_.1 x_.2.1 x_.2.2) x s
def V_laws_eqNetMsgSS : Env := ⟨tys, [(51, c_laws_eqNetMsgS)], [], [], [], [(0, l_laws_eqNetMsgSS_0.L)], [], [], [(6, [(0, false), (1, false), (2, false), (3, false), (4, false), (5, false), (6, false), (7, false), (8, true), (9, false)])]⟩
/-! laws.eqWldEnd -/
def c_laws_eqWldEnd : Ent := ctr (α := (EndS) × (EndS)) (ρ := (Bool)) [] [] (rs rEnd (rs1 rEnd)) (fun x_ => (fun (a : EndS) (b : EndS) => (EndM 137438953472 a)) x_.1 x_.2) (fun x_ r_ => (fun x_ => (fun (a : EndS) (b : EndS) => ((fun r_ => (fun (r : Bool) => (r = decide (a = b))) r_))) x_.1 x_.2) x_ r_) (fun r_ => (fun (r : Bool) => ([rB.to r])) r_) (fun r_ => (fun (r : Bool) => ([])) r_)
def V_laws_eqWldEnd : Env := ⟨tys, [(73, c_laws_eqTxState), (74, c_laws_eqRxState), (75, c_laws_eqCrdTx), (76, c_laws_eqCrdRx), (77, c_laws_eqByteSS)], [], [(2, 0), (3, 1)], [], [], [], [], []⟩
/-! laws.eqWldEndS -/
def c_laws_eqWldEndS : Ent := ctr (α := (List EndS) × (List EndS)) (ρ := (Bool)) [] [] (rs (rR .wend) (rs1 (rR .wend))) (fun x_ => (fun (a : List EndS) (b : List EndS) => (a.length ≤ LIM ∧ ∀ y ∈ a, EndM 137438953472 y)) x_.1 x_.2) (fun x_ r_ => (fun x_ => (fun (a : List EndS) (b : List EndS) => ((fun r_ => (fun (r : Bool) => (r = decide (a = b))) r_))) x_.1 x_.2) x_ r_) (fun r_ => (fun (r : Bool) => ([rB.to r])) r_) (fun r_ => (fun (r : Bool) => ([])) r_)
def l_laws_eqWldEndS_0 : LoopD ((List EndS) × (List EndS) × (Int)) ((Unit)) ((Unit)) where
  n := 27
  head := ⟨[0, 1, 5], [], []⟩
  st := fun x_ => (fun (a : List EndS) (b : List EndS) (i : Int) => (⟨true, [(0, .v false [.d (.r .wend a)]), (1, .v false [.d (.r .wend b)]), (5, num .i64 i)], [], []⟩)) x_.1 x_.2.1 x_.2.2
  pre := fun x_ => (fun (a : List EndS) (b : List EndS) (i : Int) => (a.length = b.length ∧ i = 0 ∧ a.length ≤ LIM ∧ ∀ y ∈ a, EndM 137438953472 y)) x_.1 x_.2.1 x_.2.2
  nk := ⟨[], [], []⟩
  nst := fun r_ => (fun (u : Unit) => (⟨true, [], [], []⟩)) r_
  npost := fun x_ r_ => (fun x_ => (fun (a0 : List EndS) (b0 : List EndS) (i0 : Int) => ((fun r_ => (fun (u : Unit) => (a0 = b0)) r_))) x_.1 x_.2.1 x_.2.2) x_ r_
  rk := ⟨[4], [], []⟩
  rst := fun r_ => (fun (u : Unit) => (⟨true, [(4, boo false)], [], []⟩)) r_
  rpost := fun x_ r_ => (fun x_ => (fun (a0 : List EndS) (b0 : List EndS) (i0 : Int) => ((fun r_ => (fun (u : Unit) => (a0 ≠ b0)) r_))) x_.1 x_.2.1 x_.2.2) x_ r_
def i_laws_eqWldEndS_0 (x : (List EndS) × (List EndS) × (Int)) (n : Nat) (s : (List EndS) × (List EndS) × (Int)) : Prop := (fun x_ => (fun (a0 : List EndS) (b0 : List EndS) (i0 : Int) => ((fun s_ => (fun (a : List EndS) (b : List EndS) (i : Int) => (a = a0 ∧ b = b0 ∧ a.length = b.length ∧ a.length ≤ LIM ∧ (∀ y ∈ a, EndM 137438953472 y) ∧ 0 ≤ i ∧ i + n = a.length ∧ a.take i.toNat = b.take i.toNat)) s_.1 s_.2.1 s_.2.2))) x_.1 x_.2.1 x_.2.2) x s
def V_laws_eqWldEndS : Env := ⟨tys, [(50, c_laws_eqWldEnd)], [], [], [], [(0, l_laws_eqWldEndS_0.L)], [], [], [(6, [(0, false), (1, false), (2, false), (3, false), (4, false), (5, false), (6, false), (7, false), (8, true), (9, false)])]⟩
/-! laws.eqCfgOpts -/
def c_laws_eqCfgOpts : Ent := ctr (α := (Cfg) × (Cfg)) (ρ := (Bool)) [] [] (rs rCfg (rs1 rCfg)) (fun x_ => (fun (a : Cfg) (b : Cfg) => (True)) x_.1 x_.2) (fun x_ r_ => (fun x_ => (fun (a : Cfg) (b : Cfg) => ((fun r_ => (fun (r : Bool) => (r = decide (a = b))) r_))) x_.1 x_.2) x_ r_) (fun r_ => (fun (r : Bool) => ([rB.to r])) r_) (fun r_ => (fun (r : Bool) => ([])) r_)
def V_laws_eqCfgOpts : Env := ⟨tys, [], [], [(2, 0), (3, 1)], [], [], [], [], []⟩
/-! laws.eqWldWorld -/
def c_laws_eqWldWorld : Ent := ctr (α := (WldS) × (WldS)) (ρ := (Bool)) [] [] (rs rWld (rs1 rWld)) (fun x_ => (fun (a : WldS) (b : WldS) => (WldM 137438953472 a)) x_.1 x_.2) (fun x_ r_ => (fun x_ => (fun (a : WldS) (b : WldS) => ((fun r_ => (fun (r : Bool) => (r = decide (a = b))) r_))) x_.1 x_.2) x_ r_) (fun r_ => (fun (r : Bool) => ([rB.to r])) r_) (fun r_ => (fun (r : Bool) => ([])) r_)
def V_laws_eqWldWorld : Env := ⟨tys, [(29, c_laws_eqCfgOpts), (30, c_laws_eqWldEndS), (31, c_laws_eqNetMsgSS)], [], [(2, 0), (3, 1)], [], [], [], [], []⟩
/-! laws.szByteSS -/
def c_laws_szByteSS : Ent := ctr (α := (List (List Int)) × (Int)) (ρ := (Int)) [] [] (rs (rR .byr) (rs1 rInt)) (fun x_ => (fun (a : List (List Int)) (l : Int) => ((a.length ≤ 9223372036854775807 ∧ ∀ x ∈ a, x.length ≤ 9223372036854775807) ∧ 0 ≤ l ∧ l ≤ 1048576)) x_.1 x_.2) (fun x_ r_ => (fun x_ => (fun (a : List (List Int)) (l : Int) => ((fun r_ => (fun (r : Int) => ((0 ≤ r ∧ r ≤ l ∧ a.length ≤ 1048576 ∧ ∀ x ∈ a, x.length ≤ 1048576) ∨ r = -1)) r_))) x_.1 x_.2) x_ r_) (fun r_ => (fun (r : Int) => ([rInt.to r])) r_) (fun r_ => (fun (r : Int) => ([])) r_)
def l_laws_szByteSS_0 : LoopD ((List (List Int)) × (Int) × (Int)) ((Int)) ((Unit)) where
  n := 27
  head := ⟨[0, 1, 5], [], []⟩
  st := fun x_ => (fun (a : List (List Int)) (l : Int) (i : Int) => (⟨true, [(0, .v false [.d (.r .byr a)]), (1, num .i64 l), (5, num .i64 i)], [], []⟩)) x_.1 x_.2.1 x_.2.2
  pre := fun x_ => (fun (a : List (List Int)) (l : Int) (i : Int) => (i = 0 ∧ (∀ x ∈ a, x.length ≤ 9223372036854775807) ∧ a.length ≤ 1048576 ∧ 0 ≤ l ∧ l ≤ 1048576)) x_.1 x_.2.1 x_.2.2
  nk := ⟨[1], [], []⟩
  nst := fun r_ => (fun (r : Int) => (⟨true, [(1, num .i64 r)], [], []⟩)) r_
  npost := fun x_ r_ => (fun x_ => (fun (a0 : List (List Int)) (l0 : Int) (i0 : Int) => ((fun r_ => (fun (r : Int) => (0 ≤ r ∧ r ≤ l0 ∧ ∀ x ∈ a0, x.length ≤ 1048576)) r_))) x_.1 x_.2.1 x_.2.2) x_ r_
  rk := ⟨[4], [], []⟩
  rst := fun r_ => (fun (u : Unit) => (⟨true, [(4, num .i64 (-1))], [], []⟩)) r_
  rpost := fun x_ r_ => (fun x_ => (fun (a0 : List (List Int)) (l0 : Int) (i0 : Int) => ((fun r_ => (fun (u : Unit) => (True)) r_))) x_.1 x_.2.1 x_.2.2) x_ r_
def i_laws_szByteSS_0 (x : (List (List Int)) × (Int) × (Int)) (n : Nat) (s : (List (List Int)) × (Int) × (Int)) : Prop := (fun x_ => (fun (a0 : List (List Int)) (l0 : Int) (i0 : Int) => ((fun s_ => (fun (a : List (List Int)) (l : Int) (i : Int) => (a = a0 ∧ 0 ≤ l ∧ l ≤ l0 ∧ (∀ x ∈ a.take i.toNat, x.length ≤ 1048576) ∧ 0 ≤ i ∧ i + n = a.length)) s_.1 s_.2.1 s_.2.2))) x_.1 x_.2.1 x_.2.2) x s
def V_laws_szByteSS : Env := ⟨tys, [(81, c_laws_szByteS)], [], [], [], [(0, l_laws_szByteSS_0.L)], [], [], []⟩
/-! laws.szNetMsg -/
def c_laws_szNetMsg : Ent := ctr (α := (NetS) × (Int)) (ρ := (Int)) [] [] (rs rNet (rs1 rInt)) (fun x_ => (fun (m : NetS) (l : Int) => (m.bytes.length ≤ 9223372036854775807 ∧ 0 ≤ l ∧ l ≤ 1048576)) x_.1 x_.2) (fun x_ r_ => (fun x_ => (fun (m : NetS) (l : Int) => ((fun r_ => (fun (r : Int) => ((0 ≤ r ∧ r ≤ l ∧ m.bytes.length ≤ 1048576) ∨ r = -1)) r_))) x_.1 x_.2) x_ r_) (fun r_ => (fun (r : Int) => ([rInt.to r])) r_) (fun r_ => (fun (r : Int) => ([])) r_)
def V_laws_szNetMsg : Env := ⟨tys, [(81, c_laws_szByteS)], [], [(2, 0)], [], [], [], [], []⟩
/-! laws.szNetMsgS -/
def c_laws_szNetMsgS : Ent := ctr (α := (List NetS) × (Int)) (ρ := (Int)) [] [] (rs (rR .netm) (rs1 rInt)) (fun x_ => (fun (a : List NetS) (l : Int) => ((a.length ≤ 9223372036854775807 ∧ ∀ x ∈ a, x.bytes.length ≤ 9223372036854775807) ∧ 0 ≤ l ∧ l ≤ 1048576)) x_.1 x_.2) (fun x_ r_ => (fun x_ => (fun (a : List NetS) (l : Int) => ((fun r_ => (fun (r : Int) => ((0 ≤ r ∧ r ≤ l ∧ a.length ≤ 1048576 ∧ ∀ x ∈ a, x.bytes.length ≤ 1048576) ∨ r = -1)) r_))) x_.1 x_.2) x_ r_) (fun r_ => (fun (r : Int) => ([rInt.to r])) r_) (fun r_ => (fun (r : Int) => ([])) r_)
def l_laws_szNetMsgS_0 : LoopD ((List NetS) × (Int) × (Int)) ((Int)) ((Unit)) where
  n := 27
  head := ⟨[0, 1, 5], [], []⟩
  st := fun x_ => (fun (a : List NetS) (l : Int) (i : Int) => (⟨true, [(0, .v false [.d (.r .netm a)]), (1, num .i64 l), (5, num .i64 i)], [], []⟩)) x_.1 x_.2.1 x_.2.2
  pre := fun x_ => (fun (a : List NetS) (l : Int) (i : Int) => (i = 0 ∧ (∀ x ∈ a, x.bytes.length ≤ 9223372036854775807) ∧ a.length ≤ 1048576 ∧ 0 ≤ l ∧ l ≤ 1048576)) x_.1 x_.2.1 x_.2.2
  nk := ⟨[1], [], []⟩
  nst := fun r_ => (fun (r : Int) => (⟨true, [(1, num .i64 r)], [], []⟩)) r_
  npost := fun x_ r_ => (fun x_ => (fun (a0 : List NetS) (l0 : Int) (i0 : Int) => ((fun r_ => (fun (r : Int) => (0 ≤ r ∧ r ≤ l0 ∧ ∀ x ∈ a0, x.bytes.length ≤ 1048576)) r_))) x_.1 x_.2.1 x_.2.2) x_ r_
  rk := ⟨[4], [], []⟩
  rst := fun r_ => (fun (u : Unit) => (⟨true, [(4, num .i64 (-1))], [], []⟩)) r_
  rpost := fun x_ r_ => (fun x_ => (fun (a0 : List NetS) (l0 : Int) (i0 : Int) => ((fun r_ => (fun (u : Unit) => (True)) r_))) x_.1 x_.2.1 x_.2.2) x_ r_
def i_laws_szNetMsgS_0 (x : (List NetS) × (Int) × (Int)) (n : Nat) (s : (List NetS) × (Int) × (Int)) : Prop := (fun x_ => (fun (a0 : List NetS) (l0 : Int) (i0 : Int) => ((fun s_ => (fun (a : List NetS) (l : Int) (i : Int) => (a = a0 ∧ 0 ≤ l ∧ l ≤ l0 ∧ (∀ x ∈ a.take i.toNat, x.bytes.length ≤ 1048576) ∧ 0 ≤ i ∧ i + n = a.length)) s_.1 s_.2.1 s_.2.2))) x_.1 x_.2.1 x_.2.2) x s
def V_laws_szNetMsgS : Env := ⟨tys, [(58, c_laws_szNetMsg)], [], [], [], [(0, l_laws_szNetMsgS_0.L)], [], [], []⟩
/-! laws.szNetMsgSS -/
def c_laws_szNetMsgSS : Ent := ctr (α := (List (List NetS)) × (Int)) (ρ := (Int)) [] [] (rs (rR .nets) (rs1 rInt)) (fun x_ => (fun (a : List (List NetS)) (l : Int) => ((a.length ≤ 9223372036854775807 ∧ ∀ x ∈ a, NetM 9223372036854775807 x) ∧ 0 ≤ l ∧ l ≤ 1048576)) x_.1 x_.2) (fun x_ r_ => (fun x_ => (fun (a : List (List NetS)) (l : Int) => ((fun r_ => (fun (r : Int) => ((0 ≤ r ∧ r ≤ l ∧ a.length ≤ 1048576 ∧ ∀ x ∈ a, NetM 1048576 x) ∨ r = -1)) r_))) x_.1 x_.2) x_ r_) (fun r_ => (fun (r : Int) => ([rInt.to r])) r_) (fun r_ => (fun (r : Int) => ([])) r_)
def l_laws_szNetMsgSS_0 : LoopD ((List (List NetS)) × (Int) × (Int)) ((Int)) ((Unit)) where
  n := 27
  head := ⟨[0, 1, 5], [], []⟩
  st := fun x_ => (fun (a : List (List NetS)) (l : Int) (i : Int) => (⟨true, [(0, .v false [.d (.r .nets a)]), (1, num .i64 l), (5, num .i64 i)], [], []⟩)) x_.1 x_.2.1 x_.2.2
  pre := fun x_ => (fun (a : List (List NetS)) (l : Int) (i : Int) => (i = 0 ∧ (∀ x ∈ a, NetM 9223372036854775807 x) ∧ a.length ≤ 1048576 ∧ 0 ≤ l ∧ l ≤ 1048576)) x_.1 x_.2.1 x_.2.2
  nk := ⟨[1], [], []⟩
  nst := fun r_ => (fun (r : Int) => (⟨true, [(1, num .i64 r)], [], []⟩)) r_
  npost := fun x_ r_ => (fun x_ => (fun (a0 : List (List NetS)) (l0 : Int) (i0 : Int) => ((fun r_ => (fun (r : Int) => (0 ≤ r ∧ r ≤ l0 ∧ ∀ x ∈ a0, NetM 1048576 x)) r_))) x_.1 x_.2.1 x_.2.2) x_ r_
  rk := ⟨[4], [], []⟩
  rst := fun r_ => (fun (u : Unit) => (⟨true, [(4, num .i64 (-1))], [], []⟩)) r_
  rpost := fun x_ r_ => (fun x_ => (fun (a0 : List (List NetS)) (l0 : Int) (i0 : Int) => ((fun r_ => (fun (u : Unit) => (True)) r_))) x_.1 x_.2.1 x_.2.2) x_ r_
def i_laws_szNetMsgSS_0 (x : (List (List NetS)) × (Int) × (Int)) (n : Nat) (s : (List (List NetS)) × (Int) × (Int)) : Prop := (fun x_ => (fun (a0 : List (List NetS)) (l0 : Int) (i0 : Int) => ((fun s_ => (fun (a : List (List NetS)) (l : Int) (i : Int) => (a = a0 ∧ 0 ≤ l ∧ l ≤ l0 ∧ (∀ x ∈ a.take i.toNat, NetM 1048576 x) ∧ 0 ≤ i ∧ i + n = a.length)) s_.1 s_.2.1 s_.2.2))) x_.1 x_.2.1 x_.2.2) x s
def V_laws_szNetMsgSS : Env := ⟨tys, [(35, c_laws_szNetMsgS)], [], [], [], [(0, l_laws_szNetMsgSS_0.L)], [], [], []⟩
/-! laws.szWldEnd -/
def c_laws_szWldEnd : Ent := ctr (α := (EndS) × (Int)) (ρ := (Int)) [] [] (rs rEnd (rs1 rInt)) (fun x_ => (fun (e : EndS) (l : Int) => (EndM 9223372036854775807 e ∧ 0 ≤ l ∧ l ≤ 1048576)) x_.1 x_.2) (fun x_ r_ => (fun x_ => (fun (e : EndS) (l : Int) => ((fun r_ => (fun (r : Int) => ((0 ≤ r ∧ r ≤ l ∧ EndM 1048576 e) ∨ r = -1)) r_))) x_.1 x_.2) x_ r_) (fun r_ => (fun (r : Int) => ([rInt.to r])) r_) (fun r_ => (fun (r : Int) => ([])) r_)
def V_laws_szWldEnd : Env := ⟨tys, [(53, c_laws_szTxState), (54, c_laws_szRxState), (55, c_laws_szCrdTx), (56, c_laws_szCrdRx), (57, c_laws_szByteSS)], [], [(2, 0)], [], [], [], [], []⟩
/-! laws.szWldEndS -/
def c_laws_szWldEndS : Ent := ctr (α := (List EndS) × (Int)) (ρ := (Int)) [] [] (rs (rR .wend) (rs1 rInt)) (fun x_ => (fun (a : List EndS) (l : Int) => ((a.length ≤ 9223372036854775807 ∧ ∀ x ∈ a, EndM 9223372036854775807 x) ∧ 0 ≤ l ∧ l ≤ 1048576)) x_.1 x_.2) (fun x_ r_ => (fun x_ => (fun (a : List EndS) (l : Int) => ((fun r_ => (fun (r : Int) => ((0 ≤ r ∧ r ≤ l ∧ a.length ≤ 1048576 ∧ ∀ x ∈ a, EndM 1048576 x) ∨ r = -1)) r_))) x_.1 x_.2) x_ r_) (fun r_ => (fun (r : Int) => ([rInt.to r])) r_) (fun r_ => (fun (r : Int) => ([])) r_)
def l_laws_szWldEndS_0 : LoopD ((List EndS) × (Int) × (Int)) ((Int)) ((Unit)) where
  n := 27
  head := ⟨[0, 1, 5], [], []⟩
  st := fun x_ => (fun (a : List EndS) (l : Int) (i : Int) => (⟨true, [(0, .v false [.d (.r .wend a)]), (1, num .i64 l), (5, num .i64 i)], [], []⟩)) x_.1 x_.2.1 x_.2.2
  pre := fun x_ => (fun (a : List EndS) (l : Int) (i : Int) => (i = 0 ∧ (∀ x ∈ a, EndM 9223372036854775807 x) ∧ a.length ≤ 1048576 ∧ 0 ≤ l ∧ l ≤ 1048576)) x_.1 x_.2.1 x_.2.2
  nk := ⟨[1], [], []⟩
  nst := fun r_ => (fun (r : Int) => (⟨true, [(1, num .i64 r)], [], []⟩)) r_
  npost := fun x_ r_ => (fun x_ => (fun (a0 : List EndS) (l0 : Int) (i0 : Int) => ((fun r_ => (fun (r : Int) => (0 ≤ r ∧ r ≤ l0 ∧ ∀ x ∈ a0, EndM 1048576 x)) r_))) x_.1 x_.2.1 x_.2.2) x_ r_
  rk := ⟨[4], [], []⟩
  rst := fun r_ => (fun (u : Unit) => (⟨true, [(4, num .i64 (-1))], [], []⟩)) r_
  rpost := fun x_ r_ => (fun x_ => (fun (a0 : List EndS) (l0 : Int) (i0 : Int) => ((fun r_ => (fun (u : Unit) => (True)) r_))) x_.1 x_.2.1 x_.2.2) x_ r_
def i_laws_szWldEndS_0 (x : (List EndS) × (Int) × (Int)) (n : Nat) (s : (List EndS) × (Int) × (Int)) : Prop := (fun x_ => (fun (a0 : List EndS) (l0 : Int) (i0 : Int) => ((fun s_ => (fun (a : List EndS) (l : Int) (i : Int) => (a = a0 ∧ 0 ≤ l ∧ l ≤ l0 ∧ (∀ x ∈ a.take i.toNat, EndM 1048576 x) ∧ 0 ≤ i ∧ i + n = a.length)) s_.1 s_.2.1 s_.2.2))) x_.1 x_.2.1 x_.2.2) x s
def V_laws_szWldEndS : Env := ⟨tys, [(34, c_laws_szWldEnd)], [], [], [], [(0, l_laws_szWldEndS_0.L)], [], [], []⟩
/-! laws.szWldWorld -/
def c_laws_szWldWorld : Ent := ctr (α := (WldS) × (Int)) (ρ := (Int)) [] [] (rs rWld (rs1 rInt)) (fun x_ => (fun (w : WldS) (l : Int) => (WldM 9223372036854775807 w ∧ 0 ≤ l ∧ l ≤ 1048576)) x_.1 x_.2) (fun x_ r_ => (fun x_ => (fun (w : WldS) (l : Int) => ((fun r_ => (fun (r : Int) => ((0 ≤ r ∧ r ≤ l ∧ WldM 1048576 w) ∨ r = -1)) r_))) x_.1 x_.2) x_ r_) (fun r_ => (fun (r : Int) => ([rInt.to r])) r_) (fun r_ => (fun (r : Int) => ([])) r_)
def V_laws_szWldWorld : Env := ⟨tys, [(12, c_laws_szWldEndS), (13, c_laws_szNetMsgSS)], [], [(2, 0)], [], [], [], [], []⟩
end Go.Proofs.YtjjplncopjimdaaE

/- Calls answer what is promised: Y1. Conditions: none. -/
set_option linter.unusedVariables false
set_option maxHeartbeats 1600000
namespace Go.Proofs.YtjjplncopjimdaaE
open Go
theorem vF_laws_toByteSS (a:List (List Int)) (K:List Arg→List (List AC)→Prop) (hp:(a.length≤1048576∧∀ x ∈ a,x.length≤1048576)) (hk:∀ (r:List (List Int)),(r=a)→K ([(rR .byr).to r]) ([])):(((0:Int)≤(((List.length a):Nat):Int))∧(((((List.length a):Nat):Int)=(((List.length a):Nat):Int))∧((Int.toNat (((List.length a):Nat):Int))≤(137438953472:Nat))))∧(∃ s:(Prod (List (List Int)) (Prod (List (List Int)) Int)),((KS.mk true [(Prod.mk (0:Nat) (T.v false [(Cm.d (D.r RK.byr a))])),(Prod.mk (3:Nat) (T.v false [(Cm.ref (0:Nat) (0:Nat))])),(Prod.mk (4:Nat) (num IntKind.i64 (0:Int)))] [(Row.mk (0:Nat) (Option.some (RC.mk (46:Nat) RK.byr (List.replicate (Int.toNat (((List.length a):Nat):Int)) (RK.z RK.byr)) (RM.mk (Option.none) false (0:Nat) false))))] [])=(KS.mk true [(Prod.mk (0:Nat) (T.v false [(Cm.d (D.r RK.byr s.fst))])),(Prod.mk (3:Nat) (T.v false [(Cm.ref (0:Nat) (0:Nat))])),(Prod.mk (4:Nat) (num IntKind.i64 s.snd.snd))] [(Row.mk (0:Nat) (Option.some (RC.mk (46:Nat) RK.byr s.snd.fst (RM.mk (Option.none) false (0:Nat) false))))] []))∧((((List.length s.snd.fst)=(List.length s.fst))∧((s.snd.snd=(0:Int))∧(((List.length s.fst)≤(1048576:Nat))∧(∀ x:(List Int),(List.Mem x s.fst)→((List.length x)≤(1048576:Nat))))))∧((∀ r:(List (List Int)),(r=s.fst)→(true=true)∧(K [(aR RK.byr r)] []))∧(∀ r:Empty,False→False)))) := by
  obtain ⟨h1, h2⟩ := hp
  repeat' first
    | exact rfl
    | exact True.intro
    | with_reducible apply And.intro
    | omega
  all_goals first
    | (refine ⟨(a, List.replicate (↑a.length : Int).toNat ([] : List Int), 0), rfl, ⟨?_, rfl, h1, h2⟩, fun r hr => ⟨rfl, ?_⟩, fun r h => h.elim⟩
       · show (List.replicate _ ([] : List Int)).length = a.length
         rw [List.length_replicate, Int.toNat_natCast]
       · have hr' : r = a := hr
         subst hr'
         exact hk _ rfl)
theorem vL_laws_toByteSS_0 (a0:List (List Int)) (o0:List (List Int)) (i0:Int) (a:List (List Int)) (o:List (List Int)) (i:Int) (n:Nat) (hp:(fun (a:List (List Int)) (o:List (List Int)) (i:Int) => (o.length=a.length∧i=0∧(a.length≤1048576∧∀ x ∈ a,x.length≤1048576))) a0 o0 i0) (hi:a=a0∧(a.length≤1048576∧∀ x ∈ a,x.length≤1048576)∧0≤i∧i + n=a.length∧o.length=a.length∧o.take i.toNat=a.take i.toNat):if ((decide (i < (((List.length a):Nat):Int)))=true) then ((((0:Int)≤i)∧(i < (((List.length a):Nat):Int)))∧((true=true)∧(((List.length (at_byr a (Int.toNat i)))≤(137438953472:Nat))∧(∀ r:(List Int),(r=(at_byr a (Int.toNat i)))→(true=true)∧((((0:Int)≤i)∧(i < (((List.length o):Nat):Int)))∧(∃ s:(Prod (List (List Int)) (Prod (List (List Int)) Int)),((KS.mk true [(Prod.mk (0:Nat) (T.v false [(Cm.d (D.r RK.byr a))])),(Prod.mk (3:Nat) (T.v false [(Cm.ref (0:Nat) (0:Nat))])),(Prod.mk (4:Nat) (num IntKind.i64 (IntKind.wrap IntKind.i64 (i + (1:Int)))))] [(Row.mk (0:Nat) (Option.some (RC.mk (46:Nat) RK.byr (List.set o (Int.toNat i) r) (RM.mk (Option.none) false (0:Nat) false))))] [])=(KS.mk true [(Prod.mk (0:Nat) (T.v false [(Cm.d (D.r RK.byr s.fst))])),(Prod.mk (3:Nat) (T.v false [(Cm.ref (0:Nat) (0:Nat))])),(Prod.mk (4:Nat) (num IntKind.i64 s.snd.snd))] [(Row.mk (0:Nat) (Option.some (RC.mk (46:Nat) RK.byr s.snd.fst (RM.mk (Option.none) false (0:Nat) false))))] []))∧(∃ m:Nat,(m < n)∧((s.fst=a0)∧((((List.length s.fst)≤(1048576:Nat))∧(∀ x:(List Int),(List.Mem x s.fst)→((List.length x)≤(1048576:Nat))))∧(((0:Int)≤s.snd.snd)∧(((s.snd.snd + ((m:Nat):Int))=(((List.length s.fst):Nat):Int))∧(((List.length s.snd.fst)=(List.length s.fst))∧((List.take (Int.toNat s.snd.snd) s.snd.fst)=(List.take (Int.toNat s.snd.snd) s.fst)))))))))))))) else (∃ r:(List (List Int)),((KS.mk true [(Prod.mk (3:Nat) (T.v false [(Cm.ref (0:Nat) (0:Nat))]))] [(Row.mk (0:Nat) (Option.some (RC.mk (46:Nat) RK.byr o (RM.mk (Option.none) false (0:Nat) false))))] [])=(KS.mk true [(Prod.mk (3:Nat) (T.v false [(Cm.ref (0:Nat) (0:Nat))]))] [(Row.mk (0:Nat) (Option.some (RC.mk (46:Nat) RK.byr r (RM.mk (Option.none) false (0:Nat) false))))] []))∧(r=a0)) := by
  try dsimp only at hp
  obtain ⟨rfl, ⟨h1, h6⟩, h2, h4, h5, h7⟩ := hi
  obtain ⟨q, rfl⟩ : ∃ z : Nat, i = z := ⟨i.toNat, by omega⟩
  simp only [Int.toNat_natCast] at h7 ⊢
  rw [wr (x := (q : Int) + 1) (by omega) (by omega)]
  cases n with
  | zero =>
    rw [if_neg (by simp; omega)]
    have hi : q = a.length := by omega
    subst hi
    rw [List.take_length, ← h5, List.take_length] at h7
    exact ⟨o, rfl, h7⟩
  | succ n =>
    have hq : q < a.length := by omega
    rw [if_pos (by simp; omega)]
    have hd := h6 _ (at_mem .byr a q hq)
    have hd' : (at_byr a q).length ≤ 1048576 := hd
    have hx := show (o.set q (at_byr a q)).length = a.length by rw [List.length_set]; exact h5
    have ea : a.take (q + 1) = a.take q ++ [at_byr a q] := take_at .byr a q hq
    have hy : (o.set q (at_byr a q)).take (q + 1) = a.take (q + 1) := by rw [set_takeG (by omega), ea, h7]
    repeat' first
      | exact rfl
      | exact True.intro
      | with_reducible apply And.intro
      | (with_reducible intro r hr; subst r)
      | with_reducible intro y_
      | exact hd'
      | omega
    all_goals first
      | exact ⟨(a, o.set q (at_byr a q), (q : Int) + 1), rfl, n, by omega, rfl, ⟨h1, h6⟩, by dsimp only; omega, by dsimp only; omega, hx, (show (o.set q (at_byr a q)).take ((q : Int) + 1).toNat = a.take ((q : Int) + 1).toNat by rw [show ((q : Int) + 1).toNat = q + 1 by omega]; exact hy)⟩
theorem vS_laws_toByteSS_0 (a0 : List (List Int)) (o0 : List (List Int)) (i0 : Int) (hp : (fun (a : List (List Int)) (o : List (List Int)) (i : Int) => (o.length = a.length ∧ i = 0 ∧ (a.length ≤ 1048576 ∧ ∀ x ∈ a, x.length ≤ 1048576))) a0 o0 i0) : ∃ n : Nat, (fun (a : List (List Int)) (o : List (List Int)) (i : Int) => (a = a0 ∧ (a.length ≤ 1048576 ∧ ∀ x ∈ a, x.length ≤ 1048576) ∧ 0 ≤ i ∧ i + n = a.length ∧ o.length = a.length ∧ o.take i.toNat = a.take i.toNat)) a0 o0 i0 := by
  try dsimp only at hp
  try dsimp only
  obtain ⟨h1, rfl, h3, h4⟩ := hp
  exact ⟨a0.length, rfl, ⟨h3, h4⟩, by omega, by omega, h1, rfl⟩
theorem w_laws_toByteSS : Valid Try.prog 67 c_laws_toByteSS :=
  valid_ctr2 (V := V_laws_toByteSS) (tysB_ok tys_ok) ⟨(CallsL.cons w_laws_toByteS (CallsL.nil _)), (IosL.nil _)⟩ mixed 1 0 Try.func67 rfl (by kernel_rfl)
    (fun c hc => by
      obtain rfl := Option.some.inj hc
      exact ⟨trivial, ⟨trivial, ⟨⟨trivial, ⟨LoopD.ok2 (V := V_laws_toByteSS) l_laws_toByteSS_0 (LoopsM.cons 0 l_laws_toByteSS_0 LoopsM.nil) 0 _ i_laws_toByteSS_0 (fun x hx => vS_laws_toByteSS_0 x.1 x.2.1 x.2.2 hx) (fun x hx n s hi => ⟨_, by kernel_rfl, vL_laws_toByteSS_0 x.1 x.2.1 x.2.2 s.1 s.2.1 s.2.2 n hx hi⟩), ⟨⟨trivial, ⟨trivial, trivial⟩⟩, ⟨trivial, trivial⟩⟩⟩⟩, ⟨trivial, trivial⟩⟩⟩⟩)
    (fun x K hp hk => ⟨_, by kernel_rfl, vF_laws_toByteSS x K hp (fun r h => hk r h)⟩)
theorem vF_laws_toNetMsg (m:NetS) (K:List Arg→List (List AC)→Prop) (hp:m.bytes.length≤1048576) (hk:∀ (r:NetS),(r=m)→K ([rNet.to r]) ([])):(true=true)∧(((List.length m.bytes)≤(137438953472:Nat))∧(∀ r:(List Int),(r=m.bytes)→(true=true)∧((true=true)∧(K [(Arg.v true [(AC.d (D.b m.bent)),(AC.d (D.r RK.u8 r))])] [])))) := by
  repeat' first
    | exact rfl
    | exact True.intro
    | with_reducible apply And.intro
    | (with_reducible intro y_ hy_; subst hy_)
    | with_reducible intro y_
    | (refine iteI (fun h => ?_) (fun h => ?_))
  all_goals try simp only [Bool.not_eq_true', decide_eq_false_iff_not, decide_eq_true_eq, Bool.not_eq_true, bne_iff_ne, beq_iff_eq, ne_eq, Decidable.not_not, Bool.not_eq_false, gt_iff_lt, ge_iff_le, Int.not_le, Int.not_lt, beq_eq_false_iff_ne, bne_eq_false_iff_eq, Bool.and_eq_true, Bool.or_eq_true, Bool.true_eq_false, Bool.false_eq_true] at *
  all_goals try simp (disch := first | omega | grind []) only [wr] at *
  all_goals first
    | assumption
    | omega
    | exact hk _ rfl
    | exact hk _ (by grind [])
    | (simp only [LIM] at *; omega)
    | grind [LIM]
theorem w_laws_toNetMsg : Valid Try.prog 68 c_laws_toNetMsg :=
  valid_ctr2 (V := V_laws_toNetMsg) (tysB_ok tys_ok) ⟨(CallsL.cons w_laws_toByteS (CallsL.nil _)), (IosL.nil _)⟩ mixed 0 3 Try.func68 rfl (by kernel_rfl)
    (fun c hc => by
      obtain rfl := Option.some.inj hc
      exact ⟨trivial, ⟨trivial, ⟨trivial, ⟨trivial, ⟨trivial, trivial⟩⟩⟩⟩⟩)
    (fun x K hp hk => ⟨_, by kernel_rfl, vF_laws_toNetMsg x K hp (fun r h => hk r h)⟩)
theorem vF_laws_toNetMsgS (a:List NetS) (K:List Arg→List (List AC)→Prop) (hp:(a.length≤1048576∧∀ x ∈ a,x.bytes.length≤1048576)) (hk:∀ (r:List NetS),(r=a)→K ([(rR .netm).to r]) ([])):(((0:Int)≤(((List.length a):Nat):Int))∧(((((List.length a):Nat):Int)=(((List.length a):Nat):Int))∧((Int.toNat (((List.length a):Nat):Int))≤(137438953472:Nat))))∧(∃ s:(Prod (List NetS) (Prod (List NetS) Int)),((KS.mk true [(Prod.mk (0:Nat) (T.v false [(Cm.d (D.r RK.netm a))])),(Prod.mk (3:Nat) (T.v false [(Cm.ref (0:Nat) (0:Nat))])),(Prod.mk (4:Nat) (num IntKind.i64 (0:Int)))] [(Row.mk (0:Nat) (Option.some (RC.mk (60:Nat) RK.netm (List.replicate (Int.toNat (((List.length a):Nat):Int)) (RK.z RK.netm)) (RM.mk (Option.none) false (0:Nat) false))))] [])=(KS.mk true [(Prod.mk (0:Nat) (T.v false [(Cm.d (D.r RK.netm s.fst))])),(Prod.mk (3:Nat) (T.v false [(Cm.ref (0:Nat) (0:Nat))])),(Prod.mk (4:Nat) (num IntKind.i64 s.snd.snd))] [(Row.mk (0:Nat) (Option.some (RC.mk (60:Nat) RK.netm s.snd.fst (RM.mk (Option.none) false (0:Nat) false))))] []))∧((((List.length s.snd.fst)=(List.length s.fst))∧((s.snd.snd=(0:Int))∧(((List.length s.fst)≤(1048576:Nat))∧(∀ x:NetS,(List.Mem x s.fst)→((List.length x.bytes)≤(1048576:Nat))))))∧((∀ r:(List NetS),(r=s.fst)→(true=true)∧(K [(aR RK.netm r)] []))∧(∀ r:Empty,False→False)))) := by
  obtain ⟨h1, h2⟩ := hp
  repeat' first
    | exact rfl
    | exact True.intro
    | with_reducible apply And.intro
    | omega
  all_goals first
    | (refine ⟨(a, List.replicate (↑a.length : Int).toNat (⟨false, []⟩ : NetS), 0), rfl, ⟨?_, rfl, h1, h2⟩, fun r hr => ⟨rfl, ?_⟩, fun r h => h.elim⟩
       · show (List.replicate _ (⟨false, []⟩ : NetS)).length = a.length
         rw [List.length_replicate, Int.toNat_natCast]
       · have hr' : r = a := hr
         subst hr'
         exact hk _ rfl)
theorem vL_laws_toNetMsgS_0 (a0:List NetS) (o0:List NetS) (i0:Int) (a:List NetS) (o:List NetS) (i:Int) (n:Nat) (hp:(fun (a:List NetS) (o:List NetS) (i:Int) => (o.length=a.length∧i=0∧(a.length≤1048576∧∀ x ∈ a,x.bytes.length≤1048576))) a0 o0 i0) (hi:a=a0∧(a.length≤1048576∧∀ x ∈ a,x.bytes.length≤1048576)∧0≤i∧i + n=a.length∧o.length=a.length∧o.take i.toNat=a.take i.toNat):if ((decide (i < (((List.length a):Nat):Int)))=true) then ((((0:Int)≤i)∧(i < (((List.length a):Nat):Int)))∧((true=true)∧(((List.length (at_netm a (Int.toNat i)).bytes)≤(1048576:Nat))∧(∀ r:NetS,(r=(at_netm a (Int.toNat i)))→(true=true)∧((((0:Int)≤i)∧(i < (((List.length o):Nat):Int)))∧(∃ s:(Prod (List NetS) (Prod (List NetS) Int)),((KS.mk true [(Prod.mk (0:Nat) (T.v false [(Cm.d (D.r RK.netm a))])),(Prod.mk (3:Nat) (T.v false [(Cm.ref (0:Nat) (0:Nat))])),(Prod.mk (4:Nat) (num IntKind.i64 (IntKind.wrap IntKind.i64 (i + (1:Int)))))] [(Row.mk (0:Nat) (Option.some (RC.mk (60:Nat) RK.netm (List.set o (Int.toNat i) r) (RM.mk (Option.none) false (0:Nat) false))))] [])=(KS.mk true [(Prod.mk (0:Nat) (T.v false [(Cm.d (D.r RK.netm s.fst))])),(Prod.mk (3:Nat) (T.v false [(Cm.ref (0:Nat) (0:Nat))])),(Prod.mk (4:Nat) (num IntKind.i64 s.snd.snd))] [(Row.mk (0:Nat) (Option.some (RC.mk (60:Nat) RK.netm s.snd.fst (RM.mk (Option.none) false (0:Nat) false))))] []))∧(∃ m:Nat,(m < n)∧((s.fst=a0)∧((((List.length s.fst)≤(1048576:Nat))∧(∀ x:NetS,(List.Mem x s.fst)→((List.length x.bytes)≤(1048576:Nat))))∧(((0:Int)≤s.snd.snd)∧(((s.snd.snd + ((m:Nat):Int))=(((List.length s.fst):Nat):Int))∧(((List.length s.snd.fst)=(List.length s.fst))∧((List.take (Int.toNat s.snd.snd) s.snd.fst)=(List.take (Int.toNat s.snd.snd) s.fst)))))))))))))) else (∃ r:(List NetS),((KS.mk true [(Prod.mk (3:Nat) (T.v false [(Cm.ref (0:Nat) (0:Nat))]))] [(Row.mk (0:Nat) (Option.some (RC.mk (60:Nat) RK.netm o (RM.mk (Option.none) false (0:Nat) false))))] [])=(KS.mk true [(Prod.mk (3:Nat) (T.v false [(Cm.ref (0:Nat) (0:Nat))]))] [(Row.mk (0:Nat) (Option.some (RC.mk (60:Nat) RK.netm r (RM.mk (Option.none) false (0:Nat) false))))] []))∧(r=a0)) := by
  try dsimp only at hp
  obtain ⟨rfl, ⟨h1, h6⟩, h2, h4, h5, h7⟩ := hi
  obtain ⟨q, rfl⟩ : ∃ z : Nat, i = z := ⟨i.toNat, by omega⟩
  simp only [Int.toNat_natCast] at h7 ⊢
  rw [wr (x := (q : Int) + 1) (by omega) (by omega)]
  cases n with
  | zero =>
    rw [if_neg (by simp; omega)]
    have hi : q = a.length := by omega
    subst hi
    rw [List.take_length, ← h5, List.take_length] at h7
    exact ⟨o, rfl, h7⟩
  | succ n =>
    have hq : q < a.length := by omega
    rw [if_pos (by simp; omega)]
    have hd := h6 _ (at_mem .netm a q hq)
    have hd' : (at_netm a q).bytes.length ≤ 1048576 := hd
    have hx := show (o.set q (at_netm a q)).length = a.length by rw [List.length_set]; exact h5
    have ea : a.take (q + 1) = a.take q ++ [at_netm a q] := take_at .netm a q hq
    have hy : (o.set q (at_netm a q)).take (q + 1) = a.take (q + 1) := by rw [set_takeG (by omega), ea, h7]
    repeat' first
      | exact rfl
      | exact True.intro
      | with_reducible apply And.intro
      | (with_reducible intro r hr; subst r)
      | with_reducible intro y_
      | exact hd'
      | omega
    all_goals first
      | exact ⟨(a, o.set q (at_netm a q), (q : Int) + 1), rfl, n, by omega, rfl, ⟨h1, h6⟩, by dsimp only; omega, by dsimp only; omega, hx, (show (o.set q (at_netm a q)).take ((q : Int) + 1).toNat = a.take ((q : Int) + 1).toNat by rw [show ((q : Int) + 1).toNat = q + 1 by omega]; exact hy)⟩
theorem vS_laws_toNetMsgS_0 (a0 : List NetS) (o0 : List NetS) (i0 : Int) (hp : (fun (a : List NetS) (o : List NetS) (i : Int) => (o.length = a.length ∧ i = 0 ∧ (a.length ≤ 1048576 ∧ ∀ x ∈ a, x.bytes.length ≤ 1048576))) a0 o0 i0) : ∃ n : Nat, (fun (a : List NetS) (o : List NetS) (i : Int) => (a = a0 ∧ (a.length ≤ 1048576 ∧ ∀ x ∈ a, x.bytes.length ≤ 1048576) ∧ 0 ≤ i ∧ i + n = a.length ∧ o.length = a.length ∧ o.take i.toNat = a.take i.toNat)) a0 o0 i0 := by
  try dsimp only at hp
  try dsimp only
  obtain ⟨h1, rfl, h3, h4⟩ := hp
  exact ⟨a0.length, rfl, ⟨h3, h4⟩, by omega, by omega, h1, rfl⟩
theorem w_laws_toNetMsgS : Valid Try.prog 41 c_laws_toNetMsgS :=
  valid_ctr2 (V := V_laws_toNetMsgS) (tysB_ok tys_ok) ⟨(CallsL.cons w_laws_toNetMsg (CallsL.nil _)), (IosL.nil _)⟩ mixed 1 0 Try.func41 rfl (by kernel_rfl)
    (fun c hc => by
      obtain rfl := Option.some.inj hc
      exact ⟨trivial, ⟨trivial, ⟨⟨trivial, ⟨LoopD.ok2 (V := V_laws_toNetMsgS) l_laws_toNetMsgS_0 (LoopsM.cons 0 l_laws_toNetMsgS_0 LoopsM.nil) 0 _ i_laws_toNetMsgS_0 (fun x hx => vS_laws_toNetMsgS_0 x.1 x.2.1 x.2.2 hx) (fun x hx n s hi => ⟨_, by kernel_rfl, vL_laws_toNetMsgS_0 x.1 x.2.1 x.2.2 s.1 s.2.1 s.2.2 n hx hi⟩), ⟨⟨trivial, ⟨trivial, trivial⟩⟩, ⟨trivial, trivial⟩⟩⟩⟩, ⟨trivial, trivial⟩⟩⟩⟩)
    (fun x K hp hk => ⟨_, by kernel_rfl, vF_laws_toNetMsgS x K hp (fun r h => hk r h)⟩)
theorem vF_laws_toNetMsgSS (a:List (List NetS)) (K:List Arg→List (List AC)→Prop) (hp:(a.length≤1048576∧∀ x ∈ a,NetM 1048576 x)) (hk:∀ (r:List (List NetS)),(r=a)→K ([(rR .nets).to r]) ([])):(((0:Int)≤(((List.length a):Nat):Int))∧(((((List.length a):Nat):Int)=(((List.length a):Nat):Int))∧((Int.toNat (((List.length a):Nat):Int))≤(137438953472:Nat))))∧(∃ s:(Prod (List (List NetS)) (Prod (List (List NetS)) Int)),((KS.mk true [(Prod.mk (0:Nat) (T.v false [(Cm.d (D.r RK.nets a))])),(Prod.mk (3:Nat) (T.v false [(Cm.ref (0:Nat) (0:Nat))])),(Prod.mk (4:Nat) (num IntKind.i64 (0:Int)))] [(Row.mk (0:Nat) (Option.some (RC.mk (58:Nat) RK.nets (List.replicate (Int.toNat (((List.length a):Nat):Int)) (RK.z RK.nets)) (RM.mk (Option.none) false (0:Nat) false))))] [])=(KS.mk true [(Prod.mk (0:Nat) (T.v false [(Cm.d (D.r RK.nets s.fst))])),(Prod.mk (3:Nat) (T.v false [(Cm.ref (0:Nat) (0:Nat))])),(Prod.mk (4:Nat) (num IntKind.i64 s.snd.snd))] [(Row.mk (0:Nat) (Option.some (RC.mk (58:Nat) RK.nets s.snd.fst (RM.mk (Option.none) false (0:Nat) false))))] []))∧((((List.length s.snd.fst)=(List.length s.fst))∧((s.snd.snd=(0:Int))∧(((List.length s.fst)≤(1048576:Nat))∧(∀ x:(List NetS),(List.Mem x s.fst)→(NetM (1048576:Nat) x)))))∧((∀ r:(List (List NetS)),(r=s.fst)→(true=true)∧(K [(aR RK.nets r)] []))∧(∀ r:Empty,False→False)))) := by
  obtain ⟨h1, h2⟩ := hp
  repeat' first
    | exact rfl
    | exact True.intro
    | with_reducible apply And.intro
    | omega
  all_goals first
    | (refine ⟨(a, List.replicate (↑a.length : Int).toNat ([] : List NetS), 0), rfl, ⟨?_, rfl, h1, h2⟩, fun r hr => ⟨rfl, ?_⟩, fun r h => h.elim⟩
       · show (List.replicate _ ([] : List NetS)).length = a.length
         rw [List.length_replicate, Int.toNat_natCast]
       · have hr' : r = a := hr
         subst hr'
         exact hk _ rfl)
theorem vL_laws_toNetMsgSS_0 (a0:List (List NetS)) (o0:List (List NetS)) (i0:Int) (a:List (List NetS)) (o:List (List NetS)) (i:Int) (n:Nat) (hp:(fun (a:List (List NetS)) (o:List (List NetS)) (i:Int) => (o.length=a.length∧i=0∧(a.length≤1048576∧∀ x ∈ a,NetM 1048576 x))) a0 o0 i0) (hi:a=a0∧(a.length≤1048576∧∀ x ∈ a,NetM 1048576 x)∧0≤i∧i + n=a.length∧o.length=a.length∧o.take i.toNat=a.take i.toNat):if ((decide (i < (((List.length a):Nat):Int)))=true) then ((((0:Int)≤i)∧(i < (((List.length a):Nat):Int)))∧((true=true)∧((((List.length (at_nets a (Int.toNat i)))≤(1048576:Nat))∧(∀ x:NetS,(List.Mem x (at_nets a (Int.toNat i)))→((List.length x.bytes)≤(1048576:Nat))))∧(∀ r:(List NetS),(r=(at_nets a (Int.toNat i)))→(true=true)∧((((0:Int)≤i)∧(i < (((List.length o):Nat):Int)))∧(∃ s:(Prod (List (List NetS)) (Prod (List (List NetS)) Int)),((KS.mk true [(Prod.mk (0:Nat) (T.v false [(Cm.d (D.r RK.nets a))])),(Prod.mk (3:Nat) (T.v false [(Cm.ref (0:Nat) (0:Nat))])),(Prod.mk (4:Nat) (num IntKind.i64 (IntKind.wrap IntKind.i64 (i + (1:Int)))))] [(Row.mk (0:Nat) (Option.some (RC.mk (58:Nat) RK.nets (List.set o (Int.toNat i) r) (RM.mk (Option.none) false (0:Nat) false))))] [])=(KS.mk true [(Prod.mk (0:Nat) (T.v false [(Cm.d (D.r RK.nets s.fst))])),(Prod.mk (3:Nat) (T.v false [(Cm.ref (0:Nat) (0:Nat))])),(Prod.mk (4:Nat) (num IntKind.i64 s.snd.snd))] [(Row.mk (0:Nat) (Option.some (RC.mk (58:Nat) RK.nets s.snd.fst (RM.mk (Option.none) false (0:Nat) false))))] []))∧(∃ m:Nat,(m < n)∧((s.fst=a0)∧((((List.length s.fst)≤(1048576:Nat))∧(∀ x:(List NetS),(List.Mem x s.fst)→(NetM (1048576:Nat) x)))∧(((0:Int)≤s.snd.snd)∧(((s.snd.snd + ((m:Nat):Int))=(((List.length s.fst):Nat):Int))∧(((List.length s.snd.fst)=(List.length s.fst))∧((List.take (Int.toNat s.snd.snd) s.snd.fst)=(List.take (Int.toNat s.snd.snd) s.fst)))))))))))))) else (∃ r:(List (List NetS)),((KS.mk true [(Prod.mk (3:Nat) (T.v false [(Cm.ref (0:Nat) (0:Nat))]))] [(Row.mk (0:Nat) (Option.some (RC.mk (58:Nat) RK.nets o (RM.mk (Option.none) false (0:Nat) false))))] [])=(KS.mk true [(Prod.mk (3:Nat) (T.v false [(Cm.ref (0:Nat) (0:Nat))]))] [(Row.mk (0:Nat) (Option.some (RC.mk (58:Nat) RK.nets r (RM.mk (Option.none) false (0:Nat) false))))] []))∧(r=a0)) := by
  try dsimp only at hp
  obtain ⟨rfl, ⟨h1, h6⟩, h2, h4, h5, h7⟩ := hi
  obtain ⟨q, rfl⟩ : ∃ z : Nat, i = z := ⟨i.toNat, by omega⟩
  simp only [Int.toNat_natCast] at h7 ⊢
  rw [wr (x := (q : Int) + 1) (by omega) (by omega)]
  cases n with
  | zero =>
    rw [if_neg (by simp; omega)]
    have hi : q = a.length := by omega
    subst hi
    rw [List.take_length, ← h5, List.take_length] at h7
    exact ⟨o, rfl, h7⟩
  | succ n =>
    have hq : q < a.length := by omega
    rw [if_pos (by simp; omega)]
    have hd := h6 _ (at_mem .nets a q hq)
    have hd' : NetM 1048576 (at_nets a q) := hd
    have hx := show (o.set q (at_nets a q)).length = a.length by rw [List.length_set]; exact h5
    have ea : a.take (q + 1) = a.take q ++ [at_nets a q] := take_at .nets a q hq
    have hy : (o.set q (at_nets a q)).take (q + 1) = a.take (q + 1) := by rw [set_takeG (by omega), ea, h7]
    repeat' first
      | exact rfl
      | exact True.intro
      | with_reducible apply And.intro
      | (with_reducible intro r hr; subst r)
      | with_reducible intro y_
      | exact hd'
      | exact hd'.len
      | exact hd'.dat _ ‹List.Mem _ _›
      | omega
    all_goals first
      | exact ⟨(a, o.set q (at_nets a q), (q : Int) + 1), rfl, n, by omega, rfl, ⟨h1, h6⟩, by dsimp only; omega, by dsimp only; omega, hx, (show (o.set q (at_nets a q)).take ((q : Int) + 1).toNat = a.take ((q : Int) + 1).toNat by rw [show ((q : Int) + 1).toNat = q + 1 by omega]; exact hy)⟩
theorem vS_laws_toNetMsgSS_0 (a0 : List (List NetS)) (o0 : List (List NetS)) (i0 : Int) (hp : (fun (a : List (List NetS)) (o : List (List NetS)) (i : Int) => (o.length = a.length ∧ i = 0 ∧ (a.length ≤ 1048576 ∧ ∀ x ∈ a, NetM 1048576 x))) a0 o0 i0) : ∃ n : Nat, (fun (a : List (List NetS)) (o : List (List NetS)) (i : Int) => (a = a0 ∧ (a.length ≤ 1048576 ∧ ∀ x ∈ a, NetM 1048576 x) ∧ 0 ≤ i ∧ i + n = a.length ∧ o.length = a.length ∧ o.take i.toNat = a.take i.toNat)) a0 o0 i0 := by
  try dsimp only at hp
  try dsimp only
  obtain ⟨h1, rfl, h3, h4⟩ := hp
  exact ⟨a0.length, rfl, ⟨h3, h4⟩, by omega, by omega, h1, rfl⟩
theorem w_laws_toNetMsgSS : Valid Try.prog 19 c_laws_toNetMsgSS :=
  valid_ctr2 (V := V_laws_toNetMsgSS) (tysB_ok tys_ok) ⟨(CallsL.cons w_laws_toNetMsgS (CallsL.nil _)), (IosL.nil _)⟩ mixed 1 0 Try.func19 rfl (by kernel_rfl)
    (fun c hc => by
      obtain rfl := Option.some.inj hc
      exact ⟨trivial, ⟨trivial, ⟨⟨trivial, ⟨LoopD.ok2 (V := V_laws_toNetMsgSS) l_laws_toNetMsgSS_0 (LoopsM.cons 0 l_laws_toNetMsgSS_0 LoopsM.nil) 0 _ i_laws_toNetMsgSS_0 (fun x hx => vS_laws_toNetMsgSS_0 x.1 x.2.1 x.2.2 hx) (fun x hx n s hi => ⟨_, by kernel_rfl, vL_laws_toNetMsgSS_0 x.1 x.2.1 x.2.2 s.1 s.2.1 s.2.2 n hx hi⟩), ⟨⟨trivial, ⟨trivial, trivial⟩⟩, ⟨trivial, trivial⟩⟩⟩⟩, ⟨trivial, trivial⟩⟩⟩⟩)
    (fun x K hp hk => ⟨_, by kernel_rfl, vF_laws_toNetMsgSS x K hp (fun r h => hk r h)⟩)
theorem vF_laws_toWldEnd (e:EndS) (K:List Arg→List (List AC)→Prop) (hp:EndM 1048576 e) (hk:∀ (r:EndS),(r=e)→K ([rEnd.to r]) ([])):(true=true)∧(((((List.length e.tx.flight)≤(1048576:Nat))∧(∀ p:Part,(List.Mem p e.tx.flight)→((List.length p.data)≤(1048576:Nat))))∧(((List.length e.tx.queue)≤(1048576:Nat))∧(∀ p:Part,(List.Mem p e.tx.queue)→((List.length p.data)≤(1048576:Nat)))))∧(∀ r:TxS,(r=e.tx)→((List.length r.flight)=(List.length r.flight))∧(((List.length r.queue)=(List.length r.queue))∧((true=true)∧((true=true)∧(((List.length e.rx.join.got)≤(137438953472:Nat))∧(∀ r1:RxS,(r1=e.rx)→(true=true)∧((true=true)∧((((List.length e.ctx.queue)≤(1048576:Nat))∧(∀ p:Part,(List.Mem p e.ctx.queue)→((List.length p.data)≤(1048576:Nat))))∧(∀ r2:CtS,(r2=e.ctx)→((List.length r2.queue)=(List.length r2.queue))∧((true=true)∧((true=true)∧(((List.length e.crx.join.got)≤(137438953472:Nat))∧(∀ r3:CrS,(r3=e.crx)→(true=true)∧((true=true)∧((((List.length e.put)≤(1048576:Nat))∧(∀ x:(List Int),(List.Mem x e.put)→((List.length x)≤(1048576:Nat))))∧(∀ r4:(List (List Int)),(r4=e.put)→(true=true)∧((true=true)∧((((List.length e.got)≤(1048576:Nat))∧(∀ x:(List Int),(List.Mem x e.got)→((List.length x)≤(1048576:Nat))))∧(∀ r5:(List (List Int)),(r5=e.got)→(true=true)∧((true=true)∧(K [(Arg.v true [(AC.d (D.i IntKind.i64 r.next)),(AC.d (D.i IntKind.i64 r.acked)),(AC.d (D.r RK.part r.flight)),(AC.d (D.i IntKind.i64 r.sent)),(AC.d (D.r RK.part r.queue)),(AC.d (D.b r.asks)),(AC.d (D.i IntKind.i64 r.tries)),(AC.d (D.b r.held)),(AC.d (D.i IntKind.i64 r.count)),(AC.d (D.b r.dead)),(AC.d (D.i IntKind.i64 r1.expect)),(AC.d (D.i IntKind.i64 r1.count)),(AC.d (D.i IntKind.i64 r1.join.len)),(AC.d (D.r RK.u8 r1.join.got)),(AC.d (D.b r1.again)),(AC.d (D.b r1.busy)),(AC.d (D.b r1.dead)),(AC.d (D.i IntKind.i64 r2.have_)),(AC.d (D.r RK.part r2.queue)),(AC.d (D.i IntKind.i64 r2.granted)),(AC.d (D.i IntKind.i64 r2.sent)),(AC.d (D.b r2.dead)),(AC.d (D.i IntKind.i64 r3.out)),(AC.d (D.i IntKind.i64 r3.join.len)),(AC.d (D.r RK.u8 r3.join.got)),(AC.d (D.b r3.dead)),(AC.d (D.r RK.byr r4)),(AC.d (D.r RK.byr r5))])] [])))))))))))))))))))))) := by
  repeat' first
    | exact rfl
    | exact True.intro
    | with_reducible apply And.intro
    | (with_reducible intro y_ hy_; subst hy_)
    | with_reducible intro y_
    | refine ifLtB (fun h => ?_) (fun h => ?_)
    | refine iteI (fun h => ?_) (fun h => ?_)
    | exact hk _ rfl
    | exact hp.tf
    | exact hp.tfd _ ‹List.Mem _ _›
    | exact hp.tq
    | exact hp.tqd _ ‹List.Mem _ _›
    | exact hp.rg
    | exact hp.cq
    | exact hp.cqd _ ‹List.Mem _ _›
    | exact hp.cg
    | exact hp.pl
    | exact hp.pd _ ‹List.Mem _ _›
    | exact hp.gl
    | exact hp.gd _ ‹List.Mem _ _›
    | exact (hp.le (k := 137438953472) (by decide)).tf
    | exact (hp.le (k := 137438953472) (by decide)).tfd _ ‹List.Mem _ _›
    | exact (hp.le (k := 137438953472) (by decide)).tq
    | exact (hp.le (k := 137438953472) (by decide)).tqd _ ‹List.Mem _ _›
    | exact (hp.le (k := 137438953472) (by decide)).rg
    | exact (hp.le (k := 137438953472) (by decide)).cq
    | exact (hp.le (k := 137438953472) (by decide)).cqd _ ‹List.Mem _ _›
    | exact (hp.le (k := 137438953472) (by decide)).cg
    | exact (hp.le (k := 137438953472) (by decide)).pl
    | exact (hp.le (k := 137438953472) (by decide)).pd _ ‹List.Mem _ _›
    | exact (hp.le (k := 137438953472) (by decide)).gl
    | exact (hp.le (k := 137438953472) (by decide)).gd _ ‹List.Mem _ _›
    | with_reducible assumption
    | omega
theorem w_laws_toWldEnd : Valid Try.prog 40 c_laws_toWldEnd :=
  valid_ctr2 (V := V_laws_toWldEnd) (tysB_ok tys_ok) ⟨(CallsL.cons w_laws_toTxState (CallsL.cons w_laws_toRxState (CallsL.cons w_laws_toCrdTx (CallsL.cons w_laws_toCrdRx (CallsL.cons w_laws_toByteSS (CallsL.nil _)))))), (IosL.nil _)⟩ mixed 0 3 Try.func40 rfl (by kernel_rfl)
    (fun c hc => by
      obtain rfl := Option.some.inj hc
      exact ⟨trivial, ⟨trivial, ⟨trivial, ⟨trivial, ⟨trivial, ⟨trivial, ⟨trivial, ⟨trivial, ⟨trivial, trivial⟩⟩⟩⟩⟩⟩⟩⟩⟩)
    (fun x K hp hk => ⟨_, by kernel_rfl, vF_laws_toWldEnd x K hp (fun r h => hk r h)⟩)
theorem vF_laws_toWldEndS (a:List EndS) (K:List Arg→List (List AC)→Prop) (hp:(a.length≤1048576∧∀ x ∈ a,EndM 1048576 x)) (hk:∀ (r:List EndS),(r=a)→K ([(rR .wend).to r]) ([])):(((0:Int)≤(((List.length a):Nat):Int))∧(((((List.length a):Nat):Int)=(((List.length a):Nat):Int))∧((Int.toNat (((List.length a):Nat):Int))≤(137438953472:Nat))))∧(∃ s:(Prod (List EndS) (Prod (List EndS) Int)),((KS.mk true [(Prod.mk (0:Nat) (T.v false [(Cm.d (D.r RK.wend a))])),(Prod.mk (3:Nat) (T.v false [(Cm.ref (0:Nat) (0:Nat))])),(Prod.mk (4:Nat) (num IntKind.i64 (0:Int)))] [(Row.mk (0:Nat) (Option.some (RC.mk (57:Nat) RK.wend (List.replicate (Int.toNat (((List.length a):Nat):Int)) (RK.z RK.wend)) (RM.mk (Option.none) false (0:Nat) false))))] [])=(KS.mk true [(Prod.mk (0:Nat) (T.v false [(Cm.d (D.r RK.wend s.fst))])),(Prod.mk (3:Nat) (T.v false [(Cm.ref (0:Nat) (0:Nat))])),(Prod.mk (4:Nat) (num IntKind.i64 s.snd.snd))] [(Row.mk (0:Nat) (Option.some (RC.mk (57:Nat) RK.wend s.snd.fst (RM.mk (Option.none) false (0:Nat) false))))] []))∧((((List.length s.snd.fst)=(List.length s.fst))∧((s.snd.snd=(0:Int))∧(((List.length s.fst)≤(1048576:Nat))∧(∀ x:EndS,(List.Mem x s.fst)→(EndM (1048576:Nat) x)))))∧((∀ r:(List EndS),(r=s.fst)→(true=true)∧(K [(aR RK.wend r)] []))∧(∀ r:Empty,False→False)))) := by
  obtain ⟨h1, h2⟩ := hp
  repeat' first
    | exact rfl
    | exact True.intro
    | with_reducible apply And.intro
    | omega
  all_goals first
    | (refine ⟨(a, List.replicate (↑a.length : Int).toNat (⟨⟨0, 0, [], 0, [], false, 0, false, 0, false⟩, ⟨0, 0, ⟨0, []⟩, false, false, false⟩, ⟨0, [], 0, 0, false⟩, ⟨0, ⟨0, []⟩, false⟩, [], []⟩ : EndS), 0), rfl, ⟨?_, rfl, h1, h2⟩, fun r hr => ⟨rfl, ?_⟩, fun r h => h.elim⟩
       · show (List.replicate _ (⟨⟨0, 0, [], 0, [], false, 0, false, 0, false⟩, ⟨0, 0, ⟨0, []⟩, false, false, false⟩, ⟨0, [], 0, 0, false⟩, ⟨0, ⟨0, []⟩, false⟩, [], []⟩ : EndS)).length = a.length
         rw [List.length_replicate, Int.toNat_natCast]
       · have hr' : r = a := hr
         subst hr'
         exact hk _ rfl)
theorem vL_laws_toWldEndS_0 (a0:List EndS) (o0:List EndS) (i0:Int) (a:List EndS) (o:List EndS) (i:Int) (n:Nat) (hp:(fun (a:List EndS) (o:List EndS) (i:Int) => (o.length=a.length∧i=0∧(a.length≤1048576∧∀ x ∈ a,EndM 1048576 x))) a0 o0 i0) (hi:a=a0∧(a.length≤1048576∧∀ x ∈ a,EndM 1048576 x)∧0≤i∧i + n=a.length∧o.length=a.length∧o.take i.toNat=a.take i.toNat):if ((decide (i < (((List.length a):Nat):Int)))=true) then ((((0:Int)≤i)∧(i < (((List.length a):Nat):Int)))∧((true=true)∧((EndM (1048576:Nat) (at_wend a (Int.toNat i)))∧(∀ r:EndS,(r=(at_wend a (Int.toNat i)))→(true=true)∧((((0:Int)≤i)∧(i < (((List.length o):Nat):Int)))∧(∃ s:(Prod (List EndS) (Prod (List EndS) Int)),((KS.mk true [(Prod.mk (0:Nat) (T.v false [(Cm.d (D.r RK.wend a))])),(Prod.mk (3:Nat) (T.v false [(Cm.ref (0:Nat) (0:Nat))])),(Prod.mk (4:Nat) (num IntKind.i64 (IntKind.wrap IntKind.i64 (i + (1:Int)))))] [(Row.mk (0:Nat) (Option.some (RC.mk (57:Nat) RK.wend (List.set o (Int.toNat i) r) (RM.mk (Option.none) false (0:Nat) false))))] [])=(KS.mk true [(Prod.mk (0:Nat) (T.v false [(Cm.d (D.r RK.wend s.fst))])),(Prod.mk (3:Nat) (T.v false [(Cm.ref (0:Nat) (0:Nat))])),(Prod.mk (4:Nat) (num IntKind.i64 s.snd.snd))] [(Row.mk (0:Nat) (Option.some (RC.mk (57:Nat) RK.wend s.snd.fst (RM.mk (Option.none) false (0:Nat) false))))] []))∧(∃ m:Nat,(m < n)∧((s.fst=a0)∧((((List.length s.fst)≤(1048576:Nat))∧(∀ x:EndS,(List.Mem x s.fst)→(EndM (1048576:Nat) x)))∧(((0:Int)≤s.snd.snd)∧(((s.snd.snd + ((m:Nat):Int))=(((List.length s.fst):Nat):Int))∧(((List.length s.snd.fst)=(List.length s.fst))∧((List.take (Int.toNat s.snd.snd) s.snd.fst)=(List.take (Int.toNat s.snd.snd) s.fst)))))))))))))) else (∃ r:(List EndS),((KS.mk true [(Prod.mk (3:Nat) (T.v false [(Cm.ref (0:Nat) (0:Nat))]))] [(Row.mk (0:Nat) (Option.some (RC.mk (57:Nat) RK.wend o (RM.mk (Option.none) false (0:Nat) false))))] [])=(KS.mk true [(Prod.mk (3:Nat) (T.v false [(Cm.ref (0:Nat) (0:Nat))]))] [(Row.mk (0:Nat) (Option.some (RC.mk (57:Nat) RK.wend r (RM.mk (Option.none) false (0:Nat) false))))] []))∧(r=a0)) := by
  try dsimp only at hp
  obtain ⟨rfl, ⟨h1, h6⟩, h2, h4, h5, h7⟩ := hi
  obtain ⟨q, rfl⟩ : ∃ z : Nat, i = z := ⟨i.toNat, by omega⟩
  simp only [Int.toNat_natCast] at h7 ⊢
  rw [wr (x := (q : Int) + 1) (by omega) (by omega)]
  cases n with
  | zero =>
    rw [if_neg (by simp; omega)]
    have hi : q = a.length := by omega
    subst hi
    rw [List.take_length, ← h5, List.take_length] at h7
    exact ⟨o, rfl, h7⟩
  | succ n =>
    have hq : q < a.length := by omega
    rw [if_pos (by simp; omega)]
    have hd := h6 _ (at_mem .wend a q hq)
    have hd' : EndM 1048576 (at_wend a q) := hd
    have hx := show (o.set q (at_wend a q)).length = a.length by rw [List.length_set]; exact h5
    have ea : a.take (q + 1) = a.take q ++ [at_wend a q] := take_at .wend a q hq
    have hy : (o.set q (at_wend a q)).take (q + 1) = a.take (q + 1) := by rw [set_takeG (by omega), ea, h7]
    repeat' first
      | exact rfl
      | exact True.intro
      | with_reducible apply And.intro
      | (with_reducible intro r hr; subst r)
      | with_reducible intro y_
      | exact hd'
      | omega
    all_goals first
      | exact ⟨(a, o.set q (at_wend a q), (q : Int) + 1), rfl, n, by omega, rfl, ⟨h1, h6⟩, by dsimp only; omega, by dsimp only; omega, hx, (show (o.set q (at_wend a q)).take ((q : Int) + 1).toNat = a.take ((q : Int) + 1).toNat by rw [show ((q : Int) + 1).toNat = q + 1 by omega]; exact hy)⟩
theorem vS_laws_toWldEndS_0 (a0 : List EndS) (o0 : List EndS) (i0 : Int) (hp : (fun (a : List EndS) (o : List EndS) (i : Int) => (o.length = a.length ∧ i = 0 ∧ (a.length ≤ 1048576 ∧ ∀ x ∈ a, EndM 1048576 x))) a0 o0 i0) : ∃ n : Nat, (fun (a : List EndS) (o : List EndS) (i : Int) => (a = a0 ∧ (a.length ≤ 1048576 ∧ ∀ x ∈ a, EndM 1048576 x) ∧ 0 ≤ i ∧ i + n = a.length ∧ o.length = a.length ∧ o.take i.toNat = a.take i.toNat)) a0 o0 i0 := by
  try dsimp only at hp
  try dsimp only
  obtain ⟨h1, rfl, h3, h4⟩ := hp
  exact ⟨a0.length, rfl, ⟨h3, h4⟩, by omega, by omega, h1, rfl⟩
theorem w_laws_toWldEndS : Valid Try.prog 18 c_laws_toWldEndS :=
  valid_ctr2 (V := V_laws_toWldEndS) (tysB_ok tys_ok) ⟨(CallsL.cons w_laws_toWldEnd (CallsL.nil _)), (IosL.nil _)⟩ mixed 1 0 Try.func18 rfl (by kernel_rfl)
    (fun c hc => by
      obtain rfl := Option.some.inj hc
      exact ⟨trivial, ⟨trivial, ⟨⟨trivial, ⟨LoopD.ok2 (V := V_laws_toWldEndS) l_laws_toWldEndS_0 (LoopsM.cons 0 l_laws_toWldEndS_0 LoopsM.nil) 0 _ i_laws_toWldEndS_0 (fun x hx => vS_laws_toWldEndS_0 x.1 x.2.1 x.2.2 hx) (fun x hx n s hi => ⟨_, by kernel_rfl, vL_laws_toWldEndS_0 x.1 x.2.1 x.2.2 s.1 s.2.1 s.2.2 n hx hi⟩), ⟨⟨trivial, ⟨trivial, trivial⟩⟩, ⟨trivial, trivial⟩⟩⟩⟩, ⟨trivial, trivial⟩⟩⟩⟩)
    (fun x K hp hk => ⟨_, by kernel_rfl, vF_laws_toWldEndS x K hp (fun r h => hk r h)⟩)
theorem vF_laws_toWldWorld (w:WldS) (K:List Arg→List (List AC)→Prop) (hp:WldM 1048576 w) (hk:∀ (r:WldS),(r=w)→K ([rWld.to r]) ([])):(true=true)∧(True∧(∀ r:Cfg,(r=w.cfg)→(true=true)∧((true=true)∧((((List.length w.ends)≤(1048576:Nat))∧(∀ x:EndS,(List.Mem x w.ends)→(EndM (1048576:Nat) x)))∧(∀ r1:(List EndS),(r1=w.ends)→(true=true)∧((true=true)∧((((List.length w.net)≤(1048576:Nat))∧(∀ x:(List NetS),(List.Mem x w.net)→(NetM (1048576:Nat) x)))∧(∀ r2:(List (List NetS)),(r2=w.net)→(true=true)∧((true=true)∧(K [(Arg.v true [(AC.d (D.i IntKind.i64 r.mode)),(AC.d (D.i IntKind.i64 r.win)),(AC.d (D.i IntKind.i64 r.mps)),(AC.d (D.i IntKind.i64 r.mtu)),(AC.d (D.i IntKind.i64 r.try_)),(AC.d (D.r RK.wend r1)),(AC.d (D.r RK.nets r2)),(AC.d (D.i IntKind.i64 w.link))])] [])))))))))) := by
  repeat' first
    | exact rfl
    | exact True.intro
    | with_reducible apply And.intro
    | (with_reducible intro y_ hy_; subst hy_)
    | with_reducible intro y_
    | refine ifLtB (fun h => ?_) (fun h => ?_)
    | refine iteI (fun h => ?_) (fun h => ?_)
    | exact hk _ rfl
    | exact hp.el
    | exact hp.ed _ ‹List.Mem _ _›
    | exact hp.nl
    | exact hp.nd _ ‹List.Mem _ _›
    | with_reducible assumption
    | omega
theorem w_laws_toWldWorld : Valid Try.prog 7 c_laws_toWldWorld :=
  valid_ctr2 (V := V_laws_toWldWorld) (tysB_ok tys_ok) ⟨(CallsL.cons w_laws_toCfgOpts (CallsL.cons w_laws_toWldEndS (CallsL.cons w_laws_toNetMsgSS (CallsL.nil _)))), (IosL.nil _)⟩ mixed 0 3 Try.func7 rfl (by kernel_rfl)
    (fun c hc => by
      obtain rfl := Option.some.inj hc
      exact ⟨trivial, ⟨trivial, ⟨trivial, ⟨trivial, ⟨trivial, ⟨trivial, ⟨trivial, trivial⟩⟩⟩⟩⟩⟩⟩)
    (fun x K hp hk => ⟨_, by kernel_rfl, vF_laws_toWldWorld x K hp (fun r h => hk r h)⟩)
theorem vF_laws_eqNetMsg (a:NetS) (b:NetS) (K:List Arg→List (List AC)→Prop) (hp:a.bytes.length≤137438953472) (hk:∀ (r:Bool),(r=decide (a=b))→K ([rB.to r]) ([])):if ((a.bent != b.bent)=true) then ((true=true)∧(K [(aB false)] [])) else ((true=true)∧((((List.length a.bytes)≤(137438953472:Nat))∧True)∧(∀ r:Bool,(r=(decide (a.bytes=b.bytes)))→(true=true)∧(if ((!r)=true) then ((true=true)∧(K [(aB false)] [])) else ((true=true)∧(K [(aB true)] [])))))) := by
  obtain ⟨a1, a2⟩ := a
  obtain ⟨b1, b2⟩ := b

  repeat' first
    | exact rfl
    | exact True.intro
    | with_reducible apply And.intro
    | (with_reducible intro y_ hy_; subst hy_)
    | with_reducible intro y_
    | (refine iteI (fun h => ?_) (fun h => ?_))
  all_goals try simp only [Bool.not_eq_true', decide_eq_false_iff_not, decide_eq_true_eq, Bool.not_eq_true, bne_iff_ne, beq_iff_eq, ne_eq, Decidable.not_not, Bool.not_eq_false, gt_iff_lt, ge_iff_le, Int.not_le, Int.not_lt, beq_eq_false_iff_ne, bne_eq_false_iff_eq, Bool.and_eq_true, Bool.or_eq_true, Bool.true_eq_false, Bool.false_eq_true] at *
  all_goals try simp (disch := first | omega | grind []) only [wr] at *
  all_goals first
    | assumption
    | omega
    | exact hk _ (by grind [])
    | (simp only [LIM] at *; omega)
    | grind [LIM]
theorem w_laws_eqNetMsg : Valid Try.prog 78 c_laws_eqNetMsg :=
  valid_ctr2 (V := V_laws_eqNetMsg) (tysB_ok tys_ok) ⟨(CallsL.cons w_laws_eqByteS (CallsL.nil _)), (IosL.nil _)⟩ mixed 0 2 Try.func78 rfl (by kernel_rfl)
    (fun c hc => by
      obtain rfl := Option.some.inj hc
      exact ⟨trivial, ⟨⟨trivial, ⟨⟨trivial, trivial⟩, trivial⟩⟩, ⟨⟨trivial, ⟨⟨trivial, trivial⟩, trivial⟩⟩, ⟨trivial, trivial⟩⟩⟩⟩)
    (fun x K hp hk => ⟨_, by kernel_rfl, vF_laws_eqNetMsg x.1 x.2 K hp (fun r h => hk r h)⟩)
theorem vF_laws_eqByteSS (a:List (List Int)) (b:List (List Int)) (K:List Arg→List (List AC)→Prop) (hp:a.length≤LIM∧∀ y ∈ a,y.length≤LIM) (hk:∀ (r:Bool),(r=decide (a=b))→K ([rB.to r]) ([])):if (((((List.length a):Nat):Int) != (((List.length b):Nat):Int))=true) then ((true=true)∧(K [(aB false)] [])) else (∃ s:(Prod (List (List Int)) (Prod (List (List Int)) Int)),((KS.mk true [(Prod.mk (0:Nat) (T.v false [(Cm.d (D.r RK.byr a))])),(Prod.mk (1:Nat) (T.v false [(Cm.d (D.r RK.byr b))])),(Prod.mk (5:Nat) (num IntKind.i64 (0:Int)))] [] [])=(KS.mk true [(Prod.mk (0:Nat) (T.v false [(Cm.d (D.r RK.byr s.fst))])),(Prod.mk (1:Nat) (T.v false [(Cm.d (D.r RK.byr s.snd.fst))])),(Prod.mk (5:Nat) (num IntKind.i64 s.snd.snd))] [] []))∧((((List.length s.fst)=(List.length s.snd.fst))∧((s.snd.snd=(0:Int))∧(((List.length s.fst)≤(137438953472:Nat))∧(∀ y:(List Int),(List.Mem y s.fst)→((List.length y)≤(137438953472:Nat))))))∧((∀ r:Unit,(s.fst=s.snd.fst)→(true=true)∧(K [(aB true)] []))∧(∀ r:Unit,(s.fst ≠ s.snd.fst)→(true=true)∧(K [(aB false)] []))))) := by
  refine iteI (fun h => ?_) (fun h => ?_)
  · refine ⟨by trivial, hk false ?_⟩
    symm; rw [decide_eq_false_iff_not]; rintro rfl; simp at h
  · have h1 : a.length = b.length := by simp at h; omega
    refine ⟨(a, b, 0), rfl, ⟨h1, rfl, hp.1, hp.2⟩, fun _ hr => ⟨by trivial, hk true (by simp; exact hr)⟩, fun _ hr => ⟨by trivial, hk false (by simp; exact hr)⟩⟩
theorem vL_laws_eqByteSS_0 (a0:List (List Int)) (b0:List (List Int)) (i0:Int) (a:List (List Int)) (b:List (List Int)) (i:Int) (n:Nat) (hp:(fun (a:List (List Int)) (b:List (List Int)) (i:Int) => (a.length=b.length∧i=0∧a.length≤LIM∧∀ y ∈ a,y.length≤LIM)) a0 b0 i0) (hi:a=a0∧b=b0∧a.length=b.length∧a.length≤LIM∧(∀ y ∈ a,y.length≤LIM)∧0≤i∧i + n=a.length∧a.take i.toNat=b.take i.toNat):if ((decide (i < (((List.length a):Nat):Int)))=true) then ((((0:Int)≤i)∧(i < (((List.length a):Nat):Int)))∧((((0:Int)≤i)∧(i < (((List.length b):Nat):Int)))∧((true=true)∧((((List.length (at_byr a (Int.toNat i)))≤(137438953472:Nat))∧True)∧(∀ r:Bool,(r=(decide ((at_byr a (Int.toNat i))=(at_byr b (Int.toNat i)))))→(true=true)∧((true=true)∧(if ((!r)=true) then (∃ r1:Unit,((KS.mk true [(Prod.mk (4:Nat) (boo false))] [] [])=(KS.mk true [(Prod.mk (4:Nat) (boo false))] [] []))∧(a0 ≠ b0)) else (∃ s:(Prod (List (List Int)) (Prod (List (List Int)) Int)),((KS.mk true [(Prod.mk (0:Nat) (T.v false [(Cm.d (D.r RK.byr a))])),(Prod.mk (1:Nat) (T.v false [(Cm.d (D.r RK.byr b))])),(Prod.mk (5:Nat) (num IntKind.i64 (IntKind.wrap IntKind.i64 (i + (1:Int)))))] [] [])=(KS.mk true [(Prod.mk (0:Nat) (T.v false [(Cm.d (D.r RK.byr s.fst))])),(Prod.mk (1:Nat) (T.v false [(Cm.d (D.r RK.byr s.snd.fst))])),(Prod.mk (5:Nat) (num IntKind.i64 s.snd.snd))] [] []))∧(∃ m:Nat,(m < n)∧((s.fst=a0)∧((s.snd.fst=b0)∧(((List.length s.fst)=(List.length s.snd.fst))∧(((List.length s.fst)≤(137438953472:Nat))∧((∀ y:(List Int),(List.Mem y s.fst)→((List.length y)≤(137438953472:Nat)))∧(((0:Int)≤s.snd.snd)∧(((s.snd.snd + ((m:Nat):Int))=(((List.length s.fst):Nat):Int))∧((List.take (Int.toNat s.snd.snd) s.fst)=(List.take (Int.toNat s.snd.snd) s.snd.fst)))))))))))))))))) else (∃ r:Unit,((KS.mk true [] [] [])=(KS.mk true [] [] []))∧(a0=b0)) := by
  try dsimp only at hp
  obtain ⟨rfl, rfl, h1, h2, hw, h3, h4, h5⟩ := hi
  have hL : a.length ≤ 137438953472 := h2
  obtain ⟨i, rfl⟩ : ∃ m : Nat, i = m := ⟨i.toNat, by omega⟩
  rw [wr (x := (i : Int) + 1) (by omega) (by omega)]
  simp only [Int.toNat_natCast] at h5 ⊢
  refine iteI (fun h => ?_) (fun h => ?_)
  · have hi : i < a.length := by simp at h; omega
    refine ⟨⟨by omega, by omega⟩, ⟨by omega, by omega⟩, by trivial, ?_⟩
    have ea : a.take (i + 1) = a.take i ++ [at_byr a i] := take_at .byr a i hi
    have eb : b.take (i + 1) = b.take i ++ [at_byr b i] := take_at .byr b i (show i < b.length by omega)
    refine ⟨⟨hw _ (at_mem .byr a i hi), trivial⟩, fun r hr => ?_⟩
    subst hr
    repeat refine ⟨by trivial, ?_⟩
    refine iteI (fun hx => ?_) (fun hx => ?_)
    · refine ⟨(), by trivial, fun he => ?_⟩
      simp [he] at hx
    · refine ⟨(a, b, (i : Int) + 1), rfl, n - 1, by omega, rfl, rfl, h1, h2, hw, by dsimp only; omega, by dsimp only; omega, ?_⟩
      dsimp only
      rw [show ((i : Int) + 1).toNat = i + 1 by omega, ea, eb, h5]
      simp at hx
      exact congrArg (fun z => List.take i b ++ [z]) hx
  · have hi : i = a.length := by simp at h; omega
    subst hi
    refine ⟨(), by trivial, ?_⟩
    rw [List.take_length, h1, List.take_length] at h5
    exact h5
theorem vS_laws_eqByteSS_0 (a0 : List (List Int)) (b0 : List (List Int)) (i0 : Int) (hp : (fun (a : List (List Int)) (b : List (List Int)) (i : Int) => (a.length = b.length ∧ i = 0 ∧ a.length ≤ LIM ∧ ∀ y ∈ a, y.length ≤ LIM)) a0 b0 i0) : ∃ n : Nat, (fun (a : List (List Int)) (b : List (List Int)) (i : Int) => (a = a0 ∧ b = b0 ∧ a.length = b.length ∧ a.length ≤ LIM ∧ (∀ y ∈ a, y.length ≤ LIM) ∧ 0 ≤ i ∧ i + n = a.length ∧ a.take i.toNat = b.take i.toNat)) a0 b0 i0 := by
  try dsimp only at hp
  try dsimp only
  obtain ⟨h1, h2, h3, hw⟩ := hp
  exact ⟨a0.length, rfl, rfl, h1, h3, hw, by omega, by omega, by subst h2; simp⟩
theorem w_laws_eqByteSS : Valid Try.prog 77 c_laws_eqByteSS :=
  valid_ctr2 (V := V_laws_eqByteSS) (tysB_ok tys_ok) ⟨(CallsL.cons w_laws_eqByteS (CallsL.nil _)), (IosL.nil _)⟩ mixed 0 0 Try.func77 rfl (by kernel_rfl)
    (fun c hc => by
      obtain rfl := Option.some.inj hc
      exact ⟨trivial, ⟨⟨trivial, ⟨⟨trivial, trivial⟩, trivial⟩⟩, ⟨⟨trivial, ⟨LoopD.ok2 (V := V_laws_eqByteSS) l_laws_eqByteSS_0 (LoopsM.cons 0 l_laws_eqByteSS_0 LoopsM.nil) 0 _ i_laws_eqByteSS_0 (fun x hx => vS_laws_eqByteSS_0 x.1 x.2.1 x.2.2 hx) (fun x hx n s hi => ⟨_, by kernel_rfl, vL_laws_eqByteSS_0 x.1 x.2.1 x.2.2 s.1 s.2.1 s.2.2 n hx hi⟩), ⟨⟨trivial, ⟨trivial, trivial⟩⟩, ⟨⟨trivial, ⟨⟨trivial, trivial⟩, trivial⟩⟩, trivial⟩⟩⟩⟩, ⟨trivial, trivial⟩⟩⟩⟩)
    (fun x K hp hk => ⟨_, by kernel_rfl, vF_laws_eqByteSS x.1 x.2 K hp (fun r h => hk r h)⟩)
theorem vF_laws_eqNetMsgS (a:List NetS) (b:List NetS) (K:List Arg→List (List AC)→Prop) (hp:a.length≤LIM∧∀ y ∈ a,y.bytes.length≤137438953472) (hk:∀ (r:Bool),(r=decide (a=b))→K ([rB.to r]) ([])):if (((((List.length a):Nat):Int) != (((List.length b):Nat):Int))=true) then ((true=true)∧(K [(aB false)] [])) else (∃ s:(Prod (List NetS) (Prod (List NetS) Int)),((KS.mk true [(Prod.mk (0:Nat) (T.v false [(Cm.d (D.r RK.netm a))])),(Prod.mk (1:Nat) (T.v false [(Cm.d (D.r RK.netm b))])),(Prod.mk (5:Nat) (num IntKind.i64 (0:Int)))] [] [])=(KS.mk true [(Prod.mk (0:Nat) (T.v false [(Cm.d (D.r RK.netm s.fst))])),(Prod.mk (1:Nat) (T.v false [(Cm.d (D.r RK.netm s.snd.fst))])),(Prod.mk (5:Nat) (num IntKind.i64 s.snd.snd))] [] []))∧((((List.length s.fst)=(List.length s.snd.fst))∧((s.snd.snd=(0:Int))∧(((List.length s.fst)≤(137438953472:Nat))∧(∀ y:NetS,(List.Mem y s.fst)→((List.length y.bytes)≤(137438953472:Nat))))))∧((∀ r:Unit,(s.fst=s.snd.fst)→(true=true)∧(K [(aB true)] []))∧(∀ r:Unit,(s.fst ≠ s.snd.fst)→(true=true)∧(K [(aB false)] []))))) := by
  refine iteI (fun h => ?_) (fun h => ?_)
  · refine ⟨by trivial, hk false ?_⟩
    symm; rw [decide_eq_false_iff_not]; rintro rfl; simp at h
  · have h1 : a.length = b.length := by simp at h; omega
    refine ⟨(a, b, 0), rfl, ⟨h1, rfl, hp.1, hp.2⟩, fun _ hr => ⟨by trivial, hk true (by simp; exact hr)⟩, fun _ hr => ⟨by trivial, hk false (by simp; exact hr)⟩⟩
theorem vL_laws_eqNetMsgS_0 (a0:List NetS) (b0:List NetS) (i0:Int) (a:List NetS) (b:List NetS) (i:Int) (n:Nat) (hp:(fun (a:List NetS) (b:List NetS) (i:Int) => (a.length=b.length∧i=0∧a.length≤LIM∧∀ y ∈ a,y.bytes.length≤137438953472)) a0 b0 i0) (hi:a=a0∧b=b0∧a.length=b.length∧a.length≤LIM∧(∀ y ∈ a,y.bytes.length≤137438953472)∧0≤i∧i + n=a.length∧a.take i.toNat=b.take i.toNat):if ((decide (i < (((List.length a):Nat):Int)))=true) then ((((0:Int)≤i)∧(i < (((List.length a):Nat):Int)))∧((((0:Int)≤i)∧(i < (((List.length b):Nat):Int)))∧((true=true)∧(((List.length (at_netm a (Int.toNat i)).bytes)≤(137438953472:Nat))∧(∀ r:Bool,(r=(decide ((at_netm a (Int.toNat i))=(at_netm b (Int.toNat i)))))→(true=true)∧((true=true)∧(if ((!r)=true) then (∃ r1:Unit,((KS.mk true [(Prod.mk (4:Nat) (boo false))] [] [])=(KS.mk true [(Prod.mk (4:Nat) (boo false))] [] []))∧(a0 ≠ b0)) else (∃ s:(Prod (List NetS) (Prod (List NetS) Int)),((KS.mk true [(Prod.mk (0:Nat) (T.v false [(Cm.d (D.r RK.netm a))])),(Prod.mk (1:Nat) (T.v false [(Cm.d (D.r RK.netm b))])),(Prod.mk (5:Nat) (num IntKind.i64 (IntKind.wrap IntKind.i64 (i + (1:Int)))))] [] [])=(KS.mk true [(Prod.mk (0:Nat) (T.v false [(Cm.d (D.r RK.netm s.fst))])),(Prod.mk (1:Nat) (T.v false [(Cm.d (D.r RK.netm s.snd.fst))])),(Prod.mk (5:Nat) (num IntKind.i64 s.snd.snd))] [] []))∧(∃ m:Nat,(m < n)∧((s.fst=a0)∧((s.snd.fst=b0)∧(((List.length s.fst)=(List.length s.snd.fst))∧(((List.length s.fst)≤(137438953472:Nat))∧((∀ y:NetS,(List.Mem y s.fst)→((List.length y.bytes)≤(137438953472:Nat)))∧(((0:Int)≤s.snd.snd)∧(((s.snd.snd + ((m:Nat):Int))=(((List.length s.fst):Nat):Int))∧((List.take (Int.toNat s.snd.snd) s.fst)=(List.take (Int.toNat s.snd.snd) s.snd.fst)))))))))))))))))) else (∃ r:Unit,((KS.mk true [] [] [])=(KS.mk true [] [] []))∧(a0=b0)) := by
  try dsimp only at hp
  obtain ⟨rfl, rfl, h1, h2, hw, h3, h4, h5⟩ := hi
  have hL : a.length ≤ 137438953472 := h2
  obtain ⟨i, rfl⟩ : ∃ m : Nat, i = m := ⟨i.toNat, by omega⟩
  rw [wr (x := (i : Int) + 1) (by omega) (by omega)]
  simp only [Int.toNat_natCast] at h5 ⊢
  refine iteI (fun h => ?_) (fun h => ?_)
  · have hi : i < a.length := by simp at h; omega
    refine ⟨⟨by omega, by omega⟩, ⟨by omega, by omega⟩, by trivial, ?_⟩
    have ea : a.take (i + 1) = a.take i ++ [at_netm a i] := take_at .netm a i hi
    have eb : b.take (i + 1) = b.take i ++ [at_netm b i] := take_at .netm b i (show i < b.length by omega)
    refine ⟨hw _ (at_mem .netm a i hi), fun r hr => ?_⟩
    subst hr
    repeat refine ⟨by trivial, ?_⟩
    refine iteI (fun hx => ?_) (fun hx => ?_)
    · refine ⟨(), by trivial, fun he => ?_⟩
      simp [he] at hx
    · refine ⟨(a, b, (i : Int) + 1), rfl, n - 1, by omega, rfl, rfl, h1, h2, hw, by dsimp only; omega, by dsimp only; omega, ?_⟩
      dsimp only
      rw [show ((i : Int) + 1).toNat = i + 1 by omega, ea, eb, h5]
      simp at hx
      exact congrArg (fun z => List.take i b ++ [z]) hx
  · have hi : i = a.length := by simp at h; omega
    subst hi
    refine ⟨(), by trivial, ?_⟩
    rw [List.take_length, h1, List.take_length] at h5
    exact h5
theorem vS_laws_eqNetMsgS_0 (a0 : List NetS) (b0 : List NetS) (i0 : Int) (hp : (fun (a : List NetS) (b : List NetS) (i : Int) => (a.length = b.length ∧ i = 0 ∧ a.length ≤ LIM ∧ ∀ y ∈ a, y.bytes.length ≤ 137438953472)) a0 b0 i0) : ∃ n : Nat, (fun (a : List NetS) (b : List NetS) (i : Int) => (a = a0 ∧ b = b0 ∧ a.length = b.length ∧ a.length ≤ LIM ∧ (∀ y ∈ a, y.bytes.length ≤ 137438953472) ∧ 0 ≤ i ∧ i + n = a.length ∧ a.take i.toNat = b.take i.toNat)) a0 b0 i0 := by
  try dsimp only at hp
  try dsimp only
  obtain ⟨h1, h2, h3, hw⟩ := hp
  exact ⟨a0.length, rfl, rfl, h1, h3, hw, by omega, by omega, by subst h2; simp⟩
theorem w_laws_eqNetMsgS : Valid Try.prog 51 c_laws_eqNetMsgS :=
  valid_ctr2 (V := V_laws_eqNetMsgS) (tysB_ok tys_ok) ⟨(CallsL.cons w_laws_eqNetMsg (CallsL.nil _)), (IosL.nil _)⟩ mixed 0 0 Try.func51 rfl (by kernel_rfl)
    (fun c hc => by
      obtain rfl := Option.some.inj hc
      exact ⟨trivial, ⟨⟨trivial, ⟨⟨trivial, trivial⟩, trivial⟩⟩, ⟨⟨trivial, ⟨LoopD.ok2 (V := V_laws_eqNetMsgS) l_laws_eqNetMsgS_0 (LoopsM.cons 0 l_laws_eqNetMsgS_0 LoopsM.nil) 0 _ i_laws_eqNetMsgS_0 (fun x hx => vS_laws_eqNetMsgS_0 x.1 x.2.1 x.2.2 hx) (fun x hx n s hi => ⟨_, by kernel_rfl, vL_laws_eqNetMsgS_0 x.1 x.2.1 x.2.2 s.1 s.2.1 s.2.2 n hx hi⟩), ⟨⟨trivial, ⟨trivial, trivial⟩⟩, ⟨⟨trivial, ⟨⟨trivial, trivial⟩, trivial⟩⟩, trivial⟩⟩⟩⟩, ⟨trivial, trivial⟩⟩⟩⟩)
    (fun x K hp hk => ⟨_, by kernel_rfl, vF_laws_eqNetMsgS x.1 x.2 K hp (fun r h => hk r h)⟩)
theorem vF_laws_eqNetMsgSS (a:List (List NetS)) (b:List (List NetS)) (K:List Arg→List (List AC)→Prop) (hp:a.length≤LIM∧∀ y ∈ a,y.length≤137438953472∧∀ z ∈ y,z.bytes.length≤137438953472) (hk:∀ (r:Bool),(r=decide (a=b))→K ([rB.to r]) ([])):if (((((List.length a):Nat):Int) != (((List.length b):Nat):Int))=true) then ((true=true)∧(K [(aB false)] [])) else (∃ s:(Prod (List (List NetS)) (Prod (List (List NetS)) Int)),((KS.mk true [(Prod.mk (0:Nat) (T.v false [(Cm.d (D.r RK.nets a))])),(Prod.mk (1:Nat) (T.v false [(Cm.d (D.r RK.nets b))])),(Prod.mk (5:Nat) (num IntKind.i64 (0:Int)))] [] [])=(KS.mk true [(Prod.mk (0:Nat) (T.v false [(Cm.d (D.r RK.nets s.fst))])),(Prod.mk (1:Nat) (T.v false [(Cm.d (D.r RK.nets s.snd.fst))])),(Prod.mk (5:Nat) (num IntKind.i64 s.snd.snd))] [] []))∧((((List.length s.fst)=(List.length s.snd.fst))∧((s.snd.snd=(0:Int))∧(((List.length s.fst)≤(137438953472:Nat))∧(∀ y:(List NetS),(List.Mem y s.fst)→((List.length y)≤(137438953472:Nat))∧(∀ z:NetS,(List.Mem z y)→((List.length z.bytes)≤(137438953472:Nat)))))))∧((∀ r:Unit,(s.fst=s.snd.fst)→(true=true)∧(K [(aB true)] []))∧(∀ r:Unit,(s.fst ≠ s.snd.fst)→(true=true)∧(K [(aB false)] []))))) := by
  refine iteI (fun h => ?_) (fun h => ?_)
  · refine ⟨by trivial, hk false ?_⟩
    symm; rw [decide_eq_false_iff_not]; rintro rfl; simp at h
  · have h1 : a.length = b.length := by simp at h; omega
    refine ⟨(a, b, 0), rfl, ⟨h1, rfl, hp.1, hp.2⟩, fun _ hr => ⟨by trivial, hk true (by simp; exact hr)⟩, fun _ hr => ⟨by trivial, hk false (by simp; exact hr)⟩⟩
theorem vL_laws_eqNetMsgSS_0 (a0:List (List NetS)) (b0:List (List NetS)) (i0:Int) (a:List (List NetS)) (b:List (List NetS)) (i:Int) (n:Nat) (hp:(fun (a:List (List NetS)) (b:List (List NetS)) (i:Int) => (a.length=b.length∧i=0∧a.length≤LIM∧∀ y ∈ a,y.length≤137438953472∧∀ z ∈ y,z.bytes.length≤137438953472)) a0 b0 i0) (hi:a=a0∧b=b0∧a.length=b.length∧a.length≤LIM∧(∀ y ∈ a,y.length≤137438953472∧∀ z ∈ y,z.bytes.length≤137438953472)∧0≤i∧i + n=a.length∧a.take i.toNat=b.take i.toNat):if ((decide (i < (((List.length a):Nat):Int)))=true) then ((((0:Int)≤i)∧(i < (((List.length a):Nat):Int)))∧((((0:Int)≤i)∧(i < (((List.length b):Nat):Int)))∧((true=true)∧((((List.length (at_nets a (Int.toNat i)))≤(137438953472:Nat))∧(∀ y:NetS,(List.Mem y (at_nets a (Int.toNat i)))→((List.length y.bytes)≤(137438953472:Nat))))∧(∀ r:Bool,(r=(decide ((at_nets a (Int.toNat i))=(at_nets b (Int.toNat i)))))→(true=true)∧((true=true)∧(if ((!r)=true) then (∃ r1:Unit,((KS.mk true [(Prod.mk (4:Nat) (boo false))] [] [])=(KS.mk true [(Prod.mk (4:Nat) (boo false))] [] []))∧(a0 ≠ b0)) else (∃ s:(Prod (List (List NetS)) (Prod (List (List NetS)) Int)),((KS.mk true [(Prod.mk (0:Nat) (T.v false [(Cm.d (D.r RK.nets a))])),(Prod.mk (1:Nat) (T.v false [(Cm.d (D.r RK.nets b))])),(Prod.mk (5:Nat) (num IntKind.i64 (IntKind.wrap IntKind.i64 (i + (1:Int)))))] [] [])=(KS.mk true [(Prod.mk (0:Nat) (T.v false [(Cm.d (D.r RK.nets s.fst))])),(Prod.mk (1:Nat) (T.v false [(Cm.d (D.r RK.nets s.snd.fst))])),(Prod.mk (5:Nat) (num IntKind.i64 s.snd.snd))] [] []))∧(∃ m:Nat,(m < n)∧((s.fst=a0)∧((s.snd.fst=b0)∧(((List.length s.fst)=(List.length s.snd.fst))∧(((List.length s.fst)≤(137438953472:Nat))∧((∀ y:(List NetS),(List.Mem y s.fst)→((List.length y)≤(137438953472:Nat))∧(∀ z:NetS,(List.Mem z y)→((List.length z.bytes)≤(137438953472:Nat))))∧(((0:Int)≤s.snd.snd)∧(((s.snd.snd + ((m:Nat):Int))=(((List.length s.fst):Nat):Int))∧((List.take (Int.toNat s.snd.snd) s.fst)=(List.take (Int.toNat s.snd.snd) s.snd.fst)))))))))))))))))) else (∃ r:Unit,((KS.mk true [] [] [])=(KS.mk true [] [] []))∧(a0=b0)) := by
  try dsimp only at hp
  obtain ⟨rfl, rfl, h1, h2, hw, h3, h4, h5⟩ := hi
  have hL : a.length ≤ 137438953472 := h2
  obtain ⟨i, rfl⟩ : ∃ m : Nat, i = m := ⟨i.toNat, by omega⟩
  rw [wr (x := (i : Int) + 1) (by omega) (by omega)]
  simp only [Int.toNat_natCast] at h5 ⊢
  refine iteI (fun h => ?_) (fun h => ?_)
  · have hi : i < a.length := by simp at h; omega
    refine ⟨⟨by omega, by omega⟩, ⟨by omega, by omega⟩, by trivial, ?_⟩
    have ea : a.take (i + 1) = a.take i ++ [at_nets a i] := take_at .nets a i hi
    have eb : b.take (i + 1) = b.take i ++ [at_nets b i] := take_at .nets b i (show i < b.length by omega)
    refine ⟨hw _ (at_mem .nets a i hi), fun r hr => ?_⟩
    subst hr
    repeat refine ⟨by trivial, ?_⟩
    refine iteI (fun hx => ?_) (fun hx => ?_)
    · refine ⟨(), by trivial, fun he => ?_⟩
      simp [he] at hx
    · refine ⟨(a, b, (i : Int) + 1), rfl, n - 1, by omega, rfl, rfl, h1, h2, hw, by dsimp only; omega, by dsimp only; omega, ?_⟩
      dsimp only
      rw [show ((i : Int) + 1).toNat = i + 1 by omega, ea, eb, h5]
      simp at hx
      exact congrArg (fun z => List.take i b ++ [z]) hx
  · have hi : i = a.length := by simp at h; omega
    subst hi
    refine ⟨(), by trivial, ?_⟩
    rw [List.take_length, h1, List.take_length] at h5
    exact h5
theorem vS_laws_eqNetMsgSS_0 (a0 : List (List NetS)) (b0 : List (List NetS)) (i0 : Int) (hp : (fun (a : List (List NetS)) (b : List (List NetS)) (i : Int) => (a.length = b.length ∧ i = 0 ∧ a.length ≤ LIM ∧ ∀ y ∈ a, y.length ≤ 137438953472 ∧ ∀ z ∈ y, z.bytes.length ≤ 137438953472)) a0 b0 i0) : ∃ n : Nat, (fun (a : List (List NetS)) (b : List (List NetS)) (i : Int) => (a = a0 ∧ b = b0 ∧ a.length = b.length ∧ a.length ≤ LIM ∧ (∀ y ∈ a, y.length ≤ 137438953472 ∧ ∀ z ∈ y, z.bytes.length ≤ 137438953472) ∧ 0 ≤ i ∧ i + n = a.length ∧ a.take i.toNat = b.take i.toNat)) a0 b0 i0 := by
  try dsimp only at hp
  try dsimp only
  obtain ⟨h1, h2, h3, hw⟩ := hp
  exact ⟨a0.length, rfl, rfl, h1, h3, hw, by omega, by omega, by subst h2; simp⟩
theorem w_laws_eqNetMsgSS : Valid Try.prog 31 c_laws_eqNetMsgSS :=
  valid_ctr2 (V := V_laws_eqNetMsgSS) (tysB_ok tys_ok) ⟨(CallsL.cons w_laws_eqNetMsgS (CallsL.nil _)), (IosL.nil _)⟩ mixed 0 0 Try.func31 rfl (by kernel_rfl)
    (fun c hc => by
      obtain rfl := Option.some.inj hc
      exact ⟨trivial, ⟨⟨trivial, ⟨⟨trivial, trivial⟩, trivial⟩⟩, ⟨⟨trivial, ⟨LoopD.ok2 (V := V_laws_eqNetMsgSS) l_laws_eqNetMsgSS_0 (LoopsM.cons 0 l_laws_eqNetMsgSS_0 LoopsM.nil) 0 _ i_laws_eqNetMsgSS_0 (fun x hx => vS_laws_eqNetMsgSS_0 x.1 x.2.1 x.2.2 hx) (fun x hx n s hi => ⟨_, by kernel_rfl, vL_laws_eqNetMsgSS_0 x.1 x.2.1 x.2.2 s.1 s.2.1 s.2.2 n hx hi⟩), ⟨⟨trivial, ⟨trivial, trivial⟩⟩, ⟨⟨trivial, ⟨⟨trivial, trivial⟩, trivial⟩⟩, trivial⟩⟩⟩⟩, ⟨trivial, trivial⟩⟩⟩⟩)
    (fun x K hp hk => ⟨_, by kernel_rfl, vF_laws_eqNetMsgSS x.1 x.2 K hp (fun r h => hk r h)⟩)
theorem vF_laws_eqWldEnd (a:EndS) (b:EndS) (K:List Arg→List (List AC)→Prop) (hp:EndM 137438953472 a) (hk:∀ (r:Bool),(r=decide (a=b))→K ([rB.to r]) ([])):(true=true)∧(((((List.length a.tx.flight)≤(137438953472:Nat))∧(∀ y:Part,(List.Mem y a.tx.flight)→((List.length y.data)≤(137438953472:Nat))))∧(((List.length a.tx.queue)≤(137438953472:Nat))∧(∀ y:Part,(List.Mem y a.tx.queue)→((List.length y.data)≤(137438953472:Nat)))))∧(∀ r:Bool,(r=(decide (a.tx=b.tx)))→(true=true)∧(if ((!r)=true) then ((true=true)∧(K [(aB false)] [])) else ((true=true)∧(((List.length a.rx.join.got)≤(137438953472:Nat))∧(∀ r1:Bool,(r1=(decide (a.rx=b.rx)))→(true=true)∧(if ((!r1)=true) then ((true=true)∧(K [(aB false)] [])) else ((true=true)∧((((List.length a.ctx.queue)≤(137438953472:Nat))∧(∀ y:Part,(List.Mem y a.ctx.queue)→((List.length y.data)≤(137438953472:Nat))))∧(∀ r2:Bool,(r2=(decide (a.ctx=b.ctx)))→(true=true)∧(if ((!r2)=true) then ((true=true)∧(K [(aB false)] [])) else ((true=true)∧(((List.length a.crx.join.got)≤(137438953472:Nat))∧(∀ r3:Bool,(r3=(decide (a.crx=b.crx)))→(true=true)∧(if ((!r3)=true) then ((true=true)∧(K [(aB false)] [])) else ((true=true)∧((((List.length a.put)≤(137438953472:Nat))∧(∀ y:(List Int),(List.Mem y a.put)→((List.length y)≤(137438953472:Nat))))∧(∀ r4:Bool,(r4=(decide (a.put=b.put)))→(true=true)∧(if ((!r4)=true) then ((true=true)∧(K [(aB false)] [])) else ((true=true)∧((((List.length a.got)≤(137438953472:Nat))∧(∀ y:(List Int),(List.Mem y a.got)→((List.length y)≤(137438953472:Nat))))∧(∀ r5:Bool,(r5=(decide (a.got=b.got)))→(true=true)∧(if ((!r5)=true) then ((true=true)∧(K [(aB false)] [])) else ((true=true)∧(K [(aB true)] []))))))))))))))))))))))))) := by
  repeat' first
    | exact rfl
    | exact True.intro
    | with_reducible apply And.intro
    | (with_reducible intro y_ hy_; subst hy_)
    | with_reducible intro y_
    | refine ifLtB (fun h => ?_) (fun h => ?_)
    | refine iteI (fun h => ?_) (fun h => ?_)
    | exact hp.tf
    | exact hp.tfd _ ‹List.Mem _ _›
    | exact hp.tq
    | exact hp.tqd _ ‹List.Mem _ _›
    | exact hp.rg
    | exact hp.cq
    | exact hp.cqd _ ‹List.Mem _ _›
    | exact hp.cg
    | exact hp.pl
    | exact hp.pd _ ‹List.Mem _ _›
    | exact hp.gl
    | exact hp.gd _ ‹List.Mem _ _›
    | exact hk _ (decide_eq_false (fun e => by subst e; simp at h)).symm
    | exact hk _ (decide_eq_true (end_eq (by simpa using ‹¬ (!decide (_ = (⟨b.tx.next, _, _, _, _, _, _, _, _, _⟩ : TxS))) = true›) (by simpa using ‹¬ (!decide (_ = (⟨b.rx.expect, _, _, _, _, _⟩ : RxS))) = true›) (by simpa using ‹¬ (!decide (_ = (⟨b.ctx.have_, _, _, _, _⟩ : CtS))) = true›) (by simpa using ‹¬ (!decide (_ = (⟨b.crx.out, _, _⟩ : CrS))) = true›) (by simpa using ‹¬ (!decide (_ = b.put)) = true›) (by simpa using ‹¬ (!decide (_ = b.got)) = true›))).symm
    | with_reducible assumption
    | omega
theorem w_laws_eqWldEnd : Valid Try.prog 50 c_laws_eqWldEnd :=
  valid_ctr2 (V := V_laws_eqWldEnd) (tysB_ok tys_ok) ⟨(CallsL.cons w_laws_eqTxState (CallsL.cons w_laws_eqRxState (CallsL.cons w_laws_eqCrdTx (CallsL.cons w_laws_eqCrdRx (CallsL.cons w_laws_eqByteSS (CallsL.nil _)))))), (IosL.nil _)⟩ mixed 0 2 Try.func50 rfl (by kernel_rfl)
    (fun c hc => by
      obtain rfl := Option.some.inj hc
      exact ⟨trivial, ⟨⟨trivial, ⟨⟨trivial, trivial⟩, trivial⟩⟩, ⟨⟨trivial, ⟨⟨trivial, trivial⟩, trivial⟩⟩, ⟨⟨trivial, ⟨⟨trivial, trivial⟩, trivial⟩⟩, ⟨⟨trivial, ⟨⟨trivial, trivial⟩, trivial⟩⟩, ⟨⟨trivial, ⟨⟨trivial, trivial⟩, trivial⟩⟩, ⟨⟨trivial, ⟨⟨trivial, trivial⟩, trivial⟩⟩, ⟨trivial, trivial⟩⟩⟩⟩⟩⟩⟩⟩)
    (fun x K hp hk => ⟨_, by kernel_rfl, vF_laws_eqWldEnd x.1 x.2 K hp (fun r h => hk r h)⟩)
theorem vF_laws_eqWldEndS (a:List EndS) (b:List EndS) (K:List Arg→List (List AC)→Prop) (hp:a.length≤LIM∧∀ y ∈ a,EndM 137438953472 y) (hk:∀ (r:Bool),(r=decide (a=b))→K ([rB.to r]) ([])):if (((((List.length a):Nat):Int) != (((List.length b):Nat):Int))=true) then ((true=true)∧(K [(aB false)] [])) else (∃ s:(Prod (List EndS) (Prod (List EndS) Int)),((KS.mk true [(Prod.mk (0:Nat) (T.v false [(Cm.d (D.r RK.wend a))])),(Prod.mk (1:Nat) (T.v false [(Cm.d (D.r RK.wend b))])),(Prod.mk (5:Nat) (num IntKind.i64 (0:Int)))] [] [])=(KS.mk true [(Prod.mk (0:Nat) (T.v false [(Cm.d (D.r RK.wend s.fst))])),(Prod.mk (1:Nat) (T.v false [(Cm.d (D.r RK.wend s.snd.fst))])),(Prod.mk (5:Nat) (num IntKind.i64 s.snd.snd))] [] []))∧((((List.length s.fst)=(List.length s.snd.fst))∧((s.snd.snd=(0:Int))∧(((List.length s.fst)≤(137438953472:Nat))∧(∀ y:EndS,(List.Mem y s.fst)→(EndM (137438953472:Nat) y)))))∧((∀ r:Unit,(s.fst=s.snd.fst)→(true=true)∧(K [(aB true)] []))∧(∀ r:Unit,(s.fst ≠ s.snd.fst)→(true=true)∧(K [(aB false)] []))))) := by
  refine iteI (fun h => ?_) (fun h => ?_)
  · refine ⟨by trivial, hk false ?_⟩
    symm; rw [decide_eq_false_iff_not]; rintro rfl; simp at h
  · have h1 : a.length = b.length := by simp at h; omega
    refine ⟨(a, b, 0), rfl, ⟨h1, rfl, hp.1, hp.2⟩, fun _ hr => ⟨by trivial, hk true (by simp; exact hr)⟩, fun _ hr => ⟨by trivial, hk false (by simp; exact hr)⟩⟩
theorem vL_laws_eqWldEndS_0 (a0:List EndS) (b0:List EndS) (i0:Int) (a:List EndS) (b:List EndS) (i:Int) (n:Nat) (hp:(fun (a:List EndS) (b:List EndS) (i:Int) => (a.length=b.length∧i=0∧a.length≤LIM∧∀ y ∈ a,EndM 137438953472 y)) a0 b0 i0) (hi:a=a0∧b=b0∧a.length=b.length∧a.length≤LIM∧(∀ y ∈ a,EndM 137438953472 y)∧0≤i∧i + n=a.length∧a.take i.toNat=b.take i.toNat):if ((decide (i < (((List.length a):Nat):Int)))=true) then ((((0:Int)≤i)∧(i < (((List.length a):Nat):Int)))∧((((0:Int)≤i)∧(i < (((List.length b):Nat):Int)))∧((true=true)∧((EndM (137438953472:Nat) (at_wend a (Int.toNat i)))∧(∀ r:Bool,(r=(decide ((at_wend a (Int.toNat i))=(at_wend b (Int.toNat i)))))→(true=true)∧((true=true)∧(if ((!r)=true) then (∃ r1:Unit,((KS.mk true [(Prod.mk (4:Nat) (boo false))] [] [])=(KS.mk true [(Prod.mk (4:Nat) (boo false))] [] []))∧(a0 ≠ b0)) else (∃ s:(Prod (List EndS) (Prod (List EndS) Int)),((KS.mk true [(Prod.mk (0:Nat) (T.v false [(Cm.d (D.r RK.wend a))])),(Prod.mk (1:Nat) (T.v false [(Cm.d (D.r RK.wend b))])),(Prod.mk (5:Nat) (num IntKind.i64 (IntKind.wrap IntKind.i64 (i + (1:Int)))))] [] [])=(KS.mk true [(Prod.mk (0:Nat) (T.v false [(Cm.d (D.r RK.wend s.fst))])),(Prod.mk (1:Nat) (T.v false [(Cm.d (D.r RK.wend s.snd.fst))])),(Prod.mk (5:Nat) (num IntKind.i64 s.snd.snd))] [] []))∧(∃ m:Nat,(m < n)∧((s.fst=a0)∧((s.snd.fst=b0)∧(((List.length s.fst)=(List.length s.snd.fst))∧(((List.length s.fst)≤(137438953472:Nat))∧((∀ y:EndS,(List.Mem y s.fst)→(EndM (137438953472:Nat) y))∧(((0:Int)≤s.snd.snd)∧(((s.snd.snd + ((m:Nat):Int))=(((List.length s.fst):Nat):Int))∧((List.take (Int.toNat s.snd.snd) s.fst)=(List.take (Int.toNat s.snd.snd) s.snd.fst)))))))))))))))))) else (∃ r:Unit,((KS.mk true [] [] [])=(KS.mk true [] [] []))∧(a0=b0)) := by
  try dsimp only at hp
  obtain ⟨rfl, rfl, h1, h2, hw, h3, h4, h5⟩ := hi
  have hL : a.length ≤ 137438953472 := h2
  obtain ⟨i, rfl⟩ : ∃ m : Nat, i = m := ⟨i.toNat, by omega⟩
  rw [wr (x := (i : Int) + 1) (by omega) (by omega)]
  simp only [Int.toNat_natCast] at h5 ⊢
  refine iteI (fun h => ?_) (fun h => ?_)
  · have hi : i < a.length := by simp at h; omega
    refine ⟨⟨by omega, by omega⟩, ⟨by omega, by omega⟩, by trivial, ?_⟩
    have ea : a.take (i + 1) = a.take i ++ [at_wend a i] := take_at .wend a i hi
    have eb : b.take (i + 1) = b.take i ++ [at_wend b i] := take_at .wend b i (show i < b.length by omega)
    refine ⟨hw _ (at_mem .wend a i hi), fun r hr => ?_⟩
    subst hr
    repeat refine ⟨by trivial, ?_⟩
    refine iteI (fun hx => ?_) (fun hx => ?_)
    · refine ⟨(), by trivial, fun he => ?_⟩
      simp [he] at hx
    · refine ⟨(a, b, (i : Int) + 1), rfl, n - 1, by omega, rfl, rfl, h1, h2, hw, by dsimp only; omega, by dsimp only; omega, ?_⟩
      dsimp only
      rw [show ((i : Int) + 1).toNat = i + 1 by omega, ea, eb, h5]
      simp at hx
      exact congrArg (fun z => List.take i b ++ [z]) hx
  · have hi : i = a.length := by simp at h; omega
    subst hi
    refine ⟨(), by trivial, ?_⟩
    rw [List.take_length, h1, List.take_length] at h5
    exact h5
theorem vS_laws_eqWldEndS_0 (a0 : List EndS) (b0 : List EndS) (i0 : Int) (hp : (fun (a : List EndS) (b : List EndS) (i : Int) => (a.length = b.length ∧ i = 0 ∧ a.length ≤ LIM ∧ ∀ y ∈ a, EndM 137438953472 y)) a0 b0 i0) : ∃ n : Nat, (fun (a : List EndS) (b : List EndS) (i : Int) => (a = a0 ∧ b = b0 ∧ a.length = b.length ∧ a.length ≤ LIM ∧ (∀ y ∈ a, EndM 137438953472 y) ∧ 0 ≤ i ∧ i + n = a.length ∧ a.take i.toNat = b.take i.toNat)) a0 b0 i0 := by
  try dsimp only at hp
  try dsimp only
  obtain ⟨h1, h2, h3, hw⟩ := hp
  exact ⟨a0.length, rfl, rfl, h1, h3, hw, by omega, by omega, by subst h2; simp⟩
theorem w_laws_eqWldEndS : Valid Try.prog 30 c_laws_eqWldEndS :=
  valid_ctr2 (V := V_laws_eqWldEndS) (tysB_ok tys_ok) ⟨(CallsL.cons w_laws_eqWldEnd (CallsL.nil _)), (IosL.nil _)⟩ mixed 0 0 Try.func30 rfl (by kernel_rfl)
    (fun c hc => by
      obtain rfl := Option.some.inj hc
      exact ⟨trivial, ⟨⟨trivial, ⟨⟨trivial, trivial⟩, trivial⟩⟩, ⟨⟨trivial, ⟨LoopD.ok2 (V := V_laws_eqWldEndS) l_laws_eqWldEndS_0 (LoopsM.cons 0 l_laws_eqWldEndS_0 LoopsM.nil) 0 _ i_laws_eqWldEndS_0 (fun x hx => vS_laws_eqWldEndS_0 x.1 x.2.1 x.2.2 hx) (fun x hx n s hi => ⟨_, by kernel_rfl, vL_laws_eqWldEndS_0 x.1 x.2.1 x.2.2 s.1 s.2.1 s.2.2 n hx hi⟩), ⟨⟨trivial, ⟨trivial, trivial⟩⟩, ⟨⟨trivial, ⟨⟨trivial, trivial⟩, trivial⟩⟩, trivial⟩⟩⟩⟩, ⟨trivial, trivial⟩⟩⟩⟩)
    (fun x K hp hk => ⟨_, by kernel_rfl, vF_laws_eqWldEndS x.1 x.2 K hp (fun r h => hk r h)⟩)
theorem vF_laws_eqCfgOpts (a:Cfg) (b:Cfg) (K:List Arg→List (List AC)→Prop) (hp:True) (hk:∀ (r:Bool),(r=decide (a=b))→K ([rB.to r]) ([])):if ((a.mode != b.mode)=true) then ((true=true)∧(K [(aB false)] [])) else (if ((a.win != b.win)=true) then ((true=true)∧(K [(aB false)] [])) else (if ((a.mps != b.mps)=true) then ((true=true)∧(K [(aB false)] [])) else (if ((a.mtu != b.mtu)=true) then ((true=true)∧(K [(aB false)] [])) else (if ((a.try_ != b.try_)=true) then ((true=true)∧(K [(aB false)] [])) else ((true=true)∧(K [(aB true)] [])))))) := by
  obtain ⟨_, _, _, _, _⟩ := a
  obtain ⟨_, _, _, _, _⟩ := b

  repeat' first
    | exact rfl
    | exact True.intro
    | with_reducible apply And.intro
    | (with_reducible intro y_ hy_; subst hy_)
    | with_reducible intro y_
    | (refine iteI (fun h => ?_) (fun h => ?_))
  all_goals try simp only [Bool.not_eq_true', decide_eq_false_iff_not, decide_eq_true_eq, Bool.not_eq_true, bne_iff_ne, beq_iff_eq, ne_eq, Decidable.not_not, Bool.not_eq_false, gt_iff_lt, ge_iff_le, Int.not_le, Int.not_lt, beq_eq_false_iff_ne, bne_eq_false_iff_eq, Bool.and_eq_true, Bool.or_eq_true, Bool.true_eq_false, Bool.false_eq_true] at *
  all_goals try simp (disch := first | omega | grind []) only [wr] at *
  all_goals first
    | assumption
    | omega
    | exact hk _ (by grind [])
    | (simp only [LIM] at *; omega)
    | grind [LIM]
theorem w_laws_eqCfgOpts : Valid Try.prog 29 c_laws_eqCfgOpts :=
  valid_ctr2 (V := V_laws_eqCfgOpts) (tysB_ok tys_ok) ⟨(CallsL.nil _), (IosL.nil _)⟩ mixed 0 2 Try.func29 rfl (by kernel_rfl)
    (fun c hc => by
      obtain rfl := Option.some.inj hc
      exact ⟨trivial, ⟨⟨trivial, ⟨⟨trivial, trivial⟩, trivial⟩⟩, ⟨⟨trivial, ⟨⟨trivial, trivial⟩, trivial⟩⟩, ⟨⟨trivial, ⟨⟨trivial, trivial⟩, trivial⟩⟩, ⟨⟨trivial, ⟨⟨trivial, trivial⟩, trivial⟩⟩, ⟨⟨trivial, ⟨⟨trivial, trivial⟩, trivial⟩⟩, ⟨trivial, trivial⟩⟩⟩⟩⟩⟩⟩)
    (fun x K hp hk => ⟨_, by kernel_rfl, vF_laws_eqCfgOpts x.1 x.2 K hp (fun r h => hk r h)⟩)
theorem vF_laws_eqWldWorld (a:WldS) (b:WldS) (K:List Arg→List (List AC)→Prop) (hp:WldM 137438953472 a) (hk:∀ (r:Bool),(r=decide (a=b))→K ([rB.to r]) ([])):(true=true)∧(True∧(∀ r:Bool,(r=(decide (a.cfg=b.cfg)))→(true=true)∧(if ((!r)=true) then ((true=true)∧(K [(aB false)] [])) else ((true=true)∧((((List.length a.ends)≤(137438953472:Nat))∧(∀ y:EndS,(List.Mem y a.ends)→(EndM (137438953472:Nat) y)))∧(∀ r1:Bool,(r1=(decide (a.ends=b.ends)))→(true=true)∧(if ((!r1)=true) then ((true=true)∧(K [(aB false)] [])) else ((true=true)∧((((List.length a.net)≤(137438953472:Nat))∧(∀ y:(List NetS),(List.Mem y a.net)→((List.length y)≤(137438953472:Nat))∧(∀ z:NetS,(List.Mem z y)→((List.length z.bytes)≤(137438953472:Nat)))))∧(∀ r2:Bool,(r2=(decide (a.net=b.net)))→(true=true)∧(if ((!r2)=true) then ((true=true)∧(K [(aB false)] [])) else (if ((a.link != b.link)=true) then ((true=true)∧(K [(aB false)] [])) else ((true=true)∧(K [(aB true)] [])))))))))))))) := by
  repeat' first
    | exact rfl
    | exact True.intro
    | with_reducible apply And.intro
    | (with_reducible intro y_ hy_; subst hy_)
    | with_reducible intro y_
    | refine ifLtB (fun h => ?_) (fun h => ?_)
    | refine iteI (fun h => ?_) (fun h => ?_)
    | exact hp.el
    | exact hp.ed _ ‹List.Mem _ _›
    | exact hp.nl
    | exact (hp.nd _ ‹List.Mem _ _›).len
    | exact (hp.nd _ ‹List.Mem _ _›).dat _ (by assumption)
    | exact hk _ (decide_eq_false (fun e => by subst e; simp at h)).symm
    | exact hk _ (decide_eq_true (wld_eq (by simpa using ‹¬ (!decide (_ = (⟨b.cfg.mode, _, _, _, _⟩ : Cfg))) = true›) (by simpa using ‹¬ (!decide (_ = b.ends)) = true›) (by simpa using ‹¬ (!decide (_ = b.net)) = true›) (by simpa using ‹¬ (_ != b.link) = true›))).symm
    | with_reducible assumption
    | omega
theorem w_laws_eqWldWorld : Valid Try.prog 9 c_laws_eqWldWorld :=
  valid_ctr2 (V := V_laws_eqWldWorld) (tysB_ok tys_ok) ⟨(CallsL.cons w_laws_eqCfgOpts (CallsL.cons w_laws_eqWldEndS (CallsL.cons w_laws_eqNetMsgSS (CallsL.nil _)))), (IosL.nil _)⟩ mixed 0 2 Try.func9 rfl (by kernel_rfl)
    (fun c hc => by
      obtain rfl := Option.some.inj hc
      exact ⟨trivial, ⟨⟨trivial, ⟨⟨trivial, trivial⟩, trivial⟩⟩, ⟨⟨trivial, ⟨⟨trivial, trivial⟩, trivial⟩⟩, ⟨⟨trivial, ⟨⟨trivial, trivial⟩, trivial⟩⟩, ⟨⟨trivial, ⟨⟨trivial, trivial⟩, trivial⟩⟩, ⟨trivial, trivial⟩⟩⟩⟩⟩⟩)
    (fun x K hp hk => ⟨_, by kernel_rfl, vF_laws_eqWldWorld x.1 x.2 K hp (fun r h => hk r h)⟩)
theorem vF_laws_szByteSS (a:List (List Int)) (l:Int) (K:List Arg→List (List AC)→Prop) (hp:(a.length≤9223372036854775807∧∀ x ∈ a,x.length≤9223372036854775807)∧0≤l∧l≤1048576) (hk:∀ (r:Int),((0≤r∧r≤l∧a.length≤1048576∧∀ x ∈ a,x.length≤1048576)∨r=-1)→K ([rInt.to r]) ([])):if ((decide ((IntKind.wrap IntKind.i64 (l - (((List.length a):Nat):Int))) < (0:Int)))=true) then ((true=true)∧(K [(aI IntKind.i64 (-1:Int))] [])) else (∃ s:(Prod (List (List Int)) (Prod Int Int)),((KS.mk true [(Prod.mk (0:Nat) (T.v false [(Cm.d (D.r RK.byr a))])),(Prod.mk (1:Nat) (num IntKind.i64 (IntKind.wrap IntKind.i64 (l - (((List.length a):Nat):Int))))),(Prod.mk (5:Nat) (num IntKind.i64 (0:Int)))] [] [])=(KS.mk true [(Prod.mk (0:Nat) (T.v false [(Cm.d (D.r RK.byr s.fst))])),(Prod.mk (1:Nat) (num IntKind.i64 s.snd.fst)),(Prod.mk (5:Nat) (num IntKind.i64 s.snd.snd))] [] []))∧(((s.snd.snd=(0:Int))∧((∀ x:(List Int),(List.Mem x s.fst)→((List.length x)≤(9223372036854775807:Nat)))∧(((List.length s.fst)≤(1048576:Nat))∧(((0:Int)≤s.snd.fst)∧(s.snd.fst≤(1048576:Int))))))∧((∀ r:Int,(((0:Int)≤r)∧((r≤s.snd.fst)∧(∀ x:(List Int),((Membership.mem s.fst x)→((List.length x)≤(1048576:Nat))))))→(true=true)∧(K [(aI IntKind.i64 r)] []))∧(∀ r:Unit,True→(true=true)∧(K [(aI IntKind.i64 (-1:Int))] []))))) := by
  obtain ⟨⟨h1, h4⟩, h2, h3⟩ := hp
  rw [wr (x := l - a.length) (by omega) (by omega)]
  repeat' first
    | exact rfl
    | exact True.intro
    | exact hk _ (.inr rfl)
    | with_reducible apply And.intro
    | refine ifLtB (fun h => ?_) (fun h => ?_)
  all_goals first
    | exact ⟨(a, l - a.length, 0), rfl, ⟨rfl, h4, by dsimp only; omega, by dsimp only; omega, by dsimp only; omega⟩, fun r hr => ⟨rfl, hk r (.inl ⟨hr.1, by have := hr.2.1; dsimp only at this; omega, by omega, hr.2.2⟩)⟩, fun r hr => ⟨rfl, hk _ (.inr rfl)⟩⟩
theorem vL_laws_szByteSS_0 (a0:List (List Int)) (l0:Int) (i0:Int) (a:List (List Int)) (l:Int) (i:Int) (n:Nat) (hp:(fun (a:List (List Int)) (l:Int) (i:Int) => (i=0∧(∀ x ∈ a,x.length≤9223372036854775807)∧a.length≤1048576∧0≤l∧l≤1048576)) a0 l0 i0) (hi:a=a0∧0≤l∧l≤l0∧(∀ x ∈ a.take i.toNat,x.length≤1048576)∧0≤i∧i + n=a.length):if ((decide (i < (((List.length a):Nat):Int)))=true) then ((((0:Int)≤i)∧(i < (((List.length a):Nat):Int)))∧((true=true)∧((((List.length (at_byr a (Int.toNat i)))≤(9223372036854775807:Nat))∧(((0:Int)≤l)∧(l≤(1048576:Int))))∧(∀ r:Int,(((r=(l - (((List.length (at_byr a (Int.toNat i))):Nat):Int)))∧((0:Int)≤r))∨((r=(-1:Int))∧(l < (((List.length (at_byr a (Int.toNat i))):Nat):Int))))→(true=true)∧(if ((decide (r < (0:Int)))=true) then (∃ r1:Unit,((KS.mk true [(Prod.mk (4:Nat) (num IntKind.i64 (-1:Int)))] [] [])=(KS.mk true [(Prod.mk (4:Nat) (num IntKind.i64 (-1:Int)))] [] []))∧True) else (∃ s:(Prod (List (List Int)) (Prod Int Int)),((KS.mk true [(Prod.mk (0:Nat) (T.v false [(Cm.d (D.r RK.byr a))])),(Prod.mk (1:Nat) (num IntKind.i64 r)),(Prod.mk (5:Nat) (num IntKind.i64 (IntKind.wrap IntKind.i64 (i + (1:Int)))))] [] [])=(KS.mk true [(Prod.mk (0:Nat) (T.v false [(Cm.d (D.r RK.byr s.fst))])),(Prod.mk (1:Nat) (num IntKind.i64 s.snd.fst)),(Prod.mk (5:Nat) (num IntKind.i64 s.snd.snd))] [] []))∧(∃ m:Nat,(m < n)∧((s.fst=a0)∧(((0:Int)≤s.snd.fst)∧((s.snd.fst≤l0)∧((∀ x:(List Int),(List.Mem x (List.take (Int.toNat s.snd.snd) s.fst))→((List.length x)≤(1048576:Nat)))∧(((0:Int)≤s.snd.snd)∧((s.snd.snd + ((m:Nat):Int))=(((List.length s.fst):Nat):Int)))))))))))))) else (∃ r:Int,((KS.mk true [(Prod.mk (1:Nat) (num IntKind.i64 l))] [] [])=(KS.mk true [(Prod.mk (1:Nat) (num IntKind.i64 r))] [] []))∧(((0:Int)≤r)∧((r≤l0)∧(∀ x:(List Int),(List.Mem x a0)→((List.length x)≤(1048576:Nat)))))) := by
  try dsimp only at hp
  obtain ⟨_, p1, p2, p3, p4⟩ := hp
  obtain ⟨rfl, h1, h2, h3, h4, h5⟩ := hi
  obtain ⟨i, rfl⟩ : ∃ q : Nat, i = q := ⟨i.toNat, by omega⟩
  simp only [Int.toNat_natCast] at h3 ⊢
  rw [wr (x := (i : Int) + 1) (by omega) (by omega)]
  cases n with
  | zero =>
    rw [if_neg (by simp; omega)]
    have hi : i = a.length := by omega
    subst hi
    rw [List.take_length] at h3
    exact ⟨l, rfl, h1, h2, h3⟩
  | succ n =>
    have hi : i < a.length := by omega
    rw [if_pos (by simp; omega)]
    have hd := p1 _ (at_mem .byr a i hi)
    have hd' : (at_byr a i).length ≤ 9223372036854775807 := hd
    have ea : a.take (i + 1) = a.take i ++ [at_byr a i] := take_at .byr a i hi
    repeat' first
      | exact rfl
      | exact True.intro
      | with_reducible apply And.intro
      | exact hd'
      | omega
      | with_reducible intro r hr
      | with_reducible intro y_
      | refine ifLtB (fun h => ?_) (fun h => ?_)
    all_goals first
      | exact ⟨(), by trivial, trivial⟩
      | (have hr' : (0 ≤ r ∧ r ≤ l ∧ (at_byr a i).length ≤ 1048576) ∨ r = -1 := by
           first
           | omega
           | (rcases hr with q | q
              · first | exact .inl q | exact .inl ⟨q.1, q.2.1, ⟨q.2.2.1, q.2.2.2⟩⟩
              · exact .inr q)
         obtain ⟨g1, g2, g3⟩ : 0 ≤ r ∧ r ≤ l ∧ (at_byr a i).length ≤ 1048576 := hr'.resolve_right (by omega)
         refine ⟨(a, r, (i : Int) + 1), rfl, n, by omega, rfl, g1, by dsimp only; omega, ?_, by dsimp only; omega, by dsimp only; omega⟩
         show ∀ x ∈ a.take ((i : Int) + 1).toNat, x.length ≤ 1048576
         rw [show ((i : Int) + 1).toNat = i + 1 by omega, ea]
         intro x hx
         rcases List.mem_append.1 hx with hx | hx
         · exact h3 x hx
         · rw [List.mem_singleton.1 hx]; exact g3)
theorem vS_laws_szByteSS_0 (a0 : List (List Int)) (l0 : Int) (i0 : Int) (hp : (fun (a : List (List Int)) (l : Int) (i : Int) => (i = 0 ∧ (∀ x ∈ a, x.length ≤ 9223372036854775807) ∧ a.length ≤ 1048576 ∧ 0 ≤ l ∧ l ≤ 1048576)) a0 l0 i0) : ∃ n : Nat, (fun (a : List (List Int)) (l : Int) (i : Int) => (a = a0 ∧ 0 ≤ l ∧ l ≤ l0 ∧ (∀ x ∈ a.take i.toNat, x.length ≤ 1048576) ∧ 0 ≤ i ∧ i + n = a.length)) a0 l0 i0 := by
  try dsimp only at hp
  try dsimp only
  obtain ⟨rfl, h1, h2, h3, h4⟩ := hp
  exact ⟨a0.length, rfl, h3, by omega, fun x hx => (by cases hx), by omega, by omega⟩
theorem w_laws_szByteSS : Valid Try.prog 57 c_laws_szByteSS :=
  valid_ctr2 (V := V_laws_szByteSS) (tysB_ok tys_ok) ⟨(CallsL.cons w_laws_szByteS (CallsL.nil _)), (IosL.nil _)⟩ mixed 0 0 Try.func57 rfl (by kernel_rfl)
    (fun c hc => by
      obtain rfl := Option.some.inj hc
      exact ⟨trivial, ⟨trivial, ⟨⟨trivial, ⟨⟨trivial, trivial⟩, trivial⟩⟩, ⟨⟨trivial, ⟨LoopD.ok2 (V := V_laws_szByteSS) l_laws_szByteSS_0 (LoopsM.cons 0 l_laws_szByteSS_0 LoopsM.nil) 0 _ i_laws_szByteSS_0 (fun x hx => vS_laws_szByteSS_0 x.1 x.2.1 x.2.2 hx) (fun x hx n s hi => ⟨_, by kernel_rfl, vL_laws_szByteSS_0 x.1 x.2.1 x.2.2 s.1 s.2.1 s.2.2 n hx hi⟩), ⟨⟨trivial, ⟨trivial, trivial⟩⟩, ⟨⟨trivial, ⟨trivial, ⟨⟨trivial, trivial⟩, trivial⟩⟩⟩, trivial⟩⟩⟩⟩, ⟨trivial, trivial⟩⟩⟩⟩⟩)
    (fun x K hp hk => ⟨_, by kernel_rfl, vF_laws_szByteSS x.1 x.2 K hp (fun r h => hk r h)⟩)
theorem vF_laws_szNetMsg (m:NetS) (l:Int) (K:List Arg→List (List AC)→Prop) (hp:m.bytes.length≤9223372036854775807∧0≤l∧l≤1048576) (hk:∀ (r:Int),((0≤r∧r≤l∧m.bytes.length≤1048576)∨r=-1)→K ([rInt.to r]) ([])):(true=true)∧((((List.length m.bytes)≤(9223372036854775807:Nat))∧(((0:Int)≤l)∧(l≤(1048576:Int))))∧(∀ r:Int,(((r=(l - (((List.length m.bytes):Nat):Int)))∧((0:Int)≤r))∨((r=(-1:Int))∧(l < (((List.length m.bytes):Nat):Int))))→(true=true)∧(if ((decide (r < (0:Int)))=true) then ((true=true)∧(K [(aI IntKind.i64 (-1:Int))] [])) else ((true=true)∧(K [(aI IntKind.i64 r)] []))))) := by
  obtain ⟨h1, h2, h3⟩ := hp

  repeat' first
    | exact rfl
    | exact True.intro
    | with_reducible apply And.intro
    | (with_reducible intro y_ hy_; subst hy_)
    | with_reducible intro y_
    | refine ifLtB (fun h => ?_) (fun h => ?_)
    | refine iteI (fun h => ?_) (fun h => ?_)
    | exact hk _ (.inr rfl)
    | exact hk _ (.inl ⟨by omega, by omega, by omega⟩)
    | with_reducible assumption
    | omega
theorem w_laws_szNetMsg : Valid Try.prog 58 c_laws_szNetMsg :=
  valid_ctr2 (V := V_laws_szNetMsg) (tysB_ok tys_ok) ⟨(CallsL.cons w_laws_szByteS (CallsL.nil _)), (IosL.nil _)⟩ mixed 0 1 Try.func58 rfl (by kernel_rfl)
    (fun c hc => by
      obtain rfl := Option.some.inj hc
      exact ⟨trivial, ⟨trivial, ⟨⟨trivial, ⟨⟨trivial, trivial⟩, trivial⟩⟩, ⟨trivial, trivial⟩⟩⟩⟩)
    (fun x K hp hk => ⟨_, by kernel_rfl, vF_laws_szNetMsg x.1 x.2 K hp (fun r h => hk r h)⟩)
theorem vF_laws_szNetMsgS (a:List NetS) (l:Int) (K:List Arg→List (List AC)→Prop) (hp:(a.length≤9223372036854775807∧∀ x ∈ a,x.bytes.length≤9223372036854775807)∧0≤l∧l≤1048576) (hk:∀ (r:Int),((0≤r∧r≤l∧a.length≤1048576∧∀ x ∈ a,x.bytes.length≤1048576)∨r=-1)→K ([rInt.to r]) ([])):if ((decide ((IntKind.wrap IntKind.i64 (l - (((List.length a):Nat):Int))) < (0:Int)))=true) then ((true=true)∧(K [(aI IntKind.i64 (-1:Int))] [])) else (∃ s:(Prod (List NetS) (Prod Int Int)),((KS.mk true [(Prod.mk (0:Nat) (T.v false [(Cm.d (D.r RK.netm a))])),(Prod.mk (1:Nat) (num IntKind.i64 (IntKind.wrap IntKind.i64 (l - (((List.length a):Nat):Int))))),(Prod.mk (5:Nat) (num IntKind.i64 (0:Int)))] [] [])=(KS.mk true [(Prod.mk (0:Nat) (T.v false [(Cm.d (D.r RK.netm s.fst))])),(Prod.mk (1:Nat) (num IntKind.i64 s.snd.fst)),(Prod.mk (5:Nat) (num IntKind.i64 s.snd.snd))] [] []))∧(((s.snd.snd=(0:Int))∧((∀ x:NetS,(List.Mem x s.fst)→((List.length x.bytes)≤(9223372036854775807:Nat)))∧(((List.length s.fst)≤(1048576:Nat))∧(((0:Int)≤s.snd.fst)∧(s.snd.fst≤(1048576:Int))))))∧((∀ r:Int,(((0:Int)≤r)∧((r≤s.snd.fst)∧(∀ x:NetS,((Membership.mem s.fst x)→((List.length x.bytes)≤(1048576:Nat))))))→(true=true)∧(K [(aI IntKind.i64 r)] []))∧(∀ r:Unit,True→(true=true)∧(K [(aI IntKind.i64 (-1:Int))] []))))) := by
  obtain ⟨⟨h1, h4⟩, h2, h3⟩ := hp
  rw [wr (x := l - a.length) (by omega) (by omega)]
  repeat' first
    | exact rfl
    | exact True.intro
    | exact hk _ (.inr rfl)
    | with_reducible apply And.intro
    | refine ifLtB (fun h => ?_) (fun h => ?_)
  all_goals first
    | exact ⟨(a, l - a.length, 0), rfl, ⟨rfl, h4, by dsimp only; omega, by dsimp only; omega, by dsimp only; omega⟩, fun r hr => ⟨rfl, hk r (.inl ⟨hr.1, by have := hr.2.1; dsimp only at this; omega, by omega, hr.2.2⟩)⟩, fun r hr => ⟨rfl, hk _ (.inr rfl)⟩⟩
theorem vL_laws_szNetMsgS_0 (a0:List NetS) (l0:Int) (i0:Int) (a:List NetS) (l:Int) (i:Int) (n:Nat) (hp:(fun (a:List NetS) (l:Int) (i:Int) => (i=0∧(∀ x ∈ a,x.bytes.length≤9223372036854775807)∧a.length≤1048576∧0≤l∧l≤1048576)) a0 l0 i0) (hi:a=a0∧0≤l∧l≤l0∧(∀ x ∈ a.take i.toNat,x.bytes.length≤1048576)∧0≤i∧i + n=a.length):if ((decide (i < (((List.length a):Nat):Int)))=true) then ((((0:Int)≤i)∧(i < (((List.length a):Nat):Int)))∧((true=true)∧((((List.length (at_netm a (Int.toNat i)).bytes)≤(9223372036854775807:Nat))∧(((0:Int)≤l)∧(l≤(1048576:Int))))∧(∀ r:Int,((((0:Int)≤r)∧((r≤l)∧((List.length (at_netm a (Int.toNat i)).bytes)≤(1048576:Nat))))∨(r=(-1:Int)))→(true=true)∧(if ((decide (r < (0:Int)))=true) then (∃ r1:Unit,((KS.mk true [(Prod.mk (4:Nat) (num IntKind.i64 (-1:Int)))] [] [])=(KS.mk true [(Prod.mk (4:Nat) (num IntKind.i64 (-1:Int)))] [] []))∧True) else (∃ s:(Prod (List NetS) (Prod Int Int)),((KS.mk true [(Prod.mk (0:Nat) (T.v false [(Cm.d (D.r RK.netm a))])),(Prod.mk (1:Nat) (num IntKind.i64 r)),(Prod.mk (5:Nat) (num IntKind.i64 (IntKind.wrap IntKind.i64 (i + (1:Int)))))] [] [])=(KS.mk true [(Prod.mk (0:Nat) (T.v false [(Cm.d (D.r RK.netm s.fst))])),(Prod.mk (1:Nat) (num IntKind.i64 s.snd.fst)),(Prod.mk (5:Nat) (num IntKind.i64 s.snd.snd))] [] []))∧(∃ m:Nat,(m < n)∧((s.fst=a0)∧(((0:Int)≤s.snd.fst)∧((s.snd.fst≤l0)∧((∀ x:NetS,(List.Mem x (List.take (Int.toNat s.snd.snd) s.fst))→((List.length x.bytes)≤(1048576:Nat)))∧(((0:Int)≤s.snd.snd)∧((s.snd.snd + ((m:Nat):Int))=(((List.length s.fst):Nat):Int)))))))))))))) else (∃ r:Int,((KS.mk true [(Prod.mk (1:Nat) (num IntKind.i64 l))] [] [])=(KS.mk true [(Prod.mk (1:Nat) (num IntKind.i64 r))] [] []))∧(((0:Int)≤r)∧((r≤l0)∧(∀ x:NetS,(List.Mem x a0)→((List.length x.bytes)≤(1048576:Nat)))))) := by
  try dsimp only at hp
  obtain ⟨_, p1, p2, p3, p4⟩ := hp
  obtain ⟨rfl, h1, h2, h3, h4, h5⟩ := hi
  obtain ⟨i, rfl⟩ : ∃ q : Nat, i = q := ⟨i.toNat, by omega⟩
  simp only [Int.toNat_natCast] at h3 ⊢
  rw [wr (x := (i : Int) + 1) (by omega) (by omega)]
  cases n with
  | zero =>
    rw [if_neg (by simp; omega)]
    have hi : i = a.length := by omega
    subst hi
    rw [List.take_length] at h3
    exact ⟨l, rfl, h1, h2, h3⟩
  | succ n =>
    have hi : i < a.length := by omega
    rw [if_pos (by simp; omega)]
    have hd := p1 _ (at_mem .netm a i hi)
    have hd' : (at_netm a i).bytes.length ≤ 9223372036854775807 := hd
    have ea : a.take (i + 1) = a.take i ++ [at_netm a i] := take_at .netm a i hi
    repeat' first
      | exact rfl
      | exact True.intro
      | with_reducible apply And.intro
      | exact hd'
      | omega
      | with_reducible intro r hr
      | with_reducible intro y_
      | refine ifLtB (fun h => ?_) (fun h => ?_)
    all_goals first
      | exact ⟨(), by trivial, trivial⟩
      | (have hr' : (0 ≤ r ∧ r ≤ l ∧ (at_netm a i).bytes.length ≤ 1048576) ∨ r = -1 := by
           first
           | omega
           | (rcases hr with q | q
              · first | exact .inl q | exact .inl ⟨q.1, q.2.1, ⟨q.2.2.1, q.2.2.2⟩⟩
              · exact .inr q)
         obtain ⟨g1, g2, g3⟩ : 0 ≤ r ∧ r ≤ l ∧ (at_netm a i).bytes.length ≤ 1048576 := hr'.resolve_right (by omega)
         refine ⟨(a, r, (i : Int) + 1), rfl, n, by omega, rfl, g1, by dsimp only; omega, ?_, by dsimp only; omega, by dsimp only; omega⟩
         show ∀ x ∈ a.take ((i : Int) + 1).toNat, x.bytes.length ≤ 1048576
         rw [show ((i : Int) + 1).toNat = i + 1 by omega, ea]
         intro x hx
         rcases List.mem_append.1 hx with hx | hx
         · exact h3 x hx
         · rw [List.mem_singleton.1 hx]; exact g3)
theorem vS_laws_szNetMsgS_0 (a0 : List NetS) (l0 : Int) (i0 : Int) (hp : (fun (a : List NetS) (l : Int) (i : Int) => (i = 0 ∧ (∀ x ∈ a, x.bytes.length ≤ 9223372036854775807) ∧ a.length ≤ 1048576 ∧ 0 ≤ l ∧ l ≤ 1048576)) a0 l0 i0) : ∃ n : Nat, (fun (a : List NetS) (l : Int) (i : Int) => (a = a0 ∧ 0 ≤ l ∧ l ≤ l0 ∧ (∀ x ∈ a.take i.toNat, x.bytes.length ≤ 1048576) ∧ 0 ≤ i ∧ i + n = a.length)) a0 l0 i0 := by
  try dsimp only at hp
  try dsimp only
  obtain ⟨rfl, h1, h2, h3, h4⟩ := hp
  exact ⟨a0.length, rfl, h3, by omega, fun x hx => (by cases hx), by omega, by omega⟩
theorem w_laws_szNetMsgS : Valid Try.prog 35 c_laws_szNetMsgS :=
  valid_ctr2 (V := V_laws_szNetMsgS) (tysB_ok tys_ok) ⟨(CallsL.cons w_laws_szNetMsg (CallsL.nil _)), (IosL.nil _)⟩ mixed 0 0 Try.func35 rfl (by kernel_rfl)
    (fun c hc => by
      obtain rfl := Option.some.inj hc
      exact ⟨trivial, ⟨trivial, ⟨⟨trivial, ⟨⟨trivial, trivial⟩, trivial⟩⟩, ⟨⟨trivial, ⟨LoopD.ok2 (V := V_laws_szNetMsgS) l_laws_szNetMsgS_0 (LoopsM.cons 0 l_laws_szNetMsgS_0 LoopsM.nil) 0 _ i_laws_szNetMsgS_0 (fun x hx => vS_laws_szNetMsgS_0 x.1 x.2.1 x.2.2 hx) (fun x hx n s hi => ⟨_, by kernel_rfl, vL_laws_szNetMsgS_0 x.1 x.2.1 x.2.2 s.1 s.2.1 s.2.2 n hx hi⟩), ⟨⟨trivial, ⟨trivial, trivial⟩⟩, ⟨⟨trivial, ⟨trivial, ⟨⟨trivial, trivial⟩, trivial⟩⟩⟩, trivial⟩⟩⟩⟩, ⟨trivial, trivial⟩⟩⟩⟩⟩)
    (fun x K hp hk => ⟨_, by kernel_rfl, vF_laws_szNetMsgS x.1 x.2 K hp (fun r h => hk r h)⟩)
theorem vF_laws_szNetMsgSS (a:List (List NetS)) (l:Int) (K:List Arg→List (List AC)→Prop) (hp:(a.length≤9223372036854775807∧∀ x ∈ a,NetM 9223372036854775807 x)∧0≤l∧l≤1048576) (hk:∀ (r:Int),((0≤r∧r≤l∧a.length≤1048576∧∀ x ∈ a,NetM 1048576 x)∨r=-1)→K ([rInt.to r]) ([])):if ((decide ((IntKind.wrap IntKind.i64 (l - (((List.length a):Nat):Int))) < (0:Int)))=true) then ((true=true)∧(K [(aI IntKind.i64 (-1:Int))] [])) else (∃ s:(Prod (List (List NetS)) (Prod Int Int)),((KS.mk true [(Prod.mk (0:Nat) (T.v false [(Cm.d (D.r RK.nets a))])),(Prod.mk (1:Nat) (num IntKind.i64 (IntKind.wrap IntKind.i64 (l - (((List.length a):Nat):Int))))),(Prod.mk (5:Nat) (num IntKind.i64 (0:Int)))] [] [])=(KS.mk true [(Prod.mk (0:Nat) (T.v false [(Cm.d (D.r RK.nets s.fst))])),(Prod.mk (1:Nat) (num IntKind.i64 s.snd.fst)),(Prod.mk (5:Nat) (num IntKind.i64 s.snd.snd))] [] []))∧(((s.snd.snd=(0:Int))∧((∀ x:(List NetS),(List.Mem x s.fst)→(NetM (9223372036854775807:Nat) x))∧(((List.length s.fst)≤(1048576:Nat))∧(((0:Int)≤s.snd.fst)∧(s.snd.fst≤(1048576:Int))))))∧((∀ r:Int,(((0:Int)≤r)∧((r≤s.snd.fst)∧(∀ x:(List NetS),((Membership.mem s.fst x)→(NetM (1048576:Nat) x)))))→(true=true)∧(K [(aI IntKind.i64 r)] []))∧(∀ r:Unit,True→(true=true)∧(K [(aI IntKind.i64 (-1:Int))] []))))) := by
  obtain ⟨⟨h1, h4⟩, h2, h3⟩ := hp
  rw [wr (x := l - a.length) (by omega) (by omega)]
  repeat' first
    | exact rfl
    | exact True.intro
    | exact hk _ (.inr rfl)
    | with_reducible apply And.intro
    | refine ifLtB (fun h => ?_) (fun h => ?_)
  all_goals first
    | exact ⟨(a, l - a.length, 0), rfl, ⟨rfl, h4, by dsimp only; omega, by dsimp only; omega, by dsimp only; omega⟩, fun r hr => ⟨rfl, hk r (.inl ⟨hr.1, by have := hr.2.1; dsimp only at this; omega, by omega, hr.2.2⟩)⟩, fun r hr => ⟨rfl, hk _ (.inr rfl)⟩⟩
theorem vL_laws_szNetMsgSS_0 (a0:List (List NetS)) (l0:Int) (i0:Int) (a:List (List NetS)) (l:Int) (i:Int) (n:Nat) (hp:(fun (a:List (List NetS)) (l:Int) (i:Int) => (i=0∧(∀ x ∈ a,NetM 9223372036854775807 x)∧a.length≤1048576∧0≤l∧l≤1048576)) a0 l0 i0) (hi:a=a0∧0≤l∧l≤l0∧(∀ x ∈ a.take i.toNat,NetM 1048576 x)∧0≤i∧i + n=a.length):if ((decide (i < (((List.length a):Nat):Int)))=true) then ((((0:Int)≤i)∧(i < (((List.length a):Nat):Int)))∧((true=true)∧(((((List.length (at_nets a (Int.toNat i)))≤(9223372036854775807:Nat))∧(∀ x:NetS,(List.Mem x (at_nets a (Int.toNat i)))→((List.length x.bytes)≤(9223372036854775807:Nat))))∧(((0:Int)≤l)∧(l≤(1048576:Int))))∧(∀ r:Int,((((0:Int)≤r)∧((r≤l)∧(((List.length (at_nets a (Int.toNat i)))≤(1048576:Nat))∧(∀ x:NetS,((Membership.mem (at_nets a (Int.toNat i)) x)→((List.length x.bytes)≤(1048576:Nat)))))))∨(r=(-1:Int)))→(true=true)∧(if ((decide (r < (0:Int)))=true) then (∃ r1:Unit,((KS.mk true [(Prod.mk (4:Nat) (num IntKind.i64 (-1:Int)))] [] [])=(KS.mk true [(Prod.mk (4:Nat) (num IntKind.i64 (-1:Int)))] [] []))∧True) else (∃ s:(Prod (List (List NetS)) (Prod Int Int)),((KS.mk true [(Prod.mk (0:Nat) (T.v false [(Cm.d (D.r RK.nets a))])),(Prod.mk (1:Nat) (num IntKind.i64 r)),(Prod.mk (5:Nat) (num IntKind.i64 (IntKind.wrap IntKind.i64 (i + (1:Int)))))] [] [])=(KS.mk true [(Prod.mk (0:Nat) (T.v false [(Cm.d (D.r RK.nets s.fst))])),(Prod.mk (1:Nat) (num IntKind.i64 s.snd.fst)),(Prod.mk (5:Nat) (num IntKind.i64 s.snd.snd))] [] []))∧(∃ m:Nat,(m < n)∧((s.fst=a0)∧(((0:Int)≤s.snd.fst)∧((s.snd.fst≤l0)∧((∀ x:(List NetS),(List.Mem x (List.take (Int.toNat s.snd.snd) s.fst))→(NetM (1048576:Nat) x))∧(((0:Int)≤s.snd.snd)∧((s.snd.snd + ((m:Nat):Int))=(((List.length s.fst):Nat):Int)))))))))))))) else (∃ r:Int,((KS.mk true [(Prod.mk (1:Nat) (num IntKind.i64 l))] [] [])=(KS.mk true [(Prod.mk (1:Nat) (num IntKind.i64 r))] [] []))∧(((0:Int)≤r)∧((r≤l0)∧(∀ x:(List NetS),(List.Mem x a0)→(NetM (1048576:Nat) x))))) := by
  try dsimp only at hp
  obtain ⟨_, p1, p2, p3, p4⟩ := hp
  obtain ⟨rfl, h1, h2, h3, h4, h5⟩ := hi
  obtain ⟨i, rfl⟩ : ∃ q : Nat, i = q := ⟨i.toNat, by omega⟩
  simp only [Int.toNat_natCast] at h3 ⊢
  rw [wr (x := (i : Int) + 1) (by omega) (by omega)]
  cases n with
  | zero =>
    rw [if_neg (by simp; omega)]
    have hi : i = a.length := by omega
    subst hi
    rw [List.take_length] at h3
    exact ⟨l, rfl, h1, h2, h3⟩
  | succ n =>
    have hi : i < a.length := by omega
    rw [if_pos (by simp; omega)]
    have hd := p1 _ (at_mem .nets a i hi)
    have hd' : NetM 9223372036854775807 (at_nets a i) := hd
    have ea : a.take (i + 1) = a.take i ++ [at_nets a i] := take_at .nets a i hi
    repeat' first
      | exact rfl
      | exact True.intro
      | with_reducible apply And.intro
      | exact hd'
      | exact hd'.len
      | exact hd'.dat _ ‹List.Mem _ _›
      | omega
      | with_reducible intro r hr
      | with_reducible intro y_
      | refine ifLtB (fun h => ?_) (fun h => ?_)
    all_goals first
      | exact ⟨(), by trivial, trivial⟩
      | (have hr' : (0 ≤ r ∧ r ≤ l ∧ NetM 1048576 (at_nets a i)) ∨ r = -1 := by
           first
           | omega
           | (rcases hr with q | q
              · first | exact .inl q | exact .inl ⟨q.1, q.2.1, ⟨q.2.2.1, q.2.2.2⟩⟩
              · exact .inr q)
         obtain ⟨g1, g2, g3⟩ : 0 ≤ r ∧ r ≤ l ∧ NetM 1048576 (at_nets a i) := hr'.resolve_right (by omega)
         refine ⟨(a, r, (i : Int) + 1), rfl, n, by omega, rfl, g1, by dsimp only; omega, ?_, by dsimp only; omega, by dsimp only; omega⟩
         show ∀ x ∈ a.take ((i : Int) + 1).toNat, NetM 1048576 x
         rw [show ((i : Int) + 1).toNat = i + 1 by omega, ea]
         intro x hx
         rcases List.mem_append.1 hx with hx | hx
         · exact h3 x hx
         · rw [List.mem_singleton.1 hx]; exact g3)
theorem vS_laws_szNetMsgSS_0 (a0 : List (List NetS)) (l0 : Int) (i0 : Int) (hp : (fun (a : List (List NetS)) (l : Int) (i : Int) => (i = 0 ∧ (∀ x ∈ a, NetM 9223372036854775807 x) ∧ a.length ≤ 1048576 ∧ 0 ≤ l ∧ l ≤ 1048576)) a0 l0 i0) : ∃ n : Nat, (fun (a : List (List NetS)) (l : Int) (i : Int) => (a = a0 ∧ 0 ≤ l ∧ l ≤ l0 ∧ (∀ x ∈ a.take i.toNat, NetM 1048576 x) ∧ 0 ≤ i ∧ i + n = a.length)) a0 l0 i0 := by
  try dsimp only at hp
  try dsimp only
  obtain ⟨rfl, h1, h2, h3, h4⟩ := hp
  exact ⟨a0.length, rfl, h3, by omega, fun x hx => (by cases hx), by omega, by omega⟩
theorem w_laws_szNetMsgSS : Valid Try.prog 13 c_laws_szNetMsgSS :=
  valid_ctr2 (V := V_laws_szNetMsgSS) (tysB_ok tys_ok) ⟨(CallsL.cons w_laws_szNetMsgS (CallsL.nil _)), (IosL.nil _)⟩ mixed 0 0 Try.func13 rfl (by kernel_rfl)
    (fun c hc => by
      obtain rfl := Option.some.inj hc
      exact ⟨trivial, ⟨trivial, ⟨⟨trivial, ⟨⟨trivial, trivial⟩, trivial⟩⟩, ⟨⟨trivial, ⟨LoopD.ok2 (V := V_laws_szNetMsgSS) l_laws_szNetMsgSS_0 (LoopsM.cons 0 l_laws_szNetMsgSS_0 LoopsM.nil) 0 _ i_laws_szNetMsgSS_0 (fun x hx => vS_laws_szNetMsgSS_0 x.1 x.2.1 x.2.2 hx) (fun x hx n s hi => ⟨_, by kernel_rfl, vL_laws_szNetMsgSS_0 x.1 x.2.1 x.2.2 s.1 s.2.1 s.2.2 n hx hi⟩), ⟨⟨trivial, ⟨trivial, trivial⟩⟩, ⟨⟨trivial, ⟨trivial, ⟨⟨trivial, trivial⟩, trivial⟩⟩⟩, trivial⟩⟩⟩⟩, ⟨trivial, trivial⟩⟩⟩⟩⟩)
    (fun x K hp hk => ⟨_, by kernel_rfl, vF_laws_szNetMsgSS x.1 x.2 K hp (fun r h => hk r h)⟩)
theorem vF_laws_szWldEnd (e:EndS) (l:Int) (K:List Arg→List (List AC)→Prop) (hp:EndM 9223372036854775807 e∧0≤l∧l≤1048576) (hk:∀ (r:Int),((0≤r∧r≤l∧EndM 1048576 e)∨r=-1)→K ([rInt.to r]) ([])):(true=true)∧(((((List.length e.tx.flight)≤(9223372036854775807:Nat))∧(∀ p:Part,(List.Mem p e.tx.flight)→((List.length p.data)≤(9223372036854775807:Nat))))∧((((List.length e.tx.queue)≤(9223372036854775807:Nat))∧(∀ p:Part,(List.Mem p e.tx.queue)→((List.length p.data)≤(9223372036854775807:Nat))))∧(((0:Int)≤l)∧(l≤(1048576:Int)))))∧(∀ r:Int,(((r=((((l - (((List.length e.tx.flight):Nat):Int)) - (szP e.tx.flight)) - (((List.length e.tx.queue):Nat):Int)) - (szP e.tx.queue)))∧((0:Int)≤r))∨(r=(-1:Int)))→(true=true)∧(if ((decide (r < (0:Int)))=true) then ((true=true)∧(K [(aI IntKind.i64 (-1:Int))] [])) else ((true=true)∧((((List.length e.rx.join.got)≤(9223372036854775807:Nat))∧(((0:Int)≤r)∧(r≤(1048576:Int))))∧(∀ r1:Int,(((r1=(r - (((List.length e.rx.join.got):Nat):Int)))∧((0:Int)≤r1))∨(r1=(-1:Int)))→(true=true)∧(if ((decide (r1 < (0:Int)))=true) then ((true=true)∧(K [(aI IntKind.i64 (-1:Int))] [])) else ((true=true)∧(((((List.length e.ctx.queue)≤(9223372036854775807:Nat))∧(∀ p:Part,(List.Mem p e.ctx.queue)→((List.length p.data)≤(9223372036854775807:Nat))))∧(((0:Int)≤r1)∧(r1≤(1048576:Int))))∧(∀ r2:Int,(((r2=((r1 - (((List.length e.ctx.queue):Nat):Int)) - (szP e.ctx.queue)))∧((0:Int)≤r2))∨(r2=(-1:Int)))→(true=true)∧(if ((decide (r2 < (0:Int)))=true) then ((true=true)∧(K [(aI IntKind.i64 (-1:Int))] [])) else ((true=true)∧((((List.length e.crx.join.got)≤(9223372036854775807:Nat))∧(((0:Int)≤r2)∧(r2≤(1048576:Int))))∧(∀ r3:Int,(((r3=(r2 - (((List.length e.crx.join.got):Nat):Int)))∧((0:Int)≤r3))∨(r3=(-1:Int)))→(true=true)∧(if ((decide (r3 < (0:Int)))=true) then ((true=true)∧(K [(aI IntKind.i64 (-1:Int))] [])) else ((true=true)∧(((((List.length e.put)≤(9223372036854775807:Nat))∧(∀ x:(List Int),(List.Mem x e.put)→((List.length x)≤(9223372036854775807:Nat))))∧(((0:Int)≤r3)∧(r3≤(1048576:Int))))∧(∀ r4:Int,((((0:Int)≤r4)∧((r4≤r3)∧(((List.length e.put)≤(1048576:Nat))∧(∀ x:(List Int),((Membership.mem e.put x)→((List.length x)≤(1048576:Nat)))))))∨(r4=(-1:Int)))→(true=true)∧(if ((decide (r4 < (0:Int)))=true) then ((true=true)∧(K [(aI IntKind.i64 (-1:Int))] [])) else ((true=true)∧(((((List.length e.got)≤(9223372036854775807:Nat))∧(∀ x:(List Int),(List.Mem x e.got)→((List.length x)≤(9223372036854775807:Nat))))∧(((0:Int)≤r4)∧(r4≤(1048576:Int))))∧(∀ r5:Int,((((0:Int)≤r5)∧((r5≤r4)∧(((List.length e.got)≤(1048576:Nat))∧(∀ x:(List Int),((Membership.mem e.got x)→((List.length x)≤(1048576:Nat)))))))∨(r5=(-1:Int)))→(true=true)∧(if ((decide (r5 < (0:Int)))=true) then ((true=true)∧(K [(aI IntKind.i64 (-1:Int))] [])) else ((true=true)∧(K [(aI IntKind.i64 r5)] []))))))))))))))))))))))))) := by
  obtain ⟨hp, h1, h2⟩ := hp
  have s1 := szP_nonneg e.tx.flight
  have s2 := szP_nonneg e.tx.queue
  have s3 := szP_nonneg e.ctx.queue

  repeat' first
    | exact rfl
    | exact True.intro
    | with_reducible apply And.intro
    | (with_reducible intro y_ hy_; subst hy_)
    | with_reducible intro y_
    | refine ifLtB (fun h => ?_) (fun h => ?_)
    | refine iteI (fun h => ?_) (fun h => ?_)
    | exact hk _ (.inr rfl)
    | exact hp.tf
    | exact hp.tfd _ ‹List.Mem _ _›
    | exact hp.tq
    | exact hp.tqd _ ‹List.Mem _ _›
    | exact hp.rg
    | exact hp.cq
    | exact hp.cqd _ ‹List.Mem _ _›
    | exact hp.cg
    | exact hp.pl
    | exact hp.pd _ ‹List.Mem _ _›
    | exact hp.gl
    | exact hp.gd _ ‹List.Mem _ _›
    | exact hk _ (.inl ⟨by omega, by omega, ⟨by omega, fun p hp => by have := szP_mem hp; omega, by omega, fun p hp => by have := szP_mem hp; omega, by omega, by omega, fun p hp => by have := szP_mem hp; omega, by omega, by omega, (or_in (P := e.put.length ≤ 1048576 ∧ ∀ x ∈ e.put, x.length ≤ 1048576) (by assumption) (by assumption)).2, by omega, (or_in (P := e.got.length ≤ 1048576 ∧ ∀ x ∈ e.got, x.length ≤ 1048576) (by assumption) (by assumption)).2⟩⟩)
    | with_reducible assumption
    | omega
theorem w_laws_szWldEnd : Valid Try.prog 34 c_laws_szWldEnd :=
  valid_ctr2 (V := V_laws_szWldEnd) (tysB_ok tys_ok) ⟨(CallsL.cons w_laws_szTxState (CallsL.cons w_laws_szRxState (CallsL.cons w_laws_szCrdTx (CallsL.cons w_laws_szCrdRx (CallsL.cons w_laws_szByteSS (CallsL.nil _)))))), (IosL.nil _)⟩ mixed 0 1 Try.func34 rfl (by kernel_rfl)
    (fun c hc => by
      obtain rfl := Option.some.inj hc
      exact ⟨trivial, ⟨trivial, ⟨⟨trivial, ⟨⟨trivial, trivial⟩, trivial⟩⟩, ⟨trivial, ⟨⟨trivial, ⟨⟨trivial, trivial⟩, trivial⟩⟩, ⟨trivial, ⟨⟨trivial, ⟨⟨trivial, trivial⟩, trivial⟩⟩, ⟨trivial, ⟨⟨trivial, ⟨⟨trivial, trivial⟩, trivial⟩⟩, ⟨trivial, ⟨⟨trivial, ⟨⟨trivial, trivial⟩, trivial⟩⟩, ⟨trivial, ⟨⟨trivial, ⟨⟨trivial, trivial⟩, trivial⟩⟩, ⟨trivial, trivial⟩⟩⟩⟩⟩⟩⟩⟩⟩⟩⟩⟩⟩⟩)
    (fun x K hp hk => ⟨_, by kernel_rfl, vF_laws_szWldEnd x.1 x.2 K hp (fun r h => hk r h)⟩)
theorem vF_laws_szWldEndS (a:List EndS) (l:Int) (K:List Arg→List (List AC)→Prop) (hp:(a.length≤9223372036854775807∧∀ x ∈ a,EndM 9223372036854775807 x)∧0≤l∧l≤1048576) (hk:∀ (r:Int),((0≤r∧r≤l∧a.length≤1048576∧∀ x ∈ a,EndM 1048576 x)∨r=-1)→K ([rInt.to r]) ([])):if ((decide ((IntKind.wrap IntKind.i64 (l - (((List.length a):Nat):Int))) < (0:Int)))=true) then ((true=true)∧(K [(aI IntKind.i64 (-1:Int))] [])) else (∃ s:(Prod (List EndS) (Prod Int Int)),((KS.mk true [(Prod.mk (0:Nat) (T.v false [(Cm.d (D.r RK.wend a))])),(Prod.mk (1:Nat) (num IntKind.i64 (IntKind.wrap IntKind.i64 (l - (((List.length a):Nat):Int))))),(Prod.mk (5:Nat) (num IntKind.i64 (0:Int)))] [] [])=(KS.mk true [(Prod.mk (0:Nat) (T.v false [(Cm.d (D.r RK.wend s.fst))])),(Prod.mk (1:Nat) (num IntKind.i64 s.snd.fst)),(Prod.mk (5:Nat) (num IntKind.i64 s.snd.snd))] [] []))∧(((s.snd.snd=(0:Int))∧((∀ x:EndS,(List.Mem x s.fst)→(EndM (9223372036854775807:Nat) x))∧(((List.length s.fst)≤(1048576:Nat))∧(((0:Int)≤s.snd.fst)∧(s.snd.fst≤(1048576:Int))))))∧((∀ r:Int,(((0:Int)≤r)∧((r≤s.snd.fst)∧(∀ x:EndS,((Membership.mem s.fst x)→(EndM (1048576:Nat) x)))))→(true=true)∧(K [(aI IntKind.i64 r)] []))∧(∀ r:Unit,True→(true=true)∧(K [(aI IntKind.i64 (-1:Int))] []))))) := by
  obtain ⟨⟨h1, h4⟩, h2, h3⟩ := hp
  rw [wr (x := l - a.length) (by omega) (by omega)]
  repeat' first
    | exact rfl
    | exact True.intro
    | exact hk _ (.inr rfl)
    | with_reducible apply And.intro
    | refine ifLtB (fun h => ?_) (fun h => ?_)
  all_goals first
    | exact ⟨(a, l - a.length, 0), rfl, ⟨rfl, h4, by dsimp only; omega, by dsimp only; omega, by dsimp only; omega⟩, fun r hr => ⟨rfl, hk r (.inl ⟨hr.1, by have := hr.2.1; dsimp only at this; omega, by omega, hr.2.2⟩)⟩, fun r hr => ⟨rfl, hk _ (.inr rfl)⟩⟩
theorem vL_laws_szWldEndS_0 (a0:List EndS) (l0:Int) (i0:Int) (a:List EndS) (l:Int) (i:Int) (n:Nat) (hp:(fun (a:List EndS) (l:Int) (i:Int) => (i=0∧(∀ x ∈ a,EndM 9223372036854775807 x)∧a.length≤1048576∧0≤l∧l≤1048576)) a0 l0 i0) (hi:a=a0∧0≤l∧l≤l0∧(∀ x ∈ a.take i.toNat,EndM 1048576 x)∧0≤i∧i + n=a.length):if ((decide (i < (((List.length a):Nat):Int)))=true) then ((((0:Int)≤i)∧(i < (((List.length a):Nat):Int)))∧((true=true)∧(((EndM (9223372036854775807:Nat) (at_wend a (Int.toNat i)))∧(((0:Int)≤l)∧(l≤(1048576:Int))))∧(∀ r:Int,((((0:Int)≤r)∧((r≤l)∧(EndM (1048576:Nat) (at_wend a (Int.toNat i)))))∨(r=(-1:Int)))→(true=true)∧(if ((decide (r < (0:Int)))=true) then (∃ r1:Unit,((KS.mk true [(Prod.mk (4:Nat) (num IntKind.i64 (-1:Int)))] [] [])=(KS.mk true [(Prod.mk (4:Nat) (num IntKind.i64 (-1:Int)))] [] []))∧True) else (∃ s:(Prod (List EndS) (Prod Int Int)),((KS.mk true [(Prod.mk (0:Nat) (T.v false [(Cm.d (D.r RK.wend a))])),(Prod.mk (1:Nat) (num IntKind.i64 r)),(Prod.mk (5:Nat) (num IntKind.i64 (IntKind.wrap IntKind.i64 (i + (1:Int)))))] [] [])=(KS.mk true [(Prod.mk (0:Nat) (T.v false [(Cm.d (D.r RK.wend s.fst))])),(Prod.mk (1:Nat) (num IntKind.i64 s.snd.fst)),(Prod.mk (5:Nat) (num IntKind.i64 s.snd.snd))] [] []))∧(∃ m:Nat,(m < n)∧((s.fst=a0)∧(((0:Int)≤s.snd.fst)∧((s.snd.fst≤l0)∧((∀ x:EndS,(List.Mem x (List.take (Int.toNat s.snd.snd) s.fst))→(EndM (1048576:Nat) x))∧(((0:Int)≤s.snd.snd)∧((s.snd.snd + ((m:Nat):Int))=(((List.length s.fst):Nat):Int)))))))))))))) else (∃ r:Int,((KS.mk true [(Prod.mk (1:Nat) (num IntKind.i64 l))] [] [])=(KS.mk true [(Prod.mk (1:Nat) (num IntKind.i64 r))] [] []))∧(((0:Int)≤r)∧((r≤l0)∧(∀ x:EndS,(List.Mem x a0)→(EndM (1048576:Nat) x))))) := by
  try dsimp only at hp
  obtain ⟨_, p1, p2, p3, p4⟩ := hp
  obtain ⟨rfl, h1, h2, h3, h4, h5⟩ := hi
  obtain ⟨i, rfl⟩ : ∃ q : Nat, i = q := ⟨i.toNat, by omega⟩
  simp only [Int.toNat_natCast] at h3 ⊢
  rw [wr (x := (i : Int) + 1) (by omega) (by omega)]
  cases n with
  | zero =>
    rw [if_neg (by simp; omega)]
    have hi : i = a.length := by omega
    subst hi
    rw [List.take_length] at h3
    exact ⟨l, rfl, h1, h2, h3⟩
  | succ n =>
    have hi : i < a.length := by omega
    rw [if_pos (by simp; omega)]
    have hd := p1 _ (at_mem .wend a i hi)
    have hd' : EndM 9223372036854775807 (at_wend a i) := hd
    have ea : a.take (i + 1) = a.take i ++ [at_wend a i] := take_at .wend a i hi
    repeat' first
      | exact rfl
      | exact True.intro
      | with_reducible apply And.intro
      | exact hd'
      | omega
      | with_reducible intro r hr
      | with_reducible intro y_
      | refine ifLtB (fun h => ?_) (fun h => ?_)
    all_goals first
      | exact ⟨(), by trivial, trivial⟩
      | (have hr' : (0 ≤ r ∧ r ≤ l ∧ EndM 1048576 (at_wend a i)) ∨ r = -1 := by
           first
           | omega
           | (rcases hr with q | q
              · first | exact .inl q | exact .inl ⟨q.1, q.2.1, ⟨q.2.2.1, q.2.2.2⟩⟩
              · exact .inr q)
         obtain ⟨g1, g2, g3⟩ : 0 ≤ r ∧ r ≤ l ∧ EndM 1048576 (at_wend a i) := hr'.resolve_right (by omega)
         refine ⟨(a, r, (i : Int) + 1), rfl, n, by omega, rfl, g1, by dsimp only; omega, ?_, by dsimp only; omega, by dsimp only; omega⟩
         show ∀ x ∈ a.take ((i : Int) + 1).toNat, EndM 1048576 x
         rw [show ((i : Int) + 1).toNat = i + 1 by omega, ea]
         intro x hx
         rcases List.mem_append.1 hx with hx | hx
         · exact h3 x hx
         · rw [List.mem_singleton.1 hx]; exact g3)
theorem vS_laws_szWldEndS_0 (a0 : List EndS) (l0 : Int) (i0 : Int) (hp : (fun (a : List EndS) (l : Int) (i : Int) => (i = 0 ∧ (∀ x ∈ a, EndM 9223372036854775807 x) ∧ a.length ≤ 1048576 ∧ 0 ≤ l ∧ l ≤ 1048576)) a0 l0 i0) : ∃ n : Nat, (fun (a : List EndS) (l : Int) (i : Int) => (a = a0 ∧ 0 ≤ l ∧ l ≤ l0 ∧ (∀ x ∈ a.take i.toNat, EndM 1048576 x) ∧ 0 ≤ i ∧ i + n = a.length)) a0 l0 i0 := by
  try dsimp only at hp
  try dsimp only
  obtain ⟨rfl, h1, h2, h3, h4⟩ := hp
  exact ⟨a0.length, rfl, h3, by omega, fun x hx => (by cases hx), by omega, by omega⟩
theorem w_laws_szWldEndS : Valid Try.prog 12 c_laws_szWldEndS :=
  valid_ctr2 (V := V_laws_szWldEndS) (tysB_ok tys_ok) ⟨(CallsL.cons w_laws_szWldEnd (CallsL.nil _)), (IosL.nil _)⟩ mixed 0 0 Try.func12 rfl (by kernel_rfl)
    (fun c hc => by
      obtain rfl := Option.some.inj hc
      exact ⟨trivial, ⟨trivial, ⟨⟨trivial, ⟨⟨trivial, trivial⟩, trivial⟩⟩, ⟨⟨trivial, ⟨LoopD.ok2 (V := V_laws_szWldEndS) l_laws_szWldEndS_0 (LoopsM.cons 0 l_laws_szWldEndS_0 LoopsM.nil) 0 _ i_laws_szWldEndS_0 (fun x hx => vS_laws_szWldEndS_0 x.1 x.2.1 x.2.2 hx) (fun x hx n s hi => ⟨_, by kernel_rfl, vL_laws_szWldEndS_0 x.1 x.2.1 x.2.2 s.1 s.2.1 s.2.2 n hx hi⟩), ⟨⟨trivial, ⟨trivial, trivial⟩⟩, ⟨⟨trivial, ⟨trivial, ⟨⟨trivial, trivial⟩, trivial⟩⟩⟩, trivial⟩⟩⟩⟩, ⟨trivial, trivial⟩⟩⟩⟩⟩)
    (fun x K hp hk => ⟨_, by kernel_rfl, vF_laws_szWldEndS x.1 x.2 K hp (fun r h => hk r h)⟩)
theorem vF_laws_szWldWorld (w:WldS) (l:Int) (K:List Arg→List (List AC)→Prop) (hp:WldM 9223372036854775807 w∧0≤l∧l≤1048576) (hk:∀ (r:Int),((0≤r∧r≤l∧WldM 1048576 w)∨r=-1)→K ([rInt.to r]) ([])):(true=true)∧(((((List.length w.ends)≤(9223372036854775807:Nat))∧(∀ x:EndS,(List.Mem x w.ends)→(EndM (9223372036854775807:Nat) x)))∧(((0:Int)≤l)∧(l≤(1048576:Int))))∧(∀ r:Int,((((0:Int)≤r)∧((r≤l)∧(((List.length w.ends)≤(1048576:Nat))∧(∀ x:EndS,((Membership.mem w.ends x)→(EndM (1048576:Nat) x))))))∨(r=(-1:Int)))→(true=true)∧(if ((decide (r < (0:Int)))=true) then ((true=true)∧(K [(aI IntKind.i64 (-1:Int))] [])) else ((true=true)∧(((((List.length w.net)≤(9223372036854775807:Nat))∧(∀ x:(List NetS),(List.Mem x w.net)→(NetM (9223372036854775807:Nat) x)))∧(((0:Int)≤r)∧(r≤(1048576:Int))))∧(∀ r1:Int,((((0:Int)≤r1)∧((r1≤r)∧(((List.length w.net)≤(1048576:Nat))∧(∀ x:(List NetS),((Membership.mem w.net x)→(NetM (1048576:Nat) x))))))∨(r1=(-1:Int)))→(true=true)∧(if ((decide (r1 < (0:Int)))=true) then ((true=true)∧(K [(aI IntKind.i64 (-1:Int))] [])) else ((true=true)∧(K [(aI IntKind.i64 r1)] []))))))))) := by
  obtain ⟨hp, h1, h2⟩ := hp

  repeat' first
    | exact rfl
    | exact True.intro
    | with_reducible apply And.intro
    | (with_reducible intro y_ hy_; subst hy_)
    | with_reducible intro y_
    | refine ifLtB (fun h => ?_) (fun h => ?_)
    | refine iteI (fun h => ?_) (fun h => ?_)
    | exact hk _ (.inr rfl)
    | exact hp.el
    | exact hp.ed _ ‹List.Mem _ _›
    | exact hp.nl
    | exact hp.nd _ ‹List.Mem _ _›
    | exact hk _ (.inl ⟨by omega, by omega, ⟨by omega, (or_in (P := w.ends.length ≤ 1048576 ∧ ∀ x ∈ w.ends, EndM 1048576 x) (by assumption) (by assumption)).2, by omega, (or_in (P := w.net.length ≤ 1048576 ∧ ∀ x ∈ w.net, NetM 1048576 x) (by assumption) (by assumption)).2⟩⟩)
    | with_reducible assumption
    | omega
theorem w_laws_szWldWorld : Valid Try.prog 5 c_laws_szWldWorld :=
  valid_ctr2 (V := V_laws_szWldWorld) (tysB_ok tys_ok) ⟨(CallsL.cons w_laws_szWldEndS (CallsL.cons w_laws_szNetMsgSS (CallsL.nil _))), (IosL.nil _)⟩ mixed 0 1 Try.func5 rfl (by kernel_rfl)
    (fun c hc => by
      obtain rfl := Option.some.inj hc
      exact ⟨trivial, ⟨trivial, ⟨⟨trivial, ⟨⟨trivial, trivial⟩, trivial⟩⟩, ⟨trivial, ⟨⟨trivial, ⟨⟨trivial, trivial⟩, trivial⟩⟩, ⟨trivial, trivial⟩⟩⟩⟩⟩⟩)
    (fun x K hp hk => ⟨_, by kernel_rfl, vF_laws_szWldWorld x.1 x.2 K hp (fun r h => hk r h)⟩)
end Go.Proofs.YtjjplncopjimdaaE
