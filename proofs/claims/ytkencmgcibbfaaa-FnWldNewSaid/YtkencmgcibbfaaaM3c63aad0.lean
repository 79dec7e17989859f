/- A part of the proof of laws of the program: what calls of the program answer. Conditions: none. -/
import Derived.Test.YtkencmgcibbfaaaMfcfb682d
set_option linter.unusedVariables false
set_option linter.unusedSimpArgs false
set_option linter.unusedSectionVars false
/- Contracts: X2. Conditions: none. -/
set_option linter.unusedVariables false
set_option maxHeartbeats 1600000
namespace Go.Proofs.YtkencmgcibbfaaaE
open Go
/-- How many marks pieces take. -/
def cntP : List Part → Int
  | [] => 0
  | p :: l => 2 + p.data.length + cntP l
theorem cntP_nonneg : ∀ l : List Part, 0 ≤ cntP l
  | [] => Int.le_refl 0
  | p :: l => by
    have := cntP_nonneg l
    show 0 ≤ 2 + (p.data.length : Int) + cntP l
    omega
theorem cntP_app : ∀ l m : List Part, cntP (l ++ m) = cntP l + cntP m
  | [], m => by show cntP m = 0 + cntP m; omega
  | p :: l, m => by
    have := cntP_app l m
    show 2 + (p.data.length : Int) + cntP (l ++ m) = 2 + (p.data.length : Int) + cntP l + cntP m
    omega
theorem cntP_le {l : List Part} {n : Nat} (h : ∀ p ∈ l, p.data.length ≤ n) : cntP l ≤ l.length * (2 + n) := by
  induction l with
  | nil => simp [cntP]
  | cons p l ih =>
    have h1 := ih fun q hq => h q (List.mem_cons_of_mem _ hq)
    have h2 := h p List.mem_cons_self
    show 2 + (p.data.length : Int) + cntP l ≤ ((l.length + 1 : Nat) : Int) * (2 + n)
    rw [Int.natCast_add, Int.add_mul]
    omega
/-- Pieces, numbered on from k. -/
def markP : List Part → Int → List Part
  | [], _ => []
  | p :: l, k => ⟨k, k + 1, markB p.data (k + 1 + 1)⟩ :: markP l (k + (2 + p.data.length))
theorem markP_len : ∀ (l : List Part) (k : Int), (markP l k).length = l.length
  | [], _ => rfl
  | p :: l, k => congrArg Nat.succ (markP_len l _)
theorem markP_idem : ∀ (l : List Part) (k : Int), markP (markP l k) k = markP l k
  | [], _ => rfl
  | p :: l, k => by
    have ih := markP_idem l (k + (2 + p.data.length))
    show (⟨k, k + 1, markB (markB p.data (k + 1 + 1)) (k + 1 + 1)⟩ : Part) :: markP (markP l _) (k + (2 + (markB p.data (k + 1 + 1)).length)) = _
    rw [markB_len, markB_idem, ih]; rfl
theorem cntP_mark : ∀ (l : List Part) (k : Int), cntP (markP l k) = cntP l
  | [], _ => rfl
  | p :: l, k => by
    have ih := cntP_mark l (k + (2 + p.data.length))
    show 2 + ((markB p.data (k + 1 + 1)).length : Int) + cntP (markP l _) = 2 + (p.data.length : Int) + cntP l
    rw [markB_len, ih]
theorem markP_data : ∀ (l : List Part) (k : Int) {n : Nat}, (∀ p ∈ l, p.data.length ≤ n) → ∀ p ∈ markP l k, p.data.length ≤ n
  | [], _, _, _, p, hp => by cases hp
  | q :: l, k, n, h, p, hp => by
    rcases List.mem_cons.1 hp with rfl | hp
    · show (markB q.data _).length ≤ n
      rw [markB_len]; exact h q List.mem_cons_self
    · exact markP_data l _ (fun p hp => h p (List.mem_cons_of_mem _ hp)) p hp
/-- The first i are numbered. -/
def mkToP (l : List Part) (k : Int) (i : Nat) : List Part := markP (l.take i) k ++ l.drop i
theorem mkToP_zero (l : List Part) (k : Int) : mkToP l k 0 = l := by unfold mkToP; rw [List.take_zero, List.drop_zero]; rfl
theorem mkToP_all (l : List Part) (k : Int) : mkToP l k l.length = markP l k := by unfold mkToP; rw [List.take_length, List.drop_length, List.append_nil]
theorem mkToP_len (l : List Part) (k : Int) (i : Nat) : (mkToP l k i).length = l.length := by
  unfold mkToP
  rw [List.length_append, markP_len, List.length_take, List.length_drop]; omega
theorem mkToP_at : ∀ (l : List Part) (k : Int) (i : Nat), i < l.length → at_part (mkToP l k i) i = at_part l i
  | [], _, _, h => by simp at h
  | a :: l, k, 0, h => by rw [mkToP_zero]
  | a :: l, k, i + 1, h => by
    have ih := mkToP_at l (k + (2 + a.data.length)) i (by simpa using h)
    show at_part (mkToP l (k + (2 + a.data.length)) i) i = at_part l i
    exact ih
theorem mkToP_step : ∀ (l : List Part) (k : Int) (i : Nat), i < l.length → (mkToP l k i).set i ⟨k + cntP (l.take i), k + cntP (l.take i) + 1, markB (at_part l i).data (k + cntP (l.take i) + 1 + 1)⟩ = mkToP l k (i + 1)
  | [], _, _, h => by simp at h
  | a :: l, k, 0, h => by
    rw [mkToP_zero]
    show (⟨k + 0, k + 0 + 1, markB a.data (k + 0 + 1 + 1)⟩ : Part) :: l = (⟨k, k + 1, markB a.data (k + 1 + 1)⟩ : Part) :: (markP (l.take 0) _ ++ l.drop 0)
    rw [List.take_zero, List.drop_zero, Int.add_zero]; rfl
  | a :: l, k, i + 1, h => by
    have ih := mkToP_step l (k + (2 + a.data.length)) i (by simpa using h)
    show (⟨k, k + 1, markB a.data (k + 1 + 1)⟩ : Part) :: (mkToP l (k + (2 + a.data.length)) i).set i ⟨k + (2 + (a.data.length : Int) + cntP (l.take i)), k + (2 + (a.data.length : Int) + cntP (l.take i)) + 1, markB (at_part l i).data (k + (2 + (a.data.length : Int) + cntP (l.take i)) + 1 + 1)⟩ = (⟨k, k + 1, markB a.data (k + 1 + 1)⟩ : Part) :: mkToP l (k + (2 + a.data.length)) (i + 1)
    rw [← ih, show k + (2 + (a.data.length : Int) + cntP (l.take i)) = k + (2 + (a.data.length : Int)) + cntP (l.take i) by omega]
theorem cntP_take_succ : ∀ (l : List Part) (i : Nat), i < l.length → cntP (l.take (i + 1)) = cntP (l.take i) + (2 + (at_part l i).data.length)
  | [], _, h => by simp at h
  | a :: l, 0, h => by
    show 2 + (a.data.length : Int) + cntP (l.take 0) = 0 + (2 + (a.data.length : Int))
    rw [List.take_zero]; show 2 + (a.data.length : Int) + 0 = _; omega
  | a :: l, i + 1, h => by
    have ih := cntP_take_succ l i (by simpa using h)
    show 2 + (a.data.length : Int) + cntP (l.take (i + 1)) = 2 + (a.data.length : Int) + cntP (l.take i) + (2 + ((at_part l i).data.length : Int))
    omega
theorem cntP_take_le (l : List Part) (i : Nat) : cntP (l.take i) ≤ cntP l := by
  have h := cntP_app (l.take i) (l.drop i)
  rw [List.take_append_drop] at h
  have := cntP_nonneg (l.drop i)
  omega
theorem cntP_mem {l : List Part} {p : Part} (h : p ∈ l) : 2 + (p.data.length : Int) ≤ cntP l := by
  induction l with
  | nil => cases h
  | cons q l ih =>
    have h0 := cntP_nonneg l
    show _ ≤ 2 + (q.data.length : Int) + cntP l
    rcases List.mem_cons.1 h with rfl | h
    · omega
    · have := ih h; omega
theorem markP_at : ∀ (l : List Part) (k : Int) (i : Nat), i < l.length → at_part (markP l k) i = ⟨k + cntP (l.take i), k + cntP (l.take i) + 1, markB (at_part l i).data (k + cntP (l.take i) + 1 + 1)⟩
  | [], _, _, h => by simp at h
  | a :: l, k, 0, h => by
    show (⟨k, k + 1, markB a.data (k + 1 + 1)⟩ : Part) = ⟨k + 0, k + 0 + 1, markB a.data (k + 0 + 1 + 1)⟩
    rw [Int.add_zero]
  | a :: l, k, i + 1, h => by
    have ih := markP_at l (k + (2 + a.data.length)) i (by simpa using h)
    show at_part (markP l (k + (2 + a.data.length))) i = _
    rw [ih]
    show _ = (⟨k + (2 + (a.data.length : Int) + cntP (l.take i)), k + (2 + (a.data.length : Int) + cntP (l.take i)) + 1, markB (at_part l i).data (k + (2 + (a.data.length : Int) + cntP (l.take i)) + 1 + 1)⟩ : Part)
    rw [show k + (2 + (a.data.length : Int) + cntP (l.take i)) = k + (2 + (a.data.length : Int)) + cntP (l.take i) by omega]
theorem at_part_set (l : List Part) (i : Nat) (x : Part) (h : i < l.length) : at_part (l.set i x) i = x := by
  show (l.set i x).getD i _ = x
  rw [List.getD_eq_getElem?_getD, List.getElem?_set_self h]; rfl
structure MarkP (a : List Part) (k : Int) (o : List Part) : Prop where
  self : o = markP o k
  dat : ∀ p ∈ o, p.data.length ≤ 1048576
theorem MarkP.of {a o : List Part} {k : Int} (ha : ∀ p ∈ a, p.data.length ≤ 1048576) (h : o = markP a k) : o.length = a.length ∧ cntP o = cntP a ∧ MarkP a k o := by
  subst h
  exact ⟨markP_len a k, cntP_mark a k, (markP_idem a k).symm, markP_data a k ha⟩
theorem MarkP.to {a o : List Part} {k k' : Int} (h : MarkP a k o) (hk : k' = k) : o = markP o k' := by rw [hk]; exact h.self
theorem MarkP.le {y : Part} {a o : List Part} {k : Int} (hy : List.Mem y o) (h : MarkP a k o) : y.data.length ≤ 1048576 := h.dat y hy
/-- A piece, its bytes one's own. -/
def oPartC (p : Part) : List AC := [.d (.i .i64 p.seg), .d (.i .i64 p.len), .own ⟨5, .u8, p.data, m0⟩]
def oPart (p : Part) : Arg := .v true (oPartC p)
theorem set_takeP {o : List Part} {i : Nat} {x : Part} (h : i < o.length) : (o.set i x).take (i + 1) = o.take i ++ [x] := by
  rw [List.take_add_one, List.take_set, List.getElem?_set_self h, List.set_eq_of_length_le (by rw [List.length_take]; omega)]
  rfl
/-- How much pieces are, as it is counted. -/
def szP : List Part → Int
  | [] => 0
  | p :: l => p.data.length + szP l
theorem szP_nonneg : ∀ l : List Part, 0 ≤ szP l
  | [] => Int.le_refl 0
  | p :: l => by
    have := szP_nonneg l
    show 0 ≤ (p.data.length : Int) + szP l
    omega
theorem szP_mem {l : List Part} {p : Part} (h : p ∈ l) : (p.data.length : Int) ≤ szP l := by
  induction l with
  | nil => cases h
  | cons q l ih =>
    have h0 := szP_nonneg l
    have h1 := szP_nonneg (q :: l)
    show _ ≤ (q.data.length : Int) + szP l
    rcases List.mem_cons.1 h with rfl | h
    · omega
    · have := ih h; omega
theorem cnt_sz : ∀ l : List Part, cntP l = 2 * l.length + szP l
  | [] => rfl
  | p :: l => by
    have := cnt_sz l
    show 2 + (p.data.length : Int) + cntP l = 2 * ((l.length + 1 : Nat) : Int) + ((p.data.length : Int) + szP l)
    omega
theorem szP_take_succ : ∀ (l : List Part) (i : Nat), i < l.length → szP (l.take (i + 1)) = szP (l.take i) + (at_part l i).data.length
  | [], _, h => by simp at h
  | a :: l, 0, h => by
    show (a.data.length : Int) + szP (l.take 0) = 0 + (a.data.length : Int)
    rw [List.take_zero]; show (a.data.length : Int) + 0 = _; omega
  | a :: l, i + 1, h => by
    have ih := szP_take_succ l i (by simpa using h)
    show (a.data.length : Int) + szP (l.take (i + 1)) = (a.data.length : Int) + szP (l.take i) + ((at_part l i).data.length : Int)
    omega
theorem szP_take_le (l : List Part) : ∀ i : Nat, szP (l.take i) ≤ szP l := by
  induction l with
  | nil => intro i; rw [List.take_nil]; exact Int.le_refl _
  | cons p l ih =>
    intro i
    cases i with
    | zero => exact szP_nonneg _
    | succ i =>
      have := ih i
      show (p.data.length : Int) + szP (l.take i) ≤ (p.data.length : Int) + szP l
      omega

/-! laws.eqSegPart -/
def c_laws_eqSegPart : Ent := ctr (α := (Part) × (Part)) (ρ := (Bool)) [] [] (rs rPart (rs1 rPart)) (fun x_ => (fun (a : Part) (b : Part) => (a.data.length ≤ LIM)) x_.1 x_.2) (fun x_ r_ => (fun x_ => (fun (a : Part) (b : Part) => ((fun r_ => (fun (r : Bool) => (r = decide (a = b))) r_))) x_.1 x_.2) x_ r_) (fun r_ => (fun (r : Bool) => ([rB.to r])) r_) (fun r_ => (fun (r : Bool) => ([])) r_)
def V_laws_eqSegPart : Env := ⟨tys, [(84, c_laws_eqByteS)], [], [(2, 0), (3, 1)], [], [], [], [], []⟩
/-! laws.eqSegPartS -/
def c_laws_eqSegPartS : Ent := ctr (α := (List Part) × (List Part)) (ρ := (Bool)) [] [] (rs (rR .part) (rs1 (rR .part))) (fun x_ => (fun (a : List Part) (b : List Part) => (a.length ≤ LIM ∧ ∀ p ∈ a, p.data.length ≤ LIM)) x_.1 x_.2) (fun x_ r_ => (fun x_ => (fun (a : List Part) (b : List Part) => ((fun r_ => (fun (r : Bool) => (r = decide (a = b))) r_))) x_.1 x_.2) x_ r_) (fun r_ => (fun (r : Bool) => ([rB.to r])) r_) (fun r_ => (fun (r : Bool) => ([])) r_)
def l_laws_eqSegPartS_0 : LoopD ((List Part) × (List Part) × (Int)) ((Unit)) ((Unit)) where
  n := 27
  head := ⟨[0, 1, 5], [], []⟩
  st := fun x_ => (fun (a : List Part) (b : List Part) (i : Int) => (⟨true, [(0, .v false [.d (.r .part a)]), (1, .v false [.d (.r .part b)]), (5, num .i64 i)], [], []⟩)) x_.1 x_.2.1 x_.2.2
  pre := fun x_ => (fun (a : List Part) (b : List Part) (i : Int) => (a.length = b.length ∧ i = 0 ∧ a.length ≤ LIM ∧ ∀ p ∈ a, p.data.length ≤ LIM)) x_.1 x_.2.1 x_.2.2
  nk := ⟨[], [], []⟩
  nst := fun r_ => (fun (u : Unit) => (⟨true, [], [], []⟩)) r_
  npost := fun x_ r_ => (fun x_ => (fun (a0 : List Part) (b0 : List Part) (i0 : Int) => ((fun r_ => (fun (u : Unit) => (a0 = b0)) r_))) x_.1 x_.2.1 x_.2.2) x_ r_
  rk := ⟨[4], [], []⟩
  rst := fun r_ => (fun (u : Unit) => (⟨true, [(4, boo false)], [], []⟩)) r_
  rpost := fun x_ r_ => (fun x_ => (fun (a0 : List Part) (b0 : List Part) (i0 : Int) => ((fun r_ => (fun (u : Unit) => (a0 ≠ b0)) r_))) x_.1 x_.2.1 x_.2.2) x_ r_
def i_laws_eqSegPartS_0 (x : (List Part) × (List Part) × (Int)) (n : Nat) (s : (List Part) × (List Part) × (Int)) : Prop := (fun x_ => (fun (a0 : List Part) (b0 : List Part) (i0 : Int) => ((fun s_ => (fun (a : List Part) (b : List Part) (i : Int) => (a = a0 ∧ b = b0 ∧ a.length = b.length ∧ a.length ≤ LIM ∧ (∀ p ∈ a, p.data.length ≤ LIM) ∧ 0 ≤ i ∧ i + n = a.length ∧ a.take i.toNat = b.take i.toNat)) s_.1 s_.2.1 s_.2.2))) x_.1 x_.2.1 x_.2.2) x s
def V_laws_eqSegPartS : Env := ⟨tys, [(85, c_laws_eqSegPart)], [], [], [], [(0, l_laws_eqSegPartS_0.L)], [], [], [(6, [(0, false), (1, false), (2, false), (3, false), (4, false), (5, false), (6, false), (7, false), (8, true), (9, false)])]⟩
/-! laws.markSegPartS -/
def c_laws_markSegPartS : EntI := ctrI (α := (List Part) × (Int)) (ρ := (Int) × (List Part)) [(0, 0)] (rs (rOd 102 .part) (rs1 rInt)) (fun x_ => (fun (a : List Part) (k : Int) => ((a.length ≤ 1048576 ∧ ∀ p ∈ a, p.data.length ≤ 1048576) ∧ 0 ≤ k ∧ k + cntP a ≤ 1099511627776)) x_.1 x_.2) (fun x_ r_ => (fun x_ => (fun (a : List Part) (k : Int) => ((fun r_ => (fun (r : Int) (o : List Part) => (r = k + cntP a ∧ o = markP a k ∧ o.length = a.length ∧ cntP o = cntP a ∧ MarkP a k o)) r_.1 r_.2))) x_.1 x_.2) x_ r_) (fun r_ => (fun (r : Int) (o : List Part) => ([rInt.to r])) r_.1 r_.2) (fun r_ => (fun (r : Int) (o : List Part) => ([⟨102, .part, o, mD o.length⟩])) r_.1 r_.2)
def l_laws_markSegPartS_0 : LoopD ((List Part) × (Int) × (List Part) × (Nat) × (Int) × (Int)) ((List Part) × (Int) × (Nat)) ((Empty)) where
  n := 34
  head := ⟨[0, 1, 5], [], [0]⟩
  st := fun x_ => (fun (l : List Part) (s : Int) (o : List Part) (q : Nat) (k : Int) (i : Int) => (⟨true, [(0, .v false [.ref 0 0]), (1, num .i64 k), (5, num .i64 i)], [⟨0, some ⟨102, .part, o, ⟨some q, true, 0, false⟩⟩⟩], []⟩)) x_.1 x_.2.1 x_.2.2.1 x_.2.2.2.1 x_.2.2.2.2.1 x_.2.2.2.2.2
  pre := fun x_ => (fun (l : List Part) (s : Int) (o : List Part) (q : Nat) (k : Int) (i : Int) => (o = l ∧ s = k ∧ i = 0 ∧ q = l.length ∧ (l.length ≤ 1048576 ∧ ∀ p ∈ l, p.data.length ≤ 1048576) ∧ 0 ≤ k ∧ k + cntP l ≤ 1099511627776)) x_.1 x_.2.1 x_.2.2.1 x_.2.2.2.1 x_.2.2.2.2.1 x_.2.2.2.2.2
  nk := ⟨[1], [], [0]⟩
  nst := fun r_ => (fun (l : List Part) (s : Int) (q : Nat) => (⟨true, [(1, num .i64 (s + cntP l))], [⟨0, some ⟨102, .part, markP l s, ⟨some q, true, 0, false⟩⟩⟩], []⟩)) r_.1 r_.2.1 r_.2.2
  npost := fun x_ r_ => (fun x_ => (fun (l0 : List Part) (s0 : Int) (o0 : List Part) (q0 : Nat) (k0 : Int) (i0 : Int) => ((fun r_ => (fun (l : List Part) (s : Int) (q : Nat) => (l = l0 ∧ s = s0 ∧ q = (markP l s).length)) r_.1 r_.2.1 r_.2.2))) x_.1 x_.2.1 x_.2.2.1 x_.2.2.2.1 x_.2.2.2.2.1 x_.2.2.2.2.2) x_ r_
  rk := ⟨[], [], []⟩
  rst := fun _ => ⟨true, [], [], []⟩
  rpost := fun _ _ => False
def i_laws_markSegPartS_0 (x : (List Part) × (Int) × (List Part) × (Nat) × (Int) × (Int)) (n : Nat) (s : (List Part) × (Int) × (List Part) × (Nat) × (Int) × (Int)) : Prop := (fun x_ => (fun (l0 : List Part) (s0 : Int) (o0 : List Part) (q0 : Nat) (k0 : Int) (i0 : Int) => ((fun s_ => (fun (l : List Part) (s : Int) (o : List Part) (q : Nat) (k : Int) (i : Int) => (l = l0 ∧ s = s0 ∧ o = mkToP l s i.toNat ∧ q = l.length ∧ k = s + cntP (l.take i.toNat) ∧ 0 ≤ i ∧ i + n = l.length)) s_.1 s_.2.1 s_.2.2.1 s_.2.2.2.1 s_.2.2.2.2.1 s_.2.2.2.2.2))) x_.1 x_.2.1 x_.2.2.1 x_.2.2.2.1 x_.2.2.2.2.1 x_.2.2.2.2.2) x s
def V_laws_markSegPartS : Env := ⟨tys, [], [], [], [], [(0, l_laws_markSegPartS_0.L)], [], [(62, c_laws_markByteS)], []⟩
/-! laws.heldSegPartS -/
def c_laws_heldSegPartS : Ent := ctr (α := (List Part) × (Int)) (ρ := (Int)) [] [] (rs (rR .part) (rs1 rInt)) (fun x_ => (fun (a : List Part) (k : Int) => ((a.length ≤ 1048576 ∧ ∀ p ∈ a, p.data.length ≤ 1048576) ∧ 0 ≤ k ∧ k + cntP a ≤ 1099511627776 ∧ a = markP a k)) x_.1 x_.2) (fun x_ r_ => (fun x_ => (fun (a : List Part) (k : Int) => ((fun r_ => (fun (r : Int) => (r = k + cntP a)) r_))) x_.1 x_.2) x_ r_) (fun r_ => (fun (r : Int) => ([rInt.to r])) r_) (fun r_ => (fun (r : Int) => ([])) r_)
def l_laws_heldSegPartS_0 : LoopD ((List Part) × (Int) × (Int)) ((Int)) ((Empty)) where
  n := 40
  head := ⟨[0, 1, 5], [], []⟩
  st := fun x_ => (fun (a : List Part) (k : Int) (i : Int) => (⟨true, [(0, .v false [.d (.r .part a)]), (1, num .i64 k), (5, num .i64 i)], [], []⟩)) x_.1 x_.2.1 x_.2.2
  pre := fun x_ => (fun (a : List Part) (k : Int) (i : Int) => (i = 0 ∧ (a.length ≤ 1048576 ∧ ∀ p ∈ a, p.data.length ≤ 1048576) ∧ 0 ≤ k ∧ k + cntP a ≤ 1099511627776 ∧ a = markP a k)) x_.1 x_.2.1 x_.2.2
  nk := ⟨[1], [], []⟩
  nst := fun r_ => (fun (r : Int) => (⟨true, [(1, num .i64 r)], [], []⟩)) r_
  npost := fun x_ r_ => (fun x_ => (fun (a0 : List Part) (k0 : Int) (i0 : Int) => ((fun r_ => (fun (r : Int) => (r = k0 + cntP a0)) r_))) x_.1 x_.2.1 x_.2.2) x_ r_
  rk := ⟨[], [], []⟩
  rst := fun _ => ⟨true, [], [], []⟩
  rpost := fun _ _ => False
def i_laws_heldSegPartS_0 (x : (List Part) × (Int) × (Int)) (n : Nat) (s : (List Part) × (Int) × (Int)) : Prop := (fun x_ => (fun (a0 : List Part) (k0 : Int) (i0 : Int) => ((fun s_ => (fun (a : List Part) (k : Int) (i : Int) => (a = a0 ∧ k = k0 + cntP (a.take i.toNat) ∧ 0 ≤ i ∧ i + n = a.length)) s_.1 s_.2.1 s_.2.2))) x_.1 x_.2.1 x_.2.2) x s
def V_laws_heldSegPartS : Env := ⟨tys, [(66, c_laws_heldByteS)], [], [], [], [(0, l_laws_heldSegPartS_0.L)], [], [], []⟩
end Go.Proofs.YtkencmgcibbfaaaE

/- Calls answer what is promised: X2. Conditions: none. -/
set_option linter.unusedVariables false
set_option maxHeartbeats 1600000
namespace Go.Proofs.YtkencmgcibbfaaaE
open Go
theorem vF_laws_eqSegPart (a:Part) (b:Part) (K:List Arg→List (List AC)→Prop) (hp:a.data.length≤LIM) (hk:∀ (r:Bool),(r=decide (a=b))→K ([rB.to r]) ([])):if ((a.seg != b.seg)=true) then ((true=true)∧(K [(aB false)] [])) else (if ((a.len != b.len)=true) then ((true=true)∧(K [(aB false)] [])) else ((true=true)∧((((List.length a.data)≤(137438953472:Nat))∧True)∧(∀ r:Bool,(r=(decide (a.data=b.data)))→(true=true)∧(if ((!r)=true) then ((true=true)∧(K [(aB false)] [])) else ((true=true)∧(K [(aB true)] []))))))) := by
  obtain ⟨a1, a2, a3⟩ := a
  obtain ⟨b1, b2, b3⟩ := b

  repeat' first
    | exact rfl
    | exact True.intro
    | with_reducible apply And.intro
    | (with_reducible intro y_ hy_; subst hy_)
    | with_reducible intro y_
    | (refine iteI (fun h => ?_) (fun h => ?_))
  all_goals try simp only [Bool.not_eq_true', decide_eq_false_iff_not, decide_eq_true_eq, Bool.not_eq_true, bne_iff_ne, beq_iff_eq, ne_eq, Decidable.not_not, Bool.not_eq_false, gt_iff_lt, ge_iff_le, Int.not_le, Int.not_lt, beq_eq_false_iff_ne, bne_eq_false_iff_eq, Bool.and_eq_true, Bool.or_eq_true, Bool.true_eq_false, Bool.false_eq_true] at *
  all_goals try simp (disch := first | omega | grind []) only [wr] at *
  all_goals first
    | assumption
    | omega
    | exact hk _ (by grind [])
    | (simp only [LIM] at *; omega)
    | grind [LIM]
theorem w_laws_eqSegPart : Valid Try.prog 85 c_laws_eqSegPart :=
  valid_ctr2 (V := V_laws_eqSegPart) (tysB_ok tys_ok) ⟨(CallsL.cons w_laws_eqByteS (CallsL.nil _)), (IosL.nil _)⟩ mixed 0 2 Try.func85 rfl (by kernel_rfl)
    (fun c hc => by
      obtain rfl := Option.some.inj hc
      exact ⟨trivial, ⟨⟨trivial, ⟨⟨trivial, trivial⟩, trivial⟩⟩, ⟨⟨trivial, ⟨⟨trivial, trivial⟩, trivial⟩⟩, ⟨⟨trivial, ⟨⟨trivial, trivial⟩, trivial⟩⟩, ⟨trivial, trivial⟩⟩⟩⟩⟩)
    (fun x K hp hk => ⟨_, by kernel_rfl, vF_laws_eqSegPart x.1 x.2 K hp (fun r h => hk r h)⟩)
theorem vF_laws_eqSegPartS (a:List Part) (b:List Part) (K:List Arg→List (List AC)→Prop) (hp:a.length≤LIM∧∀ p ∈ a,p.data.length≤LIM) (hk:∀ (r:Bool),(r=decide (a=b))→K ([rB.to r]) ([])):if (((((List.length a):Nat):Int) != (((List.length b):Nat):Int))=true) then ((true=true)∧(K [(aB false)] [])) else (∃ s:(Prod (List Part) (Prod (List Part) Int)),((KS.mk true [(Prod.mk (0:Nat) (T.v false [(Cm.d (D.r RK.part a))])),(Prod.mk (1:Nat) (T.v false [(Cm.d (D.r RK.part b))])),(Prod.mk (5:Nat) (num IntKind.i64 (0:Int)))] [] [])=(KS.mk true [(Prod.mk (0:Nat) (T.v false [(Cm.d (D.r RK.part s.fst))])),(Prod.mk (1:Nat) (T.v false [(Cm.d (D.r RK.part s.snd.fst))])),(Prod.mk (5:Nat) (num IntKind.i64 s.snd.snd))] [] []))∧((((List.length s.fst)=(List.length s.snd.fst))∧((s.snd.snd=(0:Int))∧(((List.length s.fst)≤(137438953472:Nat))∧(∀ p:Part,(List.Mem p s.fst)→((List.length p.data)≤(137438953472:Nat))))))∧((∀ r:Unit,(s.fst=s.snd.fst)→(true=true)∧(K [(aB true)] []))∧(∀ r:Unit,(s.fst ≠ s.snd.fst)→(true=true)∧(K [(aB false)] []))))) := by
  refine iteI (fun h => ?_) (fun h => ?_)
  · refine ⟨by trivial, hk false ?_⟩
    symm; rw [decide_eq_false_iff_not]; rintro rfl; simp at h
  · have h1 : a.length = b.length := by simp at h; omega
    refine ⟨(a, b, 0), rfl, ⟨h1, rfl, hp.1, hp.2⟩, fun _ hr => ⟨by trivial, hk true (by simp; exact hr)⟩, fun _ hr => ⟨by trivial, hk false (by simp; exact hr)⟩⟩
theorem vL_laws_eqSegPartS_0 (a0:List Part) (b0:List Part) (i0:Int) (a:List Part) (b:List Part) (i:Int) (n:Nat) (hp:(fun (a:List Part) (b:List Part) (i:Int) => (a.length=b.length∧i=0∧a.length≤LIM∧∀ p ∈ a,p.data.length≤LIM)) a0 b0 i0) (hi:a=a0∧b=b0∧a.length=b.length∧a.length≤LIM∧(∀ p ∈ a,p.data.length≤LIM)∧0≤i∧i + n=a.length∧a.take i.toNat=b.take i.toNat):if ((decide (i < (((List.length a):Nat):Int)))=true) then ((((0:Int)≤i)∧(i < (((List.length a):Nat):Int)))∧((((0:Int)≤i)∧(i < (((List.length b):Nat):Int)))∧((true=true)∧(((List.length (at_part a (Int.toNat i)).data)≤(137438953472:Nat))∧(∀ r:Bool,(r=(decide ((at_part a (Int.toNat i))=(at_part b (Int.toNat i)))))→(true=true)∧((true=true)∧(if ((!r)=true) then (∃ r1:Unit,((KS.mk true [(Prod.mk (4:Nat) (boo false))] [] [])=(KS.mk true [(Prod.mk (4:Nat) (boo false))] [] []))∧(a0 ≠ b0)) else (∃ s:(Prod (List Part) (Prod (List Part) Int)),((KS.mk true [(Prod.mk (0:Nat) (T.v false [(Cm.d (D.r RK.part a))])),(Prod.mk (1:Nat) (T.v false [(Cm.d (D.r RK.part b))])),(Prod.mk (5:Nat) (num IntKind.i64 (IntKind.wrap IntKind.i64 (i + (1:Int)))))] [] [])=(KS.mk true [(Prod.mk (0:Nat) (T.v false [(Cm.d (D.r RK.part s.fst))])),(Prod.mk (1:Nat) (T.v false [(Cm.d (D.r RK.part s.snd.fst))])),(Prod.mk (5:Nat) (num IntKind.i64 s.snd.snd))] [] []))∧(∃ m:Nat,(m < n)∧((s.fst=a0)∧((s.snd.fst=b0)∧(((List.length s.fst)=(List.length s.snd.fst))∧(((List.length s.fst)≤(137438953472:Nat))∧((∀ p:Part,(List.Mem p s.fst)→((List.length p.data)≤(137438953472:Nat)))∧(((0:Int)≤s.snd.snd)∧(((s.snd.snd + ((m:Nat):Int))=(((List.length s.fst):Nat):Int))∧((List.take (Int.toNat s.snd.snd) s.fst)=(List.take (Int.toNat s.snd.snd) s.snd.fst)))))))))))))))))) else (∃ r:Unit,((KS.mk true [] [] [])=(KS.mk true [] [] []))∧(a0=b0)) := by
  try dsimp only at hp
  obtain ⟨rfl, rfl, h1, h2, hw, h3, h4, h5⟩ := hi
  have hL : a.length ≤ 137438953472 := h2
  obtain ⟨i, rfl⟩ : ∃ m : Nat, i = m := ⟨i.toNat, by omega⟩
  rw [wr (x := (i : Int) + 1) (by omega) (by omega)]
  simp only [Int.toNat_natCast] at h5 ⊢
  refine iteI (fun h => ?_) (fun h => ?_)
  · have hi : i < a.length := by simp at h; omega
    refine ⟨⟨by omega, by omega⟩, ⟨by omega, by omega⟩, by trivial, ?_⟩
    have ea : a.take (i + 1) = a.take i ++ [at_part a i] := take_at .part a i hi
    have eb : b.take (i + 1) = b.take i ++ [at_part b i] := take_at .part b i (show i < b.length by omega)
    refine ⟨hw _ (at_mem .part a i hi), fun r hr => ?_⟩
    subst hr
    repeat refine ⟨by trivial, ?_⟩
    refine iteI (fun hx => ?_) (fun hx => ?_)
    · refine ⟨(), by trivial, fun he => ?_⟩
      simp [he] at hx
    · refine ⟨(a, b, (i : Int) + 1), rfl, n - 1, by omega, rfl, rfl, h1, h2, hw, by dsimp only; omega, by dsimp only; omega, ?_⟩
      dsimp only
      rw [show ((i : Int) + 1).toNat = i + 1 by omega, ea, eb, h5]
      simp at hx
      exact congrArg (fun z => List.take i b ++ [z]) hx
  · have hi : i = a.length := by simp at h; omega
    subst hi
    refine ⟨(), by trivial, ?_⟩
    rw [List.take_length, h1, List.take_length] at h5
    exact h5
theorem vS_laws_eqSegPartS_0 (a0 : List Part) (b0 : List Part) (i0 : Int) (hp : (fun (a : List Part) (b : List Part) (i : Int) => (a.length = b.length ∧ i = 0 ∧ a.length ≤ LIM ∧ ∀ p ∈ a, p.data.length ≤ LIM)) a0 b0 i0) : ∃ n : Nat, (fun (a : List Part) (b : List Part) (i : Int) => (a = a0 ∧ b = b0 ∧ a.length = b.length ∧ a.length ≤ LIM ∧ (∀ p ∈ a, p.data.length ≤ LIM) ∧ 0 ≤ i ∧ i + n = a.length ∧ a.take i.toNat = b.take i.toNat)) a0 b0 i0 := by
  try dsimp only at hp
  try dsimp only
  obtain ⟨h1, h2, h3, hw⟩ := hp
  exact ⟨a0.length, rfl, rfl, h1, h3, hw, by omega, by omega, by subst h2; simp⟩
theorem w_laws_eqSegPartS : Valid Try.prog 82 c_laws_eqSegPartS :=
  valid_ctr2 (V := V_laws_eqSegPartS) (tysB_ok tys_ok) ⟨(CallsL.cons w_laws_eqSegPart (CallsL.nil _)), (IosL.nil _)⟩ mixed 0 0 Try.func82 rfl (by kernel_rfl)
    (fun c hc => by
      obtain rfl := Option.some.inj hc
      exact ⟨trivial, ⟨⟨trivial, ⟨⟨trivial, trivial⟩, trivial⟩⟩, ⟨⟨trivial, ⟨LoopD.ok2 (V := V_laws_eqSegPartS) l_laws_eqSegPartS_0 (LoopsM.cons 0 l_laws_eqSegPartS_0 LoopsM.nil) 0 _ i_laws_eqSegPartS_0 (fun x hx => vS_laws_eqSegPartS_0 x.1 x.2.1 x.2.2 hx) (fun x hx n s hi => ⟨_, by kernel_rfl, vL_laws_eqSegPartS_0 x.1 x.2.1 x.2.2 s.1 s.2.1 s.2.2 n hx hi⟩), ⟨⟨trivial, ⟨trivial, trivial⟩⟩, ⟨⟨trivial, ⟨⟨trivial, trivial⟩, trivial⟩⟩, trivial⟩⟩⟩⟩, ⟨trivial, trivial⟩⟩⟩⟩)
    (fun x K hp hk => ⟨_, by kernel_rfl, vF_laws_eqSegPartS x.1 x.2 K hp (fun r h => hk r h)⟩)
theorem vF_laws_markSegPartS (a:List Part) (k:Int) (K:List Arg→List RC→Prop) (hp:(a.length≤1048576∧∀ p ∈ a,p.data.length≤1048576)∧0≤k∧k + cntP a≤1099511627776) (hk:∀ (r:Int) (o:List Part),(r=k + cntP a∧o=markP a k∧o.length=a.length∧cntP o=cntP a∧MarkP a k o)→K ([rInt.to r]) ([⟨102,.part,o,mD o.length⟩])):∃ s:(Prod (List Part) (Prod Int (Prod (List Part) (Prod Nat (Prod Int Int))))),((KS.mk true [(Prod.mk (0:Nat) (T.v false [(Cm.ref (0:Nat) (0:Nat))])),(Prod.mk (1:Nat) (num IntKind.i64 k)),(Prod.mk (5:Nat) (num IntKind.i64 (0:Int)))] [(Row.mk (0:Nat) (Option.some (RC.mk (102:Nat) RK.part a (RM.mk (Option.some (List.length a)) true (0:Nat) false))))] [])=(KS.mk true [(Prod.mk (0:Nat) (T.v false [(Cm.ref (0:Nat) (0:Nat))])),(Prod.mk (1:Nat) (num IntKind.i64 s.snd.snd.snd.snd.fst)),(Prod.mk (5:Nat) (num IntKind.i64 s.snd.snd.snd.snd.snd))] [(Row.mk (0:Nat) (Option.some (RC.mk (102:Nat) RK.part s.snd.snd.fst (RM.mk (Option.some s.snd.snd.snd.fst) true (0:Nat) false))))] []))∧(((s.snd.snd.fst=s.fst)∧((s.snd.fst=s.snd.snd.snd.snd.fst)∧((s.snd.snd.snd.snd.snd=(0:Int))∧((s.snd.snd.snd.fst=(List.length s.fst))∧((((List.length s.fst)≤(1048576:Nat))∧(∀ p:Part,(List.Mem p s.fst)→((List.length p.data)≤(1048576:Nat))))∧(((0:Int)≤s.snd.snd.snd.snd.fst)∧((s.snd.snd.snd.snd.fst + (cntP s.fst))≤(1099511627776:Int))))))))∧((∀ r:(Prod (List Part) (Prod Int Nat)),((r.fst=s.fst)∧((r.snd.fst=s.snd.fst)∧(r.snd.snd=(List.length (markP r.fst r.snd.fst)))))→(K [(aI IntKind.i64 (r.snd.fst + (cntP r.fst)))] [(RC.mk (102:Nat) RK.part (markP r.fst r.snd.fst) (RM.mk (dpM false (Option.some r.snd.snd)) false (0:Nat) false))]))∧(∀ r:Empty,False→False))) := by
  obtain ⟨⟨h1, h4⟩, h2, h3⟩ := hp
  exact ⟨(a, k, a, a.length, k, 0), rfl, ⟨rfl, rfl, rfl, rfl, ⟨h1, h4⟩, h2, h3⟩, fun r hr => by
    obtain ⟨a1, k1, q1⟩ := r
    obtain ⟨e1, e2, e3⟩ := hr
    dsimp only at e1 e2 e3
    subst e1
    subst e2
    subst e3
    exact hk _ _ ⟨rfl, rfl, MarkP.of h4 rfl⟩, fun r h => h⟩
theorem vL_laws_markSegPartS_0 (l0:List Part) (s0:Int) (o0:List Part) (q0:Nat) (k0:Int) (i0:Int) (l:List Part) (s:Int) (o:List Part) (q:Nat) (k:Int) (i:Int) (n:Nat) (hp:(fun (l:List Part) (s:Int) (o:List Part) (q:Nat) (k:Int) (i:Int) => (o=l∧s=k∧i=0∧q=l.length∧(l.length≤1048576∧∀ p ∈ l,p.data.length≤1048576)∧0≤k∧k + cntP l≤1099511627776)) l0 s0 o0 q0 k0 i0) (hi:l=l0∧s=s0∧o=mkToP l s i.toNat∧q=l.length∧k=s + cntP (l.take i.toNat)∧0≤i∧i + n=l.length):if ((decide (i < (((List.length o):Nat):Int)))=true) then ((((0:Int)≤i)∧(i < (((List.length o):Nat):Int)))∧((((0:Int)≤i)∧(i < (((List.length (List.set o (Int.toNat i) (Part.mk k (at_part o (Int.toNat i)).len (at_part o (Int.toNat i)).data))):Nat):Int)))∧((((0:Int)≤i)∧(i < (((List.length (List.set (List.set o (Int.toNat i) (Part.mk k (at_part o (Int.toNat i)).len (at_part o (Int.toNat i)).data)) (Int.toNat i) (Part.mk (at_part (List.set o (Int.toNat i) (Part.mk k (at_part o (Int.toNat i)).len (at_part o (Int.toNat i)).data)) (Int.toNat i)).seg (IntKind.wrap IntKind.i64 (k + (1:Int))) (at_part (List.set o (Int.toNat i) (Part.mk k (at_part o (Int.toNat i)).len (at_part o (Int.toNat i)).data)) (Int.toNat i)).data))):Nat):Int)))∧(((Int.toNat i) < q)∧((true=true)∧((((List.length (at_part (List.set (List.set o (Int.toNat i) (Part.mk k (at_part o (Int.toNat i)).len (at_part o (Int.toNat i)).data)) (Int.toNat i) (Part.mk (at_part (List.set o (Int.toNat i) (Part.mk k (at_part o (Int.toNat i)).len (at_part o (Int.toNat i)).data)) (Int.toNat i)).seg (IntKind.wrap IntKind.i64 (k + (1:Int))) (at_part (List.set o (Int.toNat i) (Part.mk k (at_part o (Int.toNat i)).len (at_part o (Int.toNat i)).data)) (Int.toNat i)).data)) (Int.toNat i)).data)≤(137438953472:Nat))∧(((0:Int)≤(IntKind.wrap IntKind.i64 ((IntKind.wrap IntKind.i64 (k + (1:Int))) + (1:Int))))∧((IntKind.wrap IntKind.i64 ((IntKind.wrap IntKind.i64 (k + (1:Int))) + (1:Int)))≤(1099511627776:Int))))∧(∀ r:(Prod Int (List Int)),((r.fst=((IntKind.wrap IntKind.i64 ((IntKind.wrap IntKind.i64 (k + (1:Int))) + (1:Int))) + (((List.length (at_part (List.set (List.set o (Int.toNat i) (Part.mk k (at_part o (Int.toNat i)).len (at_part o (Int.toNat i)).data)) (Int.toNat i) (Part.mk (at_part (List.set o (Int.toNat i) (Part.mk k (at_part o (Int.toNat i)).len (at_part o (Int.toNat i)).data)) (Int.toNat i)).seg (IntKind.wrap IntKind.i64 (k + (1:Int))) (at_part (List.set o (Int.toNat i) (Part.mk k (at_part o (Int.toNat i)).len (at_part o (Int.toNat i)).data)) (Int.toNat i)).data)) (Int.toNat i)).data):Nat):Int)))∧((r.snd=(markB (at_part (List.set (List.set o (Int.toNat i) (Part.mk k (at_part o (Int.toNat i)).len (at_part o (Int.toNat i)).data)) (Int.toNat i) (Part.mk (at_part (List.set o (Int.toNat i) (Part.mk k (at_part o (Int.toNat i)).len (at_part o (Int.toNat i)).data)) (Int.toNat i)).seg (IntKind.wrap IntKind.i64 (k + (1:Int))) (at_part (List.set o (Int.toNat i) (Part.mk k (at_part o (Int.toNat i)).len (at_part o (Int.toNat i)).data)) (Int.toNat i)).data)) (Int.toNat i)).data (IntKind.wrap IntKind.i64 ((IntKind.wrap IntKind.i64 (k + (1:Int))) + (1:Int)))))∧(((List.length r.snd)=(List.length (at_part (List.set (List.set o (Int.toNat i) (Part.mk k (at_part o (Int.toNat i)).len (at_part o (Int.toNat i)).data)) (Int.toNat i) (Part.mk (at_part (List.set o (Int.toNat i) (Part.mk k (at_part o (Int.toNat i)).len (at_part o (Int.toNat i)).data)) (Int.toNat i)).seg (IntKind.wrap IntKind.i64 (k + (1:Int))) (at_part (List.set o (Int.toNat i) (Part.mk k (at_part o (Int.toNat i)).len (at_part o (Int.toNat i)).data)) (Int.toNat i)).data)) (Int.toNat i)).data))∧(MarkB (at_part (List.set (List.set o (Int.toNat i) (Part.mk k (at_part o (Int.toNat i)).len (at_part o (Int.toNat i)).data)) (Int.toNat i) (Part.mk (at_part (List.set o (Int.toNat i) (Part.mk k (at_part o (Int.toNat i)).len (at_part o (Int.toNat i)).data)) (Int.toNat i)).seg (IntKind.wrap IntKind.i64 (k + (1:Int))) (at_part (List.set o (Int.toNat i) (Part.mk k (at_part o (Int.toNat i)).len (at_part o (Int.toNat i)).data)) (Int.toNat i)).data)) (Int.toNat i)).data (IntKind.wrap IntKind.i64 ((IntKind.wrap IntKind.i64 (k + (1:Int))) + (1:Int))) r.snd))))→(true=true)∧(∃ s1:(Prod (List Part) (Prod Int (Prod (List Part) (Prod Nat (Prod Int Int))))),((KS.mk true [(Prod.mk (0:Nat) (T.v false [(Cm.ref (0:Nat) (0:Nat))])),(Prod.mk (1:Nat) (num IntKind.i64 r.fst)),(Prod.mk (5:Nat) (num IntKind.i64 (IntKind.wrap IntKind.i64 (i + (1:Int)))))] [(Row.mk (0:Nat) (Option.some (RC.mk (102:Nat) RK.part (List.set (List.set (List.set o (Int.toNat i) (Part.mk k (at_part o (Int.toNat i)).len (at_part o (Int.toNat i)).data)) (Int.toNat i) (Part.mk (at_part (List.set o (Int.toNat i) (Part.mk k (at_part o (Int.toNat i)).len (at_part o (Int.toNat i)).data)) (Int.toNat i)).seg (IntKind.wrap IntKind.i64 (k + (1:Int))) (at_part (List.set o (Int.toNat i) (Part.mk k (at_part o (Int.toNat i)).len (at_part o (Int.toNat i)).data)) (Int.toNat i)).data)) (Int.toNat i) (Part.mk (at_part (List.set (List.set o (Int.toNat i) (Part.mk k (at_part o (Int.toNat i)).len (at_part o (Int.toNat i)).data)) (Int.toNat i) (Part.mk (at_part (List.set o (Int.toNat i) (Part.mk k (at_part o (Int.toNat i)).len (at_part o (Int.toNat i)).data)) (Int.toNat i)).seg (IntKind.wrap IntKind.i64 (k + (1:Int))) (at_part (List.set o (Int.toNat i) (Part.mk k (at_part o (Int.toNat i)).len (at_part o (Int.toNat i)).data)) (Int.toNat i)).data)) (Int.toNat i)).seg (at_part (List.set (List.set o (Int.toNat i) (Part.mk k (at_part o (Int.toNat i)).len (at_part o (Int.toNat i)).data)) (Int.toNat i) (Part.mk (at_part (List.set o (Int.toNat i) (Part.mk k (at_part o (Int.toNat i)).len (at_part o (Int.toNat i)).data)) (Int.toNat i)).seg (IntKind.wrap IntKind.i64 (k + (1:Int))) (at_part (List.set o (Int.toNat i) (Part.mk k (at_part o (Int.toNat i)).len (at_part o (Int.toNat i)).data)) (Int.toNat i)).data)) (Int.toNat i)).len r.snd)) (RM.mk (Option.some q) true (0:Nat) false))))] [])=(KS.mk true [(Prod.mk (0:Nat) (T.v false [(Cm.ref (0:Nat) (0:Nat))])),(Prod.mk (1:Nat) (num IntKind.i64 s1.snd.snd.snd.snd.fst)),(Prod.mk (5:Nat) (num IntKind.i64 s1.snd.snd.snd.snd.snd))] [(Row.mk (0:Nat) (Option.some (RC.mk (102:Nat) RK.part s1.snd.snd.fst (RM.mk (Option.some s1.snd.snd.snd.fst) true (0:Nat) false))))] []))∧(∃ m:Nat,(m < n)∧((s1.fst=l0)∧((s1.snd.fst=s0)∧((s1.snd.snd.fst=(mkToP s1.fst s1.snd.fst (Int.toNat s1.snd.snd.snd.snd.snd)))∧((s1.snd.snd.snd.fst=(List.length s1.fst))∧((s1.snd.snd.snd.snd.fst=(s1.snd.fst + (cntP (List.take (Int.toNat s1.snd.snd.snd.snd.snd) s1.fst))))∧(((0:Int)≤s1.snd.snd.snd.snd.snd)∧((s1.snd.snd.snd.snd.snd + ((m:Nat):Int))=(((List.length s1.fst):Nat):Int))))))))))))))))) else (∃ r:(Prod (List Part) (Prod Int Nat)),((KS.mk true [(Prod.mk (1:Nat) (num IntKind.i64 k))] [(Row.mk (0:Nat) (Option.some (RC.mk (102:Nat) RK.part o (RM.mk (Option.some q) true (0:Nat) false))))] [])=(KS.mk true [(Prod.mk (1:Nat) (num IntKind.i64 (r.snd.fst + (cntP r.fst))))] [(Row.mk (0:Nat) (Option.some (RC.mk (102:Nat) RK.part (markP r.fst r.snd.fst) (RM.mk (Option.some r.snd.snd) true (0:Nat) false))))] []))∧((r.fst=l0)∧((r.snd.fst=s0)∧(r.snd.snd=(List.length (markP r.fst r.snd.fst)))))) := by
  try dsimp only at hp
  obtain ⟨_, _, _, _, ⟨p1, p2⟩, p3, p4⟩ := hp
  obtain ⟨rfl, rfl, rfl, rfl, rfl, h2, h3⟩ := hi
  obtain ⟨i, rfl⟩ : ∃ q : Nat, i = q := ⟨i.toNat, by omega⟩
  simp only [Int.toNat_natCast]
  have hlen := mkToP_len l s i
  have hc1 := cntP_take_le l i
  have hc0 := cntP_nonneg (l.take i)
  have hs : 0 ≤ s := by omega
  have hs4 : s + cntP l ≤ 1099511627776 := by omega
  cases n with
  | zero =>
    rw [if_neg (by simp; omega)]
    have hi : i = l.length := by omega
    subst hi
    rw [mkToP_all, List.take_length]
    exact ⟨(l, s, l.length), rfl, rfl, rfl, (markP_len l s).symm⟩
  | succ n =>
    have hi : i < l.length := by omega
    have hi2 : i < (mkToP l s i).length := by omega
    have hm := mkToP_at l s i hi
    have hd : (at_part l i).data.length ≤ 1048576 := p2 _ (at_mem .part l i hi)
    have hcs := cntP_take_succ l i hi
    have hc2 := cntP_take_le l (i + 1)
    rw [wr (x := (i : Int) + 1) (by omega) (by omega), wr (x := s + cntP (l.take i) + 1) (by omega) (by omega), wr (x := s + cntP (l.take i) + 1 + 1) (by omega) (by omega)]
    rw [if_pos (by simp; omega)]
    simp only [at_part_set, List.length_set, hi2, hm]
    refine ⟨⟨by omega, by omega⟩, ⟨by omega, by omega⟩, ⟨by omega, by omega⟩, hi, by trivial, ⟨by omega, by omega, by omega⟩, fun r hr => ⟨by trivial, ?_⟩⟩
    obtain ⟨r1, r2⟩ := r
    obtain ⟨e1, e2, _⟩ := hr
    dsimp only at e1 e2 ⊢
    subst e1
    subst e2
    refine ⟨(l, s, _, l.length, _, (i : Int) + 1), rfl, n, by omega, rfl, rfl, ?_, rfl, ?_, by dsimp only; omega, by dsimp only; omega⟩
    · show List.set (α := Part) (List.set (α := Part) (List.set (α := Part) (mkToP l s i) i _) i _) i _ = mkToP l s ((i : Int) + 1).toNat
      rw [List.set_set, List.set_set, show ((i : Int) + 1).toNat = i + 1 by omega]
      exact mkToP_step l s i hi
    · show s + cntP (l.take i) + 1 + 1 + ((at_part l i).data.length : Int) = s + cntP (l.take ((i : Int) + 1).toNat)
      rw [show ((i : Int) + 1).toNat = i + 1 by omega, hcs]
      omega
theorem vS_laws_markSegPartS_0 (l0 : List Part) (s0 : Int) (o0 : List Part) (q0 : Nat) (k0 : Int) (i0 : Int) (hp : (fun (l : List Part) (s : Int) (o : List Part) (q : Nat) (k : Int) (i : Int) => (o = l ∧ s = k ∧ i = 0 ∧ q = l.length ∧ (l.length ≤ 1048576 ∧ ∀ p ∈ l, p.data.length ≤ 1048576) ∧ 0 ≤ k ∧ k + cntP l ≤ 1099511627776)) l0 s0 o0 q0 k0 i0) : ∃ n : Nat, (fun (l : List Part) (s : Int) (o : List Part) (q : Nat) (k : Int) (i : Int) => (l = l0 ∧ s = s0 ∧ o = mkToP l s i.toNat ∧ q = l.length ∧ k = s + cntP (l.take i.toNat) ∧ 0 ≤ i ∧ i + n = l.length)) l0 s0 o0 q0 k0 i0 := by
  try dsimp only at hp
  try dsimp only
  obtain ⟨rfl, rfl, rfl, rfl, h1, h2, h3⟩ := hp
  exact ⟨o0.length, rfl, rfl, (mkToP_zero _ _).symm, rfl, by (show s0 = s0 + cntP (o0.take 0); rw [List.take_zero]; show s0 = s0 + 0; omega), by omega, by omega⟩
theorem w_laws_markSegPartS : ValidI Try.prog 61 c_laws_markSegPartS :=
  valid_ctrI (V := V_laws_markSegPartS) (tysB_ok tys_ok) ⟨(CallsL.nil _), (IosL.cons w_laws_markByteS (IosL.nil _))⟩ mixed 0 0 Try.func61 rfl (by kernel_rfl)
    (fun c hc => by
      obtain rfl := Option.some.inj hc
      exact ⟨trivial, ⟨⟨trivial, ⟨LoopD.ok2 (V := V_laws_markSegPartS) l_laws_markSegPartS_0 (LoopsM.cons 0 l_laws_markSegPartS_0 LoopsM.nil) 0 _ i_laws_markSegPartS_0 (fun x hx => vS_laws_markSegPartS_0 x.1 x.2.1 x.2.2.1 x.2.2.2.1 x.2.2.2.2.1 x.2.2.2.2.2 hx) (fun x hx n s hi => ⟨_, by kernel_rfl, vL_laws_markSegPartS_0 x.1 x.2.1 x.2.2.1 x.2.2.2.1 x.2.2.2.2.1 x.2.2.2.2.2 s.1 s.2.1 s.2.2.1 s.2.2.2.1 s.2.2.2.2.1 s.2.2.2.2.2 n hx hi⟩), ⟨⟨trivial, ⟨trivial, trivial⟩⟩, ⟨⟨trivial, ⟨trivial, ⟨trivial, ⟨trivial, trivial⟩⟩⟩⟩, trivial⟩⟩⟩⟩, ⟨trivial, trivial⟩⟩⟩)
    (fun x K hp hk => ⟨_, by kernel_rfl, vF_laws_markSegPartS x.1 x.2 K hp (fun r o h => hk (r, o) h)⟩)
theorem vF_laws_heldSegPartS (a:List Part) (k:Int) (K:List Arg→List (List AC)→Prop) (hp:(a.length≤1048576∧∀ p ∈ a,p.data.length≤1048576)∧0≤k∧k + cntP a≤1099511627776∧a=markP a k) (hk:∀ (r:Int),(r=k + cntP a)→K ([rInt.to r]) ([])):∃ s:(Prod (List Part) (Prod Int Int)),((KS.mk true [(Prod.mk (0:Nat) (T.v false [(Cm.d (D.r RK.part a))])),(Prod.mk (1:Nat) (num IntKind.i64 k)),(Prod.mk (5:Nat) (num IntKind.i64 (0:Int)))] [] [])=(KS.mk true [(Prod.mk (0:Nat) (T.v false [(Cm.d (D.r RK.part s.fst))])),(Prod.mk (1:Nat) (num IntKind.i64 s.snd.fst)),(Prod.mk (5:Nat) (num IntKind.i64 s.snd.snd))] [] []))∧(((s.snd.snd=(0:Int))∧((((List.length s.fst)≤(1048576:Nat))∧(∀ p:Part,(List.Mem p s.fst)→((List.length p.data)≤(1048576:Nat))))∧(((0:Int)≤s.snd.fst)∧(((s.snd.fst + (cntP s.fst))≤(1099511627776:Int))∧(s.fst=(markP s.fst s.snd.fst))))))∧((∀ r:Int,(r=(s.snd.fst + (cntP s.fst)))→(true=true)∧(K [(aI IntKind.i64 r)] []))∧(∀ r:Empty,False→False))) := by
  obtain ⟨⟨h1, h4⟩, h2, h3, h5⟩ := hp
  exact ⟨(a, k, 0), rfl, ⟨rfl, ⟨h1, h4⟩, h2, h3, h5⟩, fun r hr => ⟨rfl, hk r hr⟩, fun r h => h⟩
theorem vL_laws_heldSegPartS_0 (a0:List Part) (k0:Int) (i0:Int) (a:List Part) (k:Int) (i:Int) (n:Nat) (hp:(fun (a:List Part) (k:Int) (i:Int) => (i=0∧(a.length≤1048576∧∀ p ∈ a,p.data.length≤1048576)∧0≤k∧k + cntP a≤1099511627776∧a=markP a k)) a0 k0 i0) (hi:a=a0∧k=k0 + cntP (a.take i.toNat)∧0≤i∧i + n=a.length):if ((decide (i < (((List.length a):Nat):Int)))=true) then ((((0:Int)≤i)∧(i < (((List.length a):Nat):Int)))∧(if (((at_part a (Int.toNat i)).seg != k)=true) then (∃ r:Empty,((KS.mk true [] [] [])=(KS.mk true [] [] []))∧False) else ((((0:Int)≤i)∧(i < (((List.length a):Nat):Int)))∧(if (((at_part a (Int.toNat i)).len != (IntKind.wrap IntKind.i64 (k + (1:Int))))=true) then (∃ r:Empty,((KS.mk true [] [] [])=(KS.mk true [] [] []))∧False) else ((((0:Int)≤i)∧(i < (((List.length a):Nat):Int)))∧((true=true)∧((((List.length (at_part a (Int.toNat i)).data)≤(137438953472:Nat))∧(((0:Int)≤(IntKind.wrap IntKind.i64 ((IntKind.wrap IntKind.i64 (k + (1:Int))) + (1:Int))))∧(((IntKind.wrap IntKind.i64 ((IntKind.wrap IntKind.i64 (k + (1:Int))) + (1:Int)))≤(1099511627776:Int))∧((at_part a (Int.toNat i)).data=(markB (at_part a (Int.toNat i)).data (IntKind.wrap IntKind.i64 ((IntKind.wrap IntKind.i64 (k + (1:Int))) + (1:Int))))))))∧(∀ r:Int,(r=((IntKind.wrap IntKind.i64 ((IntKind.wrap IntKind.i64 (k + (1:Int))) + (1:Int))) + (((List.length (at_part a (Int.toNat i)).data):Nat):Int)))→(true=true)∧(if ((decide (r < (0:Int)))=true) then (∃ r1:Empty,((KS.mk true [] [] [])=(KS.mk true [] [] []))∧False) else (∃ s:(Prod (List Part) (Prod Int Int)),((KS.mk true [(Prod.mk (0:Nat) (T.v false [(Cm.d (D.r RK.part a))])),(Prod.mk (1:Nat) (num IntKind.i64 r)),(Prod.mk (5:Nat) (num IntKind.i64 (IntKind.wrap IntKind.i64 (i + (1:Int)))))] [] [])=(KS.mk true [(Prod.mk (0:Nat) (T.v false [(Cm.d (D.r RK.part s.fst))])),(Prod.mk (1:Nat) (num IntKind.i64 s.snd.fst)),(Prod.mk (5:Nat) (num IntKind.i64 s.snd.snd))] [] []))∧(∃ m:Nat,(m < n)∧((s.fst=a0)∧((s.snd.fst=(k0 + (cntP (List.take (Int.toNat s.snd.snd) s.fst))))∧(((0:Int)≤s.snd.snd)∧((s.snd.snd + ((m:Nat):Int))=(((List.length s.fst):Nat):Int)))))))))))))))) else (∃ r:Int,((KS.mk true [(Prod.mk (1:Nat) (num IntKind.i64 k))] [] [])=(KS.mk true [(Prod.mk (1:Nat) (num IntKind.i64 r))] [] []))∧(r=(k0 + (cntP a0)))) := by
  try dsimp only at hp
  obtain ⟨_, ⟨p1, p2⟩, p3, p4, p5⟩ := hp
  obtain ⟨rfl, rfl, h2, h3⟩ := hi
  obtain ⟨i, rfl⟩ : ∃ q : Nat, i = q := ⟨i.toNat, by omega⟩
  simp only [Int.toNat_natCast]
  have hc1 := cntP_take_le a i
  have hc0 := cntP_nonneg (a.take i)
  rw [wr (x := (i : Int) + 1) (by omega) (by omega)]
  cases n with
  | zero =>
    rw [if_neg (by simp; omega)]
    have hi : i = a.length := by omega
    subst hi
    rw [List.take_length]
    exact ⟨_, rfl, rfl⟩
  | succ n =>
    have hi : i < a.length := by omega
    have hd : (at_part a i).data.length ≤ 1048576 := p2 _ (at_mem .part a i hi)
    have hcs := cntP_take_succ a i hi
    have hc2 := cntP_take_le a (i + 1)
    have hx : at_part a i = ⟨k0 + cntP (a.take i), k0 + cntP (a.take i) + 1, markB (at_part a i).data (k0 + cntP (a.take i) + 1 + 1)⟩ := by
      have := markP_at a k0 i hi
      rwa [← p5] at this
    have x1 : (at_part a i).seg = k0 + cntP (a.take i) := by rw [hx]
    have x2 : (at_part a i).len = k0 + cntP (a.take i) + 1 := by rw [hx]
    have x3 : (at_part a i).data = markB (at_part a i).data (k0 + cntP (a.take i) + 1 + 1) := by
      generalize at_part a i = p at hx
      rw [hx]; dsimp only
      rw [markB_idem]
    rw [wr (x := k0 + cntP (a.take i) + 1) (by omega) (by omega), wr (x := k0 + cntP (a.take i) + 1 + 1) (by omega) (by omega), x1, x2]
    rw [if_pos (by simp; omega)]
    refine ⟨⟨by omega, by omega⟩, ?_⟩
    rw [if_neg (by simp)]
    refine ⟨⟨by omega, by omega⟩, ?_⟩
    rw [if_neg (by simp)]
    refine ⟨⟨by omega, by omega⟩, by trivial, ⟨by omega, by omega, by omega, x3⟩, fun r hr => ⟨by trivial, ?_⟩⟩
    subst hr
    rw [if_neg (by simp; omega)]
    refine ⟨(a, _, (i : Int) + 1), rfl, n, by omega, rfl, ?_, by dsimp only; omega, by dsimp only; omega⟩
    show k0 + cntP (a.take i) + 1 + 1 + ((at_part a i).data.length : Int) = k0 + cntP (a.take ((i : Int) + 1).toNat)
    rw [show ((i : Int) + 1).toNat = i + 1 by omega, hcs]
    omega
theorem vS_laws_heldSegPartS_0 (a0 : List Part) (k0 : Int) (i0 : Int) (hp : (fun (a : List Part) (k : Int) (i : Int) => (i = 0 ∧ (a.length ≤ 1048576 ∧ ∀ p ∈ a, p.data.length ≤ 1048576) ∧ 0 ≤ k ∧ k + cntP a ≤ 1099511627776 ∧ a = markP a k)) a0 k0 i0) : ∃ n : Nat, (fun (a : List Part) (k : Int) (i : Int) => (a = a0 ∧ k = k0 + cntP (a.take i.toNat) ∧ 0 ≤ i ∧ i + n = a.length)) a0 k0 i0 := by
  try dsimp only at hp
  try dsimp only
  obtain ⟨rfl, h1, h2, h3, h4⟩ := hp
  exact ⟨a0.length, rfl, by (show k0 = k0 + cntP (a0.take 0); rw [List.take_zero]; show k0 = k0 + 0; omega), by omega, by omega⟩
theorem w_laws_heldSegPartS : Valid Try.prog 65 c_laws_heldSegPartS :=
  valid_ctr2 (V := V_laws_heldSegPartS) (tysB_ok tys_ok) ⟨(CallsL.cons w_laws_heldByteS (CallsL.nil _)), (IosL.nil _)⟩ mixed 0 0 Try.func65 rfl (by kernel_rfl)
    (fun c hc => by
      obtain rfl := Option.some.inj hc
      exact ⟨trivial, ⟨⟨trivial, ⟨LoopD.ok2 (V := V_laws_heldSegPartS) l_laws_heldSegPartS_0 (LoopsM.cons 0 l_laws_heldSegPartS_0 LoopsM.nil) 0 _ i_laws_heldSegPartS_0 (fun x hx => vS_laws_heldSegPartS_0 x.1 x.2.1 x.2.2 hx) (fun x hx n s hi => ⟨_, by kernel_rfl, vL_laws_heldSegPartS_0 x.1 x.2.1 x.2.2 s.1 s.2.1 s.2.2 n hx hi⟩), ⟨⟨trivial, ⟨trivial, trivial⟩⟩, ⟨⟨⟨trivial, ⟨⟨trivial, trivial⟩, trivial⟩⟩, ⟨trivial, ⟨⟨trivial, ⟨⟨trivial, trivial⟩, trivial⟩⟩, ⟨trivial, ⟨trivial, ⟨trivial, ⟨⟨trivial, trivial⟩, trivial⟩⟩⟩⟩⟩⟩⟩, trivial⟩⟩⟩⟩, ⟨trivial, trivial⟩⟩⟩)
    (fun x K hp hk => ⟨_, by kernel_rfl, vF_laws_heldSegPartS x.1 x.2 K hp (fun r h => hk r h)⟩)
end Go.Proofs.YtkencmgcibbfaaaE
