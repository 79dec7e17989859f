/- A part of the proof of laws of the program: what calls of the program answer. Conditions: none. -/
import Derived.Test.YtjjplncopjimdaaM89b8b9be
set_option linter.unusedVariables false
set_option linter.unusedSimpArgs false
set_option linter.unusedSectionVars false
/- Contracts: X2. Conditions: none. -/
set_option linter.unusedVariables false
set_option maxHeartbeats 1600000
namespace Go.Proofs.YtjjplncopjimdaaE
open Go
/-- How many marks pieces take. -/
def cntP : List Part → Int
  | [] => 0
  | p :: l => 2 + p.data.length + cntP l
theorem cntP_nonneg : ∀ l : List Part, 0 ≤ cntP l
  | [] => Int.le_refl 0
  | p :: l => by
    have := cntP_nonneg l
    show 0 ≤ 2 + (p.data.length : Int) + cntP l
    omega
theorem cntP_app : ∀ l m : List Part, cntP (l ++ m) = cntP l + cntP m
  | [], m => by show cntP m = 0 + cntP m; omega
  | p :: l, m => by
    have := cntP_app l m
    show 2 + (p.data.length : Int) + cntP (l ++ m) = 2 + (p.data.length : Int) + cntP l + cntP m
    omega
theorem cntP_le {l : List Part} {n : Nat} (h : ∀ p ∈ l, p.data.length ≤ n) : cntP l ≤ l.length * (2 + n) := by
  induction l with
  | nil => simp [cntP]
  | cons p l ih =>
    have h1 := ih fun q hq => h q (List.mem_cons_of_mem _ hq)
    have h2 := h p List.mem_cons_self
    show 2 + (p.data.length : Int) + cntP l ≤ ((l.length + 1 : Nat) : Int) * (2 + n)
    rw [Int.natCast_add, Int.add_mul]
    omega
/-- Pieces, numbered on from k. -/
def markP : List Part → Int → List Part
  | [], _ => []
  | p :: l, k => ⟨k, k + 1, markB p.data (k + 1 + 1)⟩ :: markP l (k + (2 + p.data.length))
theorem markP_len : ∀ (l : List Part) (k : Int), (markP l k).length = l.length
  | [], _ => rfl
  | p :: l, k => congrArg Nat.succ (markP_len l _)
theorem markP_idem : ∀ (l : List Part) (k : Int), markP (markP l k) k = markP l k
  | [], _ => rfl
  | p :: l, k => by
    have ih := markP_idem l (k + (2 + p.data.length))
    show (⟨k, k + 1, markB (markB p.data (k + 1 + 1)) (k + 1 + 1)⟩ : Part) :: markP (markP l _) (k + (2 + (markB p.data (k + 1 + 1)).length)) = _
    rw [markB_len, markB_idem, ih]; rfl
theorem cntP_mark : ∀ (l : List Part) (k : Int), cntP (markP l k) = cntP l
  | [], _ => rfl
  | p :: l, k => by
    have ih := cntP_mark l (k + (2 + p.data.length))
    show 2 + ((markB p.data (k + 1 + 1)).length : Int) + cntP (markP l _) = 2 + (p.data.length : Int) + cntP l
    rw [markB_len, ih]
theorem markP_data : ∀ (l : List Part) (k : Int) {n : Nat}, (∀ p ∈ l, p.data.length ≤ n) → ∀ p ∈ markP l k, p.data.length ≤ n
  | [], _, _, _, p, hp => by cases hp
  | q :: l, k, n, h, p, hp => by
    rcases List.mem_cons.1 hp with rfl | hp
    · show (markB q.data _).length ≤ n
      rw [markB_len]; exact h q List.mem_cons_self
    · exact markP_data l _ (fun p hp => h p (List.mem_cons_of_mem _ hp)) p hp
/-- The first i are numbered. -/
def mkToP (l : List Part) (k : Int) (i : Nat) : List Part := markP (l.take i) k ++ l.drop i
theorem mkToP_zero (l : List Part) (k : Int) : mkToP l k 0 = l := by unfold mkToP; rw [List.take_zero, List.drop_zero]; rfl
theorem mkToP_all (l : List Part) (k : Int) : mkToP l k l.length = markP l k := by unfold mkToP; rw [List.take_length, List.drop_length, List.append_nil]
theorem mkToP_len (l : List Part) (k : Int) (i : Nat) : (mkToP l k i).length = l.length := by
  unfold mkToP
  rw [List.length_append, markP_len, List.length_take, List.length_drop]; omega
theorem mkToP_at : ∀ (l : List Part) (k : Int) (i : Nat), i < l.length → at_part (mkToP l k i) i = at_part l i
  | [], _, _, h => by simp at h
  | a :: l, k, 0, h => by rw [mkToP_zero]
  | a :: l, k, i + 1, h => by
    have ih := mkToP_at l (k + (2 + a.data.length)) i (by simpa using h)
    show at_part (mkToP l (k + (2 + a.data.length)) i) i = at_part l i
    exact ih
theorem mkToP_step : ∀ (l : List Part) (k : Int) (i : Nat), i < l.length → (mkToP l k i).set i ⟨k + cntP (l.take i), k + cntP (l.take i) + 1, markB (at_part l i).data (k + cntP (l.take i) + 1 + 1)⟩ = mkToP l k (i + 1)
  | [], _, _, h => by simp at h
  | a :: l, k, 0, h => by
    rw [mkToP_zero]
    show (⟨k + 0, k + 0 + 1, markB a.data (k + 0 + 1 + 1)⟩ : Part) :: l = (⟨k, k + 1, markB a.data (k + 1 + 1)⟩ : Part) :: (markP (l.take 0) _ ++ l.drop 0)
    rw [List.take_zero, List.drop_zero, Int.add_zero]; rfl
  | a :: l, k, i + 1, h => by
    have ih := mkToP_step l (k + (2 + a.data.length)) i (by simpa using h)
    show (⟨k, k + 1, markB a.data (k + 1 + 1)⟩ : Part) :: (mkToP l (k + (2 + a.data.length)) i).set i ⟨k + (2 + (a.data.length : Int) + cntP (l.take i)), k + (2 + (a.data.length : Int) + cntP (l.take i)) + 1, markB (at_part l i).data (k + (2 + (a.data.length : Int) + cntP (l.take i)) + 1 + 1)⟩ = (⟨k, k + 1, markB a.data (k + 1 + 1)⟩ : Part) :: mkToP l (k + (2 + a.data.length)) (i + 1)
    rw [← ih, show k + (2 + (a.data.length : Int) + cntP (l.take i)) = k + (2 + (a.data.length : Int)) + cntP (l.take i) by omega]
theorem cntP_take_succ : ∀ (l : List Part) (i : Nat), i < l.length → cntP (l.take (i + 1)) = cntP (l.take i) + (2 + (at_part l i).data.length)
  | [], _, h => by simp at h
  | a :: l, 0, h => by
    show 2 + (a.data.length : Int) + cntP (l.take 0) = 0 + (2 + (a.data.length : Int))
    rw [List.take_zero]; show 2 + (a.data.length : Int) + 0 = _; omega
  | a :: l, i + 1, h => by
    have ih := cntP_take_succ l i (by simpa using h)
    show 2 + (a.data.length : Int) + cntP (l.take (i + 1)) = 2 + (a.data.length : Int) + cntP (l.take i) + (2 + ((at_part l i).data.length : Int))
    omega
theorem cntP_take_le (l : List Part) (i : Nat) : cntP (l.take i) ≤ cntP l := by
  have h := cntP_app (l.take i) (l.drop i)
  rw [List.take_append_drop] at h
  have := cntP_nonneg (l.drop i)
  omega
theorem cntP_mem {l : List Part} {p : Part} (h : p ∈ l) : 2 + (p.data.length : Int) ≤ cntP l := by
  induction l with
  | nil => cases h
  | cons q l ih =>
    have h0 := cntP_nonneg l
    show _ ≤ 2 + (q.data.length : Int) + cntP l
    rcases List.mem_cons.1 h with rfl | h
    · omega
    · have := ih h; omega
theorem markP_at : ∀ (l : List Part) (k : Int) (i : Nat), i < l.length → at_part (markP l k) i = ⟨k + cntP (l.take i), k + cntP (l.take i) + 1, markB (at_part l i).data (k + cntP (l.take i) + 1 + 1)⟩
  | [], _, _, h => by simp at h
  | a :: l, k, 0, h => by
    show (⟨k, k + 1, markB a.data (k + 1 + 1)⟩ : Part) = ⟨k + 0, k + 0 + 1, markB a.data (k + 0 + 1 + 1)⟩
    rw [Int.add_zero]
  | a :: l, k, i + 1, h => by
    have ih := markP_at l (k + (2 + a.data.length)) i (by simpa using h)
    show at_part (markP l (k + (2 + a.data.length))) i = _
    rw [ih]
    show _ = (⟨k + (2 + (a.data.length : Int) + cntP (l.take i)), k + (2 + (a.data.length : Int) + cntP (l.take i)) + 1, markB (at_part l i).data (k + (2 + (a.data.length : Int) + cntP (l.take i)) + 1 + 1)⟩ : Part)
    rw [show k + (2 + (a.data.length : Int) + cntP (l.take i)) = k + (2 + (a.data.length : Int)) + cntP (l.take i) by omega]
theorem at_part_set (l : List Part) (i : Nat) (x : Part) (h : i < l.length) : at_part (l.set i x) i = x := by
  show (l.set i x).getD i _ = x
  rw [List.getD_eq_getElem?_getD, List.getElem?_set_self h]; rfl
structure MarkP (a : List Part) (k : Int) (o : List Part) : Prop where
  self : o = markP o k
  dat : ∀ p ∈ o, p.data.length ≤ 1048576
theorem MarkP.of {a o : List Part} {k : Int} (ha : ∀ p ∈ a, p.data.length ≤ 1048576) (h : o = markP a k) : o.length = a.length ∧ cntP o = cntP a ∧ MarkP a k o := by
  subst h
  exact ⟨markP_len a k, cntP_mark a k, (markP_idem a k).symm, markP_data a k ha⟩
theorem MarkP.to {a o : List Part} {k k' : Int} (h : MarkP a k o) (hk : k' = k) : o = markP o k' := by rw [hk]; exact h.self
theorem MarkP.le {y : Part} {a o : List Part} {k : Int} (hy : List.Mem y o) (h : MarkP a k o) : y.data.length ≤ 1048576 := h.dat y hy
/-- A piece, its bytes one's own. -/
def oPartC (p : Part) : List AC := [.d (.i .i64 p.seg), .d (.i .i64 p.len), .own ⟨5, .u8, p.data, m0⟩]
def oPart (p : Part) : Arg := .v true (oPartC p)
theorem set_takeP {o : List Part} {i : Nat} {x : Part} (h : i < o.length) : (o.set i x).take (i + 1) = o.take i ++ [x] := by
  rw [List.take_add_one, List.take_set, List.getElem?_set_self h, List.set_eq_of_length_le (by rw [List.length_take]; omega)]
  rfl
/-- How much pieces are, as it is counted. -/
def szP : List Part → Int
  | [] => 0
  | p :: l => p.data.length + szP l
theorem szP_nonneg : ∀ l : List Part, 0 ≤ szP l
  | [] => Int.le_refl 0
  | p :: l => by
    have := szP_nonneg l
    show 0 ≤ (p.data.length : Int) + szP l
    omega
theorem szP_mem {l : List Part} {p : Part} (h : p ∈ l) : (p.data.length : Int) ≤ szP l := by
  induction l with
  | nil => cases h
  | cons q l ih =>
    have h0 := szP_nonneg l
    have h1 := szP_nonneg (q :: l)
    show _ ≤ (q.data.length : Int) + szP l
    rcases List.mem_cons.1 h with rfl | h
    · omega
    · have := ih h; omega
theorem cnt_sz : ∀ l : List Part, cntP l = 2 * l.length + szP l
  | [] => rfl
  | p :: l => by
    have := cnt_sz l
    show 2 + (p.data.length : Int) + cntP l = 2 * ((l.length + 1 : Nat) : Int) + ((p.data.length : Int) + szP l)
    omega
theorem szP_take_succ : ∀ (l : List Part) (i : Nat), i < l.length → szP (l.take (i + 1)) = szP (l.take i) + (at_part l i).data.length
  | [], _, h => by simp at h
  | a :: l, 0, h => by
    show (a.data.length : Int) + szP (l.take 0) = 0 + (a.data.length : Int)
    rw [List.take_zero]; show (a.data.length : Int) + 0 = _; omega
  | a :: l, i + 1, h => by
    have ih := szP_take_succ l i (by simpa using h)
    show (a.data.length : Int) + szP (l.take (i + 1)) = (a.data.length : Int) + szP (l.take i) + ((at_part l i).data.length : Int)
    omega
theorem szP_take_le (l : List Part) : ∀ i : Nat, szP (l.take i) ≤ szP l := by
  induction l with
  | nil => intro i; rw [List.take_nil]; exact Int.le_refl _
  | cons p l ih =>
    intro i
    cases i with
    | zero => exact szP_nonneg _
    | succ i =>
      have := ih i
      show (p.data.length : Int) + szP (l.take i) ≤ (p.data.length : Int) + szP l
      omega

/-! laws.toSegPart -/
def c_laws_toSegPart : Ent := ctr (α := (Part)) (ρ := (Part)) [] [(0, 2)] (rs1 rPart) (fun x_ => (fun (p : Part) => (p.data.length ≤ LIM)) x_) (fun x_ r_ => (fun x_ => (fun (p : Part) => ((fun r_ => (fun (r : Part) => (r = p)) r_))) x_) x_ r_) (fun r_ => (fun (r : Part) => ([oPart r])) r_) (fun r_ => (fun (r : Part) => ([])) r_)
def V_laws_toSegPart : Env := ⟨tys, [(85, c_laws_toByteS)], [(12, [0])], [(1, 0), (2, 1), (3, 2)], [], [], [], [], []⟩
/-! laws.toSegPartS -/
def c_laws_toSegPartS : Ent := ctr (α := (List Part)) (ρ := (List Part)) [] [(0, 0)] (rs1 (rR .part)) (fun x_ => (fun (a : List Part) => ((a.length ≤ 1048576 ∧ ∀ p ∈ a, p.data.length ≤ 1048576))) x_) (fun x_ r_ => (fun x_ => (fun (a : List Part) => ((fun r_ => (fun (r : List Part) => (r = a)) r_))) x_) x_ r_) (fun r_ => (fun (r : List Part) => ([(rOd 120 .part).to r])) r_) (fun r_ => (fun (r : List Part) => ([])) r_)
def l_laws_toSegPartS_0 : LoopD ((List Part) × (List Part) × (Nat) × (Int)) ((List Part) × (Nat)) ((Empty)) where
  n := 23
  head := ⟨[0, 3, 4], [], [0]⟩
  st := fun x_ => (fun (a : List Part) (o : List Part) (q : Nat) (i : Int) => (⟨true, [(0, .v false [.d (.r .part a)]), (3, .v false [.ref 0 0]), (4, num .i64 i)], [⟨0, some ⟨120, .part, o, ⟨some q, false, 0, false⟩⟩⟩, ⟨0, none⟩], []⟩)) x_.1 x_.2.1 x_.2.2.1 x_.2.2.2
  pre := fun x_ => (fun (a : List Part) (o : List Part) (q : Nat) (i : Int) => (o.length = a.length ∧ q = 0 ∧ i = 0 ∧ (a.length ≤ 1048576 ∧ ∀ p ∈ a, p.data.length ≤ 1048576))) x_.1 x_.2.1 x_.2.2.1 x_.2.2.2
  nk := ⟨[3], [], [0]⟩
  nst := fun r_ => (fun (r : List Part) (q : Nat) => (⟨true, [(3, .v false [.ref 0 0])], [⟨0, some ⟨120, .part, r, ⟨some q, false, 0, false⟩⟩⟩, ⟨0, none⟩], []⟩)) r_.1 r_.2
  npost := fun x_ r_ => (fun x_ => (fun (a0 : List Part) (o0 : List Part) (q0 : Nat) (i0 : Int) => ((fun r_ => (fun (r : List Part) (q : Nat) => (r = a0 ∧ q = r.length)) r_.1 r_.2))) x_.1 x_.2.1 x_.2.2.1 x_.2.2.2) x_ r_
  rk := ⟨[], [], []⟩
  rst := fun _ => ⟨true, [], [], []⟩
  rpost := fun _ _ => False
def i_laws_toSegPartS_0 (x : (List Part) × (List Part) × (Nat) × (Int)) (n : Nat) (s : (List Part) × (List Part) × (Nat) × (Int)) : Prop := (fun x_ => (fun (a0 : List Part) (o0 : List Part) (q0 : Nat) (i0 : Int) => ((fun s_ => (fun (a : List Part) (o : List Part) (q : Nat) (i : Int) => (a = a0 ∧ (a.length ≤ 1048576 ∧ ∀ p ∈ a, p.data.length ≤ 1048576) ∧ 0 ≤ i ∧ i = q ∧ i + n = a.length ∧ o.length = a.length ∧ o.take i.toNat = a.take i.toNat)) s_.1 s_.2.1 s_.2.2.1 s_.2.2.2))) x_.1 x_.2.1 x_.2.2.1 x_.2.2.2) x s
def V_laws_toSegPartS : Env := ⟨tys, [(93, c_laws_toSegPart)], [(7, [0]), (20, [1])], [], [], [(0, l_laws_toSegPartS_0.L)], [700007], [], []⟩
/-! laws.eqSegPart -/
def c_laws_eqSegPart : Ent := ctr (α := (Part) × (Part)) (ρ := (Bool)) [] [] (rs rPart (rs1 rPart)) (fun x_ => (fun (a : Part) (b : Part) => (a.data.length ≤ LIM)) x_.1 x_.2) (fun x_ r_ => (fun x_ => (fun (a : Part) (b : Part) => ((fun r_ => (fun (r : Bool) => (r = decide (a = b))) r_))) x_.1 x_.2) x_ r_) (fun r_ => (fun (r : Bool) => ([rB.to r])) r_) (fun r_ => (fun (r : Bool) => ([])) r_)
def V_laws_eqSegPart : Env := ⟨tys, [(90, c_laws_eqByteS)], [], [(2, 0), (3, 1)], [], [], [], [], []⟩
/-! laws.eqSegPartS -/
def c_laws_eqSegPartS : Ent := ctr (α := (List Part) × (List Part)) (ρ := (Bool)) [] [] (rs (rR .part) (rs1 (rR .part))) (fun x_ => (fun (a : List Part) (b : List Part) => (a.length ≤ LIM ∧ ∀ p ∈ a, p.data.length ≤ LIM)) x_.1 x_.2) (fun x_ r_ => (fun x_ => (fun (a : List Part) (b : List Part) => ((fun r_ => (fun (r : Bool) => (r = decide (a = b))) r_))) x_.1 x_.2) x_ r_) (fun r_ => (fun (r : Bool) => ([rB.to r])) r_) (fun r_ => (fun (r : Bool) => ([])) r_)
def l_laws_eqSegPartS_0 : LoopD ((List Part) × (List Part) × (Int)) ((Unit)) ((Unit)) where
  n := 27
  head := ⟨[0, 1, 5], [], []⟩
  st := fun x_ => (fun (a : List Part) (b : List Part) (i : Int) => (⟨true, [(0, .v false [.d (.r .part a)]), (1, .v false [.d (.r .part b)]), (5, num .i64 i)], [], []⟩)) x_.1 x_.2.1 x_.2.2
  pre := fun x_ => (fun (a : List Part) (b : List Part) (i : Int) => (a.length = b.length ∧ i = 0 ∧ a.length ≤ LIM ∧ ∀ p ∈ a, p.data.length ≤ LIM)) x_.1 x_.2.1 x_.2.2
  nk := ⟨[], [], []⟩
  nst := fun r_ => (fun (u : Unit) => (⟨true, [], [], []⟩)) r_
  npost := fun x_ r_ => (fun x_ => (fun (a0 : List Part) (b0 : List Part) (i0 : Int) => ((fun r_ => (fun (u : Unit) => (a0 = b0)) r_))) x_.1 x_.2.1 x_.2.2) x_ r_
  rk := ⟨[4], [], []⟩
  rst := fun r_ => (fun (u : Unit) => (⟨true, [(4, boo false)], [], []⟩)) r_
  rpost := fun x_ r_ => (fun x_ => (fun (a0 : List Part) (b0 : List Part) (i0 : Int) => ((fun r_ => (fun (u : Unit) => (a0 ≠ b0)) r_))) x_.1 x_.2.1 x_.2.2) x_ r_
def i_laws_eqSegPartS_0 (x : (List Part) × (List Part) × (Int)) (n : Nat) (s : (List Part) × (List Part) × (Int)) : Prop := (fun x_ => (fun (a0 : List Part) (b0 : List Part) (i0 : Int) => ((fun s_ => (fun (a : List Part) (b : List Part) (i : Int) => (a = a0 ∧ b = b0 ∧ a.length = b.length ∧ a.length ≤ LIM ∧ (∀ p ∈ a, p.data.length ≤ LIM) ∧ 0 ≤ i ∧ i + n = a.length ∧ a.take i.toNat = b.take i.toNat)) s_.1 s_.2.1 s_.2.2))) x_.1 x_.2.1 x_.2.2) x s
def V_laws_eqSegPartS : Env := ⟨tys, [(94, c_laws_eqSegPart)], [], [], [], [(0, l_laws_eqSegPartS_0.L)], [], [], [(6, [(0, false), (1, false), (2, false), (3, false), (4, false), (5, false), (6, false), (7, false), (8, true), (9, false)])]⟩
/-! laws.szSegPart -/
def c_laws_szSegPart : Ent := ctr (α := (Part) × (Int)) (ρ := (Int)) [] [] (rs rPart (rs1 rInt)) (fun x_ => (fun (p : Part) (l : Int) => (p.data.length ≤ maxLen ∧ 0 ≤ l ∧ l ≤ 1048576)) x_.1 x_.2) (fun x_ r_ => (fun x_ => (fun (p : Part) (l : Int) => ((fun r_ => (fun (r : Int) => ((r = l - p.data.length ∧ 0 ≤ r) ∨ (r = -1 ∧ l < p.data.length))) r_))) x_.1 x_.2) x_ r_) (fun r_ => (fun (r : Int) => ([rInt.to r])) r_) (fun r_ => (fun (r : Int) => ([])) r_)
def V_laws_szSegPart : Env := ⟨tys, [(81, c_laws_szByteS)], [], [(2, 0)], [], [], [], [], []⟩
/-! laws.szSegPartS -/
def c_laws_szSegPartS : Ent := ctr (α := (List Part) × (Int)) (ρ := (Int)) [] [] (rs (rR .part) (rs1 rInt)) (fun x_ => (fun (a : List Part) (l : Int) => ((a.length ≤ maxLen ∧ ∀ p ∈ a, p.data.length ≤ maxLen) ∧ 0 ≤ l ∧ l ≤ 1048576)) x_.1 x_.2) (fun x_ r_ => (fun x_ => (fun (a : List Part) (l : Int) => ((fun r_ => (fun (r : Int) => ((r = l - a.length - szP a ∧ 0 ≤ r) ∨ r = -1)) r_))) x_.1 x_.2) x_ r_) (fun r_ => (fun (r : Int) => ([rInt.to r])) r_) (fun r_ => (fun (r : Int) => ([])) r_)
def l_laws_szSegPartS_0 : LoopD ((List Part) × (Int) × (Int)) ((Int)) ((Unit)) where
  n := 27
  head := ⟨[0, 1, 5], [], []⟩
  st := fun x_ => (fun (a : List Part) (l : Int) (i : Int) => (⟨true, [(0, .v false [.d (.r .part a)]), (1, num .i64 l), (5, num .i64 i)], [], []⟩)) x_.1 x_.2.1 x_.2.2
  pre := fun x_ => (fun (a : List Part) (l : Int) (i : Int) => (i = 0 ∧ (∀ p ∈ a, p.data.length ≤ maxLen) ∧ (a.length : Int) + l ≤ 1048576 ∧ 0 ≤ l)) x_.1 x_.2.1 x_.2.2
  nk := ⟨[1], [], []⟩
  nst := fun r_ => (fun (r : Int) => (⟨true, [(1, num .i64 r)], [], []⟩)) r_
  npost := fun x_ r_ => (fun x_ => (fun (a0 : List Part) (l0 : Int) (i0 : Int) => ((fun r_ => (fun (r : Int) => (r = l0 - szP a0 ∧ 0 ≤ r)) r_))) x_.1 x_.2.1 x_.2.2) x_ r_
  rk := ⟨[4], [], []⟩
  rst := fun r_ => (fun (u : Unit) => (⟨true, [(4, num .i64 (-1))], [], []⟩)) r_
  rpost := fun x_ r_ => (fun x_ => (fun (a0 : List Part) (l0 : Int) (i0 : Int) => ((fun r_ => (fun (u : Unit) => (True)) r_))) x_.1 x_.2.1 x_.2.2) x_ r_
def i_laws_szSegPartS_0 (x : (List Part) × (Int) × (Int)) (n : Nat) (s : (List Part) × (Int) × (Int)) : Prop := (fun x_ => (fun (a0 : List Part) (l0 : Int) (i0 : Int) => ((fun s_ => (fun (a : List Part) (l : Int) (i : Int) => (a = a0 ∧ l = l0 - szP (a.take i.toNat) ∧ 0 ≤ l ∧ 0 ≤ i ∧ i + n = a.length)) s_.1 s_.2.1 s_.2.2))) x_.1 x_.2.1 x_.2.2) x s
def V_laws_szSegPartS : Env := ⟨tys, [(91, c_laws_szSegPart)], [], [], [], [(0, l_laws_szSegPartS_0.L)], [], [], []⟩
end Go.Proofs.YtjjplncopjimdaaE

/- Calls answer what is promised: X2. Conditions: none. -/
set_option linter.unusedVariables false
set_option maxHeartbeats 1600000
namespace Go.Proofs.YtjjplncopjimdaaE
open Go
theorem vF_laws_toSegPart (p:Part) (K:List Arg→List (List AC)→Prop) (hp:p.data.length≤LIM) (hk:∀ (r:Part),(r=p)→K ([oPart r]) ([])):(true=true)∧(((List.length p.data)≤(137438953472:Nat))∧(∀ r:(List Int),(r=p.data)→(true=true)∧((true=true)∧(K [(Arg.v true [(AC.d (D.i IntKind.i64 p.seg)),(AC.d (D.i IntKind.i64 p.len)),(AC.own (RC.mk (5:Nat) RK.u8 r (RM.mk (dpM false (Option.none)) false (0:Nat) false)))])] [])))) := by
  refine ⟨rfl, hp, fun r hr => ⟨rfl, rfl, ?_⟩⟩
  subst hr
  exact hk p rfl
theorem w_laws_toSegPart : Valid Try.prog 93 c_laws_toSegPart :=
  valid_ctr2 (V := V_laws_toSegPart) (tysB_ok tys_ok) ⟨(CallsL.cons w_laws_toByteS (CallsL.nil _)), (IosL.nil _)⟩ mixed 1 3 Try.func93 rfl (by kernel_rfl)
    (fun c hc => by
      obtain rfl := Option.some.inj hc
      exact ⟨trivial, ⟨trivial, ⟨trivial, ⟨trivial, ⟨trivial, ⟨trivial, trivial⟩⟩⟩⟩⟩⟩)
    (fun x K hp hk => ⟨_, by kernel_rfl, vF_laws_toSegPart x K hp (fun r h => hk r h)⟩)
theorem vF_laws_toSegPartS (a:List Part) (K:List Arg→List (List AC)→Prop) (hp:(a.length≤1048576∧∀ p ∈ a,p.data.length≤1048576)) (hk:∀ (r:List Part),(r=a)→K ([(rOd 120 .part).to r]) ([])):(((0:Int)≤(((List.length a):Nat):Int))∧(((((List.length a):Nat):Int)=(((List.length a):Nat):Int))∧((Int.toNat (((List.length a):Nat):Int))≤(137438953472:Nat))))∧(∃ s:(Prod (List Part) (Prod (List Part) (Prod Nat Int))),((KS.mk true [(Prod.mk (0:Nat) (T.v false [(Cm.d (D.r RK.part a))])),(Prod.mk (3:Nat) (T.v false [(Cm.ref (0:Nat) (0:Nat))])),(Prod.mk (4:Nat) (num IntKind.i64 (0:Int)))] [(Row.mk (0:Nat) (Option.some (RC.mk (120:Nat) RK.part (List.replicate (Int.toNat (((List.length a):Nat):Int)) (RK.z RK.part)) (RM.mk (Option.some (0:Nat)) false (0:Nat) false)))),(Row.mk (0:Nat) Option.none)] [])=(KS.mk true [(Prod.mk (0:Nat) (T.v false [(Cm.d (D.r RK.part s.fst))])),(Prod.mk (3:Nat) (T.v false [(Cm.ref (0:Nat) (0:Nat))])),(Prod.mk (4:Nat) (num IntKind.i64 s.snd.snd.snd))] [(Row.mk (0:Nat) (Option.some (RC.mk (120:Nat) RK.part s.snd.fst (RM.mk (Option.some s.snd.snd.fst) false (0:Nat) false)))),(Row.mk (0:Nat) Option.none)] []))∧((((List.length s.snd.fst)=(List.length s.fst))∧((s.snd.snd.fst=(0:Nat))∧((s.snd.snd.snd=(0:Int))∧(((List.length s.fst)≤(1048576:Nat))∧(∀ p:Part,(List.Mem p s.fst)→((List.length p.data)≤(1048576:Nat)))))))∧((∀ r:(Prod (List Part) Nat),((r.fst=s.fst)∧(r.snd=(List.length r.fst)))→(true=true)∧(K [(Arg.v false [(AC.own (RC.mk (120:Nat) RK.part r.fst (RM.mk (dpM false (Option.some r.snd)) false (0:Nat) false)))])] []))∧(∀ r:Empty,False→False)))) := by
  obtain ⟨h1, h2⟩ := hp
  refine ⟨⟨by omega, rfl, by omega⟩, (a, List.replicate (↑a.length : Int).toNat (⟨0, 0, []⟩ : Part), 0, 0), rfl, ⟨?_, rfl, rfl, h1, h2⟩, fun r hr => ⟨rfl, ?_⟩, fun r h => h⟩
  · show (List.replicate _ (⟨0, 0, []⟩ : Part)).length = a.length
    rw [List.length_replicate, Int.toNat_natCast]
  · obtain ⟨r, q⟩ := r
    obtain ⟨h3, h4⟩ := hr
    dsimp only at h3 h4
    subst h3
    subst h4
    exact hk _ rfl
theorem vL_laws_toSegPartS_0 (a0:List Part) (o0:List Part) (q0:Nat) (i0:Int) (a:List Part) (o:List Part) (q:Nat) (i:Int) (n:Nat) (hp:(fun (a:List Part) (o:List Part) (q:Nat) (i:Int) => (o.length=a.length∧q=0∧i=0∧(a.length≤1048576∧∀ p ∈ a,p.data.length≤1048576))) a0 o0 q0 i0) (hi:a=a0∧(a.length≤1048576∧∀ p ∈ a,p.data.length≤1048576)∧0≤i∧i=q∧i + n=a.length∧o.length=a.length∧o.take i.toNat=a.take i.toNat):if ((decide (i < (((List.length a):Nat):Int)))=true) then ((((0:Int)≤i)∧(i < (((List.length a):Nat):Int)))∧((true=true)∧(((List.length (at_part a (Int.toNat i)).data)≤(137438953472:Nat))∧(∀ r:Part,(r=(at_part a (Int.toNat i)))→(true=true)∧((((0:Int)≤i)∧(i < (((List.length o):Nat):Int)))∧(((Int.toNat i)=q)∧(∃ s:(Prod (List Part) (Prod (List Part) (Prod Nat Int))),((KS.mk true [(Prod.mk (0:Nat) (T.v false [(Cm.d (D.r RK.part a))])),(Prod.mk (3:Nat) (T.v false [(Cm.ref (0:Nat) (0:Nat))])),(Prod.mk (4:Nat) (num IntKind.i64 (IntKind.wrap IntKind.i64 (i + (1:Int)))))] [(Row.mk (0:Nat) (Option.some (RC.mk (120:Nat) RK.part (List.set o (Int.toNat i) (Part.mk r.seg r.len r.data)) (RM.mk (Option.some (q + (1:Nat))) false (0:Nat) false)))),(Row.mk (0:Nat) Option.none)] [])=(KS.mk true [(Prod.mk (0:Nat) (T.v false [(Cm.d (D.r RK.part s.fst))])),(Prod.mk (3:Nat) (T.v false [(Cm.ref (0:Nat) (0:Nat))])),(Prod.mk (4:Nat) (num IntKind.i64 s.snd.snd.snd))] [(Row.mk (0:Nat) (Option.some (RC.mk (120:Nat) RK.part s.snd.fst (RM.mk (Option.some s.snd.snd.fst) false (0:Nat) false)))),(Row.mk (0:Nat) Option.none)] []))∧(∃ m:Nat,(m < n)∧((s.fst=a0)∧((((List.length s.fst)≤(1048576:Nat))∧(∀ p:Part,(List.Mem p s.fst)→((List.length p.data)≤(1048576:Nat))))∧(((0:Int)≤s.snd.snd.snd)∧((s.snd.snd.snd=((s.snd.snd.fst:Nat):Int))∧(((s.snd.snd.snd + ((m:Nat):Int))=(((List.length s.fst):Nat):Int))∧(((List.length s.snd.fst)=(List.length s.fst))∧((List.take (Int.toNat s.snd.snd.snd) s.snd.fst)=(List.take (Int.toNat s.snd.snd.snd) s.fst)))))))))))))))) else (∃ r:(Prod (List Part) Nat),((KS.mk true [(Prod.mk (3:Nat) (T.v false [(Cm.ref (0:Nat) (0:Nat))]))] [(Row.mk (0:Nat) (Option.some (RC.mk (120:Nat) RK.part o (RM.mk (Option.some q) false (0:Nat) false)))),(Row.mk (0:Nat) Option.none)] [])=(KS.mk true [(Prod.mk (3:Nat) (T.v false [(Cm.ref (0:Nat) (0:Nat))]))] [(Row.mk (0:Nat) (Option.some (RC.mk (120:Nat) RK.part r.fst (RM.mk (Option.some r.snd) false (0:Nat) false)))),(Row.mk (0:Nat) Option.none)] []))∧((r.fst=a0)∧(r.snd=(List.length r.fst)))) := by
  try dsimp only at hp
  obtain ⟨rfl, ⟨h1, h6⟩, h2, h3, h4, h5, h7⟩ := hi
  subst h3
  simp only [Int.toNat_natCast] at h7 ⊢
  rw [wr (x := (q : Int) + 1) (by omega) (by omega)]
  cases n with
  | zero =>
    rw [if_neg (by simp; omega)]
    have hi : q = a.length := by omega
    subst hi
    rw [List.take_length, ← h5, List.take_length] at h7
    exact ⟨(o, a.length), rfl, h7, h5.symm⟩
  | succ n =>
    have hq : q < a.length := by omega
    rw [if_pos (by simp; omega)]
    have hd := h6 _ (at_mem .part a q hq)
    have hd' : (at_part a q).data.length ≤ 1048576 := hd
    refine ⟨⟨by omega, by omega⟩, by trivial, by omega, fun r hr => ⟨by trivial, ⟨by omega, by omega⟩, by trivial, (a, o.set q ⟨r.seg, r.len, r.data⟩, q + 1, (q : Int) + 1), rfl, n, by omega, rfl, ⟨h1, h6⟩, by dsimp only; omega, by dsimp only; omega, by dsimp only; omega, ?_, ?_⟩⟩
    · show (o.set q _).length = a.length
      rw [List.length_set]; exact h5
    · subst hr
      have ea : a.take (q + 1) = a.take q ++ [at_part a q] := take_at .part a q hq
      show (o.set q (at_part a q)).take ((q : Int) + 1).toNat = a.take ((q : Int) + 1).toNat
      rw [show ((q : Int) + 1).toNat = q + 1 by omega, set_takeP (by omega), ea, h7]
theorem vS_laws_toSegPartS_0 (a0 : List Part) (o0 : List Part) (q0 : Nat) (i0 : Int) (hp : (fun (a : List Part) (o : List Part) (q : Nat) (i : Int) => (o.length = a.length ∧ q = 0 ∧ i = 0 ∧ (a.length ≤ 1048576 ∧ ∀ p ∈ a, p.data.length ≤ 1048576))) a0 o0 q0 i0) : ∃ n : Nat, (fun (a : List Part) (o : List Part) (q : Nat) (i : Int) => (a = a0 ∧ (a.length ≤ 1048576 ∧ ∀ p ∈ a, p.data.length ≤ 1048576) ∧ 0 ≤ i ∧ i = q ∧ i + n = a.length ∧ o.length = a.length ∧ o.take i.toNat = a.take i.toNat)) a0 o0 q0 i0 := by
  try dsimp only at hp
  try dsimp only
  obtain ⟨h1, rfl, rfl, h3, h4⟩ := hp
  exact ⟨a0.length, rfl, ⟨h3, h4⟩, by omega, rfl, by omega, h1, rfl⟩
theorem w_laws_toSegPartS : Valid Try.prog 83 c_laws_toSegPartS :=
  valid_ctr2 (V := V_laws_toSegPartS) (tysB_ok tys_ok) ⟨(CallsL.cons w_laws_toSegPart (CallsL.nil _)), (IosL.nil _)⟩ mixed 2 0 Try.func83 rfl (by kernel_rfl)
    (fun c hc => by
      obtain rfl := Option.some.inj hc
      exact ⟨trivial, ⟨trivial, ⟨⟨trivial, ⟨LoopD.ok2 (V := V_laws_toSegPartS) l_laws_toSegPartS_0 (LoopsM.cons 0 l_laws_toSegPartS_0 LoopsM.nil) 0 _ i_laws_toSegPartS_0 (fun x hx => vS_laws_toSegPartS_0 x.1 x.2.1 x.2.2.1 x.2.2.2 hx) (fun x hx n s hi => ⟨_, by kernel_rfl, vL_laws_toSegPartS_0 x.1 x.2.1 x.2.2.1 x.2.2.2 s.1 s.2.1 s.2.2.1 s.2.2.2 n hx hi⟩), ⟨⟨trivial, ⟨trivial, trivial⟩⟩, ⟨trivial, trivial⟩⟩⟩⟩, ⟨trivial, trivial⟩⟩⟩⟩)
    (fun x K hp hk => ⟨_, by kernel_rfl, vF_laws_toSegPartS x K hp (fun r h => hk r h)⟩)
theorem vF_laws_eqSegPart (a:Part) (b:Part) (K:List Arg→List (List AC)→Prop) (hp:a.data.length≤LIM) (hk:∀ (r:Bool),(r=decide (a=b))→K ([rB.to r]) ([])):if ((a.seg != b.seg)=true) then ((true=true)∧(K [(aB false)] [])) else (if ((a.len != b.len)=true) then ((true=true)∧(K [(aB false)] [])) else ((true=true)∧((((List.length a.data)≤(137438953472:Nat))∧True)∧(∀ r:Bool,(r=(decide (a.data=b.data)))→(true=true)∧(if ((!r)=true) then ((true=true)∧(K [(aB false)] [])) else ((true=true)∧(K [(aB true)] []))))))) := by
  obtain ⟨a1, a2, a3⟩ := a
  obtain ⟨b1, b2, b3⟩ := b

  repeat' first
    | exact rfl
    | exact True.intro
    | with_reducible apply And.intro
    | (with_reducible intro y_ hy_; subst hy_)
    | with_reducible intro y_
    | (refine iteI (fun h => ?_) (fun h => ?_))
  all_goals try simp only [Bool.not_eq_true', decide_eq_false_iff_not, decide_eq_true_eq, Bool.not_eq_true, bne_iff_ne, beq_iff_eq, ne_eq, Decidable.not_not, Bool.not_eq_false, gt_iff_lt, ge_iff_le, Int.not_le, Int.not_lt, beq_eq_false_iff_ne, bne_eq_false_iff_eq, Bool.and_eq_true, Bool.or_eq_true, Bool.true_eq_false, Bool.false_eq_true] at *
  all_goals try simp (disch := first | omega | grind []) only [wr] at *
  all_goals first
    | assumption
    | omega
    | exact hk _ (by grind [])
    | (simp only [LIM] at *; omega)
    | grind [LIM]
theorem w_laws_eqSegPart : Valid Try.prog 94 c_laws_eqSegPart :=
  valid_ctr2 (V := V_laws_eqSegPart) (tysB_ok tys_ok) ⟨(CallsL.cons w_laws_eqByteS (CallsL.nil _)), (IosL.nil _)⟩ mixed 0 2 Try.func94 rfl (by kernel_rfl)
    (fun c hc => by
      obtain rfl := Option.some.inj hc
      exact ⟨trivial, ⟨⟨trivial, ⟨⟨trivial, trivial⟩, trivial⟩⟩, ⟨⟨trivial, ⟨⟨trivial, trivial⟩, trivial⟩⟩, ⟨⟨trivial, ⟨⟨trivial, trivial⟩, trivial⟩⟩, ⟨trivial, trivial⟩⟩⟩⟩⟩)
    (fun x K hp hk => ⟨_, by kernel_rfl, vF_laws_eqSegPart x.1 x.2 K hp (fun r h => hk r h)⟩)
theorem vF_laws_eqSegPartS (a:List Part) (b:List Part) (K:List Arg→List (List AC)→Prop) (hp:a.length≤LIM∧∀ p ∈ a,p.data.length≤LIM) (hk:∀ (r:Bool),(r=decide (a=b))→K ([rB.to r]) ([])):if (((((List.length a):Nat):Int) != (((List.length b):Nat):Int))=true) then ((true=true)∧(K [(aB false)] [])) else (∃ s:(Prod (List Part) (Prod (List Part) Int)),((KS.mk true [(Prod.mk (0:Nat) (T.v false [(Cm.d (D.r RK.part a))])),(Prod.mk (1:Nat) (T.v false [(Cm.d (D.r RK.part b))])),(Prod.mk (5:Nat) (num IntKind.i64 (0:Int)))] [] [])=(KS.mk true [(Prod.mk (0:Nat) (T.v false [(Cm.d (D.r RK.part s.fst))])),(Prod.mk (1:Nat) (T.v false [(Cm.d (D.r RK.part s.snd.fst))])),(Prod.mk (5:Nat) (num IntKind.i64 s.snd.snd))] [] []))∧((((List.length s.fst)=(List.length s.snd.fst))∧((s.snd.snd=(0:Int))∧(((List.length s.fst)≤(137438953472:Nat))∧(∀ p:Part,(List.Mem p s.fst)→((List.length p.data)≤(137438953472:Nat))))))∧((∀ r:Unit,(s.fst=s.snd.fst)→(true=true)∧(K [(aB true)] []))∧(∀ r:Unit,(s.fst ≠ s.snd.fst)→(true=true)∧(K [(aB false)] []))))) := by
  refine iteI (fun h => ?_) (fun h => ?_)
  · refine ⟨by trivial, hk false ?_⟩
    symm; rw [decide_eq_false_iff_not]; rintro rfl; simp at h
  · have h1 : a.length = b.length := by simp at h; omega
    refine ⟨(a, b, 0), rfl, ⟨h1, rfl, hp.1, hp.2⟩, fun _ hr => ⟨by trivial, hk true (by simp; exact hr)⟩, fun _ hr => ⟨by trivial, hk false (by simp; exact hr)⟩⟩
theorem vL_laws_eqSegPartS_0 (a0:List Part) (b0:List Part) (i0:Int) (a:List Part) (b:List Part) (i:Int) (n:Nat) (hp:(fun (a:List Part) (b:List Part) (i:Int) => (a.length=b.length∧i=0∧a.length≤LIM∧∀ p ∈ a,p.data.length≤LIM)) a0 b0 i0) (hi:a=a0∧b=b0∧a.length=b.length∧a.length≤LIM∧(∀ p ∈ a,p.data.length≤LIM)∧0≤i∧i + n=a.length∧a.take i.toNat=b.take i.toNat):if ((decide (i < (((List.length a):Nat):Int)))=true) then ((((0:Int)≤i)∧(i < (((List.length a):Nat):Int)))∧((((0:Int)≤i)∧(i < (((List.length b):Nat):Int)))∧((true=true)∧(((List.length (at_part a (Int.toNat i)).data)≤(137438953472:Nat))∧(∀ r:Bool,(r=(decide ((at_part a (Int.toNat i))=(at_part b (Int.toNat i)))))→(true=true)∧((true=true)∧(if ((!r)=true) then (∃ r1:Unit,((KS.mk true [(Prod.mk (4:Nat) (boo false))] [] [])=(KS.mk true [(Prod.mk (4:Nat) (boo false))] [] []))∧(a0 ≠ b0)) else (∃ s:(Prod (List Part) (Prod (List Part) Int)),((KS.mk true [(Prod.mk (0:Nat) (T.v false [(Cm.d (D.r RK.part a))])),(Prod.mk (1:Nat) (T.v false [(Cm.d (D.r RK.part b))])),(Prod.mk (5:Nat) (num IntKind.i64 (IntKind.wrap IntKind.i64 (i + (1:Int)))))] [] [])=(KS.mk true [(Prod.mk (0:Nat) (T.v false [(Cm.d (D.r RK.part s.fst))])),(Prod.mk (1:Nat) (T.v false [(Cm.d (D.r RK.part s.snd.fst))])),(Prod.mk (5:Nat) (num IntKind.i64 s.snd.snd))] [] []))∧(∃ m:Nat,(m < n)∧((s.fst=a0)∧((s.snd.fst=b0)∧(((List.length s.fst)=(List.length s.snd.fst))∧(((List.length s.fst)≤(137438953472:Nat))∧((∀ p:Part,(List.Mem p s.fst)→((List.length p.data)≤(137438953472:Nat)))∧(((0:Int)≤s.snd.snd)∧(((s.snd.snd + ((m:Nat):Int))=(((List.length s.fst):Nat):Int))∧((List.take (Int.toNat s.snd.snd) s.fst)=(List.take (Int.toNat s.snd.snd) s.snd.fst)))))))))))))))))) else (∃ r:Unit,((KS.mk true [] [] [])=(KS.mk true [] [] []))∧(a0=b0)) := by
  try dsimp only at hp
  obtain ⟨rfl, rfl, h1, h2, hw, h3, h4, h5⟩ := hi
  have hL : a.length ≤ 137438953472 := h2
  obtain ⟨i, rfl⟩ : ∃ m : Nat, i = m := ⟨i.toNat, by omega⟩
  rw [wr (x := (i : Int) + 1) (by omega) (by omega)]
  simp only [Int.toNat_natCast] at h5 ⊢
  refine iteI (fun h => ?_) (fun h => ?_)
  · have hi : i < a.length := by simp at h; omega
    refine ⟨⟨by omega, by omega⟩, ⟨by omega, by omega⟩, by trivial, ?_⟩
    have ea : a.take (i + 1) = a.take i ++ [at_part a i] := take_at .part a i hi
    have eb : b.take (i + 1) = b.take i ++ [at_part b i] := take_at .part b i (show i < b.length by omega)
    refine ⟨hw _ (at_mem .part a i hi), fun r hr => ?_⟩
    subst hr
    repeat refine ⟨by trivial, ?_⟩
    refine iteI (fun hx => ?_) (fun hx => ?_)
    · refine ⟨(), by trivial, fun he => ?_⟩
      simp [he] at hx
    · refine ⟨(a, b, (i : Int) + 1), rfl, n - 1, by omega, rfl, rfl, h1, h2, hw, by dsimp only; omega, by dsimp only; omega, ?_⟩
      dsimp only
      rw [show ((i : Int) + 1).toNat = i + 1 by omega, ea, eb, h5]
      simp at hx
      exact congrArg (fun z => List.take i b ++ [z]) hx
  · have hi : i = a.length := by simp at h; omega
    subst hi
    refine ⟨(), by trivial, ?_⟩
    rw [List.take_length, h1, List.take_length] at h5
    exact h5
theorem vS_laws_eqSegPartS_0 (a0 : List Part) (b0 : List Part) (i0 : Int) (hp : (fun (a : List Part) (b : List Part) (i : Int) => (a.length = b.length ∧ i = 0 ∧ a.length ≤ LIM ∧ ∀ p ∈ a, p.data.length ≤ LIM)) a0 b0 i0) : ∃ n : Nat, (fun (a : List Part) (b : List Part) (i : Int) => (a = a0 ∧ b = b0 ∧ a.length = b.length ∧ a.length ≤ LIM ∧ (∀ p ∈ a, p.data.length ≤ LIM) ∧ 0 ≤ i ∧ i + n = a.length ∧ a.take i.toNat = b.take i.toNat)) a0 b0 i0 := by
  try dsimp only at hp
  try dsimp only
  obtain ⟨h1, h2, h3, hw⟩ := hp
  exact ⟨a0.length, rfl, rfl, h1, h3, hw, by omega, by omega, by subst h2; simp⟩
theorem w_laws_eqSegPartS : Valid Try.prog 88 c_laws_eqSegPartS :=
  valid_ctr2 (V := V_laws_eqSegPartS) (tysB_ok tys_ok) ⟨(CallsL.cons w_laws_eqSegPart (CallsL.nil _)), (IosL.nil _)⟩ mixed 0 0 Try.func88 rfl (by kernel_rfl)
    (fun c hc => by
      obtain rfl := Option.some.inj hc
      exact ⟨trivial, ⟨⟨trivial, ⟨⟨trivial, trivial⟩, trivial⟩⟩, ⟨⟨trivial, ⟨LoopD.ok2 (V := V_laws_eqSegPartS) l_laws_eqSegPartS_0 (LoopsM.cons 0 l_laws_eqSegPartS_0 LoopsM.nil) 0 _ i_laws_eqSegPartS_0 (fun x hx => vS_laws_eqSegPartS_0 x.1 x.2.1 x.2.2 hx) (fun x hx n s hi => ⟨_, by kernel_rfl, vL_laws_eqSegPartS_0 x.1 x.2.1 x.2.2 s.1 s.2.1 s.2.2 n hx hi⟩), ⟨⟨trivial, ⟨trivial, trivial⟩⟩, ⟨⟨trivial, ⟨⟨trivial, trivial⟩, trivial⟩⟩, trivial⟩⟩⟩⟩, ⟨trivial, trivial⟩⟩⟩⟩)
    (fun x K hp hk => ⟨_, by kernel_rfl, vF_laws_eqSegPartS x.1 x.2 K hp (fun r h => hk r h)⟩)
theorem vF_laws_szSegPart (p:Part) (l:Int) (K:List Arg→List (List AC)→Prop) (hp:p.data.length≤maxLen∧0≤l∧l≤1048576) (hk:∀ (r:Int),((r=l - p.data.length∧0≤r)∨(r=-1∧l < p.data.length))→K ([rInt.to r]) ([])):(true=true)∧((((List.length p.data)≤(9223372036854775807:Nat))∧(((0:Int)≤l)∧(l≤(1048576:Int))))∧(∀ r:Int,(((r=(l - (((List.length p.data):Nat):Int)))∧((0:Int)≤r))∨((r=(-1:Int))∧(l < (((List.length p.data):Nat):Int))))→(true=true)∧(if ((decide (r < (0:Int)))=true) then ((true=true)∧(K [(aI IntKind.i64 (-1:Int))] [])) else ((true=true)∧(K [(aI IntKind.i64 r)] []))))) := by
  obtain ⟨h1, h2, h3⟩ := hp
  refine ⟨rfl, ⟨h1, h2, h3⟩, fun r hr => ⟨rfl, ?_⟩⟩
  refine iteI (fun h => ?_) (fun h => ?_)
  · exact ⟨rfl, hk _ (.inr ⟨rfl, by simp at h; omega⟩)⟩
  · exact ⟨rfl, hk _ (.inl (by simp at h; omega))⟩
theorem w_laws_szSegPart : Valid Try.prog 91 c_laws_szSegPart :=
  valid_ctr2 (V := V_laws_szSegPart) (tysB_ok tys_ok) ⟨(CallsL.cons w_laws_szByteS (CallsL.nil _)), (IosL.nil _)⟩ mixed 0 1 Try.func91 rfl (by kernel_rfl)
    (fun c hc => by
      obtain rfl := Option.some.inj hc
      exact ⟨trivial, ⟨trivial, ⟨⟨trivial, ⟨⟨trivial, trivial⟩, trivial⟩⟩, ⟨trivial, trivial⟩⟩⟩⟩)
    (fun x K hp hk => ⟨_, by kernel_rfl, vF_laws_szSegPart x.1 x.2 K hp (fun r h => hk r h)⟩)
theorem vF_laws_szSegPartS (a:List Part) (l:Int) (K:List Arg→List (List AC)→Prop) (hp:(a.length≤maxLen∧∀ p ∈ a,p.data.length≤maxLen)∧0≤l∧l≤1048576) (hk:∀ (r:Int),((r=l - a.length - szP a∧0≤r)∨r=-1)→K ([rInt.to r]) ([])):if ((decide ((IntKind.wrap IntKind.i64 (l - (((List.length a):Nat):Int))) < (0:Int)))=true) then ((true=true)∧(K [(aI IntKind.i64 (-1:Int))] [])) else (∃ s:(Prod (List Part) (Prod Int Int)),((KS.mk true [(Prod.mk (0:Nat) (T.v false [(Cm.d (D.r RK.part a))])),(Prod.mk (1:Nat) (num IntKind.i64 (IntKind.wrap IntKind.i64 (l - (((List.length a):Nat):Int))))),(Prod.mk (5:Nat) (num IntKind.i64 (0:Int)))] [] [])=(KS.mk true [(Prod.mk (0:Nat) (T.v false [(Cm.d (D.r RK.part s.fst))])),(Prod.mk (1:Nat) (num IntKind.i64 s.snd.fst)),(Prod.mk (5:Nat) (num IntKind.i64 s.snd.snd))] [] []))∧(((s.snd.snd=(0:Int))∧((∀ p:Part,(List.Mem p s.fst)→((List.length p.data)≤(9223372036854775807:Nat)))∧((((((List.length s.fst):Nat):Int) + s.snd.fst)≤(1048576:Int))∧((0:Int)≤s.snd.fst))))∧((∀ r:Int,((r=(s.snd.fst - (szP s.fst)))∧((0:Int)≤r))→(true=true)∧(K [(aI IntKind.i64 r)] []))∧(∀ r:Unit,True→(true=true)∧(K [(aI IntKind.i64 (-1:Int))] []))))) := by
  obtain ⟨⟨h1, h4⟩, h2, h3⟩ := hp
  have h1' : a.length ≤ 9223372036854775807 := h1
  rw [wr (x := l - a.length) (by omega) (by omega)]
  refine iteI (fun h => ?_) (fun h => ?_)
  · exact ⟨rfl, hk _ (.inr rfl)⟩
  · have h' : ¬ l - (a.length : Int) < 0 := by simpa using h
    refine ⟨(a, l - a.length, 0), rfl, ⟨rfl, h4, by dsimp only; omega, by dsimp only; omega⟩, fun r hr => ⟨rfl, hk r (.inl hr)⟩, fun r hr => ⟨rfl, hk _ (.inr rfl)⟩⟩
theorem vL_laws_szSegPartS_0 (a0:List Part) (l0:Int) (i0:Int) (a:List Part) (l:Int) (i:Int) (n:Nat) (hp:(fun (a:List Part) (l:Int) (i:Int) => (i=0∧(∀ p ∈ a,p.data.length≤maxLen)∧(a.length:Int) + l≤1048576∧0≤l)) a0 l0 i0) (hi:a=a0∧l=l0 - szP (a.take i.toNat)∧0≤l∧0≤i∧i + n=a.length):if ((decide (i < (((List.length a):Nat):Int)))=true) then ((((0:Int)≤i)∧(i < (((List.length a):Nat):Int)))∧((true=true)∧((((List.length (at_part a (Int.toNat i)).data)≤(9223372036854775807:Nat))∧(((0:Int)≤l)∧(l≤(1048576:Int))))∧(∀ r:Int,(((r=(l - (((List.length (at_part a (Int.toNat i)).data):Nat):Int)))∧((0:Int)≤r))∨((r=(-1:Int))∧(l < (((List.length (at_part a (Int.toNat i)).data):Nat):Int))))→(true=true)∧(if ((decide (r < (0:Int)))=true) then (∃ r1:Unit,((KS.mk true [(Prod.mk (4:Nat) (num IntKind.i64 (-1:Int)))] [] [])=(KS.mk true [(Prod.mk (4:Nat) (num IntKind.i64 (-1:Int)))] [] []))∧True) else (∃ s:(Prod (List Part) (Prod Int Int)),((KS.mk true [(Prod.mk (0:Nat) (T.v false [(Cm.d (D.r RK.part a))])),(Prod.mk (1:Nat) (num IntKind.i64 r)),(Prod.mk (5:Nat) (num IntKind.i64 (IntKind.wrap IntKind.i64 (i + (1:Int)))))] [] [])=(KS.mk true [(Prod.mk (0:Nat) (T.v false [(Cm.d (D.r RK.part s.fst))])),(Prod.mk (1:Nat) (num IntKind.i64 s.snd.fst)),(Prod.mk (5:Nat) (num IntKind.i64 s.snd.snd))] [] []))∧(∃ m:Nat,(m < n)∧((s.fst=a0)∧((s.snd.fst=(l0 - (szP (List.take (Int.toNat s.snd.snd) s.fst))))∧(((0:Int)≤s.snd.fst)∧(((0:Int)≤s.snd.snd)∧((s.snd.snd + ((m:Nat):Int))=(((List.length s.fst):Nat):Int))))))))))))) else (∃ r:Int,((KS.mk true [(Prod.mk (1:Nat) (num IntKind.i64 l))] [] [])=(KS.mk true [(Prod.mk (1:Nat) (num IntKind.i64 r))] [] []))∧((r=(l0 - (szP a0)))∧((0:Int)≤r))) := by
  try dsimp only at hp
  obtain ⟨_, p1, p2, p3⟩ := hp
  obtain ⟨rfl, rfl, h2, h3, h4⟩ := hi
  obtain ⟨i, rfl⟩ : ∃ q : Nat, i = q := ⟨i.toNat, by omega⟩
  simp only [Int.toNat_natCast] at h2 ⊢
  rw [wr (x := (i : Int) + 1) (by omega) (by omega)]
  cases n with
  | zero =>
    rw [if_neg (by simp; omega)]
    have hi : i = a.length := by omega
    subst hi
    rw [List.take_length] at h2 ⊢
    exact ⟨_, rfl, rfl, h2⟩
  | succ n =>
    have hi : i < a.length := by omega
    rw [if_pos (by simp; omega)]
    have hd : (at_part a i).data.length ≤ 9223372036854775807 := p1 _ (at_mem .part a i hi)
    have hs := szP_nonneg (a.take i)
    have hs2 := szP_take_succ a i hi
    refine ⟨⟨by omega, by omega⟩, by trivial, ⟨hd, by omega, by omega⟩, fun r hr => ⟨by trivial, ?_⟩⟩
    refine iteI (fun h => ?_) (fun h => ?_)
    · exact ⟨(), by trivial, trivial⟩
    · have h' : ¬ r < 0 := by simpa using h
      refine ⟨(a, r, (i : Int) + 1), rfl, n, by omega, rfl, ?_, by dsimp only; omega, by dsimp only; omega, by dsimp only; omega⟩
      show r = l0 - szP (a.take ((i : Int) + 1).toNat)
      rw [show ((i : Int) + 1).toNat = i + 1 by omega, hs2]
      omega
theorem vS_laws_szSegPartS_0 (a0 : List Part) (l0 : Int) (i0 : Int) (hp : (fun (a : List Part) (l : Int) (i : Int) => (i = 0 ∧ (∀ p ∈ a, p.data.length ≤ maxLen) ∧ (a.length : Int) + l ≤ 1048576 ∧ 0 ≤ l)) a0 l0 i0) : ∃ n : Nat, (fun (a : List Part) (l : Int) (i : Int) => (a = a0 ∧ l = l0 - szP (a.take i.toNat) ∧ 0 ≤ l ∧ 0 ≤ i ∧ i + n = a.length)) a0 l0 i0 := by
  try dsimp only at hp
  try dsimp only
  obtain ⟨rfl, h1, h2, h3⟩ := hp
  exact ⟨a0.length, rfl, by (show l0 = l0 - szP (a0.take 0); rw [List.take_zero]; show l0 = l0 - 0; omega), by omega, by omega, by omega⟩
theorem w_laws_szSegPartS : Valid Try.prog 79 c_laws_szSegPartS :=
  valid_ctr2 (V := V_laws_szSegPartS) (tysB_ok tys_ok) ⟨(CallsL.cons w_laws_szSegPart (CallsL.nil _)), (IosL.nil _)⟩ mixed 0 0 Try.func79 rfl (by kernel_rfl)
    (fun c hc => by
      obtain rfl := Option.some.inj hc
      exact ⟨trivial, ⟨trivial, ⟨⟨trivial, ⟨⟨trivial, trivial⟩, trivial⟩⟩, ⟨⟨trivial, ⟨LoopD.ok2 (V := V_laws_szSegPartS) l_laws_szSegPartS_0 (LoopsM.cons 0 l_laws_szSegPartS_0 LoopsM.nil) 0 _ i_laws_szSegPartS_0 (fun x hx => vS_laws_szSegPartS_0 x.1 x.2.1 x.2.2 hx) (fun x hx n s hi => ⟨_, by kernel_rfl, vL_laws_szSegPartS_0 x.1 x.2.1 x.2.2 s.1 s.2.1 s.2.2 n hx hi⟩), ⟨⟨trivial, ⟨trivial, trivial⟩⟩, ⟨⟨trivial, ⟨trivial, ⟨⟨trivial, trivial⟩, trivial⟩⟩⟩, trivial⟩⟩⟩⟩, ⟨trivial, trivial⟩⟩⟩⟩⟩)
    (fun x K hp hk => ⟨_, by kernel_rfl, vF_laws_szSegPartS x.1 x.2 K hp (fun r h => hk r h)⟩)
end Go.Proofs.YtjjplncopjimdaaE
