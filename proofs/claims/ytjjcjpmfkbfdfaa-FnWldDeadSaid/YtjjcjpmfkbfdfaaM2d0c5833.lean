/- A part of the proof of laws of the program: what calls of the program answer. Conditions: none. -/
import Derived.Test.YtjjcjpmfkbfdfaaM78d99c7f
set_option linter.unusedVariables false
set_option linter.unusedSimpArgs false
set_option linter.unusedSectionVars false

/- Contracts: A. Conditions: none. -/
set_option linter.unusedVariables false
set_option maxHeartbeats 1600000
namespace Go.Proofs.YtjjcjpmfkbfdfaaE
open Go
/-! impl.in -/
def c_impl_in : Ent := ctr (α := (Int) × (Int) × (Int)) (ρ := (Bool)) [] [] (rs rInt (rs rInt (rs1 rInt))) (fun x_ => (fun (a : Int) (b : Int) (c : Int) => (True)) x_.1 x_.2.1 x_.2.2) (fun x_ r_ => (fun x_ => (fun (a : Int) (b : Int) (c : Int) => ((fun r_ => (fun (r : Bool) => (r = decide (b ≤ a ∧ a ≤ c))) r_))) x_.1 x_.2.1 x_.2.2) x_ r_) (fun r_ => (fun (r : Bool) => ([rB.to r])) r_) (fun r_ => (fun (r : Bool) => ([])) r_)
def V_impl_in : Env := ⟨tys2, [], [], [], [], [], [500010], [], []⟩
/-! spec.l1In -/
def c_spec_l1In : Ent := ctr (α := (Int) × (Int) × (Int)) (ρ := (Bool)) [] [] (rs rInt (rs rInt (rs1 rInt))) (fun x_ => (fun (a : Int) (b : Int) (c : Int) => (True)) x_.1 x_.2.1 x_.2.2) (fun x_ r_ => (fun x_ => (fun (a : Int) (b : Int) (c : Int) => ((fun r_ => (fun (r : Bool) => (r = decide (b ≤ a ∧ a ≤ c))) r_))) x_.1 x_.2.1 x_.2.2) x_ r_) (fun r_ => (fun (r : Bool) => ([rB.to r])) r_) (fun r_ => (fun (r : Bool) => ([])) r_)
def V_spec_l1In : Env := ⟨tys2, [], [], [], [], [], [500010], [], []⟩
/-! spec.CrcStep -/
def c_spec_CrcStep : Ent := ctr (α := (Int) × (Int)) (ρ := (Int)) [] [] (rs rInt (rs1 rByte)) (fun x_ => (fun (s : Int) (b : Int) => (0 ≤ b ∧ b ≤ 255)) x_.1 x_.2) (fun x_ r_ => (fun x_ => (fun (s : Int) (b : Int) => ((fun r_ => (fun (r : Int) => (r = if 0 ≤ s ∧ s ≤ 65535 then ((stp s.toNat b.toNat : Nat) : Int) else -1)) r_))) x_.1 x_.2) x_ r_) (fun r_ => (fun (r : Int) => ([rInt.to r])) r_) (fun r_ => (fun (r : Int) => ([])) r_)
def l_spec_CrcStep_0 : LoopD ((Int) × (Int)) ((Int)) ((Empty)) where
  n := 26
  head := ⟨[0, 5], [], []⟩
  st := fun x_ => (fun (v : Int) (i : Int) => (⟨true, [(0, num .i64 v), (5, num .i64 i)], [], []⟩)) x_.1 x_.2
  pre := fun x_ => (fun (v : Int) (i : Int) => (0 ≤ v ∧ v ≤ 65535 ∧ i = 0)) x_.1 x_.2
  nk := ⟨[0], [], []⟩
  nst := fun r_ => (fun (r : Int) => (⟨true, [(0, num .i64 r)], [], []⟩)) r_
  npost := fun x_ r_ => (fun x_ => (fun (v0 : Int) (i0 : Int) => ((fun r_ => (fun (r : Int) => (r = ((ones 8 v0.toNat : Nat) : Int))) r_))) x_.1 x_.2) x_ r_
  rk := ⟨[], [], []⟩
  rst := fun _ => ⟨true, [], [], []⟩
  rpost := fun _ _ => False
def i_spec_CrcStep_0 (x : (Int) × (Int)) (n : Nat) (s : (Int) × (Int)) : Prop := (fun x_ => (fun (v0 : Int) (i0 : Int) => ((fun s_ => (fun (v : Int) (i : Int) => (0 ≤ v ∧ v ≤ 65535 ∧ 0 ≤ i ∧ i + n = 8 ∧ ones n v.toNat = ones 8 v0.toNat)) s_.1 s_.2))) x_.1 x_.2) x s
def V_spec_CrcStep : Env := ⟨tys2, [(42, c_spec_l1In)], [], [], [], [(0, l_spec_CrcStep_0.L)], [], [], []⟩
end Go.Proofs.YtjjcjpmfkbfdfaaE


/- Calls answer what is promised: A. Conditions: none. -/
set_option linter.unusedVariables false
set_option maxHeartbeats 1600000
namespace Go.Proofs.YtjjcjpmfkbfdfaaE
open Go
theorem vF_impl_in (a : Int) (b : Int) (c : Int) (K : List Arg → List (List AC) → Prop) (hp : True) (hk : ∀ (r : Bool), (r = decide (b ≤ a ∧ a ≤ c)) → K ([rB.to r]) ([])) :
if ((decide (a ≥ b)) = true) then
   ((true = true) ∧
   (K [(aB (decide (a ≤ c)))] []))
  else
   ((true = true) ∧
   (K [(aB false)] [])) := by
  simp only [decide_eq_true_eq]
  split
  · exact ⟨trivial, hk _ (by simp_all)⟩
  · exact ⟨trivial, hk _ (by simp; omega)⟩
theorem w_impl_in : Valid Try.prog 22 c_impl_in :=
  valid_ctr2 (V := V_impl_in) (tysB_ok tys2_ok) ⟨(CallsL.nil _), (IosL.nil _)⟩ mixed 0 0 Try.func22 rfl (by kernel_rfl)
    (fun c hc => by
      obtain rfl := Option.some.inj hc
      exact ⟨trivial, ⟨trivial, trivial⟩⟩)
    (fun x K hp hk => ⟨_, by kernel_rfl, vF_impl_in x.1 x.2.1 x.2.2 K hp (fun r h => hk r h)⟩)
theorem vF_spec_l1In (a : Int) (b : Int) (c : Int) (K : List Arg → List (List AC) → Prop) (hp : True) (hk : ∀ (r : Bool), (r = decide (b ≤ a ∧ a ≤ c)) → K ([rB.to r]) ([])) :
if ((decide (a ≥ b)) = true) then
   ((true = true) ∧
   (K [(aB (decide (a ≤ c)))] []))
  else
   ((true = true) ∧
   (K [(aB false)] [])) := by
  simp only [decide_eq_true_eq]
  split
  · exact ⟨trivial, hk _ (by simp_all)⟩
  · exact ⟨trivial, hk _ (by simp; omega)⟩
theorem w_spec_l1In : Valid Try.prog 42 c_spec_l1In :=
  valid_ctr2 (V := V_spec_l1In) (tysB_ok tys2_ok) ⟨(CallsL.nil _), (IosL.nil _)⟩ mixed 0 0 Try.func42 rfl (by kernel_rfl)
    (fun c hc => by
      obtain rfl := Option.some.inj hc
      exact ⟨trivial, ⟨trivial, trivial⟩⟩)
    (fun x K hp hk => ⟨_, by kernel_rfl, vF_spec_l1In x.1 x.2.1 x.2.2 K hp (fun r h => hk r h)⟩)
theorem vF_spec_CrcStep (s : Int) (b : Int) (K : List Arg → List (List AC) → Prop) (hp : 0 ≤ b ∧ b ≤ 255) (hk : ∀ (r : Int), (r = if 0 ≤ s ∧ s ≤ 65535 then ((stp s.toNat b.toNat : Nat) : Int) else -1) → K ([rInt.to r]) ([])) :
(true = true) ∧
  (True ∧
   (∀ r : Bool,
    (r = (decide (((0 : Int) ≤ s) ∧ (s ≤ (65535 : Int))))) →
    (true = true) ∧
    (if ((!r) = true) then
      ((true = true) ∧
      (K [(aI IntKind.i64 (-1 : Int))] []))
     else
      (∃ s1 : (Prod Int Int),
      ((KS.mk true [(Prod.mk (0 : Nat) (num IntKind.i64 (bits BinOp.xor IntKind.i64 s (IntKind.wrap IntKind.i64 b)))), (Prod.mk (5 : Nat) (num IntKind.i64 (0 : Int)))] [] []) = (KS.mk true [(Prod.mk (0 : Nat) (num IntKind.i64 s1.fst)), (Prod.mk (5 : Nat) (num IntKind.i64 s1.snd))] [] [])) ∧
      ((((0 : Int) ≤ s1.fst) ∧
        ((s1.fst ≤ (65535 : Int)) ∧
         (s1.snd = (0 : Int)))) ∧
       ((∀ r1 : Int,
         (r1 = (((ones (8 : Nat) (Int.toNat s1.fst)) : Nat) : Int)) →
         (true = true) ∧
         (K [(aI IntKind.i64 r1)] [])) ∧
        (∀ r1 : Empty,
         False →
         False))))))) := by
  refine ⟨rfl, trivial, fun r hr => ⟨rfl, ?_⟩⟩
  obtain ⟨b, rfl⟩ : ∃ n : Nat, b = n := ⟨b.toNat, by omega⟩
  by_cases h : 0 ≤ s ∧ s ≤ 65535
  · obtain ⟨s, rfl⟩ : ∃ n : Nat, s = n := ⟨s.toNat, by omega⟩
    rw [if_neg (by simp [hr, h])]
    have hx : s ^^^ b < 2 ^ 16 := Nat.xor_lt_two_pow (by omega) (by omega)
    rw [wr (by omega) (by omega), xor64 _ _ (by omega) (by omega)]
    refine ⟨(((s ^^^ b : Nat) : Int), 0), rfl, ⟨by dsimp only; omega, by dsimp only; omega, rfl⟩, fun r hr => ⟨rfl, hk r (by rw [if_pos h]; exact hr)⟩, fun r h => h⟩
  · rw [if_pos (by simp [hr, h])]
    exact ⟨rfl, hk _ (by rw [if_neg h])⟩
theorem vL_spec_CrcStep_0 (v0 : Int) (i0 : Int) (v : Int) (i : Int) (n : Nat) (hp : (fun (v : Int) (i : Int) => (0 ≤ v ∧ v ≤ 65535 ∧ i = 0)) v0 i0) (hi : 0 ≤ v ∧ v ≤ 65535 ∧ 0 ≤ i ∧ i + n = 8 ∧ ones n v.toNat = ones 8 v0.toNat) :
if ((decide (i < (8 : Int))) = true) then
   (((2 : Int) ≠ (0 : Int)) ∧
   (if (((Int.tmod v (2 : Int)) == (1 : Int)) = true) then
     (((2 : Int) ≠ (0 : Int)) ∧
     (∃ s : (Prod Int Int),
      ((KS.mk true [(Prod.mk (0 : Nat) (num IntKind.i64 (bits BinOp.xor IntKind.i64 (IntKind.wrap IntKind.i64 (Int.tdiv v (2 : Int))) (40961 : Int)))), (Prod.mk (5 : Nat) (num IntKind.i64 (IntKind.wrap IntKind.i64 (i + (1 : Int)))))] [] []) = (KS.mk true [(Prod.mk (0 : Nat) (num IntKind.i64 s.fst)), (Prod.mk (5 : Nat) (num IntKind.i64 s.snd))] [] [])) ∧
      (∃ m : Nat,
       (m < n) ∧
       (((0 : Int) ≤ s.fst) ∧
        ((s.fst ≤ (65535 : Int)) ∧
         (((0 : Int) ≤ s.snd) ∧
          (((s.snd + ((m : Nat) : Int)) = (8 : Int)) ∧
           ((ones m (Int.toNat s.fst)) = (ones (8 : Nat) (Int.toNat v0))))))))))
    else
     (((2 : Int) ≠ (0 : Int)) ∧
     (∃ s : (Prod Int Int),
      ((KS.mk true [(Prod.mk (0 : Nat) (num IntKind.i64 (IntKind.wrap IntKind.i64 (Int.tdiv v (2 : Int))))), (Prod.mk (5 : Nat) (num IntKind.i64 (IntKind.wrap IntKind.i64 (i + (1 : Int)))))] [] []) = (KS.mk true [(Prod.mk (0 : Nat) (num IntKind.i64 s.fst)), (Prod.mk (5 : Nat) (num IntKind.i64 s.snd))] [] [])) ∧
      (∃ m : Nat,
       (m < n) ∧
       (((0 : Int) ≤ s.fst) ∧
        ((s.fst ≤ (65535 : Int)) ∧
         (((0 : Int) ≤ s.snd) ∧
          (((s.snd + ((m : Nat) : Int)) = (8 : Int)) ∧
           ((ones m (Int.toNat s.fst)) = (ones (8 : Nat) (Int.toNat v0))))))))))))
  else
   (∃ r : Int,
   ((KS.mk true [(Prod.mk (0 : Nat) (num IntKind.i64 v))] [] []) = (KS.mk true [(Prod.mk (0 : Nat) (num IntKind.i64 r))] [] [])) ∧
   (r = (((ones (8 : Nat) (Int.toNat v0)) : Nat) : Int))) := by
  try dsimp only at hp
  obtain ⟨h1, h2, h3, h4, h5⟩ := hi
  obtain ⟨v, rfl⟩ : ∃ n : Nat, v = n := ⟨v.toNat, by omega⟩
  have hd : Int.tdiv (v : Int) 2 = ((v / 2 : Nat) : Int) := by rw [Int.tdiv_eq_ediv_of_nonneg (by omega)]; omega
  have hm : Int.tmod (v : Int) 2 = ((v % 2 : Nat) : Int) := by rw [Int.tmod_eq_emod_of_nonneg (by omega)]; omega
  rw [hm, hd, wr (x := i + 1) (by omega) (by omega), wr (x := ((v / 2 : Nat) : Int)) (by omega) (by omega)]
  cases n with
  | zero =>
    rw [if_neg (by simp; omega)]
    exact ⟨_, rfl, by rw [← h5]; simp [ones]⟩
  | succ n =>
    rw [if_pos (by simp; omega)]
    have h1' : ones (n + 1) v = ones n (sh1 v) := rfl
    simp only [Int.toNat_natCast] at h5
    rw [h1'] at h5
    refine ⟨by decide, ?_⟩
    split
    · rename_i hb
      rw [show (40961 : Int) = ((40961 : Nat) : Int) by rfl, xor64 _ _ (by omega) (by decide)]
      have hx := Nat.xor_lt_two_pow (show v / 2 < 2 ^ 16 by omega) (show 40961 < 2 ^ 16 by decide)
      have hs : sh1 v = v / 2 ^^^ 40961 := by unfold sh1; rw [if_pos (by simp at hb; omega)]
      rw [hs] at h5
      generalize v / 2 ^^^ 40961 = y at hx h5 ⊢
      exact ⟨by decide, ((y : Int), i + 1), rfl, n, by omega, by dsimp only; omega, by dsimp only; omega, by dsimp only; omega, by dsimp only; omega, h5⟩
    · rename_i hb
      have hs : sh1 v = v / 2 := by unfold sh1; rw [if_neg (by simp at hb; omega)]
      rw [hs] at h5
      exact ⟨by decide, (((v / 2 : Nat) : Int), i + 1), rfl, n, by omega, by dsimp only; omega, by dsimp only; omega, by dsimp only; omega, by dsimp only; omega, h5⟩
theorem vS_spec_CrcStep_0 (v0 : Int) (i0 : Int) (hp : (fun (v : Int) (i : Int) => (0 ≤ v ∧ v ≤ 65535 ∧ i = 0)) v0 i0) : ∃ n : Nat, (fun (v : Int) (i : Int) => (0 ≤ v ∧ v ≤ 65535 ∧ 0 ≤ i ∧ i + n = 8 ∧ ones n v.toNat = ones 8 v0.toNat)) v0 i0 := by
  try dsimp only at hp
  try dsimp only
  exact ⟨8, by omega, by omega, by omega, by omega, rfl⟩
theorem w_spec_CrcStep : Valid Try.prog 86 c_spec_CrcStep :=
  valid_ctr2 (V := V_spec_CrcStep) (tysB_ok tys2_ok) ⟨(CallsL.cons w_spec_l1In (CallsL.nil _)), (IosL.nil _)⟩ mixed 0 0 Try.func86 rfl (by kernel_rfl)
    (fun c hc => by
      obtain rfl := Option.some.inj hc
      exact ⟨trivial, ⟨⟨trivial, ⟨⟨trivial, trivial⟩, trivial⟩⟩, ⟨trivial, ⟨⟨trivial, ⟨LoopD.ok2 (V := V_spec_CrcStep) l_spec_CrcStep_0 (LoopsM.cons 0 l_spec_CrcStep_0 LoopsM.nil) 0 _ i_spec_CrcStep_0 (fun x hx => vS_spec_CrcStep_0 x.1 x.2 hx) (fun x hx n s hi => ⟨_, by kernel_rfl, vL_spec_CrcStep_0 x.1 x.2 s.1 s.2 n hx hi⟩), ⟨⟨trivial, ⟨trivial, trivial⟩⟩, ⟨⟨trivial, ⟨trivial, trivial⟩⟩, trivial⟩⟩⟩⟩, ⟨trivial, trivial⟩⟩⟩⟩⟩)
    (fun x K hp hk => ⟨_, by kernel_rfl, vF_spec_CrcStep x.1 x.2 K hp (fun r h => hk r h)⟩)
end Go.Proofs.YtjjcjpmfkbfdfaaE
