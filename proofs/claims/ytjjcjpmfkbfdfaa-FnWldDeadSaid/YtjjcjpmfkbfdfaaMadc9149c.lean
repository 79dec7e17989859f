/- A part of the proof of laws of the program: what calls of the program answer. Conditions: none. -/
import Derived.Test.YtjjcjpmfkbfdfaaM2d0c5833
set_option linter.unusedVariables false
set_option linter.unusedSimpArgs false
set_option linter.unusedSectionVars false

/- Contracts: C. Conditions: none. -/
set_option linter.unusedVariables false
set_option maxHeartbeats 1600000
namespace Go.Proofs.YtjjcjpmfkbfdfaaE
open Go
def RdOk (r : RdS) (p : Int) : Prop := Bytes r.b ∧ r.b.length ≤ 2000 ∧ 0 ≤ r.p ∧ r.p ≤ p
def RdOn (r q : RdS) (n : Int) : Prop := q.b = r.b ∧ r.p ≤ q.p ∧ q.p ≤ r.p + n

/-! spec.l20Open -/
def c_spec_l20Open : Ent := ctr (α := (List Int)) (ρ := (RdS)) [] [] (rs1 rBytes) (fun x_ => (fun (l : List Int) => (Bytes l)) x_) (fun x_ r_ => (fun x_ => (fun (l : List Int) => ((fun r_ => (fun (q : RdS) => (q = ⟨l.take 2000, 0⟩)) r_))) x_) x_ r_) (fun r_ => (fun (q : RdS) => ([rRd.to q])) r_) (fun r_ => (fun (q : RdS) => ([])) r_)
def V_spec_l20Open : Env := ⟨tys, [], [], [(10, 0)], [], [], [], [], []⟩
/-! (*spec.l20Rd).pick -/
def c_spec_l20Rd_pick : Ent := ctr (α := (RdS) × (Int)) (ρ := (Int) × (RdS)) [] [] (rs rRd (rs1 rInt)) (fun x_ => (fun (r : RdS) (n : Int) => (RdOk r 1000000000 ∧ n ≤ 1000000000)) x_.1 x_.2) (fun x_ r_ => (fun x_ => (fun (r : RdS) (n : Int) => ((fun r_ => (fun (x : Int) (q : RdS) => (q = ⟨r.b, r.p + 1⟩ ∧ 0 ≤ x ∧ (1 ≤ n → x < n) ∧ (n < 1 → x = 0))) r_.1 r_.2))) x_.1 x_.2) x_ r_) (fun r_ => (fun (x : Int) (q : RdS) => ([rInt.to x])) r_.1 r_.2) (fun r_ => (fun (x : Int) (q : RdS) => ([(rdC q).map .d])) r_.1 r_.2)
def V_spec_l20Rd_pick : Env := ⟨tys, [], [], [], [], [], [500017], [], [(7, [(0, false), (1, false), (2, false), (3, false), (4, false), (5, false), (6, false), (7, false), (8, false), (9, false), (10, false), (11, false), (12, false), (13, false), (14, false), (15, false), (16, false), (17, false), (18, false), (19, false), (20, false), (21, false), (22, false), (23, false), (24, false), (25, false), (26, false), (27, false), (28, false), (29, false), (30, false), (31, false), (32, false), (33, false), (34, false), (35, false), (36, false), (37, false), (38, false), (39, false), (40, false), (41, false), (42, false), (43, false), (44, false), (45, false)])]⟩
end Go.Proofs.YtjjcjpmfkbfdfaaE


/- Calls answer what is promised: C. Conditions: none. -/
set_option linter.unusedVariables false
set_option maxHeartbeats 1600000
namespace Go.Proofs.YtjjcjpmfkbfdfaaE
open Go
theorem vF_spec_l20Open (l : List Int) (K : List Arg → List (List AC) → Prop) (hp : Bytes l) (hk : ∀ (q : RdS), (q = ⟨l.take 2000, 0⟩) → K ([rRd.to q]) ([])) :
if ((decide ((((List.length l) : Nat) : Int) > (2000 : Int))) = true) then
   ((((0 : Int) ≤ (0 : Int)) ∧
    (((0 : Int) ≤ (2000 : Int)) ∧
     ((2000 : Int) ≤ (((List.length l) : Nat) : Int)))) ∧
   ((true = true) ∧
    (K [(Arg.p [(AC.d (D.r RK.u8 (List.take (2000 : Nat) (List.drop (0 : Nat) l)))), (AC.d (D.i IntKind.i64 (0 : Int)))])] [])))
  else
   ((true = true) ∧
   (K [(Arg.p [(AC.d (D.r RK.u8 l)), (AC.d (D.i IntKind.i64 (0 : Int)))])] [])) := by
  split
  · rename_i h
    have h2 : l.length > 2000 := by simp at h; omega
    exact ⟨⟨by omega, by omega, by omega⟩, rfl, hk _ rfl⟩
  · rename_i h
    have h2 : l.length ≤ 2000 := by simp at h; omega
    refine ⟨rfl, hk ⟨l, 0⟩ ?_⟩
    rw [List.take_of_length_le h2]
theorem w_spec_l20Open : Valid Try.prog 9 c_spec_l20Open :=
  valid_ctr2 (V := V_spec_l20Open) (tysB_ok tys_ok) ⟨(CallsL.nil _), (IosL.nil _)⟩ mixed 0 1 Try.func9 rfl (by kernel_rfl)
    (fun c hc => by
      obtain rfl := Option.some.inj hc
      exact ⟨trivial, ⟨⟨trivial, ⟨trivial, trivial⟩⟩, ⟨trivial, trivial⟩⟩⟩)
    (fun x K hp hk => ⟨_, by kernel_rfl, vF_spec_l20Open x K hp (fun q h => hk q h)⟩)
theorem vF_spec_l20Rd_pick (r : RdS) (n : Int) (K : List Arg → List (List AC) → Prop) (hp : RdOk r 1000000000 ∧ n ≤ 1000000000) (hk : ∀ (x : Int) (q : RdS), (q = ⟨r.b, r.p + 1⟩ ∧ 0 ≤ x ∧ (1 ≤ n → x < n) ∧ (n < 1 → x = 0)) → K ([rInt.to x]) ([(rdC q).map .d])) :
if ((decide (n < (1 : Int))) = true) then
   ((true = true) ∧
   (K [(aI IntKind.i64 (0 : Int))] [[(AC.d (D.r RK.u8 r.b)), (AC.d (D.i IntKind.i64 (IntKind.wrap IntKind.i64 (r.p + (1 : Int)))))]]))
  else
   (if (((((List.length r.b) : Nat) : Int) == (0 : Int)) = true) then
    ((true = true) ∧
    (K [(aI IntKind.i64 (0 : Int))] [[(AC.d (D.r RK.u8 r.b)), (AC.d (D.i IntKind.i64 (IntKind.wrap IntKind.i64 (r.p + (1 : Int)))))]]))
   else
    (if ((decide ((IntKind.wrap IntKind.i64 ((IntKind.wrap IntKind.i64 (r.p + (1 : Int))) - (1 : Int))) < (((List.length r.b) : Nat) : Int))) = true) then
     ((((0 : Int) ≤ (IntKind.wrap IntKind.i64 ((IntKind.wrap IntKind.i64 (r.p + (1 : Int))) - (1 : Int)))) ∧
      ((IntKind.wrap IntKind.i64 ((IntKind.wrap IntKind.i64 (r.p + (1 : Int))) - (1 : Int))) < (((List.length r.b) : Nat) : Int))) ∧
     ((n ≠ (0 : Int)) ∧
      ((true = true) ∧
       (K [(aI IntKind.i64 (Int.tmod (IntKind.wrap IntKind.i64 (at_u8 r.b (Int.toNat (IntKind.wrap IntKind.i64 ((IntKind.wrap IntKind.i64 (r.p + (1 : Int))) - (1 : Int)))))) n))] [[(AC.d (D.r RK.u8 r.b)), (AC.d (D.i IntKind.i64 (IntKind.wrap IntKind.i64 (r.p + (1 : Int)))))]]))))
    else
     (((((List.length r.b) : Nat) : Int) ≠ (0 : Int)) ∧
     ((((0 : Int) ≤ (Int.tmod (IntKind.wrap IntKind.i64 ((IntKind.wrap IntKind.i64 (r.p + (1 : Int))) - (1 : Int))) (((List.length r.b) : Nat) : Int))) ∧
       ((Int.tmod (IntKind.wrap IntKind.i64 ((IntKind.wrap IntKind.i64 (r.p + (1 : Int))) - (1 : Int))) (((List.length r.b) : Nat) : Int)) < (((List.length r.b) : Nat) : Int))) ∧
      (((((List.length r.b) : Nat) : Int) ≠ (0 : Int)) ∧
       ((((0 : Int) ≤ (Int.tmod (IntKind.wrap IntKind.i64 ((IntKind.wrap IntKind.i64 ((IntKind.wrap IntKind.i64 ((IntKind.wrap IntKind.i64 (r.p + (1 : Int))) - (1 : Int))) * (7 : Int))) + (3 : Int))) (((List.length r.b) : Nat) : Int))) ∧
         ((Int.tmod (IntKind.wrap IntKind.i64 ((IntKind.wrap IntKind.i64 ((IntKind.wrap IntKind.i64 ((IntKind.wrap IntKind.i64 (r.p + (1 : Int))) - (1 : Int))) * (7 : Int))) + (3 : Int))) (((List.length r.b) : Nat) : Int)) < (((List.length r.b) : Nat) : Int))) ∧
        (((((List.length r.b) : Nat) : Int) ≠ (0 : Int)) ∧
         (((64 : Int) ≠ (0 : Int)) ∧
          ((n ≠ (0 : Int)) ∧
           ((true = true) ∧
            (K [(aI IntKind.i64 (Int.tmod (bits BinOp.xor IntKind.i64 (IntKind.wrap IntKind.i64 ((IntKind.wrap IntKind.i64 ((IntKind.wrap IntKind.i64 ((IntKind.wrap IntKind.i64 ((IntKind.wrap IntKind.i64 (at_u8 r.b (Int.toNat (Int.tmod (IntKind.wrap IntKind.i64 ((IntKind.wrap IntKind.i64 (r.p + (1 : Int))) - (1 : Int))) (((List.length r.b) : Nat) : Int))))) * (131 : Int))) + (IntKind.wrap IntKind.i64 ((IntKind.wrap IntKind.i64 (at_u8 r.b (Int.toNat (Int.tmod (IntKind.wrap IntKind.i64 ((IntKind.wrap IntKind.i64 ((IntKind.wrap IntKind.i64 ((IntKind.wrap IntKind.i64 (r.p + (1 : Int))) - (1 : Int))) * (7 : Int))) + (3 : Int))) (((List.length r.b) : Nat) : Int))))) * (1117 : Int))))) + (IntKind.wrap IntKind.i64 ((IntKind.wrap IntKind.i64 ((IntKind.wrap IntKind.i64 (r.p + (1 : Int))) - (1 : Int))) * (29 : Int))))) + (IntKind.wrap IntKind.i64 ((IntKind.wrap IntKind.i64 (Int.tdiv (IntKind.wrap IntKind.i64 ((IntKind.wrap IntKind.i64 (r.p + (1 : Int))) - (1 : Int))) (((List.length r.b) : Nat) : Int))) * (53 : Int))))) (IntKind.wrap IntKind.i64 (Int.tdiv (IntKind.wrap IntKind.i64 ((IntKind.wrap IntKind.i64 ((IntKind.wrap IntKind.i64 ((IntKind.wrap IntKind.i64 ((IntKind.wrap IntKind.i64 (at_u8 r.b (Int.toNat (Int.tmod (IntKind.wrap IntKind.i64 ((IntKind.wrap IntKind.i64 (r.p + (1 : Int))) - (1 : Int))) (((List.length r.b) : Nat) : Int))))) * (131 : Int))) + (IntKind.wrap IntKind.i64 ((IntKind.wrap IntKind.i64 (at_u8 r.b (Int.toNat (Int.tmod (IntKind.wrap IntKind.i64 ((IntKind.wrap IntKind.i64 ((IntKind.wrap IntKind.i64 ((IntKind.wrap IntKind.i64 (r.p + (1 : Int))) - (1 : Int))) * (7 : Int))) + (3 : Int))) (((List.length r.b) : Nat) : Int))))) * (1117 : Int))))) + (IntKind.wrap IntKind.i64 ((IntKind.wrap IntKind.i64 ((IntKind.wrap IntKind.i64 (r.p + (1 : Int))) - (1 : Int))) * (29 : Int))))) + (IntKind.wrap IntKind.i64 ((IntKind.wrap IntKind.i64 (Int.tdiv (IntKind.wrap IntKind.i64 ((IntKind.wrap IntKind.i64 (r.p + (1 : Int))) - (1 : Int))) (((List.length r.b) : Nat) : Int))) * (53 : Int))))) (64 : Int)))) n))] [[(AC.d (D.r RK.u8 r.b)), (AC.d (D.i IntKind.i64 (IntKind.wrap IntKind.i64 (r.p + (1 : Int)))))]]))))))))))) := by
  obtain ⟨l, p⟩ := r
  obtain ⟨⟨hb, hl, h0, h1⟩, hn⟩ := hp
  dsimp only at hb hl h0 h1 hk ⊢
  rw [wr (x := p + 1) (by omega) (by omega), wr (x := p + 1 - 1) (by omega) (by omega), show p + 1 - 1 = p by omega]
  by_cases hn1 : n < 1
  · rw [if_pos (by simpa using hn1)]
    exact ⟨rfl, hk 0 ⟨l, p + 1⟩ ⟨rfl, by omega, fun h => by omega, fun _ => rfl⟩⟩
  · rw [if_neg (by simpa using hn1)]
    by_cases he : l.length = 0
    · rw [if_pos (by simp [he])]
      exact ⟨rfl, hk 0 ⟨l, p + 1⟩ ⟨rfl, by omega, fun h => by omega, fun _ => rfl⟩⟩
    · rw [if_neg (by simp; intro h; simp [h] at he)]
      have hr : ∀ i : Int, 0 ≤ at_u8 l i.toNat ∧ at_u8 l i.toNat ≤ 255 := fun i => hb.at_ i
      by_cases hp : p < (l.length : Int)
      · rw [if_pos (by simpa using hp)]
        obtain ⟨r1, r2⟩ := hr p
        rw [wr (by omega) (by omega)]
        exact ⟨⟨h0, hp⟩, by omega, rfl, hk _ ⟨l, p + 1⟩ ⟨rfl, Int.tmod_nonneg _ r1, fun _ => Int.tmod_lt_of_pos _ (by omega), fun h => by omega⟩⟩
      · rw [if_neg (by simpa using hp)]
        have e1 : Int.tmod p (l.length : Int) = p % (l.length : Int) := Int.tmod_eq_emod_of_nonneg h0
        have a1 := Int.emod_nonneg p (show (l.length : Int) ≠ 0 by omega)
        have a2 := Int.emod_lt_of_pos p (show 0 < (l.length : Int) by omega)
        rw [wr (x := p * 7) (by omega) (by omega), wr (x := p * 7 + 3) (by omega) (by omega)]
        have e2 : Int.tmod (p * 7 + 3) (l.length : Int) = (p * 7 + 3) % (l.length : Int) := Int.tmod_eq_emod_of_nonneg (by omega)
        have b1 := Int.emod_nonneg (p * 7 + 3) (show (l.length : Int) ≠ 0 by omega)
        have b2 := Int.emod_lt_of_pos (p * 7 + 3) (show 0 < (l.length : Int) by omega)
        rw [e1, e2]
        refine ⟨by omega, ⟨a1, a2⟩, by omega, ⟨b1, b2⟩, by omega, by omega, by omega, rfl, ?_⟩
        obtain ⟨c1, c2⟩ := hr (p % (l.length : Int))
        obtain ⟨d1, d2⟩ := hr ((p * 7 + 3) % (l.length : Int))
        have e3 : Int.tdiv p (l.length : Int) = p / (l.length : Int) := Int.tdiv_eq_ediv_of_nonneg h0
        have f1 : 0 ≤ p / (l.length : Int) := Int.ediv_nonneg h0 (by omega)
        have f2 : p / (l.length : Int) ≤ p := Int.ediv_le_self _ h0
        rw [e3]
        generalize at_u8 l (p % (l.length : Int)).toNat = x at c1 c2 ⊢
        generalize at_u8 l ((p * 7 + 3) % (l.length : Int)).toNat = y at d1 d2 ⊢
        generalize p / (l.length : Int) = z at f1 f2 ⊢
        rw [wr (x := x) (by omega) (by omega), wr (x := y) (by omega) (by omega), wr (x := z) (by omega) (by omega), wr (x := x * 131) (by omega) (by omega), wr (x := y * 1117) (by omega) (by omega),
          wr (x := x * 131 + y * 1117) (by omega) (by omega), wr (x := p * 29) (by omega) (by omega), wr (x := x * 131 + y * 1117 + p * 29) (by omega) (by omega), wr (x := z * 53) (by omega) (by omega),
          wr (x := x * 131 + y * 1117 + p * 29 + z * 53) (by omega) (by omega)]
        obtain ⟨t, ht⟩ : ∃ t : Nat, x * 131 + y * 1117 + p * 29 + z * 53 = (t : Int) := ⟨(x * 131 + y * 1117 + p * 29 + z * 53).toNat, by omega⟩
        have ht2 : t < 2 ^ 62 := by omega
        rw [ht, Int.tdiv_eq_ediv_of_nonneg (by omega), wr (x := (t : Int) / 64) (by omega) (by omega)]
        have h64 : ((t : Int) / 64) = ((t / 64 : Nat) : Int) := by omega
        rw [h64, xor64 t (t / 64) ht2 (by omega)]
        exact hk _ ⟨l, p + 1⟩ ⟨rfl, Int.tmod_nonneg _ (Int.natCast_nonneg _), fun _ => Int.tmod_lt_of_pos _ (by omega), fun h => by omega⟩
theorem w_spec_l20Rd_pick : Valid Try.prog 14 c_spec_l20Rd_pick :=
  valid_ctr2 (V := V_spec_l20Rd_pick) (tysB_ok tys_ok) ⟨(CallsL.nil _), (IosL.nil _)⟩ mixed 0 0 Try.func14 rfl (by kernel_rfl)
    (fun c hc => by
      obtain rfl := Option.some.inj hc
      exact ⟨trivial, ⟨trivial, ⟨⟨trivial, ⟨⟨trivial, trivial⟩, trivial⟩⟩, ⟨trivial, ⟨⟨trivial, ⟨⟨trivial, trivial⟩, trivial⟩⟩, ⟨trivial, ⟨trivial, ⟨trivial, trivial⟩⟩⟩⟩⟩⟩⟩⟩)
    (fun x K hp hk => ⟨_, by kernel_rfl, vF_spec_l20Rd_pick x.1 x.2 K hp (fun x q h => hk (x, q) h)⟩)
end Go.Proofs.YtjjcjpmfkbfdfaaE
