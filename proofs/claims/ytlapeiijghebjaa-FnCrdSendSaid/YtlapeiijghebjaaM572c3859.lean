/- A part of the proof of laws of the program: what calls of the program answer. Conditions: none. -/
import Derived.Test.YtlapeiijghebjaaM59d8f419
set_option linter.unusedVariables false
set_option linter.unusedSimpArgs false
set_option linter.unusedSectionVars false
/- Contracts: J. Conditions: none. -/
set_option linter.unusedVariables false
set_option maxHeartbeats 1600000
namespace Go.Proofs.YtlapeiijghebjaaE
open Go
/-! (*spec.l20Rd).odd -/
def c_spec_l20Rd_odd : Ent := ctr (α := (RdS) × (Int)) (ρ := (Bool) × (RdS)) [] [] (rs rRd (rs1 rInt)) (fun x_ => (fun (r : RdS) (n : Int) => (RdOk r 900000000 ∧ n ≤ 1000000000)) x_.1 x_.2) (fun x_ r_ => (fun x_ => (fun (r : RdS) (n : Int) => ((fun r_ => (fun (b : Bool) (q : RdS) => (q.b = r.b ∧ r.p ≤ q.p ∧ q.p ≤ r.p + 1)) r_.1 r_.2))) x_.1 x_.2) x_ r_) (fun r_ => (fun (b : Bool) (q : RdS) => ([rB.to b])) r_.1 r_.2) (fun r_ => (fun (b : Bool) (q : RdS) => ([(rdC q).map .d])) r_.1 r_.2)
def V_spec_l20Rd_odd : Env := ⟨tys, [(101, c_spec_l20Rd_pick)], [], [], [], [], []⟩
/-! spec.l20Join -/
def c_spec_l20Join : Ent := ctr (α := (RdS) × (Int)) (ρ := (JoinS) × (RdS)) [] [] (rs rRd (rs1 rInt)) (fun x_ => (fun (r : RdS) (n : Int) => (RdOk r 50000000 ∧ n ≤ 1000)) x_.1 x_.2) (fun x_ r_ => (fun x_ => (fun (r : RdS) (n : Int) => ((fun r_ => (fun (j : JoinS) (q : RdS) => (Bytes j.got ∧ j.got.length ≤ 1000 ∧ RdOn r q 500)) r_.1 r_.2))) x_.1 x_.2) x_ r_) (fun r_ => (fun (j : JoinS) (q : RdS) => ([rJoin.to j])) r_.1 r_.2) (fun r_ => (fun (j : JoinS) (q : RdS) => ([(rdC q).map .d])) r_.1 r_.2)
def V_spec_l20Join : Env := ⟨tys, [(101, c_spec_l20Rd_pick), (102, c_spec_l20Bytes), (106, c_spec_l20Rd_odd)], [], [(4, 1), (5, 2)], [], [], []⟩
end Go.Proofs.YtlapeiijghebjaaE

/- Calls answer what is promised: J. Conditions: none. -/
set_option linter.unusedVariables false
set_option maxHeartbeats 1600000
namespace Go.Proofs.YtlapeiijghebjaaE
open Go
theorem vF_spec_l20Rd_odd (r : RdS) (n : Int) (K : List Arg → List (List AC) → Prop) (hp : RdOk r 900000000 ∧ n ≤ 1000000000) (hk : ∀ (b : Bool) (q : RdS), (q.b = r.b ∧ r.p ≤ q.p ∧ q.p ≤ r.p + 1) → K ([rB.to b]) ([(rdC q).map .d])) :
 if ((decide (n > (0 : Int))) = true) then
 ((true = true) ∧
 ((((Bytes r.b) ∧
 (((List.length r.b) ≤ (2000 : Nat)) ∧
 (((0 : Int) ≤ r.p) ∧
 (r.p ≤ (1000000000 : Int))))) ∧
 (n ≤ (1000000000 : Int))) ∧
 (∀ r1 : (Prod Int RdS),
 ((r1.snd = (RdS.mk r.b (r.p + (1 : Int)))) ∧ (((0 : Int) ≤ r1.fst) ∧ ((((1 : Int) ≤ n) → (r1.fst < n)) ∧ ((n < (1 : Int)) → (r1.fst = (0 : Int)))))) →
 (true = true) ∧
 ((true = true) ∧
 (K [(aB (r1.fst == (IntKind.wrap IntKind.i64 (n - (1 : Int)))))] [[(AC.d (D.r RK.u8 r1.snd.b)), (AC.d (D.i IntKind.i64 r1.snd.p))]])))))
 else
 ((true = true) ∧
 (K [(aB false)] [[(AC.d (D.r RK.u8 r.b)), (AC.d (D.i IntKind.i64 r.p))]])) := by
  repeat' first
    | exact rfl
    | trivial
    | apply And.intro
    | (show Bytes _; grind [RdOk, RdOn, Bytes.cons, Bytes.nil, Bytes.take])
    | (intro r hr; subst hr)
    | intro r
    | exact hp
    | (refine iteI (fun h => ?_) (fun h => ?_))
  all_goals try simp (disch := omega) only [wr] at *
  all_goals first
    | omega
    | exact hk _ ⟨_, _⟩ (by (try dsimp only); grind [RdOk, RdOn, Bytes.cons, Bytes.nil, Bytes.take])
    | grind [RdOk, RdOn, Bytes.cons, Bytes.nil, Bytes.take]
theorem w_spec_l20Rd_odd : Valid Try.prog 106 c_spec_l20Rd_odd :=
  valid_ctr2 (V := V_spec_l20Rd_odd) (tysB_ok tys_ok) (CallsL.cons w_spec_l20Rd_pick (CallsL.nil _)) mixed 0 0 Try.func106 rfl (by kernel_rfl)
    (fun c hc => by
      obtain rfl := Option.some.inj hc
      exact ⟨trivial, ⟨trivial, trivial⟩⟩)
    (fun x K hp hk => ⟨_, by kernel_rfl, vF_spec_l20Rd_odd x.1 x.2 K hp (fun b q h => hk (b, q) h)⟩)
theorem vF_spec_l20Join (r : RdS) (n : Int) (K : List Arg → List (List AC) → Prop) (hp : RdOk r 50000000 ∧ n ≤ 1000) (hk : ∀ (j : JoinS) (q : RdS), (Bytes j.got ∧ j.got.length ≤ 1000 ∧ RdOn r q 500) → K ([rJoin.to j]) ([(rdC q).map .d])) :
 (true = true) ∧
 ((((Bytes r.b) ∧
 (((List.length r.b) ≤ (2000 : Nat)) ∧
 (((0 : Int) ≤ r.p) ∧
 (r.p ≤ (1000000000 : Int))))) ∧
 ((2 : Int) ≤ (1000000000 : Int))) ∧
 (∀ r1 : (Prod Int RdS),
 ((r1.snd = (RdS.mk r.b (r.p + (1 : Int)))) ∧ (((0 : Int) ≤ r1.fst) ∧ ((((1 : Int) ≤ (2 : Int)) → (r1.fst < (2 : Int))) ∧ (((2 : Int) < (1 : Int)) → (r1.fst = (0 : Int)))))) →
 (true = true) ∧
 (if ((r1.fst == (0 : Int)) = true) then
 ((true = true) ∧
 ((((Bytes r1.snd.b) ∧
 (((List.length r1.snd.b) ≤ (2000 : Nat)) ∧
 (((0 : Int) ≤ r1.snd.p) ∧
 (r1.snd.p ≤ (1000000000 : Int))))) ∧
 ((23 : Int) ≤ (1000000000 : Int))) ∧
 (∀ r2 : (Prod Int RdS),
 ((r2.snd = (RdS.mk r1.snd.b (r1.snd.p + (1 : Int)))) ∧ (((0 : Int) ≤ r2.fst) ∧ ((((1 : Int) ≤ (23 : Int)) → (r2.fst < (23 : Int))) ∧ (((23 : Int) < (1 : Int)) → (r2.fst = (0 : Int)))))) →
 (true = true) ∧
 ((true = true) ∧
 ((((Bytes r2.snd.b) ∧
 (((List.length r2.snd.b) ≤ (2000 : Nat)) ∧
 (((0 : Int) ≤ r2.snd.p) ∧
 (r2.snd.p ≤ (100000000 : Int))))) ∧
 (((0 : Int) ≤ (IntKind.wrap IntKind.i64 ((IntKind.wrap IntKind.i64 ((2 : Int) + r2.fst)) - (1 : Int)))) ∧
 ((IntKind.wrap IntKind.i64 ((IntKind.wrap IntKind.i64 ((2 : Int) + r2.fst)) - (1 : Int))) ≤ (900 : Int)))) ∧
 (∀ r3 : (Prod (List Int) RdS),
 ((Bytes r3.fst) ∧ (((((List.length r3.fst) : Nat) : Int) ≤ (IntKind.wrap IntKind.i64 ((IntKind.wrap IntKind.i64 ((2 : Int) + r2.fst)) - (1 : Int)))) ∧ (RdOn r2.snd r3.snd ((1 : Int) + ((3 : Int) * (IntKind.wrap IntKind.i64 ((IntKind.wrap IntKind.i64 ((2 : Int) + r2.fst)) - (1 : Int)))))))) →
 (true = true) ∧
 (if (((((List.length r3.fst) : Nat) : Int) == (0 : Int)) = true) then
 ((true = true) ∧
 ((((Bytes r3.snd.b) ∧
 (((List.length r3.snd.b) ≤ (2000 : Nat)) ∧
 (((0 : Int) ≤ r3.snd.p) ∧
 (r3.snd.p ≤ (900000000 : Int))))) ∧
 (n ≤ (1000000000 : Int))) ∧
 (∀ r4 : (Prod Bool RdS),
 ((r4.snd.b = r3.snd.b) ∧ ((r3.snd.p ≤ r4.snd.p) ∧ (r4.snd.p ≤ (r3.snd.p + (1 : Int))))) →
 (true = true) ∧
 (if (r4.fst = true) then
 ((true = true) ∧
 ((((Bytes r4.snd.b) ∧
 (((List.length r4.snd.b) ≤ (2000 : Nat)) ∧
 (((0 : Int) ≤ r4.snd.p) ∧
 (r4.snd.p ≤ (1000000000 : Int))))) ∧
 ((3 : Int) ≤ (1000000000 : Int))) ∧
 (∀ r5 : (Prod Int RdS),
 ((r5.snd = (RdS.mk r4.snd.b (r4.snd.p + (1 : Int)))) ∧ (((0 : Int) ≤ r5.fst) ∧ ((((1 : Int) ≤ (3 : Int)) → (r5.fst < (3 : Int))) ∧ (((3 : Int) < (1 : Int)) → (r5.fst = (0 : Int)))))) →
 (true = true) ∧
 (if ((r5.fst == (0 : Int)) = true) then
 ((true = true) ∧
 ((((Bytes r5.snd.b) ∧
 (((List.length r5.snd.b) ≤ (2000 : Nat)) ∧
 (((0 : Int) ≤ r5.snd.p) ∧
 (r5.snd.p ≤ (1000000000 : Int))))) ∧
 ((3 : Int) ≤ (1000000000 : Int))) ∧
 (∀ r6 : (Prod Int RdS),
 ((r6.snd = (RdS.mk r5.snd.b (r5.snd.p + (1 : Int)))) ∧ (((0 : Int) ≤ r6.fst) ∧ ((((1 : Int) ≤ (3 : Int)) → (r6.fst < (3 : Int))) ∧ (((3 : Int) < (1 : Int)) → (r6.fst = (0 : Int)))))) →
 (true = true) ∧
 ((((0 : Int) ≤ r6.fst) ∧
 (r6.fst < (3 : Int))) ∧
 ((true = true) ∧
 (K [(Arg.v true [(AC.d (D.i IntKind.i64 (at_i64 ((-1 : Int) :: ((1 : Int) :: ((25 : Int) :: ([] : (List Int)) : (List Int)) : (List Int)) : (List Int)) (Int.toNat r6.fst)))), (AC.d (D.r RK.u8 ((1 : Int) :: ([] : (List Int)) : (List Int))))])] [[(AC.d (D.r RK.u8 r6.snd.b)), (AC.d (D.i IntKind.i64 r6.snd.p))]]))))))
 else
 (if ((r5.fst == (1 : Int)) = true) then
 ((true = true) ∧
 (K [(Arg.v true [(AC.d (D.i IntKind.i64 (IntKind.wrap IntKind.i64 ((2 : Int) + r2.fst)))), (AC.d (D.r RK.u8 ([] : (List Int))))])] [[(AC.d (D.r RK.u8 r5.snd.b)), (AC.d (D.i IntKind.i64 r5.snd.p))]]))
 else
 ((true = true) ∧
 ((((Bytes r5.snd.b) ∧
 (((List.length r5.snd.b) ≤ (2000 : Nat)) ∧
 (((0 : Int) ≤ r5.snd.p) ∧
 (r5.snd.p ≤ (100000000 : Int))))) ∧
 (((0 : Int) ≤ (25 : Int)) ∧
 ((25 : Int) ≤ (900 : Int)))) ∧
 (∀ r6 : (Prod (List Int) RdS),
 ((Bytes r6.fst) ∧ (((((List.length r6.fst) : Nat) : Int) ≤ (25 : Int)) ∧ (RdOn r5.snd r6.snd ((1 : Int) + ((3 : Int) * (25 : Int)))))) →
 (true = true) ∧
 ((true = true) ∧
 (K [(Arg.v true [(AC.d (D.i IntKind.i64 (IntKind.wrap IntKind.i64 ((2 : Int) + r2.fst)))), (AC.d (D.r RK.u8 r6.fst))])] [[(AC.d (D.r RK.u8 r6.snd.b)), (AC.d (D.i IntKind.i64 r6.snd.p))]]))))))))))
 else
 ((true = true) ∧
 (K [(Arg.v true [(AC.d (D.i IntKind.i64 (IntKind.wrap IntKind.i64 ((2 : Int) + r2.fst)))), (AC.d (D.r RK.u8 ((1 : Int) :: ([] : (List Int)) : (List Int))))])] [[(AC.d (D.r RK.u8 r4.snd.b)), (AC.d (D.i IntKind.i64 r4.snd.p))]]))))))
 else
 ((true = true) ∧
 ((((Bytes r3.snd.b) ∧
 (((List.length r3.snd.b) ≤ (2000 : Nat)) ∧
 (((0 : Int) ≤ r3.snd.p) ∧
 (r3.snd.p ≤ (900000000 : Int))))) ∧
 (n ≤ (1000000000 : Int))) ∧
 (∀ r4 : (Prod Bool RdS),
 ((r4.snd.b = r3.snd.b) ∧ ((r3.snd.p ≤ r4.snd.p) ∧ (r4.snd.p ≤ (r3.snd.p + (1 : Int))))) →
 (true = true) ∧
 (if (r4.fst = true) then
 ((true = true) ∧
 ((((Bytes r4.snd.b) ∧
 (((List.length r4.snd.b) ≤ (2000 : Nat)) ∧
 (((0 : Int) ≤ r4.snd.p) ∧
 (r4.snd.p ≤ (1000000000 : Int))))) ∧
 ((3 : Int) ≤ (1000000000 : Int))) ∧
 (∀ r5 : (Prod Int RdS),
 ((r5.snd = (RdS.mk r4.snd.b (r4.snd.p + (1 : Int)))) ∧ (((0 : Int) ≤ r5.fst) ∧ ((((1 : Int) ≤ (3 : Int)) → (r5.fst < (3 : Int))) ∧ (((3 : Int) < (1 : Int)) → (r5.fst = (0 : Int)))))) →
 (true = true) ∧
 (if ((r5.fst == (0 : Int)) = true) then
 ((true = true) ∧
 ((((Bytes r5.snd.b) ∧
 (((List.length r5.snd.b) ≤ (2000 : Nat)) ∧
 (((0 : Int) ≤ r5.snd.p) ∧
 (r5.snd.p ≤ (1000000000 : Int))))) ∧
 ((3 : Int) ≤ (1000000000 : Int))) ∧
 (∀ r6 : (Prod Int RdS),
 ((r6.snd = (RdS.mk r5.snd.b (r5.snd.p + (1 : Int)))) ∧ (((0 : Int) ≤ r6.fst) ∧ ((((1 : Int) ≤ (3 : Int)) → (r6.fst < (3 : Int))) ∧ (((3 : Int) < (1 : Int)) → (r6.fst = (0 : Int)))))) →
 (true = true) ∧
 ((((0 : Int) ≤ r6.fst) ∧
 (r6.fst < (3 : Int))) ∧
 ((true = true) ∧
 (K [(Arg.v true [(AC.d (D.i IntKind.i64 (at_i64 ((-1 : Int) :: ((1 : Int) :: ((25 : Int) :: ([] : (List Int)) : (List Int)) : (List Int)) : (List Int)) (Int.toNat r6.fst)))), (AC.d (D.r RK.u8 r3.fst))])] [[(AC.d (D.r RK.u8 r6.snd.b)), (AC.d (D.i IntKind.i64 r6.snd.p))]]))))))
 else
 (if ((r5.fst == (1 : Int)) = true) then
 ((true = true) ∧
 (K [(Arg.v true [(AC.d (D.i IntKind.i64 (IntKind.wrap IntKind.i64 ((2 : Int) + r2.fst)))), (AC.d (D.r RK.u8 ([] : (List Int))))])] [[(AC.d (D.r RK.u8 r5.snd.b)), (AC.d (D.i IntKind.i64 r5.snd.p))]]))
 else
 ((true = true) ∧
 ((((Bytes r5.snd.b) ∧
 (((List.length r5.snd.b) ≤ (2000 : Nat)) ∧
 (((0 : Int) ≤ r5.snd.p) ∧
 (r5.snd.p ≤ (100000000 : Int))))) ∧
 (((0 : Int) ≤ (25 : Int)) ∧
 ((25 : Int) ≤ (900 : Int)))) ∧
 (∀ r6 : (Prod (List Int) RdS),
 ((Bytes r6.fst) ∧ (((((List.length r6.fst) : Nat) : Int) ≤ (25 : Int)) ∧ (RdOn r5.snd r6.snd ((1 : Int) + ((3 : Int) * (25 : Int)))))) →
 (true = true) ∧
 ((true = true) ∧
 (K [(Arg.v true [(AC.d (D.i IntKind.i64 (IntKind.wrap IntKind.i64 ((2 : Int) + r2.fst)))), (AC.d (D.r RK.u8 r6.fst))])] [[(AC.d (D.r RK.u8 r6.snd.b)), (AC.d (D.i IntKind.i64 r6.snd.p))]]))))))))))
 else
 ((true = true) ∧
 (K [(Arg.v true [(AC.d (D.i IntKind.i64 (IntKind.wrap IntKind.i64 ((2 : Int) + r2.fst)))), (AC.d (D.r RK.u8 r3.fst))])] [[(AC.d (D.r RK.u8 r4.snd.b)), (AC.d (D.i IntKind.i64 r4.snd.p))]])))))))))))))
 else
 ((true = true) ∧
 ((((Bytes r1.snd.b) ∧
 (((List.length r1.snd.b) ≤ (2000 : Nat)) ∧
 (((0 : Int) ≤ r1.snd.p) ∧
 (r1.snd.p ≤ (900000000 : Int))))) ∧
 (n ≤ (1000000000 : Int))) ∧
 (∀ r2 : (Prod Bool RdS),
 ((r2.snd.b = r1.snd.b) ∧ ((r1.snd.p ≤ r2.snd.p) ∧ (r2.snd.p ≤ (r1.snd.p + (1 : Int))))) →
 (true = true) ∧
 (if (r2.fst = true) then
 ((true = true) ∧
 ((((Bytes r2.snd.b) ∧
 (((List.length r2.snd.b) ≤ (2000 : Nat)) ∧
 (((0 : Int) ≤ r2.snd.p) ∧
 (r2.snd.p ≤ (1000000000 : Int))))) ∧
 ((3 : Int) ≤ (1000000000 : Int))) ∧
 (∀ r3 : (Prod Int RdS),
 ((r3.snd = (RdS.mk r2.snd.b (r2.snd.p + (1 : Int)))) ∧ (((0 : Int) ≤ r3.fst) ∧ ((((1 : Int) ≤ (3 : Int)) → (r3.fst < (3 : Int))) ∧ (((3 : Int) < (1 : Int)) → (r3.fst = (0 : Int)))))) →
 (true = true) ∧
 (if ((r3.fst == (0 : Int)) = true) then
 ((true = true) ∧
 ((((Bytes r3.snd.b) ∧
 (((List.length r3.snd.b) ≤ (2000 : Nat)) ∧
 (((0 : Int) ≤ r3.snd.p) ∧
 (r3.snd.p ≤ (1000000000 : Int))))) ∧
 ((3 : Int) ≤ (1000000000 : Int))) ∧
 (∀ r4 : (Prod Int RdS),
 ((r4.snd = (RdS.mk r3.snd.b (r3.snd.p + (1 : Int)))) ∧ (((0 : Int) ≤ r4.fst) ∧ ((((1 : Int) ≤ (3 : Int)) → (r4.fst < (3 : Int))) ∧ (((3 : Int) < (1 : Int)) → (r4.fst = (0 : Int)))))) →
 (true = true) ∧
 ((((0 : Int) ≤ r4.fst) ∧
 (r4.fst < (3 : Int))) ∧
 ((true = true) ∧
 (K [(Arg.v true [(AC.d (D.i IntKind.i64 (at_i64 ((-1 : Int) :: ((1 : Int) :: ((25 : Int) :: ([] : (List Int)) : (List Int)) : (List Int)) : (List Int)) (Int.toNat r4.fst)))), (AC.d (D.r RK.u8 ([] : (List Int))))])] [[(AC.d (D.r RK.u8 r4.snd.b)), (AC.d (D.i IntKind.i64 r4.snd.p))]]))))))
 else
 (if ((r3.fst == (1 : Int)) = true) then
 ((true = true) ∧
 (K [(Arg.v true [(AC.d (D.i IntKind.i64 (0 : Int))), (AC.d (D.r RK.u8 ([] : (List Int))))])] [[(AC.d (D.r RK.u8 r3.snd.b)), (AC.d (D.i IntKind.i64 r3.snd.p))]]))
 else
 ((true = true) ∧
 ((((Bytes r3.snd.b) ∧
 (((List.length r3.snd.b) ≤ (2000 : Nat)) ∧
 (((0 : Int) ≤ r3.snd.p) ∧
 (r3.snd.p ≤ (100000000 : Int))))) ∧
 (((0 : Int) ≤ (25 : Int)) ∧
 ((25 : Int) ≤ (900 : Int)))) ∧
 (∀ r4 : (Prod (List Int) RdS),
 ((Bytes r4.fst) ∧ (((((List.length r4.fst) : Nat) : Int) ≤ (25 : Int)) ∧ (RdOn r3.snd r4.snd ((1 : Int) + ((3 : Int) * (25 : Int)))))) →
 (true = true) ∧
 ((true = true) ∧
 (K [(Arg.v true [(AC.d (D.i IntKind.i64 (0 : Int))), (AC.d (D.r RK.u8 r4.fst))])] [[(AC.d (D.r RK.u8 r4.snd.b)), (AC.d (D.i IntKind.i64 r4.snd.p))]]))))))))))
 else
 ((true = true) ∧
 (K [(Arg.v true [(AC.d (D.i IntKind.i64 (0 : Int))), (AC.d (D.r RK.u8 ([] : (List Int))))])] [[(AC.d (D.r RK.u8 r2.snd.b)), (AC.d (D.i IntKind.i64 r2.snd.p))]]))))))))) := by
  repeat' first
    | exact rfl
    | trivial
    | apply And.intro
    | (show Bytes _; grind [RdOk, RdOn, Bytes.cons, Bytes.nil, Bytes.take])
    | (intro r hr; subst hr)
    | intro r
    | exact hp
    | (refine iteI (fun h => ?_) (fun h => ?_))
  all_goals try simp (disch := omega) only [wr] at *
  all_goals first
    | omega
    | exact hk ⟨_, _⟩ ⟨_, _⟩ (by (try dsimp only); grind [RdOk, RdOn, Bytes.cons, Bytes.nil, Bytes.take])
    | grind [RdOk, RdOn, Bytes.cons, Bytes.nil, Bytes.take]
theorem w_spec_l20Join : Valid Try.prog 115 c_spec_l20Join :=
  valid_ctr2 (V := V_spec_l20Join) (tysB_ok tys_ok) (CallsL.cons w_spec_l20Rd_pick (CallsL.cons w_spec_l20Bytes (CallsL.cons w_spec_l20Rd_odd (CallsL.nil _)))) mixed 0 2 Try.func115 rfl (by kernel_rfl)
    (fun c hc => by
      obtain rfl := Option.some.inj hc
      exact ⟨trivial, ⟨trivial, ⟨⟨trivial, ⟨⟨trivial, ⟨trivial, ⟨⟨trivial, ⟨trivial, trivial⟩⟩, trivial⟩⟩⟩, trivial⟩⟩, ⟨⟨trivial, ⟨⟨trivial, ⟨trivial, ⟨trivial, ⟨trivial, ⟨trivial, trivial⟩⟩⟩⟩⟩, trivial⟩⟩, ⟨trivial, trivial⟩⟩⟩⟩⟩)
    (fun x K hp hk => ⟨_, by kernel_rfl, vF_spec_l20Join x.1 x.2 K hp (fun j q h => hk (j, q) h)⟩)
end Go.Proofs.YtlapeiijghebjaaE
