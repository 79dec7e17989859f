/- A part of the proof of laws of the program: what calls of the program answer. Conditions: none. -/
import Derived.Test.YtkkokenpehoffaaM2e1311fd
set_option linter.unusedVariables false
set_option linter.unusedSimpArgs false
set_option linter.unusedSectionVars false
/- Contracts: M. Conditions: none. -/
set_option linter.unusedVariables false
set_option maxHeartbeats 1600000
namespace Go.Proofs.YtkkokenpehoffaaE
open Go
theorem rxHear_got (c : Cfg) (r : RxS) (f : Frm) : (rxHear1 c r f).sdus.length ≤ 1000 := by have := (hear_got c r f).2.1; omega
theorem Bytes.k9 : Bytes [1, 2, 3, 4, 5, 6, 7, 8, 9] := by simp [Bytes]
theorem Bytes.k8 : Bytes [1, 2, 3, 4, 5, 6, 7, 8] := by simp [Bytes]
theorem RxIn.got {c : Cfg} {r : RxS} {f : Frm} (h : RxIn c r f) : r.join.got.length ≤ 24 := by
  have := h.2.1.2.2.2
  unfold JoinP at this
  omega
theorem hear_len {c : Cfg} {r : RxS} {f : Frm} {y : List Int} (h : RxIn c r f) (hf : f.data.length ≤ 1000000000) (hy : List.Mem y (rxHear1 c r f).sdus) : y.length ≤ 137438953472 := by
  have h1 := (hear_got c r f).2.2 y hy
  have h2 := h.got
  omega

theorem at64_bd {lo hi : Int} (h0 : lo ≤ 0) (h1 : 0 ≤ hi) : ∀ (l : List Int) (n : Nat), (∀ x ∈ l, lo ≤ x ∧ x ≤ hi) → lo ≤ at_i64 l n ∧ at_i64 l n ≤ hi := by
  intro l
  induction l with
  | nil => intro n _; exact ⟨h0, h1⟩
  | cons a l ih =>
    intro n h
    cases n with
    | zero => exact h a List.mem_cons_self
    | succ n => exact ih n fun x hx => h x (List.mem_cons_of_mem _ hx)
theorem at64_2 {a b lo hi : Int} (n : Nat) (h0 : lo ≤ 0) (h1 : 0 ≤ hi) (ha : lo ≤ a ∧ a ≤ hi) (hb : lo ≤ b ∧ b ≤ hi) : lo ≤ at_i64 [a, b] n ∧ at_i64 [a, b] n ≤ hi :=
  at64_bd h0 h1 _ n (by intro x hx; simp at hx; rcases hx with rfl | rfl <;> assumption)

/-! spec.l20Part -/
def c_spec_l20Part : Ent := ctr (α := (RdS)) (ρ := (Part) × (RdS)) [] [(0, 2)] (rs1 rRd) (fun x_ => (fun (r : RdS) => (RdOk r 45000000)) x_) (fun x_ r_ => (fun x_ => (fun (r : RdS) => ((fun r_ => (fun (p : Part) (q : RdS) => (Bytes p.data ∧ p.data.length ≤ 100 ∧ RdOn r q 50)) r_.1 r_.2))) x_) x_ r_) (fun r_ => (fun (p : Part) (q : RdS) => ([.v true [.d (.i .i64 p.seg), .d (.i .i64 p.len), .own ⟨5, .u8, p.data, m0⟩]])) r_.1 r_.2) (fun r_ => (fun (p : Part) (q : RdS) => ([(rdC q).map .d])) r_.1 r_.2)
def V_spec_l20Part : Env := ⟨tys, [(34, c_spec_l20Bytes), (36, c_spec_l20Rd_pick)], [(7, [0]), (18, [0])], [(2, 1), (3, 2)], [(7, ([0], []))], [], [500012], [], [(7, [(0, false), (1, false), (2, false), (3, false), (4, false), (5, false), (6, false), (7, false), (8, false), (9, true), (10, false), (11, false), (12, true)])]⟩
/-! spec.l20Frame -/
def c_spec_l20Frame : Ent := ctr (α := (RdS) × (Int)) (ρ := (Frm) × (RdS)) [] [] (rs rRd (rs1 rInt)) (fun x_ => (fun (r : RdS) (n : Int) => (RdOk r 44000000 ∧ n ≤ 1000)) x_.1 x_.2) (fun x_ r_ => (fun x_ => (fun (r : RdS) (n : Int) => ((fun r_ => (fun (f : Frm) (q : RdS) => (Bytes f.data ∧ f.data.length ≤ 200 ∧ RdOn r q 100)) r_.1 r_.2))) x_.1 x_.2) x_ r_) (fun r_ => (fun (f : Frm) (q : RdS) => ([rFrm.to f])) r_.1 r_.2) (fun r_ => (fun (f : Frm) (q : RdS) => ([(rdC q).map .d])) r_.1 r_.2)
def V_spec_l20Frame : Env := ⟨tys, [(36, c_spec_l20Rd_pick), (57, c_spec_l20Part), (58, c_spec_l20Rd_odd)], [(11, [0]), (26, [0]), (65, [0])], [(4, 1), (5, 2), (6, 3), (7, 4)], [(6, ([0], []))], [], [500053], [], [(6, [(0, false), (2, false), (4, false), (7, false), (8, false), (9, false), (10, false), (11, false), (12, false), (1, true), (3, true), (5, true), (6, false), (13, false), (14, true)])]⟩
def segPut2 (j : JoinS) (p : Part) : PutR := if JoinP j ∧ PartP p then segPut j p else ⟨zJoin, [], 0⟩

end Go.Proofs.YtkkokenpehoffaaE

/- Calls answer what is promised: M. Conditions: none. -/
set_option linter.unusedVariables false
set_option maxHeartbeats 1600000
namespace Go.Proofs.YtkkokenpehoffaaE
open Go
theorem vF_spec_l20Part (r : RdS) (K : List Arg → List (List AC) → Prop) (hp : RdOk r 45000000) (hk : ∀ (p : Part) (q : RdS), (Bytes p.data ∧ p.data.length ≤ 100 ∧ RdOn r q 50) → K ([.v true [.d (.i .i64 p.seg), .d (.i .i64 p.len), .own ⟨5, .u8, p.data, m0⟩]]) ([(rdC q).map .d])) :
 (true = true) ∧
 ((((Bytes r.b) ∧
 (((List.length r.b) ≤ (2000 : Nat)) ∧
 (((0 : Int) ≤ r.p) ∧
 (r.p ≤ (1000000000 : Int))))) ∧
 ((4 : Int) ≤ (1000000000 : Int))) ∧
 (∀ r1 : (Prod Int RdS),
 ((r1.snd = (RdS.mk r.b (r.p + (1 : Int)))) ∧ (((0 : Int) ≤ r1.fst) ∧ ((((1 : Int) ≤ (4 : Int)) → (r1.fst < (4 : Int))) ∧ (((4 : Int) < (1 : Int)) → (r1.fst = (0 : Int)))))) →
 (true = true) ∧
 ((true = true) ∧
 ((((Bytes r1.snd.b) ∧
 (((List.length r1.snd.b) ≤ (2000 : Nat)) ∧
 (((0 : Int) ≤ r1.snd.p) ∧
 (r1.snd.p ≤ (100000000 : Int))))) ∧
 (((0 : Int) ≤ (8 : Int)) ∧
 ((8 : Int) ≤ (900 : Int)))) ∧
 (∀ r2 : (Prod (List Int) RdS),
 ((Bytes r2.fst) ∧ (((((List.length r2.fst) : Nat) : Int) ≤ (8 : Int)) ∧ (RdOn r1.snd r2.snd ((1 : Int) + ((3 : Int) * (8 : Int)))))) →
 (true = true) ∧
 (if ((r1.fst != (0 : Int)) = true) then
 (if (((((List.length r2.fst) : Nat) : Int) == (0 : Int)) = true) then
 (if ((r1.fst == (0 : Int)) = true) then
 (if ((r1.fst == (1 : Int)) = true) then
 ((true = true) ∧
 ((((Bytes r2.snd.b) ∧
 (((List.length r2.snd.b) ≤ (2000 : Nat)) ∧
 (((0 : Int) ≤ r2.snd.p) ∧
 (r2.snd.p ≤ (1000000000 : Int))))) ∧
 ((23 : Int) ≤ (1000000000 : Int))) ∧
 (∀ r3 : (Prod Int RdS),
 ((r3.snd = (RdS.mk r2.snd.b (r2.snd.p + (1 : Int)))) ∧ (((0 : Int) ≤ r3.fst) ∧ ((((1 : Int) ≤ (23 : Int)) → (r3.fst < (23 : Int))) ∧ (((23 : Int) < (1 : Int)) → (r3.fst = (0 : Int)))))) →
 (true = true) ∧
 ((true = true) ∧
 ((true = true) ∧
 ((true = true) ∧
 (K [(Arg.v true [(AC.d (D.i IntKind.i64 r1.fst)), (AC.d (D.i IntKind.i64 (IntKind.wrap IntKind.i64 ((2 : Int) + r3.fst)))), (AC.own (RC.mk (5 : Nat) RK.u8 ((7 : Int) :: ([] : (List Int)) : (List Int)) (RM.mk (dpM false (Option.none)) false (0 : Nat) false)))])] [[(AC.d (D.r RK.u8 r3.snd.b)), (AC.d (D.i IntKind.i64 r3.snd.p))]])))))))
 else
 ((true = true) ∧
 (K [(Arg.v true [(AC.d (D.i IntKind.i64 r1.fst)), (AC.d (D.i IntKind.i64 (1 : Int))), (AC.own (RC.mk (5 : Nat) RK.u8 ((7 : Int) :: ([] : (List Int)) : (List Int)) (RM.mk (dpM false (Option.none)) false (0 : Nat) false)))])] [[(AC.d (D.r RK.u8 r2.snd.b)), (AC.d (D.i IntKind.i64 r2.snd.p))]])))
 else
 (if ((r1.fst == (1 : Int)) = true) then
 ((true = true) ∧
 ((((Bytes r2.snd.b) ∧
 (((List.length r2.snd.b) ≤ (2000 : Nat)) ∧
 (((0 : Int) ≤ r2.snd.p) ∧
 (r2.snd.p ≤ (1000000000 : Int))))) ∧
 ((23 : Int) ≤ (1000000000 : Int))) ∧
 (∀ r3 : (Prod Int RdS),
 ((r3.snd = (RdS.mk r2.snd.b (r2.snd.p + (1 : Int)))) ∧ (((0 : Int) ≤ r3.fst) ∧ ((((1 : Int) ≤ (23 : Int)) → (r3.fst < (23 : Int))) ∧ (((23 : Int) < (1 : Int)) → (r3.fst = (0 : Int)))))) →
 (true = true) ∧
 ((true = true) ∧
 ((true = true) ∧
 ((true = true) ∧
 (K [(Arg.v true [(AC.d (D.i IntKind.i64 r1.fst)), (AC.d (D.i IntKind.i64 (IntKind.wrap IntKind.i64 ((2 : Int) + r3.fst)))), (AC.own (RC.mk (5 : Nat) RK.u8 ((7 : Int) :: ([] : (List Int)) : (List Int)) (RM.mk (dpM false (Option.none)) false (0 : Nat) false)))])] [[(AC.d (D.r RK.u8 r3.snd.b)), (AC.d (D.i IntKind.i64 r3.snd.p))]])))))))
 else
 ((true = true) ∧
 (K [(Arg.v true [(AC.d (D.i IntKind.i64 r1.fst)), (AC.d (D.i IntKind.i64 (0 : Int))), (AC.own (RC.mk (5 : Nat) RK.u8 ((7 : Int) :: ([] : (List Int)) : (List Int)) (RM.mk (dpM false (Option.none)) false (0 : Nat) false)))])] [[(AC.d (D.r RK.u8 r2.snd.b)), (AC.d (D.i IntKind.i64 r2.snd.p))]]))))
 else
 (if ((r1.fst == (0 : Int)) = true) then
 (if ((r1.fst == (1 : Int)) = true) then
 ((true = true) ∧
 ((((Bytes r2.snd.b) ∧
 (((List.length r2.snd.b) ≤ (2000 : Nat)) ∧
 (((0 : Int) ≤ r2.snd.p) ∧
 (r2.snd.p ≤ (1000000000 : Int))))) ∧
 ((IntKind.wrap IntKind.i64 ((24 : Int) - (((List.length r2.fst) : Nat) : Int))) ≤ (1000000000 : Int))) ∧
 (∀ r3 : (Prod Int RdS),
 ((r3.snd = (RdS.mk r2.snd.b (r2.snd.p + (1 : Int)))) ∧ (((0 : Int) ≤ r3.fst) ∧ ((((1 : Int) ≤ (IntKind.wrap IntKind.i64 ((24 : Int) - (((List.length r2.fst) : Nat) : Int)))) → (r3.fst < (IntKind.wrap IntKind.i64 ((24 : Int) - (((List.length r2.fst) : Nat) : Int))))) ∧ (((IntKind.wrap IntKind.i64 ((24 : Int) - (((List.length r2.fst) : Nat) : Int))) < (1 : Int)) → (r3.fst = (0 : Int)))))) →
 (true = true) ∧
 ((true = true) ∧
 ((true = true) ∧
 ((true = true) ∧
 (K [(Arg.v true [(AC.d (D.i IntKind.i64 r1.fst)), (AC.d (D.i IntKind.i64 (IntKind.wrap IntKind.i64 ((IntKind.wrap IntKind.i64 ((((List.length r2.fst) : Nat) : Int) + (1 : Int))) + r3.fst)))), (AC.own (RC.mk (5 : Nat) RK.u8 r2.fst (RM.mk (dpM false (Option.none)) false (0 : Nat) false)))])] [[(AC.d (D.r RK.u8 r3.snd.b)), (AC.d (D.i IntKind.i64 r3.snd.p))]])))))))
 else
 ((true = true) ∧
 (K [(Arg.v true [(AC.d (D.i IntKind.i64 r1.fst)), (AC.d (D.i IntKind.i64 (((List.length r2.fst) : Nat) : Int))), (AC.own (RC.mk (5 : Nat) RK.u8 r2.fst (RM.mk (dpM false (Option.none)) false (0 : Nat) false)))])] [[(AC.d (D.r RK.u8 r2.snd.b)), (AC.d (D.i IntKind.i64 r2.snd.p))]])))
 else
 (if ((r1.fst == (1 : Int)) = true) then
 ((true = true) ∧
 ((((Bytes r2.snd.b) ∧
 (((List.length r2.snd.b) ≤ (2000 : Nat)) ∧
 (((0 : Int) ≤ r2.snd.p) ∧
 (r2.snd.p ≤ (1000000000 : Int))))) ∧
 ((IntKind.wrap IntKind.i64 ((24 : Int) - (((List.length r2.fst) : Nat) : Int))) ≤ (1000000000 : Int))) ∧
 (∀ r3 : (Prod Int RdS),
 ((r3.snd = (RdS.mk r2.snd.b (r2.snd.p + (1 : Int)))) ∧ (((0 : Int) ≤ r3.fst) ∧ ((((1 : Int) ≤ (IntKind.wrap IntKind.i64 ((24 : Int) - (((List.length r2.fst) : Nat) : Int)))) → (r3.fst < (IntKind.wrap IntKind.i64 ((24 : Int) - (((List.length r2.fst) : Nat) : Int))))) ∧ (((IntKind.wrap IntKind.i64 ((24 : Int) - (((List.length r2.fst) : Nat) : Int))) < (1 : Int)) → (r3.fst = (0 : Int)))))) →
 (true = true) ∧
 ((true = true) ∧
 ((true = true) ∧
 ((true = true) ∧
 (K [(Arg.v true [(AC.d (D.i IntKind.i64 r1.fst)), (AC.d (D.i IntKind.i64 (IntKind.wrap IntKind.i64 ((IntKind.wrap IntKind.i64 ((((List.length r2.fst) : Nat) : Int) + (1 : Int))) + r3.fst)))), (AC.own (RC.mk (5 : Nat) RK.u8 r2.fst (RM.mk (dpM false (Option.none)) false (0 : Nat) false)))])] [[(AC.d (D.r RK.u8 r3.snd.b)), (AC.d (D.i IntKind.i64 r3.snd.p))]])))))))
 else
 ((true = true) ∧
 (K [(Arg.v true [(AC.d (D.i IntKind.i64 r1.fst)), (AC.d (D.i IntKind.i64 (0 : Int))), (AC.own (RC.mk (5 : Nat) RK.u8 r2.fst (RM.mk (dpM false (Option.none)) false (0 : Nat) false)))])] [[(AC.d (D.r RK.u8 r2.snd.b)), (AC.d (D.i IntKind.i64 r2.snd.p))]])))))
 else
 (if ((r1.fst == (0 : Int)) = true) then
 (if ((r1.fst == (1 : Int)) = true) then
 ((true = true) ∧
 ((((Bytes r2.snd.b) ∧
 (((List.length r2.snd.b) ≤ (2000 : Nat)) ∧
 (((0 : Int) ≤ r2.snd.p) ∧
 (r2.snd.p ≤ (1000000000 : Int))))) ∧
 ((IntKind.wrap IntKind.i64 ((24 : Int) - (((List.length r2.fst) : Nat) : Int))) ≤ (1000000000 : Int))) ∧
 (∀ r3 : (Prod Int RdS),
 ((r3.snd = (RdS.mk r2.snd.b (r2.snd.p + (1 : Int)))) ∧ (((0 : Int) ≤ r3.fst) ∧ ((((1 : Int) ≤ (IntKind.wrap IntKind.i64 ((24 : Int) - (((List.length r2.fst) : Nat) : Int)))) → (r3.fst < (IntKind.wrap IntKind.i64 ((24 : Int) - (((List.length r2.fst) : Nat) : Int))))) ∧ (((IntKind.wrap IntKind.i64 ((24 : Int) - (((List.length r2.fst) : Nat) : Int))) < (1 : Int)) → (r3.fst = (0 : Int)))))) →
 (true = true) ∧
 ((true = true) ∧
 ((true = true) ∧
 ((true = true) ∧
 (K [(Arg.v true [(AC.d (D.i IntKind.i64 r1.fst)), (AC.d (D.i IntKind.i64 (IntKind.wrap IntKind.i64 ((IntKind.wrap IntKind.i64 ((((List.length r2.fst) : Nat) : Int) + (1 : Int))) + r3.fst)))), (AC.own (RC.mk (5 : Nat) RK.u8 r2.fst (RM.mk (dpM false (Option.none)) false (0 : Nat) false)))])] [[(AC.d (D.r RK.u8 r3.snd.b)), (AC.d (D.i IntKind.i64 r3.snd.p))]])))))))
 else
 ((true = true) ∧
 (K [(Arg.v true [(AC.d (D.i IntKind.i64 r1.fst)), (AC.d (D.i IntKind.i64 (((List.length r2.fst) : Nat) : Int))), (AC.own (RC.mk (5 : Nat) RK.u8 r2.fst (RM.mk (dpM false (Option.none)) false (0 : Nat) false)))])] [[(AC.d (D.r RK.u8 r2.snd.b)), (AC.d (D.i IntKind.i64 r2.snd.p))]])))
 else
 (if ((r1.fst == (1 : Int)) = true) then
 ((true = true) ∧
 ((((Bytes r2.snd.b) ∧
 (((List.length r2.snd.b) ≤ (2000 : Nat)) ∧
 (((0 : Int) ≤ r2.snd.p) ∧
 (r2.snd.p ≤ (1000000000 : Int))))) ∧
 ((IntKind.wrap IntKind.i64 ((24 : Int) - (((List.length r2.fst) : Nat) : Int))) ≤ (1000000000 : Int))) ∧
 (∀ r3 : (Prod Int RdS),
 ((r3.snd = (RdS.mk r2.snd.b (r2.snd.p + (1 : Int)))) ∧ (((0 : Int) ≤ r3.fst) ∧ ((((1 : Int) ≤ (IntKind.wrap IntKind.i64 ((24 : Int) - (((List.length r2.fst) : Nat) : Int)))) → (r3.fst < (IntKind.wrap IntKind.i64 ((24 : Int) - (((List.length r2.fst) : Nat) : Int))))) ∧ (((IntKind.wrap IntKind.i64 ((24 : Int) - (((List.length r2.fst) : Nat) : Int))) < (1 : Int)) → (r3.fst = (0 : Int)))))) →
 (true = true) ∧
 ((true = true) ∧
 ((true = true) ∧
 ((true = true) ∧
 (K [(Arg.v true [(AC.d (D.i IntKind.i64 r1.fst)), (AC.d (D.i IntKind.i64 (IntKind.wrap IntKind.i64 ((IntKind.wrap IntKind.i64 ((((List.length r2.fst) : Nat) : Int) + (1 : Int))) + r3.fst)))), (AC.own (RC.mk (5 : Nat) RK.u8 r2.fst (RM.mk (dpM false (Option.none)) false (0 : Nat) false)))])] [[(AC.d (D.r RK.u8 r3.snd.b)), (AC.d (D.i IntKind.i64 r3.snd.p))]])))))))
 else
 ((true = true) ∧
 (K [(Arg.v true [(AC.d (D.i IntKind.i64 r1.fst)), (AC.d (D.i IntKind.i64 (0 : Int))), (AC.own (RC.mk (5 : Nat) RK.u8 r2.fst (RM.mk (dpM false (Option.none)) false (0 : Nat) false)))])] [[(AC.d (D.r RK.u8 r2.snd.b)), (AC.d (D.i IntKind.i64 r2.snd.p))]])))))))))) := by
  repeat' first
    | exact rfl
    | exact True.intro
    | with_reducible apply And.intro
    | (with_reducible intro r hr; subst hr)
    | with_reducible intro r
    | (refine iteI (fun h => ?_) (fun h => ?_))
  all_goals try simp (disch := omega) only [wr] at *
  all_goals first
    | assumption
    | omega
    | exact hk ⟨_, _, _⟩ ⟨_, _⟩ (by (try dsimp only); grind [RdOk, RdOn, Bytes.cons, Bytes.nil, Bytes.take])
    | grind [RdOk, RdOn, Bytes.cons, Bytes.nil, Bytes.take]
    | exact hk ⟨_, _, _⟩ ⟨_, _⟩ (by (try dsimp only); refine ⟨?_, ?_, ?_⟩; all_goals first | (grind [RdOk, RdOn, Bytes.cons, Bytes.nil, Bytes.take]; done) | (simp; done) | (simp; omega))
theorem w_spec_l20Part : Valid Try.prog 57 c_spec_l20Part :=
  valid_ctr2 (V := V_spec_l20Part) (tysB_ok tys_ok) ⟨(CallsL.cons w_spec_l20Bytes (CallsL.cons w_spec_l20Rd_pick (CallsL.nil _))), (IosL.nil _)⟩ mixed 1 2 Try.func57 rfl (by kernel_rfl)
    (fun c hc => by
      obtain rfl := Option.some.inj hc
      exact ⟨trivial, ⟨trivial, ⟨⟨trivial, ⟨trivial, trivial⟩⟩, ⟨⟨trivial, ⟨trivial, trivial⟩⟩, ⟨⟨trivial, ⟨trivial, trivial⟩⟩, ⟨trivial, trivial⟩⟩⟩⟩⟩⟩)
    (fun x K hp hk => ⟨_, by kernel_rfl, vF_spec_l20Part x K hp (fun p q h => hk (p, q) h)⟩)
theorem vF_spec_l20Frame (r : RdS) (n : Int) (K : List Arg → List (List AC) → Prop) (hp : RdOk r 44000000 ∧ n ≤ 1000) (hk : ∀ (f : Frm) (q : RdS), (Bytes f.data ∧ f.data.length ≤ 200 ∧ RdOn r q 100) → K ([rFrm.to f]) ([(rdC q).map .d])) :
 (true = true) ∧
 ((((Bytes r.b) ∧
 (((List.length r.b) ≤ (2000 : Nat)) ∧
 (((0 : Int) ≤ r.p) ∧
 (r.p ≤ (1000000000 : Int))))) ∧
 ((4 : Int) ≤ (1000000000 : Int))) ∧
 (∀ r1 : (Prod Int RdS),
 ((r1.snd = (RdS.mk r.b (r.p + (1 : Int)))) ∧ (((0 : Int) ≤ r1.fst) ∧ ((((1 : Int) ≤ (4 : Int)) → (r1.fst < (4 : Int))) ∧ (((4 : Int) < (1 : Int)) → (r1.fst = (0 : Int)))))) →
 (true = true) ∧
 (if (((IntKind.wrap IntKind.i64 ((1 : Int) + r1.fst)) == (1 : Int)) = true) then
 ((true = true) ∧
 (((Bytes r1.snd.b) ∧
 (((List.length r1.snd.b) ≤ (2000 : Nat)) ∧
 (((0 : Int) ≤ r1.snd.p) ∧
 (r1.snd.p ≤ (45000000 : Int))))) ∧
 (∀ r2 : (Prod Part RdS),
 ((Bytes r2.fst.data) ∧ (((List.length r2.fst.data) ≤ (100 : Nat)) ∧ (RdOn r1.snd r2.snd (50 : Int)))) →
 (true = true) ∧
 ((true = true) ∧
 ((((Bytes r2.snd.b) ∧
 (((List.length r2.snd.b) ≤ (2000 : Nat)) ∧
 (((0 : Int) ≤ r2.snd.p) ∧
 (r2.snd.p ≤ (1000000000 : Int))))) ∧
 ((8 : Int) ≤ (1000000000 : Int))) ∧
 (∀ r3 : (Prod Int RdS),
 ((r3.snd = (RdS.mk r2.snd.b (r2.snd.p + (1 : Int)))) ∧ (((0 : Int) ≤ r3.fst) ∧ ((((1 : Int) ≤ (8 : Int)) → (r3.fst < (8 : Int))) ∧ (((8 : Int) < (1 : Int)) → (r3.fst = (0 : Int)))))) →
 (true = true) ∧
 ((true = true) ∧
 ((true = true) ∧
 ((((Bytes r3.snd.b) ∧
 (((List.length r3.snd.b) ≤ (2000 : Nat)) ∧
 (((0 : Int) ≤ r3.snd.p) ∧
 (r3.snd.p ≤ (1000000000 : Int))))) ∧
 ((8 : Int) ≤ (1000000000 : Int))) ∧
 (∀ r4 : (Prod Int RdS),
 ((r4.snd = (RdS.mk r3.snd.b (r3.snd.p + (1 : Int)))) ∧ (((0 : Int) ≤ r4.fst) ∧ ((((1 : Int) ≤ (8 : Int)) → (r4.fst < (8 : Int))) ∧ (((8 : Int) < (1 : Int)) → (r4.fst = (0 : Int)))))) →
 (true = true) ∧
 ((true = true) ∧
 ((true = true) ∧
 ((((Bytes r4.snd.b) ∧
 (((List.length r4.snd.b) ≤ (2000 : Nat)) ∧
 (((0 : Int) ≤ r4.snd.p) ∧
 (r4.snd.p ≤ (1000000000 : Int))))) ∧
 ((9 : Int) ≤ (1000000000 : Int))) ∧
 (∀ r5 : (Prod Int RdS),
 ((r5.snd = (RdS.mk r4.snd.b (r4.snd.p + (1 : Int)))) ∧ (((0 : Int) ≤ r5.fst) ∧ ((((1 : Int) ≤ (9 : Int)) → (r5.fst < (9 : Int))) ∧ (((9 : Int) < (1 : Int)) → (r5.fst = (0 : Int)))))) →
 (true = true) ∧
 ((true = true) ∧
 ((true = true) ∧
 ((true = true) ∧
 ((((Bytes r5.snd.b) ∧
 (((List.length r5.snd.b) ≤ (2000 : Nat)) ∧
 (((0 : Int) ≤ r5.snd.p) ∧
 (r5.snd.p ≤ (900000000 : Int))))) ∧
 (n ≤ (1000000000 : Int))) ∧
 (∀ r6 : (Prod Bool RdS),
 ((r6.snd.b = r5.snd.b) ∧ ((r5.snd.p ≤ r6.snd.p) ∧ (r6.snd.p ≤ (r5.snd.p + (1 : Int))))) →
 (true = true) ∧
 (if (r6.fst = true) then
 ((true = true) ∧
 ((((Bytes r6.snd.b) ∧
 (((List.length r6.snd.b) ≤ (2000 : Nat)) ∧
 (((0 : Int) ≤ r6.snd.p) ∧
 (r6.snd.p ≤ (1000000000 : Int))))) ∧
 ((8 : Int) ≤ (1000000000 : Int))) ∧
 (∀ r7 : (Prod Int RdS),
 ((r7.snd = (RdS.mk r6.snd.b (r6.snd.p + (1 : Int)))) ∧ (((0 : Int) ≤ r7.fst) ∧ ((((1 : Int) ≤ (8 : Int)) → (r7.fst < (8 : Int))) ∧ (((8 : Int) < (1 : Int)) → (r7.fst = (0 : Int)))))) →
 (true = true) ∧
 (if ((r7.fst == (0 : Int)) = true) then
 ((true = true) ∧
 ((((Bytes r7.snd.b) ∧
 (((List.length r7.snd.b) ≤ (2000 : Nat)) ∧
 (((0 : Int) ≤ r7.snd.p) ∧
 (r7.snd.p ≤ (1000000000 : Int))))) ∧
 ((2 : Int) ≤ (1000000000 : Int))) ∧
 (∀ r8 : (Prod Int RdS),
 ((r8.snd = (RdS.mk r7.snd.b (r7.snd.p + (1 : Int)))) ∧ (((0 : Int) ≤ r8.fst) ∧ ((((1 : Int) ≤ (2 : Int)) → (r8.fst < (2 : Int))) ∧ (((2 : Int) < (1 : Int)) → (r8.fst = (0 : Int)))))) →
 (true = true) ∧
 ((((0 : Int) ≤ r8.fst) ∧
 (r8.fst < (2 : Int))) ∧
 ((true = true) ∧
 (K [(Arg.v true [(AC.d (D.i IntKind.i64 (at_i64 ((0 : Int) :: ((5 : Int) :: ([] : (List Int)) : (List Int)) : (List Int)) (Int.toNat r8.fst)))), (AC.d (D.i IntKind.i64 r3.fst)), (AC.d (D.i IntKind.i64 r4.fst)), (AC.d (D.b false)), (AC.d (D.b (r5.fst == (0 : Int)))), (AC.d (D.i IntKind.i64 (0 : Int))), (AC.d (D.i IntKind.i64 r2.fst.seg)), (AC.d (D.i IntKind.i64 r2.fst.len)), (AC.d (D.r RK.u8 r2.fst.data))])] [[(AC.d (D.r RK.u8 r8.snd.b)), (AC.d (D.i IntKind.i64 r8.snd.p))]]))))))
 else
 (if ((r7.fst == (1 : Int)) = true) then
 ((true = true) ∧
 ((((Bytes r7.snd.b) ∧
 (((List.length r7.snd.b) ≤ (2000 : Nat)) ∧
 (((0 : Int) ≤ r7.snd.p) ∧
 (r7.snd.p ≤ (1000000000 : Int))))) ∧
 ((3 : Int) ≤ (1000000000 : Int))) ∧
 (∀ r8 : (Prod Int RdS),
 ((r8.snd = (RdS.mk r7.snd.b (r7.snd.p + (1 : Int)))) ∧ (((0 : Int) ≤ r8.fst) ∧ ((((1 : Int) ≤ (3 : Int)) → (r8.fst < (3 : Int))) ∧ (((3 : Int) < (1 : Int)) → (r8.fst = (0 : Int)))))) →
 (true = true) ∧
 ((((0 : Int) ≤ r8.fst) ∧
 (r8.fst < (3 : Int))) ∧
 ((true = true) ∧
 (K [(Arg.v true [(AC.d (D.i IntKind.i64 (1 : Int))), (AC.d (D.i IntKind.i64 (at_i64 ((-1 : Int) :: ((8 : Int) :: ((1 : Int) :: ([] : (List Int)) : (List Int)) : (List Int)) : (List Int)) (Int.toNat r8.fst)))), (AC.d (D.i IntKind.i64 r4.fst)), (AC.d (D.b false)), (AC.d (D.b (r5.fst == (0 : Int)))), (AC.d (D.i IntKind.i64 (0 : Int))), (AC.d (D.i IntKind.i64 r2.fst.seg)), (AC.d (D.i IntKind.i64 r2.fst.len)), (AC.d (D.r RK.u8 r2.fst.data))])] [[(AC.d (D.r RK.u8 r8.snd.b)), (AC.d (D.i IntKind.i64 r8.snd.p))]]))))))
 else
 (if ((r7.fst == (2 : Int)) = true) then
 ((true = true) ∧
 ((((Bytes r7.snd.b) ∧
 (((List.length r7.snd.b) ≤ (2000 : Nat)) ∧
 (((0 : Int) ≤ r7.snd.p) ∧
 (r7.snd.p ≤ (1000000000 : Int))))) ∧
 ((3 : Int) ≤ (1000000000 : Int))) ∧
 (∀ r8 : (Prod Int RdS),
 ((r8.snd = (RdS.mk r7.snd.b (r7.snd.p + (1 : Int)))) ∧ (((0 : Int) ≤ r8.fst) ∧ ((((1 : Int) ≤ (3 : Int)) → (r8.fst < (3 : Int))) ∧ (((3 : Int) < (1 : Int)) → (r8.fst = (0 : Int)))))) →
 (true = true) ∧
 ((((0 : Int) ≤ r8.fst) ∧
 (r8.fst < (3 : Int))) ∧
 ((true = true) ∧
 (K [(Arg.v true [(AC.d (D.i IntKind.i64 (1 : Int))), (AC.d (D.i IntKind.i64 r3.fst)), (AC.d (D.i IntKind.i64 (at_i64 ((-1 : Int) :: ((8 : Int) :: ((1 : Int) :: ([] : (List Int)) : (List Int)) : (List Int)) : (List Int)) (Int.toNat r8.fst)))), (AC.d (D.b false)), (AC.d (D.b (r5.fst == (0 : Int)))), (AC.d (D.i IntKind.i64 (0 : Int))), (AC.d (D.i IntKind.i64 r2.fst.seg)), (AC.d (D.i IntKind.i64 r2.fst.len)), (AC.d (D.r RK.u8 r2.fst.data))])] [[(AC.d (D.r RK.u8 r8.snd.b)), (AC.d (D.i IntKind.i64 r8.snd.p))]]))))))
 else
 (if ((r7.fst == (3 : Int)) = true) then
 ((true = true) ∧
 (K [(Arg.v true [(AC.d (D.i IntKind.i64 (1 : Int))), (AC.d (D.i IntKind.i64 r3.fst)), (AC.d (D.i IntKind.i64 r4.fst)), (AC.d (D.b true)), (AC.d (D.b true)), (AC.d (D.i IntKind.i64 (0 : Int))), (AC.d (D.i IntKind.i64 r2.fst.seg)), (AC.d (D.i IntKind.i64 r2.fst.len)), (AC.d (D.r RK.u8 r2.fst.data))])] [[(AC.d (D.r RK.u8 r7.snd.b)), (AC.d (D.i IntKind.i64 r7.snd.p))]]))
 else
 (if ((r7.fst == (4 : Int)) = true) then
 ((true = true) ∧
 ((((Bytes r7.snd.b) ∧
 (((List.length r7.snd.b) ≤ (2000 : Nat)) ∧
 (((0 : Int) ≤ r7.snd.p) ∧
 (r7.snd.p ≤ (1000000000 : Int))))) ∧
 ((3 : Int) ≤ (1000000000 : Int))) ∧
 (∀ r8 : (Prod Int RdS),
 ((r8.snd = (RdS.mk r7.snd.b (r7.snd.p + (1 : Int)))) ∧ (((0 : Int) ≤ r8.fst) ∧ ((((1 : Int) ≤ (3 : Int)) → (r8.fst < (3 : Int))) ∧ (((3 : Int) < (1 : Int)) → (r8.fst = (0 : Int)))))) →
 (true = true) ∧
 ((((0 : Int) ≤ r8.fst) ∧
 (r8.fst < (3 : Int))) ∧
 ((true = true) ∧
 (K [(Arg.v true [(AC.d (D.i IntKind.i64 (1 : Int))), (AC.d (D.i IntKind.i64 r3.fst)), (AC.d (D.i IntKind.i64 r4.fst)), (AC.d (D.b false)), (AC.d (D.b (r5.fst == (0 : Int)))), (AC.d (D.i IntKind.i64 (at_i64 ((-1 : Int) :: ((3 : Int) :: ((1 : Int) :: ([] : (List Int)) : (List Int)) : (List Int)) : (List Int)) (Int.toNat r8.fst)))), (AC.d (D.i IntKind.i64 r2.fst.seg)), (AC.d (D.i IntKind.i64 r2.fst.len)), (AC.d (D.r RK.u8 r2.fst.data))])] [[(AC.d (D.r RK.u8 r8.snd.b)), (AC.d (D.i IntKind.i64 r8.snd.p))]]))))))
 else
 (if ((r7.fst == (5 : Int)) = true) then
 ((true = true) ∧
 ((((Bytes r7.snd.b) ∧
 (((List.length r7.snd.b) ≤ (2000 : Nat)) ∧
 (((0 : Int) ≤ r7.snd.p) ∧
 (r7.snd.p ≤ (1000000000 : Int))))) ∧
 ((4 : Int) ≤ (1000000000 : Int))) ∧
 (∀ r8 : (Prod Int RdS),
 ((r8.snd = (RdS.mk r7.snd.b (r7.snd.p + (1 : Int)))) ∧ (((0 : Int) ≤ r8.fst) ∧ ((((1 : Int) ≤ (4 : Int)) → (r8.fst < (4 : Int))) ∧ (((4 : Int) < (1 : Int)) → (r8.fst = (0 : Int)))))) →
 (true = true) ∧
 ((((0 : Int) ≤ r8.fst) ∧
 (r8.fst < (4 : Int))) ∧
 ((true = true) ∧
 (K [(Arg.v true [(AC.d (D.i IntKind.i64 (1 : Int))), (AC.d (D.i IntKind.i64 r3.fst)), (AC.d (D.i IntKind.i64 r4.fst)), (AC.d (D.b false)), (AC.d (D.b (r5.fst == (0 : Int)))), (AC.d (D.i IntKind.i64 (0 : Int))), (AC.d (D.i IntKind.i64 r2.fst.seg)), (AC.d (D.i IntKind.i64 (at_i64 ((-1 : Int) :: ((0 : Int) :: ((256 : Int) :: ((30 : Int) :: ([] : (List Int)) : (List Int)) : (List Int)) : (List Int)) : (List Int)) (Int.toNat r8.fst)))), (AC.d (D.r RK.u8 r2.fst.data))])] [[(AC.d (D.r RK.u8 r8.snd.b)), (AC.d (D.i IntKind.i64 r8.snd.p))]]))))))
 else
 (if ((r7.fst == (6 : Int)) = true) then
 ((((List.length r2.fst.data) + (9 : Nat)) ≤ (137438953472 : Nat)) ∧
 ((true = true) ∧
 (K [(Arg.v true [(AC.d (D.i IntKind.i64 (1 : Int))), (AC.d (D.i IntKind.i64 r3.fst)), (AC.d (D.i IntKind.i64 r4.fst)), (AC.d (D.b false)), (AC.d (D.b (r5.fst == (0 : Int)))), (AC.d (D.i IntKind.i64 (0 : Int))), (AC.d (D.i IntKind.i64 r2.fst.seg)), (AC.d (D.i IntKind.i64 r2.fst.len)), (AC.d (D.r RK.u8 (r2.fst.data ++ ((1 : Int) :: ((2 : Int) :: ((3 : Int) :: ((4 : Int) :: ((5 : Int) :: ((6 : Int) :: ((7 : Int) :: ((8 : Int) :: ((9 : Int) :: ([] : (List Int)) : (List Int)) : (List Int)) : (List Int)) : (List Int)) : (List Int)) : (List Int)) : (List Int)) : (List Int)) : (List Int)) : (List Int))))])] [[(AC.d (D.r RK.u8 r7.snd.b)), (AC.d (D.i IntKind.i64 r7.snd.p))]])))
 else
 ((true = true) ∧
 ((((Bytes r7.snd.b) ∧
 (((List.length r7.snd.b) ≤ (2000 : Nat)) ∧
 (((0 : Int) ≤ r7.snd.p) ∧
 (r7.snd.p ≤ (1000000000 : Int))))) ∧
 ((3 : Int) ≤ (1000000000 : Int))) ∧
 (∀ r8 : (Prod Int RdS),
 ((r8.snd = (RdS.mk r7.snd.b (r7.snd.p + (1 : Int)))) ∧ (((0 : Int) ≤ r8.fst) ∧ ((((1 : Int) ≤ (3 : Int)) → (r8.fst < (3 : Int))) ∧ (((3 : Int) < (1 : Int)) → (r8.fst = (0 : Int)))))) →
 (true = true) ∧
 ((((0 : Int) ≤ r8.fst) ∧
 (r8.fst < (3 : Int))) ∧
 ((true = true) ∧
 (K [(Arg.v true [(AC.d (D.i IntKind.i64 (1 : Int))), (AC.d (D.i IntKind.i64 r3.fst)), (AC.d (D.i IntKind.i64 r4.fst)), (AC.d (D.b false)), (AC.d (D.b (r5.fst == (0 : Int)))), (AC.d (D.i IntKind.i64 (0 : Int))), (AC.d (D.i IntKind.i64 (at_i64 ((-1 : Int) :: ((4 : Int) :: ((2 : Int) :: ([] : (List Int)) : (List Int)) : (List Int)) : (List Int)) (Int.toNat r8.fst)))), (AC.d (D.i IntKind.i64 r2.fst.len)), (AC.d (D.r RK.u8 r2.fst.data))])] [[(AC.d (D.r RK.u8 r8.snd.b)), (AC.d (D.i IntKind.i64 r8.snd.p))]]))))))))))))))))
 else
 ((true = true) ∧
 (K [(Arg.v true [(AC.d (D.i IntKind.i64 (1 : Int))), (AC.d (D.i IntKind.i64 r3.fst)), (AC.d (D.i IntKind.i64 r4.fst)), (AC.d (D.b false)), (AC.d (D.b (r5.fst == (0 : Int)))), (AC.d (D.i IntKind.i64 (0 : Int))), (AC.d (D.i IntKind.i64 r2.fst.seg)), (AC.d (D.i IntKind.i64 r2.fst.len)), (AC.d (D.r RK.u8 r2.fst.data))])] [[(AC.d (D.r RK.u8 r6.snd.b)), (AC.d (D.i IntKind.i64 r6.snd.p))]]))))))))))))))))))))))
 else
 (if (((IntKind.wrap IntKind.i64 ((1 : Int) + r1.fst)) == (2 : Int)) = true) then
 ((true = true) ∧
 ((((Bytes r1.snd.b) ∧
 (((List.length r1.snd.b) ≤ (2000 : Nat)) ∧
 (((0 : Int) ≤ r1.snd.p) ∧
 (r1.snd.p ≤ (1000000000 : Int))))) ∧
 ((8 : Int) ≤ (1000000000 : Int))) ∧
 (∀ r2 : (Prod Int RdS),
 ((r2.snd = (RdS.mk r1.snd.b (r1.snd.p + (1 : Int)))) ∧ (((0 : Int) ≤ r2.fst) ∧ ((((1 : Int) ≤ (8 : Int)) → (r2.fst < (8 : Int))) ∧ (((8 : Int) < (1 : Int)) → (r2.fst = (0 : Int)))))) →
 (true = true) ∧
 ((true = true) ∧
 ((((Bytes r2.snd.b) ∧
 (((List.length r2.snd.b) ≤ (2000 : Nat)) ∧
 (((0 : Int) ≤ r2.snd.p) ∧
 (r2.snd.p ≤ (1000000000 : Int))))) ∧
 ((3 : Int) ≤ (1000000000 : Int))) ∧
 (∀ r3 : (Prod Int RdS),
 ((r3.snd = (RdS.mk r2.snd.b (r2.snd.p + (1 : Int)))) ∧ (((0 : Int) ≤ r3.fst) ∧ ((((1 : Int) ≤ (3 : Int)) → (r3.fst < (3 : Int))) ∧ (((3 : Int) < (1 : Int)) → (r3.fst = (0 : Int)))))) →
 (true = true) ∧
 (if ((!(r3.fst == (0 : Int))) = true) then
 ((true = true) ∧
 ((((Bytes r3.snd.b) ∧
 (((List.length r3.snd.b) ≤ (2000 : Nat)) ∧
 (((0 : Int) ≤ r3.snd.p) ∧
 (r3.snd.p ≤ (1000000000 : Int))))) ∧
 ((3 : Int) ≤ (1000000000 : Int))) ∧
 (∀ r4 : (Prod Int RdS),
 ((r4.snd = (RdS.mk r3.snd.b (r3.snd.p + (1 : Int)))) ∧ (((0 : Int) ≤ r4.fst) ∧ ((((1 : Int) ≤ (3 : Int)) → (r4.fst < (3 : Int))) ∧ (((3 : Int) < (1 : Int)) → (r4.fst = (0 : Int)))))) →
 (true = true) ∧
 ((true = true) ∧
 ((((Bytes r4.snd.b) ∧
 (((List.length r4.snd.b) ≤ (2000 : Nat)) ∧
 (((0 : Int) ≤ r4.snd.p) ∧
 (r4.snd.p ≤ (1000000000 : Int))))) ∧
 ((3 : Int) ≤ (1000000000 : Int))) ∧
 (∀ r5 : (Prod Int RdS),
 ((r5.snd = (RdS.mk r4.snd.b (r4.snd.p + (1 : Int)))) ∧ (((0 : Int) ≤ r5.fst) ∧ ((((1 : Int) ≤ (3 : Int)) → (r5.fst < (3 : Int))) ∧ (((3 : Int) < (1 : Int)) → (r5.fst = (0 : Int)))))) →
 (true = true) ∧
 ((true = true) ∧
 ((((Bytes r5.snd.b) ∧
 (((List.length r5.snd.b) ≤ (2000 : Nat)) ∧
 (((0 : Int) ≤ r5.snd.p) ∧
 (r5.snd.p ≤ (900000000 : Int))))) ∧
 (n ≤ (1000000000 : Int))) ∧
 (∀ r6 : (Prod Bool RdS),
 ((r6.snd.b = r5.snd.b) ∧ ((r5.snd.p ≤ r6.snd.p) ∧ (r6.snd.p ≤ (r5.snd.p + (1 : Int))))) →
 (true = true) ∧
 (if (r6.fst = true) then
 ((true = true) ∧
 ((((Bytes r6.snd.b) ∧
 (((List.length r6.snd.b) ≤ (2000 : Nat)) ∧
 (((0 : Int) ≤ r6.snd.p) ∧
 (r6.snd.p ≤ (1000000000 : Int))))) ∧
 ((8 : Int) ≤ (1000000000 : Int))) ∧
 (∀ r7 : (Prod Int RdS),
 ((r7.snd = (RdS.mk r6.snd.b (r6.snd.p + (1 : Int)))) ∧ (((0 : Int) ≤ r7.fst) ∧ ((((1 : Int) ≤ (8 : Int)) → (r7.fst < (8 : Int))) ∧ (((8 : Int) < (1 : Int)) → (r7.fst = (0 : Int)))))) →
 (true = true) ∧
 (if ((r7.fst == (0 : Int)) = true) then
 ((true = true) ∧
 ((((Bytes r7.snd.b) ∧
 (((List.length r7.snd.b) ≤ (2000 : Nat)) ∧
 (((0 : Int) ≤ r7.snd.p) ∧
 (r7.snd.p ≤ (1000000000 : Int))))) ∧
 ((2 : Int) ≤ (1000000000 : Int))) ∧
 (∀ r8 : (Prod Int RdS),
 ((r8.snd = (RdS.mk r7.snd.b (r7.snd.p + (1 : Int)))) ∧ (((0 : Int) ≤ r8.fst) ∧ ((((1 : Int) ≤ (2 : Int)) → (r8.fst < (2 : Int))) ∧ (((2 : Int) < (1 : Int)) → (r8.fst = (0 : Int)))))) →
 (true = true) ∧
 ((((0 : Int) ≤ r8.fst) ∧
 (r8.fst < (2 : Int))) ∧
 ((true = true) ∧
 (K [(Arg.v true [(AC.d (D.i IntKind.i64 (at_i64 ((0 : Int) :: ((5 : Int) :: ([] : (List Int)) : (List Int)) : (List Int)) (Int.toNat r8.fst)))), (AC.d (D.i IntKind.i64 (0 : Int))), (AC.d (D.i IntKind.i64 r2.fst)), (AC.d (D.b (r3.fst == (0 : Int)))), (AC.d (D.b (r4.fst == (0 : Int)))), (AC.d (D.i IntKind.i64 r5.fst)), (AC.d (D.i IntKind.i64 (0 : Int))), (AC.d (D.i IntKind.i64 (0 : Int))), (AC.d (D.r RK.u8 ([] : (List Int))))])] [[(AC.d (D.r RK.u8 r8.snd.b)), (AC.d (D.i IntKind.i64 r8.snd.p))]]))))))
 else
 (if ((r7.fst == (1 : Int)) = true) then
 ((true = true) ∧
 ((((Bytes r7.snd.b) ∧
 (((List.length r7.snd.b) ≤ (2000 : Nat)) ∧
 (((0 : Int) ≤ r7.snd.p) ∧
 (r7.snd.p ≤ (1000000000 : Int))))) ∧
 ((3 : Int) ≤ (1000000000 : Int))) ∧
 (∀ r8 : (Prod Int RdS),
 ((r8.snd = (RdS.mk r7.snd.b (r7.snd.p + (1 : Int)))) ∧ (((0 : Int) ≤ r8.fst) ∧ ((((1 : Int) ≤ (3 : Int)) → (r8.fst < (3 : Int))) ∧ (((3 : Int) < (1 : Int)) → (r8.fst = (0 : Int)))))) →
 (true = true) ∧
 ((((0 : Int) ≤ r8.fst) ∧
 (r8.fst < (3 : Int))) ∧
 ((true = true) ∧
 (K [(Arg.v true [(AC.d (D.i IntKind.i64 (IntKind.wrap IntKind.i64 ((1 : Int) + r1.fst)))), (AC.d (D.i IntKind.i64 (at_i64 ((-1 : Int) :: ((8 : Int) :: ((1 : Int) :: ([] : (List Int)) : (List Int)) : (List Int)) : (List Int)) (Int.toNat r8.fst)))), (AC.d (D.i IntKind.i64 r2.fst)), (AC.d (D.b (r3.fst == (0 : Int)))), (AC.d (D.b (r4.fst == (0 : Int)))), (AC.d (D.i IntKind.i64 r5.fst)), (AC.d (D.i IntKind.i64 (0 : Int))), (AC.d (D.i IntKind.i64 (0 : Int))), (AC.d (D.r RK.u8 ([] : (List Int))))])] [[(AC.d (D.r RK.u8 r8.snd.b)), (AC.d (D.i IntKind.i64 r8.snd.p))]]))))))
 else
 (if ((r7.fst == (2 : Int)) = true) then
 ((true = true) ∧
 ((((Bytes r7.snd.b) ∧
 (((List.length r7.snd.b) ≤ (2000 : Nat)) ∧
 (((0 : Int) ≤ r7.snd.p) ∧
 (r7.snd.p ≤ (1000000000 : Int))))) ∧
 ((3 : Int) ≤ (1000000000 : Int))) ∧
 (∀ r8 : (Prod Int RdS),
 ((r8.snd = (RdS.mk r7.snd.b (r7.snd.p + (1 : Int)))) ∧ (((0 : Int) ≤ r8.fst) ∧ ((((1 : Int) ≤ (3 : Int)) → (r8.fst < (3 : Int))) ∧ (((3 : Int) < (1 : Int)) → (r8.fst = (0 : Int)))))) →
 (true = true) ∧
 ((((0 : Int) ≤ r8.fst) ∧
 (r8.fst < (3 : Int))) ∧
 ((true = true) ∧
 (K [(Arg.v true [(AC.d (D.i IntKind.i64 (IntKind.wrap IntKind.i64 ((1 : Int) + r1.fst)))), (AC.d (D.i IntKind.i64 (0 : Int))), (AC.d (D.i IntKind.i64 (at_i64 ((-1 : Int) :: ((8 : Int) :: ((1 : Int) :: ([] : (List Int)) : (List Int)) : (List Int)) : (List Int)) (Int.toNat r8.fst)))), (AC.d (D.b (r3.fst == (0 : Int)))), (AC.d (D.b (r4.fst == (0 : Int)))), (AC.d (D.i IntKind.i64 r5.fst)), (AC.d (D.i IntKind.i64 (0 : Int))), (AC.d (D.i IntKind.i64 (0 : Int))), (AC.d (D.r RK.u8 ([] : (List Int))))])] [[(AC.d (D.r RK.u8 r8.snd.b)), (AC.d (D.i IntKind.i64 r8.snd.p))]]))))))
 else
 (if ((r7.fst == (3 : Int)) = true) then
 ((true = true) ∧
 (K [(Arg.v true [(AC.d (D.i IntKind.i64 (IntKind.wrap IntKind.i64 ((1 : Int) + r1.fst)))), (AC.d (D.i IntKind.i64 (0 : Int))), (AC.d (D.i IntKind.i64 r2.fst)), (AC.d (D.b true)), (AC.d (D.b true)), (AC.d (D.i IntKind.i64 r5.fst)), (AC.d (D.i IntKind.i64 (0 : Int))), (AC.d (D.i IntKind.i64 (0 : Int))), (AC.d (D.r RK.u8 ([] : (List Int))))])] [[(AC.d (D.r RK.u8 r7.snd.b)), (AC.d (D.i IntKind.i64 r7.snd.p))]]))
 else
 (if ((r7.fst == (4 : Int)) = true) then
 ((true = true) ∧
 ((((Bytes r7.snd.b) ∧
 (((List.length r7.snd.b) ≤ (2000 : Nat)) ∧
 (((0 : Int) ≤ r7.snd.p) ∧
 (r7.snd.p ≤ (1000000000 : Int))))) ∧
 ((3 : Int) ≤ (1000000000 : Int))) ∧
 (∀ r8 : (Prod Int RdS),
 ((r8.snd = (RdS.mk r7.snd.b (r7.snd.p + (1 : Int)))) ∧ (((0 : Int) ≤ r8.fst) ∧ ((((1 : Int) ≤ (3 : Int)) → (r8.fst < (3 : Int))) ∧ (((3 : Int) < (1 : Int)) → (r8.fst = (0 : Int)))))) →
 (true = true) ∧
 ((((0 : Int) ≤ r8.fst) ∧
 (r8.fst < (3 : Int))) ∧
 ((true = true) ∧
 (K [(Arg.v true [(AC.d (D.i IntKind.i64 (IntKind.wrap IntKind.i64 ((1 : Int) + r1.fst)))), (AC.d (D.i IntKind.i64 (0 : Int))), (AC.d (D.i IntKind.i64 r2.fst)), (AC.d (D.b (r3.fst == (0 : Int)))), (AC.d (D.b (r4.fst == (0 : Int)))), (AC.d (D.i IntKind.i64 (at_i64 ((-1 : Int) :: ((3 : Int) :: ((1 : Int) :: ([] : (List Int)) : (List Int)) : (List Int)) : (List Int)) (Int.toNat r8.fst)))), (AC.d (D.i IntKind.i64 (0 : Int))), (AC.d (D.i IntKind.i64 (0 : Int))), (AC.d (D.r RK.u8 ([] : (List Int))))])] [[(AC.d (D.r RK.u8 r8.snd.b)), (AC.d (D.i IntKind.i64 r8.snd.p))]]))))))
 else
 (if ((r7.fst == (5 : Int)) = true) then
 ((true = true) ∧
 ((((Bytes r7.snd.b) ∧
 (((List.length r7.snd.b) ≤ (2000 : Nat)) ∧
 (((0 : Int) ≤ r7.snd.p) ∧
 (r7.snd.p ≤ (1000000000 : Int))))) ∧
 ((4 : Int) ≤ (1000000000 : Int))) ∧
 (∀ r8 : (Prod Int RdS),
 ((r8.snd = (RdS.mk r7.snd.b (r7.snd.p + (1 : Int)))) ∧ (((0 : Int) ≤ r8.fst) ∧ ((((1 : Int) ≤ (4 : Int)) → (r8.fst < (4 : Int))) ∧ (((4 : Int) < (1 : Int)) → (r8.fst = (0 : Int)))))) →
 (true = true) ∧
 ((((0 : Int) ≤ r8.fst) ∧
 (r8.fst < (4 : Int))) ∧
 ((true = true) ∧
 (K [(Arg.v true [(AC.d (D.i IntKind.i64 (IntKind.wrap IntKind.i64 ((1 : Int) + r1.fst)))), (AC.d (D.i IntKind.i64 (0 : Int))), (AC.d (D.i IntKind.i64 r2.fst)), (AC.d (D.b (r3.fst == (0 : Int)))), (AC.d (D.b (r4.fst == (0 : Int)))), (AC.d (D.i IntKind.i64 r5.fst)), (AC.d (D.i IntKind.i64 (0 : Int))), (AC.d (D.i IntKind.i64 (at_i64 ((-1 : Int) :: ((0 : Int) :: ((256 : Int) :: ((30 : Int) :: ([] : (List Int)) : (List Int)) : (List Int)) : (List Int)) : (List Int)) (Int.toNat r8.fst)))), (AC.d (D.r RK.u8 ([] : (List Int))))])] [[(AC.d (D.r RK.u8 r8.snd.b)), (AC.d (D.i IntKind.i64 r8.snd.p))]]))))))
 else
 (if ((r7.fst == (6 : Int)) = true) then
 (((9 : Nat) ≤ (137438953472 : Nat)) ∧
 ((true = true) ∧
 (K [(Arg.v true [(AC.d (D.i IntKind.i64 (IntKind.wrap IntKind.i64 ((1 : Int) + r1.fst)))), (AC.d (D.i IntKind.i64 (0 : Int))), (AC.d (D.i IntKind.i64 r2.fst)), (AC.d (D.b (r3.fst == (0 : Int)))), (AC.d (D.b (r4.fst == (0 : Int)))), (AC.d (D.i IntKind.i64 r5.fst)), (AC.d (D.i IntKind.i64 (0 : Int))), (AC.d (D.i IntKind.i64 (0 : Int))), (AC.d (D.r RK.u8 (([] : (List Int)) ++ ((1 : Int) :: ((2 : Int) :: ((3 : Int) :: ((4 : Int) :: ((5 : Int) :: ((6 : Int) :: ((7 : Int) :: ((8 : Int) :: ((9 : Int) :: ([] : (List Int)) : (List Int)) : (List Int)) : (List Int)) : (List Int)) : (List Int)) : (List Int)) : (List Int)) : (List Int)) : (List Int)) : (List Int))))])] [[(AC.d (D.r RK.u8 r7.snd.b)), (AC.d (D.i IntKind.i64 r7.snd.p))]])))
 else
 ((true = true) ∧
 ((((Bytes r7.snd.b) ∧
 (((List.length r7.snd.b) ≤ (2000 : Nat)) ∧
 (((0 : Int) ≤ r7.snd.p) ∧
 (r7.snd.p ≤ (1000000000 : Int))))) ∧
 ((3 : Int) ≤ (1000000000 : Int))) ∧
 (∀ r8 : (Prod Int RdS),
 ((r8.snd = (RdS.mk r7.snd.b (r7.snd.p + (1 : Int)))) ∧ (((0 : Int) ≤ r8.fst) ∧ ((((1 : Int) ≤ (3 : Int)) → (r8.fst < (3 : Int))) ∧ (((3 : Int) < (1 : Int)) → (r8.fst = (0 : Int)))))) →
 (true = true) ∧
 ((((0 : Int) ≤ r8.fst) ∧
 (r8.fst < (3 : Int))) ∧
 ((true = true) ∧
 (K [(Arg.v true [(AC.d (D.i IntKind.i64 (IntKind.wrap IntKind.i64 ((1 : Int) + r1.fst)))), (AC.d (D.i IntKind.i64 (0 : Int))), (AC.d (D.i IntKind.i64 r2.fst)), (AC.d (D.b (r3.fst == (0 : Int)))), (AC.d (D.b (r4.fst == (0 : Int)))), (AC.d (D.i IntKind.i64 r5.fst)), (AC.d (D.i IntKind.i64 (at_i64 ((-1 : Int) :: ((4 : Int) :: ((2 : Int) :: ([] : (List Int)) : (List Int)) : (List Int)) : (List Int)) (Int.toNat r8.fst)))), (AC.d (D.i IntKind.i64 (0 : Int))), (AC.d (D.r RK.u8 ([] : (List Int))))])] [[(AC.d (D.r RK.u8 r8.snd.b)), (AC.d (D.i IntKind.i64 r8.snd.p))]]))))))))))))))))
 else
 ((true = true) ∧
 (K [(Arg.v true [(AC.d (D.i IntKind.i64 (IntKind.wrap IntKind.i64 ((1 : Int) + r1.fst)))), (AC.d (D.i IntKind.i64 (0 : Int))), (AC.d (D.i IntKind.i64 r2.fst)), (AC.d (D.b (r3.fst == (0 : Int)))), (AC.d (D.b (r4.fst == (0 : Int)))), (AC.d (D.i IntKind.i64 r5.fst)), (AC.d (D.i IntKind.i64 (0 : Int))), (AC.d (D.i IntKind.i64 (0 : Int))), (AC.d (D.r RK.u8 ([] : (List Int))))])] [[(AC.d (D.r RK.u8 r6.snd.b)), (AC.d (D.i IntKind.i64 r6.snd.p))]]))))))))))))
 else
 ((true = true) ∧
 ((((Bytes r3.snd.b) ∧
 (((List.length r3.snd.b) ≤ (2000 : Nat)) ∧
 (((0 : Int) ≤ r3.snd.p) ∧
 (r3.snd.p ≤ (1000000000 : Int))))) ∧
 ((3 : Int) ≤ (1000000000 : Int))) ∧
 (∀ r4 : (Prod Int RdS),
 ((r4.snd = (RdS.mk r3.snd.b (r3.snd.p + (1 : Int)))) ∧ (((0 : Int) ≤ r4.fst) ∧ ((((1 : Int) ≤ (3 : Int)) → (r4.fst < (3 : Int))) ∧ (((3 : Int) < (1 : Int)) → (r4.fst = (0 : Int)))))) →
 (true = true) ∧
 ((true = true) ∧
 ((((Bytes r4.snd.b) ∧
 (((List.length r4.snd.b) ≤ (2000 : Nat)) ∧
 (((0 : Int) ≤ r4.snd.p) ∧
 (r4.snd.p ≤ (900000000 : Int))))) ∧
 (n ≤ (1000000000 : Int))) ∧
 (∀ r5 : (Prod Bool RdS),
 ((r5.snd.b = r4.snd.b) ∧ ((r4.snd.p ≤ r5.snd.p) ∧ (r5.snd.p ≤ (r4.snd.p + (1 : Int))))) →
 (true = true) ∧
 (if (r5.fst = true) then
 ((true = true) ∧
 ((((Bytes r5.snd.b) ∧
 (((List.length r5.snd.b) ≤ (2000 : Nat)) ∧
 (((0 : Int) ≤ r5.snd.p) ∧
 (r5.snd.p ≤ (1000000000 : Int))))) ∧
 ((8 : Int) ≤ (1000000000 : Int))) ∧
 (∀ r6 : (Prod Int RdS),
 ((r6.snd = (RdS.mk r5.snd.b (r5.snd.p + (1 : Int)))) ∧ (((0 : Int) ≤ r6.fst) ∧ ((((1 : Int) ≤ (8 : Int)) → (r6.fst < (8 : Int))) ∧ (((8 : Int) < (1 : Int)) → (r6.fst = (0 : Int)))))) →
 (true = true) ∧
 (if ((r6.fst == (0 : Int)) = true) then
 ((true = true) ∧
 ((((Bytes r6.snd.b) ∧
 (((List.length r6.snd.b) ≤ (2000 : Nat)) ∧
 (((0 : Int) ≤ r6.snd.p) ∧
 (r6.snd.p ≤ (1000000000 : Int))))) ∧
 ((2 : Int) ≤ (1000000000 : Int))) ∧
 (∀ r7 : (Prod Int RdS),
 ((r7.snd = (RdS.mk r6.snd.b (r6.snd.p + (1 : Int)))) ∧ (((0 : Int) ≤ r7.fst) ∧ ((((1 : Int) ≤ (2 : Int)) → (r7.fst < (2 : Int))) ∧ (((2 : Int) < (1 : Int)) → (r7.fst = (0 : Int)))))) →
 (true = true) ∧
 ((((0 : Int) ≤ r7.fst) ∧
 (r7.fst < (2 : Int))) ∧
 ((true = true) ∧
 (K [(Arg.v true [(AC.d (D.i IntKind.i64 (at_i64 ((0 : Int) :: ((5 : Int) :: ([] : (List Int)) : (List Int)) : (List Int)) (Int.toNat r7.fst)))), (AC.d (D.i IntKind.i64 (0 : Int))), (AC.d (D.i IntKind.i64 r2.fst)), (AC.d (D.b (r3.fst == (0 : Int)))), (AC.d (D.b false)), (AC.d (D.i IntKind.i64 r4.fst)), (AC.d (D.i IntKind.i64 (0 : Int))), (AC.d (D.i IntKind.i64 (0 : Int))), (AC.d (D.r RK.u8 ([] : (List Int))))])] [[(AC.d (D.r RK.u8 r7.snd.b)), (AC.d (D.i IntKind.i64 r7.snd.p))]]))))))
 else
 (if ((r6.fst == (1 : Int)) = true) then
 ((true = true) ∧
 ((((Bytes r6.snd.b) ∧
 (((List.length r6.snd.b) ≤ (2000 : Nat)) ∧
 (((0 : Int) ≤ r6.snd.p) ∧
 (r6.snd.p ≤ (1000000000 : Int))))) ∧
 ((3 : Int) ≤ (1000000000 : Int))) ∧
 (∀ r7 : (Prod Int RdS),
 ((r7.snd = (RdS.mk r6.snd.b (r6.snd.p + (1 : Int)))) ∧ (((0 : Int) ≤ r7.fst) ∧ ((((1 : Int) ≤ (3 : Int)) → (r7.fst < (3 : Int))) ∧ (((3 : Int) < (1 : Int)) → (r7.fst = (0 : Int)))))) →
 (true = true) ∧
 ((((0 : Int) ≤ r7.fst) ∧
 (r7.fst < (3 : Int))) ∧
 ((true = true) ∧
 (K [(Arg.v true [(AC.d (D.i IntKind.i64 (IntKind.wrap IntKind.i64 ((1 : Int) + r1.fst)))), (AC.d (D.i IntKind.i64 (at_i64 ((-1 : Int) :: ((8 : Int) :: ((1 : Int) :: ([] : (List Int)) : (List Int)) : (List Int)) : (List Int)) (Int.toNat r7.fst)))), (AC.d (D.i IntKind.i64 r2.fst)), (AC.d (D.b (r3.fst == (0 : Int)))), (AC.d (D.b false)), (AC.d (D.i IntKind.i64 r4.fst)), (AC.d (D.i IntKind.i64 (0 : Int))), (AC.d (D.i IntKind.i64 (0 : Int))), (AC.d (D.r RK.u8 ([] : (List Int))))])] [[(AC.d (D.r RK.u8 r7.snd.b)), (AC.d (D.i IntKind.i64 r7.snd.p))]]))))))
 else
 (if ((r6.fst == (2 : Int)) = true) then
 ((true = true) ∧
 ((((Bytes r6.snd.b) ∧
 (((List.length r6.snd.b) ≤ (2000 : Nat)) ∧
 (((0 : Int) ≤ r6.snd.p) ∧
 (r6.snd.p ≤ (1000000000 : Int))))) ∧
 ((3 : Int) ≤ (1000000000 : Int))) ∧
 (∀ r7 : (Prod Int RdS),
 ((r7.snd = (RdS.mk r6.snd.b (r6.snd.p + (1 : Int)))) ∧ (((0 : Int) ≤ r7.fst) ∧ ((((1 : Int) ≤ (3 : Int)) → (r7.fst < (3 : Int))) ∧ (((3 : Int) < (1 : Int)) → (r7.fst = (0 : Int)))))) →
 (true = true) ∧
 ((((0 : Int) ≤ r7.fst) ∧
 (r7.fst < (3 : Int))) ∧
 ((true = true) ∧
 (K [(Arg.v true [(AC.d (D.i IntKind.i64 (IntKind.wrap IntKind.i64 ((1 : Int) + r1.fst)))), (AC.d (D.i IntKind.i64 (0 : Int))), (AC.d (D.i IntKind.i64 (at_i64 ((-1 : Int) :: ((8 : Int) :: ((1 : Int) :: ([] : (List Int)) : (List Int)) : (List Int)) : (List Int)) (Int.toNat r7.fst)))), (AC.d (D.b (r3.fst == (0 : Int)))), (AC.d (D.b false)), (AC.d (D.i IntKind.i64 r4.fst)), (AC.d (D.i IntKind.i64 (0 : Int))), (AC.d (D.i IntKind.i64 (0 : Int))), (AC.d (D.r RK.u8 ([] : (List Int))))])] [[(AC.d (D.r RK.u8 r7.snd.b)), (AC.d (D.i IntKind.i64 r7.snd.p))]]))))))
 else
 (if ((r6.fst == (3 : Int)) = true) then
 ((true = true) ∧
 (K [(Arg.v true [(AC.d (D.i IntKind.i64 (IntKind.wrap IntKind.i64 ((1 : Int) + r1.fst)))), (AC.d (D.i IntKind.i64 (0 : Int))), (AC.d (D.i IntKind.i64 r2.fst)), (AC.d (D.b true)), (AC.d (D.b true)), (AC.d (D.i IntKind.i64 r4.fst)), (AC.d (D.i IntKind.i64 (0 : Int))), (AC.d (D.i IntKind.i64 (0 : Int))), (AC.d (D.r RK.u8 ([] : (List Int))))])] [[(AC.d (D.r RK.u8 r6.snd.b)), (AC.d (D.i IntKind.i64 r6.snd.p))]]))
 else
 (if ((r6.fst == (4 : Int)) = true) then
 ((true = true) ∧
 ((((Bytes r6.snd.b) ∧
 (((List.length r6.snd.b) ≤ (2000 : Nat)) ∧
 (((0 : Int) ≤ r6.snd.p) ∧
 (r6.snd.p ≤ (1000000000 : Int))))) ∧
 ((3 : Int) ≤ (1000000000 : Int))) ∧
 (∀ r7 : (Prod Int RdS),
 ((r7.snd = (RdS.mk r6.snd.b (r6.snd.p + (1 : Int)))) ∧ (((0 : Int) ≤ r7.fst) ∧ ((((1 : Int) ≤ (3 : Int)) → (r7.fst < (3 : Int))) ∧ (((3 : Int) < (1 : Int)) → (r7.fst = (0 : Int)))))) →
 (true = true) ∧
 ((((0 : Int) ≤ r7.fst) ∧
 (r7.fst < (3 : Int))) ∧
 ((true = true) ∧
 (K [(Arg.v true [(AC.d (D.i IntKind.i64 (IntKind.wrap IntKind.i64 ((1 : Int) + r1.fst)))), (AC.d (D.i IntKind.i64 (0 : Int))), (AC.d (D.i IntKind.i64 r2.fst)), (AC.d (D.b (r3.fst == (0 : Int)))), (AC.d (D.b false)), (AC.d (D.i IntKind.i64 (at_i64 ((-1 : Int) :: ((3 : Int) :: ((1 : Int) :: ([] : (List Int)) : (List Int)) : (List Int)) : (List Int)) (Int.toNat r7.fst)))), (AC.d (D.i IntKind.i64 (0 : Int))), (AC.d (D.i IntKind.i64 (0 : Int))), (AC.d (D.r RK.u8 ([] : (List Int))))])] [[(AC.d (D.r RK.u8 r7.snd.b)), (AC.d (D.i IntKind.i64 r7.snd.p))]]))))))
 else
 (if ((r6.fst == (5 : Int)) = true) then
 ((true = true) ∧
 ((((Bytes r6.snd.b) ∧
 (((List.length r6.snd.b) ≤ (2000 : Nat)) ∧
 (((0 : Int) ≤ r6.snd.p) ∧
 (r6.snd.p ≤ (1000000000 : Int))))) ∧
 ((4 : Int) ≤ (1000000000 : Int))) ∧
 (∀ r7 : (Prod Int RdS),
 ((r7.snd = (RdS.mk r6.snd.b (r6.snd.p + (1 : Int)))) ∧ (((0 : Int) ≤ r7.fst) ∧ ((((1 : Int) ≤ (4 : Int)) → (r7.fst < (4 : Int))) ∧ (((4 : Int) < (1 : Int)) → (r7.fst = (0 : Int)))))) →
 (true = true) ∧
 ((((0 : Int) ≤ r7.fst) ∧
 (r7.fst < (4 : Int))) ∧
 ((true = true) ∧
 (K [(Arg.v true [(AC.d (D.i IntKind.i64 (IntKind.wrap IntKind.i64 ((1 : Int) + r1.fst)))), (AC.d (D.i IntKind.i64 (0 : Int))), (AC.d (D.i IntKind.i64 r2.fst)), (AC.d (D.b (r3.fst == (0 : Int)))), (AC.d (D.b false)), (AC.d (D.i IntKind.i64 r4.fst)), (AC.d (D.i IntKind.i64 (0 : Int))), (AC.d (D.i IntKind.i64 (at_i64 ((-1 : Int) :: ((0 : Int) :: ((256 : Int) :: ((30 : Int) :: ([] : (List Int)) : (List Int)) : (List Int)) : (List Int)) : (List Int)) (Int.toNat r7.fst)))), (AC.d (D.r RK.u8 ([] : (List Int))))])] [[(AC.d (D.r RK.u8 r7.snd.b)), (AC.d (D.i IntKind.i64 r7.snd.p))]]))))))
 else
 (if ((r6.fst == (6 : Int)) = true) then
 (((9 : Nat) ≤ (137438953472 : Nat)) ∧
 ((true = true) ∧
 (K [(Arg.v true [(AC.d (D.i IntKind.i64 (IntKind.wrap IntKind.i64 ((1 : Int) + r1.fst)))), (AC.d (D.i IntKind.i64 (0 : Int))), (AC.d (D.i IntKind.i64 r2.fst)), (AC.d (D.b (r3.fst == (0 : Int)))), (AC.d (D.b false)), (AC.d (D.i IntKind.i64 r4.fst)), (AC.d (D.i IntKind.i64 (0 : Int))), (AC.d (D.i IntKind.i64 (0 : Int))), (AC.d (D.r RK.u8 (([] : (List Int)) ++ ((1 : Int) :: ((2 : Int) :: ((3 : Int) :: ((4 : Int) :: ((5 : Int) :: ((6 : Int) :: ((7 : Int) :: ((8 : Int) :: ((9 : Int) :: ([] : (List Int)) : (List Int)) : (List Int)) : (List Int)) : (List Int)) : (List Int)) : (List Int)) : (List Int)) : (List Int)) : (List Int)) : (List Int))))])] [[(AC.d (D.r RK.u8 r6.snd.b)), (AC.d (D.i IntKind.i64 r6.snd.p))]])))
 else
 ((true = true) ∧
 ((((Bytes r6.snd.b) ∧
 (((List.length r6.snd.b) ≤ (2000 : Nat)) ∧
 (((0 : Int) ≤ r6.snd.p) ∧
 (r6.snd.p ≤ (1000000000 : Int))))) ∧
 ((3 : Int) ≤ (1000000000 : Int))) ∧
 (∀ r7 : (Prod Int RdS),
 ((r7.snd = (RdS.mk r6.snd.b (r6.snd.p + (1 : Int)))) ∧ (((0 : Int) ≤ r7.fst) ∧ ((((1 : Int) ≤ (3 : Int)) → (r7.fst < (3 : Int))) ∧ (((3 : Int) < (1 : Int)) → (r7.fst = (0 : Int)))))) →
 (true = true) ∧
 ((((0 : Int) ≤ r7.fst) ∧
 (r7.fst < (3 : Int))) ∧
 ((true = true) ∧
 (K [(Arg.v true [(AC.d (D.i IntKind.i64 (IntKind.wrap IntKind.i64 ((1 : Int) + r1.fst)))), (AC.d (D.i IntKind.i64 (0 : Int))), (AC.d (D.i IntKind.i64 r2.fst)), (AC.d (D.b (r3.fst == (0 : Int)))), (AC.d (D.b false)), (AC.d (D.i IntKind.i64 r4.fst)), (AC.d (D.i IntKind.i64 (at_i64 ((-1 : Int) :: ((4 : Int) :: ((2 : Int) :: ([] : (List Int)) : (List Int)) : (List Int)) : (List Int)) (Int.toNat r7.fst)))), (AC.d (D.i IntKind.i64 (0 : Int))), (AC.d (D.r RK.u8 ([] : (List Int))))])] [[(AC.d (D.r RK.u8 r7.snd.b)), (AC.d (D.i IntKind.i64 r7.snd.p))]]))))))))))))))))
 else
 ((true = true) ∧
 (K [(Arg.v true [(AC.d (D.i IntKind.i64 (IntKind.wrap IntKind.i64 ((1 : Int) + r1.fst)))), (AC.d (D.i IntKind.i64 (0 : Int))), (AC.d (D.i IntKind.i64 r2.fst)), (AC.d (D.b (r3.fst == (0 : Int)))), (AC.d (D.b false)), (AC.d (D.i IntKind.i64 r4.fst)), (AC.d (D.i IntKind.i64 (0 : Int))), (AC.d (D.i IntKind.i64 (0 : Int))), (AC.d (D.r RK.u8 ([] : (List Int))))])] [[(AC.d (D.r RK.u8 r5.snd.b)), (AC.d (D.i IntKind.i64 r5.snd.p))]]))))))))))))))))
 else
 (if (((IntKind.wrap IntKind.i64 ((1 : Int) + r1.fst)) == (3 : Int)) = true) then
 ((true = true) ∧
 (((Bytes r1.snd.b) ∧
 (((List.length r1.snd.b) ≤ (2000 : Nat)) ∧
 (((0 : Int) ≤ r1.snd.p) ∧
 (r1.snd.p ≤ (45000000 : Int))))) ∧
 (∀ r2 : (Prod Part RdS),
 ((Bytes r2.fst.data) ∧ (((List.length r2.fst.data) ≤ (100 : Nat)) ∧ (RdOn r1.snd r2.snd (50 : Int)))) →
 (true = true) ∧
 ((true = true) ∧
 ((((Bytes r2.snd.b) ∧
 (((List.length r2.snd.b) ≤ (2000 : Nat)) ∧
 (((0 : Int) ≤ r2.snd.p) ∧
 (r2.snd.p ≤ (900000000 : Int))))) ∧
 (n ≤ (1000000000 : Int))) ∧
 (∀ r3 : (Prod Bool RdS),
 ((r3.snd.b = r2.snd.b) ∧ ((r2.snd.p ≤ r3.snd.p) ∧ (r3.snd.p ≤ (r2.snd.p + (1 : Int))))) →
 (true = true) ∧
 (if (r3.fst = true) then
 ((true = true) ∧
 ((((Bytes r3.snd.b) ∧
 (((List.length r3.snd.b) ≤ (2000 : Nat)) ∧
 (((0 : Int) ≤ r3.snd.p) ∧
 (r3.snd.p ≤ (1000000000 : Int))))) ∧
 ((8 : Int) ≤ (1000000000 : Int))) ∧
 (∀ r4 : (Prod Int RdS),
 ((r4.snd = (RdS.mk r3.snd.b (r3.snd.p + (1 : Int)))) ∧ (((0 : Int) ≤ r4.fst) ∧ ((((1 : Int) ≤ (8 : Int)) → (r4.fst < (8 : Int))) ∧ (((8 : Int) < (1 : Int)) → (r4.fst = (0 : Int)))))) →
 (true = true) ∧
 (if ((r4.fst == (0 : Int)) = true) then
 ((true = true) ∧
 ((((Bytes r4.snd.b) ∧
 (((List.length r4.snd.b) ≤ (2000 : Nat)) ∧
 (((0 : Int) ≤ r4.snd.p) ∧
 (r4.snd.p ≤ (1000000000 : Int))))) ∧
 ((2 : Int) ≤ (1000000000 : Int))) ∧
 (∀ r5 : (Prod Int RdS),
 ((r5.snd = (RdS.mk r4.snd.b (r4.snd.p + (1 : Int)))) ∧ (((0 : Int) ≤ r5.fst) ∧ ((((1 : Int) ≤ (2 : Int)) → (r5.fst < (2 : Int))) ∧ (((2 : Int) < (1 : Int)) → (r5.fst = (0 : Int)))))) →
 (true = true) ∧
 ((((0 : Int) ≤ r5.fst) ∧
 (r5.fst < (2 : Int))) ∧
 ((true = true) ∧
 (K [(Arg.v true [(AC.d (D.i IntKind.i64 (at_i64 ((0 : Int) :: ((5 : Int) :: ([] : (List Int)) : (List Int)) : (List Int)) (Int.toNat r5.fst)))), (AC.d (D.i IntKind.i64 (0 : Int))), (AC.d (D.i IntKind.i64 (0 : Int))), (AC.d (D.b false)), (AC.d (D.b false)), (AC.d (D.i IntKind.i64 (0 : Int))), (AC.d (D.i IntKind.i64 r2.fst.seg)), (AC.d (D.i IntKind.i64 r2.fst.len)), (AC.d (D.r RK.u8 r2.fst.data))])] [[(AC.d (D.r RK.u8 r5.snd.b)), (AC.d (D.i IntKind.i64 r5.snd.p))]]))))))
 else
 (if ((r4.fst == (1 : Int)) = true) then
 ((true = true) ∧
 ((((Bytes r4.snd.b) ∧
 (((List.length r4.snd.b) ≤ (2000 : Nat)) ∧
 (((0 : Int) ≤ r4.snd.p) ∧
 (r4.snd.p ≤ (1000000000 : Int))))) ∧
 ((3 : Int) ≤ (1000000000 : Int))) ∧
 (∀ r5 : (Prod Int RdS),
 ((r5.snd = (RdS.mk r4.snd.b (r4.snd.p + (1 : Int)))) ∧ (((0 : Int) ≤ r5.fst) ∧ ((((1 : Int) ≤ (3 : Int)) → (r5.fst < (3 : Int))) ∧ (((3 : Int) < (1 : Int)) → (r5.fst = (0 : Int)))))) →
 (true = true) ∧
 ((((0 : Int) ≤ r5.fst) ∧
 (r5.fst < (3 : Int))) ∧
 ((true = true) ∧
 (K [(Arg.v true [(AC.d (D.i IntKind.i64 (3 : Int))), (AC.d (D.i IntKind.i64 (at_i64 ((-1 : Int) :: ((8 : Int) :: ((1 : Int) :: ([] : (List Int)) : (List Int)) : (List Int)) : (List Int)) (Int.toNat r5.fst)))), (AC.d (D.i IntKind.i64 (0 : Int))), (AC.d (D.b false)), (AC.d (D.b false)), (AC.d (D.i IntKind.i64 (0 : Int))), (AC.d (D.i IntKind.i64 r2.fst.seg)), (AC.d (D.i IntKind.i64 r2.fst.len)), (AC.d (D.r RK.u8 r2.fst.data))])] [[(AC.d (D.r RK.u8 r5.snd.b)), (AC.d (D.i IntKind.i64 r5.snd.p))]]))))))
 else
 (if ((r4.fst == (2 : Int)) = true) then
 ((true = true) ∧
 ((((Bytes r4.snd.b) ∧
 (((List.length r4.snd.b) ≤ (2000 : Nat)) ∧
 (((0 : Int) ≤ r4.snd.p) ∧
 (r4.snd.p ≤ (1000000000 : Int))))) ∧
 ((3 : Int) ≤ (1000000000 : Int))) ∧
 (∀ r5 : (Prod Int RdS),
 ((r5.snd = (RdS.mk r4.snd.b (r4.snd.p + (1 : Int)))) ∧ (((0 : Int) ≤ r5.fst) ∧ ((((1 : Int) ≤ (3 : Int)) → (r5.fst < (3 : Int))) ∧ (((3 : Int) < (1 : Int)) → (r5.fst = (0 : Int)))))) →
 (true = true) ∧
 ((((0 : Int) ≤ r5.fst) ∧
 (r5.fst < (3 : Int))) ∧
 ((true = true) ∧
 (K [(Arg.v true [(AC.d (D.i IntKind.i64 (3 : Int))), (AC.d (D.i IntKind.i64 (0 : Int))), (AC.d (D.i IntKind.i64 (at_i64 ((-1 : Int) :: ((8 : Int) :: ((1 : Int) :: ([] : (List Int)) : (List Int)) : (List Int)) : (List Int)) (Int.toNat r5.fst)))), (AC.d (D.b false)), (AC.d (D.b false)), (AC.d (D.i IntKind.i64 (0 : Int))), (AC.d (D.i IntKind.i64 r2.fst.seg)), (AC.d (D.i IntKind.i64 r2.fst.len)), (AC.d (D.r RK.u8 r2.fst.data))])] [[(AC.d (D.r RK.u8 r5.snd.b)), (AC.d (D.i IntKind.i64 r5.snd.p))]]))))))
 else
 (if ((r4.fst == (3 : Int)) = true) then
 ((true = true) ∧
 (K [(Arg.v true [(AC.d (D.i IntKind.i64 (3 : Int))), (AC.d (D.i IntKind.i64 (0 : Int))), (AC.d (D.i IntKind.i64 (0 : Int))), (AC.d (D.b true)), (AC.d (D.b true)), (AC.d (D.i IntKind.i64 (0 : Int))), (AC.d (D.i IntKind.i64 r2.fst.seg)), (AC.d (D.i IntKind.i64 r2.fst.len)), (AC.d (D.r RK.u8 r2.fst.data))])] [[(AC.d (D.r RK.u8 r4.snd.b)), (AC.d (D.i IntKind.i64 r4.snd.p))]]))
 else
 (if ((r4.fst == (4 : Int)) = true) then
 ((true = true) ∧
 ((((Bytes r4.snd.b) ∧
 (((List.length r4.snd.b) ≤ (2000 : Nat)) ∧
 (((0 : Int) ≤ r4.snd.p) ∧
 (r4.snd.p ≤ (1000000000 : Int))))) ∧
 ((3 : Int) ≤ (1000000000 : Int))) ∧
 (∀ r5 : (Prod Int RdS),
 ((r5.snd = (RdS.mk r4.snd.b (r4.snd.p + (1 : Int)))) ∧ (((0 : Int) ≤ r5.fst) ∧ ((((1 : Int) ≤ (3 : Int)) → (r5.fst < (3 : Int))) ∧ (((3 : Int) < (1 : Int)) → (r5.fst = (0 : Int)))))) →
 (true = true) ∧
 ((((0 : Int) ≤ r5.fst) ∧
 (r5.fst < (3 : Int))) ∧
 ((true = true) ∧
 (K [(Arg.v true [(AC.d (D.i IntKind.i64 (3 : Int))), (AC.d (D.i IntKind.i64 (0 : Int))), (AC.d (D.i IntKind.i64 (0 : Int))), (AC.d (D.b false)), (AC.d (D.b false)), (AC.d (D.i IntKind.i64 (at_i64 ((-1 : Int) :: ((3 : Int) :: ((1 : Int) :: ([] : (List Int)) : (List Int)) : (List Int)) : (List Int)) (Int.toNat r5.fst)))), (AC.d (D.i IntKind.i64 r2.fst.seg)), (AC.d (D.i IntKind.i64 r2.fst.len)), (AC.d (D.r RK.u8 r2.fst.data))])] [[(AC.d (D.r RK.u8 r5.snd.b)), (AC.d (D.i IntKind.i64 r5.snd.p))]]))))))
 else
 (if ((r4.fst == (5 : Int)) = true) then
 ((true = true) ∧
 ((((Bytes r4.snd.b) ∧
 (((List.length r4.snd.b) ≤ (2000 : Nat)) ∧
 (((0 : Int) ≤ r4.snd.p) ∧
 (r4.snd.p ≤ (1000000000 : Int))))) ∧
 ((4 : Int) ≤ (1000000000 : Int))) ∧
 (∀ r5 : (Prod Int RdS),
 ((r5.snd = (RdS.mk r4.snd.b (r4.snd.p + (1 : Int)))) ∧ (((0 : Int) ≤ r5.fst) ∧ ((((1 : Int) ≤ (4 : Int)) → (r5.fst < (4 : Int))) ∧ (((4 : Int) < (1 : Int)) → (r5.fst = (0 : Int)))))) →
 (true = true) ∧
 ((((0 : Int) ≤ r5.fst) ∧
 (r5.fst < (4 : Int))) ∧
 ((true = true) ∧
 (K [(Arg.v true [(AC.d (D.i IntKind.i64 (3 : Int))), (AC.d (D.i IntKind.i64 (0 : Int))), (AC.d (D.i IntKind.i64 (0 : Int))), (AC.d (D.b false)), (AC.d (D.b false)), (AC.d (D.i IntKind.i64 (0 : Int))), (AC.d (D.i IntKind.i64 r2.fst.seg)), (AC.d (D.i IntKind.i64 (at_i64 ((-1 : Int) :: ((0 : Int) :: ((256 : Int) :: ((30 : Int) :: ([] : (List Int)) : (List Int)) : (List Int)) : (List Int)) : (List Int)) (Int.toNat r5.fst)))), (AC.d (D.r RK.u8 r2.fst.data))])] [[(AC.d (D.r RK.u8 r5.snd.b)), (AC.d (D.i IntKind.i64 r5.snd.p))]]))))))
 else
 (if ((r4.fst == (6 : Int)) = true) then
 ((((List.length r2.fst.data) + (9 : Nat)) ≤ (137438953472 : Nat)) ∧
 ((true = true) ∧
 (K [(Arg.v true [(AC.d (D.i IntKind.i64 (3 : Int))), (AC.d (D.i IntKind.i64 (0 : Int))), (AC.d (D.i IntKind.i64 (0 : Int))), (AC.d (D.b false)), (AC.d (D.b false)), (AC.d (D.i IntKind.i64 (0 : Int))), (AC.d (D.i IntKind.i64 r2.fst.seg)), (AC.d (D.i IntKind.i64 r2.fst.len)), (AC.d (D.r RK.u8 (r2.fst.data ++ ((1 : Int) :: ((2 : Int) :: ((3 : Int) :: ((4 : Int) :: ((5 : Int) :: ((6 : Int) :: ((7 : Int) :: ((8 : Int) :: ((9 : Int) :: ([] : (List Int)) : (List Int)) : (List Int)) : (List Int)) : (List Int)) : (List Int)) : (List Int)) : (List Int)) : (List Int)) : (List Int)) : (List Int))))])] [[(AC.d (D.r RK.u8 r4.snd.b)), (AC.d (D.i IntKind.i64 r4.snd.p))]])))
 else
 ((true = true) ∧
 ((((Bytes r4.snd.b) ∧
 (((List.length r4.snd.b) ≤ (2000 : Nat)) ∧
 (((0 : Int) ≤ r4.snd.p) ∧
 (r4.snd.p ≤ (1000000000 : Int))))) ∧
 ((3 : Int) ≤ (1000000000 : Int))) ∧
 (∀ r5 : (Prod Int RdS),
 ((r5.snd = (RdS.mk r4.snd.b (r4.snd.p + (1 : Int)))) ∧ (((0 : Int) ≤ r5.fst) ∧ ((((1 : Int) ≤ (3 : Int)) → (r5.fst < (3 : Int))) ∧ (((3 : Int) < (1 : Int)) → (r5.fst = (0 : Int)))))) →
 (true = true) ∧
 ((((0 : Int) ≤ r5.fst) ∧
 (r5.fst < (3 : Int))) ∧
 ((true = true) ∧
 (K [(Arg.v true [(AC.d (D.i IntKind.i64 (3 : Int))), (AC.d (D.i IntKind.i64 (0 : Int))), (AC.d (D.i IntKind.i64 (0 : Int))), (AC.d (D.b false)), (AC.d (D.b false)), (AC.d (D.i IntKind.i64 (0 : Int))), (AC.d (D.i IntKind.i64 (at_i64 ((-1 : Int) :: ((4 : Int) :: ((2 : Int) :: ([] : (List Int)) : (List Int)) : (List Int)) : (List Int)) (Int.toNat r5.fst)))), (AC.d (D.i IntKind.i64 r2.fst.len)), (AC.d (D.r RK.u8 r2.fst.data))])] [[(AC.d (D.r RK.u8 r5.snd.b)), (AC.d (D.i IntKind.i64 r5.snd.p))]]))))))))))))))))
 else
 ((true = true) ∧
 (K [(Arg.v true [(AC.d (D.i IntKind.i64 (3 : Int))), (AC.d (D.i IntKind.i64 (0 : Int))), (AC.d (D.i IntKind.i64 (0 : Int))), (AC.d (D.b false)), (AC.d (D.b false)), (AC.d (D.i IntKind.i64 (0 : Int))), (AC.d (D.i IntKind.i64 r2.fst.seg)), (AC.d (D.i IntKind.i64 r2.fst.len)), (AC.d (D.r RK.u8 r2.fst.data))])] [[(AC.d (D.r RK.u8 r3.snd.b)), (AC.d (D.i IntKind.i64 r3.snd.p))]])))))))))
 else
 ((true = true) ∧
 ((((Bytes r1.snd.b) ∧
 (((List.length r1.snd.b) ≤ (2000 : Nat)) ∧
 (((0 : Int) ≤ r1.snd.p) ∧
 (r1.snd.p ≤ (1000000000 : Int))))) ∧
 ((9 : Int) ≤ (1000000000 : Int))) ∧
 (∀ r2 : (Prod Int RdS),
 ((r2.snd = (RdS.mk r1.snd.b (r1.snd.p + (1 : Int)))) ∧ (((0 : Int) ≤ r2.fst) ∧ ((((1 : Int) ≤ (9 : Int)) → (r2.fst < (9 : Int))) ∧ (((9 : Int) < (1 : Int)) → (r2.fst = (0 : Int)))))) →
 (true = true) ∧
 ((true = true) ∧
 ((((Bytes r2.snd.b) ∧
 (((List.length r2.snd.b) ≤ (2000 : Nat)) ∧
 (((0 : Int) ≤ r2.snd.p) ∧
 (r2.snd.p ≤ (1000000000 : Int))))) ∧
 ((2 : Int) ≤ (1000000000 : Int))) ∧
 (∀ r3 : (Prod Int RdS),
 ((r3.snd = (RdS.mk r2.snd.b (r2.snd.p + (1 : Int)))) ∧ (((0 : Int) ≤ r3.fst) ∧ ((((1 : Int) ≤ (2 : Int)) → (r3.fst < (2 : Int))) ∧ (((2 : Int) < (1 : Int)) → (r3.fst = (0 : Int)))))) →
 (true = true) ∧
 ((((0 : Int) ≤ r3.fst) ∧
 (r3.fst < (((List.length ((IntKind.wrap IntKind.i64 ((1 : Int) + r2.fst)) :: ((255 : Int) :: ([] : (List Int)) : (List Int)) : (List Int))) : Nat) : Int))) ∧
 ((true = true) ∧
 ((((Bytes r3.snd.b) ∧
 (((List.length r3.snd.b) ≤ (2000 : Nat)) ∧
 (((0 : Int) ≤ r3.snd.p) ∧
 (r3.snd.p ≤ (900000000 : Int))))) ∧
 (n ≤ (1000000000 : Int))) ∧
 (∀ r4 : (Prod Bool RdS),
 ((r4.snd.b = r3.snd.b) ∧ ((r3.snd.p ≤ r4.snd.p) ∧ (r4.snd.p ≤ (r3.snd.p + (1 : Int))))) →
 (true = true) ∧
 (if (r4.fst = true) then
 ((true = true) ∧
 ((((Bytes r4.snd.b) ∧
 (((List.length r4.snd.b) ≤ (2000 : Nat)) ∧
 (((0 : Int) ≤ r4.snd.p) ∧
 (r4.snd.p ≤ (1000000000 : Int))))) ∧
 ((8 : Int) ≤ (1000000000 : Int))) ∧
 (∀ r5 : (Prod Int RdS),
 ((r5.snd = (RdS.mk r4.snd.b (r4.snd.p + (1 : Int)))) ∧ (((0 : Int) ≤ r5.fst) ∧ ((((1 : Int) ≤ (8 : Int)) → (r5.fst < (8 : Int))) ∧ (((8 : Int) < (1 : Int)) → (r5.fst = (0 : Int)))))) →
 (true = true) ∧
 (if ((r5.fst == (0 : Int)) = true) then
 ((true = true) ∧
 ((((Bytes r5.snd.b) ∧
 (((List.length r5.snd.b) ≤ (2000 : Nat)) ∧
 (((0 : Int) ≤ r5.snd.p) ∧
 (r5.snd.p ≤ (1000000000 : Int))))) ∧
 ((2 : Int) ≤ (1000000000 : Int))) ∧
 (∀ r6 : (Prod Int RdS),
 ((r6.snd = (RdS.mk r5.snd.b (r5.snd.p + (1 : Int)))) ∧ (((0 : Int) ≤ r6.fst) ∧ ((((1 : Int) ≤ (2 : Int)) → (r6.fst < (2 : Int))) ∧ (((2 : Int) < (1 : Int)) → (r6.fst = (0 : Int)))))) →
 (true = true) ∧
 ((((0 : Int) ≤ r6.fst) ∧
 (r6.fst < (2 : Int))) ∧
 ((true = true) ∧
 (K [(Arg.v true [(AC.d (D.i IntKind.i64 (at_i64 ((0 : Int) :: ((5 : Int) :: ([] : (List Int)) : (List Int)) : (List Int)) (Int.toNat r6.fst)))), (AC.d (D.i IntKind.i64 (0 : Int))), (AC.d (D.i IntKind.i64 (0 : Int))), (AC.d (D.b false)), (AC.d (D.b false)), (AC.d (D.i IntKind.i64 (0 : Int))), (AC.d (D.i IntKind.i64 (0 : Int))), (AC.d (D.i IntKind.i64 (at_i64 ((IntKind.wrap IntKind.i64 ((1 : Int) + r2.fst)) :: ((255 : Int) :: ([] : (List Int)) : (List Int)) : (List Int)) (Int.toNat r3.fst)))), (AC.d (D.r RK.u8 ([] : (List Int))))])] [[(AC.d (D.r RK.u8 r6.snd.b)), (AC.d (D.i IntKind.i64 r6.snd.p))]]))))))
 else
 (if ((r5.fst == (1 : Int)) = true) then
 ((true = true) ∧
 ((((Bytes r5.snd.b) ∧
 (((List.length r5.snd.b) ≤ (2000 : Nat)) ∧
 (((0 : Int) ≤ r5.snd.p) ∧
 (r5.snd.p ≤ (1000000000 : Int))))) ∧
 ((3 : Int) ≤ (1000000000 : Int))) ∧
 (∀ r6 : (Prod Int RdS),
 ((r6.snd = (RdS.mk r5.snd.b (r5.snd.p + (1 : Int)))) ∧ (((0 : Int) ≤ r6.fst) ∧ ((((1 : Int) ≤ (3 : Int)) → (r6.fst < (3 : Int))) ∧ (((3 : Int) < (1 : Int)) → (r6.fst = (0 : Int)))))) →
 (true = true) ∧
 ((((0 : Int) ≤ r6.fst) ∧
 (r6.fst < (3 : Int))) ∧
 ((true = true) ∧
 (K [(Arg.v true [(AC.d (D.i IntKind.i64 (IntKind.wrap IntKind.i64 ((1 : Int) + r1.fst)))), (AC.d (D.i IntKind.i64 (at_i64 ((-1 : Int) :: ((8 : Int) :: ((1 : Int) :: ([] : (List Int)) : (List Int)) : (List Int)) : (List Int)) (Int.toNat r6.fst)))), (AC.d (D.i IntKind.i64 (0 : Int))), (AC.d (D.b false)), (AC.d (D.b false)), (AC.d (D.i IntKind.i64 (0 : Int))), (AC.d (D.i IntKind.i64 (0 : Int))), (AC.d (D.i IntKind.i64 (at_i64 ((IntKind.wrap IntKind.i64 ((1 : Int) + r2.fst)) :: ((255 : Int) :: ([] : (List Int)) : (List Int)) : (List Int)) (Int.toNat r3.fst)))), (AC.d (D.r RK.u8 ([] : (List Int))))])] [[(AC.d (D.r RK.u8 r6.snd.b)), (AC.d (D.i IntKind.i64 r6.snd.p))]]))))))
 else
 (if ((r5.fst == (2 : Int)) = true) then
 ((true = true) ∧
 ((((Bytes r5.snd.b) ∧
 (((List.length r5.snd.b) ≤ (2000 : Nat)) ∧
 (((0 : Int) ≤ r5.snd.p) ∧
 (r5.snd.p ≤ (1000000000 : Int))))) ∧
 ((3 : Int) ≤ (1000000000 : Int))) ∧
 (∀ r6 : (Prod Int RdS),
 ((r6.snd = (RdS.mk r5.snd.b (r5.snd.p + (1 : Int)))) ∧ (((0 : Int) ≤ r6.fst) ∧ ((((1 : Int) ≤ (3 : Int)) → (r6.fst < (3 : Int))) ∧ (((3 : Int) < (1 : Int)) → (r6.fst = (0 : Int)))))) →
 (true = true) ∧
 ((((0 : Int) ≤ r6.fst) ∧
 (r6.fst < (3 : Int))) ∧
 ((true = true) ∧
 (K [(Arg.v true [(AC.d (D.i IntKind.i64 (IntKind.wrap IntKind.i64 ((1 : Int) + r1.fst)))), (AC.d (D.i IntKind.i64 (0 : Int))), (AC.d (D.i IntKind.i64 (at_i64 ((-1 : Int) :: ((8 : Int) :: ((1 : Int) :: ([] : (List Int)) : (List Int)) : (List Int)) : (List Int)) (Int.toNat r6.fst)))), (AC.d (D.b false)), (AC.d (D.b false)), (AC.d (D.i IntKind.i64 (0 : Int))), (AC.d (D.i IntKind.i64 (0 : Int))), (AC.d (D.i IntKind.i64 (at_i64 ((IntKind.wrap IntKind.i64 ((1 : Int) + r2.fst)) :: ((255 : Int) :: ([] : (List Int)) : (List Int)) : (List Int)) (Int.toNat r3.fst)))), (AC.d (D.r RK.u8 ([] : (List Int))))])] [[(AC.d (D.r RK.u8 r6.snd.b)), (AC.d (D.i IntKind.i64 r6.snd.p))]]))))))
 else
 (if ((r5.fst == (3 : Int)) = true) then
 ((true = true) ∧
 (K [(Arg.v true [(AC.d (D.i IntKind.i64 (IntKind.wrap IntKind.i64 ((1 : Int) + r1.fst)))), (AC.d (D.i IntKind.i64 (0 : Int))), (AC.d (D.i IntKind.i64 (0 : Int))), (AC.d (D.b true)), (AC.d (D.b true)), (AC.d (D.i IntKind.i64 (0 : Int))), (AC.d (D.i IntKind.i64 (0 : Int))), (AC.d (D.i IntKind.i64 (at_i64 ((IntKind.wrap IntKind.i64 ((1 : Int) + r2.fst)) :: ((255 : Int) :: ([] : (List Int)) : (List Int)) : (List Int)) (Int.toNat r3.fst)))), (AC.d (D.r RK.u8 ([] : (List Int))))])] [[(AC.d (D.r RK.u8 r5.snd.b)), (AC.d (D.i IntKind.i64 r5.snd.p))]]))
 else
 (if ((r5.fst == (4 : Int)) = true) then
 ((true = true) ∧
 ((((Bytes r5.snd.b) ∧
 (((List.length r5.snd.b) ≤ (2000 : Nat)) ∧
 (((0 : Int) ≤ r5.snd.p) ∧
 (r5.snd.p ≤ (1000000000 : Int))))) ∧
 ((3 : Int) ≤ (1000000000 : Int))) ∧
 (∀ r6 : (Prod Int RdS),
 ((r6.snd = (RdS.mk r5.snd.b (r5.snd.p + (1 : Int)))) ∧ (((0 : Int) ≤ r6.fst) ∧ ((((1 : Int) ≤ (3 : Int)) → (r6.fst < (3 : Int))) ∧ (((3 : Int) < (1 : Int)) → (r6.fst = (0 : Int)))))) →
 (true = true) ∧
 ((((0 : Int) ≤ r6.fst) ∧
 (r6.fst < (3 : Int))) ∧
 ((true = true) ∧
 (K [(Arg.v true [(AC.d (D.i IntKind.i64 (IntKind.wrap IntKind.i64 ((1 : Int) + r1.fst)))), (AC.d (D.i IntKind.i64 (0 : Int))), (AC.d (D.i IntKind.i64 (0 : Int))), (AC.d (D.b false)), (AC.d (D.b false)), (AC.d (D.i IntKind.i64 (at_i64 ((-1 : Int) :: ((3 : Int) :: ((1 : Int) :: ([] : (List Int)) : (List Int)) : (List Int)) : (List Int)) (Int.toNat r6.fst)))), (AC.d (D.i IntKind.i64 (0 : Int))), (AC.d (D.i IntKind.i64 (at_i64 ((IntKind.wrap IntKind.i64 ((1 : Int) + r2.fst)) :: ((255 : Int) :: ([] : (List Int)) : (List Int)) : (List Int)) (Int.toNat r3.fst)))), (AC.d (D.r RK.u8 ([] : (List Int))))])] [[(AC.d (D.r RK.u8 r6.snd.b)), (AC.d (D.i IntKind.i64 r6.snd.p))]]))))))
 else
 (if ((r5.fst == (5 : Int)) = true) then
 ((true = true) ∧
 ((((Bytes r5.snd.b) ∧
 (((List.length r5.snd.b) ≤ (2000 : Nat)) ∧
 (((0 : Int) ≤ r5.snd.p) ∧
 (r5.snd.p ≤ (1000000000 : Int))))) ∧
 ((4 : Int) ≤ (1000000000 : Int))) ∧
 (∀ r6 : (Prod Int RdS),
 ((r6.snd = (RdS.mk r5.snd.b (r5.snd.p + (1 : Int)))) ∧ (((0 : Int) ≤ r6.fst) ∧ ((((1 : Int) ≤ (4 : Int)) → (r6.fst < (4 : Int))) ∧ (((4 : Int) < (1 : Int)) → (r6.fst = (0 : Int)))))) →
 (true = true) ∧
 ((((0 : Int) ≤ r6.fst) ∧
 (r6.fst < (4 : Int))) ∧
 ((true = true) ∧
 (K [(Arg.v true [(AC.d (D.i IntKind.i64 (IntKind.wrap IntKind.i64 ((1 : Int) + r1.fst)))), (AC.d (D.i IntKind.i64 (0 : Int))), (AC.d (D.i IntKind.i64 (0 : Int))), (AC.d (D.b false)), (AC.d (D.b false)), (AC.d (D.i IntKind.i64 (0 : Int))), (AC.d (D.i IntKind.i64 (0 : Int))), (AC.d (D.i IntKind.i64 (at_i64 ((-1 : Int) :: ((0 : Int) :: ((256 : Int) :: ((30 : Int) :: ([] : (List Int)) : (List Int)) : (List Int)) : (List Int)) : (List Int)) (Int.toNat r6.fst)))), (AC.d (D.r RK.u8 ([] : (List Int))))])] [[(AC.d (D.r RK.u8 r6.snd.b)), (AC.d (D.i IntKind.i64 r6.snd.p))]]))))))
 else
 (if ((r5.fst == (6 : Int)) = true) then
 (((9 : Nat) ≤ (137438953472 : Nat)) ∧
 ((true = true) ∧
 (K [(Arg.v true [(AC.d (D.i IntKind.i64 (IntKind.wrap IntKind.i64 ((1 : Int) + r1.fst)))), (AC.d (D.i IntKind.i64 (0 : Int))), (AC.d (D.i IntKind.i64 (0 : Int))), (AC.d (D.b false)), (AC.d (D.b false)), (AC.d (D.i IntKind.i64 (0 : Int))), (AC.d (D.i IntKind.i64 (0 : Int))), (AC.d (D.i IntKind.i64 (at_i64 ((IntKind.wrap IntKind.i64 ((1 : Int) + r2.fst)) :: ((255 : Int) :: ([] : (List Int)) : (List Int)) : (List Int)) (Int.toNat r3.fst)))), (AC.d (D.r RK.u8 (([] : (List Int)) ++ ((1 : Int) :: ((2 : Int) :: ((3 : Int) :: ((4 : Int) :: ((5 : Int) :: ((6 : Int) :: ((7 : Int) :: ((8 : Int) :: ((9 : Int) :: ([] : (List Int)) : (List Int)) : (List Int)) : (List Int)) : (List Int)) : (List Int)) : (List Int)) : (List Int)) : (List Int)) : (List Int)) : (List Int))))])] [[(AC.d (D.r RK.u8 r5.snd.b)), (AC.d (D.i IntKind.i64 r5.snd.p))]])))
 else
 ((true = true) ∧
 ((((Bytes r5.snd.b) ∧
 (((List.length r5.snd.b) ≤ (2000 : Nat)) ∧
 (((0 : Int) ≤ r5.snd.p) ∧
 (r5.snd.p ≤ (1000000000 : Int))))) ∧
 ((3 : Int) ≤ (1000000000 : Int))) ∧
 (∀ r6 : (Prod Int RdS),
 ((r6.snd = (RdS.mk r5.snd.b (r5.snd.p + (1 : Int)))) ∧ (((0 : Int) ≤ r6.fst) ∧ ((((1 : Int) ≤ (3 : Int)) → (r6.fst < (3 : Int))) ∧ (((3 : Int) < (1 : Int)) → (r6.fst = (0 : Int)))))) →
 (true = true) ∧
 ((((0 : Int) ≤ r6.fst) ∧
 (r6.fst < (3 : Int))) ∧
 ((true = true) ∧
 (K [(Arg.v true [(AC.d (D.i IntKind.i64 (IntKind.wrap IntKind.i64 ((1 : Int) + r1.fst)))), (AC.d (D.i IntKind.i64 (0 : Int))), (AC.d (D.i IntKind.i64 (0 : Int))), (AC.d (D.b false)), (AC.d (D.b false)), (AC.d (D.i IntKind.i64 (0 : Int))), (AC.d (D.i IntKind.i64 (at_i64 ((-1 : Int) :: ((4 : Int) :: ((2 : Int) :: ([] : (List Int)) : (List Int)) : (List Int)) : (List Int)) (Int.toNat r6.fst)))), (AC.d (D.i IntKind.i64 (at_i64 ((IntKind.wrap IntKind.i64 ((1 : Int) + r2.fst)) :: ((255 : Int) :: ([] : (List Int)) : (List Int)) : (List Int)) (Int.toNat r3.fst)))), (AC.d (D.r RK.u8 ([] : (List Int))))])] [[(AC.d (D.r RK.u8 r6.snd.b)), (AC.d (D.i IntKind.i64 r6.snd.p))]]))))))))))))))))
 else
 ((true = true) ∧
 (K [(Arg.v true [(AC.d (D.i IntKind.i64 (IntKind.wrap IntKind.i64 ((1 : Int) + r1.fst)))), (AC.d (D.i IntKind.i64 (0 : Int))), (AC.d (D.i IntKind.i64 (0 : Int))), (AC.d (D.b false)), (AC.d (D.b false)), (AC.d (D.i IntKind.i64 (0 : Int))), (AC.d (D.i IntKind.i64 (0 : Int))), (AC.d (D.i IntKind.i64 (at_i64 ((IntKind.wrap IntKind.i64 ((1 : Int) + r2.fst)) :: ((255 : Int) :: ([] : (List Int)) : (List Int)) : (List Int)) (Int.toNat r3.fst)))), (AC.d (D.r RK.u8 ([] : (List Int))))])] [[(AC.d (D.r RK.u8 r4.snd.b)), (AC.d (D.i IntKind.i64 r4.snd.p))]])))))))))))))))))) := by
  repeat' first
    | exact rfl
    | exact True.intro
    | with_reducible apply And.intro
    | (with_reducible intro r hr; subst hr)
    | with_reducible intro r
    | (refine iteI (fun h => ?_) (fun h => ?_))
  all_goals try simp (disch := omega) only [wr] at *
  all_goals first
    | assumption
    | omega
    | exact hk ⟨_, _, _, _, _, _, _, _, _⟩ ⟨_, _⟩ (by (try dsimp only); grind [RdOk, RdOn, Bytes.cons, Bytes.nil, Bytes.take, Bytes.append, Bytes.k9])
    | grind [RdOk, RdOn, Bytes.cons, Bytes.nil, Bytes.take, Bytes.append, Bytes.k9]
    | exact hk ⟨_, _, _, _, _, _, _, _, _⟩ ⟨_, _⟩ (by (try dsimp only); refine ⟨?_, ?_, ?_⟩; all_goals first | (grind [RdOk, RdOn, Bytes.cons, Bytes.nil, Bytes.take, Bytes.append, Bytes.k9]; done) | (simp; done) | (simp; omega))
theorem w_spec_l20Frame : Valid Try.prog 45 c_spec_l20Frame :=
  valid_ctr2 (V := V_spec_l20Frame) (tysB_ok tys_ok) ⟨(CallsL.cons w_spec_l20Rd_pick (CallsL.cons w_spec_l20Part (CallsL.cons w_spec_l20Rd_odd (CallsL.nil _)))), (IosL.nil _)⟩ mixed 1 4 Try.func45 rfl (by kernel_rfl)
    (fun c hc => by
      obtain rfl := Option.some.inj hc
      exact ⟨trivial, ⟨trivial, ⟨⟨trivial, ⟨trivial, ⟨⟨trivial, trivial⟩, ⟨trivial, ⟨⟨trivial, ⟨trivial, ⟨trivial, trivial⟩⟩⟩, ⟨trivial, ⟨⟨trivial, trivial⟩, trivial⟩⟩⟩⟩⟩⟩⟩, ⟨⟨trivial, ⟨⟨trivial, ⟨trivial, ⟨trivial, ⟨trivial, ⟨trivial, ⟨trivial, ⟨trivial, ⟨trivial, ⟨⟨trivial, trivial⟩, ⟨trivial, ⟨trivial, ⟨trivial, ⟨trivial, ⟨trivial, ⟨trivial, trivial⟩⟩⟩⟩⟩⟩⟩⟩⟩⟩⟩⟩⟩⟩⟩, trivial⟩⟩, ⟨trivial, trivial⟩⟩⟩⟩⟩)
    (fun x K hp hk => ⟨_, by kernel_rfl, vF_spec_l20Frame x.1 x.2 K hp (fun f q h => hk (f, q) h)⟩)
end Go.Proofs.YtkkokenpehoffaaE
