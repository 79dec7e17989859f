/- A part of the proof of laws of the program: what calls of the program answer. Conditions: none. -/
import Derived.Test.YtjjcjpmfkbfdfaaMadc9149c
set_option linter.unusedVariables false
set_option linter.unusedSimpArgs false
set_option linter.unusedSectionVars false

/- Contracts: N0. Conditions: none. -/
set_option linter.unusedVariables false
set_option maxHeartbeats 1600000
namespace Go.Proofs.YtjjcjpmfkbfdfaaE
open Go
/-! (*spec.l20Rd).odd -/
def c_spec_l20Rd_odd : Ent := ctr (α := (RdS) × (Int)) (ρ := (Bool) × (RdS)) [] [] (rs rRd (rs1 rInt)) (fun x_ => (fun (r : RdS) (n : Int) => (RdOk r 900000000 ∧ n ≤ 1000000000)) x_.1 x_.2) (fun x_ r_ => (fun x_ => (fun (r : RdS) (n : Int) => ((fun r_ => (fun (b : Bool) (q : RdS) => (q.b = r.b ∧ r.p ≤ q.p ∧ q.p ≤ r.p + 1 ∧ (n ≤ 0 → b = false))) r_.1 r_.2))) x_.1 x_.2) x_ r_) (fun r_ => (fun (b : Bool) (q : RdS) => ([rB.to b])) r_.1 r_.2) (fun r_ => (fun (b : Bool) (q : RdS) => ([(rdC q).map .d])) r_.1 r_.2)
def V_spec_l20Rd_odd : Env := ⟨tys, [(14, c_spec_l20Rd_pick)], [], [], [], [], [500007], [], []⟩
end Go.Proofs.YtjjcjpmfkbfdfaaE


/- Calls answer what is promised: N0. Conditions: none. -/
set_option linter.unusedVariables false
set_option maxHeartbeats 1600000
namespace Go.Proofs.YtjjcjpmfkbfdfaaE
open Go
theorem vF_spec_l20Rd_odd (r : RdS) (n : Int) (K : List Arg → List (List AC) → Prop) (hp : RdOk r 900000000 ∧ n ≤ 1000000000) (hk : ∀ (b : Bool) (q : RdS), (q.b = r.b ∧ r.p ≤ q.p ∧ q.p ≤ r.p + 1 ∧ (n ≤ 0 → b = false)) → K ([rB.to b]) ([(rdC q).map .d])) :
if ((decide (n > (0 : Int))) = true) then
   ((true = true) ∧
   ((((Bytes r.b) ∧
      (((List.length r.b) ≤ (2000 : Nat)) ∧
       (((0 : Int) ≤ r.p) ∧
        (r.p ≤ (1000000000 : Int))))) ∧
     (n ≤ (1000000000 : Int))) ∧
    (∀ r1 : (Prod Int RdS),
     ((r1.snd = (RdS.mk r.b (r.p + (1 : Int)))) ∧ (((0 : Int) ≤ r1.fst) ∧ ((((1 : Int) ≤ n) → (r1.fst < n)) ∧ ((n < (1 : Int)) → (r1.fst = (0 : Int)))))) →
     (true = true) ∧
     ((true = true) ∧
      (K [(aB (r1.fst == (IntKind.wrap IntKind.i64 (n - (1 : Int)))))] [[(AC.d (D.r RK.u8 r1.snd.b)), (AC.d (D.i IntKind.i64 r1.snd.p))]])))))
  else
   ((true = true) ∧
   (K [(aB false)] [[(AC.d (D.r RK.u8 r.b)), (AC.d (D.i IntKind.i64 r.p))]])) := by
  repeat' first
    | exact rfl
    | exact True.intro
    | with_reducible apply And.intro
    | (with_reducible intro r hr; subst hr)
    | with_reducible intro r
    | (refine iteI (fun h => ?_) (fun h => ?_))
  all_goals try simp (disch := omega) only [wr] at *
  all_goals first
    | assumption
    | omega
    | exact hk _ ⟨_, _⟩ (by (try dsimp only); grind [RdOk, RdOn, Bytes.cons, Bytes.nil, Bytes.take])
    | grind [RdOk, RdOn, Bytes.cons, Bytes.nil, Bytes.take]
    | exact hk _ ⟨_, _⟩ (by (try dsimp only); refine ⟨?_, ?_, ?_⟩; all_goals first | (grind [RdOk, RdOn, Bytes.cons, Bytes.nil, Bytes.take]; done) | (simp; done) | (simp; omega))
theorem w_spec_l20Rd_odd : Valid Try.prog 15 c_spec_l20Rd_odd :=
  valid_ctr2 (V := V_spec_l20Rd_odd) (tysB_ok tys_ok) ⟨(CallsL.cons w_spec_l20Rd_pick (CallsL.nil _)), (IosL.nil _)⟩ mixed 0 0 Try.func15 rfl (by kernel_rfl)
    (fun c hc => by
      obtain rfl := Option.some.inj hc
      exact ⟨trivial, ⟨trivial, trivial⟩⟩)
    (fun x K hp hk => ⟨_, by kernel_rfl, vF_spec_l20Rd_odd x.1 x.2 K hp (fun b q h => hk (b, q) h)⟩)
end Go.Proofs.YtjjcjpmfkbfdfaaE
