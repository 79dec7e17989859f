/- A part of the proof of laws of the program: what calls of the program answer. Conditions: none. -/
import Derived.Test.YtjladmhjpikdhaaMe8829463
set_option linter.unusedVariables false
set_option linter.unusedSimpArgs false
set_option linter.unusedSectionVars false
/- Contracts: J. Conditions: none. -/
set_option linter.unusedVariables false
set_option maxHeartbeats 1600000
namespace Go.Proofs.YtjladmhjpikdhaaE
open Go
/-! (*spec.l20Rd).odd -/
def c_spec_l20Rd_odd : Ent := ctr (α := (RdS) × (Int)) (ρ := (Bool) × (RdS)) [] [] (rs rRd (rs1 rInt)) (fun x_ => (fun (r : RdS) (n : Int) => (RdOk r 900000000 ∧ n ≤ 1000000000)) x_.1 x_.2) (fun x_ r_ => (fun x_ => (fun (r : RdS) (n : Int) => ((fun r_ => (fun (b : Bool) (q : RdS) => (q.b = r.b ∧ r.p ≤ q.p ∧ q.p ≤ r.p + 1)) r_.1 r_.2))) x_.1 x_.2) x_ r_) (fun r_ => (fun (b : Bool) (q : RdS) => ([rB.to b])) r_.1 r_.2) (fun r_ => (fun (b : Bool) (q : RdS) => ([(rdC q).map .d])) r_.1 r_.2)
def V_spec_l20Rd_odd : Env := ⟨tys, [(67, c_spec_l20Rd_pick)], [], [], [], [], [500007], [], []⟩
/-! spec.l20Join -/
def c_spec_l20Join : Ent := ctr (α := (RdS) × (Int)) (ρ := (JoinS) × (RdS)) [] [] (rs rRd (rs1 rInt)) (fun x_ => (fun (r : RdS) (n : Int) => (RdOk r 50000000 ∧ n ≤ 1000)) x_.1 x_.2) (fun x_ r_ => (fun x_ => (fun (r : RdS) (n : Int) => ((fun r_ => (fun (j : JoinS) (q : RdS) => (Bytes j.got ∧ j.got.length ≤ 1000 ∧ RdOn r q 500)) r_.1 r_.2))) x_.1 x_.2) x_ r_) (fun r_ => (fun (j : JoinS) (q : RdS) => ([rJoin.to j])) r_.1 r_.2) (fun r_ => (fun (j : JoinS) (q : RdS) => ([(rdC q).map .d])) r_.1 r_.2)
def V_spec_l20Join : Env := ⟨tys, [(67, c_spec_l20Rd_pick), (92, c_spec_l20Rd_odd), (98, c_spec_l20Bytes)], [], [(4, 1), (5, 2)], [], [], [], [], []⟩
/-! spec.l20Rx -/
def c_spec_l20Rx : Ent := ctr (α := (RdS) × (Int)) (ρ := (RxS) × (RdS)) [] [] (rs rRd (rs1 rInt)) (fun x_ => (fun (r : RdS) (n : Int) => (RdOk r 40000000 ∧ n ≤ 1000)) x_.1 x_.2) (fun x_ r_ => (fun x_ => (fun (r : RdS) (n : Int) => ((fun r_ => (fun (x : RxS) (q : RdS) => (Bytes x.join.got ∧ x.join.got.length ≤ 1000 ∧ RdOn r q 2000)) r_.1 r_.2))) x_.1 x_.2) x_ r_) (fun r_ => (fun (x : RxS) (q : RdS) => ([rRx.to x])) r_.1 r_.2) (fun r_ => (fun (x : RxS) (q : RdS) => ([(rdC q).map .d])) r_.1 r_.2)
def V_spec_l20Rx : Env := ⟨tys, [(67, c_spec_l20Rd_pick), (91, c_spec_l20Join), (92, c_spec_l20Rd_odd), (93, c_spec_NumNext)], [], [(4, 1), (6, 2)], [(9, ([0], []))], [], [], [], [(9, [(0, false), (1, false), (2, false), (3, false), (4, false), (5, true), (6, false), (7, false), (8, false), (9, true)])]⟩
/-! spec.DrawRxAck -/
def c_spec_DrawRxAck : Ent := ctr (α := (List Int)) (ρ := (RxS)) [] [] (rs1 rBytes) (fun x_ => (fun (l : List Int) => (Bytes l)) x_) (fun x_ r_ => (fun x_ => (fun (l : List Int) => ((fun r_ => (fun (x : RxS) => (Bytes x.join.got ∧ x.join.got.length ≤ 1000)) r_))) x_) x_ r_) (fun r_ => (fun (x : RxS) => ([rRx.to x])) r_) (fun r_ => (fun (x : RxS) => ([])) r_)
def V_spec_DrawRxAck : Env := ⟨tys, [(54, c_spec_l20Rx), (55, c_spec_l20Open)], [], [(2, 0), (4, 1)], [], [], [], [], []⟩
/-! spec.DrawRxBusy -/
def c_spec_DrawRxBusy : Ent := ctr (α := (List Int)) (ρ := (RxS) × (Bool)) [] [] (rs1 rBytes) (fun x_ => (fun (l : List Int) => (Bytes l)) x_) (fun x_ r_ => (fun x_ => (fun (l : List Int) => ((fun r_ => (fun (x : RxS) (b : Bool) => (Bytes x.join.got ∧ x.join.got.length ≤ 1000)) r_.1 r_.2))) x_) x_ r_) (fun r_ => (fun (x : RxS) (b : Bool) => ([rRx.to x, rB.to b])) r_.1 r_.2) (fun r_ => (fun (x : RxS) (b : Bool) => ([])) r_.1 r_.2)
def V_spec_DrawRxBusy : Env := ⟨tys, [(54, c_spec_l20Rx), (55, c_spec_l20Open), (67, c_spec_l20Rd_pick)], [], [(2, 0), (6, 1)], [], [], [], [], []⟩
end Go.Proofs.YtjladmhjpikdhaaE

/- Calls answer what is promised: J. Conditions: none. -/
set_option linter.unusedVariables false
set_option maxHeartbeats 1600000
namespace Go.Proofs.YtjladmhjpikdhaaE
open Go
theorem vF_spec_l20Rd_odd (r:RdS) (n:Int) (K:List Arg→List (List AC)→Prop) (hp:RdOk r 900000000∧n≤1000000000) (hk:∀ (b:Bool) (q:RdS),(q.b=r.b∧r.p≤q.p∧q.p≤r.p + 1)→K ([rB.to b]) ([(rdC q).map .d])):if ((decide (n > (0:Int)))=true) then ((true=true)∧((((Bytes r.b)∧(((List.length r.b)≤(2000:Nat))∧(((0:Int)≤r.p)∧(r.p≤(1000000000:Int)))))∧(n≤(1000000000:Int)))∧(∀ r1:(Prod Int RdS),((r1.snd=(RdS.mk r.b (r.p + (1:Int))))∧(((0:Int)≤r1.fst)∧((((1:Int)≤n)→(r1.fst < n))∧((n < (1:Int))→(r1.fst=(0:Int))))))→(true=true)∧((true=true)∧(K [(aB (r1.fst == (IntKind.wrap IntKind.i64 (n - (1:Int)))))] [[(AC.d (D.r RK.u8 r1.snd.b)),(AC.d (D.i IntKind.i64 r1.snd.p))]]))))) else ((true=true)∧(K [(aB false)] [[(AC.d (D.r RK.u8 r.b)),(AC.d (D.i IntKind.i64 r.p))]])) := by
  repeat' first
    | exact rfl
    | trivial
    | apply And.intro
    | (show Bytes _; grind [RdOk, RdOn, Bytes.cons, Bytes.nil, Bytes.take])
    | (intro r hr; subst hr)
    | intro r
    | exact hp
    | (refine iteI (fun h => ?_) (fun h => ?_))
  all_goals try simp (disch := omega) only [wr] at *
  all_goals first
    | omega
    | exact hk _ ⟨_, _⟩ (by (try dsimp only); grind [RdOk, RdOn, Bytes.cons, Bytes.nil, Bytes.take])
    | grind [RdOk, RdOn, Bytes.cons, Bytes.nil, Bytes.take]
theorem w_spec_l20Rd_odd : Valid Try.prog 92 c_spec_l20Rd_odd :=
  valid_ctr2 (V := V_spec_l20Rd_odd) (tysB_ok tys_ok) ⟨(CallsL.cons w_spec_l20Rd_pick (CallsL.nil _)), (IosL.nil _)⟩ mixed 0 0 Try.func92 rfl (by kernel_rfl)
    (fun c hc => by
      obtain rfl := Option.some.inj hc
      exact ⟨trivial, ⟨trivial, trivial⟩⟩)
    (fun x K hp hk => ⟨_, by kernel_rfl, vF_spec_l20Rd_odd x.1 x.2 K hp (fun b q h => hk (b, q) h)⟩)
theorem vF_spec_l20Join (r:RdS) (n:Int) (K:List Arg→List (List AC)→Prop) (hp:RdOk r 50000000∧n≤1000) (hk:∀ (j:JoinS) (q:RdS),(Bytes j.got∧j.got.length≤1000∧RdOn r q 500)→K ([rJoin.to j]) ([(rdC q).map .d])):(true=true)∧((((Bytes r.b)∧(((List.length r.b)≤(2000:Nat))∧(((0:Int)≤r.p)∧(r.p≤(1000000000:Int)))))∧((2:Int)≤(1000000000:Int)))∧(∀ r1:(Prod Int RdS),((r1.snd=(RdS.mk r.b (r.p + (1:Int))))∧(((0:Int)≤r1.fst)∧((((1:Int)≤(2:Int))→(r1.fst < (2:Int)))∧(((2:Int) < (1:Int))→(r1.fst=(0:Int))))))→(true=true)∧(if ((r1.fst == (0:Int))=true) then ((true=true)∧((((Bytes r1.snd.b)∧(((List.length r1.snd.b)≤(2000:Nat))∧(((0:Int)≤r1.snd.p)∧(r1.snd.p≤(1000000000:Int)))))∧((23:Int)≤(1000000000:Int)))∧(∀ r2:(Prod Int RdS),((r2.snd=(RdS.mk r1.snd.b (r1.snd.p + (1:Int))))∧(((0:Int)≤r2.fst)∧((((1:Int)≤(23:Int))→(r2.fst < (23:Int)))∧(((23:Int) < (1:Int))→(r2.fst=(0:Int))))))→(true=true)∧((true=true)∧((((Bytes r2.snd.b)∧(((List.length r2.snd.b)≤(2000:Nat))∧(((0:Int)≤r2.snd.p)∧(r2.snd.p≤(100000000:Int)))))∧(((0:Int)≤(IntKind.wrap IntKind.i64 ((IntKind.wrap IntKind.i64 ((2:Int) + r2.fst)) - (1:Int))))∧((IntKind.wrap IntKind.i64 ((IntKind.wrap IntKind.i64 ((2:Int) + r2.fst)) - (1:Int)))≤(900:Int))))∧(∀ r3:(Prod (List Int) RdS),((Bytes r3.fst)∧(((((List.length r3.fst):Nat):Int)≤(IntKind.wrap IntKind.i64 ((IntKind.wrap IntKind.i64 ((2:Int) + r2.fst)) - (1:Int))))∧(RdOn r2.snd r3.snd ((1:Int) + ((3:Int) * (IntKind.wrap IntKind.i64 ((IntKind.wrap IntKind.i64 ((2:Int) + r2.fst)) - (1:Int))))))))→(true=true)∧(if (((((List.length r3.fst):Nat):Int) == (0:Int))=true) then ((true=true)∧((((Bytes r3.snd.b)∧(((List.length r3.snd.b)≤(2000:Nat))∧(((0:Int)≤r3.snd.p)∧(r3.snd.p≤(900000000:Int)))))∧(n≤(1000000000:Int)))∧(∀ r4:(Prod Bool RdS),((r4.snd.b=r3.snd.b)∧((r3.snd.p≤r4.snd.p)∧(r4.snd.p≤(r3.snd.p + (1:Int)))))→(true=true)∧(if (r4.fst=true) then ((true=true)∧((((Bytes r4.snd.b)∧(((List.length r4.snd.b)≤(2000:Nat))∧(((0:Int)≤r4.snd.p)∧(r4.snd.p≤(1000000000:Int)))))∧((3:Int)≤(1000000000:Int)))∧(∀ r5:(Prod Int RdS),((r5.snd=(RdS.mk r4.snd.b (r4.snd.p + (1:Int))))∧(((0:Int)≤r5.fst)∧((((1:Int)≤(3:Int))→(r5.fst < (3:Int)))∧(((3:Int) < (1:Int))→(r5.fst=(0:Int))))))→(true=true)∧(if ((r5.fst == (0:Int))=true) then ((true=true)∧((((Bytes r5.snd.b)∧(((List.length r5.snd.b)≤(2000:Nat))∧(((0:Int)≤r5.snd.p)∧(r5.snd.p≤(1000000000:Int)))))∧((3:Int)≤(1000000000:Int)))∧(∀ r6:(Prod Int RdS),((r6.snd=(RdS.mk r5.snd.b (r5.snd.p + (1:Int))))∧(((0:Int)≤r6.fst)∧((((1:Int)≤(3:Int))→(r6.fst < (3:Int)))∧(((3:Int) < (1:Int))→(r6.fst=(0:Int))))))→(true=true)∧((((0:Int)≤r6.fst)∧(r6.fst < (3:Int)))∧((true=true)∧(K [(Arg.v true [(AC.d (D.i IntKind.i64 (at_i64 ((-1:Int) :: ((1:Int) :: ((25:Int) :: ([]:(List Int)):(List Int)):(List Int)):(List Int)) (Int.toNat r6.fst)))),(AC.d (D.r RK.u8 ((1:Int) :: ([]:(List Int)):(List Int))))])] [[(AC.d (D.r RK.u8 r6.snd.b)),(AC.d (D.i IntKind.i64 r6.snd.p))]])))))) else (if ((r5.fst == (1:Int))=true) then ((true=true)∧(K [(Arg.v true [(AC.d (D.i IntKind.i64 (IntKind.wrap IntKind.i64 ((2:Int) + r2.fst)))),(AC.d (D.r RK.u8 ([]:(List Int))))])] [[(AC.d (D.r RK.u8 r5.snd.b)),(AC.d (D.i IntKind.i64 r5.snd.p))]])) else ((true=true)∧((((Bytes r5.snd.b)∧(((List.length r5.snd.b)≤(2000:Nat))∧(((0:Int)≤r5.snd.p)∧(r5.snd.p≤(100000000:Int)))))∧(((0:Int)≤(25:Int))∧((25:Int)≤(900:Int))))∧(∀ r6:(Prod (List Int) RdS),((Bytes r6.fst)∧(((((List.length r6.fst):Nat):Int)≤(25:Int))∧(RdOn r5.snd r6.snd ((1:Int) + ((3:Int) * (25:Int))))))→(true=true)∧((true=true)∧(K [(Arg.v true [(AC.d (D.i IntKind.i64 (IntKind.wrap IntKind.i64 ((2:Int) + r2.fst)))),(AC.d (D.r RK.u8 r6.fst))])] [[(AC.d (D.r RK.u8 r6.snd.b)),(AC.d (D.i IntKind.i64 r6.snd.p))]])))))))))) else ((true=true)∧(K [(Arg.v true [(AC.d (D.i IntKind.i64 (IntKind.wrap IntKind.i64 ((2:Int) + r2.fst)))),(AC.d (D.r RK.u8 ((1:Int) :: ([]:(List Int)):(List Int))))])] [[(AC.d (D.r RK.u8 r4.snd.b)),(AC.d (D.i IntKind.i64 r4.snd.p))]])))))) else ((true=true)∧((((Bytes r3.snd.b)∧(((List.length r3.snd.b)≤(2000:Nat))∧(((0:Int)≤r3.snd.p)∧(r3.snd.p≤(900000000:Int)))))∧(n≤(1000000000:Int)))∧(∀ r4:(Prod Bool RdS),((r4.snd.b=r3.snd.b)∧((r3.snd.p≤r4.snd.p)∧(r4.snd.p≤(r3.snd.p + (1:Int)))))→(true=true)∧(if (r4.fst=true) then ((true=true)∧((((Bytes r4.snd.b)∧(((List.length r4.snd.b)≤(2000:Nat))∧(((0:Int)≤r4.snd.p)∧(r4.snd.p≤(1000000000:Int)))))∧((3:Int)≤(1000000000:Int)))∧(∀ r5:(Prod Int RdS),((r5.snd=(RdS.mk r4.snd.b (r4.snd.p + (1:Int))))∧(((0:Int)≤r5.fst)∧((((1:Int)≤(3:Int))→(r5.fst < (3:Int)))∧(((3:Int) < (1:Int))→(r5.fst=(0:Int))))))→(true=true)∧(if ((r5.fst == (0:Int))=true) then ((true=true)∧((((Bytes r5.snd.b)∧(((List.length r5.snd.b)≤(2000:Nat))∧(((0:Int)≤r5.snd.p)∧(r5.snd.p≤(1000000000:Int)))))∧((3:Int)≤(1000000000:Int)))∧(∀ r6:(Prod Int RdS),((r6.snd=(RdS.mk r5.snd.b (r5.snd.p + (1:Int))))∧(((0:Int)≤r6.fst)∧((((1:Int)≤(3:Int))→(r6.fst < (3:Int)))∧(((3:Int) < (1:Int))→(r6.fst=(0:Int))))))→(true=true)∧((((0:Int)≤r6.fst)∧(r6.fst < (3:Int)))∧((true=true)∧(K [(Arg.v true [(AC.d (D.i IntKind.i64 (at_i64 ((-1:Int) :: ((1:Int) :: ((25:Int) :: ([]:(List Int)):(List Int)):(List Int)):(List Int)) (Int.toNat r6.fst)))),(AC.d (D.r RK.u8 r3.fst))])] [[(AC.d (D.r RK.u8 r6.snd.b)),(AC.d (D.i IntKind.i64 r6.snd.p))]])))))) else (if ((r5.fst == (1:Int))=true) then ((true=true)∧(K [(Arg.v true [(AC.d (D.i IntKind.i64 (IntKind.wrap IntKind.i64 ((2:Int) + r2.fst)))),(AC.d (D.r RK.u8 ([]:(List Int))))])] [[(AC.d (D.r RK.u8 r5.snd.b)),(AC.d (D.i IntKind.i64 r5.snd.p))]])) else ((true=true)∧((((Bytes r5.snd.b)∧(((List.length r5.snd.b)≤(2000:Nat))∧(((0:Int)≤r5.snd.p)∧(r5.snd.p≤(100000000:Int)))))∧(((0:Int)≤(25:Int))∧((25:Int)≤(900:Int))))∧(∀ r6:(Prod (List Int) RdS),((Bytes r6.fst)∧(((((List.length r6.fst):Nat):Int)≤(25:Int))∧(RdOn r5.snd r6.snd ((1:Int) + ((3:Int) * (25:Int))))))→(true=true)∧((true=true)∧(K [(Arg.v true [(AC.d (D.i IntKind.i64 (IntKind.wrap IntKind.i64 ((2:Int) + r2.fst)))),(AC.d (D.r RK.u8 r6.fst))])] [[(AC.d (D.r RK.u8 r6.snd.b)),(AC.d (D.i IntKind.i64 r6.snd.p))]])))))))))) else ((true=true)∧(K [(Arg.v true [(AC.d (D.i IntKind.i64 (IntKind.wrap IntKind.i64 ((2:Int) + r2.fst)))),(AC.d (D.r RK.u8 r3.fst))])] [[(AC.d (D.r RK.u8 r4.snd.b)),(AC.d (D.i IntKind.i64 r4.snd.p))]]))))))))))))) else ((true=true)∧((((Bytes r1.snd.b)∧(((List.length r1.snd.b)≤(2000:Nat))∧(((0:Int)≤r1.snd.p)∧(r1.snd.p≤(900000000:Int)))))∧(n≤(1000000000:Int)))∧(∀ r2:(Prod Bool RdS),((r2.snd.b=r1.snd.b)∧((r1.snd.p≤r2.snd.p)∧(r2.snd.p≤(r1.snd.p + (1:Int)))))→(true=true)∧(if (r2.fst=true) then ((true=true)∧((((Bytes r2.snd.b)∧(((List.length r2.snd.b)≤(2000:Nat))∧(((0:Int)≤r2.snd.p)∧(r2.snd.p≤(1000000000:Int)))))∧((3:Int)≤(1000000000:Int)))∧(∀ r3:(Prod Int RdS),((r3.snd=(RdS.mk r2.snd.b (r2.snd.p + (1:Int))))∧(((0:Int)≤r3.fst)∧((((1:Int)≤(3:Int))→(r3.fst < (3:Int)))∧(((3:Int) < (1:Int))→(r3.fst=(0:Int))))))→(true=true)∧(if ((r3.fst == (0:Int))=true) then ((true=true)∧((((Bytes r3.snd.b)∧(((List.length r3.snd.b)≤(2000:Nat))∧(((0:Int)≤r3.snd.p)∧(r3.snd.p≤(1000000000:Int)))))∧((3:Int)≤(1000000000:Int)))∧(∀ r4:(Prod Int RdS),((r4.snd=(RdS.mk r3.snd.b (r3.snd.p + (1:Int))))∧(((0:Int)≤r4.fst)∧((((1:Int)≤(3:Int))→(r4.fst < (3:Int)))∧(((3:Int) < (1:Int))→(r4.fst=(0:Int))))))→(true=true)∧((((0:Int)≤r4.fst)∧(r4.fst < (3:Int)))∧((true=true)∧(K [(Arg.v true [(AC.d (D.i IntKind.i64 (at_i64 ((-1:Int) :: ((1:Int) :: ((25:Int) :: ([]:(List Int)):(List Int)):(List Int)):(List Int)) (Int.toNat r4.fst)))),(AC.d (D.r RK.u8 ([]:(List Int))))])] [[(AC.d (D.r RK.u8 r4.snd.b)),(AC.d (D.i IntKind.i64 r4.snd.p))]])))))) else (if ((r3.fst == (1:Int))=true) then ((true=true)∧(K [(Arg.v true [(AC.d (D.i IntKind.i64 (0:Int))),(AC.d (D.r RK.u8 ([]:(List Int))))])] [[(AC.d (D.r RK.u8 r3.snd.b)),(AC.d (D.i IntKind.i64 r3.snd.p))]])) else ((true=true)∧((((Bytes r3.snd.b)∧(((List.length r3.snd.b)≤(2000:Nat))∧(((0:Int)≤r3.snd.p)∧(r3.snd.p≤(100000000:Int)))))∧(((0:Int)≤(25:Int))∧((25:Int)≤(900:Int))))∧(∀ r4:(Prod (List Int) RdS),((Bytes r4.fst)∧(((((List.length r4.fst):Nat):Int)≤(25:Int))∧(RdOn r3.snd r4.snd ((1:Int) + ((3:Int) * (25:Int))))))→(true=true)∧((true=true)∧(K [(Arg.v true [(AC.d (D.i IntKind.i64 (0:Int))),(AC.d (D.r RK.u8 r4.fst))])] [[(AC.d (D.r RK.u8 r4.snd.b)),(AC.d (D.i IntKind.i64 r4.snd.p))]])))))))))) else ((true=true)∧(K [(Arg.v true [(AC.d (D.i IntKind.i64 (0:Int))),(AC.d (D.r RK.u8 ([]:(List Int))))])] [[(AC.d (D.r RK.u8 r2.snd.b)),(AC.d (D.i IntKind.i64 r2.snd.p))]]))))))))) := by
  repeat' first
    | exact rfl
    | trivial
    | apply And.intro
    | (show Bytes _; grind [RdOk, RdOn, Bytes.cons, Bytes.nil, Bytes.take])
    | (intro r hr; subst hr)
    | intro r
    | exact hp
    | (refine iteI (fun h => ?_) (fun h => ?_))
  all_goals try simp (disch := omega) only [wr] at *
  all_goals first
    | omega
    | exact hk ⟨_, _⟩ ⟨_, _⟩ (by (try dsimp only); grind [RdOk, RdOn, Bytes.cons, Bytes.nil, Bytes.take])
    | grind [RdOk, RdOn, Bytes.cons, Bytes.nil, Bytes.take]
theorem w_spec_l20Join : Valid Try.prog 91 c_spec_l20Join :=
  valid_ctr2 (V := V_spec_l20Join) (tysB_ok tys_ok) ⟨(CallsL.cons w_spec_l20Rd_pick (CallsL.cons w_spec_l20Rd_odd (CallsL.cons w_spec_l20Bytes (CallsL.nil _)))), (IosL.nil _)⟩ mixed 0 2 Try.func91 rfl (by kernel_rfl)
    (fun c hc => by
      obtain rfl := Option.some.inj hc
      exact ⟨trivial, ⟨trivial, ⟨⟨trivial, ⟨⟨trivial, ⟨trivial, ⟨⟨trivial, ⟨trivial, trivial⟩⟩, trivial⟩⟩⟩, trivial⟩⟩, ⟨⟨trivial, ⟨⟨trivial, ⟨trivial, ⟨trivial, ⟨trivial, ⟨trivial, trivial⟩⟩⟩⟩⟩, trivial⟩⟩, ⟨trivial, trivial⟩⟩⟩⟩⟩)
    (fun x K hp hk => ⟨_, by kernel_rfl, vF_spec_l20Join x.1 x.2 K hp (fun j q h => hk (j, q) h)⟩)
theorem vF_spec_l20Rx (r:RdS) (n:Int) (K:List Arg→List (List AC)→Prop) (hp:RdOk r 40000000∧n≤1000) (hk:∀ (x:RxS) (q:RdS),(Bytes x.join.got∧x.join.got.length≤1000∧RdOn r q 2000)→K ([rRx.to x]) ([(rdC q).map .d])):(true=true)∧((((Bytes r.b)∧(((List.length r.b)≤(2000:Nat))∧(((0:Int)≤r.p)∧(r.p≤(1000000000:Int)))))∧((40:Int)≤(1000000000:Int)))∧(∀ r1:(Prod Int RdS),((r1.snd=(RdS.mk r.b (r.p + (1:Int))))∧(((0:Int)≤r1.fst)∧((((1:Int)≤(40:Int))→(r1.fst < (40:Int)))∧(((40:Int) < (1:Int))→(r1.fst=(0:Int))))))→(true=true)∧(((8:Int) ≠ (0:Int))∧((true=true)∧((((Bytes r1.snd.b)∧(((List.length r1.snd.b)≤(2000:Nat))∧(((0:Int)≤r1.snd.p)∧(r1.snd.p≤(50000000:Int)))))∧((0:Int)≤(1000:Int)))∧(∀ r2:(Prod JoinS RdS),((Bytes r2.fst.got)∧(((List.length r2.fst.got)≤(1000:Nat))∧(RdOn r1.snd r2.snd (500:Int))))→(true=true)∧((true=true)∧((((Bytes r2.snd.b)∧(((List.length r2.snd.b)≤(2000:Nat))∧(((0:Int)≤r2.snd.p)∧(r2.snd.p≤(1000000000:Int)))))∧((3:Int)≤(1000000000:Int)))∧(∀ r3:(Prod Int RdS),((r3.snd=(RdS.mk r2.snd.b (r2.snd.p + (1:Int))))∧(((0:Int)≤r3.fst)∧((((1:Int)≤(3:Int))→(r3.fst < (3:Int)))∧(((3:Int) < (1:Int))→(r3.fst=(0:Int))))))→(true=true)∧((true=true)∧((((Bytes r3.snd.b)∧(((List.length r3.snd.b)≤(2000:Nat))∧(((0:Int)≤r3.snd.p)∧(r3.snd.p≤(1000000000:Int)))))∧((4:Int)≤(1000000000:Int)))∧(∀ r4:(Prod Int RdS),((r4.snd=(RdS.mk r3.snd.b (r3.snd.p + (1:Int))))∧(((0:Int)≤r4.fst)∧((((1:Int)≤(4:Int))→(r4.fst < (4:Int)))∧(((4:Int) < (1:Int))→(r4.fst=(0:Int))))))→(true=true)∧((true=true)∧((((Bytes r4.snd.b)∧(((List.length r4.snd.b)≤(2000:Nat))∧(((0:Int)≤r4.snd.p)∧(r4.snd.p≤(1000000000:Int)))))∧((12:Int)≤(1000000000:Int)))∧(∀ r5:(Prod Int RdS),((r5.snd=(RdS.mk r4.snd.b (r4.snd.p + (1:Int))))∧(((0:Int)≤r5.fst)∧((((1:Int)≤(12:Int))→(r5.fst < (12:Int)))∧(((12:Int) < (1:Int))→(r5.fst=(0:Int))))))→(true=true)∧((true=true)∧((((Bytes r5.snd.b)∧(((List.length r5.snd.b)≤(2000:Nat))∧(((0:Int)≤r5.snd.p)∧(r5.snd.p≤(900000000:Int)))))∧(n≤(1000000000:Int)))∧(∀ r6:(Prod Bool RdS),((r6.snd.b=r5.snd.b)∧((r5.snd.p≤r6.snd.p)∧(r6.snd.p≤(r5.snd.p + (1:Int)))))→(true=true)∧(if (r6.fst=true) then ((true=true)∧((((Bytes r6.snd.b)∧(((List.length r6.snd.b)≤(2000:Nat))∧(((0:Int)≤r6.snd.p)∧(r6.snd.p≤(1000000000:Int)))))∧((3:Int)≤(1000000000:Int)))∧(∀ r7:(Prod Int RdS),((r7.snd=(RdS.mk r6.snd.b (r6.snd.p + (1:Int))))∧(((0:Int)≤r7.fst)∧((((1:Int)≤(3:Int))→(r7.fst < (3:Int)))∧(((3:Int) < (1:Int))→(r7.fst=(0:Int))))))→(true=true)∧(if ((r7.fst == (0:Int))=true) then ((true=true)∧((((0:Int)≤(Int.tmod r1.fst (8:Int)))∧((Int.tmod r1.fst (8:Int))≤(100000:Int)))∧(∀ r8:Int,(r8=(((Int.tmod r1.fst (8:Int)) + (1:Int)) % (8:Int)))→(true=true)∧((true=true)∧((((Bytes r7.snd.b)∧(((List.length r7.snd.b)≤(2000:Nat))∧(((0:Int)≤r7.snd.p)∧(r7.snd.p≤(1000000000:Int)))))∧((3:Int)≤(1000000000:Int)))∧(∀ r9:(Prod Int RdS),((r9.snd=(RdS.mk r7.snd.b (r7.snd.p + (1:Int))))∧(((0:Int)≤r9.fst)∧((((1:Int)≤(3:Int))→(r9.fst < (3:Int)))∧(((3:Int) < (1:Int))→(r9.fst=(0:Int))))))→(true=true)∧((((0:Int)≤r9.fst)∧(r9.fst < (((List.length ((-1:Int) :: ((8:Int) :: (r8 :: ([]:(List Int)):(List Int)):(List Int)):(List Int))):Nat):Int)))∧((true=true)∧(K [(Arg.v true [(AC.d (D.i IntKind.i64 (at_i64 ((-1:Int) :: ((8:Int) :: (r8 :: ([]:(List Int)):(List Int)):(List Int)):(List Int)) (Int.toNat r9.fst)))),(AC.d (D.i IntKind.i64 r1.fst)),(AC.d (D.i IntKind.i64 r2.fst.len)),(AC.d (D.r RK.u8 r2.fst.got)),(AC.d (D.b (r3.fst == (0:Int)))),(AC.d (D.b (r4.fst == (0:Int)))),(AC.d (D.b (r5.fst == (0:Int))))])] [[(AC.d (D.r RK.u8 r9.snd.b)),(AC.d (D.i IntKind.i64 r9.snd.p))]]))))))))) else (if ((r7.fst == (1:Int))=true) then ((true=true)∧((((Bytes r7.snd.b)∧(((List.length r7.snd.b)≤(2000:Nat))∧(((0:Int)≤r7.snd.p)∧(r7.snd.p≤(1000000000:Int)))))∧((3:Int)≤(1000000000:Int)))∧(∀ r8:(Prod Int RdS),((r8.snd=(RdS.mk r7.snd.b (r7.snd.p + (1:Int))))∧(((0:Int)≤r8.fst)∧((((1:Int)≤(3:Int))→(r8.fst < (3:Int)))∧(((3:Int) < (1:Int))→(r8.fst=(0:Int))))))→(true=true)∧((true=true)∧((((0:Int)≤r8.fst)∧(r8.fst < (((List.length ((-1:Int) :: ((10000:Int) :: ((IntKind.wrap IntKind.i64 (r1.fst + (8:Int))) :: ([]:(List Int)):(List Int)):(List Int)):(List Int))):Nat):Int)))∧((true=true)∧((true=true)∧(K [(Arg.v true [(AC.d (D.i IntKind.i64 (Int.tmod r1.fst (8:Int)))),(AC.d (D.i IntKind.i64 (at_i64 ((-1:Int) :: ((10000:Int) :: ((IntKind.wrap IntKind.i64 (r1.fst + (8:Int))) :: ([]:(List Int)):(List Int)):(List Int)):(List Int)) (Int.toNat r8.fst)))),(AC.d (D.i IntKind.i64 r2.fst.len)),(AC.d (D.r RK.u8 r2.fst.got)),(AC.d (D.b (r3.fst == (0:Int)))),(AC.d (D.b (r4.fst == (0:Int)))),(AC.d (D.b (r5.fst == (0:Int))))])] [[(AC.d (D.r RK.u8 r8.snd.b)),(AC.d (D.i IntKind.i64 r8.snd.p))]])))))))) else ((true=true)∧((((Bytes r7.snd.b)∧(((List.length r7.snd.b)≤(2000:Nat))∧(((0:Int)≤r7.snd.p)∧(r7.snd.p≤(50000000:Int)))))∧((1:Int)≤(1000:Int)))∧(∀ r8:(Prod JoinS RdS),((Bytes r8.fst.got)∧(((List.length r8.fst.got)≤(1000:Nat))∧(RdOn r7.snd r8.snd (500:Int))))→(true=true)∧((true=true)∧(K [(Arg.v true [(AC.d (D.i IntKind.i64 (Int.tmod r1.fst (8:Int)))),(AC.d (D.i IntKind.i64 r1.fst)),(AC.d (D.i IntKind.i64 r8.fst.len)),(AC.d (D.r RK.u8 r8.fst.got)),(AC.d (D.b (r3.fst == (0:Int)))),(AC.d (D.b (r4.fst == (0:Int)))),(AC.d (D.b (r5.fst == (0:Int))))])] [[(AC.d (D.r RK.u8 r8.snd.b)),(AC.d (D.i IntKind.i64 r8.snd.p))]])))))))))) else ((true=true)∧(K [(Arg.v true [(AC.d (D.i IntKind.i64 (Int.tmod r1.fst (8:Int)))),(AC.d (D.i IntKind.i64 r1.fst)),(AC.d (D.i IntKind.i64 r2.fst.len)),(AC.d (D.r RK.u8 r2.fst.got)),(AC.d (D.b (r3.fst == (0:Int)))),(AC.d (D.b (r4.fst == (0:Int)))),(AC.d (D.b (r5.fst == (0:Int))))])] [[(AC.d (D.r RK.u8 r6.snd.b)),(AC.d (D.i IntKind.i64 r6.snd.p))]]))))))))))))))))))))) := by
  repeat' first
    | exact rfl
    | trivial
    | apply And.intro
    | (show Bytes _; grind [RdOk, RdOn, Bytes.cons, Bytes.nil, Bytes.take])
    | (intro r hr; subst hr)
    | intro r
    | exact hp
    | (refine iteI (fun h => ?_) (fun h => ?_))
  all_goals try simp (disch := omega) only [wr] at *
  all_goals first
    | omega
    | exact hk ⟨_, _, ⟨_, _⟩, _, _, _⟩ ⟨_, _⟩ (by (try dsimp only); grind [RdOk, RdOn, Bytes.cons, Bytes.nil, Bytes.take])
    | grind [RdOk, RdOn, Bytes.cons, Bytes.nil, Bytes.take]
theorem w_spec_l20Rx : Valid Try.prog 54 c_spec_l20Rx :=
  valid_ctr2 (V := V_spec_l20Rx) (tysB_ok tys_ok) ⟨(CallsL.cons w_spec_l20Rd_pick (CallsL.cons w_spec_l20Join (CallsL.cons w_spec_l20Rd_odd (CallsL.cons w_spec_NumNext (CallsL.nil _))))), (IosL.nil _)⟩ mixed 0 2 Try.func54 rfl (by kernel_rfl)
    (fun c hc => by
      obtain rfl := Option.some.inj hc
      exact ⟨trivial, ⟨trivial, ⟨trivial, ⟨⟨trivial, ⟨⟨trivial, ⟨trivial, ⟨trivial, ⟨trivial, ⟨trivial, trivial⟩⟩⟩⟩⟩, trivial⟩⟩, ⟨trivial, trivial⟩⟩⟩⟩⟩)
    (fun x K hp hk => ⟨_, by kernel_rfl, vF_spec_l20Rx x.1 x.2 K hp (fun x q h => hk (x, q) h)⟩)
theorem vF_spec_DrawRxAck (l:List Int) (K:List Arg→List (List AC)→Prop) (hp:Bytes l) (hk:∀ (x:RxS),(Bytes x.join.got∧x.join.got.length≤1000)→K ([rRx.to x]) ([])):(true=true)∧((Bytes l)∧(∀ r:RdS,(r=(RdS.mk (List.take (2000:Nat) l) (0:Int)))→(true=true)∧((true=true)∧((((Bytes r.b)∧(((List.length r.b)≤(2000:Nat))∧(((0:Int)≤r.p)∧(r.p≤(40000000:Int)))))∧((6:Int)≤(1000:Int)))∧(∀ r1:(Prod RxS RdS),((Bytes r1.fst.join.got)∧(((List.length r1.fst.join.got)≤(1000:Nat))∧(RdOn r r1.snd (2000:Int))))→(true=true)∧((true=true)∧(K [(Arg.v true [(AC.d (D.i IntKind.i64 r1.fst.expect)),(AC.d (D.i IntKind.i64 r1.fst.count)),(AC.d (D.i IntKind.i64 r1.fst.join.len)),(AC.d (D.r RK.u8 r1.fst.join.got)),(AC.d (D.b r1.fst.again)),(AC.d (D.b r1.fst.busy)),(AC.d (D.b r1.fst.dead))])] []))))))) := by
  repeat' first
    | exact rfl
    | trivial
    | apply And.intro
    | (show Bytes _; grind [RdOk, RdOn, Bytes.cons, Bytes.nil, Bytes.take])
    | (intro r hr; subst hr)
    | intro r
    | exact hp
    | (refine iteI (fun h => ?_) (fun h => ?_))
  all_goals try simp (disch := omega) only [wr] at *
  all_goals first
    | omega
    | exact hk ⟨_, _, ⟨_, _⟩, _, _, _⟩ (by (try dsimp only); grind [RdOk, RdOn, Bytes.cons, Bytes.nil, Bytes.take])
    | grind [RdOk, RdOn, Bytes.cons, Bytes.nil, Bytes.take]
theorem w_spec_DrawRxAck : Valid Try.prog 13 c_spec_DrawRxAck :=
  valid_ctr2 (V := V_spec_DrawRxAck) (tysB_ok tys_ok) ⟨(CallsL.cons w_spec_l20Rx (CallsL.cons w_spec_l20Open (CallsL.nil _))), (IosL.nil _)⟩ mixed 0 2 Try.func13 rfl (by kernel_rfl)
    (fun c hc => by
      obtain rfl := Option.some.inj hc
      exact ⟨trivial, ⟨trivial, trivial⟩⟩)
    (fun x K hp hk => ⟨_, by kernel_rfl, vF_spec_DrawRxAck x K hp (fun x h => hk x h)⟩)
theorem vF_spec_DrawRxBusy (l:List Int) (K:List Arg→List (List AC)→Prop) (hp:Bytes l) (hk:∀ (x:RxS) (b:Bool),(Bytes x.join.got∧x.join.got.length≤1000)→K ([rRx.to x,rB.to b]) ([])):(true=true)∧((Bytes l)∧(∀ r:RdS,(r=(RdS.mk (List.take (2000:Nat) l) (0:Int)))→(true=true)∧((true=true)∧((((Bytes r.b)∧(((List.length r.b)≤(2000:Nat))∧(((0:Int)≤r.p)∧(r.p≤(40000000:Int)))))∧((9:Int)≤(1000:Int)))∧(∀ r1:(Prod RxS RdS),((Bytes r1.fst.join.got)∧(((List.length r1.fst.join.got)≤(1000:Nat))∧(RdOn r r1.snd (2000:Int))))→(true=true)∧((true=true)∧((((Bytes r1.snd.b)∧(((List.length r1.snd.b)≤(2000:Nat))∧(((0:Int)≤r1.snd.p)∧(r1.snd.p≤(1000000000:Int)))))∧((2:Int)≤(1000000000:Int)))∧(∀ r2:(Prod Int RdS),((r2.snd=(RdS.mk r1.snd.b (r1.snd.p + (1:Int))))∧(((0:Int)≤r2.fst)∧((((1:Int)≤(2:Int))→(r2.fst < (2:Int)))∧(((2:Int) < (1:Int))→(r2.fst=(0:Int))))))→(true=true)∧((true=true)∧(K [(Arg.v true [(AC.d (D.i IntKind.i64 r1.fst.expect)),(AC.d (D.i IntKind.i64 r1.fst.count)),(AC.d (D.i IntKind.i64 r1.fst.join.len)),(AC.d (D.r RK.u8 r1.fst.join.got)),(AC.d (D.b r1.fst.again)),(AC.d (D.b r1.fst.busy)),(AC.d (D.b r1.fst.dead))]),(aB (r2.fst == (0:Int)))] [])))))))))) := by
  repeat' first
    | exact rfl
    | trivial
    | apply And.intro
    | (show Bytes _; grind [RdOk, RdOn, Bytes.cons, Bytes.nil, Bytes.take])
    | (intro r hr; subst hr)
    | intro r
    | exact hp
    | (refine iteI (fun h => ?_) (fun h => ?_))
  all_goals try simp (disch := omega) only [wr] at *
  all_goals first
    | omega
    | exact hk ⟨_, _, ⟨_, _⟩, _, _, _⟩ _ (by (try dsimp only); grind [RdOk, RdOn, Bytes.cons, Bytes.nil, Bytes.take])
    | grind [RdOk, RdOn, Bytes.cons, Bytes.nil, Bytes.take]
theorem w_spec_DrawRxBusy : Valid Try.prog 20 c_spec_DrawRxBusy :=
  valid_ctr2 (V := V_spec_DrawRxBusy) (tysB_ok tys_ok) ⟨(CallsL.cons w_spec_l20Rx (CallsL.cons w_spec_l20Open (CallsL.cons w_spec_l20Rd_pick (CallsL.nil _)))), (IosL.nil _)⟩ mixed 0 2 Try.func20 rfl (by kernel_rfl)
    (fun c hc => by
      obtain rfl := Option.some.inj hc
      exact ⟨trivial, ⟨trivial, ⟨trivial, trivial⟩⟩⟩)
    (fun x K hp hk => ⟨_, by kernel_rfl, vF_spec_DrawRxBusy x K hp (fun x b h => hk (x, b) h)⟩)
end Go.Proofs.YtjladmhjpikdhaaE
