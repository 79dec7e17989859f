/- A part of the proof of laws of the program: what calls of the program answer. Conditions: none. -/
import Derived.Test.YtjladmhjpikdhaaMabed5972
set_option linter.unusedVariables false
set_option linter.unusedSimpArgs false
set_option linter.unusedSectionVars false
/- Contracts: X6R. Conditions: none. -/
set_option linter.unusedVariables false
set_option maxHeartbeats 1600000
namespace Go.Proofs.YtjladmhjpikdhaaE
open Go
/-! (impl.RxState).say@x -/
def c_impl_RxState_say_x : Ent := ctr (α := (RxS) × (Int) × (Bool)) (ρ := (Frm)) [] [(0, 8)] (rs rRx (rs rInt (rs1 rB))) (fun x_ => (fun (r : RxS) (w : Int) (f : Bool) => (True)) x_.1 x_.2.1 x_.2.2) (fun x_ r_ => (fun x_ => (fun (r : RxS) (w : Int) (f : Bool) => ((fun r_ => (fun (g : Frm) => (g = sayF r w f)) r_))) x_.1 x_.2.1 x_.2.2) x_ r_) (fun r_ => (fun (g : Frm) => ([dFrm g])) r_) (fun r_ => (fun (g : Frm) => ([])) r_)
def V_impl_RxState_say_x : Env := ⟨tys, [], [(11, [0])], [(3, 0), (6, 1)], [], [], [], [], []⟩
/-! impl.RxAck@x -/
def c_impl_RxAck_x : Ent := ctr (α := (RxS)) (ρ := (Frm)) [] [(0, 8)] (rs1 rRx) (fun x_ => (fun (r : RxS) => (True)) x_) (fun x_ r_ => (fun x_ => (fun (r : RxS) => ((fun r_ => (fun (f : Frm) => (f = rxAck r)) r_))) x_) x_ r_) (fun r_ => (fun (f : Frm) => ([dFrm f])) r_) (fun r_ => (fun (f : Frm) => ([])) r_)
def V_impl_RxAck_x : Env := ⟨tys, [(25, c_impl_RxOk), (56, c_impl_RxState_say_x), (57, c_impl_goOrWait)], [(6, [0]), (11, [0])], [(1, 0), (2, 1)], [(3, ([], [0]))], [], [], [], [(3, [(0, false), (1, false), (2, false), (3, true), (4, true), (5, true)])]⟩
end Go.Proofs.YtjladmhjpikdhaaE

/- Calls answer what is promised: X6R. Conditions: none. -/
set_option linter.unusedVariables false
set_option maxHeartbeats 1600000
namespace Go.Proofs.YtjladmhjpikdhaaE
open Go
theorem vF_impl_RxState_say_x (r:RxS) (w:Int) (f:Bool) (K:List Arg→List (List AC)→Prop) (hp:True) (hk:∀ (g:Frm),(g=sayF r w f)→K ([dFrm g]) ([])):(true=true)∧(K [(Arg.v true [(AC.d (D.i IntKind.i64 (2:Int))),(AC.d (D.i IntKind.i64 (0:Int))),(AC.d (D.i IntKind.i64 r.expect)),(AC.d (D.b false)),(AC.d (D.b f)),(AC.d (D.i IntKind.i64 w)),(AC.d (D.i IntKind.i64 (0:Int))),(AC.d (D.i IntKind.i64 (0:Int))),(AC.own (RC.mk (5:Nat) RK.u8 ([]:(List Int)) (RM.mk (dpM false (Option.none)) false (0:Nat) false)))])] []) := by
  repeat' first
    | exact rfl
    | exact True.intro
    | with_reducible apply And.intro
    | (with_reducible intro y_ hy_; subst hy_)
    | with_reducible intro y_
    | (refine iteI (fun h => ?_) (fun h => ?_))
  all_goals try simp only [Bool.not_eq_true', decide_eq_false_iff_not, decide_eq_true_eq, Bool.not_eq_true, bne_iff_ne, beq_iff_eq, ne_eq, Decidable.not_not, Bool.not_eq_false, gt_iff_lt, ge_iff_le, Int.not_le, Int.not_lt, beq_eq_false_iff_ne, bne_eq_false_iff_eq, Bool.and_eq_true, Bool.or_eq_true, Bool.true_eq_false, Bool.false_eq_true] at *
  all_goals try simp (disch := first | omega | grind []) only [wr] at *
  all_goals first
    | assumption
    | omega
    | exact hk _ rfl
    | exact hk _ (by grind [])
    | (simp only [LIM] at *; omega)
    | grind [LIM]
theorem w_impl_RxState_say_x : Valid Try.prog 56 c_impl_RxState_say_x :=
  valid_ctr2 (V := V_impl_RxState_say_x) (tysB_ok tys_ok) ⟨(CallsL.nil _), (IosL.nil _)⟩ mixed 1 2 Try.func56 rfl (by kernel_rfl)
    (fun c hc => by
      obtain rfl := Option.some.inj hc
      exact ⟨trivial, ⟨trivial, trivial⟩⟩)
    (fun x K hp hk => ⟨_, by kernel_rfl, vF_impl_RxState_say_x x.1 x.2.1 x.2.2 K hp (fun g h => hk g h)⟩)
theorem vF_impl_RxAck_x (r:RxS) (K:List Arg→List (List AC)→Prop) (hp:True) (hk:∀ (f:Frm),(f=rxAck r)→K ([dFrm f]) ([])):(true=true)∧(True∧(∀ r1:Bool,(r1=(decide (RxP r)))→(true=true)∧(if ((!r1)=true) then ((true=true)∧(K [(Arg.v true [(AC.d (D.i IntKind.i64 (0:Int))),(AC.d (D.i IntKind.i64 (0:Int))),(AC.d (D.i IntKind.i64 (0:Int))),(AC.d (D.b false)),(AC.d (D.b false)),(AC.d (D.i IntKind.i64 (0:Int))),(AC.d (D.i IntKind.i64 (0:Int))),(AC.d (D.i IntKind.i64 (0:Int))),(AC.own (RC.mk (5:Nat) RK.u8 ([]:(List Int)) (RM.mk (dpM false (Option.none)) false (0:Nat) false)))])] [])) else ((true=true)∧(True∧(∀ r2:Int,(r2=(goWait r.busy))→(true=true)∧((true=true)∧((true=true)∧(True∧(∀ r3:Frm,(r3=(sayF r r2 false))→(true=true)∧((true=true)∧((true=true)∧((true=true)∧(K [(Arg.v true [(AC.d (D.i IntKind.i64 r3.kind)),(AC.d (D.i IntKind.i64 r3.seq)),(AC.d (D.i IntKind.i64 r3.ack)),(AC.d (D.b r3.poll)),(AC.d (D.b r3.final)),(AC.d (D.i IntKind.i64 r3.say)),(AC.d (D.i IntKind.i64 r3.seg)),(AC.d (D.i IntKind.i64 r3.len)),(AC.own (RC.mk (5:Nat) RK.u8 r3.data (RM.mk (dpM false (Option.none)) false (0:Nat) false)))])] [])))))))))))))) := by
  repeat' first
    | exact rfl
    | exact True.intro
    | with_reducible apply And.intro
    | (with_reducible intro y_ hy_; subst hy_)
    | with_reducible intro y_
    | (refine iteI (fun h => ?_) (fun h => ?_))
  all_goals try simp only [Bool.not_eq_true', decide_eq_false_iff_not, decide_eq_true_eq, Bool.not_eq_true, bne_iff_ne, beq_iff_eq, ne_eq, Decidable.not_not, Bool.not_eq_false, gt_iff_lt, ge_iff_le, Int.not_le, Int.not_lt, beq_eq_false_iff_ne, bne_eq_false_iff_eq, Bool.and_eq_true, Bool.or_eq_true, Bool.true_eq_false, Bool.false_eq_true] at *
  all_goals try simp (disch := first | omega | grind []) only [wr] at *
  all_goals first
    | assumption
    | omega
    | (have h := hk _ rfl
       unfold rxAck at h
       try dsimp only at h
       first
       | exact h
       | (repeat' split at h
          all_goals first | exact h | (exfalso; grind []) | (exfalso; simp at *; omega)))
    | exact hk _ (by grind [])
    | (simp only [LIM] at *; omega)
    | grind [LIM]
theorem w_impl_RxAck_x : Valid Try.prog 14 c_impl_RxAck_x :=
  valid_ctr2 (V := V_impl_RxAck_x) (tysB_ok tys_ok) ⟨(CallsL.cons w_impl_RxOk (CallsL.cons w_impl_RxState_say_x (CallsL.cons w_impl_goOrWait (CallsL.nil _)))), (IosL.nil _)⟩ mixed 1 2 Try.func14 rfl (by kernel_rfl)
    (fun c hc => by
      obtain rfl := Option.some.inj hc
      exact ⟨trivial, ⟨⟨trivial, ⟨⟨trivial, trivial⟩, trivial⟩⟩, ⟨trivial, trivial⟩⟩⟩)
    (fun x K hp hk => ⟨_, by kernel_rfl, vF_impl_RxAck_x x K hp (fun f h => hk f h)⟩)
end Go.Proofs.YtjladmhjpikdhaaE
