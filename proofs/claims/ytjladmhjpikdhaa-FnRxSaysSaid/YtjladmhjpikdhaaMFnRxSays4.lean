/- The law FnRxSays: for every input the call returns true, and each argument reads behind the call as it read before. Conditions: none. -/
import Derived.Test.YtjladmhjpikdhaaMFnRxSays3
import Derived.ChangeSlices
import Derived.Test.YtjladmhjpikdhaaRows
import Derived.WalkKit
import Derived.ProofKit
import Derived.OpenShut
import Derived.ShutString
import Derived.ChangeOld
import Derived.Below
import Derived.SizedLaws
/- Calls answer what is promised: M. Conditions: none. -/
set_option linter.unusedVariables false
set_option maxHeartbeats 4000000
namespace Go.Proofs.YtjladmhjpikdhaaE
open Go
theorem vF_impl_RxHear (c : Cfg) (r : RxS) (f : Frm) (K : List Arg → List (List AC) → Prop) (hp : f.data.length ≤ 1000000000) (hk : ∀ (q : HearR), (q = rxHear c r f) → K ([rRx.to q.r, (rR .byr).to q.sdus, (rR .frm).to q.says]) ([])) :
(true = true) ∧
  (True ∧
   (∀ r1 : Bool,
    (r1 = (decide (CfgP c))) →
    (true = true) ∧
    (if ((!r1) = true) then
      ((true = true) ∧
      (K [(Arg.v true [(AC.d (D.i IntKind.i64 (0 : Int))), (AC.d (D.i IntKind.i64 (0 : Int))), (AC.d (D.i IntKind.i64 (0 : Int))), (AC.d (D.r RK.u8 ([] : (List Int)))), (AC.d (D.b false)), (AC.d (D.b false)), (AC.d (D.b false))]), (aR RK.byr ([] : (List (List Int)))), (aR RK.frm ([] : (List Frm)))] []))
     else
      ((true = true) ∧
      (True ∧
       (∀ r2 : Bool,
        (r2 = (decide (RxP r))) →
        (true = true) ∧
        (if ((!r2) = true) then
          ((true = true) ∧
          (K [(Arg.v true [(AC.d (D.i IntKind.i64 (0 : Int))), (AC.d (D.i IntKind.i64 (0 : Int))), (AC.d (D.i IntKind.i64 (0 : Int))), (AC.d (D.r RK.u8 ([] : (List Int)))), (AC.d (D.b false)), (AC.d (D.b false)), (AC.d (D.b false))]), (aR RK.byr ([] : (List (List Int)))), (aR RK.frm ([] : (List Frm)))] []))
         else
          ((true = true) ∧
          (((List.length f.data) ≤ (137438953472 : Nat)) ∧
           (∀ r3 : Bool,
            (r3 = (decide (FrmP f))) →
            (true = true) ∧
            (if ((!r3) = true) then
              ((true = true) ∧
              (K [(Arg.v true [(AC.d (D.i IntKind.i64 (0 : Int))), (AC.d (D.i IntKind.i64 (0 : Int))), (AC.d (D.i IntKind.i64 (0 : Int))), (AC.d (D.r RK.u8 ([] : (List Int)))), (AC.d (D.b false)), (AC.d (D.b false)), (AC.d (D.b false))]), (aR RK.byr ([] : (List (List Int)))), (aR RK.frm ([] : (List Frm)))] []))
             else
              (if ((f.kind != (1 : Int)) = true) then
               (if ((f.kind != (2 : Int)) = true) then
                ((true = true) ∧
                (K [(Arg.v true [(AC.d (D.i IntKind.i64 (0 : Int))), (AC.d (D.i IntKind.i64 (0 : Int))), (AC.d (D.i IntKind.i64 (0 : Int))), (AC.d (D.r RK.u8 ([] : (List Int)))), (AC.d (D.b false)), (AC.d (D.b false)), (AC.d (D.b false))]), (aR RK.byr ([] : (List (List Int)))), (aR RK.frm ([] : (List Frm)))] []))
               else
                ((true = true) ∧
                (((List.length r.join.got) ≤ (137438953472 : Nat)) ∧
                 (∀ r4 : RxS,
                  (r4 = r) →
                  (true = true) ∧
                  ((true = true) ∧
                   (((RxIn c r4 f) ∧
                     ((List.length f.data) ≤ (1000000000 : Nat))) ∧
                    (∀ r5 : HearR,
                     (r5 = (rxHear1 c r4 f)) →
                     (true = true) ∧
                     ((true = true) ∧
                      (((List.length r5.r.join.got) ≤ (137438953472 : Nat)) ∧
                       (∀ r6 : RxS,
                        (r6 = r5.r) →
                        (true = true) ∧
                        ((true = true) ∧
                         (K [(Arg.v true [(AC.d (D.i IntKind.i64 r6.expect)), (AC.d (D.i IntKind.i64 r6.count)), (AC.d (D.i IntKind.i64 r6.join.len)), (AC.d (D.r RK.u8 r6.join.got)), (AC.d (D.b r6.again)), (AC.d (D.b r6.busy)), (AC.d (D.b r6.dead))]), (aR RK.byr r5.sdus), (aR RK.frm r5.says)] []))))))))))))
              else
               ((true = true) ∧
               (((List.length r.join.got) ≤ (137438953472 : Nat)) ∧
                (∀ r4 : RxS,
                 (r4 = r) →
                 (true = true) ∧
                 ((true = true) ∧
                  (((RxIn c r4 f) ∧
                    ((List.length f.data) ≤ (1000000000 : Nat))) ∧
                   (∀ r5 : HearR,
                    (r5 = (rxHear1 c r4 f)) →
                    (true = true) ∧
                    ((true = true) ∧
                     (((List.length r5.r.join.got) ≤ (137438953472 : Nat)) ∧
                      (∀ r6 : RxS,
                       (r6 = r5.r) →
                       (true = true) ∧
                       ((true = true) ∧
                        (K [(Arg.v true [(AC.d (D.i IntKind.i64 r6.expect)), (AC.d (D.i IntKind.i64 r6.count)), (AC.d (D.i IntKind.i64 r6.join.len)), (AC.d (D.r RK.u8 r6.join.got)), (AC.d (D.b r6.again)), (AC.d (D.b r6.busy)), (AC.d (D.b r6.dead))]), (aR RK.byr r5.sdus), (aR RK.frm r5.says)] []))))))))))))))))))))))) := by
  repeat' first
    | exact rfl
    | exact True.intro
    | with_reducible apply And.intro
    | (with_reducible intro r hr; subst hr)
    | with_reducible intro r
    | (refine iteI (fun h => ?_) (fun h => ?_))
  all_goals try simp (disch := omega) only [wr] at *
  all_goals first
    | assumption
    | (refine hear_len ?_ hp ‹List.Mem _ _›; exact ⟨by grind, by grind, by grind, by grind⟩)
    | (simp only [LIM]; have h1 := (hear_got c r f).1; have h2 : RxIn c r f := ⟨by grind, by grind, by grind, by grind⟩; have h3 := h2.got; omega)
    | exact rxHear_got c r f
    | (have h := hk _ rfl
       unfold rxHear at h
       try dsimp only at h
       repeat' split at h
       all_goals first | exact h | (exfalso; grind [RxIn]) | (exfalso; simp at *; omega))
    | exact hk _ (by grind [RxIn, RxP, JoinP, RxIn.got, hear_got, IntKind.wrap_i64])
    | (simp only [LIM] at *; omega)
    | grind [RxIn, RxP, JoinP, RxIn.got, hear_got, LIM]
theorem w_impl_RxHear : Valid Try.prog 42 c_impl_RxHear :=
  valid_ctr2 (V := V_impl_RxHear) (tysB_ok tys_ok) (CallsL.cons w_impl_FrmOk (CallsL.cons w_impl_RxOk (CallsL.cons w_impl_CfgOk (CallsL.cons w_impl_RxState_copyOf (CallsL.cons w_impl_RxState_hear (CallsL.nil _)))))) mixed 0 5 Try.func42 rfl (by kernel_rfl)
    (fun c hc => by
      obtain rfl := Option.some.inj hc
      exact ⟨trivial, ⟨⟨trivial, ⟨⟨trivial, trivial⟩, trivial⟩⟩, ⟨trivial, ⟨trivial, ⟨trivial, trivial⟩⟩⟩⟩⟩)
    (fun x K hp hk => ⟨_, by kernel_rfl, vF_impl_RxHear x.1 x.2.1 x.2.2 K hp (fun q h => hk q h)⟩)
theorem vF_spec_RxHear (c : Cfg) (r : RxS) (f : Frm) (K : List Arg → List (List AC) → Prop) (hp : f.data.length ≤ 1000000000) (hk : ∀ (q : HearR), (q = rxHear c r f) → K ([rRx.to q.r, (rR .byr).to q.sdus, (rR .frm).to q.says]) ([])) :
(true = true) ∧
  (True ∧
   (∀ r1 : Bool,
    (r1 = (decide (CfgP c))) →
    (true = true) ∧
    (if ((!r1) = true) then
      ((true = true) ∧
      (K [(Arg.v true [(AC.d (D.i IntKind.i64 (0 : Int))), (AC.d (D.i IntKind.i64 (0 : Int))), (AC.d (D.i IntKind.i64 (0 : Int))), (AC.d (D.r RK.u8 ([] : (List Int)))), (AC.d (D.b false)), (AC.d (D.b false)), (AC.d (D.b false))]), (aR RK.byr ([] : (List (List Int)))), (aR RK.frm ([] : (List Frm)))] []))
     else
      ((true = true) ∧
      (True ∧
       (∀ r2 : Bool,
        (r2 = (decide (RxP r))) →
        (true = true) ∧
        (if ((!r2) = true) then
          ((true = true) ∧
          (K [(Arg.v true [(AC.d (D.i IntKind.i64 (0 : Int))), (AC.d (D.i IntKind.i64 (0 : Int))), (AC.d (D.i IntKind.i64 (0 : Int))), (AC.d (D.r RK.u8 ([] : (List Int)))), (AC.d (D.b false)), (AC.d (D.b false)), (AC.d (D.b false))]), (aR RK.byr ([] : (List (List Int)))), (aR RK.frm ([] : (List Frm)))] []))
         else
          ((true = true) ∧
          (True ∧
           (∀ r3 : Bool,
            (r3 = (decide (FrmP f))) →
            (true = true) ∧
            (if ((!r3) = true) then
              ((true = true) ∧
              (K [(Arg.v true [(AC.d (D.i IntKind.i64 (0 : Int))), (AC.d (D.i IntKind.i64 (0 : Int))), (AC.d (D.i IntKind.i64 (0 : Int))), (AC.d (D.r RK.u8 ([] : (List Int)))), (AC.d (D.b false)), (AC.d (D.b false)), (AC.d (D.b false))]), (aR RK.byr ([] : (List (List Int)))), (aR RK.frm ([] : (List Frm)))] []))
             else
              (if ((f.kind != (1 : Int)) = true) then
               (if ((f.kind != (2 : Int)) = true) then
                ((true = true) ∧
                (K [(Arg.v true [(AC.d (D.i IntKind.i64 (0 : Int))), (AC.d (D.i IntKind.i64 (0 : Int))), (AC.d (D.i IntKind.i64 (0 : Int))), (AC.d (D.r RK.u8 ([] : (List Int)))), (AC.d (D.b false)), (AC.d (D.b false)), (AC.d (D.b false))]), (aR RK.byr ([] : (List (List Int)))), (aR RK.frm ([] : (List Frm)))] []))
               else
                ((true = true) ∧
                (((List.length r.join.got) ≤ (137438953472 : Nat)) ∧
                 (∀ r4 : RxS,
                  (r4 = r) →
                  (true = true) ∧
                  ((true = true) ∧
                   ((true = true) ∧
                    (((RxIn c r4 f) ∧
                      ((List.length f.data) ≤ (1000000000 : Nat))) ∧
                     (∀ r5 : HearR,
                      (r5 = (rxHear1 c r4 f)) →
                      (true = true) ∧
                      ((true = true) ∧
                       ((true = true) ∧
                        ((true = true) ∧
                         (((List.length r5.r.join.got) ≤ (137438953472 : Nat)) ∧
                          (∀ r6 : RxS,
                           (r6 = r5.r) →
                           (true = true) ∧
                           ((true = true) ∧
                            ((((List.length r5.sdus) ≤ (1000 : Nat)) ∧
                              (∀ y : (List Int),
                               (List.Mem y r5.sdus) →
                               ((List.length y) ≤ (137438953472 : Nat)))) ∧
                             (∀ r7 : (List (List Int)),
                              (r7 = r5.sdus) →
                              (true = true) ∧
                              ((true = true) ∧
                               (K [(Arg.v true [(AC.d (D.i IntKind.i64 r6.expect)), (AC.d (D.i IntKind.i64 r6.count)), (AC.d (D.i IntKind.i64 r6.join.len)), (AC.d (D.r RK.u8 r6.join.got)), (AC.d (D.b r6.again)), (AC.d (D.b r6.busy)), (AC.d (D.b r6.dead))]), (aR RK.byr r7), (aR RK.frm r5.says)] []))))))))))))))))))
              else
               ((true = true) ∧
               (((List.length r.join.got) ≤ (137438953472 : Nat)) ∧
                (∀ r4 : RxS,
                 (r4 = r) →
                 (true = true) ∧
                 ((true = true) ∧
                  ((true = true) ∧
                   (((RxIn c r4 f) ∧
                     ((List.length f.data) ≤ (1000000000 : Nat))) ∧
                    (∀ r5 : HearR,
                     (r5 = (rxHear1 c r4 f)) →
                     (true = true) ∧
                     ((true = true) ∧
                      ((true = true) ∧
                       ((true = true) ∧
                        (((List.length r5.r.join.got) ≤ (137438953472 : Nat)) ∧
                         (∀ r6 : RxS,
                          (r6 = r5.r) →
                          (true = true) ∧
                          ((true = true) ∧
                           ((((List.length r5.sdus) ≤ (1000 : Nat)) ∧
                             (∀ y : (List Int),
                              (List.Mem y r5.sdus) →
                              ((List.length y) ≤ (137438953472 : Nat)))) ∧
                            (∀ r7 : (List (List Int)),
                             (r7 = r5.sdus) →
                             (true = true) ∧
                             ((true = true) ∧
                              (K [(Arg.v true [(AC.d (D.i IntKind.i64 r6.expect)), (AC.d (D.i IntKind.i64 r6.count)), (AC.d (D.i IntKind.i64 r6.join.len)), (AC.d (D.r RK.u8 r6.join.got)), (AC.d (D.b r6.again)), (AC.d (D.b r6.busy)), (AC.d (D.b r6.dead))]), (aR RK.byr r7), (aR RK.frm r5.says)] []))))))))))))))))))))))))))))) := by
  repeat' first
    | exact rfl
    | exact True.intro
    | with_reducible apply And.intro
    | (with_reducible intro r hr; subst hr)
    | with_reducible intro r
    | (refine iteI (fun h => ?_) (fun h => ?_))
  all_goals try simp (disch := omega) only [wr] at *
  all_goals first
    | assumption
    | (refine hear_len ?_ hp ‹List.Mem _ _›; exact ⟨by grind, by grind, by grind, by grind⟩)
    | (simp only [LIM]; have h1 := (hear_got c r f).1; have h2 : RxIn c r f := ⟨by grind, by grind, by grind, by grind⟩; have h3 := h2.got; omega)
    | exact rxHear_got c r f
    | (have h := hk _ rfl
       unfold rxHear at h
       try dsimp only at h
       repeat' split at h
       all_goals first | exact h | (exfalso; grind [RxIn]) | (exfalso; simp at *; omega))
    | exact hk _ (by grind [RxIn, RxP, JoinP, RxIn.got, hear_got, IntKind.wrap_i64])
    | (simp only [LIM] at *; omega)
    | grind [RxIn, RxP, JoinP, RxIn.got, hear_got, LIM]
theorem w_spec_RxHear : Valid Try.prog 39 c_spec_RxHear :=
  valid_ctr2 (V := V_spec_RxHear) (tysB_ok tys_ok) (CallsL.cons w_spec_RxOk (CallsL.cons w_spec_CfgOk (CallsL.cons w_spec_FrmOk (CallsL.cons w_spec_l7Copy (CallsL.cons w_spec_l7Hear (CallsL.cons w_spec_l7Sdus (CallsL.nil _))))))) mixed 0 5 Try.func39 rfl (by kernel_rfl)
    (fun c hc => by
      obtain rfl := Option.some.inj hc
      exact ⟨trivial, ⟨⟨trivial, ⟨⟨trivial, trivial⟩, trivial⟩⟩, ⟨trivial, ⟨trivial, trivial⟩⟩⟩⟩)
    (fun x K hp hk => ⟨_, by kernel_rfl, vF_spec_RxHear x.1 x.2.1 x.2.2 K hp (fun q h => hk q h)⟩)
theorem vF_spec_l20Cfg (r : RdS) (n : Int) (K : List Arg → List (List AC) → Prop) (hp : RdOk r 40000000 ∧ n ≤ 1000) (hk : ∀ (c : Cfg) (q : RdS), (RdOn r q 20) → K ([rCfg.to c]) ([(rdC q).map .d])) :
(true = true) ∧
  ((((Bytes r.b) ∧
     (((List.length r.b) ≤ (2000 : Nat)) ∧
      (((0 : Int) ≤ r.p) ∧
       (r.p ≤ (1000000000 : Int))))) ∧
    ((2 : Int) ≤ (1000000000 : Int))) ∧
   (∀ r1 : (Prod Int RdS),
    ((r1.snd = (RdS.mk r.b (r.p + (1 : Int)))) ∧ (((0 : Int) ≤ r1.fst) ∧ ((((1 : Int) ≤ (2 : Int)) → (r1.fst < (2 : Int))) ∧ (((2 : Int) < (1 : Int)) → (r1.fst = (0 : Int)))))) →
    (true = true) ∧
    ((true = true) ∧
     ((true = true) ∧
      ((((Bytes r1.snd.b) ∧
         (((List.length r1.snd.b) ≤ (2000 : Nat)) ∧
          (((0 : Int) ≤ r1.snd.p) ∧
           (r1.snd.p ≤ (1000000000 : Int))))) ∧
        ((4 : Int) ≤ (1000000000 : Int))) ∧
       (∀ r2 : (Prod Int RdS),
        ((r2.snd = (RdS.mk r1.snd.b (r1.snd.p + (1 : Int)))) ∧ (((0 : Int) ≤ r2.fst) ∧ ((((1 : Int) ≤ (4 : Int)) → (r2.fst < (4 : Int))) ∧ (((4 : Int) < (1 : Int)) → (r2.fst = (0 : Int)))))) →
        (true = true) ∧
        ((true = true) ∧
         ((true = true) ∧
          ((((Bytes r2.snd.b) ∧
             (((List.length r2.snd.b) ≤ (2000 : Nat)) ∧
              (((0 : Int) ≤ r2.snd.p) ∧
               (r2.snd.p ≤ (1000000000 : Int))))) ∧
            ((8 : Int) ≤ (1000000000 : Int))) ∧
           (∀ r3 : (Prod Int RdS),
            ((r3.snd = (RdS.mk r2.snd.b (r2.snd.p + (1 : Int)))) ∧ (((0 : Int) ≤ r3.fst) ∧ ((((1 : Int) ≤ (8 : Int)) → (r3.fst < (8 : Int))) ∧ (((8 : Int) < (1 : Int)) → (r3.fst = (0 : Int)))))) →
            (true = true) ∧
            ((true = true) ∧
             ((true = true) ∧
              ((((Bytes r3.snd.b) ∧
                 (((List.length r3.snd.b) ≤ (2000 : Nat)) ∧
                  (((0 : Int) ≤ r3.snd.p) ∧
                   (r3.snd.p ≤ (1000000000 : Int))))) ∧
                ((3 : Int) ≤ (1000000000 : Int))) ∧
               (∀ r4 : (Prod Int RdS),
                ((r4.snd = (RdS.mk r3.snd.b (r3.snd.p + (1 : Int)))) ∧ (((0 : Int) ≤ r4.fst) ∧ ((((1 : Int) ≤ (3 : Int)) → (r4.fst < (3 : Int))) ∧ (((3 : Int) < (1 : Int)) → (r4.fst = (0 : Int)))))) →
                (true = true) ∧
                ((true = true) ∧
                 ((((0 : Int) ≤ r4.fst) ∧
                   (r4.fst < (((List.length ((IntKind.wrap IntKind.i64 ((1 : Int) + r3.fst)) :: ((3 : Int) :: ((8 : Int) :: ([] : (List Int)) : (List Int)) : (List Int)) : (List Int))) : Nat) : Int))) ∧
                  ((true = true) ∧
                   ((((Bytes r4.snd.b) ∧
                      (((List.length r4.snd.b) ≤ (2000 : Nat)) ∧
                       (((0 : Int) ≤ r4.snd.p) ∧
                        (r4.snd.p ≤ (1000000000 : Int))))) ∧
                     ((24 : Int) ≤ (1000000000 : Int))) ∧
                    (∀ r5 : (Prod Int RdS),
                     ((r5.snd = (RdS.mk r4.snd.b (r4.snd.p + (1 : Int)))) ∧ (((0 : Int) ≤ r5.fst) ∧ ((((1 : Int) ≤ (24 : Int)) → (r5.fst < (24 : Int))) ∧ (((24 : Int) < (1 : Int)) → (r5.fst = (0 : Int)))))) →
                     (true = true) ∧
                     ((true = true) ∧
                      ((true = true) ∧
                       ((((Bytes r5.snd.b) ∧
                          (((List.length r5.snd.b) ≤ (2000 : Nat)) ∧
                           (((0 : Int) ≤ r5.snd.p) ∧
                            (r5.snd.p ≤ (1000000000 : Int))))) ∧
                         ((2 : Int) ≤ (1000000000 : Int))) ∧
                        (∀ r6 : (Prod Int RdS),
                         ((r6.snd = (RdS.mk r5.snd.b (r5.snd.p + (1 : Int)))) ∧ (((0 : Int) ≤ r6.fst) ∧ ((((1 : Int) ≤ (2 : Int)) → (r6.fst < (2 : Int))) ∧ (((2 : Int) < (1 : Int)) → (r6.fst = (0 : Int)))))) →
                         (true = true) ∧
                         ((true = true) ∧
                          ((((0 : Int) ≤ r6.fst) ∧
                            (r6.fst < (((List.length ((24 : Int) :: ((IntKind.wrap IntKind.i64 ((1 : Int) + r5.fst)) :: ([] : (List Int)) : (List Int)) : (List Int))) : Nat) : Int))) ∧
                           ((true = true) ∧
                            ((((Bytes r6.snd.b) ∧
                               (((List.length r6.snd.b) ≤ (2000 : Nat)) ∧
                                (((0 : Int) ≤ r6.snd.p) ∧
                                 (r6.snd.p ≤ (1000000000 : Int))))) ∧
                              ((5 : Int) ≤ (1000000000 : Int))) ∧
                             (∀ r7 : (Prod Int RdS),
                              ((r7.snd = (RdS.mk r6.snd.b (r6.snd.p + (1 : Int)))) ∧ (((0 : Int) ≤ r7.fst) ∧ ((((1 : Int) ≤ (5 : Int)) → (r7.fst < (5 : Int))) ∧ (((5 : Int) < (1 : Int)) → (r7.fst = (0 : Int)))))) →
                              (true = true) ∧
                              ((true = true) ∧
                               ((true = true) ∧
                                ((true = true) ∧
                                 ((((Bytes r7.snd.b) ∧
                                    (((List.length r7.snd.b) ≤ (2000 : Nat)) ∧
                                     (((0 : Int) ≤ r7.snd.p) ∧
                                      (r7.snd.p ≤ (900000000 : Int))))) ∧
                                   (n ≤ (1000000000 : Int))) ∧
                                  (∀ r8 : (Prod Bool RdS),
                                   ((r8.snd.b = r7.snd.b) ∧ ((r7.snd.p ≤ r8.snd.p) ∧ (r8.snd.p ≤ (r7.snd.p + (1 : Int))))) →
                                   (true = true) ∧
                                   (if (r8.fst = true) then
                                     ((true = true) ∧
                                     ((((Bytes r8.snd.b) ∧
                                        (((List.length r8.snd.b) ≤ (2000 : Nat)) ∧
                                         (((0 : Int) ≤ r8.snd.p) ∧
                                          (r8.snd.p ≤ (1000000000 : Int))))) ∧
                                       ((5 : Int) ≤ (1000000000 : Int))) ∧
                                      (∀ r9 : (Prod Int RdS),
                                       ((r9.snd = (RdS.mk r8.snd.b (r8.snd.p + (1 : Int)))) ∧ (((0 : Int) ≤ r9.fst) ∧ ((((1 : Int) ≤ (5 : Int)) → (r9.fst < (5 : Int))) ∧ (((5 : Int) < (1 : Int)) → (r9.fst = (0 : Int)))))) →
                                       (true = true) ∧
                                       (if ((r9.fst == (0 : Int)) = true) then
                                         ((true = true) ∧
                                         ((((Bytes r9.snd.b) ∧
                                            (((List.length r9.snd.b) ≤ (2000 : Nat)) ∧
                                             (((0 : Int) ≤ r9.snd.p) ∧
                                              (r9.snd.p ≤ (1000000000 : Int))))) ∧
                                           ((2 : Int) ≤ (1000000000 : Int))) ∧
                                          (∀ r10 : (Prod Int RdS),
                                           ((r10.snd = (RdS.mk r9.snd.b (r9.snd.p + (1 : Int)))) ∧ (((0 : Int) ≤ r10.fst) ∧ ((((1 : Int) ≤ (2 : Int)) → (r10.fst < (2 : Int))) ∧ (((2 : Int) < (1 : Int)) → (r10.fst = (0 : Int)))))) →
                                           (true = true) ∧
                                           ((((0 : Int) ≤ r10.fst) ∧
                                             (r10.fst < (2 : Int))) ∧
                                            ((true = true) ∧
                                             (K [(Arg.v true [(AC.d (D.i IntKind.i64 (at_i64 ((0 : Int) :: ((3 : Int) :: ([] : (List Int)) : (List Int)) : (List Int)) (Int.toNat r10.fst)))), (AC.d (D.i IntKind.i64 (IntKind.wrap IntKind.i64 ((1 : Int) + r2.fst)))), (AC.d (D.i IntKind.i64 (at_i64 ((IntKind.wrap IntKind.i64 ((1 : Int) + r3.fst)) :: ((3 : Int) :: ((8 : Int) :: ([] : (List Int)) : (List Int)) : (List Int)) : (List Int)) (Int.toNat r4.fst)))), (AC.d (D.i IntKind.i64 (at_i64 ((24 : Int) :: ((IntKind.wrap IntKind.i64 ((1 : Int) + r5.fst)) :: ([] : (List Int)) : (List Int)) : (List Int)) (Int.toNat r6.fst)))), (AC.d (D.i IntKind.i64 (IntKind.wrap IntKind.i64 ((1 : Int) + r7.fst))))])] [[(AC.d (D.r RK.u8 r10.snd.b)), (AC.d (D.i IntKind.i64 r10.snd.p))]]))))))
                                        else
                                         (if ((r9.fst == (1 : Int)) = true) then
                                          ((true = true) ∧
                                          ((((Bytes r9.snd.b) ∧
                                             (((List.length r9.snd.b) ≤ (2000 : Nat)) ∧
                                              (((0 : Int) ≤ r9.snd.p) ∧
                                               (r9.snd.p ≤ (1000000000 : Int))))) ∧
                                            ((2 : Int) ≤ (1000000000 : Int))) ∧
                                           (∀ r10 : (Prod Int RdS),
                                            ((r10.snd = (RdS.mk r9.snd.b (r9.snd.p + (1 : Int)))) ∧ (((0 : Int) ≤ r10.fst) ∧ ((((1 : Int) ≤ (2 : Int)) → (r10.fst < (2 : Int))) ∧ (((2 : Int) < (1 : Int)) → (r10.fst = (0 : Int)))))) →
                                            (true = true) ∧
                                            ((((0 : Int) ≤ r10.fst) ∧
                                              (r10.fst < (2 : Int))) ∧
                                             ((true = true) ∧
                                              (K [(Arg.v true [(AC.d (D.i IntKind.i64 (IntKind.wrap IntKind.i64 ((1 : Int) + r1.fst)))), (AC.d (D.i IntKind.i64 (at_i64 ((0 : Int) :: ((5 : Int) :: ([] : (List Int)) : (List Int)) : (List Int)) (Int.toNat r10.fst)))), (AC.d (D.i IntKind.i64 (at_i64 ((IntKind.wrap IntKind.i64 ((1 : Int) + r3.fst)) :: ((3 : Int) :: ((8 : Int) :: ([] : (List Int)) : (List Int)) : (List Int)) : (List Int)) (Int.toNat r4.fst)))), (AC.d (D.i IntKind.i64 (at_i64 ((24 : Int) :: ((IntKind.wrap IntKind.i64 ((1 : Int) + r5.fst)) :: ([] : (List Int)) : (List Int)) : (List Int)) (Int.toNat r6.fst)))), (AC.d (D.i IntKind.i64 (IntKind.wrap IntKind.i64 ((1 : Int) + r7.fst))))])] [[(AC.d (D.r RK.u8 r10.snd.b)), (AC.d (D.i IntKind.i64 r10.snd.p))]]))))))
                                         else
                                          (if ((r9.fst == (2 : Int)) = true) then
                                           ((true = true) ∧
                                           ((((Bytes r9.snd.b) ∧
                                              (((List.length r9.snd.b) ≤ (2000 : Nat)) ∧
                                               (((0 : Int) ≤ r9.snd.p) ∧
                                                (r9.snd.p ≤ (1000000000 : Int))))) ∧
                                             ((2 : Int) ≤ (1000000000 : Int))) ∧
                                            (∀ r10 : (Prod Int RdS),
                                             ((r10.snd = (RdS.mk r9.snd.b (r9.snd.p + (1 : Int)))) ∧ (((0 : Int) ≤ r10.fst) ∧ ((((1 : Int) ≤ (2 : Int)) → (r10.fst < (2 : Int))) ∧ (((2 : Int) < (1 : Int)) → (r10.fst = (0 : Int)))))) →
                                             (true = true) ∧
                                             ((((0 : Int) ≤ r10.fst) ∧
                                               (r10.fst < (2 : Int))) ∧
                                              ((true = true) ∧
                                               (K [(Arg.v true [(AC.d (D.i IntKind.i64 (IntKind.wrap IntKind.i64 ((1 : Int) + r1.fst)))), (AC.d (D.i IntKind.i64 (IntKind.wrap IntKind.i64 ((1 : Int) + r2.fst)))), (AC.d (D.i IntKind.i64 (at_i64 ((0 : Int) :: ((9 : Int) :: ([] : (List Int)) : (List Int)) : (List Int)) (Int.toNat r10.fst)))), (AC.d (D.i IntKind.i64 (at_i64 ((24 : Int) :: ((IntKind.wrap IntKind.i64 ((1 : Int) + r5.fst)) :: ([] : (List Int)) : (List Int)) : (List Int)) (Int.toNat r6.fst)))), (AC.d (D.i IntKind.i64 (IntKind.wrap IntKind.i64 ((1 : Int) + r7.fst))))])] [[(AC.d (D.r RK.u8 r10.snd.b)), (AC.d (D.i IntKind.i64 r10.snd.p))]]))))))
                                          else
                                           (if ((r9.fst == (3 : Int)) = true) then
                                            ((true = true) ∧
                                            ((((Bytes r9.snd.b) ∧
                                               (((List.length r9.snd.b) ≤ (2000 : Nat)) ∧
                                                (((0 : Int) ≤ r9.snd.p) ∧
                                                 (r9.snd.p ≤ (1000000000 : Int))))) ∧
                                              ((2 : Int) ≤ (1000000000 : Int))) ∧
                                             (∀ r10 : (Prod Int RdS),
                                              ((r10.snd = (RdS.mk r9.snd.b (r9.snd.p + (1 : Int)))) ∧ (((0 : Int) ≤ r10.fst) ∧ ((((1 : Int) ≤ (2 : Int)) → (r10.fst < (2 : Int))) ∧ (((2 : Int) < (1 : Int)) → (r10.fst = (0 : Int)))))) →
                                              (true = true) ∧
                                              ((((0 : Int) ≤ r10.fst) ∧
                                                (r10.fst < (2 : Int))) ∧
                                               ((true = true) ∧
                                                (K [(Arg.v true [(AC.d (D.i IntKind.i64 (IntKind.wrap IntKind.i64 ((1 : Int) + r1.fst)))), (AC.d (D.i IntKind.i64 (IntKind.wrap IntKind.i64 ((1 : Int) + r2.fst)))), (AC.d (D.i IntKind.i64 (at_i64 ((IntKind.wrap IntKind.i64 ((1 : Int) + r3.fst)) :: ((3 : Int) :: ((8 : Int) :: ([] : (List Int)) : (List Int)) : (List Int)) : (List Int)) (Int.toNat r4.fst)))), (AC.d (D.i IntKind.i64 (at_i64 ((0 : Int) :: ((25 : Int) :: ([] : (List Int)) : (List Int)) : (List Int)) (Int.toNat r10.fst)))), (AC.d (D.i IntKind.i64 (IntKind.wrap IntKind.i64 ((1 : Int) + r7.fst))))])] [[(AC.d (D.r RK.u8 r10.snd.b)), (AC.d (D.i IntKind.i64 r10.snd.p))]]))))))
                                           else
                                            ((true = true) ∧
                                            ((((Bytes r9.snd.b) ∧
                                               (((List.length r9.snd.b) ≤ (2000 : Nat)) ∧
                                                (((0 : Int) ≤ r9.snd.p) ∧
                                                 (r9.snd.p ≤ (1000000000 : Int))))) ∧
                                              ((2 : Int) ≤ (1000000000 : Int))) ∧
                                             (∀ r10 : (Prod Int RdS),
                                              ((r10.snd = (RdS.mk r9.snd.b (r9.snd.p + (1 : Int)))) ∧ (((0 : Int) ≤ r10.fst) ∧ ((((1 : Int) ≤ (2 : Int)) → (r10.fst < (2 : Int))) ∧ (((2 : Int) < (1 : Int)) → (r10.fst = (0 : Int)))))) →
                                              (true = true) ∧
                                              ((((0 : Int) ≤ r10.fst) ∧
                                                (r10.fst < (2 : Int))) ∧
                                               ((true = true) ∧
                                                (K [(Arg.v true [(AC.d (D.i IntKind.i64 (IntKind.wrap IntKind.i64 ((1 : Int) + r1.fst)))), (AC.d (D.i IntKind.i64 (IntKind.wrap IntKind.i64 ((1 : Int) + r2.fst)))), (AC.d (D.i IntKind.i64 (at_i64 ((IntKind.wrap IntKind.i64 ((1 : Int) + r3.fst)) :: ((3 : Int) :: ((8 : Int) :: ([] : (List Int)) : (List Int)) : (List Int)) : (List Int)) (Int.toNat r4.fst)))), (AC.d (D.i IntKind.i64 (at_i64 ((24 : Int) :: ((IntKind.wrap IntKind.i64 ((1 : Int) + r5.fst)) :: ([] : (List Int)) : (List Int)) : (List Int)) (Int.toNat r6.fst)))), (AC.d (D.i IntKind.i64 (at_i64 ((0 : Int) :: ((6 : Int) :: ([] : (List Int)) : (List Int)) : (List Int)) (Int.toNat r10.fst))))])] [[(AC.d (D.r RK.u8 r10.snd.b)), (AC.d (D.i IntKind.i64 r10.snd.p))]])))))))))))))
                                    else
                                     ((true = true) ∧
                                     (K [(Arg.v true [(AC.d (D.i IntKind.i64 (IntKind.wrap IntKind.i64 ((1 : Int) + r1.fst)))), (AC.d (D.i IntKind.i64 (IntKind.wrap IntKind.i64 ((1 : Int) + r2.fst)))), (AC.d (D.i IntKind.i64 (at_i64 ((IntKind.wrap IntKind.i64 ((1 : Int) + r3.fst)) :: ((3 : Int) :: ((8 : Int) :: ([] : (List Int)) : (List Int)) : (List Int)) : (List Int)) (Int.toNat r4.fst)))), (AC.d (D.i IntKind.i64 (at_i64 ((24 : Int) :: ((IntKind.wrap IntKind.i64 ((1 : Int) + r5.fst)) :: ([] : (List Int)) : (List Int)) : (List Int)) (Int.toNat r6.fst)))), (AC.d (D.i IntKind.i64 (IntKind.wrap IntKind.i64 ((1 : Int) + r7.fst))))])] [[(AC.d (D.r RK.u8 r8.snd.b)), (AC.d (D.i IntKind.i64 r8.snd.p))]])))))))))))))))))))))))))))))))))))) := by
  repeat' first
    | exact rfl
    | exact True.intro
    | with_reducible apply And.intro
    | (with_reducible intro r hr; subst hr)
    | with_reducible intro r
    | (refine iteI (fun h => ?_) (fun h => ?_))
  all_goals try simp (disch := omega) only [wr] at *
  all_goals first
    | assumption
    | omega
    | exact hk ⟨_, _, _, _, _⟩ ⟨_, _⟩ (by (try dsimp only); grind [RdOk, RdOn, Bytes.cons, Bytes.nil, Bytes.take])
    | grind [RdOk, RdOn, Bytes.cons, Bytes.nil, Bytes.take]
    | exact hk ⟨_, _, _, _, _⟩ ⟨_, _⟩ (by (try dsimp only); refine ⟨?_, ?_, ?_⟩; all_goals first | (grind [RdOk, RdOn, Bytes.cons, Bytes.nil, Bytes.take]; done) | (simp; done) | (simp; omega))
theorem w_spec_l20Cfg : Valid Try.prog 85 c_spec_l20Cfg :=
  valid_ctr2 (V := V_spec_l20Cfg) (tysB_ok tys_ok) (CallsL.cons w_spec_l20Rd_pick (CallsL.cons w_spec_l20Rd_odd (CallsL.nil _))) mixed 0 2 Try.func85 rfl (by kernel_rfl)
    (fun c hc => by
      obtain rfl := Option.some.inj hc
      exact ⟨trivial, ⟨trivial, ⟨⟨trivial, ⟨⟨trivial, ⟨trivial, ⟨trivial, ⟨trivial, ⟨trivial, ⟨trivial, ⟨trivial, ⟨trivial, ⟨trivial, trivial⟩⟩⟩⟩⟩⟩⟩⟩⟩, trivial⟩⟩, ⟨trivial, trivial⟩⟩⟩⟩)
    (fun x K hp hk => ⟨_, by kernel_rfl, vF_spec_l20Cfg x.1 x.2 K hp (fun c q h => hk (c, q) h)⟩)
theorem vF_spec_l20Part (r : RdS) (K : List Arg → List (List AC) → Prop) (hp : RdOk r 45000000) (hk : ∀ (p : Part) (q : RdS), (Bytes p.data ∧ p.data.length ≤ 100 ∧ RdOn r q 50) → K ([.v true [.d (.i .i64 p.seg), .d (.i .i64 p.len), .own ⟨5, .u8, p.data⟩]]) ([(rdC q).map .d])) :
(true = true) ∧
  ((((Bytes r.b) ∧
     (((List.length r.b) ≤ (2000 : Nat)) ∧
      (((0 : Int) ≤ r.p) ∧
       (r.p ≤ (1000000000 : Int))))) ∧
    ((4 : Int) ≤ (1000000000 : Int))) ∧
   (∀ r1 : (Prod Int RdS),
    ((r1.snd = (RdS.mk r.b (r.p + (1 : Int)))) ∧ (((0 : Int) ≤ r1.fst) ∧ ((((1 : Int) ≤ (4 : Int)) → (r1.fst < (4 : Int))) ∧ (((4 : Int) < (1 : Int)) → (r1.fst = (0 : Int)))))) →
    (true = true) ∧
    ((true = true) ∧
     ((((Bytes r1.snd.b) ∧
        (((List.length r1.snd.b) ≤ (2000 : Nat)) ∧
         (((0 : Int) ≤ r1.snd.p) ∧
          (r1.snd.p ≤ (100000000 : Int))))) ∧
       (((0 : Int) ≤ (8 : Int)) ∧
        ((8 : Int) ≤ (900 : Int)))) ∧
      (∀ r2 : (Prod (List Int) RdS),
       ((Bytes r2.fst) ∧ (((((List.length r2.fst) : Nat) : Int) ≤ (8 : Int)) ∧ (RdOn r1.snd r2.snd ((1 : Int) + ((3 : Int) * (8 : Int)))))) →
       (true = true) ∧
       (if ((r1.fst != (0 : Int)) = true) then
         (if (((((List.length r2.fst) : Nat) : Int) == (0 : Int)) = true) then
          (if ((r1.fst == (0 : Int)) = true) then
           (if ((r1.fst == (1 : Int)) = true) then
            (((true = true) ∧
             (((true = true) ∧
               ((true = true) ∧
                ((true = true) ∧
                 ((true = true) ∧
                  ((((Bytes r2.snd.b) ∧
                     (((List.length r2.snd.b) ≤ (2000 : Nat)) ∧
                      (((0 : Int) ≤ r2.snd.p) ∧
                       (r2.snd.p ≤ (1000000000 : Int))))) ∧
                    ((23 : Int) ≤ (1000000000 : Int))) ∧
                   (∀ r3 : (Prod Int RdS),
                    ((r3.snd = (RdS.mk r2.snd.b (r2.snd.p + (1 : Int)))) ∧ (((0 : Int) ≤ r3.fst) ∧ ((((1 : Int) ≤ (23 : Int)) → (r3.fst < (23 : Int))) ∧ (((23 : Int) < (1 : Int)) → (r3.fst = (0 : Int)))))) →
                    (true = true) ∧
                    ((true = true) ∧
                     ((true = true) ∧
                      ((true = true) ∧
                       ((true = true) ∧
                        (K [(Arg.v true [(AC.d (D.i IntKind.i64 r1.fst)), (AC.d (D.i IntKind.i64 (IntKind.wrap IntKind.i64 ((2 : Int) + r3.fst)))), (AC.own (RC.mk (5 : Nat) RK.u8 ((7 : Int) :: ([] : (List Int)) : (List Int))))])] [[(AC.d (D.r RK.u8 r3.snd.b)), (AC.d (D.i IntKind.i64 r3.snd.p))]]))))))))))) ∧
              ((true = true) ∧
               (((true = true) ∧
                 ((true = true) ∧
                  ((true = true) ∧
                   ((((Bytes r2.snd.b) ∧
                      (((List.length r2.snd.b) ≤ (2000 : Nat)) ∧
                       (((0 : Int) ≤ r2.snd.p) ∧
                        (r2.snd.p ≤ (1000000000 : Int))))) ∧
                     ((23 : Int) ≤ (1000000000 : Int))) ∧
                    (∀ r3 : (Prod Int RdS),
                     ((r3.snd = (RdS.mk r2.snd.b (r2.snd.p + (1 : Int)))) ∧ (((0 : Int) ≤ r3.fst) ∧ ((((1 : Int) ≤ (23 : Int)) → (r3.fst < (23 : Int))) ∧ (((23 : Int) < (1 : Int)) → (r3.fst = (0 : Int)))))) →
                     (true = true) ∧
                     ((true = true) ∧
                      ((true = true) ∧
                       ((true = true) ∧
                        ((true = true) ∧
                         (K [(Arg.v true [(AC.d (D.i IntKind.i64 r1.fst)), (AC.d (D.i IntKind.i64 (IntKind.wrap IntKind.i64 ((2 : Int) + r3.fst)))), (AC.own (RC.mk (5 : Nat) RK.u8 ((7 : Int) :: ([] : (List Int)) : (List Int))))])] [[(AC.d (D.r RK.u8 r3.snd.b)), (AC.d (D.i IntKind.i64 r3.snd.p))]])))))))))) ∧
                ((true = true) ∧
                 (((true = true) ∧
                   ((true = true) ∧
                    ((((Bytes r2.snd.b) ∧
                       (((List.length r2.snd.b) ≤ (2000 : Nat)) ∧
                        (((0 : Int) ≤ r2.snd.p) ∧
                         (r2.snd.p ≤ (1000000000 : Int))))) ∧
                      ((23 : Int) ≤ (1000000000 : Int))) ∧
                     (∀ r3 : (Prod Int RdS),
                      ((r3.snd = (RdS.mk r2.snd.b (r2.snd.p + (1 : Int)))) ∧ (((0 : Int) ≤ r3.fst) ∧ ((((1 : Int) ≤ (23 : Int)) → (r3.fst < (23 : Int))) ∧ (((23 : Int) < (1 : Int)) → (r3.fst = (0 : Int)))))) →
                      (true = true) ∧
                      ((true = true) ∧
                       ((true = true) ∧
                        ((true = true) ∧
                         ((true = true) ∧
                          (K [(Arg.v true [(AC.d (D.i IntKind.i64 r1.fst)), (AC.d (D.i IntKind.i64 (IntKind.wrap IntKind.i64 ((2 : Int) + r3.fst)))), (AC.own (RC.mk (5 : Nat) RK.u8 ((7 : Int) :: ([] : (List Int)) : (List Int))))])] [[(AC.d (D.r RK.u8 r3.snd.b)), (AC.d (D.i IntKind.i64 r3.snd.p))]]))))))))) ∧
                  ((true = true) ∧
                   ((((Bytes r2.snd.b) ∧
                      (((List.length r2.snd.b) ≤ (2000 : Nat)) ∧
                       (((0 : Int) ≤ r2.snd.p) ∧
                        (r2.snd.p ≤ (1000000000 : Int))))) ∧
                     ((23 : Int) ≤ (1000000000 : Int))) ∧
                    (∀ r3 : (Prod Int RdS),
                     ((r3.snd = (RdS.mk r2.snd.b (r2.snd.p + (1 : Int)))) ∧ (((0 : Int) ≤ r3.fst) ∧ ((((1 : Int) ≤ (23 : Int)) → (r3.fst < (23 : Int))) ∧ (((23 : Int) < (1 : Int)) → (r3.fst = (0 : Int)))))) →
                     (true = true) ∧
                     ((true = true) ∧
                      ((true = true) ∧
                       ((true = true) ∧
                        ((true = true) ∧
                         ((true = true) ∧
                          (K [(Arg.v true [(AC.d (D.i IntKind.i64 r1.fst)), (AC.d (D.i IntKind.i64 (IntKind.wrap IntKind.i64 ((2 : Int) + r3.fst)))), (AC.own (RC.mk (5 : Nat) RK.u8 ((7 : Int) :: ([] : (List Int)) : (List Int))))])] [[(AC.d (D.r RK.u8 r3.snd.b)), (AC.d (D.i IntKind.i64 r3.snd.p))]]))))))))))))))) ∧
            ((true = true) ∧
             (((true = true) ∧
               (((true = true) ∧
                 ((true = true) ∧
                  ((true = true) ∧
                   ((((Bytes r2.snd.b) ∧
                      (((List.length r2.snd.b) ≤ (2000 : Nat)) ∧
                       (((0 : Int) ≤ r2.snd.p) ∧
                        (r2.snd.p ≤ (1000000000 : Int))))) ∧
                     ((23 : Int) ≤ (1000000000 : Int))) ∧
                    (∀ r3 : (Prod Int RdS),
                     ((r3.snd = (RdS.mk r2.snd.b (r2.snd.p + (1 : Int)))) ∧ (((0 : Int) ≤ r3.fst) ∧ ((((1 : Int) ≤ (23 : Int)) → (r3.fst < (23 : Int))) ∧ (((23 : Int) < (1 : Int)) → (r3.fst = (0 : Int)))))) →
                     (true = true) ∧
                     ((true = true) ∧
                      ((true = true) ∧
                       ((true = true) ∧
                        ((true = true) ∧
                         (K [(Arg.v true [(AC.d (D.i IntKind.i64 r1.fst)), (AC.d (D.i IntKind.i64 (IntKind.wrap IntKind.i64 ((2 : Int) + r3.fst)))), (AC.own (RC.mk (5 : Nat) RK.u8 ((7 : Int) :: ([] : (List Int)) : (List Int))))])] [[(AC.d (D.r RK.u8 r3.snd.b)), (AC.d (D.i IntKind.i64 r3.snd.p))]])))))))))) ∧
                ((true = true) ∧
                 (((true = true) ∧
                   ((true = true) ∧
                    ((((Bytes r2.snd.b) ∧
                       (((List.length r2.snd.b) ≤ (2000 : Nat)) ∧
                        (((0 : Int) ≤ r2.snd.p) ∧
                         (r2.snd.p ≤ (1000000000 : Int))))) ∧
                      ((23 : Int) ≤ (1000000000 : Int))) ∧
                     (∀ r3 : (Prod Int RdS),
                      ((r3.snd = (RdS.mk r2.snd.b (r2.snd.p + (1 : Int)))) ∧ (((0 : Int) ≤ r3.fst) ∧ ((((1 : Int) ≤ (23 : Int)) → (r3.fst < (23 : Int))) ∧ (((23 : Int) < (1 : Int)) → (r3.fst = (0 : Int)))))) →
                      (true = true) ∧
                      ((true = true) ∧
                       ((true = true) ∧
                        ((true = true) ∧
                         ((true = true) ∧
                          (K [(Arg.v true [(AC.d (D.i IntKind.i64 r1.fst)), (AC.d (D.i IntKind.i64 (IntKind.wrap IntKind.i64 ((2 : Int) + r3.fst)))), (AC.own (RC.mk (5 : Nat) RK.u8 ((7 : Int) :: ([] : (List Int)) : (List Int))))])] [[(AC.d (D.r RK.u8 r3.snd.b)), (AC.d (D.i IntKind.i64 r3.snd.p))]]))))))))) ∧
                  ((true = true) ∧
                   ((((Bytes r2.snd.b) ∧
                      (((List.length r2.snd.b) ≤ (2000 : Nat)) ∧
                       (((0 : Int) ≤ r2.snd.p) ∧
                        (r2.snd.p ≤ (1000000000 : Int))))) ∧
                     ((23 : Int) ≤ (1000000000 : Int))) ∧
                    (∀ r3 : (Prod Int RdS),
                     ((r3.snd = (RdS.mk r2.snd.b (r2.snd.p + (1 : Int)))) ∧ (((0 : Int) ≤ r3.fst) ∧ ((((1 : Int) ≤ (23 : Int)) → (r3.fst < (23 : Int))) ∧ (((23 : Int) < (1 : Int)) → (r3.fst = (0 : Int)))))) →
                     (true = true) ∧
                     ((true = true) ∧
                      ((true = true) ∧
                       ((true = true) ∧
                        ((true = true) ∧
                         ((true = true) ∧
                          (K [(Arg.v true [(AC.d (D.i IntKind.i64 r1.fst)), (AC.d (D.i IntKind.i64 (IntKind.wrap IntKind.i64 ((2 : Int) + r3.fst)))), (AC.own (RC.mk (5 : Nat) RK.u8 ((7 : Int) :: ([] : (List Int)) : (List Int))))])] [[(AC.d (D.r RK.u8 r3.snd.b)), (AC.d (D.i IntKind.i64 r3.snd.p))]]))))))))))))) ∧
              ((true = true) ∧
               (((true = true) ∧
                 (((true = true) ∧
                   ((true = true) ∧
                    ((((Bytes r2.snd.b) ∧
                       (((List.length r2.snd.b) ≤ (2000 : Nat)) ∧
                        (((0 : Int) ≤ r2.snd.p) ∧
                         (r2.snd.p ≤ (1000000000 : Int))))) ∧
                      ((23 : Int) ≤ (1000000000 : Int))) ∧
                     (∀ r3 : (Prod Int RdS),
                      ((r3.snd = (RdS.mk r2.snd.b (r2.snd.p + (1 : Int)))) ∧ (((0 : Int) ≤ r3.fst) ∧ ((((1 : Int) ≤ (23 : Int)) → (r3.fst < (23 : Int))) ∧ (((23 : Int) < (1 : Int)) → (r3.fst = (0 : Int)))))) →
                      (true = true) ∧
                      ((true = true) ∧
                       ((true = true) ∧
                        ((true = true) ∧
                         ((true = true) ∧
                          (K [(Arg.v true [(AC.d (D.i IntKind.i64 r1.fst)), (AC.d (D.i IntKind.i64 (IntKind.wrap IntKind.i64 ((2 : Int) + r3.fst)))), (AC.own (RC.mk (5 : Nat) RK.u8 ((7 : Int) :: ([] : (List Int)) : (List Int))))])] [[(AC.d (D.r RK.u8 r3.snd.b)), (AC.d (D.i IntKind.i64 r3.snd.p))]]))))))))) ∧
                  ((true = true) ∧
                   ((((Bytes r2.snd.b) ∧
                      (((List.length r2.snd.b) ≤ (2000 : Nat)) ∧
                       (((0 : Int) ≤ r2.snd.p) ∧
                        (r2.snd.p ≤ (1000000000 : Int))))) ∧
                     ((23 : Int) ≤ (1000000000 : Int))) ∧
                    (∀ r3 : (Prod Int RdS),
                     ((r3.snd = (RdS.mk r2.snd.b (r2.snd.p + (1 : Int)))) ∧ (((0 : Int) ≤ r3.fst) ∧ ((((1 : Int) ≤ (23 : Int)) → (r3.fst < (23 : Int))) ∧ (((23 : Int) < (1 : Int)) → (r3.fst = (0 : Int)))))) →
                     (true = true) ∧
                     ((true = true) ∧
                      ((true = true) ∧
                       ((true = true) ∧
                        ((true = true) ∧
                         ((true = true) ∧
                          (K [(Arg.v true [(AC.d (D.i IntKind.i64 r1.fst)), (AC.d (D.i IntKind.i64 (IntKind.wrap IntKind.i64 ((2 : Int) + r3.fst)))), (AC.own (RC.mk (5 : Nat) RK.u8 ((7 : Int) :: ([] : (List Int)) : (List Int))))])] [[(AC.d (D.r RK.u8 r3.snd.b)), (AC.d (D.i IntKind.i64 r3.snd.p))]]))))))))))) ∧
                ((true = true) ∧
                 ((((Bytes r2.snd.b) ∧
                    (((List.length r2.snd.b) ≤ (2000 : Nat)) ∧
                     (((0 : Int) ≤ r2.snd.p) ∧
                      (r2.snd.p ≤ (1000000000 : Int))))) ∧
                   ((23 : Int) ≤ (1000000000 : Int))) ∧
                  (∀ r3 : (Prod Int RdS),
                   ((r3.snd = (RdS.mk r2.snd.b (r2.snd.p + (1 : Int)))) ∧ (((0 : Int) ≤ r3.fst) ∧ ((((1 : Int) ≤ (23 : Int)) → (r3.fst < (23 : Int))) ∧ (((23 : Int) < (1 : Int)) → (r3.fst = (0 : Int)))))) →
                   (true = true) ∧
                   ((true = true) ∧
                    ((true = true) ∧
                     ((true = true) ∧
                      ((true = true) ∧
                       ((true = true) ∧
                        ((true = true) ∧
                         (K [(Arg.v true [(AC.d (D.i IntKind.i64 r1.fst)), (AC.d (D.i IntKind.i64 (IntKind.wrap IntKind.i64 ((2 : Int) + r3.fst)))), (AC.own (RC.mk (5 : Nat) RK.u8 ((7 : Int) :: ([] : (List Int)) : (List Int))))])] [[(AC.d (D.r RK.u8 r3.snd.b)), (AC.d (D.i IntKind.i64 r3.snd.p))]])))))))))))))))
           else
            ((true = true) ∧
            (K [(Arg.v true [(AC.d (D.i IntKind.i64 r1.fst)), (AC.d (D.i IntKind.i64 (1 : Int))), (AC.own (RC.mk (5 : Nat) RK.u8 ((7 : Int) :: ([] : (List Int)) : (List Int))))])] [[(AC.d (D.r RK.u8 r2.snd.b)), (AC.d (D.i IntKind.i64 r2.snd.p))]])))
          else
           (if ((r1.fst == (1 : Int)) = true) then
            (((true = true) ∧
             (((true = true) ∧
               ((true = true) ∧
                ((true = true) ∧
                 ((true = true) ∧
                  ((((Bytes r2.snd.b) ∧
                     (((List.length r2.snd.b) ≤ (2000 : Nat)) ∧
                      (((0 : Int) ≤ r2.snd.p) ∧
                       (r2.snd.p ≤ (1000000000 : Int))))) ∧
                    ((23 : Int) ≤ (1000000000 : Int))) ∧
                   (∀ r3 : (Prod Int RdS),
                    ((r3.snd = (RdS.mk r2.snd.b (r2.snd.p + (1 : Int)))) ∧ (((0 : Int) ≤ r3.fst) ∧ ((((1 : Int) ≤ (23 : Int)) → (r3.fst < (23 : Int))) ∧ (((23 : Int) < (1 : Int)) → (r3.fst = (0 : Int)))))) →
                    (true = true) ∧
                    ((true = true) ∧
                     ((true = true) ∧
                      ((true = true) ∧
                       ((true = true) ∧
                        (K [(Arg.v true [(AC.d (D.i IntKind.i64 r1.fst)), (AC.d (D.i IntKind.i64 (IntKind.wrap IntKind.i64 ((2 : Int) + r3.fst)))), (AC.own (RC.mk (5 : Nat) RK.u8 ((7 : Int) :: ([] : (List Int)) : (List Int))))])] [[(AC.d (D.r RK.u8 r3.snd.b)), (AC.d (D.i IntKind.i64 r3.snd.p))]]))))))))))) ∧
              ((true = true) ∧
               (((true = true) ∧
                 ((true = true) ∧
                  ((true = true) ∧
                   ((((Bytes r2.snd.b) ∧
                      (((List.length r2.snd.b) ≤ (2000 : Nat)) ∧
                       (((0 : Int) ≤ r2.snd.p) ∧
                        (r2.snd.p ≤ (1000000000 : Int))))) ∧
                     ((23 : Int) ≤ (1000000000 : Int))) ∧
                    (∀ r3 : (Prod Int RdS),
                     ((r3.snd = (RdS.mk r2.snd.b (r2.snd.p + (1 : Int)))) ∧ (((0 : Int) ≤ r3.fst) ∧ ((((1 : Int) ≤ (23 : Int)) → (r3.fst < (23 : Int))) ∧ (((23 : Int) < (1 : Int)) → (r3.fst = (0 : Int)))))) →
                     (true = true) ∧
                     ((true = true) ∧
                      ((true = true) ∧
                       ((true = true) ∧
                        ((true = true) ∧
                         (K [(Arg.v true [(AC.d (D.i IntKind.i64 r1.fst)), (AC.d (D.i IntKind.i64 (IntKind.wrap IntKind.i64 ((2 : Int) + r3.fst)))), (AC.own (RC.mk (5 : Nat) RK.u8 ((7 : Int) :: ([] : (List Int)) : (List Int))))])] [[(AC.d (D.r RK.u8 r3.snd.b)), (AC.d (D.i IntKind.i64 r3.snd.p))]])))))))))) ∧
                ((true = true) ∧
                 (((true = true) ∧
                   ((true = true) ∧
                    ((((Bytes r2.snd.b) ∧
                       (((List.length r2.snd.b) ≤ (2000 : Nat)) ∧
                        (((0 : Int) ≤ r2.snd.p) ∧
                         (r2.snd.p ≤ (1000000000 : Int))))) ∧
                      ((23 : Int) ≤ (1000000000 : Int))) ∧
                     (∀ r3 : (Prod Int RdS),
                      ((r3.snd = (RdS.mk r2.snd.b (r2.snd.p + (1 : Int)))) ∧ (((0 : Int) ≤ r3.fst) ∧ ((((1 : Int) ≤ (23 : Int)) → (r3.fst < (23 : Int))) ∧ (((23 : Int) < (1 : Int)) → (r3.fst = (0 : Int)))))) →
                      (true = true) ∧
                      ((true = true) ∧
                       ((true = true) ∧
                        ((true = true) ∧
                         ((true = true) ∧
                          (K [(Arg.v true [(AC.d (D.i IntKind.i64 r1.fst)), (AC.d (D.i IntKind.i64 (IntKind.wrap IntKind.i64 ((2 : Int) + r3.fst)))), (AC.own (RC.mk (5 : Nat) RK.u8 ((7 : Int) :: ([] : (List Int)) : (List Int))))])] [[(AC.d (D.r RK.u8 r3.snd.b)), (AC.d (D.i IntKind.i64 r3.snd.p))]]))))))))) ∧
                  ((true = true) ∧
                   ((((Bytes r2.snd.b) ∧
                      (((List.length r2.snd.b) ≤ (2000 : Nat)) ∧
                       (((0 : Int) ≤ r2.snd.p) ∧
                        (r2.snd.p ≤ (1000000000 : Int))))) ∧
                     ((23 : Int) ≤ (1000000000 : Int))) ∧
                    (∀ r3 : (Prod Int RdS),
                     ((r3.snd = (RdS.mk r2.snd.b (r2.snd.p + (1 : Int)))) ∧ (((0 : Int) ≤ r3.fst) ∧ ((((1 : Int) ≤ (23 : Int)) → (r3.fst < (23 : Int))) ∧ (((23 : Int) < (1 : Int)) → (r3.fst = (0 : Int)))))) →
                     (true = true) ∧
                     ((true = true) ∧
                      ((true = true) ∧
                       ((true = true) ∧
                        ((true = true) ∧
                         ((true = true) ∧
                          (K [(Arg.v true [(AC.d (D.i IntKind.i64 r1.fst)), (AC.d (D.i IntKind.i64 (IntKind.wrap IntKind.i64 ((2 : Int) + r3.fst)))), (AC.own (RC.mk (5 : Nat) RK.u8 ((7 : Int) :: ([] : (List Int)) : (List Int))))])] [[(AC.d (D.r RK.u8 r3.snd.b)), (AC.d (D.i IntKind.i64 r3.snd.p))]]))))))))))))))) ∧
            ((true = true) ∧
             (((true = true) ∧
               (((true = true) ∧
                 ((true = true) ∧
                  ((true = true) ∧
                   ((((Bytes r2.snd.b) ∧
                      (((List.length r2.snd.b) ≤ (2000 : Nat)) ∧
                       (((0 : Int) ≤ r2.snd.p) ∧
                        (r2.snd.p ≤ (1000000000 : Int))))) ∧
                     ((23 : Int) ≤ (1000000000 : Int))) ∧
                    (∀ r3 : (Prod Int RdS),
                     ((r3.snd = (RdS.mk r2.snd.b (r2.snd.p + (1 : Int)))) ∧ (((0 : Int) ≤ r3.fst) ∧ ((((1 : Int) ≤ (23 : Int)) → (r3.fst < (23 : Int))) ∧ (((23 : Int) < (1 : Int)) → (r3.fst = (0 : Int)))))) →
                     (true = true) ∧
                     ((true = true) ∧
                      ((true = true) ∧
                       ((true = true) ∧
                        ((true = true) ∧
                         (K [(Arg.v true [(AC.d (D.i IntKind.i64 r1.fst)), (AC.d (D.i IntKind.i64 (IntKind.wrap IntKind.i64 ((2 : Int) + r3.fst)))), (AC.own (RC.mk (5 : Nat) RK.u8 ((7 : Int) :: ([] : (List Int)) : (List Int))))])] [[(AC.d (D.r RK.u8 r3.snd.b)), (AC.d (D.i IntKind.i64 r3.snd.p))]])))))))))) ∧
                ((true = true) ∧
                 (((true = true) ∧
                   ((true = true) ∧
                    ((((Bytes r2.snd.b) ∧
                       (((List.length r2.snd.b) ≤ (2000 : Nat)) ∧
                        (((0 : Int) ≤ r2.snd.p) ∧
                         (r2.snd.p ≤ (1000000000 : Int))))) ∧
                      ((23 : Int) ≤ (1000000000 : Int))) ∧
                     (∀ r3 : (Prod Int RdS),
                      ((r3.snd = (RdS.mk r2.snd.b (r2.snd.p + (1 : Int)))) ∧ (((0 : Int) ≤ r3.fst) ∧ ((((1 : Int) ≤ (23 : Int)) → (r3.fst < (23 : Int))) ∧ (((23 : Int) < (1 : Int)) → (r3.fst = (0 : Int)))))) →
                      (true = true) ∧
                      ((true = true) ∧
                       ((true = true) ∧
                        ((true = true) ∧
                         ((true = true) ∧
                          (K [(Arg.v true [(AC.d (D.i IntKind.i64 r1.fst)), (AC.d (D.i IntKind.i64 (IntKind.wrap IntKind.i64 ((2 : Int) + r3.fst)))), (AC.own (RC.mk (5 : Nat) RK.u8 ((7 : Int) :: ([] : (List Int)) : (List Int))))])] [[(AC.d (D.r RK.u8 r3.snd.b)), (AC.d (D.i IntKind.i64 r3.snd.p))]]))))))))) ∧
                  ((true = true) ∧
                   ((((Bytes r2.snd.b) ∧
                      (((List.length r2.snd.b) ≤ (2000 : Nat)) ∧
                       (((0 : Int) ≤ r2.snd.p) ∧
                        (r2.snd.p ≤ (1000000000 : Int))))) ∧
                     ((23 : Int) ≤ (1000000000 : Int))) ∧
                    (∀ r3 : (Prod Int RdS),
                     ((r3.snd = (RdS.mk r2.snd.b (r2.snd.p + (1 : Int)))) ∧ (((0 : Int) ≤ r3.fst) ∧ ((((1 : Int) ≤ (23 : Int)) → (r3.fst < (23 : Int))) ∧ (((23 : Int) < (1 : Int)) → (r3.fst = (0 : Int)))))) →
                     (true = true) ∧
                     ((true = true) ∧
                      ((true = true) ∧
                       ((true = true) ∧
                        ((true = true) ∧
                         ((true = true) ∧
                          (K [(Arg.v true [(AC.d (D.i IntKind.i64 r1.fst)), (AC.d (D.i IntKind.i64 (IntKind.wrap IntKind.i64 ((2 : Int) + r3.fst)))), (AC.own (RC.mk (5 : Nat) RK.u8 ((7 : Int) :: ([] : (List Int)) : (List Int))))])] [[(AC.d (D.r RK.u8 r3.snd.b)), (AC.d (D.i IntKind.i64 r3.snd.p))]]))))))))))))) ∧
              ((true = true) ∧
               (((true = true) ∧
                 (((true = true) ∧
                   ((true = true) ∧
                    ((((Bytes r2.snd.b) ∧
                       (((List.length r2.snd.b) ≤ (2000 : Nat)) ∧
                        (((0 : Int) ≤ r2.snd.p) ∧
                         (r2.snd.p ≤ (1000000000 : Int))))) ∧
                      ((23 : Int) ≤ (1000000000 : Int))) ∧
                     (∀ r3 : (Prod Int RdS),
                      ((r3.snd = (RdS.mk r2.snd.b (r2.snd.p + (1 : Int)))) ∧ (((0 : Int) ≤ r3.fst) ∧ ((((1 : Int) ≤ (23 : Int)) → (r3.fst < (23 : Int))) ∧ (((23 : Int) < (1 : Int)) → (r3.fst = (0 : Int)))))) →
                      (true = true) ∧
                      ((true = true) ∧
                       ((true = true) ∧
                        ((true = true) ∧
                         ((true = true) ∧
                          (K [(Arg.v true [(AC.d (D.i IntKind.i64 r1.fst)), (AC.d (D.i IntKind.i64 (IntKind.wrap IntKind.i64 ((2 : Int) + r3.fst)))), (AC.own (RC.mk (5 : Nat) RK.u8 ((7 : Int) :: ([] : (List Int)) : (List Int))))])] [[(AC.d (D.r RK.u8 r3.snd.b)), (AC.d (D.i IntKind.i64 r3.snd.p))]]))))))))) ∧
                  ((true = true) ∧
                   ((((Bytes r2.snd.b) ∧
                      (((List.length r2.snd.b) ≤ (2000 : Nat)) ∧
                       (((0 : Int) ≤ r2.snd.p) ∧
                        (r2.snd.p ≤ (1000000000 : Int))))) ∧
                     ((23 : Int) ≤ (1000000000 : Int))) ∧
                    (∀ r3 : (Prod Int RdS),
                     ((r3.snd = (RdS.mk r2.snd.b (r2.snd.p + (1 : Int)))) ∧ (((0 : Int) ≤ r3.fst) ∧ ((((1 : Int) ≤ (23 : Int)) → (r3.fst < (23 : Int))) ∧ (((23 : Int) < (1 : Int)) → (r3.fst = (0 : Int)))))) →
                     (true = true) ∧
                     ((true = true) ∧
                      ((true = true) ∧
                       ((true = true) ∧
                        ((true = true) ∧
                         ((true = true) ∧
                          (K [(Arg.v true [(AC.d (D.i IntKind.i64 r1.fst)), (AC.d (D.i IntKind.i64 (IntKind.wrap IntKind.i64 ((2 : Int) + r3.fst)))), (AC.own (RC.mk (5 : Nat) RK.u8 ((7 : Int) :: ([] : (List Int)) : (List Int))))])] [[(AC.d (D.r RK.u8 r3.snd.b)), (AC.d (D.i IntKind.i64 r3.snd.p))]]))))))))))) ∧
                ((true = true) ∧
                 ((((Bytes r2.snd.b) ∧
                    (((List.length r2.snd.b) ≤ (2000 : Nat)) ∧
                     (((0 : Int) ≤ r2.snd.p) ∧
                      (r2.snd.p ≤ (1000000000 : Int))))) ∧
                   ((23 : Int) ≤ (1000000000 : Int))) ∧
                  (∀ r3 : (Prod Int RdS),
                   ((r3.snd = (RdS.mk r2.snd.b (r2.snd.p + (1 : Int)))) ∧ (((0 : Int) ≤ r3.fst) ∧ ((((1 : Int) ≤ (23 : Int)) → (r3.fst < (23 : Int))) ∧ (((23 : Int) < (1 : Int)) → (r3.fst = (0 : Int)))))) →
                   (true = true) ∧
                   ((true = true) ∧
                    ((true = true) ∧
                     ((true = true) ∧
                      ((true = true) ∧
                       ((true = true) ∧
                        ((true = true) ∧
                         (K [(Arg.v true [(AC.d (D.i IntKind.i64 r1.fst)), (AC.d (D.i IntKind.i64 (IntKind.wrap IntKind.i64 ((2 : Int) + r3.fst)))), (AC.own (RC.mk (5 : Nat) RK.u8 ((7 : Int) :: ([] : (List Int)) : (List Int))))])] [[(AC.d (D.r RK.u8 r3.snd.b)), (AC.d (D.i IntKind.i64 r3.snd.p))]])))))))))))))))
           else
            ((true = true) ∧
            (K [(Arg.v true [(AC.d (D.i IntKind.i64 r1.fst)), (AC.d (D.i IntKind.i64 (0 : Int))), (AC.own (RC.mk (5 : Nat) RK.u8 ((7 : Int) :: ([] : (List Int)) : (List Int))))])] [[(AC.d (D.r RK.u8 r2.snd.b)), (AC.d (D.i IntKind.i64 r2.snd.p))]]))))
         else
          (if ((r1.fst == (0 : Int)) = true) then
           (if ((r1.fst == (1 : Int)) = true) then
            (((true = true) ∧
             (((true = true) ∧
               ((true = true) ∧
                ((true = true) ∧
                 ((true = true) ∧
                  ((((Bytes r2.snd.b) ∧
                     (((List.length r2.snd.b) ≤ (2000 : Nat)) ∧
                      (((0 : Int) ≤ r2.snd.p) ∧
                       (r2.snd.p ≤ (1000000000 : Int))))) ∧
                    ((IntKind.wrap IntKind.i64 ((24 : Int) - (((List.length r2.fst) : Nat) : Int))) ≤ (1000000000 : Int))) ∧
                   (∀ r3 : (Prod Int RdS),
                    ((r3.snd = (RdS.mk r2.snd.b (r2.snd.p + (1 : Int)))) ∧ (((0 : Int) ≤ r3.fst) ∧ ((((1 : Int) ≤ (IntKind.wrap IntKind.i64 ((24 : Int) - (((List.length r2.fst) : Nat) : Int)))) → (r3.fst < (IntKind.wrap IntKind.i64 ((24 : Int) - (((List.length r2.fst) : Nat) : Int))))) ∧ (((IntKind.wrap IntKind.i64 ((24 : Int) - (((List.length r2.fst) : Nat) : Int))) < (1 : Int)) → (r3.fst = (0 : Int)))))) →
                    (true = true) ∧
                    ((true = true) ∧
                     ((true = true) ∧
                      ((true = true) ∧
                       ((true = true) ∧
                        (K [(Arg.v true [(AC.d (D.i IntKind.i64 r1.fst)), (AC.d (D.i IntKind.i64 (IntKind.wrap IntKind.i64 ((IntKind.wrap IntKind.i64 ((((List.length r2.fst) : Nat) : Int) + (1 : Int))) + r3.fst)))), (AC.own (RC.mk (5 : Nat) RK.u8 r2.fst))])] [[(AC.d (D.r RK.u8 r3.snd.b)), (AC.d (D.i IntKind.i64 r3.snd.p))]]))))))))))) ∧
              ((true = true) ∧
               (((true = true) ∧
                 ((true = true) ∧
                  ((true = true) ∧
                   ((((Bytes r2.snd.b) ∧
                      (((List.length r2.snd.b) ≤ (2000 : Nat)) ∧
                       (((0 : Int) ≤ r2.snd.p) ∧
                        (r2.snd.p ≤ (1000000000 : Int))))) ∧
                     ((IntKind.wrap IntKind.i64 ((24 : Int) - (((List.length r2.fst) : Nat) : Int))) ≤ (1000000000 : Int))) ∧
                    (∀ r3 : (Prod Int RdS),
                     ((r3.snd = (RdS.mk r2.snd.b (r2.snd.p + (1 : Int)))) ∧ (((0 : Int) ≤ r3.fst) ∧ ((((1 : Int) ≤ (IntKind.wrap IntKind.i64 ((24 : Int) - (((List.length r2.fst) : Nat) : Int)))) → (r3.fst < (IntKind.wrap IntKind.i64 ((24 : Int) - (((List.length r2.fst) : Nat) : Int))))) ∧ (((IntKind.wrap IntKind.i64 ((24 : Int) - (((List.length r2.fst) : Nat) : Int))) < (1 : Int)) → (r3.fst = (0 : Int)))))) →
                     (true = true) ∧
                     ((true = true) ∧
                      ((true = true) ∧
                       ((true = true) ∧
                        ((true = true) ∧
                         (K [(Arg.v true [(AC.d (D.i IntKind.i64 r1.fst)), (AC.d (D.i IntKind.i64 (IntKind.wrap IntKind.i64 ((IntKind.wrap IntKind.i64 ((((List.length r2.fst) : Nat) : Int) + (1 : Int))) + r3.fst)))), (AC.own (RC.mk (5 : Nat) RK.u8 r2.fst))])] [[(AC.d (D.r RK.u8 r3.snd.b)), (AC.d (D.i IntKind.i64 r3.snd.p))]])))))))))) ∧
                ((true = true) ∧
                 (((true = true) ∧
                   ((true = true) ∧
                    ((((Bytes r2.snd.b) ∧
                       (((List.length r2.snd.b) ≤ (2000 : Nat)) ∧
                        (((0 : Int) ≤ r2.snd.p) ∧
                         (r2.snd.p ≤ (1000000000 : Int))))) ∧
                      ((IntKind.wrap IntKind.i64 ((24 : Int) - (((List.length r2.fst) : Nat) : Int))) ≤ (1000000000 : Int))) ∧
                     (∀ r3 : (Prod Int RdS),
                      ((r3.snd = (RdS.mk r2.snd.b (r2.snd.p + (1 : Int)))) ∧ (((0 : Int) ≤ r3.fst) ∧ ((((1 : Int) ≤ (IntKind.wrap IntKind.i64 ((24 : Int) - (((List.length r2.fst) : Nat) : Int)))) → (r3.fst < (IntKind.wrap IntKind.i64 ((24 : Int) - (((List.length r2.fst) : Nat) : Int))))) ∧ (((IntKind.wrap IntKind.i64 ((24 : Int) - (((List.length r2.fst) : Nat) : Int))) < (1 : Int)) → (r3.fst = (0 : Int)))))) →
                      (true = true) ∧
                      ((true = true) ∧
                       ((true = true) ∧
                        ((true = true) ∧
                         ((true = true) ∧
                          (K [(Arg.v true [(AC.d (D.i IntKind.i64 r1.fst)), (AC.d (D.i IntKind.i64 (IntKind.wrap IntKind.i64 ((IntKind.wrap IntKind.i64 ((((List.length r2.fst) : Nat) : Int) + (1 : Int))) + r3.fst)))), (AC.own (RC.mk (5 : Nat) RK.u8 r2.fst))])] [[(AC.d (D.r RK.u8 r3.snd.b)), (AC.d (D.i IntKind.i64 r3.snd.p))]]))))))))) ∧
                  ((true = true) ∧
                   ((((Bytes r2.snd.b) ∧
                      (((List.length r2.snd.b) ≤ (2000 : Nat)) ∧
                       (((0 : Int) ≤ r2.snd.p) ∧
                        (r2.snd.p ≤ (1000000000 : Int))))) ∧
                     ((IntKind.wrap IntKind.i64 ((24 : Int) - (((List.length r2.fst) : Nat) : Int))) ≤ (1000000000 : Int))) ∧
                    (∀ r3 : (Prod Int RdS),
                     ((r3.snd = (RdS.mk r2.snd.b (r2.snd.p + (1 : Int)))) ∧ (((0 : Int) ≤ r3.fst) ∧ ((((1 : Int) ≤ (IntKind.wrap IntKind.i64 ((24 : Int) - (((List.length r2.fst) : Nat) : Int)))) → (r3.fst < (IntKind.wrap IntKind.i64 ((24 : Int) - (((List.length r2.fst) : Nat) : Int))))) ∧ (((IntKind.wrap IntKind.i64 ((24 : Int) - (((List.length r2.fst) : Nat) : Int))) < (1 : Int)) → (r3.fst = (0 : Int)))))) →
                     (true = true) ∧
                     ((true = true) ∧
                      ((true = true) ∧
                       ((true = true) ∧
                        ((true = true) ∧
                         ((true = true) ∧
                          (K [(Arg.v true [(AC.d (D.i IntKind.i64 r1.fst)), (AC.d (D.i IntKind.i64 (IntKind.wrap IntKind.i64 ((IntKind.wrap IntKind.i64 ((((List.length r2.fst) : Nat) : Int) + (1 : Int))) + r3.fst)))), (AC.own (RC.mk (5 : Nat) RK.u8 r2.fst))])] [[(AC.d (D.r RK.u8 r3.snd.b)), (AC.d (D.i IntKind.i64 r3.snd.p))]]))))))))))))))) ∧
            ((true = true) ∧
             (((true = true) ∧
               (((true = true) ∧
                 ((true = true) ∧
                  ((true = true) ∧
                   ((((Bytes r2.snd.b) ∧
                      (((List.length r2.snd.b) ≤ (2000 : Nat)) ∧
                       (((0 : Int) ≤ r2.snd.p) ∧
                        (r2.snd.p ≤ (1000000000 : Int))))) ∧
                     ((IntKind.wrap IntKind.i64 ((24 : Int) - (((List.length r2.fst) : Nat) : Int))) ≤ (1000000000 : Int))) ∧
                    (∀ r3 : (Prod Int RdS),
                     ((r3.snd = (RdS.mk r2.snd.b (r2.snd.p + (1 : Int)))) ∧ (((0 : Int) ≤ r3.fst) ∧ ((((1 : Int) ≤ (IntKind.wrap IntKind.i64 ((24 : Int) - (((List.length r2.fst) : Nat) : Int)))) → (r3.fst < (IntKind.wrap IntKind.i64 ((24 : Int) - (((List.length r2.fst) : Nat) : Int))))) ∧ (((IntKind.wrap IntKind.i64 ((24 : Int) - (((List.length r2.fst) : Nat) : Int))) < (1 : Int)) → (r3.fst = (0 : Int)))))) →
                     (true = true) ∧
                     ((true = true) ∧
                      ((true = true) ∧
                       ((true = true) ∧
                        ((true = true) ∧
                         (K [(Arg.v true [(AC.d (D.i IntKind.i64 r1.fst)), (AC.d (D.i IntKind.i64 (IntKind.wrap IntKind.i64 ((IntKind.wrap IntKind.i64 ((((List.length r2.fst) : Nat) : Int) + (1 : Int))) + r3.fst)))), (AC.own (RC.mk (5 : Nat) RK.u8 r2.fst))])] [[(AC.d (D.r RK.u8 r3.snd.b)), (AC.d (D.i IntKind.i64 r3.snd.p))]])))))))))) ∧
                ((true = true) ∧
                 (((true = true) ∧
                   ((true = true) ∧
                    ((((Bytes r2.snd.b) ∧
                       (((List.length r2.snd.b) ≤ (2000 : Nat)) ∧
                        (((0 : Int) ≤ r2.snd.p) ∧
                         (r2.snd.p ≤ (1000000000 : Int))))) ∧
                      ((IntKind.wrap IntKind.i64 ((24 : Int) - (((List.length r2.fst) : Nat) : Int))) ≤ (1000000000 : Int))) ∧
                     (∀ r3 : (Prod Int RdS),
                      ((r3.snd = (RdS.mk r2.snd.b (r2.snd.p + (1 : Int)))) ∧ (((0 : Int) ≤ r3.fst) ∧ ((((1 : Int) ≤ (IntKind.wrap IntKind.i64 ((24 : Int) - (((List.length r2.fst) : Nat) : Int)))) → (r3.fst < (IntKind.wrap IntKind.i64 ((24 : Int) - (((List.length r2.fst) : Nat) : Int))))) ∧ (((IntKind.wrap IntKind.i64 ((24 : Int) - (((List.length r2.fst) : Nat) : Int))) < (1 : Int)) → (r3.fst = (0 : Int)))))) →
                      (true = true) ∧
                      ((true = true) ∧
                       ((true = true) ∧
                        ((true = true) ∧
                         ((true = true) ∧
                          (K [(Arg.v true [(AC.d (D.i IntKind.i64 r1.fst)), (AC.d (D.i IntKind.i64 (IntKind.wrap IntKind.i64 ((IntKind.wrap IntKind.i64 ((((List.length r2.fst) : Nat) : Int) + (1 : Int))) + r3.fst)))), (AC.own (RC.mk (5 : Nat) RK.u8 r2.fst))])] [[(AC.d (D.r RK.u8 r3.snd.b)), (AC.d (D.i IntKind.i64 r3.snd.p))]]))))))))) ∧
                  ((true = true) ∧
                   ((((Bytes r2.snd.b) ∧
                      (((List.length r2.snd.b) ≤ (2000 : Nat)) ∧
                       (((0 : Int) ≤ r2.snd.p) ∧
                        (r2.snd.p ≤ (1000000000 : Int))))) ∧
                     ((IntKind.wrap IntKind.i64 ((24 : Int) - (((List.length r2.fst) : Nat) : Int))) ≤ (1000000000 : Int))) ∧
                    (∀ r3 : (Prod Int RdS),
                     ((r3.snd = (RdS.mk r2.snd.b (r2.snd.p + (1 : Int)))) ∧ (((0 : Int) ≤ r3.fst) ∧ ((((1 : Int) ≤ (IntKind.wrap IntKind.i64 ((24 : Int) - (((List.length r2.fst) : Nat) : Int)))) → (r3.fst < (IntKind.wrap IntKind.i64 ((24 : Int) - (((List.length r2.fst) : Nat) : Int))))) ∧ (((IntKind.wrap IntKind.i64 ((24 : Int) - (((List.length r2.fst) : Nat) : Int))) < (1 : Int)) → (r3.fst = (0 : Int)))))) →
                     (true = true) ∧
                     ((true = true) ∧
                      ((true = true) ∧
                       ((true = true) ∧
                        ((true = true) ∧
                         ((true = true) ∧
                          (K [(Arg.v true [(AC.d (D.i IntKind.i64 r1.fst)), (AC.d (D.i IntKind.i64 (IntKind.wrap IntKind.i64 ((IntKind.wrap IntKind.i64 ((((List.length r2.fst) : Nat) : Int) + (1 : Int))) + r3.fst)))), (AC.own (RC.mk (5 : Nat) RK.u8 r2.fst))])] [[(AC.d (D.r RK.u8 r3.snd.b)), (AC.d (D.i IntKind.i64 r3.snd.p))]]))))))))))))) ∧
              ((true = true) ∧
               (((true = true) ∧
                 (((true = true) ∧
                   ((true = true) ∧
                    ((((Bytes r2.snd.b) ∧
                       (((List.length r2.snd.b) ≤ (2000 : Nat)) ∧
                        (((0 : Int) ≤ r2.snd.p) ∧
                         (r2.snd.p ≤ (1000000000 : Int))))) ∧
                      ((IntKind.wrap IntKind.i64 ((24 : Int) - (((List.length r2.fst) : Nat) : Int))) ≤ (1000000000 : Int))) ∧
                     (∀ r3 : (Prod Int RdS),
                      ((r3.snd = (RdS.mk r2.snd.b (r2.snd.p + (1 : Int)))) ∧ (((0 : Int) ≤ r3.fst) ∧ ((((1 : Int) ≤ (IntKind.wrap IntKind.i64 ((24 : Int) - (((List.length r2.fst) : Nat) : Int)))) → (r3.fst < (IntKind.wrap IntKind.i64 ((24 : Int) - (((List.length r2.fst) : Nat) : Int))))) ∧ (((IntKind.wrap IntKind.i64 ((24 : Int) - (((List.length r2.fst) : Nat) : Int))) < (1 : Int)) → (r3.fst = (0 : Int)))))) →
                      (true = true) ∧
                      ((true = true) ∧
                       ((true = true) ∧
                        ((true = true) ∧
                         ((true = true) ∧
                          (K [(Arg.v true [(AC.d (D.i IntKind.i64 r1.fst)), (AC.d (D.i IntKind.i64 (IntKind.wrap IntKind.i64 ((IntKind.wrap IntKind.i64 ((((List.length r2.fst) : Nat) : Int) + (1 : Int))) + r3.fst)))), (AC.own (RC.mk (5 : Nat) RK.u8 r2.fst))])] [[(AC.d (D.r RK.u8 r3.snd.b)), (AC.d (D.i IntKind.i64 r3.snd.p))]]))))))))) ∧
                  ((true = true) ∧
                   ((((Bytes r2.snd.b) ∧
                      (((List.length r2.snd.b) ≤ (2000 : Nat)) ∧
                       (((0 : Int) ≤ r2.snd.p) ∧
                        (r2.snd.p ≤ (1000000000 : Int))))) ∧
                     ((IntKind.wrap IntKind.i64 ((24 : Int) - (((List.length r2.fst) : Nat) : Int))) ≤ (1000000000 : Int))) ∧
                    (∀ r3 : (Prod Int RdS),
                     ((r3.snd = (RdS.mk r2.snd.b (r2.snd.p + (1 : Int)))) ∧ (((0 : Int) ≤ r3.fst) ∧ ((((1 : Int) ≤ (IntKind.wrap IntKind.i64 ((24 : Int) - (((List.length r2.fst) : Nat) : Int)))) → (r3.fst < (IntKind.wrap IntKind.i64 ((24 : Int) - (((List.length r2.fst) : Nat) : Int))))) ∧ (((IntKind.wrap IntKind.i64 ((24 : Int) - (((List.length r2.fst) : Nat) : Int))) < (1 : Int)) → (r3.fst = (0 : Int)))))) →
                     (true = true) ∧
                     ((true = true) ∧
                      ((true = true) ∧
                       ((true = true) ∧
                        ((true = true) ∧
                         ((true = true) ∧
                          (K [(Arg.v true [(AC.d (D.i IntKind.i64 r1.fst)), (AC.d (D.i IntKind.i64 (IntKind.wrap IntKind.i64 ((IntKind.wrap IntKind.i64 ((((List.length r2.fst) : Nat) : Int) + (1 : Int))) + r3.fst)))), (AC.own (RC.mk (5 : Nat) RK.u8 r2.fst))])] [[(AC.d (D.r RK.u8 r3.snd.b)), (AC.d (D.i IntKind.i64 r3.snd.p))]]))))))))))) ∧
                ((true = true) ∧
                 ((((Bytes r2.snd.b) ∧
                    (((List.length r2.snd.b) ≤ (2000 : Nat)) ∧
                     (((0 : Int) ≤ r2.snd.p) ∧
                      (r2.snd.p ≤ (1000000000 : Int))))) ∧
                   ((IntKind.wrap IntKind.i64 ((24 : Int) - (((List.length r2.fst) : Nat) : Int))) ≤ (1000000000 : Int))) ∧
                  (∀ r3 : (Prod Int RdS),
                   ((r3.snd = (RdS.mk r2.snd.b (r2.snd.p + (1 : Int)))) ∧ (((0 : Int) ≤ r3.fst) ∧ ((((1 : Int) ≤ (IntKind.wrap IntKind.i64 ((24 : Int) - (((List.length r2.fst) : Nat) : Int)))) → (r3.fst < (IntKind.wrap IntKind.i64 ((24 : Int) - (((List.length r2.fst) : Nat) : Int))))) ∧ (((IntKind.wrap IntKind.i64 ((24 : Int) - (((List.length r2.fst) : Nat) : Int))) < (1 : Int)) → (r3.fst = (0 : Int)))))) →
                   (true = true) ∧
                   ((true = true) ∧
                    ((true = true) ∧
                     ((true = true) ∧
                      ((true = true) ∧
                       ((true = true) ∧
                        ((true = true) ∧
                         (K [(Arg.v true [(AC.d (D.i IntKind.i64 r1.fst)), (AC.d (D.i IntKind.i64 (IntKind.wrap IntKind.i64 ((IntKind.wrap IntKind.i64 ((((List.length r2.fst) : Nat) : Int) + (1 : Int))) + r3.fst)))), (AC.own (RC.mk (5 : Nat) RK.u8 r2.fst))])] [[(AC.d (D.r RK.u8 r3.snd.b)), (AC.d (D.i IntKind.i64 r3.snd.p))]])))))))))))))))
           else
            ((true = true) ∧
            (K [(Arg.v true [(AC.d (D.i IntKind.i64 r1.fst)), (AC.d (D.i IntKind.i64 (((List.length r2.fst) : Nat) : Int))), (AC.own (RC.mk (5 : Nat) RK.u8 r2.fst))])] [[(AC.d (D.r RK.u8 r2.snd.b)), (AC.d (D.i IntKind.i64 r2.snd.p))]])))
          else
           (if ((r1.fst == (1 : Int)) = true) then
            (((true = true) ∧
             (((true = true) ∧
               ((true = true) ∧
                ((true = true) ∧
                 ((true = true) ∧
                  ((((Bytes r2.snd.b) ∧
                     (((List.length r2.snd.b) ≤ (2000 : Nat)) ∧
                      (((0 : Int) ≤ r2.snd.p) ∧
                       (r2.snd.p ≤ (1000000000 : Int))))) ∧
                    ((IntKind.wrap IntKind.i64 ((24 : Int) - (((List.length r2.fst) : Nat) : Int))) ≤ (1000000000 : Int))) ∧
                   (∀ r3 : (Prod Int RdS),
                    ((r3.snd = (RdS.mk r2.snd.b (r2.snd.p + (1 : Int)))) ∧ (((0 : Int) ≤ r3.fst) ∧ ((((1 : Int) ≤ (IntKind.wrap IntKind.i64 ((24 : Int) - (((List.length r2.fst) : Nat) : Int)))) → (r3.fst < (IntKind.wrap IntKind.i64 ((24 : Int) - (((List.length r2.fst) : Nat) : Int))))) ∧ (((IntKind.wrap IntKind.i64 ((24 : Int) - (((List.length r2.fst) : Nat) : Int))) < (1 : Int)) → (r3.fst = (0 : Int)))))) →
                    (true = true) ∧
                    ((true = true) ∧
                     ((true = true) ∧
                      ((true = true) ∧
                       ((true = true) ∧
                        (K [(Arg.v true [(AC.d (D.i IntKind.i64 r1.fst)), (AC.d (D.i IntKind.i64 (IntKind.wrap IntKind.i64 ((IntKind.wrap IntKind.i64 ((((List.length r2.fst) : Nat) : Int) + (1 : Int))) + r3.fst)))), (AC.own (RC.mk (5 : Nat) RK.u8 r2.fst))])] [[(AC.d (D.r RK.u8 r3.snd.b)), (AC.d (D.i IntKind.i64 r3.snd.p))]]))))))))))) ∧
              ((true = true) ∧
               (((true = true) ∧
                 ((true = true) ∧
                  ((true = true) ∧
                   ((((Bytes r2.snd.b) ∧
                      (((List.length r2.snd.b) ≤ (2000 : Nat)) ∧
                       (((0 : Int) ≤ r2.snd.p) ∧
                        (r2.snd.p ≤ (1000000000 : Int))))) ∧
                     ((IntKind.wrap IntKind.i64 ((24 : Int) - (((List.length r2.fst) : Nat) : Int))) ≤ (1000000000 : Int))) ∧
                    (∀ r3 : (Prod Int RdS),
                     ((r3.snd = (RdS.mk r2.snd.b (r2.snd.p + (1 : Int)))) ∧ (((0 : Int) ≤ r3.fst) ∧ ((((1 : Int) ≤ (IntKind.wrap IntKind.i64 ((24 : Int) - (((List.length r2.fst) : Nat) : Int)))) → (r3.fst < (IntKind.wrap IntKind.i64 ((24 : Int) - (((List.length r2.fst) : Nat) : Int))))) ∧ (((IntKind.wrap IntKind.i64 ((24 : Int) - (((List.length r2.fst) : Nat) : Int))) < (1 : Int)) → (r3.fst = (0 : Int)))))) →
                     (true = true) ∧
                     ((true = true) ∧
                      ((true = true) ∧
                       ((true = true) ∧
                        ((true = true) ∧
                         (K [(Arg.v true [(AC.d (D.i IntKind.i64 r1.fst)), (AC.d (D.i IntKind.i64 (IntKind.wrap IntKind.i64 ((IntKind.wrap IntKind.i64 ((((List.length r2.fst) : Nat) : Int) + (1 : Int))) + r3.fst)))), (AC.own (RC.mk (5 : Nat) RK.u8 r2.fst))])] [[(AC.d (D.r RK.u8 r3.snd.b)), (AC.d (D.i IntKind.i64 r3.snd.p))]])))))))))) ∧
                ((true = true) ∧
                 (((true = true) ∧
                   ((true = true) ∧
                    ((((Bytes r2.snd.b) ∧
                       (((List.length r2.snd.b) ≤ (2000 : Nat)) ∧
                        (((0 : Int) ≤ r2.snd.p) ∧
                         (r2.snd.p ≤ (1000000000 : Int))))) ∧
                      ((IntKind.wrap IntKind.i64 ((24 : Int) - (((List.length r2.fst) : Nat) : Int))) ≤ (1000000000 : Int))) ∧
                     (∀ r3 : (Prod Int RdS),
                      ((r3.snd = (RdS.mk r2.snd.b (r2.snd.p + (1 : Int)))) ∧ (((0 : Int) ≤ r3.fst) ∧ ((((1 : Int) ≤ (IntKind.wrap IntKind.i64 ((24 : Int) - (((List.length r2.fst) : Nat) : Int)))) → (r3.fst < (IntKind.wrap IntKind.i64 ((24 : Int) - (((List.length r2.fst) : Nat) : Int))))) ∧ (((IntKind.wrap IntKind.i64 ((24 : Int) - (((List.length r2.fst) : Nat) : Int))) < (1 : Int)) → (r3.fst = (0 : Int)))))) →
                      (true = true) ∧
                      ((true = true) ∧
                       ((true = true) ∧
                        ((true = true) ∧
                         ((true = true) ∧
                          (K [(Arg.v true [(AC.d (D.i IntKind.i64 r1.fst)), (AC.d (D.i IntKind.i64 (IntKind.wrap IntKind.i64 ((IntKind.wrap IntKind.i64 ((((List.length r2.fst) : Nat) : Int) + (1 : Int))) + r3.fst)))), (AC.own (RC.mk (5 : Nat) RK.u8 r2.fst))])] [[(AC.d (D.r RK.u8 r3.snd.b)), (AC.d (D.i IntKind.i64 r3.snd.p))]]))))))))) ∧
                  ((true = true) ∧
                   ((((Bytes r2.snd.b) ∧
                      (((List.length r2.snd.b) ≤ (2000 : Nat)) ∧
                       (((0 : Int) ≤ r2.snd.p) ∧
                        (r2.snd.p ≤ (1000000000 : Int))))) ∧
                     ((IntKind.wrap IntKind.i64 ((24 : Int) - (((List.length r2.fst) : Nat) : Int))) ≤ (1000000000 : Int))) ∧
                    (∀ r3 : (Prod Int RdS),
                     ((r3.snd = (RdS.mk r2.snd.b (r2.snd.p + (1 : Int)))) ∧ (((0 : Int) ≤ r3.fst) ∧ ((((1 : Int) ≤ (IntKind.wrap IntKind.i64 ((24 : Int) - (((List.length r2.fst) : Nat) : Int)))) → (r3.fst < (IntKind.wrap IntKind.i64 ((24 : Int) - (((List.length r2.fst) : Nat) : Int))))) ∧ (((IntKind.wrap IntKind.i64 ((24 : Int) - (((List.length r2.fst) : Nat) : Int))) < (1 : Int)) → (r3.fst = (0 : Int)))))) →
                     (true = true) ∧
                     ((true = true) ∧
                      ((true = true) ∧
                       ((true = true) ∧
                        ((true = true) ∧
                         ((true = true) ∧
                          (K [(Arg.v true [(AC.d (D.i IntKind.i64 r1.fst)), (AC.d (D.i IntKind.i64 (IntKind.wrap IntKind.i64 ((IntKind.wrap IntKind.i64 ((((List.length r2.fst) : Nat) : Int) + (1 : Int))) + r3.fst)))), (AC.own (RC.mk (5 : Nat) RK.u8 r2.fst))])] [[(AC.d (D.r RK.u8 r3.snd.b)), (AC.d (D.i IntKind.i64 r3.snd.p))]]))))))))))))))) ∧
            ((true = true) ∧
             (((true = true) ∧
               (((true = true) ∧
                 ((true = true) ∧
                  ((true = true) ∧
                   ((((Bytes r2.snd.b) ∧
                      (((List.length r2.snd.b) ≤ (2000 : Nat)) ∧
                       (((0 : Int) ≤ r2.snd.p) ∧
                        (r2.snd.p ≤ (1000000000 : Int))))) ∧
                     ((IntKind.wrap IntKind.i64 ((24 : Int) - (((List.length r2.fst) : Nat) : Int))) ≤ (1000000000 : Int))) ∧
                    (∀ r3 : (Prod Int RdS),
                     ((r3.snd = (RdS.mk r2.snd.b (r2.snd.p + (1 : Int)))) ∧ (((0 : Int) ≤ r3.fst) ∧ ((((1 : Int) ≤ (IntKind.wrap IntKind.i64 ((24 : Int) - (((List.length r2.fst) : Nat) : Int)))) → (r3.fst < (IntKind.wrap IntKind.i64 ((24 : Int) - (((List.length r2.fst) : Nat) : Int))))) ∧ (((IntKind.wrap IntKind.i64 ((24 : Int) - (((List.length r2.fst) : Nat) : Int))) < (1 : Int)) → (r3.fst = (0 : Int)))))) →
                     (true = true) ∧
                     ((true = true) ∧
                      ((true = true) ∧
                       ((true = true) ∧
                        ((true = true) ∧
                         (K [(Arg.v true [(AC.d (D.i IntKind.i64 r1.fst)), (AC.d (D.i IntKind.i64 (IntKind.wrap IntKind.i64 ((IntKind.wrap IntKind.i64 ((((List.length r2.fst) : Nat) : Int) + (1 : Int))) + r3.fst)))), (AC.own (RC.mk (5 : Nat) RK.u8 r2.fst))])] [[(AC.d (D.r RK.u8 r3.snd.b)), (AC.d (D.i IntKind.i64 r3.snd.p))]])))))))))) ∧
                ((true = true) ∧
                 (((true = true) ∧
                   ((true = true) ∧
                    ((((Bytes r2.snd.b) ∧
                       (((List.length r2.snd.b) ≤ (2000 : Nat)) ∧
                        (((0 : Int) ≤ r2.snd.p) ∧
                         (r2.snd.p ≤ (1000000000 : Int))))) ∧
                      ((IntKind.wrap IntKind.i64 ((24 : Int) - (((List.length r2.fst) : Nat) : Int))) ≤ (1000000000 : Int))) ∧
                     (∀ r3 : (Prod Int RdS),
                      ((r3.snd = (RdS.mk r2.snd.b (r2.snd.p + (1 : Int)))) ∧ (((0 : Int) ≤ r3.fst) ∧ ((((1 : Int) ≤ (IntKind.wrap IntKind.i64 ((24 : Int) - (((List.length r2.fst) : Nat) : Int)))) → (r3.fst < (IntKind.wrap IntKind.i64 ((24 : Int) - (((List.length r2.fst) : Nat) : Int))))) ∧ (((IntKind.wrap IntKind.i64 ((24 : Int) - (((List.length r2.fst) : Nat) : Int))) < (1 : Int)) → (r3.fst = (0 : Int)))))) →
                      (true = true) ∧
                      ((true = true) ∧
                       ((true = true) ∧
                        ((true = true) ∧
                         ((true = true) ∧
                          (K [(Arg.v true [(AC.d (D.i IntKind.i64 r1.fst)), (AC.d (D.i IntKind.i64 (IntKind.wrap IntKind.i64 ((IntKind.wrap IntKind.i64 ((((List.length r2.fst) : Nat) : Int) + (1 : Int))) + r3.fst)))), (AC.own (RC.mk (5 : Nat) RK.u8 r2.fst))])] [[(AC.d (D.r RK.u8 r3.snd.b)), (AC.d (D.i IntKind.i64 r3.snd.p))]]))))))))) ∧
                  ((true = true) ∧
                   ((((Bytes r2.snd.b) ∧
                      (((List.length r2.snd.b) ≤ (2000 : Nat)) ∧
                       (((0 : Int) ≤ r2.snd.p) ∧
                        (r2.snd.p ≤ (1000000000 : Int))))) ∧
                     ((IntKind.wrap IntKind.i64 ((24 : Int) - (((List.length r2.fst) : Nat) : Int))) ≤ (1000000000 : Int))) ∧
                    (∀ r3 : (Prod Int RdS),
                     ((r3.snd = (RdS.mk r2.snd.b (r2.snd.p + (1 : Int)))) ∧ (((0 : Int) ≤ r3.fst) ∧ ((((1 : Int) ≤ (IntKind.wrap IntKind.i64 ((24 : Int) - (((List.length r2.fst) : Nat) : Int)))) → (r3.fst < (IntKind.wrap IntKind.i64 ((24 : Int) - (((List.length r2.fst) : Nat) : Int))))) ∧ (((IntKind.wrap IntKind.i64 ((24 : Int) - (((List.length r2.fst) : Nat) : Int))) < (1 : Int)) → (r3.fst = (0 : Int)))))) →
                     (true = true) ∧
                     ((true = true) ∧
                      ((true = true) ∧
                       ((true = true) ∧
                        ((true = true) ∧
                         ((true = true) ∧
                          (K [(Arg.v true [(AC.d (D.i IntKind.i64 r1.fst)), (AC.d (D.i IntKind.i64 (IntKind.wrap IntKind.i64 ((IntKind.wrap IntKind.i64 ((((List.length r2.fst) : Nat) : Int) + (1 : Int))) + r3.fst)))), (AC.own (RC.mk (5 : Nat) RK.u8 r2.fst))])] [[(AC.d (D.r RK.u8 r3.snd.b)), (AC.d (D.i IntKind.i64 r3.snd.p))]]))))))))))))) ∧
              ((true = true) ∧
               (((true = true) ∧
                 (((true = true) ∧
                   ((true = true) ∧
                    ((((Bytes r2.snd.b) ∧
                       (((List.length r2.snd.b) ≤ (2000 : Nat)) ∧
                        (((0 : Int) ≤ r2.snd.p) ∧
                         (r2.snd.p ≤ (1000000000 : Int))))) ∧
                      ((IntKind.wrap IntKind.i64 ((24 : Int) - (((List.length r2.fst) : Nat) : Int))) ≤ (1000000000 : Int))) ∧
                     (∀ r3 : (Prod Int RdS),
                      ((r3.snd = (RdS.mk r2.snd.b (r2.snd.p + (1 : Int)))) ∧ (((0 : Int) ≤ r3.fst) ∧ ((((1 : Int) ≤ (IntKind.wrap IntKind.i64 ((24 : Int) - (((List.length r2.fst) : Nat) : Int)))) → (r3.fst < (IntKind.wrap IntKind.i64 ((24 : Int) - (((List.length r2.fst) : Nat) : Int))))) ∧ (((IntKind.wrap IntKind.i64 ((24 : Int) - (((List.length r2.fst) : Nat) : Int))) < (1 : Int)) → (r3.fst = (0 : Int)))))) →
                      (true = true) ∧
                      ((true = true) ∧
                       ((true = true) ∧
                        ((true = true) ∧
                         ((true = true) ∧
                          (K [(Arg.v true [(AC.d (D.i IntKind.i64 r1.fst)), (AC.d (D.i IntKind.i64 (IntKind.wrap IntKind.i64 ((IntKind.wrap IntKind.i64 ((((List.length r2.fst) : Nat) : Int) + (1 : Int))) + r3.fst)))), (AC.own (RC.mk (5 : Nat) RK.u8 r2.fst))])] [[(AC.d (D.r RK.u8 r3.snd.b)), (AC.d (D.i IntKind.i64 r3.snd.p))]]))))))))) ∧
                  ((true = true) ∧
                   ((((Bytes r2.snd.b) ∧
                      (((List.length r2.snd.b) ≤ (2000 : Nat)) ∧
                       (((0 : Int) ≤ r2.snd.p) ∧
                        (r2.snd.p ≤ (1000000000 : Int))))) ∧
                     ((IntKind.wrap IntKind.i64 ((24 : Int) - (((List.length r2.fst) : Nat) : Int))) ≤ (1000000000 : Int))) ∧
                    (∀ r3 : (Prod Int RdS),
                     ((r3.snd = (RdS.mk r2.snd.b (r2.snd.p + (1 : Int)))) ∧ (((0 : Int) ≤ r3.fst) ∧ ((((1 : Int) ≤ (IntKind.wrap IntKind.i64 ((24 : Int) - (((List.length r2.fst) : Nat) : Int)))) → (r3.fst < (IntKind.wrap IntKind.i64 ((24 : Int) - (((List.length r2.fst) : Nat) : Int))))) ∧ (((IntKind.wrap IntKind.i64 ((24 : Int) - (((List.length r2.fst) : Nat) : Int))) < (1 : Int)) → (r3.fst = (0 : Int)))))) →
                     (true = true) ∧
                     ((true = true) ∧
                      ((true = true) ∧
                       ((true = true) ∧
                        ((true = true) ∧
                         ((true = true) ∧
                          (K [(Arg.v true [(AC.d (D.i IntKind.i64 r1.fst)), (AC.d (D.i IntKind.i64 (IntKind.wrap IntKind.i64 ((IntKind.wrap IntKind.i64 ((((List.length r2.fst) : Nat) : Int) + (1 : Int))) + r3.fst)))), (AC.own (RC.mk (5 : Nat) RK.u8 r2.fst))])] [[(AC.d (D.r RK.u8 r3.snd.b)), (AC.d (D.i IntKind.i64 r3.snd.p))]]))))))))))) ∧
                ((true = true) ∧
                 ((((Bytes r2.snd.b) ∧
                    (((List.length r2.snd.b) ≤ (2000 : Nat)) ∧
                     (((0 : Int) ≤ r2.snd.p) ∧
                      (r2.snd.p ≤ (1000000000 : Int))))) ∧
                   ((IntKind.wrap IntKind.i64 ((24 : Int) - (((List.length r2.fst) : Nat) : Int))) ≤ (1000000000 : Int))) ∧
                  (∀ r3 : (Prod Int RdS),
                   ((r3.snd = (RdS.mk r2.snd.b (r2.snd.p + (1 : Int)))) ∧ (((0 : Int) ≤ r3.fst) ∧ ((((1 : Int) ≤ (IntKind.wrap IntKind.i64 ((24 : Int) - (((List.length r2.fst) : Nat) : Int)))) → (r3.fst < (IntKind.wrap IntKind.i64 ((24 : Int) - (((List.length r2.fst) : Nat) : Int))))) ∧ (((IntKind.wrap IntKind.i64 ((24 : Int) - (((List.length r2.fst) : Nat) : Int))) < (1 : Int)) → (r3.fst = (0 : Int)))))) →
                   (true = true) ∧
                   ((true = true) ∧
                    ((true = true) ∧
                     ((true = true) ∧
                      ((true = true) ∧
                       ((true = true) ∧
                        ((true = true) ∧
                         (K [(Arg.v true [(AC.d (D.i IntKind.i64 r1.fst)), (AC.d (D.i IntKind.i64 (IntKind.wrap IntKind.i64 ((IntKind.wrap IntKind.i64 ((((List.length r2.fst) : Nat) : Int) + (1 : Int))) + r3.fst)))), (AC.own (RC.mk (5 : Nat) RK.u8 r2.fst))])] [[(AC.d (D.r RK.u8 r3.snd.b)), (AC.d (D.i IntKind.i64 r3.snd.p))]])))))))))))))))
           else
            ((true = true) ∧
            (K [(Arg.v true [(AC.d (D.i IntKind.i64 r1.fst)), (AC.d (D.i IntKind.i64 (0 : Int))), (AC.own (RC.mk (5 : Nat) RK.u8 r2.fst))])] [[(AC.d (D.r RK.u8 r2.snd.b)), (AC.d (D.i IntKind.i64 r2.snd.p))]])))))
        else
         (if ((r1.fst == (0 : Int)) = true) then
          (if ((r1.fst == (1 : Int)) = true) then
           (((true = true) ∧
            (((true = true) ∧
              ((true = true) ∧
               ((true = true) ∧
                ((true = true) ∧
                 ((((Bytes r2.snd.b) ∧
                    (((List.length r2.snd.b) ≤ (2000 : Nat)) ∧
                     (((0 : Int) ≤ r2.snd.p) ∧
                      (r2.snd.p ≤ (1000000000 : Int))))) ∧
                   ((IntKind.wrap IntKind.i64 ((24 : Int) - (((List.length r2.fst) : Nat) : Int))) ≤ (1000000000 : Int))) ∧
                  (∀ r3 : (Prod Int RdS),
                   ((r3.snd = (RdS.mk r2.snd.b (r2.snd.p + (1 : Int)))) ∧ (((0 : Int) ≤ r3.fst) ∧ ((((1 : Int) ≤ (IntKind.wrap IntKind.i64 ((24 : Int) - (((List.length r2.fst) : Nat) : Int)))) → (r3.fst < (IntKind.wrap IntKind.i64 ((24 : Int) - (((List.length r2.fst) : Nat) : Int))))) ∧ (((IntKind.wrap IntKind.i64 ((24 : Int) - (((List.length r2.fst) : Nat) : Int))) < (1 : Int)) → (r3.fst = (0 : Int)))))) →
                   (true = true) ∧
                   ((true = true) ∧
                    ((true = true) ∧
                     ((true = true) ∧
                      ((true = true) ∧
                       (K [(Arg.v true [(AC.d (D.i IntKind.i64 r1.fst)), (AC.d (D.i IntKind.i64 (IntKind.wrap IntKind.i64 ((IntKind.wrap IntKind.i64 ((((List.length r2.fst) : Nat) : Int) + (1 : Int))) + r3.fst)))), (AC.own (RC.mk (5 : Nat) RK.u8 r2.fst))])] [[(AC.d (D.r RK.u8 r3.snd.b)), (AC.d (D.i IntKind.i64 r3.snd.p))]]))))))))))) ∧
             ((true = true) ∧
              (((true = true) ∧
                ((true = true) ∧
                 ((true = true) ∧
                  ((((Bytes r2.snd.b) ∧
                     (((List.length r2.snd.b) ≤ (2000 : Nat)) ∧
                      (((0 : Int) ≤ r2.snd.p) ∧
                       (r2.snd.p ≤ (1000000000 : Int))))) ∧
                    ((IntKind.wrap IntKind.i64 ((24 : Int) - (((List.length r2.fst) : Nat) : Int))) ≤ (1000000000 : Int))) ∧
                   (∀ r3 : (Prod Int RdS),
                    ((r3.snd = (RdS.mk r2.snd.b (r2.snd.p + (1 : Int)))) ∧ (((0 : Int) ≤ r3.fst) ∧ ((((1 : Int) ≤ (IntKind.wrap IntKind.i64 ((24 : Int) - (((List.length r2.fst) : Nat) : Int)))) → (r3.fst < (IntKind.wrap IntKind.i64 ((24 : Int) - (((List.length r2.fst) : Nat) : Int))))) ∧ (((IntKind.wrap IntKind.i64 ((24 : Int) - (((List.length r2.fst) : Nat) : Int))) < (1 : Int)) → (r3.fst = (0 : Int)))))) →
                    (true = true) ∧
                    ((true = true) ∧
                     ((true = true) ∧
                      ((true = true) ∧
                       ((true = true) ∧
                        (K [(Arg.v true [(AC.d (D.i IntKind.i64 r1.fst)), (AC.d (D.i IntKind.i64 (IntKind.wrap IntKind.i64 ((IntKind.wrap IntKind.i64 ((((List.length r2.fst) : Nat) : Int) + (1 : Int))) + r3.fst)))), (AC.own (RC.mk (5 : Nat) RK.u8 r2.fst))])] [[(AC.d (D.r RK.u8 r3.snd.b)), (AC.d (D.i IntKind.i64 r3.snd.p))]])))))))))) ∧
               ((true = true) ∧
                (((true = true) ∧
                  ((true = true) ∧
                   ((((Bytes r2.snd.b) ∧
                      (((List.length r2.snd.b) ≤ (2000 : Nat)) ∧
                       (((0 : Int) ≤ r2.snd.p) ∧
                        (r2.snd.p ≤ (1000000000 : Int))))) ∧
                     ((IntKind.wrap IntKind.i64 ((24 : Int) - (((List.length r2.fst) : Nat) : Int))) ≤ (1000000000 : Int))) ∧
                    (∀ r3 : (Prod Int RdS),
                     ((r3.snd = (RdS.mk r2.snd.b (r2.snd.p + (1 : Int)))) ∧ (((0 : Int) ≤ r3.fst) ∧ ((((1 : Int) ≤ (IntKind.wrap IntKind.i64 ((24 : Int) - (((List.length r2.fst) : Nat) : Int)))) → (r3.fst < (IntKind.wrap IntKind.i64 ((24 : Int) - (((List.length r2.fst) : Nat) : Int))))) ∧ (((IntKind.wrap IntKind.i64 ((24 : Int) - (((List.length r2.fst) : Nat) : Int))) < (1 : Int)) → (r3.fst = (0 : Int)))))) →
                     (true = true) ∧
                     ((true = true) ∧
                      ((true = true) ∧
                       ((true = true) ∧
                        ((true = true) ∧
                         (K [(Arg.v true [(AC.d (D.i IntKind.i64 r1.fst)), (AC.d (D.i IntKind.i64 (IntKind.wrap IntKind.i64 ((IntKind.wrap IntKind.i64 ((((List.length r2.fst) : Nat) : Int) + (1 : Int))) + r3.fst)))), (AC.own (RC.mk (5 : Nat) RK.u8 r2.fst))])] [[(AC.d (D.r RK.u8 r3.snd.b)), (AC.d (D.i IntKind.i64 r3.snd.p))]]))))))))) ∧
                 ((true = true) ∧
                  ((((Bytes r2.snd.b) ∧
                     (((List.length r2.snd.b) ≤ (2000 : Nat)) ∧
                      (((0 : Int) ≤ r2.snd.p) ∧
                       (r2.snd.p ≤ (1000000000 : Int))))) ∧
                    ((IntKind.wrap IntKind.i64 ((24 : Int) - (((List.length r2.fst) : Nat) : Int))) ≤ (1000000000 : Int))) ∧
                   (∀ r3 : (Prod Int RdS),
                    ((r3.snd = (RdS.mk r2.snd.b (r2.snd.p + (1 : Int)))) ∧ (((0 : Int) ≤ r3.fst) ∧ ((((1 : Int) ≤ (IntKind.wrap IntKind.i64 ((24 : Int) - (((List.length r2.fst) : Nat) : Int)))) → (r3.fst < (IntKind.wrap IntKind.i64 ((24 : Int) - (((List.length r2.fst) : Nat) : Int))))) ∧ (((IntKind.wrap IntKind.i64 ((24 : Int) - (((List.length r2.fst) : Nat) : Int))) < (1 : Int)) → (r3.fst = (0 : Int)))))) →
                    (true = true) ∧
                    ((true = true) ∧
                     ((true = true) ∧
                      ((true = true) ∧
                       ((true = true) ∧
                        ((true = true) ∧
                         (K [(Arg.v true [(AC.d (D.i IntKind.i64 r1.fst)), (AC.d (D.i IntKind.i64 (IntKind.wrap IntKind.i64 ((IntKind.wrap IntKind.i64 ((((List.length r2.fst) : Nat) : Int) + (1 : Int))) + r3.fst)))), (AC.own (RC.mk (5 : Nat) RK.u8 r2.fst))])] [[(AC.d (D.r RK.u8 r3.snd.b)), (AC.d (D.i IntKind.i64 r3.snd.p))]]))))))))))))))) ∧
           ((true = true) ∧
            (((true = true) ∧
              (((true = true) ∧
                ((true = true) ∧
                 ((true = true) ∧
                  ((((Bytes r2.snd.b) ∧
                     (((List.length r2.snd.b) ≤ (2000 : Nat)) ∧
                      (((0 : Int) ≤ r2.snd.p) ∧
                       (r2.snd.p ≤ (1000000000 : Int))))) ∧
                    ((IntKind.wrap IntKind.i64 ((24 : Int) - (((List.length r2.fst) : Nat) : Int))) ≤ (1000000000 : Int))) ∧
                   (∀ r3 : (Prod Int RdS),
                    ((r3.snd = (RdS.mk r2.snd.b (r2.snd.p + (1 : Int)))) ∧ (((0 : Int) ≤ r3.fst) ∧ ((((1 : Int) ≤ (IntKind.wrap IntKind.i64 ((24 : Int) - (((List.length r2.fst) : Nat) : Int)))) → (r3.fst < (IntKind.wrap IntKind.i64 ((24 : Int) - (((List.length r2.fst) : Nat) : Int))))) ∧ (((IntKind.wrap IntKind.i64 ((24 : Int) - (((List.length r2.fst) : Nat) : Int))) < (1 : Int)) → (r3.fst = (0 : Int)))))) →
                    (true = true) ∧
                    ((true = true) ∧
                     ((true = true) ∧
                      ((true = true) ∧
                       ((true = true) ∧
                        (K [(Arg.v true [(AC.d (D.i IntKind.i64 r1.fst)), (AC.d (D.i IntKind.i64 (IntKind.wrap IntKind.i64 ((IntKind.wrap IntKind.i64 ((((List.length r2.fst) : Nat) : Int) + (1 : Int))) + r3.fst)))), (AC.own (RC.mk (5 : Nat) RK.u8 r2.fst))])] [[(AC.d (D.r RK.u8 r3.snd.b)), (AC.d (D.i IntKind.i64 r3.snd.p))]])))))))))) ∧
               ((true = true) ∧
                (((true = true) ∧
                  ((true = true) ∧
                   ((((Bytes r2.snd.b) ∧
                      (((List.length r2.snd.b) ≤ (2000 : Nat)) ∧
                       (((0 : Int) ≤ r2.snd.p) ∧
                        (r2.snd.p ≤ (1000000000 : Int))))) ∧
                     ((IntKind.wrap IntKind.i64 ((24 : Int) - (((List.length r2.fst) : Nat) : Int))) ≤ (1000000000 : Int))) ∧
                    (∀ r3 : (Prod Int RdS),
                     ((r3.snd = (RdS.mk r2.snd.b (r2.snd.p + (1 : Int)))) ∧ (((0 : Int) ≤ r3.fst) ∧ ((((1 : Int) ≤ (IntKind.wrap IntKind.i64 ((24 : Int) - (((List.length r2.fst) : Nat) : Int)))) → (r3.fst < (IntKind.wrap IntKind.i64 ((24 : Int) - (((List.length r2.fst) : Nat) : Int))))) ∧ (((IntKind.wrap IntKind.i64 ((24 : Int) - (((List.length r2.fst) : Nat) : Int))) < (1 : Int)) → (r3.fst = (0 : Int)))))) →
                     (true = true) ∧
                     ((true = true) ∧
                      ((true = true) ∧
                       ((true = true) ∧
                        ((true = true) ∧
                         (K [(Arg.v true [(AC.d (D.i IntKind.i64 r1.fst)), (AC.d (D.i IntKind.i64 (IntKind.wrap IntKind.i64 ((IntKind.wrap IntKind.i64 ((((List.length r2.fst) : Nat) : Int) + (1 : Int))) + r3.fst)))), (AC.own (RC.mk (5 : Nat) RK.u8 r2.fst))])] [[(AC.d (D.r RK.u8 r3.snd.b)), (AC.d (D.i IntKind.i64 r3.snd.p))]]))))))))) ∧
                 ((true = true) ∧
                  ((((Bytes r2.snd.b) ∧
                     (((List.length r2.snd.b) ≤ (2000 : Nat)) ∧
                      (((0 : Int) ≤ r2.snd.p) ∧
                       (r2.snd.p ≤ (1000000000 : Int))))) ∧
                    ((IntKind.wrap IntKind.i64 ((24 : Int) - (((List.length r2.fst) : Nat) : Int))) ≤ (1000000000 : Int))) ∧
                   (∀ r3 : (Prod Int RdS),
                    ((r3.snd = (RdS.mk r2.snd.b (r2.snd.p + (1 : Int)))) ∧ (((0 : Int) ≤ r3.fst) ∧ ((((1 : Int) ≤ (IntKind.wrap IntKind.i64 ((24 : Int) - (((List.length r2.fst) : Nat) : Int)))) → (r3.fst < (IntKind.wrap IntKind.i64 ((24 : Int) - (((List.length r2.fst) : Nat) : Int))))) ∧ (((IntKind.wrap IntKind.i64 ((24 : Int) - (((List.length r2.fst) : Nat) : Int))) < (1 : Int)) → (r3.fst = (0 : Int)))))) →
                    (true = true) ∧
                    ((true = true) ∧
                     ((true = true) ∧
                      ((true = true) ∧
                       ((true = true) ∧
                        ((true = true) ∧
                         (K [(Arg.v true [(AC.d (D.i IntKind.i64 r1.fst)), (AC.d (D.i IntKind.i64 (IntKind.wrap IntKind.i64 ((IntKind.wrap IntKind.i64 ((((List.length r2.fst) : Nat) : Int) + (1 : Int))) + r3.fst)))), (AC.own (RC.mk (5 : Nat) RK.u8 r2.fst))])] [[(AC.d (D.r RK.u8 r3.snd.b)), (AC.d (D.i IntKind.i64 r3.snd.p))]]))))))))))))) ∧
             ((true = true) ∧
              (((true = true) ∧
                (((true = true) ∧
                  ((true = true) ∧
                   ((((Bytes r2.snd.b) ∧
                      (((List.length r2.snd.b) ≤ (2000 : Nat)) ∧
                       (((0 : Int) ≤ r2.snd.p) ∧
                        (r2.snd.p ≤ (1000000000 : Int))))) ∧
                     ((IntKind.wrap IntKind.i64 ((24 : Int) - (((List.length r2.fst) : Nat) : Int))) ≤ (1000000000 : Int))) ∧
                    (∀ r3 : (Prod Int RdS),
                     ((r3.snd = (RdS.mk r2.snd.b (r2.snd.p + (1 : Int)))) ∧ (((0 : Int) ≤ r3.fst) ∧ ((((1 : Int) ≤ (IntKind.wrap IntKind.i64 ((24 : Int) - (((List.length r2.fst) : Nat) : Int)))) → (r3.fst < (IntKind.wrap IntKind.i64 ((24 : Int) - (((List.length r2.fst) : Nat) : Int))))) ∧ (((IntKind.wrap IntKind.i64 ((24 : Int) - (((List.length r2.fst) : Nat) : Int))) < (1 : Int)) → (r3.fst = (0 : Int)))))) →
                     (true = true) ∧
                     ((true = true) ∧
                      ((true = true) ∧
                       ((true = true) ∧
                        ((true = true) ∧
                         (K [(Arg.v true [(AC.d (D.i IntKind.i64 r1.fst)), (AC.d (D.i IntKind.i64 (IntKind.wrap IntKind.i64 ((IntKind.wrap IntKind.i64 ((((List.length r2.fst) : Nat) : Int) + (1 : Int))) + r3.fst)))), (AC.own (RC.mk (5 : Nat) RK.u8 r2.fst))])] [[(AC.d (D.r RK.u8 r3.snd.b)), (AC.d (D.i IntKind.i64 r3.snd.p))]]))))))))) ∧
                 ((true = true) ∧
                  ((((Bytes r2.snd.b) ∧
                     (((List.length r2.snd.b) ≤ (2000 : Nat)) ∧
                      (((0 : Int) ≤ r2.snd.p) ∧
                       (r2.snd.p ≤ (1000000000 : Int))))) ∧
                    ((IntKind.wrap IntKind.i64 ((24 : Int) - (((List.length r2.fst) : Nat) : Int))) ≤ (1000000000 : Int))) ∧
                   (∀ r3 : (Prod Int RdS),
                    ((r3.snd = (RdS.mk r2.snd.b (r2.snd.p + (1 : Int)))) ∧ (((0 : Int) ≤ r3.fst) ∧ ((((1 : Int) ≤ (IntKind.wrap IntKind.i64 ((24 : Int) - (((List.length r2.fst) : Nat) : Int)))) → (r3.fst < (IntKind.wrap IntKind.i64 ((24 : Int) - (((List.length r2.fst) : Nat) : Int))))) ∧ (((IntKind.wrap IntKind.i64 ((24 : Int) - (((List.length r2.fst) : Nat) : Int))) < (1 : Int)) → (r3.fst = (0 : Int)))))) →
                    (true = true) ∧
                    ((true = true) ∧
                     ((true = true) ∧
                      ((true = true) ∧
                       ((true = true) ∧
                        ((true = true) ∧
                         (K [(Arg.v true [(AC.d (D.i IntKind.i64 r1.fst)), (AC.d (D.i IntKind.i64 (IntKind.wrap IntKind.i64 ((IntKind.wrap IntKind.i64 ((((List.length r2.fst) : Nat) : Int) + (1 : Int))) + r3.fst)))), (AC.own (RC.mk (5 : Nat) RK.u8 r2.fst))])] [[(AC.d (D.r RK.u8 r3.snd.b)), (AC.d (D.i IntKind.i64 r3.snd.p))]]))))))))))) ∧
               ((true = true) ∧
                ((((Bytes r2.snd.b) ∧
                   (((List.length r2.snd.b) ≤ (2000 : Nat)) ∧
                    (((0 : Int) ≤ r2.snd.p) ∧
                     (r2.snd.p ≤ (1000000000 : Int))))) ∧
                  ((IntKind.wrap IntKind.i64 ((24 : Int) - (((List.length r2.fst) : Nat) : Int))) ≤ (1000000000 : Int))) ∧
                 (∀ r3 : (Prod Int RdS),
                  ((r3.snd = (RdS.mk r2.snd.b (r2.snd.p + (1 : Int)))) ∧ (((0 : Int) ≤ r3.fst) ∧ ((((1 : Int) ≤ (IntKind.wrap IntKind.i64 ((24 : Int) - (((List.length r2.fst) : Nat) : Int)))) → (r3.fst < (IntKind.wrap IntKind.i64 ((24 : Int) - (((List.length r2.fst) : Nat) : Int))))) ∧ (((IntKind.wrap IntKind.i64 ((24 : Int) - (((List.length r2.fst) : Nat) : Int))) < (1 : Int)) → (r3.fst = (0 : Int)))))) →
                  (true = true) ∧
                  ((true = true) ∧
                   ((true = true) ∧
                    ((true = true) ∧
                     ((true = true) ∧
                      ((true = true) ∧
                       ((true = true) ∧
                        (K [(Arg.v true [(AC.d (D.i IntKind.i64 r1.fst)), (AC.d (D.i IntKind.i64 (IntKind.wrap IntKind.i64 ((IntKind.wrap IntKind.i64 ((((List.length r2.fst) : Nat) : Int) + (1 : Int))) + r3.fst)))), (AC.own (RC.mk (5 : Nat) RK.u8 r2.fst))])] [[(AC.d (D.r RK.u8 r3.snd.b)), (AC.d (D.i IntKind.i64 r3.snd.p))]])))))))))))))))
          else
           ((true = true) ∧
           (K [(Arg.v true [(AC.d (D.i IntKind.i64 r1.fst)), (AC.d (D.i IntKind.i64 (((List.length r2.fst) : Nat) : Int))), (AC.own (RC.mk (5 : Nat) RK.u8 r2.fst))])] [[(AC.d (D.r RK.u8 r2.snd.b)), (AC.d (D.i IntKind.i64 r2.snd.p))]])))
         else
          (if ((r1.fst == (1 : Int)) = true) then
           (((true = true) ∧
            (((true = true) ∧
              ((true = true) ∧
               ((true = true) ∧
                ((true = true) ∧
                 ((((Bytes r2.snd.b) ∧
                    (((List.length r2.snd.b) ≤ (2000 : Nat)) ∧
                     (((0 : Int) ≤ r2.snd.p) ∧
                      (r2.snd.p ≤ (1000000000 : Int))))) ∧
                   ((IntKind.wrap IntKind.i64 ((24 : Int) - (((List.length r2.fst) : Nat) : Int))) ≤ (1000000000 : Int))) ∧
                  (∀ r3 : (Prod Int RdS),
                   ((r3.snd = (RdS.mk r2.snd.b (r2.snd.p + (1 : Int)))) ∧ (((0 : Int) ≤ r3.fst) ∧ ((((1 : Int) ≤ (IntKind.wrap IntKind.i64 ((24 : Int) - (((List.length r2.fst) : Nat) : Int)))) → (r3.fst < (IntKind.wrap IntKind.i64 ((24 : Int) - (((List.length r2.fst) : Nat) : Int))))) ∧ (((IntKind.wrap IntKind.i64 ((24 : Int) - (((List.length r2.fst) : Nat) : Int))) < (1 : Int)) → (r3.fst = (0 : Int)))))) →
                   (true = true) ∧
                   ((true = true) ∧
                    ((true = true) ∧
                     ((true = true) ∧
                      ((true = true) ∧
                       (K [(Arg.v true [(AC.d (D.i IntKind.i64 r1.fst)), (AC.d (D.i IntKind.i64 (IntKind.wrap IntKind.i64 ((IntKind.wrap IntKind.i64 ((((List.length r2.fst) : Nat) : Int) + (1 : Int))) + r3.fst)))), (AC.own (RC.mk (5 : Nat) RK.u8 r2.fst))])] [[(AC.d (D.r RK.u8 r3.snd.b)), (AC.d (D.i IntKind.i64 r3.snd.p))]]))))))))))) ∧
             ((true = true) ∧
              (((true = true) ∧
                ((true = true) ∧
                 ((true = true) ∧
                  ((((Bytes r2.snd.b) ∧
                     (((List.length r2.snd.b) ≤ (2000 : Nat)) ∧
                      (((0 : Int) ≤ r2.snd.p) ∧
                       (r2.snd.p ≤ (1000000000 : Int))))) ∧
                    ((IntKind.wrap IntKind.i64 ((24 : Int) - (((List.length r2.fst) : Nat) : Int))) ≤ (1000000000 : Int))) ∧
                   (∀ r3 : (Prod Int RdS),
                    ((r3.snd = (RdS.mk r2.snd.b (r2.snd.p + (1 : Int)))) ∧ (((0 : Int) ≤ r3.fst) ∧ ((((1 : Int) ≤ (IntKind.wrap IntKind.i64 ((24 : Int) - (((List.length r2.fst) : Nat) : Int)))) → (r3.fst < (IntKind.wrap IntKind.i64 ((24 : Int) - (((List.length r2.fst) : Nat) : Int))))) ∧ (((IntKind.wrap IntKind.i64 ((24 : Int) - (((List.length r2.fst) : Nat) : Int))) < (1 : Int)) → (r3.fst = (0 : Int)))))) →
                    (true = true) ∧
                    ((true = true) ∧
                     ((true = true) ∧
                      ((true = true) ∧
                       ((true = true) ∧
                        (K [(Arg.v true [(AC.d (D.i IntKind.i64 r1.fst)), (AC.d (D.i IntKind.i64 (IntKind.wrap IntKind.i64 ((IntKind.wrap IntKind.i64 ((((List.length r2.fst) : Nat) : Int) + (1 : Int))) + r3.fst)))), (AC.own (RC.mk (5 : Nat) RK.u8 r2.fst))])] [[(AC.d (D.r RK.u8 r3.snd.b)), (AC.d (D.i IntKind.i64 r3.snd.p))]])))))))))) ∧
               ((true = true) ∧
                (((true = true) ∧
                  ((true = true) ∧
                   ((((Bytes r2.snd.b) ∧
                      (((List.length r2.snd.b) ≤ (2000 : Nat)) ∧
                       (((0 : Int) ≤ r2.snd.p) ∧
                        (r2.snd.p ≤ (1000000000 : Int))))) ∧
                     ((IntKind.wrap IntKind.i64 ((24 : Int) - (((List.length r2.fst) : Nat) : Int))) ≤ (1000000000 : Int))) ∧
                    (∀ r3 : (Prod Int RdS),
                     ((r3.snd = (RdS.mk r2.snd.b (r2.snd.p + (1 : Int)))) ∧ (((0 : Int) ≤ r3.fst) ∧ ((((1 : Int) ≤ (IntKind.wrap IntKind.i64 ((24 : Int) - (((List.length r2.fst) : Nat) : Int)))) → (r3.fst < (IntKind.wrap IntKind.i64 ((24 : Int) - (((List.length r2.fst) : Nat) : Int))))) ∧ (((IntKind.wrap IntKind.i64 ((24 : Int) - (((List.length r2.fst) : Nat) : Int))) < (1 : Int)) → (r3.fst = (0 : Int)))))) →
                     (true = true) ∧
                     ((true = true) ∧
                      ((true = true) ∧
                       ((true = true) ∧
                        ((true = true) ∧
                         (K [(Arg.v true [(AC.d (D.i IntKind.i64 r1.fst)), (AC.d (D.i IntKind.i64 (IntKind.wrap IntKind.i64 ((IntKind.wrap IntKind.i64 ((((List.length r2.fst) : Nat) : Int) + (1 : Int))) + r3.fst)))), (AC.own (RC.mk (5 : Nat) RK.u8 r2.fst))])] [[(AC.d (D.r RK.u8 r3.snd.b)), (AC.d (D.i IntKind.i64 r3.snd.p))]]))))))))) ∧
                 ((true = true) ∧
                  ((((Bytes r2.snd.b) ∧
                     (((List.length r2.snd.b) ≤ (2000 : Nat)) ∧
                      (((0 : Int) ≤ r2.snd.p) ∧
                       (r2.snd.p ≤ (1000000000 : Int))))) ∧
                    ((IntKind.wrap IntKind.i64 ((24 : Int) - (((List.length r2.fst) : Nat) : Int))) ≤ (1000000000 : Int))) ∧
                   (∀ r3 : (Prod Int RdS),
                    ((r3.snd = (RdS.mk r2.snd.b (r2.snd.p + (1 : Int)))) ∧ (((0 : Int) ≤ r3.fst) ∧ ((((1 : Int) ≤ (IntKind.wrap IntKind.i64 ((24 : Int) - (((List.length r2.fst) : Nat) : Int)))) → (r3.fst < (IntKind.wrap IntKind.i64 ((24 : Int) - (((List.length r2.fst) : Nat) : Int))))) ∧ (((IntKind.wrap IntKind.i64 ((24 : Int) - (((List.length r2.fst) : Nat) : Int))) < (1 : Int)) → (r3.fst = (0 : Int)))))) →
                    (true = true) ∧
                    ((true = true) ∧
                     ((true = true) ∧
                      ((true = true) ∧
                       ((true = true) ∧
                        ((true = true) ∧
                         (K [(Arg.v true [(AC.d (D.i IntKind.i64 r1.fst)), (AC.d (D.i IntKind.i64 (IntKind.wrap IntKind.i64 ((IntKind.wrap IntKind.i64 ((((List.length r2.fst) : Nat) : Int) + (1 : Int))) + r3.fst)))), (AC.own (RC.mk (5 : Nat) RK.u8 r2.fst))])] [[(AC.d (D.r RK.u8 r3.snd.b)), (AC.d (D.i IntKind.i64 r3.snd.p))]]))))))))))))))) ∧
           ((true = true) ∧
            (((true = true) ∧
              (((true = true) ∧
                ((true = true) ∧
                 ((true = true) ∧
                  ((((Bytes r2.snd.b) ∧
                     (((List.length r2.snd.b) ≤ (2000 : Nat)) ∧
                      (((0 : Int) ≤ r2.snd.p) ∧
                       (r2.snd.p ≤ (1000000000 : Int))))) ∧
                    ((IntKind.wrap IntKind.i64 ((24 : Int) - (((List.length r2.fst) : Nat) : Int))) ≤ (1000000000 : Int))) ∧
                   (∀ r3 : (Prod Int RdS),
                    ((r3.snd = (RdS.mk r2.snd.b (r2.snd.p + (1 : Int)))) ∧ (((0 : Int) ≤ r3.fst) ∧ ((((1 : Int) ≤ (IntKind.wrap IntKind.i64 ((24 : Int) - (((List.length r2.fst) : Nat) : Int)))) → (r3.fst < (IntKind.wrap IntKind.i64 ((24 : Int) - (((List.length r2.fst) : Nat) : Int))))) ∧ (((IntKind.wrap IntKind.i64 ((24 : Int) - (((List.length r2.fst) : Nat) : Int))) < (1 : Int)) → (r3.fst = (0 : Int)))))) →
                    (true = true) ∧
                    ((true = true) ∧
                     ((true = true) ∧
                      ((true = true) ∧
                       ((true = true) ∧
                        (K [(Arg.v true [(AC.d (D.i IntKind.i64 r1.fst)), (AC.d (D.i IntKind.i64 (IntKind.wrap IntKind.i64 ((IntKind.wrap IntKind.i64 ((((List.length r2.fst) : Nat) : Int) + (1 : Int))) + r3.fst)))), (AC.own (RC.mk (5 : Nat) RK.u8 r2.fst))])] [[(AC.d (D.r RK.u8 r3.snd.b)), (AC.d (D.i IntKind.i64 r3.snd.p))]])))))))))) ∧
               ((true = true) ∧
                (((true = true) ∧
                  ((true = true) ∧
                   ((((Bytes r2.snd.b) ∧
                      (((List.length r2.snd.b) ≤ (2000 : Nat)) ∧
                       (((0 : Int) ≤ r2.snd.p) ∧
                        (r2.snd.p ≤ (1000000000 : Int))))) ∧
                     ((IntKind.wrap IntKind.i64 ((24 : Int) - (((List.length r2.fst) : Nat) : Int))) ≤ (1000000000 : Int))) ∧
                    (∀ r3 : (Prod Int RdS),
                     ((r3.snd = (RdS.mk r2.snd.b (r2.snd.p + (1 : Int)))) ∧ (((0 : Int) ≤ r3.fst) ∧ ((((1 : Int) ≤ (IntKind.wrap IntKind.i64 ((24 : Int) - (((List.length r2.fst) : Nat) : Int)))) → (r3.fst < (IntKind.wrap IntKind.i64 ((24 : Int) - (((List.length r2.fst) : Nat) : Int))))) ∧ (((IntKind.wrap IntKind.i64 ((24 : Int) - (((List.length r2.fst) : Nat) : Int))) < (1 : Int)) → (r3.fst = (0 : Int)))))) →
                     (true = true) ∧
                     ((true = true) ∧
                      ((true = true) ∧
                       ((true = true) ∧
                        ((true = true) ∧
                         (K [(Arg.v true [(AC.d (D.i IntKind.i64 r1.fst)), (AC.d (D.i IntKind.i64 (IntKind.wrap IntKind.i64 ((IntKind.wrap IntKind.i64 ((((List.length r2.fst) : Nat) : Int) + (1 : Int))) + r3.fst)))), (AC.own (RC.mk (5 : Nat) RK.u8 r2.fst))])] [[(AC.d (D.r RK.u8 r3.snd.b)), (AC.d (D.i IntKind.i64 r3.snd.p))]]))))))))) ∧
                 ((true = true) ∧
                  ((((Bytes r2.snd.b) ∧
                     (((List.length r2.snd.b) ≤ (2000 : Nat)) ∧
                      (((0 : Int) ≤ r2.snd.p) ∧
                       (r2.snd.p ≤ (1000000000 : Int))))) ∧
                    ((IntKind.wrap IntKind.i64 ((24 : Int) - (((List.length r2.fst) : Nat) : Int))) ≤ (1000000000 : Int))) ∧
                   (∀ r3 : (Prod Int RdS),
                    ((r3.snd = (RdS.mk r2.snd.b (r2.snd.p + (1 : Int)))) ∧ (((0 : Int) ≤ r3.fst) ∧ ((((1 : Int) ≤ (IntKind.wrap IntKind.i64 ((24 : Int) - (((List.length r2.fst) : Nat) : Int)))) → (r3.fst < (IntKind.wrap IntKind.i64 ((24 : Int) - (((List.length r2.fst) : Nat) : Int))))) ∧ (((IntKind.wrap IntKind.i64 ((24 : Int) - (((List.length r2.fst) : Nat) : Int))) < (1 : Int)) → (r3.fst = (0 : Int)))))) →
                    (true = true) ∧
                    ((true = true) ∧
                     ((true = true) ∧
                      ((true = true) ∧
                       ((true = true) ∧
                        ((true = true) ∧
                         (K [(Arg.v true [(AC.d (D.i IntKind.i64 r1.fst)), (AC.d (D.i IntKind.i64 (IntKind.wrap IntKind.i64 ((IntKind.wrap IntKind.i64 ((((List.length r2.fst) : Nat) : Int) + (1 : Int))) + r3.fst)))), (AC.own (RC.mk (5 : Nat) RK.u8 r2.fst))])] [[(AC.d (D.r RK.u8 r3.snd.b)), (AC.d (D.i IntKind.i64 r3.snd.p))]]))))))))))))) ∧
             ((true = true) ∧
              (((true = true) ∧
                (((true = true) ∧
                  ((true = true) ∧
                   ((((Bytes r2.snd.b) ∧
                      (((List.length r2.snd.b) ≤ (2000 : Nat)) ∧
                       (((0 : Int) ≤ r2.snd.p) ∧
                        (r2.snd.p ≤ (1000000000 : Int))))) ∧
                     ((IntKind.wrap IntKind.i64 ((24 : Int) - (((List.length r2.fst) : Nat) : Int))) ≤ (1000000000 : Int))) ∧
                    (∀ r3 : (Prod Int RdS),
                     ((r3.snd = (RdS.mk r2.snd.b (r2.snd.p + (1 : Int)))) ∧ (((0 : Int) ≤ r3.fst) ∧ ((((1 : Int) ≤ (IntKind.wrap IntKind.i64 ((24 : Int) - (((List.length r2.fst) : Nat) : Int)))) → (r3.fst < (IntKind.wrap IntKind.i64 ((24 : Int) - (((List.length r2.fst) : Nat) : Int))))) ∧ (((IntKind.wrap IntKind.i64 ((24 : Int) - (((List.length r2.fst) : Nat) : Int))) < (1 : Int)) → (r3.fst = (0 : Int)))))) →
                     (true = true) ∧
                     ((true = true) ∧
                      ((true = true) ∧
                       ((true = true) ∧
                        ((true = true) ∧
                         (K [(Arg.v true [(AC.d (D.i IntKind.i64 r1.fst)), (AC.d (D.i IntKind.i64 (IntKind.wrap IntKind.i64 ((IntKind.wrap IntKind.i64 ((((List.length r2.fst) : Nat) : Int) + (1 : Int))) + r3.fst)))), (AC.own (RC.mk (5 : Nat) RK.u8 r2.fst))])] [[(AC.d (D.r RK.u8 r3.snd.b)), (AC.d (D.i IntKind.i64 r3.snd.p))]]))))))))) ∧
                 ((true = true) ∧
                  ((((Bytes r2.snd.b) ∧
                     (((List.length r2.snd.b) ≤ (2000 : Nat)) ∧
                      (((0 : Int) ≤ r2.snd.p) ∧
                       (r2.snd.p ≤ (1000000000 : Int))))) ∧
                    ((IntKind.wrap IntKind.i64 ((24 : Int) - (((List.length r2.fst) : Nat) : Int))) ≤ (1000000000 : Int))) ∧
                   (∀ r3 : (Prod Int RdS),
                    ((r3.snd = (RdS.mk r2.snd.b (r2.snd.p + (1 : Int)))) ∧ (((0 : Int) ≤ r3.fst) ∧ ((((1 : Int) ≤ (IntKind.wrap IntKind.i64 ((24 : Int) - (((List.length r2.fst) : Nat) : Int)))) → (r3.fst < (IntKind.wrap IntKind.i64 ((24 : Int) - (((List.length r2.fst) : Nat) : Int))))) ∧ (((IntKind.wrap IntKind.i64 ((24 : Int) - (((List.length r2.fst) : Nat) : Int))) < (1 : Int)) → (r3.fst = (0 : Int)))))) →
                    (true = true) ∧
                    ((true = true) ∧
                     ((true = true) ∧
                      ((true = true) ∧
                       ((true = true) ∧
                        ((true = true) ∧
                         (K [(Arg.v true [(AC.d (D.i IntKind.i64 r1.fst)), (AC.d (D.i IntKind.i64 (IntKind.wrap IntKind.i64 ((IntKind.wrap IntKind.i64 ((((List.length r2.fst) : Nat) : Int) + (1 : Int))) + r3.fst)))), (AC.own (RC.mk (5 : Nat) RK.u8 r2.fst))])] [[(AC.d (D.r RK.u8 r3.snd.b)), (AC.d (D.i IntKind.i64 r3.snd.p))]]))))))))))) ∧
               ((true = true) ∧
                ((((Bytes r2.snd.b) ∧
                   (((List.length r2.snd.b) ≤ (2000 : Nat)) ∧
                    (((0 : Int) ≤ r2.snd.p) ∧
                     (r2.snd.p ≤ (1000000000 : Int))))) ∧
                  ((IntKind.wrap IntKind.i64 ((24 : Int) - (((List.length r2.fst) : Nat) : Int))) ≤ (1000000000 : Int))) ∧
                 (∀ r3 : (Prod Int RdS),
                  ((r3.snd = (RdS.mk r2.snd.b (r2.snd.p + (1 : Int)))) ∧ (((0 : Int) ≤ r3.fst) ∧ ((((1 : Int) ≤ (IntKind.wrap IntKind.i64 ((24 : Int) - (((List.length r2.fst) : Nat) : Int)))) → (r3.fst < (IntKind.wrap IntKind.i64 ((24 : Int) - (((List.length r2.fst) : Nat) : Int))))) ∧ (((IntKind.wrap IntKind.i64 ((24 : Int) - (((List.length r2.fst) : Nat) : Int))) < (1 : Int)) → (r3.fst = (0 : Int)))))) →
                  (true = true) ∧
                  ((true = true) ∧
                   ((true = true) ∧
                    ((true = true) ∧
                     ((true = true) ∧
                      ((true = true) ∧
                       ((true = true) ∧
                        (K [(Arg.v true [(AC.d (D.i IntKind.i64 r1.fst)), (AC.d (D.i IntKind.i64 (IntKind.wrap IntKind.i64 ((IntKind.wrap IntKind.i64 ((((List.length r2.fst) : Nat) : Int) + (1 : Int))) + r3.fst)))), (AC.own (RC.mk (5 : Nat) RK.u8 r2.fst))])] [[(AC.d (D.r RK.u8 r3.snd.b)), (AC.d (D.i IntKind.i64 r3.snd.p))]])))))))))))))))
          else
           ((true = true) ∧
           (K [(Arg.v true [(AC.d (D.i IntKind.i64 r1.fst)), (AC.d (D.i IntKind.i64 (0 : Int))), (AC.own (RC.mk (5 : Nat) RK.u8 r2.fst))])] [[(AC.d (D.r RK.u8 r2.snd.b)), (AC.d (D.i IntKind.i64 r2.snd.p))]])))))))))) := by
  repeat' first
    | exact rfl
    | exact True.intro
    | with_reducible apply And.intro
    | (with_reducible intro r hr; subst hr)
    | with_reducible intro r
    | (refine iteI (fun h => ?_) (fun h => ?_))
  all_goals try simp (disch := omega) only [wr] at *
  all_goals first
    | assumption
    | omega
    | exact hk ⟨_, _, _⟩ ⟨_, _⟩ (by (try dsimp only); grind [RdOk, RdOn, Bytes.cons, Bytes.nil, Bytes.take])
    | grind [RdOk, RdOn, Bytes.cons, Bytes.nil, Bytes.take]
    | exact hk ⟨_, _, _⟩ ⟨_, _⟩ (by (try dsimp only); refine ⟨?_, ?_, ?_⟩; all_goals first | (grind [RdOk, RdOn, Bytes.cons, Bytes.nil, Bytes.take]; done) | (simp; done) | (simp; omega))
theorem w_spec_l20Part : Valid Try.prog 97 c_spec_l20Part :=
  valid_ctr2 (V := V_spec_l20Part) (tysB_ok tys_ok) (CallsL.cons w_spec_l20Rd_pick (CallsL.cons w_spec_l20Bytes (CallsL.nil _))) mixed 1 2 Try.func97 rfl (by kernel_rfl)
    (fun c hc => by
      obtain rfl := Option.some.inj hc
      exact ⟨trivial, ⟨trivial, ⟨⟨trivial, ⟨trivial, trivial⟩⟩, ⟨⟨trivial, ⟨trivial, trivial⟩⟩, ⟨⟨trivial, ⟨trivial, trivial⟩⟩, ⟨trivial, trivial⟩⟩⟩⟩⟩⟩)
    (fun x K hp hk => ⟨_, by kernel_rfl, vF_spec_l20Part x K hp (fun p q h => hk (p, q) h)⟩)
theorem vF_spec_l20Frame (r : RdS) (n : Int) (K : List Arg → List (List AC) → Prop) (hp : RdOk r 44000000 ∧ n ≤ 1000) (hk : ∀ (f : Frm) (q : RdS), (Bytes f.data ∧ f.data.length ≤ 200 ∧ RdOn r q 100) → K ([rFrm.to f]) ([(rdC q).map .d])) :
(true = true) ∧
  ((((Bytes r.b) ∧
     (((List.length r.b) ≤ (2000 : Nat)) ∧
      (((0 : Int) ≤ r.p) ∧
       (r.p ≤ (1000000000 : Int))))) ∧
    ((4 : Int) ≤ (1000000000 : Int))) ∧
   (∀ r1 : (Prod Int RdS),
    ((r1.snd = (RdS.mk r.b (r.p + (1 : Int)))) ∧ (((0 : Int) ≤ r1.fst) ∧ ((((1 : Int) ≤ (4 : Int)) → (r1.fst < (4 : Int))) ∧ (((4 : Int) < (1 : Int)) → (r1.fst = (0 : Int)))))) →
    (true = true) ∧
    (if (((IntKind.wrap IntKind.i64 ((1 : Int) + r1.fst)) == (1 : Int)) = true) then
      ((true = true) ∧
      (((Bytes r1.snd.b) ∧
        (((List.length r1.snd.b) ≤ (2000 : Nat)) ∧
         (((0 : Int) ≤ r1.snd.p) ∧
          (r1.snd.p ≤ (45000000 : Int))))) ∧
       (∀ r2 : (Prod Part RdS),
        ((Bytes r2.fst.data) ∧ (((List.length r2.fst.data) ≤ (100 : Nat)) ∧ (RdOn r1.snd r2.snd (50 : Int)))) →
        (true = true) ∧
        ((true = true) ∧
         ((((Bytes r2.snd.b) ∧
            (((List.length r2.snd.b) ≤ (2000 : Nat)) ∧
             (((0 : Int) ≤ r2.snd.p) ∧
              (r2.snd.p ≤ (1000000000 : Int))))) ∧
           ((8 : Int) ≤ (1000000000 : Int))) ∧
          (∀ r3 : (Prod Int RdS),
           ((r3.snd = (RdS.mk r2.snd.b (r2.snd.p + (1 : Int)))) ∧ (((0 : Int) ≤ r3.fst) ∧ ((((1 : Int) ≤ (8 : Int)) → (r3.fst < (8 : Int))) ∧ (((8 : Int) < (1 : Int)) → (r3.fst = (0 : Int)))))) →
           (true = true) ∧
           ((true = true) ∧
            ((true = true) ∧
             ((((Bytes r3.snd.b) ∧
                (((List.length r3.snd.b) ≤ (2000 : Nat)) ∧
                 (((0 : Int) ≤ r3.snd.p) ∧
                  (r3.snd.p ≤ (1000000000 : Int))))) ∧
               ((8 : Int) ≤ (1000000000 : Int))) ∧
              (∀ r4 : (Prod Int RdS),
               ((r4.snd = (RdS.mk r3.snd.b (r3.snd.p + (1 : Int)))) ∧ (((0 : Int) ≤ r4.fst) ∧ ((((1 : Int) ≤ (8 : Int)) → (r4.fst < (8 : Int))) ∧ (((8 : Int) < (1 : Int)) → (r4.fst = (0 : Int)))))) →
               (true = true) ∧
               ((true = true) ∧
                ((true = true) ∧
                 ((((Bytes r4.snd.b) ∧
                    (((List.length r4.snd.b) ≤ (2000 : Nat)) ∧
                     (((0 : Int) ≤ r4.snd.p) ∧
                      (r4.snd.p ≤ (1000000000 : Int))))) ∧
                   ((9 : Int) ≤ (1000000000 : Int))) ∧
                  (∀ r5 : (Prod Int RdS),
                   ((r5.snd = (RdS.mk r4.snd.b (r4.snd.p + (1 : Int)))) ∧ (((0 : Int) ≤ r5.fst) ∧ ((((1 : Int) ≤ (9 : Int)) → (r5.fst < (9 : Int))) ∧ (((9 : Int) < (1 : Int)) → (r5.fst = (0 : Int)))))) →
                   (true = true) ∧
                   ((true = true) ∧
                    ((true = true) ∧
                     ((true = true) ∧
                      ((((Bytes r5.snd.b) ∧
                         (((List.length r5.snd.b) ≤ (2000 : Nat)) ∧
                          (((0 : Int) ≤ r5.snd.p) ∧
                           (r5.snd.p ≤ (900000000 : Int))))) ∧
                        (n ≤ (1000000000 : Int))) ∧
                       (∀ r6 : (Prod Bool RdS),
                        ((r6.snd.b = r5.snd.b) ∧ ((r5.snd.p ≤ r6.snd.p) ∧ (r6.snd.p ≤ (r5.snd.p + (1 : Int))))) →
                        (true = true) ∧
                        (if (r6.fst = true) then
                          ((true = true) ∧
                          ((((Bytes r6.snd.b) ∧
                             (((List.length r6.snd.b) ≤ (2000 : Nat)) ∧
                              (((0 : Int) ≤ r6.snd.p) ∧
                               (r6.snd.p ≤ (1000000000 : Int))))) ∧
                            ((8 : Int) ≤ (1000000000 : Int))) ∧
                           (∀ r7 : (Prod Int RdS),
                            ((r7.snd = (RdS.mk r6.snd.b (r6.snd.p + (1 : Int)))) ∧ (((0 : Int) ≤ r7.fst) ∧ ((((1 : Int) ≤ (8 : Int)) → (r7.fst < (8 : Int))) ∧ (((8 : Int) < (1 : Int)) → (r7.fst = (0 : Int)))))) →
                            (true = true) ∧
                            (if ((r7.fst == (0 : Int)) = true) then
                              ((true = true) ∧
                              ((((Bytes r7.snd.b) ∧
                                 (((List.length r7.snd.b) ≤ (2000 : Nat)) ∧
                                  (((0 : Int) ≤ r7.snd.p) ∧
                                   (r7.snd.p ≤ (1000000000 : Int))))) ∧
                                ((2 : Int) ≤ (1000000000 : Int))) ∧
                               (∀ r8 : (Prod Int RdS),
                                ((r8.snd = (RdS.mk r7.snd.b (r7.snd.p + (1 : Int)))) ∧ (((0 : Int) ≤ r8.fst) ∧ ((((1 : Int) ≤ (2 : Int)) → (r8.fst < (2 : Int))) ∧ (((2 : Int) < (1 : Int)) → (r8.fst = (0 : Int)))))) →
                                (true = true) ∧
                                ((((0 : Int) ≤ r8.fst) ∧
                                  (r8.fst < (2 : Int))) ∧
                                 ((true = true) ∧
                                  (K [(Arg.v true [(AC.d (D.i IntKind.i64 (at_i64 ((0 : Int) :: ((5 : Int) :: ([] : (List Int)) : (List Int)) : (List Int)) (Int.toNat r8.fst)))), (AC.d (D.i IntKind.i64 r3.fst)), (AC.d (D.i IntKind.i64 r4.fst)), (AC.d (D.b false)), (AC.d (D.b (r5.fst == (0 : Int)))), (AC.d (D.i IntKind.i64 (0 : Int))), (AC.d (D.i IntKind.i64 r2.fst.seg)), (AC.d (D.i IntKind.i64 r2.fst.len)), (AC.d (D.r RK.u8 r2.fst.data))])] [[(AC.d (D.r RK.u8 r8.snd.b)), (AC.d (D.i IntKind.i64 r8.snd.p))]]))))))
                             else
                              (if ((r7.fst == (1 : Int)) = true) then
                               ((true = true) ∧
                               ((((Bytes r7.snd.b) ∧
                                  (((List.length r7.snd.b) ≤ (2000 : Nat)) ∧
                                   (((0 : Int) ≤ r7.snd.p) ∧
                                    (r7.snd.p ≤ (1000000000 : Int))))) ∧
                                 ((3 : Int) ≤ (1000000000 : Int))) ∧
                                (∀ r8 : (Prod Int RdS),
                                 ((r8.snd = (RdS.mk r7.snd.b (r7.snd.p + (1 : Int)))) ∧ (((0 : Int) ≤ r8.fst) ∧ ((((1 : Int) ≤ (3 : Int)) → (r8.fst < (3 : Int))) ∧ (((3 : Int) < (1 : Int)) → (r8.fst = (0 : Int)))))) →
                                 (true = true) ∧
                                 ((((0 : Int) ≤ r8.fst) ∧
                                   (r8.fst < (3 : Int))) ∧
                                  ((true = true) ∧
                                   (K [(Arg.v true [(AC.d (D.i IntKind.i64 (1 : Int))), (AC.d (D.i IntKind.i64 (at_i64 ((-1 : Int) :: ((8 : Int) :: ((1 : Int) :: ([] : (List Int)) : (List Int)) : (List Int)) : (List Int)) (Int.toNat r8.fst)))), (AC.d (D.i IntKind.i64 r4.fst)), (AC.d (D.b false)), (AC.d (D.b (r5.fst == (0 : Int)))), (AC.d (D.i IntKind.i64 (0 : Int))), (AC.d (D.i IntKind.i64 r2.fst.seg)), (AC.d (D.i IntKind.i64 r2.fst.len)), (AC.d (D.r RK.u8 r2.fst.data))])] [[(AC.d (D.r RK.u8 r8.snd.b)), (AC.d (D.i IntKind.i64 r8.snd.p))]]))))))
                              else
                               (if ((r7.fst == (2 : Int)) = true) then
                                ((true = true) ∧
                                ((((Bytes r7.snd.b) ∧
                                   (((List.length r7.snd.b) ≤ (2000 : Nat)) ∧
                                    (((0 : Int) ≤ r7.snd.p) ∧
                                     (r7.snd.p ≤ (1000000000 : Int))))) ∧
                                  ((3 : Int) ≤ (1000000000 : Int))) ∧
                                 (∀ r8 : (Prod Int RdS),
                                  ((r8.snd = (RdS.mk r7.snd.b (r7.snd.p + (1 : Int)))) ∧ (((0 : Int) ≤ r8.fst) ∧ ((((1 : Int) ≤ (3 : Int)) → (r8.fst < (3 : Int))) ∧ (((3 : Int) < (1 : Int)) → (r8.fst = (0 : Int)))))) →
                                  (true = true) ∧
                                  ((((0 : Int) ≤ r8.fst) ∧
                                    (r8.fst < (3 : Int))) ∧
                                   ((true = true) ∧
                                    (K [(Arg.v true [(AC.d (D.i IntKind.i64 (1 : Int))), (AC.d (D.i IntKind.i64 r3.fst)), (AC.d (D.i IntKind.i64 (at_i64 ((-1 : Int) :: ((8 : Int) :: ((1 : Int) :: ([] : (List Int)) : (List Int)) : (List Int)) : (List Int)) (Int.toNat r8.fst)))), (AC.d (D.b false)), (AC.d (D.b (r5.fst == (0 : Int)))), (AC.d (D.i IntKind.i64 (0 : Int))), (AC.d (D.i IntKind.i64 r2.fst.seg)), (AC.d (D.i IntKind.i64 r2.fst.len)), (AC.d (D.r RK.u8 r2.fst.data))])] [[(AC.d (D.r RK.u8 r8.snd.b)), (AC.d (D.i IntKind.i64 r8.snd.p))]]))))))
                               else
                                (if ((r7.fst == (3 : Int)) = true) then
                                 ((true = true) ∧
                                 (K [(Arg.v true [(AC.d (D.i IntKind.i64 (1 : Int))), (AC.d (D.i IntKind.i64 r3.fst)), (AC.d (D.i IntKind.i64 r4.fst)), (AC.d (D.b true)), (AC.d (D.b true)), (AC.d (D.i IntKind.i64 (0 : Int))), (AC.d (D.i IntKind.i64 r2.fst.seg)), (AC.d (D.i IntKind.i64 r2.fst.len)), (AC.d (D.r RK.u8 r2.fst.data))])] [[(AC.d (D.r RK.u8 r7.snd.b)), (AC.d (D.i IntKind.i64 r7.snd.p))]]))
                                else
                                 (if ((r7.fst == (4 : Int)) = true) then
                                  ((true = true) ∧
                                  ((((Bytes r7.snd.b) ∧
                                     (((List.length r7.snd.b) ≤ (2000 : Nat)) ∧
                                      (((0 : Int) ≤ r7.snd.p) ∧
                                       (r7.snd.p ≤ (1000000000 : Int))))) ∧
                                    ((3 : Int) ≤ (1000000000 : Int))) ∧
                                   (∀ r8 : (Prod Int RdS),
                                    ((r8.snd = (RdS.mk r7.snd.b (r7.snd.p + (1 : Int)))) ∧ (((0 : Int) ≤ r8.fst) ∧ ((((1 : Int) ≤ (3 : Int)) → (r8.fst < (3 : Int))) ∧ (((3 : Int) < (1 : Int)) → (r8.fst = (0 : Int)))))) →
                                    (true = true) ∧
                                    ((((0 : Int) ≤ r8.fst) ∧
                                      (r8.fst < (3 : Int))) ∧
                                     ((true = true) ∧
                                      (K [(Arg.v true [(AC.d (D.i IntKind.i64 (1 : Int))), (AC.d (D.i IntKind.i64 r3.fst)), (AC.d (D.i IntKind.i64 r4.fst)), (AC.d (D.b false)), (AC.d (D.b (r5.fst == (0 : Int)))), (AC.d (D.i IntKind.i64 (at_i64 ((-1 : Int) :: ((3 : Int) :: ((1 : Int) :: ([] : (List Int)) : (List Int)) : (List Int)) : (List Int)) (Int.toNat r8.fst)))), (AC.d (D.i IntKind.i64 r2.fst.seg)), (AC.d (D.i IntKind.i64 r2.fst.len)), (AC.d (D.r RK.u8 r2.fst.data))])] [[(AC.d (D.r RK.u8 r8.snd.b)), (AC.d (D.i IntKind.i64 r8.snd.p))]]))))))
                                 else
                                  (if ((r7.fst == (5 : Int)) = true) then
                                   ((true = true) ∧
                                   ((((Bytes r7.snd.b) ∧
                                      (((List.length r7.snd.b) ≤ (2000 : Nat)) ∧
                                       (((0 : Int) ≤ r7.snd.p) ∧
                                        (r7.snd.p ≤ (1000000000 : Int))))) ∧
                                     ((4 : Int) ≤ (1000000000 : Int))) ∧
                                    (∀ r8 : (Prod Int RdS),
                                     ((r8.snd = (RdS.mk r7.snd.b (r7.snd.p + (1 : Int)))) ∧ (((0 : Int) ≤ r8.fst) ∧ ((((1 : Int) ≤ (4 : Int)) → (r8.fst < (4 : Int))) ∧ (((4 : Int) < (1 : Int)) → (r8.fst = (0 : Int)))))) →
                                     (true = true) ∧
                                     ((((0 : Int) ≤ r8.fst) ∧
                                       (r8.fst < (4 : Int))) ∧
                                      ((true = true) ∧
                                       (K [(Arg.v true [(AC.d (D.i IntKind.i64 (1 : Int))), (AC.d (D.i IntKind.i64 r3.fst)), (AC.d (D.i IntKind.i64 r4.fst)), (AC.d (D.b false)), (AC.d (D.b (r5.fst == (0 : Int)))), (AC.d (D.i IntKind.i64 (0 : Int))), (AC.d (D.i IntKind.i64 r2.fst.seg)), (AC.d (D.i IntKind.i64 (at_i64 ((-1 : Int) :: ((0 : Int) :: ((256 : Int) :: ((30 : Int) :: ([] : (List Int)) : (List Int)) : (List Int)) : (List Int)) : (List Int)) (Int.toNat r8.fst)))), (AC.d (D.r RK.u8 r2.fst.data))])] [[(AC.d (D.r RK.u8 r8.snd.b)), (AC.d (D.i IntKind.i64 r8.snd.p))]]))))))
                                  else
                                   (if ((r7.fst == (6 : Int)) = true) then
                                    ((((List.length r2.fst.data) + (9 : Nat)) ≤ (137438953472 : Nat)) ∧
                                    ((true = true) ∧
                                     (K [(Arg.v true [(AC.d (D.i IntKind.i64 (1 : Int))), (AC.d (D.i IntKind.i64 r3.fst)), (AC.d (D.i IntKind.i64 r4.fst)), (AC.d (D.b false)), (AC.d (D.b (r5.fst == (0 : Int)))), (AC.d (D.i IntKind.i64 (0 : Int))), (AC.d (D.i IntKind.i64 r2.fst.seg)), (AC.d (D.i IntKind.i64 r2.fst.len)), (AC.d (D.r RK.u8 (r2.fst.data ++ ((1 : Int) :: ((2 : Int) :: ((3 : Int) :: ((4 : Int) :: ((5 : Int) :: ((6 : Int) :: ((7 : Int) :: ((8 : Int) :: ((9 : Int) :: ([] : (List Int)) : (List Int)) : (List Int)) : (List Int)) : (List Int)) : (List Int)) : (List Int)) : (List Int)) : (List Int)) : (List Int)) : (List Int))))])] [[(AC.d (D.r RK.u8 r7.snd.b)), (AC.d (D.i IntKind.i64 r7.snd.p))]])))
                                   else
                                    ((true = true) ∧
                                    ((((Bytes r7.snd.b) ∧
                                       (((List.length r7.snd.b) ≤ (2000 : Nat)) ∧
                                        (((0 : Int) ≤ r7.snd.p) ∧
                                         (r7.snd.p ≤ (1000000000 : Int))))) ∧
                                      ((3 : Int) ≤ (1000000000 : Int))) ∧
                                     (∀ r8 : (Prod Int RdS),
                                      ((r8.snd = (RdS.mk r7.snd.b (r7.snd.p + (1 : Int)))) ∧ (((0 : Int) ≤ r8.fst) ∧ ((((1 : Int) ≤ (3 : Int)) → (r8.fst < (3 : Int))) ∧ (((3 : Int) < (1 : Int)) → (r8.fst = (0 : Int)))))) →
                                      (true = true) ∧
                                      ((((0 : Int) ≤ r8.fst) ∧
                                        (r8.fst < (3 : Int))) ∧
                                       ((true = true) ∧
                                        (K [(Arg.v true [(AC.d (D.i IntKind.i64 (1 : Int))), (AC.d (D.i IntKind.i64 r3.fst)), (AC.d (D.i IntKind.i64 r4.fst)), (AC.d (D.b false)), (AC.d (D.b (r5.fst == (0 : Int)))), (AC.d (D.i IntKind.i64 (0 : Int))), (AC.d (D.i IntKind.i64 (at_i64 ((-1 : Int) :: ((4 : Int) :: ((2 : Int) :: ([] : (List Int)) : (List Int)) : (List Int)) : (List Int)) (Int.toNat r8.fst)))), (AC.d (D.i IntKind.i64 r2.fst.len)), (AC.d (D.r RK.u8 r2.fst.data))])] [[(AC.d (D.r RK.u8 r8.snd.b)), (AC.d (D.i IntKind.i64 r8.snd.p))]]))))))))))))))))
                         else
                          ((true = true) ∧
                          (K [(Arg.v true [(AC.d (D.i IntKind.i64 (1 : Int))), (AC.d (D.i IntKind.i64 r3.fst)), (AC.d (D.i IntKind.i64 r4.fst)), (AC.d (D.b false)), (AC.d (D.b (r5.fst == (0 : Int)))), (AC.d (D.i IntKind.i64 (0 : Int))), (AC.d (D.i IntKind.i64 r2.fst.seg)), (AC.d (D.i IntKind.i64 r2.fst.len)), (AC.d (D.r RK.u8 r2.fst.data))])] [[(AC.d (D.r RK.u8 r6.snd.b)), (AC.d (D.i IntKind.i64 r6.snd.p))]]))))))))))))))))))))))
     else
      (if (((IntKind.wrap IntKind.i64 ((1 : Int) + r1.fst)) == (2 : Int)) = true) then
       ((true = true) ∧
       ((((Bytes r1.snd.b) ∧
          (((List.length r1.snd.b) ≤ (2000 : Nat)) ∧
           (((0 : Int) ≤ r1.snd.p) ∧
            (r1.snd.p ≤ (1000000000 : Int))))) ∧
         ((8 : Int) ≤ (1000000000 : Int))) ∧
        (∀ r2 : (Prod Int RdS),
         ((r2.snd = (RdS.mk r1.snd.b (r1.snd.p + (1 : Int)))) ∧ (((0 : Int) ≤ r2.fst) ∧ ((((1 : Int) ≤ (8 : Int)) → (r2.fst < (8 : Int))) ∧ (((8 : Int) < (1 : Int)) → (r2.fst = (0 : Int)))))) →
         (true = true) ∧
         ((true = true) ∧
          ((((Bytes r2.snd.b) ∧
             (((List.length r2.snd.b) ≤ (2000 : Nat)) ∧
              (((0 : Int) ≤ r2.snd.p) ∧
               (r2.snd.p ≤ (1000000000 : Int))))) ∧
            ((3 : Int) ≤ (1000000000 : Int))) ∧
           (∀ r3 : (Prod Int RdS),
            ((r3.snd = (RdS.mk r2.snd.b (r2.snd.p + (1 : Int)))) ∧ (((0 : Int) ≤ r3.fst) ∧ ((((1 : Int) ≤ (3 : Int)) → (r3.fst < (3 : Int))) ∧ (((3 : Int) < (1 : Int)) → (r3.fst = (0 : Int)))))) →
            (true = true) ∧
            (if ((!(r3.fst == (0 : Int))) = true) then
              ((true = true) ∧
              ((((Bytes r3.snd.b) ∧
                 (((List.length r3.snd.b) ≤ (2000 : Nat)) ∧
                  (((0 : Int) ≤ r3.snd.p) ∧
                   (r3.snd.p ≤ (1000000000 : Int))))) ∧
                ((3 : Int) ≤ (1000000000 : Int))) ∧
               (∀ r4 : (Prod Int RdS),
                ((r4.snd = (RdS.mk r3.snd.b (r3.snd.p + (1 : Int)))) ∧ (((0 : Int) ≤ r4.fst) ∧ ((((1 : Int) ≤ (3 : Int)) → (r4.fst < (3 : Int))) ∧ (((3 : Int) < (1 : Int)) → (r4.fst = (0 : Int)))))) →
                (true = true) ∧
                ((true = true) ∧
                 ((((Bytes r4.snd.b) ∧
                    (((List.length r4.snd.b) ≤ (2000 : Nat)) ∧
                     (((0 : Int) ≤ r4.snd.p) ∧
                      (r4.snd.p ≤ (1000000000 : Int))))) ∧
                   ((3 : Int) ≤ (1000000000 : Int))) ∧
                  (∀ r5 : (Prod Int RdS),
                   ((r5.snd = (RdS.mk r4.snd.b (r4.snd.p + (1 : Int)))) ∧ (((0 : Int) ≤ r5.fst) ∧ ((((1 : Int) ≤ (3 : Int)) → (r5.fst < (3 : Int))) ∧ (((3 : Int) < (1 : Int)) → (r5.fst = (0 : Int)))))) →
                   (true = true) ∧
                   ((true = true) ∧
                    ((((Bytes r5.snd.b) ∧
                       (((List.length r5.snd.b) ≤ (2000 : Nat)) ∧
                        (((0 : Int) ≤ r5.snd.p) ∧
                         (r5.snd.p ≤ (900000000 : Int))))) ∧
                      (n ≤ (1000000000 : Int))) ∧
                     (∀ r6 : (Prod Bool RdS),
                      ((r6.snd.b = r5.snd.b) ∧ ((r5.snd.p ≤ r6.snd.p) ∧ (r6.snd.p ≤ (r5.snd.p + (1 : Int))))) →
                      (true = true) ∧
                      (if (r6.fst = true) then
                        ((true = true) ∧
                        ((((Bytes r6.snd.b) ∧
                           (((List.length r6.snd.b) ≤ (2000 : Nat)) ∧
                            (((0 : Int) ≤ r6.snd.p) ∧
                             (r6.snd.p ≤ (1000000000 : Int))))) ∧
                          ((8 : Int) ≤ (1000000000 : Int))) ∧
                         (∀ r7 : (Prod Int RdS),
                          ((r7.snd = (RdS.mk r6.snd.b (r6.snd.p + (1 : Int)))) ∧ (((0 : Int) ≤ r7.fst) ∧ ((((1 : Int) ≤ (8 : Int)) → (r7.fst < (8 : Int))) ∧ (((8 : Int) < (1 : Int)) → (r7.fst = (0 : Int)))))) →
                          (true = true) ∧
                          (if ((r7.fst == (0 : Int)) = true) then
                            ((true = true) ∧
                            ((((Bytes r7.snd.b) ∧
                               (((List.length r7.snd.b) ≤ (2000 : Nat)) ∧
                                (((0 : Int) ≤ r7.snd.p) ∧
                                 (r7.snd.p ≤ (1000000000 : Int))))) ∧
                              ((2 : Int) ≤ (1000000000 : Int))) ∧
                             (∀ r8 : (Prod Int RdS),
                              ((r8.snd = (RdS.mk r7.snd.b (r7.snd.p + (1 : Int)))) ∧ (((0 : Int) ≤ r8.fst) ∧ ((((1 : Int) ≤ (2 : Int)) → (r8.fst < (2 : Int))) ∧ (((2 : Int) < (1 : Int)) → (r8.fst = (0 : Int)))))) →
                              (true = true) ∧
                              ((((0 : Int) ≤ r8.fst) ∧
                                (r8.fst < (2 : Int))) ∧
                               ((true = true) ∧
                                (K [(Arg.v true [(AC.d (D.i IntKind.i64 (at_i64 ((0 : Int) :: ((5 : Int) :: ([] : (List Int)) : (List Int)) : (List Int)) (Int.toNat r8.fst)))), (AC.d (D.i IntKind.i64 (0 : Int))), (AC.d (D.i IntKind.i64 r2.fst)), (AC.d (D.b (r3.fst == (0 : Int)))), (AC.d (D.b (r4.fst == (0 : Int)))), (AC.d (D.i IntKind.i64 r5.fst)), (AC.d (D.i IntKind.i64 (0 : Int))), (AC.d (D.i IntKind.i64 (0 : Int))), (AC.d (D.r RK.u8 ([] : (List Int))))])] [[(AC.d (D.r RK.u8 r8.snd.b)), (AC.d (D.i IntKind.i64 r8.snd.p))]]))))))
                           else
                            (if ((r7.fst == (1 : Int)) = true) then
                             ((true = true) ∧
                             ((((Bytes r7.snd.b) ∧
                                (((List.length r7.snd.b) ≤ (2000 : Nat)) ∧
                                 (((0 : Int) ≤ r7.snd.p) ∧
                                  (r7.snd.p ≤ (1000000000 : Int))))) ∧
                               ((3 : Int) ≤ (1000000000 : Int))) ∧
                              (∀ r8 : (Prod Int RdS),
                               ((r8.snd = (RdS.mk r7.snd.b (r7.snd.p + (1 : Int)))) ∧ (((0 : Int) ≤ r8.fst) ∧ ((((1 : Int) ≤ (3 : Int)) → (r8.fst < (3 : Int))) ∧ (((3 : Int) < (1 : Int)) → (r8.fst = (0 : Int)))))) →
                               (true = true) ∧
                               ((((0 : Int) ≤ r8.fst) ∧
                                 (r8.fst < (3 : Int))) ∧
                                ((true = true) ∧
                                 (K [(Arg.v true [(AC.d (D.i IntKind.i64 (IntKind.wrap IntKind.i64 ((1 : Int) + r1.fst)))), (AC.d (D.i IntKind.i64 (at_i64 ((-1 : Int) :: ((8 : Int) :: ((1 : Int) :: ([] : (List Int)) : (List Int)) : (List Int)) : (List Int)) (Int.toNat r8.fst)))), (AC.d (D.i IntKind.i64 r2.fst)), (AC.d (D.b (r3.fst == (0 : Int)))), (AC.d (D.b (r4.fst == (0 : Int)))), (AC.d (D.i IntKind.i64 r5.fst)), (AC.d (D.i IntKind.i64 (0 : Int))), (AC.d (D.i IntKind.i64 (0 : Int))), (AC.d (D.r RK.u8 ([] : (List Int))))])] [[(AC.d (D.r RK.u8 r8.snd.b)), (AC.d (D.i IntKind.i64 r8.snd.p))]]))))))
                            else
                             (if ((r7.fst == (2 : Int)) = true) then
                              ((true = true) ∧
                              ((((Bytes r7.snd.b) ∧
                                 (((List.length r7.snd.b) ≤ (2000 : Nat)) ∧
                                  (((0 : Int) ≤ r7.snd.p) ∧
                                   (r7.snd.p ≤ (1000000000 : Int))))) ∧
                                ((3 : Int) ≤ (1000000000 : Int))) ∧
                               (∀ r8 : (Prod Int RdS),
                                ((r8.snd = (RdS.mk r7.snd.b (r7.snd.p + (1 : Int)))) ∧ (((0 : Int) ≤ r8.fst) ∧ ((((1 : Int) ≤ (3 : Int)) → (r8.fst < (3 : Int))) ∧ (((3 : Int) < (1 : Int)) → (r8.fst = (0 : Int)))))) →
                                (true = true) ∧
                                ((((0 : Int) ≤ r8.fst) ∧
                                  (r8.fst < (3 : Int))) ∧
                                 ((true = true) ∧
                                  (K [(Arg.v true [(AC.d (D.i IntKind.i64 (IntKind.wrap IntKind.i64 ((1 : Int) + r1.fst)))), (AC.d (D.i IntKind.i64 (0 : Int))), (AC.d (D.i IntKind.i64 (at_i64 ((-1 : Int) :: ((8 : Int) :: ((1 : Int) :: ([] : (List Int)) : (List Int)) : (List Int)) : (List Int)) (Int.toNat r8.fst)))), (AC.d (D.b (r3.fst == (0 : Int)))), (AC.d (D.b (r4.fst == (0 : Int)))), (AC.d (D.i IntKind.i64 r5.fst)), (AC.d (D.i IntKind.i64 (0 : Int))), (AC.d (D.i IntKind.i64 (0 : Int))), (AC.d (D.r RK.u8 ([] : (List Int))))])] [[(AC.d (D.r RK.u8 r8.snd.b)), (AC.d (D.i IntKind.i64 r8.snd.p))]]))))))
                             else
                              (if ((r7.fst == (3 : Int)) = true) then
                               ((true = true) ∧
                               (K [(Arg.v true [(AC.d (D.i IntKind.i64 (IntKind.wrap IntKind.i64 ((1 : Int) + r1.fst)))), (AC.d (D.i IntKind.i64 (0 : Int))), (AC.d (D.i IntKind.i64 r2.fst)), (AC.d (D.b true)), (AC.d (D.b true)), (AC.d (D.i IntKind.i64 r5.fst)), (AC.d (D.i IntKind.i64 (0 : Int))), (AC.d (D.i IntKind.i64 (0 : Int))), (AC.d (D.r RK.u8 ([] : (List Int))))])] [[(AC.d (D.r RK.u8 r7.snd.b)), (AC.d (D.i IntKind.i64 r7.snd.p))]]))
                              else
                               (if ((r7.fst == (4 : Int)) = true) then
                                ((true = true) ∧
                                ((((Bytes r7.snd.b) ∧
                                   (((List.length r7.snd.b) ≤ (2000 : Nat)) ∧
                                    (((0 : Int) ≤ r7.snd.p) ∧
                                     (r7.snd.p ≤ (1000000000 : Int))))) ∧
                                  ((3 : Int) ≤ (1000000000 : Int))) ∧
                                 (∀ r8 : (Prod Int RdS),
                                  ((r8.snd = (RdS.mk r7.snd.b (r7.snd.p + (1 : Int)))) ∧ (((0 : Int) ≤ r8.fst) ∧ ((((1 : Int) ≤ (3 : Int)) → (r8.fst < (3 : Int))) ∧ (((3 : Int) < (1 : Int)) → (r8.fst = (0 : Int)))))) →
                                  (true = true) ∧
                                  ((((0 : Int) ≤ r8.fst) ∧
                                    (r8.fst < (3 : Int))) ∧
                                   ((true = true) ∧
                                    (K [(Arg.v true [(AC.d (D.i IntKind.i64 (IntKind.wrap IntKind.i64 ((1 : Int) + r1.fst)))), (AC.d (D.i IntKind.i64 (0 : Int))), (AC.d (D.i IntKind.i64 r2.fst)), (AC.d (D.b (r3.fst == (0 : Int)))), (AC.d (D.b (r4.fst == (0 : Int)))), (AC.d (D.i IntKind.i64 (at_i64 ((-1 : Int) :: ((3 : Int) :: ((1 : Int) :: ([] : (List Int)) : (List Int)) : (List Int)) : (List Int)) (Int.toNat r8.fst)))), (AC.d (D.i IntKind.i64 (0 : Int))), (AC.d (D.i IntKind.i64 (0 : Int))), (AC.d (D.r RK.u8 ([] : (List Int))))])] [[(AC.d (D.r RK.u8 r8.snd.b)), (AC.d (D.i IntKind.i64 r8.snd.p))]]))))))
                               else
                                (if ((r7.fst == (5 : Int)) = true) then
                                 ((true = true) ∧
                                 ((((Bytes r7.snd.b) ∧
                                    (((List.length r7.snd.b) ≤ (2000 : Nat)) ∧
                                     (((0 : Int) ≤ r7.snd.p) ∧
                                      (r7.snd.p ≤ (1000000000 : Int))))) ∧
                                   ((4 : Int) ≤ (1000000000 : Int))) ∧
                                  (∀ r8 : (Prod Int RdS),
                                   ((r8.snd = (RdS.mk r7.snd.b (r7.snd.p + (1 : Int)))) ∧ (((0 : Int) ≤ r8.fst) ∧ ((((1 : Int) ≤ (4 : Int)) → (r8.fst < (4 : Int))) ∧ (((4 : Int) < (1 : Int)) → (r8.fst = (0 : Int)))))) →
                                   (true = true) ∧
                                   ((((0 : Int) ≤ r8.fst) ∧
                                     (r8.fst < (4 : Int))) ∧
                                    ((true = true) ∧
                                     (K [(Arg.v true [(AC.d (D.i IntKind.i64 (IntKind.wrap IntKind.i64 ((1 : Int) + r1.fst)))), (AC.d (D.i IntKind.i64 (0 : Int))), (AC.d (D.i IntKind.i64 r2.fst)), (AC.d (D.b (r3.fst == (0 : Int)))), (AC.d (D.b (r4.fst == (0 : Int)))), (AC.d (D.i IntKind.i64 r5.fst)), (AC.d (D.i IntKind.i64 (0 : Int))), (AC.d (D.i IntKind.i64 (at_i64 ((-1 : Int) :: ((0 : Int) :: ((256 : Int) :: ((30 : Int) :: ([] : (List Int)) : (List Int)) : (List Int)) : (List Int)) : (List Int)) (Int.toNat r8.fst)))), (AC.d (D.r RK.u8 ([] : (List Int))))])] [[(AC.d (D.r RK.u8 r8.snd.b)), (AC.d (D.i IntKind.i64 r8.snd.p))]]))))))
                                else
                                 (if ((r7.fst == (6 : Int)) = true) then
                                  (((9 : Nat) ≤ (137438953472 : Nat)) ∧
                                  ((true = true) ∧
                                   (K [(Arg.v true [(AC.d (D.i IntKind.i64 (IntKind.wrap IntKind.i64 ((1 : Int) + r1.fst)))), (AC.d (D.i IntKind.i64 (0 : Int))), (AC.d (D.i IntKind.i64 r2.fst)), (AC.d (D.b (r3.fst == (0 : Int)))), (AC.d (D.b (r4.fst == (0 : Int)))), (AC.d (D.i IntKind.i64 r5.fst)), (AC.d (D.i IntKind.i64 (0 : Int))), (AC.d (D.i IntKind.i64 (0 : Int))), (AC.d (D.r RK.u8 (([] : (List Int)) ++ ((1 : Int) :: ((2 : Int) :: ((3 : Int) :: ((4 : Int) :: ((5 : Int) :: ((6 : Int) :: ((7 : Int) :: ((8 : Int) :: ((9 : Int) :: ([] : (List Int)) : (List Int)) : (List Int)) : (List Int)) : (List Int)) : (List Int)) : (List Int)) : (List Int)) : (List Int)) : (List Int)) : (List Int))))])] [[(AC.d (D.r RK.u8 r7.snd.b)), (AC.d (D.i IntKind.i64 r7.snd.p))]])))
                                 else
                                  ((true = true) ∧
                                  ((((Bytes r7.snd.b) ∧
                                     (((List.length r7.snd.b) ≤ (2000 : Nat)) ∧
                                      (((0 : Int) ≤ r7.snd.p) ∧
                                       (r7.snd.p ≤ (1000000000 : Int))))) ∧
                                    ((3 : Int) ≤ (1000000000 : Int))) ∧
                                   (∀ r8 : (Prod Int RdS),
                                    ((r8.snd = (RdS.mk r7.snd.b (r7.snd.p + (1 : Int)))) ∧ (((0 : Int) ≤ r8.fst) ∧ ((((1 : Int) ≤ (3 : Int)) → (r8.fst < (3 : Int))) ∧ (((3 : Int) < (1 : Int)) → (r8.fst = (0 : Int)))))) →
                                    (true = true) ∧
                                    ((((0 : Int) ≤ r8.fst) ∧
                                      (r8.fst < (3 : Int))) ∧
                                     ((true = true) ∧
                                      (K [(Arg.v true [(AC.d (D.i IntKind.i64 (IntKind.wrap IntKind.i64 ((1 : Int) + r1.fst)))), (AC.d (D.i IntKind.i64 (0 : Int))), (AC.d (D.i IntKind.i64 r2.fst)), (AC.d (D.b (r3.fst == (0 : Int)))), (AC.d (D.b (r4.fst == (0 : Int)))), (AC.d (D.i IntKind.i64 r5.fst)), (AC.d (D.i IntKind.i64 (at_i64 ((-1 : Int) :: ((4 : Int) :: ((2 : Int) :: ([] : (List Int)) : (List Int)) : (List Int)) : (List Int)) (Int.toNat r8.fst)))), (AC.d (D.i IntKind.i64 (0 : Int))), (AC.d (D.r RK.u8 ([] : (List Int))))])] [[(AC.d (D.r RK.u8 r8.snd.b)), (AC.d (D.i IntKind.i64 r8.snd.p))]]))))))))))))))))
                       else
                        ((true = true) ∧
                        (K [(Arg.v true [(AC.d (D.i IntKind.i64 (IntKind.wrap IntKind.i64 ((1 : Int) + r1.fst)))), (AC.d (D.i IntKind.i64 (0 : Int))), (AC.d (D.i IntKind.i64 r2.fst)), (AC.d (D.b (r3.fst == (0 : Int)))), (AC.d (D.b (r4.fst == (0 : Int)))), (AC.d (D.i IntKind.i64 r5.fst)), (AC.d (D.i IntKind.i64 (0 : Int))), (AC.d (D.i IntKind.i64 (0 : Int))), (AC.d (D.r RK.u8 ([] : (List Int))))])] [[(AC.d (D.r RK.u8 r6.snd.b)), (AC.d (D.i IntKind.i64 r6.snd.p))]]))))))))))))
             else
              ((true = true) ∧
              ((((Bytes r3.snd.b) ∧
                 (((List.length r3.snd.b) ≤ (2000 : Nat)) ∧
                  (((0 : Int) ≤ r3.snd.p) ∧
                   (r3.snd.p ≤ (1000000000 : Int))))) ∧
                ((3 : Int) ≤ (1000000000 : Int))) ∧
               (∀ r4 : (Prod Int RdS),
                ((r4.snd = (RdS.mk r3.snd.b (r3.snd.p + (1 : Int)))) ∧ (((0 : Int) ≤ r4.fst) ∧ ((((1 : Int) ≤ (3 : Int)) → (r4.fst < (3 : Int))) ∧ (((3 : Int) < (1 : Int)) → (r4.fst = (0 : Int)))))) →
                (true = true) ∧
                ((true = true) ∧
                 ((((Bytes r4.snd.b) ∧
                    (((List.length r4.snd.b) ≤ (2000 : Nat)) ∧
                     (((0 : Int) ≤ r4.snd.p) ∧
                      (r4.snd.p ≤ (900000000 : Int))))) ∧
                   (n ≤ (1000000000 : Int))) ∧
                  (∀ r5 : (Prod Bool RdS),
                   ((r5.snd.b = r4.snd.b) ∧ ((r4.snd.p ≤ r5.snd.p) ∧ (r5.snd.p ≤ (r4.snd.p + (1 : Int))))) →
                   (true = true) ∧
                   (if (r5.fst = true) then
                     ((true = true) ∧
                     ((((Bytes r5.snd.b) ∧
                        (((List.length r5.snd.b) ≤ (2000 : Nat)) ∧
                         (((0 : Int) ≤ r5.snd.p) ∧
                          (r5.snd.p ≤ (1000000000 : Int))))) ∧
                       ((8 : Int) ≤ (1000000000 : Int))) ∧
                      (∀ r6 : (Prod Int RdS),
                       ((r6.snd = (RdS.mk r5.snd.b (r5.snd.p + (1 : Int)))) ∧ (((0 : Int) ≤ r6.fst) ∧ ((((1 : Int) ≤ (8 : Int)) → (r6.fst < (8 : Int))) ∧ (((8 : Int) < (1 : Int)) → (r6.fst = (0 : Int)))))) →
                       (true = true) ∧
                       (if ((r6.fst == (0 : Int)) = true) then
                         ((true = true) ∧
                         ((((Bytes r6.snd.b) ∧
                            (((List.length r6.snd.b) ≤ (2000 : Nat)) ∧
                             (((0 : Int) ≤ r6.snd.p) ∧
                              (r6.snd.p ≤ (1000000000 : Int))))) ∧
                           ((2 : Int) ≤ (1000000000 : Int))) ∧
                          (∀ r7 : (Prod Int RdS),
                           ((r7.snd = (RdS.mk r6.snd.b (r6.snd.p + (1 : Int)))) ∧ (((0 : Int) ≤ r7.fst) ∧ ((((1 : Int) ≤ (2 : Int)) → (r7.fst < (2 : Int))) ∧ (((2 : Int) < (1 : Int)) → (r7.fst = (0 : Int)))))) →
                           (true = true) ∧
                           ((((0 : Int) ≤ r7.fst) ∧
                             (r7.fst < (2 : Int))) ∧
                            ((true = true) ∧
                             (K [(Arg.v true [(AC.d (D.i IntKind.i64 (at_i64 ((0 : Int) :: ((5 : Int) :: ([] : (List Int)) : (List Int)) : (List Int)) (Int.toNat r7.fst)))), (AC.d (D.i IntKind.i64 (0 : Int))), (AC.d (D.i IntKind.i64 r2.fst)), (AC.d (D.b (r3.fst == (0 : Int)))), (AC.d (D.b false)), (AC.d (D.i IntKind.i64 r4.fst)), (AC.d (D.i IntKind.i64 (0 : Int))), (AC.d (D.i IntKind.i64 (0 : Int))), (AC.d (D.r RK.u8 ([] : (List Int))))])] [[(AC.d (D.r RK.u8 r7.snd.b)), (AC.d (D.i IntKind.i64 r7.snd.p))]]))))))
                        else
                         (if ((r6.fst == (1 : Int)) = true) then
                          ((true = true) ∧
                          ((((Bytes r6.snd.b) ∧
                             (((List.length r6.snd.b) ≤ (2000 : Nat)) ∧
                              (((0 : Int) ≤ r6.snd.p) ∧
                               (r6.snd.p ≤ (1000000000 : Int))))) ∧
                            ((3 : Int) ≤ (1000000000 : Int))) ∧
                           (∀ r7 : (Prod Int RdS),
                            ((r7.snd = (RdS.mk r6.snd.b (r6.snd.p + (1 : Int)))) ∧ (((0 : Int) ≤ r7.fst) ∧ ((((1 : Int) ≤ (3 : Int)) → (r7.fst < (3 : Int))) ∧ (((3 : Int) < (1 : Int)) → (r7.fst = (0 : Int)))))) →
                            (true = true) ∧
                            ((((0 : Int) ≤ r7.fst) ∧
                              (r7.fst < (3 : Int))) ∧
                             ((true = true) ∧
                              (K [(Arg.v true [(AC.d (D.i IntKind.i64 (IntKind.wrap IntKind.i64 ((1 : Int) + r1.fst)))), (AC.d (D.i IntKind.i64 (at_i64 ((-1 : Int) :: ((8 : Int) :: ((1 : Int) :: ([] : (List Int)) : (List Int)) : (List Int)) : (List Int)) (Int.toNat r7.fst)))), (AC.d (D.i IntKind.i64 r2.fst)), (AC.d (D.b (r3.fst == (0 : Int)))), (AC.d (D.b false)), (AC.d (D.i IntKind.i64 r4.fst)), (AC.d (D.i IntKind.i64 (0 : Int))), (AC.d (D.i IntKind.i64 (0 : Int))), (AC.d (D.r RK.u8 ([] : (List Int))))])] [[(AC.d (D.r RK.u8 r7.snd.b)), (AC.d (D.i IntKind.i64 r7.snd.p))]]))))))
                         else
                          (if ((r6.fst == (2 : Int)) = true) then
                           ((true = true) ∧
                           ((((Bytes r6.snd.b) ∧
                              (((List.length r6.snd.b) ≤ (2000 : Nat)) ∧
                               (((0 : Int) ≤ r6.snd.p) ∧
                                (r6.snd.p ≤ (1000000000 : Int))))) ∧
                             ((3 : Int) ≤ (1000000000 : Int))) ∧
                            (∀ r7 : (Prod Int RdS),
                             ((r7.snd = (RdS.mk r6.snd.b (r6.snd.p + (1 : Int)))) ∧ (((0 : Int) ≤ r7.fst) ∧ ((((1 : Int) ≤ (3 : Int)) → (r7.fst < (3 : Int))) ∧ (((3 : Int) < (1 : Int)) → (r7.fst = (0 : Int)))))) →
                             (true = true) ∧
                             ((((0 : Int) ≤ r7.fst) ∧
                               (r7.fst < (3 : Int))) ∧
                              ((true = true) ∧
                               (K [(Arg.v true [(AC.d (D.i IntKind.i64 (IntKind.wrap IntKind.i64 ((1 : Int) + r1.fst)))), (AC.d (D.i IntKind.i64 (0 : Int))), (AC.d (D.i IntKind.i64 (at_i64 ((-1 : Int) :: ((8 : Int) :: ((1 : Int) :: ([] : (List Int)) : (List Int)) : (List Int)) : (List Int)) (Int.toNat r7.fst)))), (AC.d (D.b (r3.fst == (0 : Int)))), (AC.d (D.b false)), (AC.d (D.i IntKind.i64 r4.fst)), (AC.d (D.i IntKind.i64 (0 : Int))), (AC.d (D.i IntKind.i64 (0 : Int))), (AC.d (D.r RK.u8 ([] : (List Int))))])] [[(AC.d (D.r RK.u8 r7.snd.b)), (AC.d (D.i IntKind.i64 r7.snd.p))]]))))))
                          else
                           (if ((r6.fst == (3 : Int)) = true) then
                            ((true = true) ∧
                            (K [(Arg.v true [(AC.d (D.i IntKind.i64 (IntKind.wrap IntKind.i64 ((1 : Int) + r1.fst)))), (AC.d (D.i IntKind.i64 (0 : Int))), (AC.d (D.i IntKind.i64 r2.fst)), (AC.d (D.b true)), (AC.d (D.b true)), (AC.d (D.i IntKind.i64 r4.fst)), (AC.d (D.i IntKind.i64 (0 : Int))), (AC.d (D.i IntKind.i64 (0 : Int))), (AC.d (D.r RK.u8 ([] : (List Int))))])] [[(AC.d (D.r RK.u8 r6.snd.b)), (AC.d (D.i IntKind.i64 r6.snd.p))]]))
                           else
                            (if ((r6.fst == (4 : Int)) = true) then
                             ((true = true) ∧
                             ((((Bytes r6.snd.b) ∧
                                (((List.length r6.snd.b) ≤ (2000 : Nat)) ∧
                                 (((0 : Int) ≤ r6.snd.p) ∧
                                  (r6.snd.p ≤ (1000000000 : Int))))) ∧
                               ((3 : Int) ≤ (1000000000 : Int))) ∧
                              (∀ r7 : (Prod Int RdS),
                               ((r7.snd = (RdS.mk r6.snd.b (r6.snd.p + (1 : Int)))) ∧ (((0 : Int) ≤ r7.fst) ∧ ((((1 : Int) ≤ (3 : Int)) → (r7.fst < (3 : Int))) ∧ (((3 : Int) < (1 : Int)) → (r7.fst = (0 : Int)))))) →
                               (true = true) ∧
                               ((((0 : Int) ≤ r7.fst) ∧
                                 (r7.fst < (3 : Int))) ∧
                                ((true = true) ∧
                                 (K [(Arg.v true [(AC.d (D.i IntKind.i64 (IntKind.wrap IntKind.i64 ((1 : Int) + r1.fst)))), (AC.d (D.i IntKind.i64 (0 : Int))), (AC.d (D.i IntKind.i64 r2.fst)), (AC.d (D.b (r3.fst == (0 : Int)))), (AC.d (D.b false)), (AC.d (D.i IntKind.i64 (at_i64 ((-1 : Int) :: ((3 : Int) :: ((1 : Int) :: ([] : (List Int)) : (List Int)) : (List Int)) : (List Int)) (Int.toNat r7.fst)))), (AC.d (D.i IntKind.i64 (0 : Int))), (AC.d (D.i IntKind.i64 (0 : Int))), (AC.d (D.r RK.u8 ([] : (List Int))))])] [[(AC.d (D.r RK.u8 r7.snd.b)), (AC.d (D.i IntKind.i64 r7.snd.p))]]))))))
                            else
                             (if ((r6.fst == (5 : Int)) = true) then
                              ((true = true) ∧
                              ((((Bytes r6.snd.b) ∧
                                 (((List.length r6.snd.b) ≤ (2000 : Nat)) ∧
                                  (((0 : Int) ≤ r6.snd.p) ∧
                                   (r6.snd.p ≤ (1000000000 : Int))))) ∧
                                ((4 : Int) ≤ (1000000000 : Int))) ∧
                               (∀ r7 : (Prod Int RdS),
                                ((r7.snd = (RdS.mk r6.snd.b (r6.snd.p + (1 : Int)))) ∧ (((0 : Int) ≤ r7.fst) ∧ ((((1 : Int) ≤ (4 : Int)) → (r7.fst < (4 : Int))) ∧ (((4 : Int) < (1 : Int)) → (r7.fst = (0 : Int)))))) →
                                (true = true) ∧
                                ((((0 : Int) ≤ r7.fst) ∧
                                  (r7.fst < (4 : Int))) ∧
                                 ((true = true) ∧
                                  (K [(Arg.v true [(AC.d (D.i IntKind.i64 (IntKind.wrap IntKind.i64 ((1 : Int) + r1.fst)))), (AC.d (D.i IntKind.i64 (0 : Int))), (AC.d (D.i IntKind.i64 r2.fst)), (AC.d (D.b (r3.fst == (0 : Int)))), (AC.d (D.b false)), (AC.d (D.i IntKind.i64 r4.fst)), (AC.d (D.i IntKind.i64 (0 : Int))), (AC.d (D.i IntKind.i64 (at_i64 ((-1 : Int) :: ((0 : Int) :: ((256 : Int) :: ((30 : Int) :: ([] : (List Int)) : (List Int)) : (List Int)) : (List Int)) : (List Int)) (Int.toNat r7.fst)))), (AC.d (D.r RK.u8 ([] : (List Int))))])] [[(AC.d (D.r RK.u8 r7.snd.b)), (AC.d (D.i IntKind.i64 r7.snd.p))]]))))))
                             else
                              (if ((r6.fst == (6 : Int)) = true) then
                               (((9 : Nat) ≤ (137438953472 : Nat)) ∧
                               ((true = true) ∧
                                (K [(Arg.v true [(AC.d (D.i IntKind.i64 (IntKind.wrap IntKind.i64 ((1 : Int) + r1.fst)))), (AC.d (D.i IntKind.i64 (0 : Int))), (AC.d (D.i IntKind.i64 r2.fst)), (AC.d (D.b (r3.fst == (0 : Int)))), (AC.d (D.b false)), (AC.d (D.i IntKind.i64 r4.fst)), (AC.d (D.i IntKind.i64 (0 : Int))), (AC.d (D.i IntKind.i64 (0 : Int))), (AC.d (D.r RK.u8 (([] : (List Int)) ++ ((1 : Int) :: ((2 : Int) :: ((3 : Int) :: ((4 : Int) :: ((5 : Int) :: ((6 : Int) :: ((7 : Int) :: ((8 : Int) :: ((9 : Int) :: ([] : (List Int)) : (List Int)) : (List Int)) : (List Int)) : (List Int)) : (List Int)) : (List Int)) : (List Int)) : (List Int)) : (List Int)) : (List Int))))])] [[(AC.d (D.r RK.u8 r6.snd.b)), (AC.d (D.i IntKind.i64 r6.snd.p))]])))
                              else
                               ((true = true) ∧
                               ((((Bytes r6.snd.b) ∧
                                  (((List.length r6.snd.b) ≤ (2000 : Nat)) ∧
                                   (((0 : Int) ≤ r6.snd.p) ∧
                                    (r6.snd.p ≤ (1000000000 : Int))))) ∧
                                 ((3 : Int) ≤ (1000000000 : Int))) ∧
                                (∀ r7 : (Prod Int RdS),
                                 ((r7.snd = (RdS.mk r6.snd.b (r6.snd.p + (1 : Int)))) ∧ (((0 : Int) ≤ r7.fst) ∧ ((((1 : Int) ≤ (3 : Int)) → (r7.fst < (3 : Int))) ∧ (((3 : Int) < (1 : Int)) → (r7.fst = (0 : Int)))))) →
                                 (true = true) ∧
                                 ((((0 : Int) ≤ r7.fst) ∧
                                   (r7.fst < (3 : Int))) ∧
                                  ((true = true) ∧
                                   (K [(Arg.v true [(AC.d (D.i IntKind.i64 (IntKind.wrap IntKind.i64 ((1 : Int) + r1.fst)))), (AC.d (D.i IntKind.i64 (0 : Int))), (AC.d (D.i IntKind.i64 r2.fst)), (AC.d (D.b (r3.fst == (0 : Int)))), (AC.d (D.b false)), (AC.d (D.i IntKind.i64 r4.fst)), (AC.d (D.i IntKind.i64 (at_i64 ((-1 : Int) :: ((4 : Int) :: ((2 : Int) :: ([] : (List Int)) : (List Int)) : (List Int)) : (List Int)) (Int.toNat r7.fst)))), (AC.d (D.i IntKind.i64 (0 : Int))), (AC.d (D.r RK.u8 ([] : (List Int))))])] [[(AC.d (D.r RK.u8 r7.snd.b)), (AC.d (D.i IntKind.i64 r7.snd.p))]]))))))))))))))))
                    else
                     ((true = true) ∧
                     (K [(Arg.v true [(AC.d (D.i IntKind.i64 (IntKind.wrap IntKind.i64 ((1 : Int) + r1.fst)))), (AC.d (D.i IntKind.i64 (0 : Int))), (AC.d (D.i IntKind.i64 r2.fst)), (AC.d (D.b (r3.fst == (0 : Int)))), (AC.d (D.b false)), (AC.d (D.i IntKind.i64 r4.fst)), (AC.d (D.i IntKind.i64 (0 : Int))), (AC.d (D.i IntKind.i64 (0 : Int))), (AC.d (D.r RK.u8 ([] : (List Int))))])] [[(AC.d (D.r RK.u8 r5.snd.b)), (AC.d (D.i IntKind.i64 r5.snd.p))]]))))))))))))))))
      else
       (if (((IntKind.wrap IntKind.i64 ((1 : Int) + r1.fst)) == (3 : Int)) = true) then
        ((true = true) ∧
        (((Bytes r1.snd.b) ∧
          (((List.length r1.snd.b) ≤ (2000 : Nat)) ∧
           (((0 : Int) ≤ r1.snd.p) ∧
            (r1.snd.p ≤ (45000000 : Int))))) ∧
         (∀ r2 : (Prod Part RdS),
          ((Bytes r2.fst.data) ∧ (((List.length r2.fst.data) ≤ (100 : Nat)) ∧ (RdOn r1.snd r2.snd (50 : Int)))) →
          (true = true) ∧
          ((true = true) ∧
           ((((Bytes r2.snd.b) ∧
              (((List.length r2.snd.b) ≤ (2000 : Nat)) ∧
               (((0 : Int) ≤ r2.snd.p) ∧
                (r2.snd.p ≤ (900000000 : Int))))) ∧
             (n ≤ (1000000000 : Int))) ∧
            (∀ r3 : (Prod Bool RdS),
             ((r3.snd.b = r2.snd.b) ∧ ((r2.snd.p ≤ r3.snd.p) ∧ (r3.snd.p ≤ (r2.snd.p + (1 : Int))))) →
             (true = true) ∧
             (if (r3.fst = true) then
               ((true = true) ∧
               ((((Bytes r3.snd.b) ∧
                  (((List.length r3.snd.b) ≤ (2000 : Nat)) ∧
                   (((0 : Int) ≤ r3.snd.p) ∧
                    (r3.snd.p ≤ (1000000000 : Int))))) ∧
                 ((8 : Int) ≤ (1000000000 : Int))) ∧
                (∀ r4 : (Prod Int RdS),
                 ((r4.snd = (RdS.mk r3.snd.b (r3.snd.p + (1 : Int)))) ∧ (((0 : Int) ≤ r4.fst) ∧ ((((1 : Int) ≤ (8 : Int)) → (r4.fst < (8 : Int))) ∧ (((8 : Int) < (1 : Int)) → (r4.fst = (0 : Int)))))) →
                 (true = true) ∧
                 (if ((r4.fst == (0 : Int)) = true) then
                   ((true = true) ∧
                   ((((Bytes r4.snd.b) ∧
                      (((List.length r4.snd.b) ≤ (2000 : Nat)) ∧
                       (((0 : Int) ≤ r4.snd.p) ∧
                        (r4.snd.p ≤ (1000000000 : Int))))) ∧
                     ((2 : Int) ≤ (1000000000 : Int))) ∧
                    (∀ r5 : (Prod Int RdS),
                     ((r5.snd = (RdS.mk r4.snd.b (r4.snd.p + (1 : Int)))) ∧ (((0 : Int) ≤ r5.fst) ∧ ((((1 : Int) ≤ (2 : Int)) → (r5.fst < (2 : Int))) ∧ (((2 : Int) < (1 : Int)) → (r5.fst = (0 : Int)))))) →
                     (true = true) ∧
                     ((((0 : Int) ≤ r5.fst) ∧
                       (r5.fst < (2 : Int))) ∧
                      ((true = true) ∧
                       (K [(Arg.v true [(AC.d (D.i IntKind.i64 (at_i64 ((0 : Int) :: ((5 : Int) :: ([] : (List Int)) : (List Int)) : (List Int)) (Int.toNat r5.fst)))), (AC.d (D.i IntKind.i64 (0 : Int))), (AC.d (D.i IntKind.i64 (0 : Int))), (AC.d (D.b false)), (AC.d (D.b false)), (AC.d (D.i IntKind.i64 (0 : Int))), (AC.d (D.i IntKind.i64 r2.fst.seg)), (AC.d (D.i IntKind.i64 r2.fst.len)), (AC.d (D.r RK.u8 r2.fst.data))])] [[(AC.d (D.r RK.u8 r5.snd.b)), (AC.d (D.i IntKind.i64 r5.snd.p))]]))))))
                  else
                   (if ((r4.fst == (1 : Int)) = true) then
                    ((true = true) ∧
                    ((((Bytes r4.snd.b) ∧
                       (((List.length r4.snd.b) ≤ (2000 : Nat)) ∧
                        (((0 : Int) ≤ r4.snd.p) ∧
                         (r4.snd.p ≤ (1000000000 : Int))))) ∧
                      ((3 : Int) ≤ (1000000000 : Int))) ∧
                     (∀ r5 : (Prod Int RdS),
                      ((r5.snd = (RdS.mk r4.snd.b (r4.snd.p + (1 : Int)))) ∧ (((0 : Int) ≤ r5.fst) ∧ ((((1 : Int) ≤ (3 : Int)) → (r5.fst < (3 : Int))) ∧ (((3 : Int) < (1 : Int)) → (r5.fst = (0 : Int)))))) →
                      (true = true) ∧
                      ((((0 : Int) ≤ r5.fst) ∧
                        (r5.fst < (3 : Int))) ∧
                       ((true = true) ∧
                        (K [(Arg.v true [(AC.d (D.i IntKind.i64 (3 : Int))), (AC.d (D.i IntKind.i64 (at_i64 ((-1 : Int) :: ((8 : Int) :: ((1 : Int) :: ([] : (List Int)) : (List Int)) : (List Int)) : (List Int)) (Int.toNat r5.fst)))), (AC.d (D.i IntKind.i64 (0 : Int))), (AC.d (D.b false)), (AC.d (D.b false)), (AC.d (D.i IntKind.i64 (0 : Int))), (AC.d (D.i IntKind.i64 r2.fst.seg)), (AC.d (D.i IntKind.i64 r2.fst.len)), (AC.d (D.r RK.u8 r2.fst.data))])] [[(AC.d (D.r RK.u8 r5.snd.b)), (AC.d (D.i IntKind.i64 r5.snd.p))]]))))))
                   else
                    (if ((r4.fst == (2 : Int)) = true) then
                     ((true = true) ∧
                     ((((Bytes r4.snd.b) ∧
                        (((List.length r4.snd.b) ≤ (2000 : Nat)) ∧
                         (((0 : Int) ≤ r4.snd.p) ∧
                          (r4.snd.p ≤ (1000000000 : Int))))) ∧
                       ((3 : Int) ≤ (1000000000 : Int))) ∧
                      (∀ r5 : (Prod Int RdS),
                       ((r5.snd = (RdS.mk r4.snd.b (r4.snd.p + (1 : Int)))) ∧ (((0 : Int) ≤ r5.fst) ∧ ((((1 : Int) ≤ (3 : Int)) → (r5.fst < (3 : Int))) ∧ (((3 : Int) < (1 : Int)) → (r5.fst = (0 : Int)))))) →
                       (true = true) ∧
                       ((((0 : Int) ≤ r5.fst) ∧
                         (r5.fst < (3 : Int))) ∧
                        ((true = true) ∧
                         (K [(Arg.v true [(AC.d (D.i IntKind.i64 (3 : Int))), (AC.d (D.i IntKind.i64 (0 : Int))), (AC.d (D.i IntKind.i64 (at_i64 ((-1 : Int) :: ((8 : Int) :: ((1 : Int) :: ([] : (List Int)) : (List Int)) : (List Int)) : (List Int)) (Int.toNat r5.fst)))), (AC.d (D.b false)), (AC.d (D.b false)), (AC.d (D.i IntKind.i64 (0 : Int))), (AC.d (D.i IntKind.i64 r2.fst.seg)), (AC.d (D.i IntKind.i64 r2.fst.len)), (AC.d (D.r RK.u8 r2.fst.data))])] [[(AC.d (D.r RK.u8 r5.snd.b)), (AC.d (D.i IntKind.i64 r5.snd.p))]]))))))
                    else
                     (if ((r4.fst == (3 : Int)) = true) then
                      ((true = true) ∧
                      (K [(Arg.v true [(AC.d (D.i IntKind.i64 (3 : Int))), (AC.d (D.i IntKind.i64 (0 : Int))), (AC.d (D.i IntKind.i64 (0 : Int))), (AC.d (D.b true)), (AC.d (D.b true)), (AC.d (D.i IntKind.i64 (0 : Int))), (AC.d (D.i IntKind.i64 r2.fst.seg)), (AC.d (D.i IntKind.i64 r2.fst.len)), (AC.d (D.r RK.u8 r2.fst.data))])] [[(AC.d (D.r RK.u8 r4.snd.b)), (AC.d (D.i IntKind.i64 r4.snd.p))]]))
                     else
                      (if ((r4.fst == (4 : Int)) = true) then
                       ((true = true) ∧
                       ((((Bytes r4.snd.b) ∧
                          (((List.length r4.snd.b) ≤ (2000 : Nat)) ∧
                           (((0 : Int) ≤ r4.snd.p) ∧
                            (r4.snd.p ≤ (1000000000 : Int))))) ∧
                         ((3 : Int) ≤ (1000000000 : Int))) ∧
                        (∀ r5 : (Prod Int RdS),
                         ((r5.snd = (RdS.mk r4.snd.b (r4.snd.p + (1 : Int)))) ∧ (((0 : Int) ≤ r5.fst) ∧ ((((1 : Int) ≤ (3 : Int)) → (r5.fst < (3 : Int))) ∧ (((3 : Int) < (1 : Int)) → (r5.fst = (0 : Int)))))) →
                         (true = true) ∧
                         ((((0 : Int) ≤ r5.fst) ∧
                           (r5.fst < (3 : Int))) ∧
                          ((true = true) ∧
                           (K [(Arg.v true [(AC.d (D.i IntKind.i64 (3 : Int))), (AC.d (D.i IntKind.i64 (0 : Int))), (AC.d (D.i IntKind.i64 (0 : Int))), (AC.d (D.b false)), (AC.d (D.b false)), (AC.d (D.i IntKind.i64 (at_i64 ((-1 : Int) :: ((3 : Int) :: ((1 : Int) :: ([] : (List Int)) : (List Int)) : (List Int)) : (List Int)) (Int.toNat r5.fst)))), (AC.d (D.i IntKind.i64 r2.fst.seg)), (AC.d (D.i IntKind.i64 r2.fst.len)), (AC.d (D.r RK.u8 r2.fst.data))])] [[(AC.d (D.r RK.u8 r5.snd.b)), (AC.d (D.i IntKind.i64 r5.snd.p))]]))))))
                      else
                       (if ((r4.fst == (5 : Int)) = true) then
                        ((true = true) ∧
                        ((((Bytes r4.snd.b) ∧
                           (((List.length r4.snd.b) ≤ (2000 : Nat)) ∧
                            (((0 : Int) ≤ r4.snd.p) ∧
                             (r4.snd.p ≤ (1000000000 : Int))))) ∧
                          ((4 : Int) ≤ (1000000000 : Int))) ∧
                         (∀ r5 : (Prod Int RdS),
                          ((r5.snd = (RdS.mk r4.snd.b (r4.snd.p + (1 : Int)))) ∧ (((0 : Int) ≤ r5.fst) ∧ ((((1 : Int) ≤ (4 : Int)) → (r5.fst < (4 : Int))) ∧ (((4 : Int) < (1 : Int)) → (r5.fst = (0 : Int)))))) →
                          (true = true) ∧
                          ((((0 : Int) ≤ r5.fst) ∧
                            (r5.fst < (4 : Int))) ∧
                           ((true = true) ∧
                            (K [(Arg.v true [(AC.d (D.i IntKind.i64 (3 : Int))), (AC.d (D.i IntKind.i64 (0 : Int))), (AC.d (D.i IntKind.i64 (0 : Int))), (AC.d (D.b false)), (AC.d (D.b false)), (AC.d (D.i IntKind.i64 (0 : Int))), (AC.d (D.i IntKind.i64 r2.fst.seg)), (AC.d (D.i IntKind.i64 (at_i64 ((-1 : Int) :: ((0 : Int) :: ((256 : Int) :: ((30 : Int) :: ([] : (List Int)) : (List Int)) : (List Int)) : (List Int)) : (List Int)) (Int.toNat r5.fst)))), (AC.d (D.r RK.u8 r2.fst.data))])] [[(AC.d (D.r RK.u8 r5.snd.b)), (AC.d (D.i IntKind.i64 r5.snd.p))]]))))))
                       else
                        (if ((r4.fst == (6 : Int)) = true) then
                         ((((List.length r2.fst.data) + (9 : Nat)) ≤ (137438953472 : Nat)) ∧
                         ((true = true) ∧
                          (K [(Arg.v true [(AC.d (D.i IntKind.i64 (3 : Int))), (AC.d (D.i IntKind.i64 (0 : Int))), (AC.d (D.i IntKind.i64 (0 : Int))), (AC.d (D.b false)), (AC.d (D.b false)), (AC.d (D.i IntKind.i64 (0 : Int))), (AC.d (D.i IntKind.i64 r2.fst.seg)), (AC.d (D.i IntKind.i64 r2.fst.len)), (AC.d (D.r RK.u8 (r2.fst.data ++ ((1 : Int) :: ((2 : Int) :: ((3 : Int) :: ((4 : Int) :: ((5 : Int) :: ((6 : Int) :: ((7 : Int) :: ((8 : Int) :: ((9 : Int) :: ([] : (List Int)) : (List Int)) : (List Int)) : (List Int)) : (List Int)) : (List Int)) : (List Int)) : (List Int)) : (List Int)) : (List Int)) : (List Int))))])] [[(AC.d (D.r RK.u8 r4.snd.b)), (AC.d (D.i IntKind.i64 r4.snd.p))]])))
                        else
                         ((true = true) ∧
                         ((((Bytes r4.snd.b) ∧
                            (((List.length r4.snd.b) ≤ (2000 : Nat)) ∧
                             (((0 : Int) ≤ r4.snd.p) ∧
                              (r4.snd.p ≤ (1000000000 : Int))))) ∧
                           ((3 : Int) ≤ (1000000000 : Int))) ∧
                          (∀ r5 : (Prod Int RdS),
                           ((r5.snd = (RdS.mk r4.snd.b (r4.snd.p + (1 : Int)))) ∧ (((0 : Int) ≤ r5.fst) ∧ ((((1 : Int) ≤ (3 : Int)) → (r5.fst < (3 : Int))) ∧ (((3 : Int) < (1 : Int)) → (r5.fst = (0 : Int)))))) →
                           (true = true) ∧
                           ((((0 : Int) ≤ r5.fst) ∧
                             (r5.fst < (3 : Int))) ∧
                            ((true = true) ∧
                             (K [(Arg.v true [(AC.d (D.i IntKind.i64 (3 : Int))), (AC.d (D.i IntKind.i64 (0 : Int))), (AC.d (D.i IntKind.i64 (0 : Int))), (AC.d (D.b false)), (AC.d (D.b false)), (AC.d (D.i IntKind.i64 (0 : Int))), (AC.d (D.i IntKind.i64 (at_i64 ((-1 : Int) :: ((4 : Int) :: ((2 : Int) :: ([] : (List Int)) : (List Int)) : (List Int)) : (List Int)) (Int.toNat r5.fst)))), (AC.d (D.i IntKind.i64 r2.fst.len)), (AC.d (D.r RK.u8 r2.fst.data))])] [[(AC.d (D.r RK.u8 r5.snd.b)), (AC.d (D.i IntKind.i64 r5.snd.p))]]))))))))))))))))
              else
               ((true = true) ∧
               (K [(Arg.v true [(AC.d (D.i IntKind.i64 (3 : Int))), (AC.d (D.i IntKind.i64 (0 : Int))), (AC.d (D.i IntKind.i64 (0 : Int))), (AC.d (D.b false)), (AC.d (D.b false)), (AC.d (D.i IntKind.i64 (0 : Int))), (AC.d (D.i IntKind.i64 r2.fst.seg)), (AC.d (D.i IntKind.i64 r2.fst.len)), (AC.d (D.r RK.u8 r2.fst.data))])] [[(AC.d (D.r RK.u8 r3.snd.b)), (AC.d (D.i IntKind.i64 r3.snd.p))]])))))))))
       else
        ((true = true) ∧
        ((((Bytes r1.snd.b) ∧
           (((List.length r1.snd.b) ≤ (2000 : Nat)) ∧
            (((0 : Int) ≤ r1.snd.p) ∧
             (r1.snd.p ≤ (1000000000 : Int))))) ∧
          ((9 : Int) ≤ (1000000000 : Int))) ∧
         (∀ r2 : (Prod Int RdS),
          ((r2.snd = (RdS.mk r1.snd.b (r1.snd.p + (1 : Int)))) ∧ (((0 : Int) ≤ r2.fst) ∧ ((((1 : Int) ≤ (9 : Int)) → (r2.fst < (9 : Int))) ∧ (((9 : Int) < (1 : Int)) → (r2.fst = (0 : Int)))))) →
          (true = true) ∧
          ((true = true) ∧
           ((((Bytes r2.snd.b) ∧
              (((List.length r2.snd.b) ≤ (2000 : Nat)) ∧
               (((0 : Int) ≤ r2.snd.p) ∧
                (r2.snd.p ≤ (1000000000 : Int))))) ∧
             ((2 : Int) ≤ (1000000000 : Int))) ∧
            (∀ r3 : (Prod Int RdS),
             ((r3.snd = (RdS.mk r2.snd.b (r2.snd.p + (1 : Int)))) ∧ (((0 : Int) ≤ r3.fst) ∧ ((((1 : Int) ≤ (2 : Int)) → (r3.fst < (2 : Int))) ∧ (((2 : Int) < (1 : Int)) → (r3.fst = (0 : Int)))))) →
             (true = true) ∧
             ((((0 : Int) ≤ r3.fst) ∧
               (r3.fst < (((List.length ((IntKind.wrap IntKind.i64 ((1 : Int) + r2.fst)) :: ((255 : Int) :: ([] : (List Int)) : (List Int)) : (List Int))) : Nat) : Int))) ∧
              ((true = true) ∧
               ((((Bytes r3.snd.b) ∧
                  (((List.length r3.snd.b) ≤ (2000 : Nat)) ∧
                   (((0 : Int) ≤ r3.snd.p) ∧
                    (r3.snd.p ≤ (900000000 : Int))))) ∧
                 (n ≤ (1000000000 : Int))) ∧
                (∀ r4 : (Prod Bool RdS),
                 ((r4.snd.b = r3.snd.b) ∧ ((r3.snd.p ≤ r4.snd.p) ∧ (r4.snd.p ≤ (r3.snd.p + (1 : Int))))) →
                 (true = true) ∧
                 (if (r4.fst = true) then
                   ((true = true) ∧
                   ((((Bytes r4.snd.b) ∧
                      (((List.length r4.snd.b) ≤ (2000 : Nat)) ∧
                       (((0 : Int) ≤ r4.snd.p) ∧
                        (r4.snd.p ≤ (1000000000 : Int))))) ∧
                     ((8 : Int) ≤ (1000000000 : Int))) ∧
                    (∀ r5 : (Prod Int RdS),
                     ((r5.snd = (RdS.mk r4.snd.b (r4.snd.p + (1 : Int)))) ∧ (((0 : Int) ≤ r5.fst) ∧ ((((1 : Int) ≤ (8 : Int)) → (r5.fst < (8 : Int))) ∧ (((8 : Int) < (1 : Int)) → (r5.fst = (0 : Int)))))) →
                     (true = true) ∧
                     (if ((r5.fst == (0 : Int)) = true) then
                       ((true = true) ∧
                       ((((Bytes r5.snd.b) ∧
                          (((List.length r5.snd.b) ≤ (2000 : Nat)) ∧
                           (((0 : Int) ≤ r5.snd.p) ∧
                            (r5.snd.p ≤ (1000000000 : Int))))) ∧
                         ((2 : Int) ≤ (1000000000 : Int))) ∧
                        (∀ r6 : (Prod Int RdS),
                         ((r6.snd = (RdS.mk r5.snd.b (r5.snd.p + (1 : Int)))) ∧ (((0 : Int) ≤ r6.fst) ∧ ((((1 : Int) ≤ (2 : Int)) → (r6.fst < (2 : Int))) ∧ (((2 : Int) < (1 : Int)) → (r6.fst = (0 : Int)))))) →
                         (true = true) ∧
                         ((((0 : Int) ≤ r6.fst) ∧
                           (r6.fst < (2 : Int))) ∧
                          ((true = true) ∧
                           (K [(Arg.v true [(AC.d (D.i IntKind.i64 (at_i64 ((0 : Int) :: ((5 : Int) :: ([] : (List Int)) : (List Int)) : (List Int)) (Int.toNat r6.fst)))), (AC.d (D.i IntKind.i64 (0 : Int))), (AC.d (D.i IntKind.i64 (0 : Int))), (AC.d (D.b false)), (AC.d (D.b false)), (AC.d (D.i IntKind.i64 (0 : Int))), (AC.d (D.i IntKind.i64 (0 : Int))), (AC.d (D.i IntKind.i64 (at_i64 ((IntKind.wrap IntKind.i64 ((1 : Int) + r2.fst)) :: ((255 : Int) :: ([] : (List Int)) : (List Int)) : (List Int)) (Int.toNat r3.fst)))), (AC.d (D.r RK.u8 ([] : (List Int))))])] [[(AC.d (D.r RK.u8 r6.snd.b)), (AC.d (D.i IntKind.i64 r6.snd.p))]]))))))
                      else
                       (if ((r5.fst == (1 : Int)) = true) then
                        ((true = true) ∧
                        ((((Bytes r5.snd.b) ∧
                           (((List.length r5.snd.b) ≤ (2000 : Nat)) ∧
                            (((0 : Int) ≤ r5.snd.p) ∧
                             (r5.snd.p ≤ (1000000000 : Int))))) ∧
                          ((3 : Int) ≤ (1000000000 : Int))) ∧
                         (∀ r6 : (Prod Int RdS),
                          ((r6.snd = (RdS.mk r5.snd.b (r5.snd.p + (1 : Int)))) ∧ (((0 : Int) ≤ r6.fst) ∧ ((((1 : Int) ≤ (3 : Int)) → (r6.fst < (3 : Int))) ∧ (((3 : Int) < (1 : Int)) → (r6.fst = (0 : Int)))))) →
                          (true = true) ∧
                          ((((0 : Int) ≤ r6.fst) ∧
                            (r6.fst < (3 : Int))) ∧
                           ((true = true) ∧
                            (K [(Arg.v true [(AC.d (D.i IntKind.i64 (IntKind.wrap IntKind.i64 ((1 : Int) + r1.fst)))), (AC.d (D.i IntKind.i64 (at_i64 ((-1 : Int) :: ((8 : Int) :: ((1 : Int) :: ([] : (List Int)) : (List Int)) : (List Int)) : (List Int)) (Int.toNat r6.fst)))), (AC.d (D.i IntKind.i64 (0 : Int))), (AC.d (D.b false)), (AC.d (D.b false)), (AC.d (D.i IntKind.i64 (0 : Int))), (AC.d (D.i IntKind.i64 (0 : Int))), (AC.d (D.i IntKind.i64 (at_i64 ((IntKind.wrap IntKind.i64 ((1 : Int) + r2.fst)) :: ((255 : Int) :: ([] : (List Int)) : (List Int)) : (List Int)) (Int.toNat r3.fst)))), (AC.d (D.r RK.u8 ([] : (List Int))))])] [[(AC.d (D.r RK.u8 r6.snd.b)), (AC.d (D.i IntKind.i64 r6.snd.p))]]))))))
                       else
                        (if ((r5.fst == (2 : Int)) = true) then
                         ((true = true) ∧
                         ((((Bytes r5.snd.b) ∧
                            (((List.length r5.snd.b) ≤ (2000 : Nat)) ∧
                             (((0 : Int) ≤ r5.snd.p) ∧
                              (r5.snd.p ≤ (1000000000 : Int))))) ∧
                           ((3 : Int) ≤ (1000000000 : Int))) ∧
                          (∀ r6 : (Prod Int RdS),
                           ((r6.snd = (RdS.mk r5.snd.b (r5.snd.p + (1 : Int)))) ∧ (((0 : Int) ≤ r6.fst) ∧ ((((1 : Int) ≤ (3 : Int)) → (r6.fst < (3 : Int))) ∧ (((3 : Int) < (1 : Int)) → (r6.fst = (0 : Int)))))) →
                           (true = true) ∧
                           ((((0 : Int) ≤ r6.fst) ∧
                             (r6.fst < (3 : Int))) ∧
                            ((true = true) ∧
                             (K [(Arg.v true [(AC.d (D.i IntKind.i64 (IntKind.wrap IntKind.i64 ((1 : Int) + r1.fst)))), (AC.d (D.i IntKind.i64 (0 : Int))), (AC.d (D.i IntKind.i64 (at_i64 ((-1 : Int) :: ((8 : Int) :: ((1 : Int) :: ([] : (List Int)) : (List Int)) : (List Int)) : (List Int)) (Int.toNat r6.fst)))), (AC.d (D.b false)), (AC.d (D.b false)), (AC.d (D.i IntKind.i64 (0 : Int))), (AC.d (D.i IntKind.i64 (0 : Int))), (AC.d (D.i IntKind.i64 (at_i64 ((IntKind.wrap IntKind.i64 ((1 : Int) + r2.fst)) :: ((255 : Int) :: ([] : (List Int)) : (List Int)) : (List Int)) (Int.toNat r3.fst)))), (AC.d (D.r RK.u8 ([] : (List Int))))])] [[(AC.d (D.r RK.u8 r6.snd.b)), (AC.d (D.i IntKind.i64 r6.snd.p))]]))))))
                        else
                         (if ((r5.fst == (3 : Int)) = true) then
                          ((true = true) ∧
                          (K [(Arg.v true [(AC.d (D.i IntKind.i64 (IntKind.wrap IntKind.i64 ((1 : Int) + r1.fst)))), (AC.d (D.i IntKind.i64 (0 : Int))), (AC.d (D.i IntKind.i64 (0 : Int))), (AC.d (D.b true)), (AC.d (D.b true)), (AC.d (D.i IntKind.i64 (0 : Int))), (AC.d (D.i IntKind.i64 (0 : Int))), (AC.d (D.i IntKind.i64 (at_i64 ((IntKind.wrap IntKind.i64 ((1 : Int) + r2.fst)) :: ((255 : Int) :: ([] : (List Int)) : (List Int)) : (List Int)) (Int.toNat r3.fst)))), (AC.d (D.r RK.u8 ([] : (List Int))))])] [[(AC.d (D.r RK.u8 r5.snd.b)), (AC.d (D.i IntKind.i64 r5.snd.p))]]))
                         else
                          (if ((r5.fst == (4 : Int)) = true) then
                           ((true = true) ∧
                           ((((Bytes r5.snd.b) ∧
                              (((List.length r5.snd.b) ≤ (2000 : Nat)) ∧
                               (((0 : Int) ≤ r5.snd.p) ∧
                                (r5.snd.p ≤ (1000000000 : Int))))) ∧
                             ((3 : Int) ≤ (1000000000 : Int))) ∧
                            (∀ r6 : (Prod Int RdS),
                             ((r6.snd = (RdS.mk r5.snd.b (r5.snd.p + (1 : Int)))) ∧ (((0 : Int) ≤ r6.fst) ∧ ((((1 : Int) ≤ (3 : Int)) → (r6.fst < (3 : Int))) ∧ (((3 : Int) < (1 : Int)) → (r6.fst = (0 : Int)))))) →
                             (true = true) ∧
                             ((((0 : Int) ≤ r6.fst) ∧
                               (r6.fst < (3 : Int))) ∧
                              ((true = true) ∧
                               (K [(Arg.v true [(AC.d (D.i IntKind.i64 (IntKind.wrap IntKind.i64 ((1 : Int) + r1.fst)))), (AC.d (D.i IntKind.i64 (0 : Int))), (AC.d (D.i IntKind.i64 (0 : Int))), (AC.d (D.b false)), (AC.d (D.b false)), (AC.d (D.i IntKind.i64 (at_i64 ((-1 : Int) :: ((3 : Int) :: ((1 : Int) :: ([] : (List Int)) : (List Int)) : (List Int)) : (List Int)) (Int.toNat r6.fst)))), (AC.d (D.i IntKind.i64 (0 : Int))), (AC.d (D.i IntKind.i64 (at_i64 ((IntKind.wrap IntKind.i64 ((1 : Int) + r2.fst)) :: ((255 : Int) :: ([] : (List Int)) : (List Int)) : (List Int)) (Int.toNat r3.fst)))), (AC.d (D.r RK.u8 ([] : (List Int))))])] [[(AC.d (D.r RK.u8 r6.snd.b)), (AC.d (D.i IntKind.i64 r6.snd.p))]]))))))
                          else
                           (if ((r5.fst == (5 : Int)) = true) then
                            ((true = true) ∧
                            ((((Bytes r5.snd.b) ∧
                               (((List.length r5.snd.b) ≤ (2000 : Nat)) ∧
                                (((0 : Int) ≤ r5.snd.p) ∧
                                 (r5.snd.p ≤ (1000000000 : Int))))) ∧
                              ((4 : Int) ≤ (1000000000 : Int))) ∧
                             (∀ r6 : (Prod Int RdS),
                              ((r6.snd = (RdS.mk r5.snd.b (r5.snd.p + (1 : Int)))) ∧ (((0 : Int) ≤ r6.fst) ∧ ((((1 : Int) ≤ (4 : Int)) → (r6.fst < (4 : Int))) ∧ (((4 : Int) < (1 : Int)) → (r6.fst = (0 : Int)))))) →
                              (true = true) ∧
                              ((((0 : Int) ≤ r6.fst) ∧
                                (r6.fst < (4 : Int))) ∧
                               ((true = true) ∧
                                (K [(Arg.v true [(AC.d (D.i IntKind.i64 (IntKind.wrap IntKind.i64 ((1 : Int) + r1.fst)))), (AC.d (D.i IntKind.i64 (0 : Int))), (AC.d (D.i IntKind.i64 (0 : Int))), (AC.d (D.b false)), (AC.d (D.b false)), (AC.d (D.i IntKind.i64 (0 : Int))), (AC.d (D.i IntKind.i64 (0 : Int))), (AC.d (D.i IntKind.i64 (at_i64 ((-1 : Int) :: ((0 : Int) :: ((256 : Int) :: ((30 : Int) :: ([] : (List Int)) : (List Int)) : (List Int)) : (List Int)) : (List Int)) (Int.toNat r6.fst)))), (AC.d (D.r RK.u8 ([] : (List Int))))])] [[(AC.d (D.r RK.u8 r6.snd.b)), (AC.d (D.i IntKind.i64 r6.snd.p))]]))))))
                           else
                            (if ((r5.fst == (6 : Int)) = true) then
                             (((9 : Nat) ≤ (137438953472 : Nat)) ∧
                             ((true = true) ∧
                              (K [(Arg.v true [(AC.d (D.i IntKind.i64 (IntKind.wrap IntKind.i64 ((1 : Int) + r1.fst)))), (AC.d (D.i IntKind.i64 (0 : Int))), (AC.d (D.i IntKind.i64 (0 : Int))), (AC.d (D.b false)), (AC.d (D.b false)), (AC.d (D.i IntKind.i64 (0 : Int))), (AC.d (D.i IntKind.i64 (0 : Int))), (AC.d (D.i IntKind.i64 (at_i64 ((IntKind.wrap IntKind.i64 ((1 : Int) + r2.fst)) :: ((255 : Int) :: ([] : (List Int)) : (List Int)) : (List Int)) (Int.toNat r3.fst)))), (AC.d (D.r RK.u8 (([] : (List Int)) ++ ((1 : Int) :: ((2 : Int) :: ((3 : Int) :: ((4 : Int) :: ((5 : Int) :: ((6 : Int) :: ((7 : Int) :: ((8 : Int) :: ((9 : Int) :: ([] : (List Int)) : (List Int)) : (List Int)) : (List Int)) : (List Int)) : (List Int)) : (List Int)) : (List Int)) : (List Int)) : (List Int)) : (List Int))))])] [[(AC.d (D.r RK.u8 r5.snd.b)), (AC.d (D.i IntKind.i64 r5.snd.p))]])))
                            else
                             ((true = true) ∧
                             ((((Bytes r5.snd.b) ∧
                                (((List.length r5.snd.b) ≤ (2000 : Nat)) ∧
                                 (((0 : Int) ≤ r5.snd.p) ∧
                                  (r5.snd.p ≤ (1000000000 : Int))))) ∧
                               ((3 : Int) ≤ (1000000000 : Int))) ∧
                              (∀ r6 : (Prod Int RdS),
                               ((r6.snd = (RdS.mk r5.snd.b (r5.snd.p + (1 : Int)))) ∧ (((0 : Int) ≤ r6.fst) ∧ ((((1 : Int) ≤ (3 : Int)) → (r6.fst < (3 : Int))) ∧ (((3 : Int) < (1 : Int)) → (r6.fst = (0 : Int)))))) →
                               (true = true) ∧
                               ((((0 : Int) ≤ r6.fst) ∧
                                 (r6.fst < (3 : Int))) ∧
                                ((true = true) ∧
                                 (K [(Arg.v true [(AC.d (D.i IntKind.i64 (IntKind.wrap IntKind.i64 ((1 : Int) + r1.fst)))), (AC.d (D.i IntKind.i64 (0 : Int))), (AC.d (D.i IntKind.i64 (0 : Int))), (AC.d (D.b false)), (AC.d (D.b false)), (AC.d (D.i IntKind.i64 (0 : Int))), (AC.d (D.i IntKind.i64 (at_i64 ((-1 : Int) :: ((4 : Int) :: ((2 : Int) :: ([] : (List Int)) : (List Int)) : (List Int)) : (List Int)) (Int.toNat r6.fst)))), (AC.d (D.i IntKind.i64 (at_i64 ((IntKind.wrap IntKind.i64 ((1 : Int) + r2.fst)) :: ((255 : Int) :: ([] : (List Int)) : (List Int)) : (List Int)) (Int.toNat r3.fst)))), (AC.d (D.r RK.u8 ([] : (List Int))))])] [[(AC.d (D.r RK.u8 r6.snd.b)), (AC.d (D.i IntKind.i64 r6.snd.p))]]))))))))))))))))
                  else
                   ((true = true) ∧
                   (K [(Arg.v true [(AC.d (D.i IntKind.i64 (IntKind.wrap IntKind.i64 ((1 : Int) + r1.fst)))), (AC.d (D.i IntKind.i64 (0 : Int))), (AC.d (D.i IntKind.i64 (0 : Int))), (AC.d (D.b false)), (AC.d (D.b false)), (AC.d (D.i IntKind.i64 (0 : Int))), (AC.d (D.i IntKind.i64 (0 : Int))), (AC.d (D.i IntKind.i64 (at_i64 ((IntKind.wrap IntKind.i64 ((1 : Int) + r2.fst)) :: ((255 : Int) :: ([] : (List Int)) : (List Int)) : (List Int)) (Int.toNat r3.fst)))), (AC.d (D.r RK.u8 ([] : (List Int))))])] [[(AC.d (D.r RK.u8 r4.snd.b)), (AC.d (D.i IntKind.i64 r4.snd.p))]])))))))))))))))))) := by
  repeat' first
    | exact rfl
    | exact True.intro
    | with_reducible apply And.intro
    | (with_reducible intro r hr; subst hr)
    | with_reducible intro r
    | (refine iteI (fun h => ?_) (fun h => ?_))
  all_goals try simp (disch := omega) only [wr] at *
  all_goals first
    | assumption
    | omega
    | exact hk ⟨_, _, _, _, _, _, _, _, _⟩ ⟨_, _⟩ (by (try dsimp only); grind [RdOk, RdOn, Bytes.cons, Bytes.nil, Bytes.take, Bytes.append, Bytes.k9])
    | grind [RdOk, RdOn, Bytes.cons, Bytes.nil, Bytes.take, Bytes.append, Bytes.k9]
    | exact hk ⟨_, _, _, _, _, _, _, _, _⟩ ⟨_, _⟩ (by (try dsimp only); refine ⟨?_, ?_, ?_⟩; all_goals first | (grind [RdOk, RdOn, Bytes.cons, Bytes.nil, Bytes.take, Bytes.append, Bytes.k9]; done) | (simp; done) | (simp; omega))
theorem w_spec_l20Frame : Valid Try.prog 86 c_spec_l20Frame :=
  valid_ctr2 (V := V_spec_l20Frame) (tysB_ok tys_ok) (CallsL.cons w_spec_l20Rd_pick (CallsL.cons w_spec_l20Rd_odd (CallsL.cons w_spec_l20Part (CallsL.nil _)))) mixed 1 4 Try.func86 rfl (by kernel_rfl)
    (fun c hc => by
      obtain rfl := Option.some.inj hc
      exact ⟨trivial, ⟨trivial, ⟨⟨trivial, ⟨trivial, ⟨⟨trivial, trivial⟩, ⟨trivial, ⟨⟨trivial, ⟨trivial, ⟨trivial, trivial⟩⟩⟩, ⟨trivial, ⟨⟨trivial, trivial⟩, trivial⟩⟩⟩⟩⟩⟩⟩, ⟨⟨trivial, ⟨⟨trivial, ⟨trivial, ⟨trivial, ⟨trivial, ⟨trivial, ⟨trivial, ⟨trivial, ⟨trivial, ⟨⟨trivial, trivial⟩, ⟨trivial, ⟨trivial, ⟨trivial, ⟨trivial, ⟨trivial, ⟨trivial, trivial⟩⟩⟩⟩⟩⟩⟩⟩⟩⟩⟩⟩⟩⟩⟩, trivial⟩⟩, ⟨trivial, trivial⟩⟩⟩⟩⟩)
    (fun x K hp hk => ⟨_, by kernel_rfl, vF_spec_l20Frame x.1 x.2 K hp (fun f q h => hk (f, q) h)⟩)
theorem vF_laws_liSdus (a : List (List Int)) (b : List (List Int)) (K : List Arg → List (List AC) → Prop) (hp : a.length ≤ LIM ∧ ∀ y ∈ a, y.length ≤ LIM) (hk : ∀ (r : Bool), (r = decide (a = b)) → K ([rB.to r]) ([])) :
if (((((List.length a) : Nat) : Int) != (((List.length b) : Nat) : Int)) = true) then
   ((true = true) ∧
   (K [(aB false)] []))
  else
   (∃ s : (Prod (List (List Int)) (Prod (List (List Int)) Int)),
   ((St.mk (mkSlots 27 [(0, (T.v false [(Cm.d (D.r RK.byr a))])), (1, (T.v false [(Cm.d (D.r RK.byr b))])), (5, (num IntKind.i64 (0 : Int)))]) [] []) = (St.mk (mkSlots 27 [(0, (T.v false [(Cm.d (D.r RK.byr s.fst))])), (1, (T.v false [(Cm.d (D.r RK.byr s.snd.fst))])), (5, (num IntKind.i64 s.snd.snd))]) [] [])) ∧
   ((((List.length s.fst) = (List.length s.snd.fst)) ∧
     ((s.snd.snd = (0 : Int)) ∧
      (((List.length s.fst) ≤ (137438953472 : Nat)) ∧
       (∀ y : (List Int),
        (List.Mem y s.fst) →
        ((List.length y) ≤ (137438953472 : Nat)))))) ∧
    ((∀ r : Unit,
      (s.fst = s.snd.fst) →
      (true = true) ∧
      (K [(aB true)] [])) ∧
     (∀ r : Unit,
      (s.fst ≠ s.snd.fst) →
      (true = true) ∧
      (K [(aB false)] []))))) := by
  refine iteI (fun h => ?_) (fun h => ?_)
  · refine ⟨by trivial, hk false ?_⟩
    symm; rw [decide_eq_false_iff_not]; rintro rfl; simp at h
  · have h1 : a.length = b.length := by simp at h; omega
    refine ⟨(a, b, 0), rfl, ⟨h1, rfl, hp.1, hp.2⟩, fun _ hr => ⟨by trivial, hk true (by simp; exact hr)⟩, fun _ hr => ⟨by trivial, hk false (by simp; exact hr)⟩⟩
theorem vL_laws_liSdus_0 (a0 : List (List Int)) (b0 : List (List Int)) (i0 : Int) (a : List (List Int)) (b : List (List Int)) (i : Int) (n : Nat) (hp : (fun (a : List (List Int)) (b : List (List Int)) (i : Int) => (a.length = b.length ∧ i = 0 ∧ a.length ≤ LIM ∧ ∀ y ∈ a, y.length ≤ LIM)) a0 b0 i0) (hi : a = a0 ∧ b = b0 ∧ a.length = b.length ∧ a.length ≤ LIM ∧ (∀ y ∈ a, y.length ≤ LIM) ∧ 0 ≤ i ∧ i + n = a.length ∧ a.take i.toNat = b.take i.toNat) :
if ((decide (i < (((List.length a) : Nat) : Int))) = true) then
   ((((0 : Int) ≤ i) ∧
    (i < (((List.length a) : Nat) : Int))) ∧
   ((((0 : Int) ≤ i) ∧
     (i < (((List.length b) : Nat) : Int))) ∧
    ((true = true) ∧
     ((((List.length (at_byr a (Int.toNat i))) ≤ (137438953472 : Nat)) ∧
       True) ∧
      (∀ r : Bool,
       (r = (decide ((at_byr a (Int.toNat i)) = (at_byr b (Int.toNat i))))) →
       (true = true) ∧
       ((true = true) ∧
        (if ((!r) = true) then
          (∃ r1 : Unit,
          ((St.mk (mkSlots 27 [(4, (boo false))]) [] []) = (St.mk (mkSlots 27 [(4, (boo false))]) [] [])) ∧
          (a0 ≠ b0))
         else
          (∃ s : (Prod (List (List Int)) (Prod (List (List Int)) Int)),
          ((St.mk (mkSlots 27 [(0, (T.v false [(Cm.d (D.r RK.byr a))])), (1, (T.v false [(Cm.d (D.r RK.byr b))])), (5, (num IntKind.i64 (IntKind.wrap IntKind.i64 (i + (1 : Int)))))]) [] []) = (St.mk (mkSlots 27 [(0, (T.v false [(Cm.d (D.r RK.byr s.fst))])), (1, (T.v false [(Cm.d (D.r RK.byr s.snd.fst))])), (5, (num IntKind.i64 s.snd.snd))]) [] [])) ∧
          (∃ m : Nat,
           (m < n) ∧
           ((s.fst = a0) ∧
            ((s.snd.fst = b0) ∧
             (((List.length s.fst) = (List.length s.snd.fst)) ∧
              (((List.length s.fst) ≤ (137438953472 : Nat)) ∧
               ((∀ y : (List Int),
                 (List.Mem y s.fst) →
                 ((List.length y) ≤ (137438953472 : Nat))) ∧
                (((0 : Int) ≤ s.snd.snd) ∧
                 (((s.snd.snd + ((m : Nat) : Int)) = (((List.length s.fst) : Nat) : Int)) ∧
                  ((List.take (Int.toNat s.snd.snd) s.fst) = (List.take (Int.toNat s.snd.snd) s.snd.fst))))))))))))))))))
  else
   (∃ r : Unit,
   ((St.mk (mkSlots 27 []) [] []) = (St.mk (mkSlots 27 []) [] [])) ∧
   (a0 = b0)) := by
  try dsimp only at hp
  obtain ⟨rfl, rfl, h1, h2, hw, h3, h4, h5⟩ := hi
  have hL : a.length ≤ 137438953472 := h2
  obtain ⟨i, rfl⟩ : ∃ m : Nat, i = m := ⟨i.toNat, by omega⟩
  rw [wr (x := (i : Int) + 1) (by omega) (by omega)]
  simp only [Int.toNat_natCast] at h5 ⊢
  refine iteI (fun h => ?_) (fun h => ?_)
  · have hi : i < a.length := by simp at h; omega
    refine ⟨⟨by omega, by omega⟩, ⟨by omega, by omega⟩, by trivial, ?_⟩
    have ea : a.take (i + 1) = a.take i ++ [at_byr a i] := take_at .byr a i hi
    have eb : b.take (i + 1) = b.take i ++ [at_byr b i] := take_at .byr b i (show i < b.length by omega)
    refine ⟨⟨hw _ (at_mem .byr a i hi), trivial⟩, fun r hr => ?_⟩
    subst hr
    repeat refine ⟨by trivial, ?_⟩
    refine iteI (fun hx => ?_) (fun hx => ?_)
    · refine ⟨(), by trivial, fun he => ?_⟩
      simp [he] at hx
    · refine ⟨(a, b, (i : Int) + 1), rfl, n - 1, by omega, rfl, rfl, h1, h2, hw, by dsimp only; omega, by dsimp only; omega, ?_⟩
      dsimp only
      rw [show ((i : Int) + 1).toNat = i + 1 by omega, ea, eb, h5]
      simp at hx
      exact congrArg (fun z => List.take i b ++ [z]) hx
  · have hi : i = a.length := by simp at h; omega
    subst hi
    refine ⟨(), by trivial, ?_⟩
    rw [List.take_length, h1, List.take_length] at h5
    exact h5
theorem vS_laws_liSdus_0 (a0 : List (List Int)) (b0 : List (List Int)) (i0 : Int) (hp : (fun (a : List (List Int)) (b : List (List Int)) (i : Int) => (a.length = b.length ∧ i = 0 ∧ a.length ≤ LIM ∧ ∀ y ∈ a, y.length ≤ LIM)) a0 b0 i0) : ∃ n : Nat, (fun (a : List (List Int)) (b : List (List Int)) (i : Int) => (a = a0 ∧ b = b0 ∧ a.length = b.length ∧ a.length ≤ LIM ∧ (∀ y ∈ a, y.length ≤ LIM) ∧ 0 ≤ i ∧ i + n = a.length ∧ a.take i.toNat = b.take i.toNat)) a0 b0 i0 := by
  try dsimp only at hp
  try dsimp only
  obtain ⟨h1, h2, h3, hw⟩ := hp
  exact ⟨a0.length, rfl, rfl, h1, h3, hw, by omega, by omega, by subst h2; simp⟩
theorem w_laws_liSdus : Valid Try.prog 49 c_laws_liSdus :=
  valid_ctr2 (V := V_laws_liSdus) (tysB_ok tys_ok) (CallsL.cons w_laws_liBytes (CallsL.nil _)) mixed 0 0 Try.func49 rfl (by kernel_rfl)
    (fun c hc => by
      obtain rfl := Option.some.inj hc
      exact ⟨trivial, ⟨⟨trivial, ⟨⟨trivial, trivial⟩, trivial⟩⟩, ⟨⟨trivial, ⟨LoopD.ok2 (V := V_laws_liSdus) l_laws_liSdus_0 (LoopsM.cons 0 l_laws_liSdus_0 LoopsM.nil) 0 _ i_laws_liSdus_0 (fun x hx => vS_laws_liSdus_0 x.1 x.2.1 x.2.2 hx) (fun x hx n s hi => ⟨_, by kernel_rfl, vL_laws_liSdus_0 x.1 x.2.1 x.2.2 s.1 s.2.1 s.2.2 n hx hi⟩), ⟨⟨trivial, ⟨trivial, trivial⟩⟩, ⟨⟨trivial, ⟨⟨trivial, trivial⟩, trivial⟩⟩, trivial⟩⟩⟩⟩, ⟨trivial, trivial⟩⟩⟩⟩)
    (fun x K hp hk => ⟨_, by kernel_rfl, vF_laws_liSdus x.1 x.2 K hp (fun r h => hk r h)⟩)
theorem vF_spec_DrawRxHear (l : List Int) (K : List Arg → List (List AC) → Prop) (hp : Bytes l) (hk : ∀ (c : Cfg) (x : RxS) (f : Frm), ((Bytes x.join.got ∧ x.join.got.length ≤ 1000) ∧ Bytes f.data ∧ f.data.length ≤ 1000) → K ([rCfg.to c, rRx.to x, rFrm.to f]) ([])) :
(true = true) ∧
  ((Bytes l) ∧
   (∀ r : RdS,
    (r = (RdS.mk (List.take (2000 : Nat) l) (0 : Int))) →
    (true = true) ∧
    ((true = true) ∧
     ((((Bytes r.b) ∧
        (((List.length r.b) ≤ (2000 : Nat)) ∧
         (((0 : Int) ≤ r.p) ∧
          (r.p ≤ (40000000 : Int))))) ∧
       ((20 : Int) ≤ (1000 : Int))) ∧
      (∀ r1 : (Prod Cfg RdS),
       ((r1.snd.b = r.b) ∧ ((r.p ≤ r1.snd.p) ∧ (r1.snd.p ≤ (r.p + (20 : Int))))) →
       (true = true) ∧
       ((true = true) ∧
        ((((Bytes r1.snd.b) ∧
           (((List.length r1.snd.b) ≤ (2000 : Nat)) ∧
            (((0 : Int) ≤ r1.snd.p) ∧
             (r1.snd.p ≤ (40000000 : Int))))) ∧
          ((9 : Int) ≤ (1000 : Int))) ∧
         (∀ r2 : (Prod RxS RdS),
          ((Bytes r2.fst.join.got) ∧ (((List.length r2.fst.join.got) ≤ (1000 : Nat)) ∧ (RdOn r1.snd r2.snd (2000 : Int)))) →
          (true = true) ∧
          ((true = true) ∧
           ((((Bytes r2.snd.b) ∧
              (((List.length r2.snd.b) ≤ (2000 : Nat)) ∧
               (((0 : Int) ≤ r2.snd.p) ∧
                (r2.snd.p ≤ (44000000 : Int))))) ∧
             ((9 : Int) ≤ (1000 : Int))) ∧
            (∀ r3 : (Prod Frm RdS),
             ((Bytes r3.fst.data) ∧ (((List.length r3.fst.data) ≤ (200 : Nat)) ∧ (RdOn r2.snd r3.snd (100 : Int)))) →
             (true = true) ∧
             (if ((r3.fst.kind == (1 : Int)) = true) then
               ((true = true) ∧
               ((((Bytes r3.snd.b) ∧
                  (((List.length r3.snd.b) ≤ (2000 : Nat)) ∧
                   (((0 : Int) ≤ r3.snd.p) ∧
                    (r3.snd.p ≤ (1000000000 : Int))))) ∧
                 ((3 : Int) ≤ (1000000000 : Int))) ∧
                (∀ r4 : (Prod Int RdS),
                 ((r4.snd = (RdS.mk r3.snd.b (r3.snd.p + (1 : Int)))) ∧ (((0 : Int) ≤ r4.fst) ∧ ((((1 : Int) ≤ (3 : Int)) → (r4.fst < (3 : Int))) ∧ (((3 : Int) < (1 : Int)) → (r4.fst = (0 : Int)))))) →
                 (true = true) ∧
                 (if ((decide (r4.fst > (0 : Int))) = true) then
                   ((true = true) ∧
                   (True ∧
                    (∀ r5 : Bool,
                     (r5 = (decide (((0 : Int) ≤ r2.fst.expect) ∧ (r2.fst.expect ≤ (7 : Int))))) →
                     (true = true) ∧
                     (if (r5 = true) then
                       ((true = true) ∧
                       ((((Bytes r4.snd.b) ∧
                          (((List.length r4.snd.b) ≤ (2000 : Nat)) ∧
                           (((0 : Int) ≤ r4.snd.p) ∧
                            (r4.snd.p ≤ (1000000000 : Int))))) ∧
                         ((4 : Int) ≤ (1000000000 : Int))) ∧
                        (∀ r6 : (Prod Int RdS),
                         ((r6.snd = (RdS.mk r4.snd.b (r4.snd.p + (1 : Int)))) ∧ (((0 : Int) ≤ r6.fst) ∧ ((((1 : Int) ≤ (4 : Int)) → (r6.fst < (4 : Int))) ∧ (((4 : Int) < (1 : Int)) → (r6.fst = (0 : Int)))))) →
                         (true = true) ∧
                         ((true = true) ∧
                          ((((0 : Int) ≤ r6.fst) ∧
                            (r6.fst < (4 : Int))) ∧
                           (((8 : Int) ≠ (0 : Int)) ∧
                            ((true = true) ∧
                             ((true = true) ∧
                              ((true = true) ∧
                               ((true = true) ∧
                                ((true = true) ∧
                                 ((true = true) ∧
                                  (K [(Arg.v true [(AC.d (D.i IntKind.i64 r1.fst.mode)), (AC.d (D.i IntKind.i64 r1.fst.win)), (AC.d (D.i IntKind.i64 r1.fst.mps)), (AC.d (D.i IntKind.i64 r1.fst.mtu)), (AC.d (D.i IntKind.i64 r1.fst.try_))]), (Arg.v true [(AC.d (D.i IntKind.i64 r2.fst.expect)), (AC.d (D.i IntKind.i64 r2.fst.count)), (AC.d (D.i IntKind.i64 r2.fst.join.len)), (AC.d (D.r RK.u8 r2.fst.join.got)), (AC.d (D.b r2.fst.again)), (AC.d (D.b r2.fst.busy)), (AC.d (D.b r2.fst.dead))]), (Arg.v true [(AC.d (D.i IntKind.i64 r3.fst.kind)), (AC.d (D.i IntKind.i64 (Int.tmod (IntKind.wrap IntKind.i64 (r2.fst.expect + (at_i64 ((0 : Int) :: ((0 : Int) :: ((1 : Int) :: ((7 : Int) :: ([] : (List Int)) : (List Int)) : (List Int)) : (List Int)) : (List Int)) (Int.toNat r6.fst)))) (8 : Int)))), (AC.d (D.i IntKind.i64 r3.fst.ack)), (AC.d (D.b r3.fst.poll)), (AC.d (D.b r3.fst.final)), (AC.d (D.i IntKind.i64 r3.fst.say)), (AC.d (D.i IntKind.i64 r3.fst.seg)), (AC.d (D.i IntKind.i64 r3.fst.len)), (AC.d (D.r RK.u8 r3.fst.data))])] [])))))))))))))
                      else
                       ((true = true) ∧
                       ((true = true) ∧
                        ((true = true) ∧
                         ((true = true) ∧
                          (K [(Arg.v true [(AC.d (D.i IntKind.i64 r1.fst.mode)), (AC.d (D.i IntKind.i64 r1.fst.win)), (AC.d (D.i IntKind.i64 r1.fst.mps)), (AC.d (D.i IntKind.i64 r1.fst.mtu)), (AC.d (D.i IntKind.i64 r1.fst.try_))]), (Arg.v true [(AC.d (D.i IntKind.i64 r2.fst.expect)), (AC.d (D.i IntKind.i64 r2.fst.count)), (AC.d (D.i IntKind.i64 r2.fst.join.len)), (AC.d (D.r RK.u8 r2.fst.join.got)), (AC.d (D.b r2.fst.again)), (AC.d (D.b r2.fst.busy)), (AC.d (D.b r2.fst.dead))]), (Arg.v true [(AC.d (D.i IntKind.i64 r3.fst.kind)), (AC.d (D.i IntKind.i64 r3.fst.seq)), (AC.d (D.i IntKind.i64 r3.fst.ack)), (AC.d (D.b r3.fst.poll)), (AC.d (D.b r3.fst.final)), (AC.d (D.i IntKind.i64 r3.fst.say)), (AC.d (D.i IntKind.i64 r3.fst.seg)), (AC.d (D.i IntKind.i64 r3.fst.len)), (AC.d (D.r RK.u8 r3.fst.data))])] [])))))))))
                  else
                   ((true = true) ∧
                   ((true = true) ∧
                    ((true = true) ∧
                     ((true = true) ∧
                      (K [(Arg.v true [(AC.d (D.i IntKind.i64 r1.fst.mode)), (AC.d (D.i IntKind.i64 r1.fst.win)), (AC.d (D.i IntKind.i64 r1.fst.mps)), (AC.d (D.i IntKind.i64 r1.fst.mtu)), (AC.d (D.i IntKind.i64 r1.fst.try_))]), (Arg.v true [(AC.d (D.i IntKind.i64 r2.fst.expect)), (AC.d (D.i IntKind.i64 r2.fst.count)), (AC.d (D.i IntKind.i64 r2.fst.join.len)), (AC.d (D.r RK.u8 r2.fst.join.got)), (AC.d (D.b r2.fst.again)), (AC.d (D.b r2.fst.busy)), (AC.d (D.b r2.fst.dead))]), (Arg.v true [(AC.d (D.i IntKind.i64 r3.fst.kind)), (AC.d (D.i IntKind.i64 r3.fst.seq)), (AC.d (D.i IntKind.i64 r3.fst.ack)), (AC.d (D.b r3.fst.poll)), (AC.d (D.b r3.fst.final)), (AC.d (D.i IntKind.i64 r3.fst.say)), (AC.d (D.i IntKind.i64 r3.fst.seg)), (AC.d (D.i IntKind.i64 r3.fst.len)), (AC.d (D.r RK.u8 r3.fst.data))])] [])))))))))
              else
               ((true = true) ∧
               ((true = true) ∧
                ((true = true) ∧
                 ((true = true) ∧
                  (K [(Arg.v true [(AC.d (D.i IntKind.i64 r1.fst.mode)), (AC.d (D.i IntKind.i64 r1.fst.win)), (AC.d (D.i IntKind.i64 r1.fst.mps)), (AC.d (D.i IntKind.i64 r1.fst.mtu)), (AC.d (D.i IntKind.i64 r1.fst.try_))]), (Arg.v true [(AC.d (D.i IntKind.i64 r2.fst.expect)), (AC.d (D.i IntKind.i64 r2.fst.count)), (AC.d (D.i IntKind.i64 r2.fst.join.len)), (AC.d (D.r RK.u8 r2.fst.join.got)), (AC.d (D.b r2.fst.again)), (AC.d (D.b r2.fst.busy)), (AC.d (D.b r2.fst.dead))]), (Arg.v true [(AC.d (D.i IntKind.i64 r3.fst.kind)), (AC.d (D.i IntKind.i64 r3.fst.seq)), (AC.d (D.i IntKind.i64 r3.fst.ack)), (AC.d (D.b r3.fst.poll)), (AC.d (D.b r3.fst.final)), (AC.d (D.i IntKind.i64 r3.fst.say)), (AC.d (D.i IntKind.i64 r3.fst.seg)), (AC.d (D.i IntKind.i64 r3.fst.len)), (AC.d (D.r RK.u8 r3.fst.data))])] []))))))))))))))))) := by
  repeat' first
    | exact rfl
    | exact True.intro
    | with_reducible apply And.intro
    | (with_reducible intro r hr; subst hr)
    | with_reducible intro r
    | (refine iteI (fun h => ?_) (fun h => ?_))
  all_goals try simp (disch := omega) only [wr] at *
  all_goals first
    | assumption
    | (generalize Int.tmod _ _ = z; refine hk (Prod.fst _) (Prod.fst _) ⟨_, z, _, _, _, _, _, _, _⟩ ?_; dsimp only; grind [RdOk, RdOn, Bytes.take])
    | omega
    | exact hk ⟨_, _, _, _, _⟩ ⟨_, _, ⟨_, _⟩, _, _, _⟩ ⟨_, _, _, _, _, _, _, _, _⟩ (by (try dsimp only); grind [RdOk, RdOn, Bytes.cons, Bytes.nil, Bytes.take])
    | grind [RdOk, RdOn, Bytes.cons, Bytes.nil, Bytes.take]
    | exact hk ⟨_, _, _, _, _⟩ ⟨_, _, ⟨_, _⟩, _, _, _⟩ ⟨_, _, _, _, _, _, _, _, _⟩ (by (try dsimp only); refine ⟨?_, ?_, ?_⟩; all_goals first | (grind [RdOk, RdOn, Bytes.cons, Bytes.nil, Bytes.take]; done) | (simp; done) | (simp; omega))
theorem w_spec_DrawRxHear : Valid Try.prog 46 c_spec_DrawRxHear :=
  valid_ctr2 (V := V_spec_DrawRxHear) (tysB_ok tys_ok) (CallsL.cons w_spec_l20Rx (CallsL.cons w_spec_l20Open (CallsL.cons w_spec_l1In (CallsL.cons w_spec_l20Rd_pick (CallsL.cons w_spec_l20Cfg (CallsL.cons w_spec_l20Frame (CallsL.nil _))))))) mixed 0 7 Try.func46 rfl (by kernel_rfl)
    (fun c hc => by
      obtain rfl := Option.some.inj hc
      exact ⟨trivial, ⟨trivial, ⟨trivial, ⟨trivial, ⟨trivial, ⟨⟨trivial, ⟨trivial, trivial⟩⟩, ⟨trivial, trivial⟩⟩⟩⟩⟩⟩⟩)
    (fun x K hp hk => ⟨_, by kernel_rfl, vF_spec_DrawRxHear x K hp (fun c x f h => hk (c, x, f) h)⟩)
theorem vF_impl_SegPut (j : JoinS) (p : Part) (K : List Arg → List (List AC) → Prop) (hp : p.data.length ≤ 1000000000) (hk : ∀ (q : PutR), (q = segPut2 j p) → K ([rJoin.to q.j, rBytes.to q.sdu, rInt.to q.how]) ([])) :
(true = true) ∧
  (True ∧
   (∀ r : Bool,
    (r = (decide (JoinP j))) →
    (true = true) ∧
    (if ((!r) = true) then
      ((true = true) ∧
      (K [(Arg.v true [(AC.d (D.i IntKind.i64 (0 : Int))), (AC.d (D.r RK.u8 ([] : (List Int))))]), (aR RK.u8 ([] : (List Int))), (aI IntKind.i64 (0 : Int))] []))
     else
      ((true = true) ∧
      (True ∧
       (∀ r1 : Bool,
        (r1 = (decide (PartP p))) →
        (true = true) ∧
        (if ((!r1) = true) then
          ((true = true) ∧
          (K [(Arg.v true [(AC.d (D.i IntKind.i64 (0 : Int))), (AC.d (D.r RK.u8 ([] : (List Int))))]), (aR RK.u8 ([] : (List Int))), (aI IntKind.i64 (0 : Int))] []))
         else
          ((true = true) ∧
          (((JoinP j) ∧
            (((0 : Int) ≤ p.seg) ∧
             ((p.seg ≤ (3 : Int)) ∧
              ((List.length p.data) ≤ (1000000000 : Nat))))) ∧
           (∀ r2 : PutR,
            (r2 = (segPut j p)) →
            (true = true) ∧
            ((true = true) ∧
             (K [(Arg.v true [(AC.d (D.i IntKind.i64 r2.j.len)), (AC.d (D.r RK.u8 r2.j.got))]), (aR RK.u8 r2.sdu), (aI IntKind.i64 r2.how)] [])))))))))))) := by
  repeat' first
    | exact rfl
    | exact True.intro
    | with_reducible apply And.intro
    | (with_reducible intro r hr; subst hr)
    | with_reducible intro r
    | (refine iteI (fun h => ?_) (fun h => ?_))
  all_goals try simp (disch := omega) only [wr] at *
  all_goals first
    | assumption
    | (have h1 : PartP p := by grind
       exact h1.seg.1)
    | (have h1 : PartP p := by grind
       exact h1.seg.2)
    | grind
    | (have h := hk _ rfl
       unfold segPut2 at h
       try dsimp only at h
       repeat' split at h
       all_goals first | exact h | (exfalso; grind []) | (exfalso; simp at *; omega))
    | exact hk _ (by grind [JoinP, PartP, SegP, SegP.seg, IntKind.wrap_i64])
    | (simp only [LIM] at *; omega)
    | grind [JoinP, PartP, SegP, SegP.seg, LIM]
theorem w_impl_SegPut : Valid Try.prog 51 c_impl_SegPut :=
  valid_ctr2 (V := V_impl_SegPut) (tysB_ok tys_ok) (CallsL.cons w_impl_JoinOk (CallsL.cons w_impl_PartOk (CallsL.cons w_impl_SegJoin_put (CallsL.nil _)))) mixed 0 3 Try.func51 rfl (by kernel_rfl)
    (fun c hc => by
      obtain rfl := Option.some.inj hc
      exact ⟨trivial, ⟨⟨trivial, ⟨⟨trivial, trivial⟩, trivial⟩⟩, ⟨trivial, trivial⟩⟩⟩)
    (fun x K hp hk => ⟨_, by kernel_rfl, vF_impl_SegPut x.1 x.2 K hp (fun q h => hk q h)⟩)
end Go.Proofs.YtjladmhjpikdhaaE

/- Calls answer what is promised: LawRx2. Conditions: none. -/
set_option linter.unusedVariables false
set_option maxHeartbeats 4000000
namespace Go.Proofs.YtjladmhjpikdhaaE
open Go
theorem vF_laws_FnRxSays (l : List Int) (K : List Arg → List (List AC) → Prop) (hp : Bytes l) (hk : ∀ (r : Bool), (r = true) → K ([rB.to r]) ([])) :
if ((decide ((((List.length l) : Nat) : Int) > (1048576 : Int))) = true) then
   ((true = true) ∧
   (K [(aB true)] []))
  else
   ((true = true) ∧
   ((Bytes l) ∧
    (∀ r : (Prod Cfg (Prod RxS Frm)),
     (((Bytes r.snd.fst.join.got) ∧ ((List.length r.snd.fst.join.got) ≤ (1000 : Nat))) ∧ ((Bytes r.snd.snd.data) ∧ ((List.length r.snd.snd.data) ≤ (1000 : Nat)))) →
     (true = true) ∧
     ((true = true) ∧
      (((List.length r.snd.snd.data) ≤ (1000000000 : Nat)) ∧
       (∀ r1 : HearR,
        (r1 = (rxHear r.fst r.snd.fst r.snd.snd)) →
        (true = true) ∧
        ((true = true) ∧
         (((List.length r.snd.snd.data) ≤ (1000000000 : Nat)) ∧
          (∀ r2 : HearR,
           (r2 = (rxHear r.fst r.snd.fst r.snd.snd)) →
           (true = true) ∧
           ((true = true) ∧
            ((((List.length r1.says) ≤ (137438953472 : Nat)) ∧
              (∀ y : Frm,
               (List.Mem y r1.says) →
               ((List.length y.data) ≤ (137438953472 : Nat)))) ∧
             (∀ r3 : Bool,
              (r3 = (decide (r1.says = r2.says))) →
              (true = true) ∧
              (if ((!r3) = true) then
                ((true = true) ∧
                (K [(aB false)] []))
               else
                ((true = true) ∧
                (True ∧
                 (∀ r4 : Bool,
                  (r4 = (decide (CfgP r.fst))) →
                  (true = true) ∧
                  (if ((!r4) = true) then
                    (if (((((List.length r1.says) : Nat) : Int) == (0 : Int)) = true) then
                     ((true = true) ∧
                     (True ∧
                      (∀ r5 : Bool,
                       (r5 = true) →
                       (true = true) ∧
                       ((true = true) ∧
                        (K [(aB r5)] [])))))
                    else
                     ((true = true) ∧
                     (K [(aB false)] [])))
                   else
                    ((true = true) ∧
                    (True ∧
                     (∀ r5 : Bool,
                      (r5 = (decide (RxP r.snd.fst))) →
                      (true = true) ∧
                      (if ((!r5) = true) then
                        (if (((((List.length r1.says) : Nat) : Int) == (0 : Int)) = true) then
                         ((true = true) ∧
                         (True ∧
                          (∀ r6 : Bool,
                           (r6 = true) →
                           (true = true) ∧
                           ((true = true) ∧
                            (K [(aB r6)] [])))))
                        else
                         ((true = true) ∧
                         (K [(aB false)] [])))
                       else
                        ((true = true) ∧
                        (True ∧
                         (∀ r6 : Bool,
                          (r6 = (decide (FrmP r.snd.snd))) →
                          (true = true) ∧
                          (if ((!r6) = true) then
                            (if (((((List.length r1.says) : Nat) : Int) == (0 : Int)) = true) then
                             ((true = true) ∧
                             (True ∧
                              (∀ r7 : Bool,
                               (r7 = true) →
                               (true = true) ∧
                               ((true = true) ∧
                                (K [(aB r7)] [])))))
                            else
                             ((true = true) ∧
                             (K [(aB false)] [])))
                           else
                            (if ((decide (r.snd.snd.kind ≥ (3 : Int))) = true) then
                             (if (((((List.length r1.says) : Nat) : Int) == (0 : Int)) = true) then
                              ((true = true) ∧
                              (True ∧
                               (∀ r7 : Bool,
                                (r7 = true) →
                                (true = true) ∧
                                ((true = true) ∧
                                 (K [(aB r7)] [])))))
                             else
                              ((true = true) ∧
                              (K [(aB false)] [])))
                            else
                             (if (r.snd.fst.dead = true) then
                              (if (((((List.length r1.says) : Nat) : Int) == (0 : Int)) = true) then
                               ((true = true) ∧
                               (True ∧
                                (∀ r7 : Bool,
                                 (r7 = true) →
                                 (true = true) ∧
                                 ((true = true) ∧
                                  (K [(aB r7)] [])))))
                              else
                               ((true = true) ∧
                               (K [(aB false)] [])))
                             else
                              (if ((r.snd.snd.kind == (2 : Int)) = true) then
                               (if ((!r.snd.snd.poll) = true) then
                                ((true = true) ∧
                                (K [(aB ((((List.length r1.says) : Nat) : Int) == (0 : Int)))] []))
                               else
                                (if (((((List.length r1.says) : Nat) : Int) == (1 : Int)) = true) then
                                 ((((0 : Int) ≤ (0 : Int)) ∧
                                  ((0 : Int) < (((List.length r1.says) : Nat) : Int))) ∧
                                 (if ((at_frm r1.says (0 : Nat)).final = true) then
                                   ((((0 : Int) ≤ (0 : Int)) ∧
                                    ((0 : Int) < (((List.length r1.says) : Nat) : Int))) ∧
                                   (if (((at_frm r1.says (0 : Nat)).ack == r.snd.fst.expect) = true) then
                                     ((((0 : Int) ≤ (0 : Int)) ∧
                                      ((0 : Int) < (((List.length r1.says) : Nat) : Int))) ∧
                                     ((true = true) ∧
                                      (K [(aB (((at_frm r1.says (0 : Nat)).say == (2 : Int)) == r.snd.fst.busy))] [])))
                                    else
                                     ((true = true) ∧
                                     (K [(aB false)] []))))
                                  else
                                   ((true = true) ∧
                                   (K [(aB false)] []))))
                                else
                                 ((true = true) ∧
                                 (K [(aB false)] []))))
                              else
                               (if (r.snd.fst.busy = true) then
                                (if (((((List.length r1.says) : Nat) : Int) == (1 : Int)) = true) then
                                 ((((0 : Int) ≤ (0 : Int)) ∧
                                  ((0 : Int) < (((List.length r1.says) : Nat) : Int))) ∧
                                 (if (((at_frm r1.says (0 : Nat)).say == (2 : Int)) = true) then
                                   ((((0 : Int) ≤ (0 : Int)) ∧
                                    ((0 : Int) < (((List.length r1.says) : Nat) : Int))) ∧
                                   ((true = true) ∧
                                    (K [(aB ((at_frm r1.says (0 : Nat)).ack == r.snd.fst.expect))] [])))
                                  else
                                   ((true = true) ∧
                                   (K [(aB false)] []))))
                                else
                                 ((true = true) ∧
                                 (K [(aB false)] [])))
                               else
                                ((true = true) ∧
                                (True ∧
                                 (∀ r7 : Int,
                                  (r7 = (if (((0 : Int) ≤ r.snd.fst.expect) ∧ ((r.snd.fst.expect ≤ (7 : Int)) ∧ (((0 : Int) ≤ r.snd.snd.seq) ∧ (r.snd.snd.seq ≤ (7 : Int))))) then (((r.snd.snd.seq - r.snd.fst.expect) + (8 : Int)) % (8 : Int)) else (-1 : Int))) →
                                  (true = true) ∧
                                  (if ((decide (r7 > (0 : Int))) = true) then
                                    (if ((decide (r7 < r.fst.win)) = true) then
                                     (if ((!r.snd.fst.again) = true) then
                                      (if (((((List.length r1.says) : Nat) : Int) == (1 : Int)) = true) then
                                       ((((0 : Int) ≤ (0 : Int)) ∧
                                        ((0 : Int) < (((List.length r1.says) : Nat) : Int))) ∧
                                       (if (((at_frm r1.says (0 : Nat)).say == (1 : Int)) = true) then
                                         ((((0 : Int) ≤ (0 : Int)) ∧
                                          ((0 : Int) < (((List.length r1.says) : Nat) : Int))) ∧
                                         ((true = true) ∧
                                          (K [(aB ((at_frm r1.says (0 : Nat)).ack == r.snd.fst.expect))] [])))
                                        else
                                         ((true = true) ∧
                                         (K [(aB false)] []))))
                                      else
                                       ((true = true) ∧
                                       (K [(aB false)] [])))
                                     else
                                      ((true = true) ∧
                                      (K [(aB ((((List.length r1.says) : Nat) : Int) == (0 : Int)))] [])))
                                    else
                                     ((true = true) ∧
                                     (K [(aB ((((List.length r1.says) : Nat) : Int) == (0 : Int)))] [])))
                                   else
                                    ((true = true) ∧
                                    (K [(aB ((((List.length r1.says) : Nat) : Int) == (0 : Int)))] []))))))))))))))))))))))))))))))))))) := by
  repeat' first
    | exact rfl
    | exact True.intro
    | with_reducible apply And.intro
    | (with_reducible intro r hr; subst hr)
    | with_reducible intro r
    | (refine iteI (fun h => ?_) (fun h => ?_))
  all_goals try simp (disch := omega) only [wr] at *
  all_goals first
    | assumption
    | omega
    | (have := says_len _ _ _; omega)
    | exact says_data ‹List.Mem _ _›
    | (have := sdus_len _ _ _; omega)
    | (refine sdus_data ?_ ‹List.Mem _ _›; omega)
    | (refine hear_join _ _ _ ?_; omega)
    | (exfalso; simp at h; done)
    | exact hk _ (by first | rfl | grind [at_frm0, rxHear, rxHear1, rxData, rxTake, sayF, goWait, RxP, FrmP, JoinP, SegP, CfgP, RxIn, zRx, zJoin, segPut, segPut2, PartP])
    | (simp only [LIM] at *; omega)
    | grind [at_frm0, rxHear, rxHear1, rxData, rxTake, sayF, goWait, RxP, FrmP, JoinP, SegP, CfgP, RxIn, zRx, zJoin, segPut, segPut2, PartP, LIM]
theorem w_laws_FnRxSays : Valid Try.prog 11 c_laws_FnRxSays :=
  valid_ctr2 (V := V_laws_FnRxSays) (tysB_ok tys_ok) (CallsL.cons w_spec_RxOk (CallsL.cons w_laws_liOk (CallsL.cons w_laws_liFrames (CallsL.cons w_spec_RxHear (CallsL.cons w_impl_RxHear (CallsL.cons w_spec_DrawRxHear (CallsL.cons w_spec_CfgOk (CallsL.cons w_spec_FrmOk (CallsL.cons w_impl_NumFar (CallsL.nil _)))))))))) mixed 0 5 Try.func11 rfl (by kernel_rfl)
    (fun c hc => by
      obtain rfl := Option.some.inj hc
      exact ⟨trivial, ⟨⟨trivial, ⟨⟨trivial, trivial⟩, trivial⟩⟩, ⟨trivial, ⟨trivial, ⟨trivial, ⟨⟨trivial, ⟨⟨trivial, trivial⟩, trivial⟩⟩, ⟨⟨trivial, ⟨⟨trivial, trivial⟩, trivial⟩⟩, ⟨⟨trivial, ⟨⟨⟨trivial, ⟨⟨trivial, trivial⟩, trivial⟩⟩, ⟨trivial, trivial⟩⟩, trivial⟩⟩, ⟨⟨trivial, ⟨⟨trivial, trivial⟩, trivial⟩⟩, ⟨trivial, ⟨⟨trivial, ⟨⟨trivial, trivial⟩, trivial⟩⟩, ⟨trivial, trivial⟩⟩⟩⟩⟩⟩⟩⟩⟩⟩⟩⟩)
    (fun x K hp hk => ⟨_, by kernel_rfl, vF_laws_FnRxSays x K hp (fun r h => hk r h)⟩)
end Go.Proofs.YtjladmhjpikdhaaE

/- A law of bytes: out of its contract. Conditions: none. -/
set_option linter.unusedVariables false
namespace Go.Proofs.YtjladmhjpikdhaaE
open Go Go.RowKit
/-- A row of bytes as a claim reads it. -/
def IsRow (w : World) (a : Option Addr) (len cap : Nat) (zs : List Int) : Prop :=
  (a = none ∧ len = 0 ∧ cap = 0 ∧ zs = []) ∨
  ∃ x, a = some x ∧ len ≤ cap ∧ cap ≤ maxLen ∧ zs.length = cap ∧ (∀ i, i < zs.length → w.cell? (x.add i) = some (.int .u8 (zs.getD i 0))) ∧ ∀ n ∈ zs, (Lit.int .u8 n).wf = true
theorem spot_none {w : World} {x : Addr} {v : Value} (h : w.cell? x = some v) : x.spot = none := by
  unfold World.cell? at h
  split at h
  · split at h
    · simp at h
    · rename_i hs; simpa using hs
  · simp at h
theorem flat_u8 : ∀ l : List RK.u8.El, flat .u8 l = l.map (fun x => D.i .u8 x)
  | [] => rfl
  | x :: l => by
    have h := flat_u8 l
    show RK.cells .u8 x ++ flat .u8 l = _
    rw [h]; rfl
theorem map_getD (f : Int → D) (l : List Int) (j : Nat) (h : j < l.length) : (l.map f).getD j (.b false) = f (l.getD j 0) := by
  rw [List.getD_eq_getElem?_getD, List.getElem?_map, List.getD_eq_getElem?_getD, List.getElem?_eq_getElem h]; rfl
theorem take_getD (l : List Int) (n j : Nat) (h : j < n) : l.getD j 0 = (l.take n).getD j 0 := by
  rw [List.getD_eq_getElem?_getD, List.getD_eq_getElem?_getD, List.getElem?_take_of_lt h]
theorem rd_bytes {w : World} {F : Nat → Prop} (l : List RK.u8.El) (n : Nat) {g off cap : Nat} (hg : F g) (hn : l.length = n) (h0 : n ≤ cap) (hc : ∀ j, j < n → w.cell? ⟨g, off + j, none⟩ = some (.int .u8 (l.getD j (0 : Int)))) :
    Rd w F (.slice (some ⟨g, off, none⟩) n cap) (.r .u8 l) := by
  subst hn
  refine .row .u8 l g off cap (fun j => .int .u8 (l.getD j (0 : Int))) hg h0 (fun j hj => hc j (by simpa [RK.size] using hj)) fun j hj => ?_
  have hj' : j < l.length := by simpa [RK.size] using hj
  have e : (flat .u8 l).getD j (.b false) = .i .u8 (l.getD j (0 : Int)) := by
    rw [flat_u8]; exact map_getD _ l j hj'
  rw [e]; exact .i _ _
theorem IsRow.rd {w : World} {F : Nat → Prop} {a : Option Addr} {len cap : Nat} {zs : List Int} (h : IsRow w a len cap zs) (hF : ∀ x, a = some x → 0 < cap → F x.block) : ∀ l : List RK.u8.El, l = zs.take len → Rd w F (.slice a len cap) (.r .u8 l) := by
  intro l hl0
  rcases h with ⟨rfl, rfl, rfl, rfl⟩ | ⟨x, rfl, hl, hm, hz, hc, hw⟩
  · subst hl0; exact .nil _ _
  · by_cases h0 : cap = 0
    · have h1 : len = 0 := by omega
      subst h1; subst h0; subst hl0
      exact .nil _ _
    · have hx0 := hc 0 (by omega)
      have hs : x.spot = none := spot_none (w := w) (x := x) (by simpa [Addr.add] using hx0)
      obtain ⟨g, off, sp⟩ := x
      dsimp only at hs
      subst hs
      have hlen : (zs.take len).length = len := by rw [List.length_take]; omega
      subst hl0
      refine rd_bytes _ len (hF _ rfl (by omega)) hlen hl fun j hj => ?_
      have := hc j (by omega)
      rw [add_lit] at this
      rw [this]
      exact congrArg (fun z => some (Value.int .u8 z)) (take_getD zs len j hj)
theorem cell_lt {w : World} {x : Addr} {v : Value} (h : w.cell? x = some v) : x.block < w.heap.size := by
  unfold World.cell? at h
  split at h
  · rename_i c _ _ hb
    have := (Array.getElem?_eq_some_iff.1 hb).1
    exact this
  · simp at h
theorem IsRow.lt {w : World} {a : Option Addr} {len cap : Nat} {zs : List Int} (h : IsRow w a len cap zs) {x : Addr} (hx : a = some x) (hc : 0 < cap) : x.block < w.heap.size := by
  rcases h with ⟨rfl, rfl, rfl, rfl⟩ | ⟨y, rfl, hl, hm, hz, hcell, hw⟩
  · cases hx
  · cases hx
    exact cell_lt (w := w) (by simpa [Addr.add] using hcell 0 (by omega))
theorem IsRow.bytes {w : World} {a : Option Addr} {len cap : Nat} {zs : List Int} (h : IsRow w a len cap zs) : Bytes (zs.take len) := by
  rcases h with ⟨rfl, rfl, rfl, rfl⟩ | ⟨x, rfl, hl, hm, hz, hc, hw⟩
  · exact Bytes.nil.take _
  · exact (Bytes.of_wf hw).take _
theorem argR_d {w : World} {F : Nat → Prop} {v : Value} {x : D} (h : Rd w F v x) : ArgR w F v [] [] (.v false [.d x]) :=
  ⟨[v], rfl, h.cells, fun _ => rfl, ⟨[], [], ⟨h, rfl⟩, rfl, rfl⟩, rfl⟩
theorem argsR_nil (w : World) (F : Nat → Prop) : ArgsR w F [] [] [] [] := ⟨rfl, rfl⟩
theorem argsR_cons {w : World} {F : Nat → Prop} {v : Value} {vs : List Value} {x : Arg} {xs : List Arg} (h : ArgR w F v [] [] x) (k : ArgsR w F vs xs [] []) : ArgsR w F (v :: vs) (x :: xs) [] [] := ⟨[], [], [], [], h, k, rfl, rfl⟩
/-- A law that answers true, whatever it is handed as data. -/
theorem law_of {P : Program} {f : Nat} {c : Ent} (h : Valid P f c) (hcl : c.clo = none) {w : World} {vs : List Value} {ys : List Arg} (ha : ArgsR w (fun b => b < w.heap.size) vs ys [] []) (hF : ∀ K, K [aB true] [] → c.F ys K) :
    Calls P f vs.toArray w fun e w' => e = .returned (.bool true) ∧ Below w.heap.size w w' := by
  have e0 : vs = wrapV c.clo vs := by rw [hcl, wrapV_none]
  rw [e0]
  refine (h.2 w _ vs ys [] [] (fun rs bs => rs = [aB true] ∧ bs = []) ha List.nodup_nil (fun b hb => by cases hb) (fun b hb => hb) (hF _ ⟨rfl, rfl⟩)).mono ?_
  rintro e w' ⟨rv, rs, bs, F', B', hb', rfl, ⟨rfl, rfl⟩, hR, hlen, -, -, -, -, hk⟩
  refine ⟨?_, hk.os, hk.tape, hk.output, hk.size, fun b hb => hk.block b ⟨hb, by simp⟩⟩
  match rv, hlen, hR with
  | [v], _, hR =>
    obtain ⟨B1, B2, h1, h2, ⟨xs, q1, q2, q3, q4, -⟩, -⟩ := hR
    match xs, q3 rfl, q1, q4 with
    | [u], _, q1, ⟨C1, C2, ⟨hr, _⟩, _⟩ =>
      have := hr.bool
      subst this
      rw [q1]; rfl
end Go.Proofs.YtjladmhjpikdhaaE

/- The law FnRxSays: for every input the call returns true, and each argument reads behind the call as it read before. Conditions: none. -/
namespace Go.Proofs.Ytjladmhjpikdhaa.fnRxSays
open Go.ChangeShapes Go.WideShapes Go.ChangeAt Go.RowKit Go.Proofs.YtjladmhjpikdhaaE
open Go.ChangeMaps (open_string shut_string)
set_option linter.unusedVariables false
theorem own : ownKnob Try.prog.godebug = none := by kernel_rfl
theorem laidOut : laidOutB Try.prog = true := by kernel_rfl
set_option maxRecDepth 100000 in
theorem lifted (os : Os) (started : os.Started) (H : Type) (enc : TypeId × Value → H) :
    ReturnsInHanded {} Try.checked os 11 .any (Rows.fnRxSaysSpec.pre6 enc Try.prog Try.f11 Rows.fnRxSaysRow.domain false) (Rows.fnRxSaysSpec.post enc Try.prog Try.f11 false true false false) := by
  refine returnsInHanded_of_change_sized (C := Try.checked) own started (by kernel_rfl) Try.func11
    (ChangeSpec.witness6 (enc := enc) (C := Try.checked) false ⟨#[], #[.slice none 0 0], []⟩ 8 (by kernel_rfl) (by kernel_rfl) (by kernel_rfl) (by kernel_rfl)) ?_
  intro W base args ds gs before hval0 hW hcnd hsz0 _
  have hsz : (DataW.weightsEach Try.prog (Try.f11.params.toList ++ Rows.fnRxSaysSpec.plain.varTypes Try.prog) (ds ++ gs)).all (· ≤ reachBytes) = true := hsz0
  have hval : ∀ (j : Nat) t v, Try.f11.params[j]? = some t → args[j]? = some v → Value.okWide Try.prog W .any base t v := hval0
  have hW' := hW
  obtain ⟨p, q, hA0, hV, rfl, hfz, hnd⟩ := hW
  have hA : DataW.TrodAll enc Try.prog W 0 (fun _ => true) true Try.f11.params.toList args.toList ds p := hA0
  rw [Try.params11] at hA hval hsz
  obtain ⟨v0, vs0, d0, ds0, p0, q0, hargs, rfl, rfl, h0, r0⟩ := trodAll_cons hA
  obtain ⟨rfl, rfl, rfl⟩ := trodAll_nil r0
  obtain rfl : args = #[v0] := by cases args; simp_all
  obtain ⟨rfl, rfl⟩ := trodVars_none hV
  obtain ⟨a0, len0, cap0, rfl⟩ := okWide_slice Try.underlying22 (hval 0 22 v0 rfl rfl)
  have k0 := h0
  have lt0 : ∀ x ∈ p0, x.block < W.heap.size := by obtain ⟨m, hm⟩ := k0; exact DataW.trod_lt m _ _ _ hm
  obtain ⟨z0, w0⟩ : ∃ zs, IsRow W a0 len0 cap0 zs := by
    obtain ⟨fuel, hf⟩ := h0
    rcases open_ints Try.underlying22 Try.underlying5 (by kernel_rfl) hf with ⟨hcs, _⟩ | ⟨x, l, c, zs, hcs, _, hl, hm, hz, _, hcell, hwz⟩
    · simp [Value.cells] at hcs
      obtain ⟨rfl, rfl, rfl⟩ := hcs
      exact ⟨[], .inl ⟨rfl, rfl, rfl, rfl⟩⟩
    · simp [Value.cells] at hcs
      obtain ⟨rfl, rfl, rfl⟩ := hcs
      exact ⟨zs, .inr ⟨_, rfl, hl, hm, by simpa using hz, hcell, hwz⟩⟩
  have b0 : ∀ x, a0 = some x → 0 < cap0 → x.block < W.heap.size := fun x hx hc => w0.lt hx hc
  clear hA0 hval0 hsz0 hsz
  refine (law_of w_laws_FnRxSays rfl (ys := [aR .u8 (z0.take len0)]) (argsR_cons (argR_d (w0.rd b0 _ rfl)) (argsR_nil _ _)) (fun K hK => ⟨w0.bytes, fun r hr => by subst hr; exact hK⟩)).mono fun e W' ⟨he, bel⟩ => ?_
  subst he
  exact ⟨_, rfl, _, _, _, [], _, [], hW', trodAll_mk1 (shut_bool Try.underlying4 _), (trodAll_cons_mk (Below.trod laidOut (by kernel_rfl) (of_decide_eq_true (by kernel_rfl)) k0 bel lt0) trodAll_mk0), rfl, bel.frame _, fun h => by cases h⟩
theorem over : Rows.fnRxSaysRow.holds Try.pinned (OpenSpec.ofChange Rows.fnRxSaysSpec) :=
  OpenClaim.holds_of_wide 11 Try.f11 rfl rfl rfl rfl rfl rfl rfl ⟨rfl, rfl, rfl, rfl, rfl⟩ rfl rfl rfl rfl rfl (by kernel_rfl) Try.func11 (by kernel_rfl)
    (of_decide_eq_true (by kernel_rfl)) (by unfold Func.isWrapper; first | (rw [if_pos (by decide +kernel)]; kernel_rfl) | (rw [if_neg (by decide +kernel)]; exact ⟨rfl, rfl⟩))
    (fun os started H enc _ => lifted os started H enc)
theorem proved : Rows.FnRxSaysSaid := over
#print axioms proved
end Go.Proofs.Ytjladmhjpikdhaa.fnRxSays
namespace Go.Proofs.Ytjladmhjpikdhaa
/-- The row, under a short name, for the claim. -/
theorem fnRxSays_holds : Rows.FnRxSaysSaid := fnRxSays.proved
end Go.Proofs.Ytjladmhjpikdhaa
