/- A part of the proof of laws of the program: what calls of the program answer. Conditions: none. -/
import Derived.Test.YtdahhphhblbfdaaMf6d570f3
set_option linter.unusedVariables false
set_option linter.unusedSimpArgs false
set_option linter.unusedSectionVars false
/- Contracts: X5. Conditions: none. -/
set_option linter.unusedVariables false
set_option maxHeartbeats 1600000
namespace Go.Proofs.YtdahhphhblbfdaaE
open Go
/-! slices.Clone[[]impl.SegPart,impl.SegPart]@d -/
def c_slices_Clone_impl_SegPart_impl_SegPart_d : Ent := ctr (α := (List Part)) (ρ := (List Part)) [(0, 0)] [(0, 0)] (rs1 (rOd 93 .part)) (fun x_ => (fun (l : List Part) => (l.length ≤ LIM)) x_) (fun x_ r_ => (fun x_ => (fun (l : List Part) => ((fun r_ => (fun (r : List Part) => (r = l)) r_))) x_) x_ r_) (fun r_ => (fun (r : List Part) => ([(rOd 93 .part).to r])) r_) (fun r_ => (fun (r : List Part) => ([])) r_)
def V_slices_Clone_impl_SegPart_impl_SegPart_d : Env := ⟨tys, [], [(2, [1]), (5, [2])], [], [], [], [700002, 700005], [], []⟩
/-! slices.Clone[[]impl.SegPart,impl.SegPart]@p -/
def c_slices_Clone_impl_SegPart_impl_SegPart_p : Ent := ctr (α := (List Part)) (ρ := (List Part)) [(0, 0)] [(0, 0)] (rs1 (rOp 93 .part)) (fun x_ => (fun (l : List Part) => (l.length ≤ LIM)) x_) (fun x_ r_ => (fun x_ => (fun (l : List Part) => ((fun r_ => (fun (r : List Part) => (r = l)) r_))) x_) x_ r_) (fun r_ => (fun (r : List Part) => ([(rOd 93 .part).to r])) r_) (fun r_ => (fun (r : List Part) => ([])) r_)
def V_slices_Clone_impl_SegPart_impl_SegPart_p : Env := ⟨tys, [], [(2, [1]), (5, [2])], [], [], [], [700002, 700005], [], []⟩
/-! slices.Clip[[]impl.SegPart,impl.SegPart]@d -/
def c_slices_Clip_impl_SegPart_impl_SegPart_d : Ent := ctr (α := (List Part)) (ρ := (List Part)) [(0, 0)] [(0, 0)] (rs1 (rOd 93 .part)) (fun x_ => (fun (l : List Part) => (True)) x_) (fun x_ r_ => (fun x_ => (fun (l : List Part) => ((fun r_ => (fun (r : List Part) => (r = l)) r_))) x_) x_ r_) (fun r_ => (fun (r : List Part) => ([(rOd 93 .part).to r])) r_) (fun r_ => (fun (r : List Part) => ([])) r_)
def V_slices_Clip_impl_SegPart_impl_SegPart_d : Env := ⟨tys, [], [], [], [], [], [], [], []⟩
/-! impl.clone[impl.SegPart]@d -/
def c_impl_clone_impl_SegPart_d : Ent := ctr (α := (List Part)) (ρ := (List Part)) [(0, 0)] [(0, 0)] (rs1 (rOd 93 .part)) (fun x_ => (fun (l : List Part) => (l.length ≤ LIM)) x_) (fun x_ r_ => (fun x_ => (fun (l : List Part) => ((fun r_ => (fun (r : List Part) => (r = l)) r_))) x_) x_ r_) (fun r_ => (fun (r : List Part) => ([(rOd 93 .part).to r])) r_) (fun r_ => (fun (r : List Part) => ([])) r_)
def V_impl_clone_impl_SegPart_d : Env := ⟨tys, [(82, c_slices_Clip_impl_SegPart_impl_SegPart_d), (83, c_slices_Clone_impl_SegPart_impl_SegPart_d)], [(4, [1]), (5, [2]), (2, [3])], [], [], [], [], [], []⟩
/-! impl.clone[impl.SegPart]@p -/
def c_impl_clone_impl_SegPart_p : Ent := ctr (α := (List Part)) (ρ := (List Part)) [(0, 0)] [(0, 0)] (rs1 (rOp 93 .part)) (fun x_ => (fun (l : List Part) => (l.length ≤ LIM)) x_) (fun x_ r_ => (fun x_ => (fun (l : List Part) => ((fun r_ => (fun (r : List Part) => (r = l)) r_))) x_) x_ r_) (fun r_ => (fun (r : List Part) => ([(rOd 93 .part).to r])) r_) (fun r_ => (fun (r : List Part) => ([])) r_)
def V_impl_clone_impl_SegPart_p : Env := ⟨tys, [(82, c_slices_Clip_impl_SegPart_impl_SegPart_d), (83, c_slices_Clone_impl_SegPart_impl_SegPart_p)], [(4, [1]), (5, [2]), (2, [3])], [], [], [], [], [], []⟩
/-! impl.copyParts@x -/
def c_impl_copyParts_x : Ent := ctr (α := (List Part)) (ρ := (List Part)) [] [(0, 0)] (rs1 (rR .part)) (fun x_ => (fun (l : List Part) => (l.length ≤ 1000 ∧ ∀ p ∈ l, p.data.length ≤ LIM)) x_) (fun x_ r_ => (fun x_ => (fun (l : List Part) => ((fun r_ => (fun (r : List Part) => (r = l)) r_))) x_) x_ r_) (fun r_ => (fun (r : List Part) => ([(rOd 93 .part).to r])) r_) (fun r_ => (fun (r : List Part) => ([])) r_)
def l_impl_copyParts_x_0 : LoopD ((List Part) × (Nat) × (Int) × (Int)) ((List Part) × (Nat)) ((Empty)) where
  n := 24
  head := ⟨[3, 8, 9, 10], [], [0]⟩
  st := fun x_ => (fun (o : List Part) (q : Nat) (m : Int) (i : Int) => (⟨true, [(3, .v false [.ref 0 0]), (8, .v false [.ref 0 0]), (9, num .i64 m), (10, num .i64 i)], [⟨0, some ⟨93, .part, o, ⟨some q, false, 0, false⟩⟩⟩, ⟨0, none⟩], [⟨0, none⟩]⟩)) x_.1 x_.2.1 x_.2.2.1 x_.2.2.2
  pre := fun x_ => (fun (o : List Part) (q : Nat) (m : Int) (i : Int) => (o.length ≤ 1000 ∧ (∀ p ∈ o, p.data.length ≤ LIM) ∧ m = o.length ∧ i = 0 ∧ q = 0)) x_.1 x_.2.1 x_.2.2.1 x_.2.2.2
  nk := ⟨[3], [], [0]⟩
  nst := fun r_ => (fun (o : List Part) (q : Nat) => (⟨true, [(3, .v false [.ref 0 0])], [⟨0, some ⟨93, .part, o, ⟨some q, false, 0, false⟩⟩⟩, ⟨0, none⟩], [⟨0, none⟩]⟩)) r_.1 r_.2
  npost := fun x_ r_ => (fun x_ => (fun (o0 : List Part) (q0 : Nat) (m0 : Int) (i0 : Int) => ((fun r_ => (fun (o : List Part) (q : Nat) => (o = o0 ∧ q = o.length)) r_.1 r_.2))) x_.1 x_.2.1 x_.2.2.1 x_.2.2.2) x_ r_
  rk := ⟨[], [], []⟩
  rst := fun _ => ⟨true, [], [], []⟩
  rpost := fun _ _ => False
def i_impl_copyParts_x_0 (x : (List Part) × (Nat) × (Int) × (Int)) (n : Nat) (s : (List Part) × (Nat) × (Int) × (Int)) : Prop := (fun x_ => (fun (o0 : List Part) (q0 : Nat) (m0 : Int) (i0 : Int) => ((fun s_ => (fun (o : List Part) (q : Nat) (m : Int) (i : Int) => (o = o0 ∧ m = o.length ∧ o.length ≤ 1000 ∧ (∀ p ∈ o, p.data.length ≤ LIM) ∧ 0 ≤ i ∧ i + n = o.length ∧ i = q)) s_.1 s_.2.1 s_.2.2.1 s_.2.2.2))) x_.1 x_.2.1 x_.2.2.1 x_.2.2.2) x s
def V_impl_copyParts_x : Env := ⟨tys, [(63, c_impl_clone_impl_SegPart), (65, c_impl_clone_byte)], [(7, [0]), (19, [1])], [(5, 0)], [], [(0, l_impl_copyParts_x_0.L)], [700007], [], []⟩
end Go.Proofs.YtdahhphhblbfdaaE

/- Calls answer what is promised: X5. Conditions: none. -/
set_option linter.unusedVariables false
set_option maxHeartbeats 1600000
namespace Go.Proofs.YtdahhphhblbfdaaE
open Go
theorem vF_slices_Clone_impl_SegPart_impl_SegPart_d (l:List Part) (K:List Arg→List (List AC)→Prop) (hp:l.length≤LIM) (hk:∀ (r:List Part),(r=l)→K ([(rOd 93 .part).to r]) ([])):∀ b:Bool,((b=true)→(l=([]:(List Part))))→if (b=true) then ((true=true)∧(K [(Arg.v false [(AC.own (RC.mk (93:Nat) RK.part ([]:(List Part)) (RM.mk (dpM false (Option.some (0:Nat))) false (0:Nat) false)))])] [])) else ((((0:Nat)=(0:Nat))∧(((List.length l)=(List.length l))∧(((0:Nat) + (List.length l))≤(137438953472:Nat))))∧((true=true)∧(K [(Arg.v false [(AC.own (RC.mk (93:Nat) RK.part (([]:(List Part)) ++ l:(List Part)) (RM.mk (dpM false (Option.some ((0:Nat) + (List.length l)))) false (0:Nat) false)))])] []))) := by
  intro b hb
  have hL : l.length ≤ 137438953472 := hp
  split
  · rename_i h
    exact ⟨rfl, hk _ (hb h).symm⟩
  · simp only [Nat.zero_add, List.nil_append, List.length_nil]
    first
      | exact ⟨⟨by trivial, by trivial, by omega⟩, by trivial, hk _ rfl⟩
      | exact ⟨⟨rfl, rfl, by omega⟩, rfl, hk _ rfl⟩
theorem w_slices_Clone_impl_SegPart_impl_SegPart_d : Valid Try.prog 83 c_slices_Clone_impl_SegPart_impl_SegPart_d :=
  valid_ctr2 (V := V_slices_Clone_impl_SegPart_impl_SegPart_d) (tysB_ok tys_ok) ⟨(CallsL.nil _), (IosL.nil _)⟩ mixed 2 0 Try.func83 rfl (by kernel_rfl)
    (fun c hc => by
      obtain rfl := Option.some.inj hc
      exact ⟨trivial, ⟨⟨trivial, ⟨⟨trivial, trivial⟩, trivial⟩⟩, ⟨trivial, trivial⟩⟩⟩)
    (fun x K hp hk => ⟨_, by kernel_rfl, vF_slices_Clone_impl_SegPart_impl_SegPart_d x K hp (fun r h => hk r h)⟩)
theorem vF_slices_Clone_impl_SegPart_impl_SegPart_p (l:List Part) (K:List Arg→List (List AC)→Prop) (hp:l.length≤LIM) (hk:∀ (r:List Part),(r=l)→K ([(rOd 93 .part).to r]) ([])):∀ b:Bool,((b=true)→(l=([]:(List Part))))→if (b=true) then ((true=true)∧(K [(Arg.v false [(AC.own (RC.mk (93:Nat) RK.part ([]:(List Part)) (RM.mk (dpM false (Option.some (0:Nat))) false (0:Nat) false)))])] [])) else ((((0:Nat)=(0:Nat))∧(((List.length l)=(List.length l))∧(((0:Nat) + (List.length l))≤(137438953472:Nat))))∧((true=true)∧(K [(Arg.v false [(AC.own (RC.mk (93:Nat) RK.part (([]:(List Part)) ++ l:(List Part)) (RM.mk (dpM false (Option.some ((0:Nat) + (List.length l)))) false (0:Nat) false)))])] []))) := by
  intro b hb
  have hL : l.length ≤ 137438953472 := hp
  split
  · rename_i h
    exact ⟨rfl, hk _ (hb h).symm⟩
  · simp only [Nat.zero_add, List.nil_append, List.length_nil]
    first
      | exact ⟨⟨by trivial, by trivial, by omega⟩, by trivial, hk _ rfl⟩
      | exact ⟨⟨rfl, rfl, by omega⟩, rfl, hk _ rfl⟩
theorem w_slices_Clone_impl_SegPart_impl_SegPart_p : Valid Try.prog 83 c_slices_Clone_impl_SegPart_impl_SegPart_p :=
  valid_ctr2 (V := V_slices_Clone_impl_SegPart_impl_SegPart_p) (tysB_ok tys_ok) ⟨(CallsL.nil _), (IosL.nil _)⟩ mixed 2 0 Try.func83 rfl (by kernel_rfl)
    (fun c hc => by
      obtain rfl := Option.some.inj hc
      exact ⟨trivial, ⟨⟨trivial, ⟨⟨trivial, trivial⟩, trivial⟩⟩, ⟨trivial, trivial⟩⟩⟩)
    (fun x K hp hk => ⟨_, by kernel_rfl, vF_slices_Clone_impl_SegPart_impl_SegPart_p x K hp (fun r h => hk r h)⟩)
theorem vF_slices_Clip_impl_SegPart_impl_SegPart_d (l:List Part) (K:List Arg→List (List AC)→Prop) (hp:True) (hk:∀ (r:List Part),(r=l)→K ([(rOd 93 .part).to r]) ([])):(((((List.length l):Nat):Int)=(((List.length l):Nat):Int))∧((((List.length l):Nat):Int)=(((List.length l):Nat):Int)))∧((true=true)∧(K [(Arg.v false [(AC.own (RC.mk (93:Nat) RK.part l (RM.mk (dpM false (Option.some (List.length l))) false (0:Nat) false)))])] [])) := by
  exact ⟨⟨rfl, rfl⟩, rfl, hk _ rfl⟩
theorem w_slices_Clip_impl_SegPart_impl_SegPart_d : Valid Try.prog 82 c_slices_Clip_impl_SegPart_impl_SegPart_d :=
  valid_ctr2 (V := V_slices_Clip_impl_SegPart_impl_SegPart_d) (tysB_ok tys_ok) ⟨(CallsL.nil _), (IosL.nil _)⟩ mixed 0 0 Try.func82 rfl (by kernel_rfl)
    (fun c hc => by
      obtain rfl := Option.some.inj hc
      exact ⟨trivial, ⟨trivial, trivial⟩⟩)
    (fun x K hp hk => ⟨_, by kernel_rfl, vF_slices_Clip_impl_SegPart_impl_SegPart_d x K hp (fun r h => hk r h)⟩)
theorem vF_impl_clone_impl_SegPart_d (l:List Part) (K:List Arg→List (List AC)→Prop) (hp:l.length≤LIM) (hk:∀ (r:List Part),(r=l)→K ([(rOd 93 .part).to r]) ([])):(true=true)∧(((List.length l)=(List.length l))∧(((List.length l)≤(137438953472:Nat))∧(∀ r:(List Part),(r=l)→((List.length r)=(List.length r))∧((true=true)∧((true=true)∧(((List.length r)=(List.length r))∧(True∧(∀ r1:(List Part),(r1=r)→((List.length r1)=(List.length r1))∧((true=true)∧((true=true)∧(K [(Arg.v false [(AC.own (RC.mk (93:Nat) RK.part r1 (RM.mk (dpM false (Option.some (List.length r1))) false (0:Nat) false)))])] []))))))))))) := by
  repeat' first
    | exact rfl
    | exact True.intro
    | with_reducible apply And.intro
    | (with_reducible intro y_ hy_; subst hy_)
    | with_reducible intro y_
    | (refine iteI (fun h => ?_) (fun h => ?_))
  all_goals try simp only [Bool.not_eq_true', decide_eq_false_iff_not, decide_eq_true_eq, Bool.not_eq_true, bne_iff_ne, beq_iff_eq, ne_eq, Decidable.not_not, Bool.not_eq_false, gt_iff_lt, ge_iff_le, Int.not_le, Int.not_lt, beq_eq_false_iff_ne, bne_eq_false_iff_eq, Bool.and_eq_true, Bool.or_eq_true, Bool.true_eq_false, Bool.false_eq_true] at *
  all_goals try simp (disch := first | omega | grind []) only [wr] at *
  all_goals first
    | assumption
    | omega
    | exact hk _ rfl
    | exact hk _ (by grind [])
    | (simp only [LIM] at *; omega)
    | grind [LIM]
theorem w_impl_clone_impl_SegPart_d : Valid Try.prog 63 c_impl_clone_impl_SegPart_d :=
  valid_ctr2 (V := V_impl_clone_impl_SegPart_d) (tysB_ok tys_ok) ⟨(CallsL.cons w_slices_Clip_impl_SegPart_impl_SegPart_d (CallsL.cons w_slices_Clone_impl_SegPart_impl_SegPart_d (CallsL.nil _))), (IosL.nil _)⟩ mixed 3 0 Try.func63 rfl (by kernel_rfl)
    (fun c hc => by
      obtain rfl := Option.some.inj hc
      exact ⟨trivial, ⟨trivial, trivial⟩⟩)
    (fun x K hp hk => ⟨_, by kernel_rfl, vF_impl_clone_impl_SegPart_d x K hp (fun r h => hk r h)⟩)
theorem vF_impl_clone_impl_SegPart_p (l:List Part) (K:List Arg→List (List AC)→Prop) (hp:l.length≤LIM) (hk:∀ (r:List Part),(r=l)→K ([(rOd 93 .part).to r]) ([])):(true=true)∧(((List.length l)=(List.length l))∧(((List.length l)≤(137438953472:Nat))∧(∀ r:(List Part),(r=l)→((List.length r)=(List.length r))∧((true=true)∧((true=true)∧(((List.length r)=(List.length r))∧(True∧(∀ r1:(List Part),(r1=r)→((List.length r1)=(List.length r1))∧((true=true)∧((true=true)∧(K [(Arg.v false [(AC.own (RC.mk (93:Nat) RK.part r1 (RM.mk (dpM false (Option.some (List.length r1))) false (0:Nat) false)))])] []))))))))))) := by
  repeat' first
    | exact rfl
    | exact True.intro
    | with_reducible apply And.intro
    | (with_reducible intro y_ hy_; subst hy_)
    | with_reducible intro y_
    | (refine iteI (fun h => ?_) (fun h => ?_))
  all_goals try simp only [Bool.not_eq_true', decide_eq_false_iff_not, decide_eq_true_eq, Bool.not_eq_true, bne_iff_ne, beq_iff_eq, ne_eq, Decidable.not_not, Bool.not_eq_false, gt_iff_lt, ge_iff_le, Int.not_le, Int.not_lt, beq_eq_false_iff_ne, bne_eq_false_iff_eq, Bool.and_eq_true, Bool.or_eq_true, Bool.true_eq_false, Bool.false_eq_true] at *
  all_goals try simp (disch := first | omega | grind []) only [wr] at *
  all_goals first
    | assumption
    | omega
    | exact hk _ rfl
    | exact hk _ (by grind [])
    | (simp only [LIM] at *; omega)
    | grind [LIM]
theorem w_impl_clone_impl_SegPart_p : Valid Try.prog 63 c_impl_clone_impl_SegPart_p :=
  valid_ctr2 (V := V_impl_clone_impl_SegPart_p) (tysB_ok tys_ok) ⟨(CallsL.cons w_slices_Clip_impl_SegPart_impl_SegPart_d (CallsL.cons w_slices_Clone_impl_SegPart_impl_SegPart_p (CallsL.nil _))), (IosL.nil _)⟩ mixed 3 0 Try.func63 rfl (by kernel_rfl)
    (fun c hc => by
      obtain rfl := Option.some.inj hc
      exact ⟨trivial, ⟨trivial, trivial⟩⟩)
    (fun x K hp hk => ⟨_, by kernel_rfl, vF_impl_clone_impl_SegPart_p x K hp (fun r h => hk r h)⟩)
theorem vF_impl_copyParts_x (l:List Part) (K:List Arg→List (List AC)→Prop) (hp:l.length≤1000∧∀ p ∈ l,p.data.length≤LIM) (hk:∀ (r:List Part),(r=l)→K ([(rOd 93 .part).to r]) ([])):(true=true)∧(((List.length l)≤(137438953472:Nat))∧(∀ r:(List Part),(r=l)→(true=true)∧(∃ s:(Prod (List Part) (Prod Nat (Prod Int Int))),((KS.mk true [(Prod.mk (3:Nat) (T.v false [(Cm.ref (0:Nat) (0:Nat))])),(Prod.mk (8:Nat) (T.v false [(Cm.ref (0:Nat) (0:Nat))])),(Prod.mk (9:Nat) (num IntKind.i64 (((List.length r):Nat):Int))),(Prod.mk (10:Nat) (num IntKind.i64 (0:Int)))] [(Row.mk (0:Nat) (Option.some (RC.mk (93:Nat) RK.part r (RM.mk (Option.some (0:Nat)) false (0:Nat) false)))),(Row.mk (0:Nat) Option.none)] [(Box.mk (0:Nat) Option.none)])=(KS.mk true [(Prod.mk (3:Nat) (T.v false [(Cm.ref (0:Nat) (0:Nat))])),(Prod.mk (8:Nat) (T.v false [(Cm.ref (0:Nat) (0:Nat))])),(Prod.mk (9:Nat) (num IntKind.i64 s.snd.snd.fst)),(Prod.mk (10:Nat) (num IntKind.i64 s.snd.snd.snd))] [(Row.mk (0:Nat) (Option.some (RC.mk (93:Nat) RK.part s.fst (RM.mk (Option.some s.snd.fst) false (0:Nat) false)))),(Row.mk (0:Nat) Option.none)] [(Box.mk (0:Nat) Option.none)]))∧((((List.length s.fst)≤(1000:Nat))∧((∀ p:Part,(List.Mem p s.fst)→((List.length p.data)≤(137438953472:Nat)))∧((s.snd.snd.fst=(((List.length s.fst):Nat):Int))∧((s.snd.snd.snd=(0:Int))∧(s.snd.fst=(0:Nat))))))∧((∀ r1:(Prod (List Part) Nat),((r1.fst=s.fst)∧(r1.snd=(List.length r1.fst)))→(true=true)∧(K [(Arg.v false [(AC.own (RC.mk (93:Nat) RK.part r1.fst (RM.mk (dpM false (Option.some r1.snd)) false (0:Nat) false)))])] []))∧(∀ r1:Empty,False→False)))))) := by
  refine ⟨by trivial, by omega, fun r hr => ⟨by trivial, (r, 0, (r.length : Int), 0), rfl, ?_, ?_, fun _ h => h.elim⟩⟩
  · subst hr
    exact ⟨hp.1, hp.2, rfl, rfl, rfl⟩
  · rintro ⟨o, q⟩ ⟨ho, hq⟩
    dsimp only at ho hq ⊢
    subst hq
    exact ⟨by trivial, hk o (ho.trans hr)⟩
theorem vL_impl_copyParts_x_0 (o0:List Part) (q0:Nat) (m0:Int) (i0:Int) (o:List Part) (q:Nat) (m:Int) (i:Int) (n:Nat) (hp:(fun (o:List Part) (q:Nat) (m:Int) (i:Int) => (o.length≤1000∧(∀ p ∈ o,p.data.length≤LIM)∧m=o.length∧i=0∧q=0)) o0 q0 m0 i0) (hi:o=o0∧m=o.length∧o.length≤1000∧(∀ p ∈ o,p.data.length≤LIM)∧0≤i∧i + n=o.length∧i=q):if ((decide (i < m))=true) then ((((0:Int)≤i)∧(i < (((List.length o):Nat):Int)))∧((q≤(Int.toNat i))∧((true=true)∧(((List.length (at_part o (Int.toNat i)).data)≤(137438953472:Nat))∧(∀ r:(List Int),(r=(at_part o (Int.toNat i)).data)→(true=true)∧((((0:Int)≤i)∧(i < (((List.length o):Nat):Int)))∧(((Int.toNat i)=q)∧(∃ s:(Prod (List Part) (Prod Nat (Prod Int Int))),((KS.mk true [(Prod.mk (3:Nat) (T.v false [(Cm.ref (0:Nat) (0:Nat))])),(Prod.mk (8:Nat) (T.v false [(Cm.ref (0:Nat) (0:Nat))])),(Prod.mk (9:Nat) (num IntKind.i64 m)),(Prod.mk (10:Nat) (num IntKind.i64 (IntKind.wrap IntKind.i64 (i + (1:Int)))))] [(Row.mk (0:Nat) (Option.some (RC.mk (93:Nat) RK.part (List.set o (Int.toNat i) (Part.mk (at_part o (Int.toNat i)).seg (at_part o (Int.toNat i)).len r)) (RM.mk (Option.some (q + (1:Nat))) false (0:Nat) false)))),(Row.mk (0:Nat) Option.none)] [(Box.mk (0:Nat) Option.none)])=(KS.mk true [(Prod.mk (3:Nat) (T.v false [(Cm.ref (0:Nat) (0:Nat))])),(Prod.mk (8:Nat) (T.v false [(Cm.ref (0:Nat) (0:Nat))])),(Prod.mk (9:Nat) (num IntKind.i64 s.snd.snd.fst)),(Prod.mk (10:Nat) (num IntKind.i64 s.snd.snd.snd))] [(Row.mk (0:Nat) (Option.some (RC.mk (93:Nat) RK.part s.fst (RM.mk (Option.some s.snd.fst) false (0:Nat) false)))),(Row.mk (0:Nat) Option.none)] [(Box.mk (0:Nat) Option.none)]))∧(∃ m1:Nat,(m1 < n)∧((s.fst=o0)∧((s.snd.snd.fst=(((List.length s.fst):Nat):Int))∧(((List.length s.fst)≤(1000:Nat))∧((∀ p:Part,(List.Mem p s.fst)→((List.length p.data)≤(137438953472:Nat)))∧(((0:Int)≤s.snd.snd.snd)∧(((s.snd.snd.snd + ((m1:Nat):Int))=(((List.length s.fst):Nat):Int))∧(s.snd.snd.snd=((s.snd.fst:Nat):Int))))))))))))))))) else (∃ r:(Prod (List Part) Nat),((KS.mk true [(Prod.mk (3:Nat) (T.v false [(Cm.ref (0:Nat) (0:Nat))]))] [(Row.mk (0:Nat) (Option.some (RC.mk (93:Nat) RK.part o (RM.mk (Option.some q) false (0:Nat) false)))),(Row.mk (0:Nat) Option.none)] [(Box.mk (0:Nat) Option.none)])=(KS.mk true [(Prod.mk (3:Nat) (T.v false [(Cm.ref (0:Nat) (0:Nat))]))] [(Row.mk (0:Nat) (Option.some (RC.mk (93:Nat) RK.part r.fst (RM.mk (Option.some r.snd) false (0:Nat) false)))),(Row.mk (0:Nat) Option.none)] [(Box.mk (0:Nat) Option.none)]))∧((r.fst=o0)∧(r.snd=(List.length r.fst)))) := by
  try dsimp only at hp
  obtain ⟨rfl, rfl, h1, h2, h3, h4, rfl⟩ := hi
  rw [wr (x := (q : Int) + 1) (by omega) (by omega)]
  simp only [Int.toNat_natCast]
  refine iteI (fun h => ?_) (fun h => ?_)
  · have hi : q < o.length := by simp at h; omega
    have hd : (at_part o q).data.length ≤ 137438953472 := h2 _ (at_mem .part o q hi)
    have e9 : o.set q ⟨(at_part o q).seg, (at_part o q).len, (at_part o q).data⟩ = o := set_same o q
    repeat' first
      | exact True.intro
      | exact rfl
      | with_reducible apply And.intro
      | (with_reducible intro r hr; subst r)
    all_goals first
      | omega
      | exact hd
      | (refine ⟨(o, q + 1, (o.length : Int), (q : Int) + 1), ?_, n - 1, by omega, rfl, rfl, h1, h2, by dsimp only; omega, by dsimp only; omega, by dsimp only; omega⟩
         exact congrArg (fun z => KS.mk true _ [⟨0, some ⟨_, RK.part, z, ⟨some (q + 1), false, 0, false⟩⟩⟩, ⟨0, none⟩] _) (set_same o q))
  · have hi : q = o.length := by simp at h; omega
    exact ⟨(o, q), rfl, rfl, hi⟩
theorem vS_impl_copyParts_x_0 (o0 : List Part) (q0 : Nat) (m0 : Int) (i0 : Int) (hp : (fun (o : List Part) (q : Nat) (m : Int) (i : Int) => (o.length ≤ 1000 ∧ (∀ p ∈ o, p.data.length ≤ LIM) ∧ m = o.length ∧ i = 0 ∧ q = 0)) o0 q0 m0 i0) : ∃ n : Nat, (fun (o : List Part) (q : Nat) (m : Int) (i : Int) => (o = o0 ∧ m = o.length ∧ o.length ≤ 1000 ∧ (∀ p ∈ o, p.data.length ≤ LIM) ∧ 0 ≤ i ∧ i + n = o.length ∧ i = q)) o0 q0 m0 i0 := by
  try dsimp only at hp
  try dsimp only
  obtain ⟨h1, h2, rfl, rfl, rfl⟩ := hp
  exact ⟨o0.length, rfl, rfl, h1, h2, by omega, by omega, rfl⟩
theorem w_impl_copyParts_x : Valid Try.prog 80 c_impl_copyParts_x :=
  valid_ctr2 (V := V_impl_copyParts_x) (tysB_ok tys_ok) ⟨(CallsL.cons w_impl_clone_impl_SegPart (CallsL.cons w_impl_clone_byte (CallsL.nil _))), (IosL.nil _)⟩ mixed 2 1 Try.func80 rfl (by kernel_rfl)
    (fun c hc => by
      obtain rfl := Option.some.inj hc
      exact ⟨trivial, ⟨trivial, ⟨⟨trivial, ⟨LoopD.ok2 (V := V_impl_copyParts_x) l_impl_copyParts_x_0 (LoopsM.cons 0 l_impl_copyParts_x_0 LoopsM.nil) 0 _ i_impl_copyParts_x_0 (fun x hx => vS_impl_copyParts_x_0 x.1 x.2.1 x.2.2.1 x.2.2.2 hx) (fun x hx n s hi => ⟨_, by kernel_rfl, vL_impl_copyParts_x_0 x.1 x.2.1 x.2.2.1 x.2.2.2 s.1 s.2.1 s.2.2.1 s.2.2.2 n hx hi⟩), ⟨trivial, ⟨⟨trivial, trivial⟩, ⟨⟨trivial, trivial⟩, trivial⟩⟩⟩⟩⟩, ⟨trivial, trivial⟩⟩⟩⟩)
    (fun x K hp hk => ⟨_, by kernel_rfl, vF_impl_copyParts_x x K hp (fun r h => hk r h)⟩)
end Go.Proofs.YtdahhphhblbfdaaE
