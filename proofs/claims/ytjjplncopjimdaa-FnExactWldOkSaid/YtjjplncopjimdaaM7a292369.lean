/- A part of the proof of laws of the program: what calls of the program answer. Conditions: none. -/
import Derived.Test.YtjjplncopjimdaaM6fe78fd9
set_option linter.unusedVariables false
set_option linter.unusedSimpArgs false
set_option linter.unusedSectionVars false
/- Contracts: X3R. Conditions: none. -/
set_option linter.unusedVariables false
set_option maxHeartbeats 1600000
namespace Go.Proofs.YtjjplncopjimdaaE
open Go
def dJoinC (t : JoinS) : List AC := [.d (.i .i64 t.len), .own ⟨5, .u8, t.got, ⟨none, false, 0, false⟩⟩]
def dJoin (t : JoinS) : Arg := .v true (dJoinC t)
def mkJoinD : List AC → Option JoinS
  | [.d (.i .i64 a0), .own ⟨e1, .u8, a1, ⟨none, false, 0, false⟩⟩] => if e1 = 5 then some ⟨a0, a1⟩ else none
  | _ => none
theorem mkJoinD_cells {cs : List AC} {t : JoinS} (h : mkJoinD cs = some t) : cs = dJoinC t := by
  unfold mkJoinD at h
  split at h
  · split at h
    · rename_i he
      cases h
      obtain rfl := he
      rfl
    · simp at h
  · simp at h
def odJoin : Arg → Option JoinS
  | .v true cs => mkJoinD cs
  | _ => none
def rDJoin : Rep JoinS where
  to t := .v true (dJoinC t)
  of := odJoin
  inv a x h _ := by
    unfold odJoin at h
    split at h
    · rw [mkJoinD_cells h]
    · simp at h

/-! laws.toSegJoin -/
def c_laws_toSegJoin : Ent := ctr (α := (JoinS)) (ρ := (JoinS)) [] [(0, 1)] (rs1 rJoin) (fun x_ => (fun (j : JoinS) => (j.got.length ≤ LIM)) x_) (fun x_ r_ => (fun x_ => (fun (j : JoinS) => ((fun r_ => (fun (r : JoinS) => (r = j)) r_))) x_) x_ r_) (fun r_ => (fun (r : JoinS) => ([dJoin r])) r_) (fun r_ => (fun (r : JoinS) => ([])) r_)
def V_laws_toSegJoin : Env := ⟨tys, [(85, c_laws_toByteS)], [(9, [0])], [(1, 0), (2, 1), (3, 2)], [], [], [], [], []⟩
/-! laws.eqSegJoin -/
def c_laws_eqSegJoin : Ent := ctr (α := (JoinS) × (JoinS)) (ρ := (Bool)) [] [] (rs rJoin (rs1 rJoin)) (fun x_ => (fun (a : JoinS) (b : JoinS) => (a.got.length ≤ LIM)) x_.1 x_.2) (fun x_ r_ => (fun x_ => (fun (a : JoinS) (b : JoinS) => ((fun r_ => (fun (r : Bool) => (r = decide (a = b))) r_))) x_.1 x_.2) x_ r_) (fun r_ => (fun (r : Bool) => ([rB.to r])) r_) (fun r_ => (fun (r : Bool) => ([])) r_)
def V_laws_eqSegJoin : Env := ⟨tys, [(90, c_laws_eqByteS)], [], [(2, 0), (3, 1)], [], [], [], [], []⟩
/-! laws.szSegJoin -/
def c_laws_szSegJoin : Ent := ctr (α := (JoinS) × (Int)) (ρ := (Int)) [] [] (rs rJoin (rs1 rInt)) (fun x_ => (fun (j : JoinS) (l : Int) => (j.got.length ≤ maxLen ∧ 0 ≤ l ∧ l ≤ 1048576)) x_.1 x_.2) (fun x_ r_ => (fun x_ => (fun (j : JoinS) (l : Int) => ((fun r_ => (fun (r : Int) => ((r = l - j.got.length ∧ 0 ≤ r) ∨ r = -1)) r_))) x_.1 x_.2) x_ r_) (fun r_ => (fun (r : Int) => ([rInt.to r])) r_) (fun r_ => (fun (r : Int) => ([])) r_)
def V_laws_szSegJoin : Env := ⟨tys, [(81, c_laws_szByteS)], [], [(2, 0)], [], [], [], [], []⟩
def dRxC (t : RxS) : List AC := [.d (.i .i64 t.expect), .d (.i .i64 t.count), .d (.i .i64 t.join.len), .own ⟨5, .u8, t.join.got, ⟨none, false, 0, false⟩⟩, .d (.b t.again), .d (.b t.busy), .d (.b t.dead)]
def dRx (t : RxS) : Arg := .v true (dRxC t)
def mkRxD : List AC → Option RxS
  | [.d (.i .i64 a0), .d (.i .i64 a1), .d (.i .i64 a2), .own ⟨e3, .u8, a3, ⟨none, false, 0, false⟩⟩, .d (.b a4), .d (.b a5), .d (.b a6)] => if e3 = 5 then some ⟨a0, a1, ⟨a2, a3⟩, a4, a5, a6⟩ else none
  | _ => none
theorem mkRxD_cells {cs : List AC} {t : RxS} (h : mkRxD cs = some t) : cs = dRxC t := by
  unfold mkRxD at h
  split at h
  · split at h
    · rename_i he
      cases h
      obtain rfl := he
      rfl
    · simp at h
  · simp at h
def odRx : Arg → Option RxS
  | .v true cs => mkRxD cs
  | _ => none
def rDRx : Rep RxS where
  to t := .v true (dRxC t)
  of := odRx
  inv a x h _ := by
    unfold odRx at h
    split at h
    · rw [mkRxD_cells h]
    · simp at h

/-! laws.toRxState -/
def c_laws_toRxState : Ent := ctr (α := (RxS)) (ρ := (RxS)) [] [(0, 3)] (rs1 rRx) (fun x_ => (fun (t : RxS) => (t.join.got.length ≤ LIM)) x_) (fun x_ r_ => (fun x_ => (fun (t : RxS) => ((fun r_ => (fun (r : RxS) => (r = t)) r_))) x_) x_ r_) (fun r_ => (fun (r : RxS) => ([dRx r])) r_) (fun r_ => (fun (r : RxS) => ([])) r_)
def V_laws_toRxState : Env := ⟨tys, [(84, c_laws_toSegJoin)], [(12, [0])], [(1, 0), (2, 1), (3, 2)], [], [], [], [], []⟩
/-! laws.eqRxState -/
def c_laws_eqRxState : Ent := ctr (α := (RxS) × (RxS)) (ρ := (Bool)) [] [] (rs rRx (rs1 rRx)) (fun x_ => (fun (a : RxS) (b : RxS) => (a.join.got.length ≤ LIM)) x_.1 x_.2) (fun x_ r_ => (fun x_ => (fun (a : RxS) (b : RxS) => ((fun r_ => (fun (r : Bool) => (r = decide (a = b))) r_))) x_.1 x_.2) x_ r_) (fun r_ => (fun (r : Bool) => ([rB.to r])) r_) (fun r_ => (fun (r : Bool) => ([])) r_)
def V_laws_eqRxState : Env := ⟨tys, [(89, c_laws_eqSegJoin)], [], [(2, 0), (3, 1)], [], [], [], [], []⟩
/-! laws.szRxState -/
def c_laws_szRxState : Ent := ctr (α := (RxS) × (Int)) (ρ := (Int)) [] [] (rs rRx (rs1 rInt)) (fun x_ => (fun (t : RxS) (l : Int) => (t.join.got.length ≤ maxLen ∧ 0 ≤ l ∧ l ≤ 1048576)) x_.1 x_.2) (fun x_ r_ => (fun x_ => (fun (t : RxS) (l : Int) => ((fun r_ => (fun (r : Int) => ((r = l - t.join.got.length ∧ 0 ≤ r) ∨ r = -1)) r_))) x_.1 x_.2) x_ r_) (fun r_ => (fun (r : Int) => ([rInt.to r])) r_) (fun r_ => (fun (r : Int) => ([])) r_)
def V_laws_szRxState : Env := ⟨tys, [(80, c_laws_szSegJoin)], [], [(2, 0)], [], [], [], [], []⟩
def dCrC (t : CrS) : List AC := [.d (.i .i64 t.out), .d (.i .i64 t.join.len), .own ⟨5, .u8, t.join.got, ⟨none, false, 0, false⟩⟩, .d (.b t.dead)]
def dCr (t : CrS) : Arg := .v true (dCrC t)
def mkCrD : List AC → Option CrS
  | [.d (.i .i64 a0), .d (.i .i64 a1), .own ⟨e2, .u8, a2, ⟨none, false, 0, false⟩⟩, .d (.b a3)] => if e2 = 5 then some ⟨a0, ⟨a1, a2⟩, a3⟩ else none
  | _ => none
theorem mkCrD_cells {cs : List AC} {t : CrS} (h : mkCrD cs = some t) : cs = dCrC t := by
  unfold mkCrD at h
  split at h
  · split at h
    · rename_i he
      cases h
      obtain rfl := he
      rfl
    · simp at h
  · simp at h
def odCr : Arg → Option CrS
  | .v true cs => mkCrD cs
  | _ => none
def rDCr : Rep CrS where
  to t := .v true (dCrC t)
  of := odCr
  inv a x h _ := by
    unfold odCr at h
    split at h
    · rw [mkCrD_cells h]
    · simp at h

/-! laws.toCrdRx -/
def c_laws_toCrdRx : Ent := ctr (α := (CrS)) (ρ := (CrS)) [] [(0, 2)] (rs1 rCr) (fun x_ => (fun (t : CrS) => (t.join.got.length ≤ LIM)) x_) (fun x_ r_ => (fun x_ => (fun (t : CrS) => ((fun r_ => (fun (r : CrS) => (r = t)) r_))) x_) x_ r_) (fun r_ => (fun (r : CrS) => ([dCr r])) r_) (fun r_ => (fun (r : CrS) => ([])) r_)
def V_laws_toCrdRx : Env := ⟨tys, [(84, c_laws_toSegJoin)], [(9, [0])], [(1, 0), (2, 1), (3, 2)], [], [], [], [], []⟩
/-! laws.eqCrdRx -/
def c_laws_eqCrdRx : Ent := ctr (α := (CrS) × (CrS)) (ρ := (Bool)) [] [] (rs rCr (rs1 rCr)) (fun x_ => (fun (a : CrS) (b : CrS) => (a.join.got.length ≤ LIM)) x_.1 x_.2) (fun x_ r_ => (fun x_ => (fun (a : CrS) (b : CrS) => ((fun r_ => (fun (r : Bool) => (r = decide (a = b))) r_))) x_.1 x_.2) x_ r_) (fun r_ => (fun (r : Bool) => ([rB.to r])) r_) (fun r_ => (fun (r : Bool) => ([])) r_)
def V_laws_eqCrdRx : Env := ⟨tys, [(89, c_laws_eqSegJoin)], [], [(2, 0), (3, 1)], [], [], [], [], []⟩
/-! laws.szCrdRx -/
def c_laws_szCrdRx : Ent := ctr (α := (CrS) × (Int)) (ρ := (Int)) [] [] (rs rCr (rs1 rInt)) (fun x_ => (fun (t : CrS) (l : Int) => (t.join.got.length ≤ maxLen ∧ 0 ≤ l ∧ l ≤ 1048576)) x_.1 x_.2) (fun x_ r_ => (fun x_ => (fun (t : CrS) (l : Int) => ((fun r_ => (fun (r : Int) => ((r = l - t.join.got.length ∧ 0 ≤ r) ∨ r = -1)) r_))) x_.1 x_.2) x_ r_) (fun r_ => (fun (r : Int) => ([rInt.to r])) r_) (fun r_ => (fun (r : Int) => ([])) r_)
def V_laws_szCrdRx : Env := ⟨tys, [(80, c_laws_szSegJoin)], [], [(2, 0)], [], [], [], [], []⟩
end Go.Proofs.YtjjplncopjimdaaE

/- Calls answer what is promised: X3R. Conditions: none. -/
set_option linter.unusedVariables false
set_option maxHeartbeats 1600000
namespace Go.Proofs.YtjjplncopjimdaaE
open Go
theorem vF_laws_toSegJoin (j:JoinS) (K:List Arg→List (List AC)→Prop) (hp:j.got.length≤LIM) (hk:∀ (r:JoinS),(r=j)→K ([dJoin r]) ([])):(true=true)∧(((List.length j.got)≤(137438953472:Nat))∧(∀ r:(List Int),(r=j.got)→(true=true)∧((true=true)∧(K [(Arg.v true [(AC.d (D.i IntKind.i64 j.len)),(AC.own (RC.mk (5:Nat) RK.u8 r (RM.mk (dpM false (Option.none)) false (0:Nat) false)))])] [])))) := by
  repeat' first
    | exact rfl
    | exact True.intro
    | with_reducible apply And.intro
    | (with_reducible intro y_ hy_; subst hy_)
    | with_reducible intro y_
    | (refine iteI (fun h => ?_) (fun h => ?_))
  all_goals try simp only [Bool.not_eq_true', decide_eq_false_iff_not, decide_eq_true_eq, Bool.not_eq_true, bne_iff_ne, beq_iff_eq, ne_eq, Decidable.not_not, Bool.not_eq_false, gt_iff_lt, ge_iff_le, Int.not_le, Int.not_lt, beq_eq_false_iff_ne, bne_eq_false_iff_eq, Bool.and_eq_true, Bool.or_eq_true, Bool.true_eq_false, Bool.false_eq_true] at *
  all_goals try simp (disch := first | omega | grind []) only [wr] at *
  all_goals first
    | assumption
    | omega
    | exact hk _ rfl
    | exact hk _ (by grind [])
    | (simp only [LIM] at *; omega)
    | grind [LIM]
theorem w_laws_toSegJoin : Valid Try.prog 84 c_laws_toSegJoin :=
  valid_ctr2 (V := V_laws_toSegJoin) (tysB_ok tys_ok) ⟨(CallsL.cons w_laws_toByteS (CallsL.nil _)), (IosL.nil _)⟩ mixed 1 3 Try.func84 rfl (by kernel_rfl)
    (fun c hc => by
      obtain rfl := Option.some.inj hc
      exact ⟨trivial, ⟨trivial, ⟨trivial, ⟨trivial, ⟨trivial, trivial⟩⟩⟩⟩⟩)
    (fun x K hp hk => ⟨_, by kernel_rfl, vF_laws_toSegJoin x K hp (fun r h => hk r h)⟩)
theorem vF_laws_eqSegJoin (a:JoinS) (b:JoinS) (K:List Arg→List (List AC)→Prop) (hp:a.got.length≤LIM) (hk:∀ (r:Bool),(r=decide (a=b))→K ([rB.to r]) ([])):if ((a.len != b.len)=true) then ((true=true)∧(K [(aB false)] [])) else ((true=true)∧((((List.length a.got)≤(137438953472:Nat))∧True)∧(∀ r:Bool,(r=(decide (a.got=b.got)))→(true=true)∧(if ((!r)=true) then ((true=true)∧(K [(aB false)] [])) else ((true=true)∧(K [(aB true)] [])))))) := by
  obtain ⟨_, _⟩ := a
  obtain ⟨_, _⟩ := b

  repeat' first
    | exact rfl
    | exact True.intro
    | with_reducible apply And.intro
    | (with_reducible intro y_ hy_; subst hy_)
    | with_reducible intro y_
    | (refine iteI (fun h => ?_) (fun h => ?_))
  all_goals try simp only [Bool.not_eq_true', decide_eq_false_iff_not, decide_eq_true_eq, Bool.not_eq_true, bne_iff_ne, beq_iff_eq, ne_eq, Decidable.not_not, Bool.not_eq_false, gt_iff_lt, ge_iff_le, Int.not_le, Int.not_lt, beq_eq_false_iff_ne, bne_eq_false_iff_eq, Bool.and_eq_true, Bool.or_eq_true, Bool.true_eq_false, Bool.false_eq_true] at *
  all_goals try simp (disch := first | omega | grind []) only [wr] at *
  all_goals first
    | assumption
    | omega
    | exact hk _ (by grind [])
    | (simp only [LIM] at *; omega)
    | grind [LIM]
theorem w_laws_eqSegJoin : Valid Try.prog 89 c_laws_eqSegJoin :=
  valid_ctr2 (V := V_laws_eqSegJoin) (tysB_ok tys_ok) ⟨(CallsL.cons w_laws_eqByteS (CallsL.nil _)), (IosL.nil _)⟩ mixed 0 2 Try.func89 rfl (by kernel_rfl)
    (fun c hc => by
      obtain rfl := Option.some.inj hc
      exact ⟨trivial, ⟨⟨trivial, ⟨⟨trivial, trivial⟩, trivial⟩⟩, ⟨⟨trivial, ⟨⟨trivial, trivial⟩, trivial⟩⟩, ⟨trivial, trivial⟩⟩⟩⟩)
    (fun x K hp hk => ⟨_, by kernel_rfl, vF_laws_eqSegJoin x.1 x.2 K hp (fun r h => hk r h)⟩)
theorem vF_laws_szSegJoin (j:JoinS) (l:Int) (K:List Arg→List (List AC)→Prop) (hp:j.got.length≤maxLen∧0≤l∧l≤1048576) (hk:∀ (r:Int),((r=l - j.got.length∧0≤r)∨r=-1)→K ([rInt.to r]) ([])):(true=true)∧((((List.length j.got)≤(9223372036854775807:Nat))∧(((0:Int)≤l)∧(l≤(1048576:Int))))∧(∀ r:Int,(((r=(l - (((List.length j.got):Nat):Int)))∧((0:Int)≤r))∨((r=(-1:Int))∧(l < (((List.length j.got):Nat):Int))))→(true=true)∧(if ((decide (r < (0:Int)))=true) then ((true=true)∧(K [(aI IntKind.i64 (-1:Int))] [])) else ((true=true)∧(K [(aI IntKind.i64 r)] []))))) := by
  repeat' first
    | exact rfl
    | exact True.intro
    | with_reducible apply And.intro
    | (with_reducible intro y_ hy_; subst hy_)
    | with_reducible intro y_
    | (refine iteI (fun h => ?_) (fun h => ?_))
  all_goals try simp only [Bool.not_eq_true', decide_eq_false_iff_not, decide_eq_true_eq, Bool.not_eq_true, bne_iff_ne, beq_iff_eq, ne_eq, Decidable.not_not, Bool.not_eq_false, gt_iff_lt, ge_iff_le, Int.not_le, Int.not_lt, beq_eq_false_iff_ne, bne_eq_false_iff_eq, Bool.and_eq_true, Bool.or_eq_true, Bool.true_eq_false, Bool.false_eq_true] at *
  all_goals try simp (disch := first | omega | grind []) only [wr] at *
  all_goals first
    | assumption
    | omega
    | exact hp.1
    | exact hk _ (by grind [])
    | (simp only [LIM] at *; omega)
    | grind [LIM]
theorem w_laws_szSegJoin : Valid Try.prog 80 c_laws_szSegJoin :=
  valid_ctr2 (V := V_laws_szSegJoin) (tysB_ok tys_ok) ⟨(CallsL.cons w_laws_szByteS (CallsL.nil _)), (IosL.nil _)⟩ mixed 0 1 Try.func80 rfl (by kernel_rfl)
    (fun c hc => by
      obtain rfl := Option.some.inj hc
      exact ⟨trivial, ⟨trivial, ⟨⟨trivial, ⟨⟨trivial, trivial⟩, trivial⟩⟩, ⟨trivial, trivial⟩⟩⟩⟩)
    (fun x K hp hk => ⟨_, by kernel_rfl, vF_laws_szSegJoin x.1 x.2 K hp (fun r h => hk r h)⟩)
theorem vF_laws_toRxState (t:RxS) (K:List Arg→List (List AC)→Prop) (hp:t.join.got.length≤LIM) (hk:∀ (r:RxS),(r=t)→K ([dRx r]) ([])):(true=true)∧(((List.length t.join.got)≤(137438953472:Nat))∧(∀ r:JoinS,(r=t.join)→(true=true)∧((true=true)∧(K [(Arg.v true [(AC.d (D.i IntKind.i64 t.expect)),(AC.d (D.i IntKind.i64 t.count)),(AC.d (D.i IntKind.i64 r.len)),(AC.own (RC.mk (5:Nat) RK.u8 r.got (RM.mk (dpM false (Option.none)) false (0:Nat) false))),(AC.d (D.b t.again)),(AC.d (D.b t.busy)),(AC.d (D.b t.dead))])] [])))) := by
  repeat' first
    | exact rfl
    | exact True.intro
    | with_reducible apply And.intro
    | (with_reducible intro y_ hy_; subst hy_)
    | with_reducible intro y_
    | (refine iteI (fun h => ?_) (fun h => ?_))
  all_goals try simp only [Bool.not_eq_true', decide_eq_false_iff_not, decide_eq_true_eq, Bool.not_eq_true, bne_iff_ne, beq_iff_eq, ne_eq, Decidable.not_not, Bool.not_eq_false, gt_iff_lt, ge_iff_le, Int.not_le, Int.not_lt, beq_eq_false_iff_ne, bne_eq_false_iff_eq, Bool.and_eq_true, Bool.or_eq_true, Bool.true_eq_false, Bool.false_eq_true] at *
  all_goals try simp (disch := first | omega | grind []) only [wr] at *
  all_goals first
    | assumption
    | omega
    | exact hk _ rfl
    | exact hk _ (by grind [])
    | (simp only [LIM] at *; omega)
    | grind [LIM]
theorem w_laws_toRxState : Valid Try.prog 64 c_laws_toRxState :=
  valid_ctr2 (V := V_laws_toRxState) (tysB_ok tys_ok) ⟨(CallsL.cons w_laws_toSegJoin (CallsL.nil _)), (IosL.nil _)⟩ mixed 1 3 Try.func64 rfl (by kernel_rfl)
    (fun c hc => by
      obtain rfl := Option.some.inj hc
      exact ⟨trivial, ⟨trivial, ⟨trivial, ⟨trivial, ⟨trivial, ⟨trivial, ⟨trivial, ⟨trivial, ⟨trivial, trivial⟩⟩⟩⟩⟩⟩⟩⟩⟩)
    (fun x K hp hk => ⟨_, by kernel_rfl, vF_laws_toRxState x K hp (fun r h => hk r h)⟩)
theorem vF_laws_eqRxState (a:RxS) (b:RxS) (K:List Arg→List (List AC)→Prop) (hp:a.join.got.length≤LIM) (hk:∀ (r:Bool),(r=decide (a=b))→K ([rB.to r]) ([])):if ((a.expect != b.expect)=true) then ((true=true)∧(K [(aB false)] [])) else (if ((a.count != b.count)=true) then ((true=true)∧(K [(aB false)] [])) else ((true=true)∧(((List.length a.join.got)≤(137438953472:Nat))∧(∀ r:Bool,(r=(decide (a.join=b.join)))→(true=true)∧(if ((!r)=true) then ((true=true)∧(K [(aB false)] [])) else (if ((a.again != b.again)=true) then ((true=true)∧(K [(aB false)] [])) else (if ((a.busy != b.busy)=true) then ((true=true)∧(K [(aB false)] [])) else (if ((a.dead != b.dead)=true) then ((true=true)∧(K [(aB false)] [])) else ((true=true)∧(K [(aB true)] [])))))))))) := by
  obtain ⟨_, _, ⟨_, _⟩, _, _, _⟩ := a
  obtain ⟨_, _, ⟨_, _⟩, _, _, _⟩ := b

  repeat' first
    | exact rfl
    | exact True.intro
    | with_reducible apply And.intro
    | (with_reducible intro y_ hy_; subst hy_)
    | with_reducible intro y_
    | (refine iteI (fun h => ?_) (fun h => ?_))
  all_goals try simp only [Bool.not_eq_true', decide_eq_false_iff_not, decide_eq_true_eq, Bool.not_eq_true, bne_iff_ne, beq_iff_eq, ne_eq, Decidable.not_not, Bool.not_eq_false, gt_iff_lt, ge_iff_le, Int.not_le, Int.not_lt, beq_eq_false_iff_ne, bne_eq_false_iff_eq, Bool.and_eq_true, Bool.or_eq_true, Bool.true_eq_false, Bool.false_eq_true] at *
  all_goals try simp (disch := first | omega | grind []) only [wr] at *
  all_goals first
    | assumption
    | omega
    | exact hk _ (by grind [])
    | (simp only [LIM] at *; omega)
    | grind [LIM]
theorem w_laws_eqRxState : Valid Try.prog 74 c_laws_eqRxState :=
  valid_ctr2 (V := V_laws_eqRxState) (tysB_ok tys_ok) ⟨(CallsL.cons w_laws_eqSegJoin (CallsL.nil _)), (IosL.nil _)⟩ mixed 0 2 Try.func74 rfl (by kernel_rfl)
    (fun c hc => by
      obtain rfl := Option.some.inj hc
      exact ⟨trivial, ⟨⟨trivial, ⟨⟨trivial, trivial⟩, trivial⟩⟩, ⟨⟨trivial, ⟨⟨trivial, trivial⟩, trivial⟩⟩, ⟨⟨trivial, ⟨⟨trivial, trivial⟩, trivial⟩⟩, ⟨⟨trivial, ⟨⟨trivial, trivial⟩, trivial⟩⟩, ⟨⟨trivial, ⟨⟨trivial, trivial⟩, trivial⟩⟩, ⟨⟨trivial, ⟨⟨trivial, trivial⟩, trivial⟩⟩, ⟨trivial, trivial⟩⟩⟩⟩⟩⟩⟩⟩)
    (fun x K hp hk => ⟨_, by kernel_rfl, vF_laws_eqRxState x.1 x.2 K hp (fun r h => hk r h)⟩)
theorem vF_laws_szRxState (t:RxS) (l:Int) (K:List Arg→List (List AC)→Prop) (hp:t.join.got.length≤maxLen∧0≤l∧l≤1048576) (hk:∀ (r:Int),((r=l - t.join.got.length∧0≤r)∨r=-1)→K ([rInt.to r]) ([])):(true=true)∧((((List.length t.join.got)≤(9223372036854775807:Nat))∧(((0:Int)≤l)∧(l≤(1048576:Int))))∧(∀ r:Int,(((r=(l - (((List.length t.join.got):Nat):Int)))∧((0:Int)≤r))∨(r=(-1:Int)))→(true=true)∧(if ((decide (r < (0:Int)))=true) then ((true=true)∧(K [(aI IntKind.i64 (-1:Int))] [])) else ((true=true)∧(K [(aI IntKind.i64 r)] []))))) := by
  repeat' first
    | exact rfl
    | exact True.intro
    | with_reducible apply And.intro
    | (with_reducible intro y_ hy_; subst hy_)
    | with_reducible intro y_
    | (refine iteI (fun h => ?_) (fun h => ?_))
  all_goals try simp only [Bool.not_eq_true', decide_eq_false_iff_not, decide_eq_true_eq, Bool.not_eq_true, bne_iff_ne, beq_iff_eq, ne_eq, Decidable.not_not, Bool.not_eq_false, gt_iff_lt, ge_iff_le, Int.not_le, Int.not_lt, beq_eq_false_iff_ne, bne_eq_false_iff_eq, Bool.and_eq_true, Bool.or_eq_true, Bool.true_eq_false, Bool.false_eq_true] at *
  all_goals try simp (disch := first | omega | grind []) only [wr] at *
  all_goals first
    | assumption
    | omega
    | exact hp.1
    | exact hk _ (by grind [])
    | (simp only [LIM] at *; omega)
    | grind [LIM]
theorem w_laws_szRxState : Valid Try.prog 54 c_laws_szRxState :=
  valid_ctr2 (V := V_laws_szRxState) (tysB_ok tys_ok) ⟨(CallsL.cons w_laws_szSegJoin (CallsL.nil _)), (IosL.nil _)⟩ mixed 0 1 Try.func54 rfl (by kernel_rfl)
    (fun c hc => by
      obtain rfl := Option.some.inj hc
      exact ⟨trivial, ⟨trivial, ⟨⟨trivial, ⟨⟨trivial, trivial⟩, trivial⟩⟩, ⟨trivial, trivial⟩⟩⟩⟩)
    (fun x K hp hk => ⟨_, by kernel_rfl, vF_laws_szRxState x.1 x.2 K hp (fun r h => hk r h)⟩)
theorem vF_laws_toCrdRx (t:CrS) (K:List Arg→List (List AC)→Prop) (hp:t.join.got.length≤LIM) (hk:∀ (r:CrS),(r=t)→K ([dCr r]) ([])):(true=true)∧(((List.length t.join.got)≤(137438953472:Nat))∧(∀ r:JoinS,(r=t.join)→(true=true)∧((true=true)∧(K [(Arg.v true [(AC.d (D.i IntKind.i64 t.out)),(AC.d (D.i IntKind.i64 r.len)),(AC.own (RC.mk (5:Nat) RK.u8 r.got (RM.mk (dpM false (Option.none)) false (0:Nat) false))),(AC.d (D.b t.dead))])] [])))) := by
  repeat' first
    | exact rfl
    | exact True.intro
    | with_reducible apply And.intro
    | (with_reducible intro y_ hy_; subst hy_)
    | with_reducible intro y_
    | (refine iteI (fun h => ?_) (fun h => ?_))
  all_goals try simp only [Bool.not_eq_true', decide_eq_false_iff_not, decide_eq_true_eq, Bool.not_eq_true, bne_iff_ne, beq_iff_eq, ne_eq, Decidable.not_not, Bool.not_eq_false, gt_iff_lt, ge_iff_le, Int.not_le, Int.not_lt, beq_eq_false_iff_ne, bne_eq_false_iff_eq, Bool.and_eq_true, Bool.or_eq_true, Bool.true_eq_false, Bool.false_eq_true] at *
  all_goals try simp (disch := first | omega | grind []) only [wr] at *
  all_goals first
    | assumption
    | omega
    | exact hk _ rfl
    | exact hk _ (by grind [])
    | (simp only [LIM] at *; omega)
    | grind [LIM]
theorem w_laws_toCrdRx : Valid Try.prog 66 c_laws_toCrdRx :=
  valid_ctr2 (V := V_laws_toCrdRx) (tysB_ok tys_ok) ⟨(CallsL.cons w_laws_toSegJoin (CallsL.nil _)), (IosL.nil _)⟩ mixed 1 3 Try.func66 rfl (by kernel_rfl)
    (fun c hc => by
      obtain rfl := Option.some.inj hc
      exact ⟨trivial, ⟨trivial, ⟨trivial, ⟨trivial, ⟨trivial, ⟨trivial, trivial⟩⟩⟩⟩⟩⟩)
    (fun x K hp hk => ⟨_, by kernel_rfl, vF_laws_toCrdRx x K hp (fun r h => hk r h)⟩)
theorem vF_laws_eqCrdRx (a:CrS) (b:CrS) (K:List Arg→List (List AC)→Prop) (hp:a.join.got.length≤LIM) (hk:∀ (r:Bool),(r=decide (a=b))→K ([rB.to r]) ([])):if ((a.out != b.out)=true) then ((true=true)∧(K [(aB false)] [])) else ((true=true)∧(((List.length a.join.got)≤(137438953472:Nat))∧(∀ r:Bool,(r=(decide (a.join=b.join)))→(true=true)∧(if ((!r)=true) then ((true=true)∧(K [(aB false)] [])) else (if ((a.dead != b.dead)=true) then ((true=true)∧(K [(aB false)] [])) else ((true=true)∧(K [(aB true)] []))))))) := by
  obtain ⟨_, ⟨_, _⟩, _⟩ := a
  obtain ⟨_, ⟨_, _⟩, _⟩ := b

  repeat' first
    | exact rfl
    | exact True.intro
    | with_reducible apply And.intro
    | (with_reducible intro y_ hy_; subst hy_)
    | with_reducible intro y_
    | (refine iteI (fun h => ?_) (fun h => ?_))
  all_goals try simp only [Bool.not_eq_true', decide_eq_false_iff_not, decide_eq_true_eq, Bool.not_eq_true, bne_iff_ne, beq_iff_eq, ne_eq, Decidable.not_not, Bool.not_eq_false, gt_iff_lt, ge_iff_le, Int.not_le, Int.not_lt, beq_eq_false_iff_ne, bne_eq_false_iff_eq, Bool.and_eq_true, Bool.or_eq_true, Bool.true_eq_false, Bool.false_eq_true] at *
  all_goals try simp (disch := first | omega | grind []) only [wr] at *
  all_goals first
    | assumption
    | omega
    | exact hk _ (by grind [])
    | (simp only [LIM] at *; omega)
    | grind [LIM]
theorem w_laws_eqCrdRx : Valid Try.prog 76 c_laws_eqCrdRx :=
  valid_ctr2 (V := V_laws_eqCrdRx) (tysB_ok tys_ok) ⟨(CallsL.cons w_laws_eqSegJoin (CallsL.nil _)), (IosL.nil _)⟩ mixed 0 2 Try.func76 rfl (by kernel_rfl)
    (fun c hc => by
      obtain rfl := Option.some.inj hc
      exact ⟨trivial, ⟨⟨trivial, ⟨⟨trivial, trivial⟩, trivial⟩⟩, ⟨⟨trivial, ⟨⟨trivial, trivial⟩, trivial⟩⟩, ⟨⟨trivial, ⟨⟨trivial, trivial⟩, trivial⟩⟩, ⟨trivial, trivial⟩⟩⟩⟩⟩)
    (fun x K hp hk => ⟨_, by kernel_rfl, vF_laws_eqCrdRx x.1 x.2 K hp (fun r h => hk r h)⟩)
theorem vF_laws_szCrdRx (t:CrS) (l:Int) (K:List Arg→List (List AC)→Prop) (hp:t.join.got.length≤maxLen∧0≤l∧l≤1048576) (hk:∀ (r:Int),((r=l - t.join.got.length∧0≤r)∨r=-1)→K ([rInt.to r]) ([])):(true=true)∧((((List.length t.join.got)≤(9223372036854775807:Nat))∧(((0:Int)≤l)∧(l≤(1048576:Int))))∧(∀ r:Int,(((r=(l - (((List.length t.join.got):Nat):Int)))∧((0:Int)≤r))∨(r=(-1:Int)))→(true=true)∧(if ((decide (r < (0:Int)))=true) then ((true=true)∧(K [(aI IntKind.i64 (-1:Int))] [])) else ((true=true)∧(K [(aI IntKind.i64 r)] []))))) := by
  repeat' first
    | exact rfl
    | exact True.intro
    | with_reducible apply And.intro
    | (with_reducible intro y_ hy_; subst hy_)
    | with_reducible intro y_
    | (refine iteI (fun h => ?_) (fun h => ?_))
  all_goals try simp only [Bool.not_eq_true', decide_eq_false_iff_not, decide_eq_true_eq, Bool.not_eq_true, bne_iff_ne, beq_iff_eq, ne_eq, Decidable.not_not, Bool.not_eq_false, gt_iff_lt, ge_iff_le, Int.not_le, Int.not_lt, beq_eq_false_iff_ne, bne_eq_false_iff_eq, Bool.and_eq_true, Bool.or_eq_true, Bool.true_eq_false, Bool.false_eq_true] at *
  all_goals try simp (disch := first | omega | grind []) only [wr] at *
  all_goals first
    | assumption
    | omega
    | exact hp.1
    | exact hk _ (by grind [])
    | (simp only [LIM] at *; omega)
    | grind [LIM]
theorem w_laws_szCrdRx : Valid Try.prog 56 c_laws_szCrdRx :=
  valid_ctr2 (V := V_laws_szCrdRx) (tysB_ok tys_ok) ⟨(CallsL.cons w_laws_szSegJoin (CallsL.nil _)), (IosL.nil _)⟩ mixed 0 1 Try.func56 rfl (by kernel_rfl)
    (fun c hc => by
      obtain rfl := Option.some.inj hc
      exact ⟨trivial, ⟨trivial, ⟨⟨trivial, ⟨⟨trivial, trivial⟩, trivial⟩⟩, ⟨trivial, trivial⟩⟩⟩⟩)
    (fun x K hp hk => ⟨_, by kernel_rfl, vF_laws_szCrdRx x.1 x.2 K hp (fun r h => hk r h)⟩)
end Go.Proofs.YtjjplncopjimdaaE
