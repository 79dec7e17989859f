/- A part of the proof of laws of the program: what calls of the program answer. Conditions: none. -/
import Derived.Test.YtjladmhjpikdhaaM8f09b756
set_option linter.unusedVariables false
set_option linter.unusedSimpArgs false
set_option linter.unusedSectionVars false
/- Contracts: G. Conditions: none. -/
set_option linter.unusedVariables false
set_option maxHeartbeats 1600000
namespace Go.Proofs.YtjladmhjpikdhaaE
open Go
/-! impl.PartOk -/
def c_impl_PartOk : Ent := ctr (α := (Part)) (ρ := (Bool)) [] [] (rs1 rPart) (fun x_ => (fun (p : Part) => (True)) x_) (fun x_ r_ => (fun x_ => (fun (p : Part) => ((fun r_ => (fun (v : Bool) => (v = decide (PartP p))) r_))) x_) x_ r_) (fun r_ => (fun (v : Bool) => ([rB.to v])) r_) (fun r_ => (fun (v : Bool) => ([])) r_)
def V_impl_PartOk : Env := ⟨tys, [(64, c_impl_pieceOk)], [], [(1, 0)], [], [], [], [], []⟩
/-! impl.JoinOk -/
def c_impl_JoinOk : Ent := ctr (α := (JoinS)) (ρ := (Bool)) [] [] (rs1 rJoin) (fun x_ => (fun (j : JoinS) => (True)) x_) (fun x_ r_ => (fun x_ => (fun (j : JoinS) => ((fun r_ => (fun (v : Bool) => (v = decide (JoinP j))) r_))) x_) x_ r_) (fun r_ => (fun (v : Bool) => ([rB.to v])) r_) (fun r_ => (fun (v : Bool) => ([])) r_)
def V_impl_JoinOk : Env := ⟨tys, [(65, c_impl_in)], [], [(1, 0)], [], [], [500006, 500012, 500016], [], []⟩
/-! spec.JoinOk -/
def c_spec_JoinOk : Ent := ctr (α := (JoinS)) (ρ := (Bool)) [] [] (rs1 rJoin) (fun x_ => (fun (j : JoinS) => (True)) x_) (fun x_ r_ => (fun x_ => (fun (j : JoinS) => ((fun r_ => (fun (v : Bool) => (v = decide (JoinP j))) r_))) x_) x_ r_) (fun r_ => (fun (v : Bool) => ([rB.to v])) r_) (fun r_ => (fun (v : Bool) => ([])) r_)
def V_spec_JoinOk : Env := ⟨tys, [(59, c_spec_l1In)], [], [(1, 0)], [], [], [500006, 500012, 500016], [], []⟩
/-! impl.far -/
def c_impl_far : Ent := ctr (α := (Int) × (Int)) (ρ := (Int)) [] [] (rs rInt (rs1 rInt)) (fun x_ => (fun (a : Int) (b : Int) => (0 ≤ a ∧ a ≤ 7 ∧ 0 ≤ b ∧ b ≤ 7)) x_.1 x_.2) (fun x_ r_ => (fun x_ => (fun (a : Int) (b : Int) => ((fun r_ => (fun (x : Int) => (x = (b - a + 8) % 8)) r_))) x_.1 x_.2) x_ r_) (fun r_ => (fun (x : Int) => ([rInt.to x])) r_) (fun r_ => (fun (x : Int) => ([])) r_)
def V_impl_far : Env := ⟨tys, [], [], [], [], [], [], [], []⟩
/-! impl.NumFar -/
def c_impl_NumFar : Ent := ctr (α := (Int) × (Int)) (ρ := (Int)) [] [] (rs rInt (rs1 rInt)) (fun x_ => (fun (a : Int) (b : Int) => (True)) x_.1 x_.2) (fun x_ r_ => (fun x_ => (fun (a : Int) (b : Int) => ((fun r_ => (fun (x : Int) => (x = if 0 ≤ a ∧ a ≤ 7 ∧ 0 ≤ b ∧ b ≤ 7 then (b - a + 8) % 8 else -1)) r_))) x_.1 x_.2) x_ r_) (fun r_ => (fun (x : Int) => ([rInt.to x])) r_) (fun r_ => (fun (x : Int) => ([])) r_)
def V_impl_NumFar : Env := ⟨tys, [(63, c_impl_isNumber), (88, c_impl_far)], [], [], [], [], [500008], [], []⟩
/-! spec.NumFar -/
def c_spec_NumFar : Ent := ctr (α := (Int) × (Int)) (ρ := (Int)) [] [] (rs rInt (rs1 rInt)) (fun x_ => (fun (a : Int) (b : Int) => (True)) x_.1 x_.2) (fun x_ r_ => (fun x_ => (fun (a : Int) (b : Int) => ((fun r_ => (fun (x : Int) => (x = if 0 ≤ a ∧ a ≤ 7 ∧ 0 ≤ b ∧ b ≤ 7 then (b - a + 8) % 8 else -1)) r_))) x_.1 x_.2) x_ r_) (fun r_ => (fun (x : Int) => ([rInt.to x])) r_) (fun r_ => (fun (x : Int) => ([])) r_)
def V_spec_NumFar : Env := ⟨tys, [(59, c_spec_l1In)], [], [], [], [], [500008], [], []⟩
/-! impl.NumNext -/
def c_impl_NumNext : Ent := ctr (α := (Int)) (ρ := (Int)) [] [] (rs1 rInt) (fun x_ => (fun (n : Int) => (0 ≤ n ∧ n ≤ 100000)) x_) (fun x_ r_ => (fun x_ => (fun (n : Int) => ((fun r_ => (fun (x : Int) => (x = (n + 1) % 8)) r_))) x_) x_ r_) (fun r_ => (fun (x : Int) => ([rInt.to x])) r_) (fun r_ => (fun (x : Int) => ([])) r_)
def V_impl_NumNext : Env := ⟨tys, [], [], [], [], [], [], [], []⟩
/-! impl.NumOf -/
def c_impl_NumOf : Ent := ctr (α := (Int)) (ρ := (Int)) [] [] (rs1 rInt) (fun x_ => (fun (n : Int) => (True)) x_) (fun x_ r_ => (fun x_ => (fun (n : Int) => ((fun r_ => (fun (x : Int) => (x = if n < 0 then -1 else n % 8)) r_))) x_) x_ r_) (fun r_ => (fun (x : Int) => ([rInt.to x])) r_) (fun r_ => (fun (x : Int) => ([])) r_)
def V_impl_NumOf : Env := ⟨tys, [], [], [], [], [], [], [], []⟩
/-! spec.NumNext -/
def c_spec_NumNext : Ent := ctr (α := (Int)) (ρ := (Int)) [] [] (rs1 rInt) (fun x_ => (fun (n : Int) => (0 ≤ n ∧ n ≤ 100000)) x_) (fun x_ r_ => (fun x_ => (fun (n : Int) => ((fun r_ => (fun (x : Int) => (x = (n + 1) % 8)) r_))) x_) x_ r_) (fun r_ => (fun (x : Int) => ([rInt.to x])) r_) (fun r_ => (fun (x : Int) => ([])) r_)
def V_spec_NumNext : Env := ⟨tys, [], [], [], [], [], [], [], []⟩
/-! spec.NumOf -/
def c_spec_NumOf : Ent := ctr (α := (Int)) (ρ := (Int)) [] [] (rs1 rInt) (fun x_ => (fun (n : Int) => (True)) x_) (fun x_ r_ => (fun x_ => (fun (n : Int) => ((fun r_ => (fun (x : Int) => (x = if n < 0 then -1 else n % 8)) r_))) x_) x_ r_) (fun r_ => (fun (x : Int) => ([rInt.to x])) r_) (fun r_ => (fun (x : Int) => ([])) r_)
def V_spec_NumOf : Env := ⟨tys, [], [], [], [], [], [], [], []⟩
/-! impl.goOrWait -/
def c_impl_goOrWait : Ent := ctr (α := (Bool)) (ρ := (Int)) [] [] (rs1 rB) (fun x_ => (fun (b : Bool) => (True)) x_) (fun x_ r_ => (fun x_ => (fun (b : Bool) => ((fun r_ => (fun (x : Int) => (x = goWait b)) r_))) x_) x_ r_) (fun r_ => (fun (x : Int) => ([rInt.to x])) r_) (fun r_ => (fun (x : Int) => ([])) r_)
def V_impl_goOrWait : Env := ⟨tys, [], [], [], [], [], [], [], []⟩
/-! impl.RxOk -/
def c_impl_RxOk : Ent := ctr (α := (RxS)) (ρ := (Bool)) [] [] (rs1 rRx) (fun x_ => (fun (r : RxS) => (True)) x_) (fun x_ r_ => (fun x_ => (fun (r : RxS) => ((fun r_ => (fun (v : Bool) => (v = decide (RxP r))) r_))) x_) x_ r_) (fun r_ => (fun (v : Bool) => ([rB.to v])) r_) (fun r_ => (fun (v : Bool) => ([])) r_)
def V_impl_RxOk : Env := ⟨tys, [(63, c_impl_isNumber), (65, c_impl_in), (70, c_impl_NumOf), (71, c_impl_JoinOk)], [], [(1, 0)], [], [], [500006, 500011, 500019], [], [(1, [(0, false), (1, false), (2, true), (3, false), (4, false), (5, false), (6, true), (7, false), (8, false), (9, false), (10, false), (12, false), (13, false), (11, true), (14, false), (15, false), (16, false), (17, false), (18, false), (19, true), (20, false), (21, false)])]⟩
/-! spec.RxOk -/
def c_spec_RxOk : Ent := ctr (α := (RxS)) (ρ := (Bool)) [] [] (rs1 rRx) (fun x_ => (fun (r : RxS) => (True)) x_) (fun x_ r_ => (fun x_ => (fun (r : RxS) => ((fun r_ => (fun (v : Bool) => (v = decide (RxP r))) r_))) x_) x_ r_) (fun r_ => (fun (v : Bool) => ([rB.to v])) r_) (fun r_ => (fun (v : Bool) => ([])) r_)
def V_spec_RxOk : Env := ⟨tys, [(59, c_spec_l1In), (60, c_spec_NumOf), (61, c_spec_JoinOk)], [], [(1, 0)], [], [], [500006, 500011, 500019], [], [(1, [(0, false), (1, false), (2, true), (3, false), (4, false), (5, false), (6, true), (7, false), (8, false), (9, false), (10, false), (12, false), (13, false), (11, true), (14, false), (15, false), (16, false), (17, false), (18, false), (19, true), (20, false), (21, false)])]⟩
/-! (impl.RxState).say -/
def c_impl_RxState_say : Ent := ctr (α := (RxS) × (Int) × (Bool)) (ρ := (Frm)) [] [] (rs rRx (rs rInt (rs1 rB))) (fun x_ => (fun (r : RxS) (w : Int) (f : Bool) => (True)) x_.1 x_.2.1 x_.2.2) (fun x_ r_ => (fun x_ => (fun (r : RxS) (w : Int) (f : Bool) => ((fun r_ => (fun (g : Frm) => (g = sayF r w f)) r_))) x_.1 x_.2.1 x_.2.2) x_ r_) (fun r_ => (fun (g : Frm) => ([rFrm.to g])) r_) (fun r_ => (fun (g : Frm) => ([])) r_)
def V_impl_RxState_say : Env := ⟨tys, [], [], [(3, 0), (6, 1)], [], [], [], [], []⟩
/-! spec.l7Say -/
def c_spec_l7Say : Ent := ctr (α := (RxS) × (Bool)) (ρ := (Frm)) [] [] (rs rRx (rs1 rB)) (fun x_ => (fun (r : RxS) (f : Bool) => (True)) x_.1 x_.2) (fun x_ r_ => (fun x_ => (fun (r : RxS) (f : Bool) => ((fun r_ => (fun (g : Frm) => (g = sayF r (goWait r.busy) f)) r_))) x_.1 x_.2) x_ r_) (fun r_ => (fun (g : Frm) => ([rFrm.to g])) r_) (fun r_ => (fun (g : Frm) => ([])) r_)
def V_spec_l7Say : Env := ⟨tys, [], [], [(2, 0), (4, 1), (5, 2)], [], [], [], [], []⟩
end Go.Proofs.YtjladmhjpikdhaaE

/- Calls answer what is promised: G. Conditions: none. -/
set_option linter.unusedVariables false
set_option maxHeartbeats 1600000
namespace Go.Proofs.YtjladmhjpikdhaaE
open Go
theorem vF_impl_PartOk (p:Part) (K:List Arg→List (List AC)→Prop) (hp:True) (hk:∀ (v:Bool),(v=decide (PartP p))→K ([rB.to v]) ([])):(true=true)∧(True∧(∀ r:Bool,(r=(decide (SegP p.seg p.len (((List.length p.data):Nat):Int))))→(true=true)∧((true=true)∧(K [(aB r)] [])))) := by
  repeat' first
    | exact rfl
    | trivial
    | apply And.intro
    | (intro r hr; subst hr)
    | intro r
    | exact hp
    | (refine iteI (fun h => ?_) (fun h => ?_))
  all_goals first
    | exact hk _ (by grind [PartP, SegP, IntKind.wrap_i64])
    | omega
    | grind [PartP, SegP, IntKind.wrap_i64]
theorem w_impl_PartOk : Valid Try.prog 89 c_impl_PartOk :=
  valid_ctr2 (V := V_impl_PartOk) (tysB_ok tys_ok) ⟨(CallsL.cons w_impl_pieceOk (CallsL.nil _)), (IosL.nil _)⟩ mixed 0 1 Try.func89 rfl (by kernel_rfl)
    (fun c hc => by
      obtain rfl := Option.some.inj hc
      exact ⟨trivial, ⟨trivial, trivial⟩⟩)
    (fun x K hp hk => ⟨_, by kernel_rfl, vF_impl_PartOk x K hp (fun v h => hk v h)⟩)
theorem vF_impl_JoinOk (j:JoinS) (K:List Arg→List (List AC)→Prop) (hp:True) (hk:∀ (v:Bool),(v=decide (JoinP j))→K ([rB.to v]) ([])):if ((j.len == (0:Int))=true) then (if (((((List.length j.got):Nat):Int) == (0:Int))=true) then ((true=true)∧(K [(aB true)] [])) else ((true=true)∧(True∧(∀ r:Bool,(r=(decide (((2:Int)≤j.len)∧(j.len≤(24:Int)))))→(true=true)∧(if (r=true) then ((true=true)∧(True∧(∀ r1:Bool,(r1=(decide (((1:Int)≤(((List.length j.got):Nat):Int))∧((((List.length j.got):Nat):Int)≤(IntKind.wrap IntKind.i64 (j.len - (1:Int)))))))→(true=true)∧((true=true)∧(K [(aB r1)] []))))) else ((true=true)∧(K [(aB false)] []))))))) else ((true=true)∧(True∧(∀ r:Bool,(r=(decide (((2:Int)≤j.len)∧(j.len≤(24:Int)))))→(true=true)∧(if (r=true) then ((true=true)∧(True∧(∀ r1:Bool,(r1=(decide (((1:Int)≤(((List.length j.got):Nat):Int))∧((((List.length j.got):Nat):Int)≤(IntKind.wrap IntKind.i64 (j.len - (1:Int)))))))→(true=true)∧((true=true)∧(K [(aB r1)] []))))) else ((true=true)∧(K [(aB false)] [])))))) := by
  repeat' first
    | exact rfl
    | trivial
    | apply And.intro
    | (intro r hr; subst hr)
    | intro r
    | exact hp
    | (refine iteI (fun h => ?_) (fun h => ?_))
  all_goals first
    | exact hk _ (by grind [JoinP, IntKind.wrap_i64])
    | omega
    | grind [JoinP, IntKind.wrap_i64]
theorem w_impl_JoinOk : Valid Try.prog 71 c_impl_JoinOk :=
  valid_ctr2 (V := V_impl_JoinOk) (tysB_ok tys_ok) ⟨(CallsL.cons w_impl_in (CallsL.nil _)), (IosL.nil _)⟩ mixed 0 1 Try.func71 rfl (by kernel_rfl)
    (fun c hc => by
      obtain rfl := Option.some.inj hc
      exact ⟨trivial, ⟨trivial, trivial⟩⟩)
    (fun x K hp hk => ⟨_, by kernel_rfl, vF_impl_JoinOk x K hp (fun v h => hk v h)⟩)
theorem vF_spec_JoinOk (j:JoinS) (K:List Arg→List (List AC)→Prop) (hp:True) (hk:∀ (v:Bool),(v=decide (JoinP j))→K ([rB.to v]) ([])):if ((j.len == (0:Int))=true) then (if (((((List.length j.got):Nat):Int) == (0:Int))=true) then ((true=true)∧(K [(aB true)] [])) else ((true=true)∧(True∧(∀ r:Bool,(r=(decide (((2:Int)≤j.len)∧(j.len≤(24:Int)))))→(true=true)∧(if (r=true) then ((true=true)∧(True∧(∀ r1:Bool,(r1=(decide (((1:Int)≤(((List.length j.got):Nat):Int))∧((((List.length j.got):Nat):Int)≤(IntKind.wrap IntKind.i64 (j.len - (1:Int)))))))→(true=true)∧((true=true)∧(K [(aB r1)] []))))) else ((true=true)∧(K [(aB false)] []))))))) else ((true=true)∧(True∧(∀ r:Bool,(r=(decide (((2:Int)≤j.len)∧(j.len≤(24:Int)))))→(true=true)∧(if (r=true) then ((true=true)∧(True∧(∀ r1:Bool,(r1=(decide (((1:Int)≤(((List.length j.got):Nat):Int))∧((((List.length j.got):Nat):Int)≤(IntKind.wrap IntKind.i64 (j.len - (1:Int)))))))→(true=true)∧((true=true)∧(K [(aB r1)] []))))) else ((true=true)∧(K [(aB false)] [])))))) := by
  repeat' first
    | exact rfl
    | trivial
    | apply And.intro
    | (intro r hr; subst hr)
    | intro r
    | exact hp
    | (refine iteI (fun h => ?_) (fun h => ?_))
  all_goals first
    | exact hk _ (by grind [JoinP, IntKind.wrap_i64])
    | omega
    | grind [JoinP, IntKind.wrap_i64]
theorem w_spec_JoinOk : Valid Try.prog 61 c_spec_JoinOk :=
  valid_ctr2 (V := V_spec_JoinOk) (tysB_ok tys_ok) ⟨(CallsL.cons w_spec_l1In (CallsL.nil _)), (IosL.nil _)⟩ mixed 0 1 Try.func61 rfl (by kernel_rfl)
    (fun c hc => by
      obtain rfl := Option.some.inj hc
      exact ⟨trivial, ⟨trivial, trivial⟩⟩)
    (fun x K hp hk => ⟨_, by kernel_rfl, vF_spec_JoinOk x K hp (fun v h => hk v h)⟩)
theorem vF_impl_far (a:Int) (b:Int) (K:List Arg→List (List AC)→Prop) (hp:0≤a∧a≤7∧0≤b∧b≤7) (hk:∀ (x:Int),(x=(b - a + 8) % 8)→K ([rInt.to x]) ([])):((8:Int) ≠ (0:Int))∧((true=true)∧(K [(aI IntKind.i64 (Int.tmod (IntKind.wrap IntKind.i64 ((IntKind.wrap IntKind.i64 (b - a)) + (8:Int))) (8:Int)))] [])) := by
  refine ⟨by decide, by trivial, hk _ ?_⟩
  rw [wr (x := b - a) (by omega) (by omega), wr (by omega) (by omega), Int.tmod_eq_emod_of_nonneg (by omega)]
theorem w_impl_far : Valid Try.prog 88 c_impl_far :=
  valid_ctr2 (V := V_impl_far) (tysB_ok tys_ok) ⟨(CallsL.nil _), (IosL.nil _)⟩ mixed 0 0 Try.func88 rfl (by kernel_rfl)
    (fun c hc => by
      obtain rfl := Option.some.inj hc
      exact ⟨trivial, ⟨trivial, trivial⟩⟩)
    (fun x K hp hk => ⟨_, by kernel_rfl, vF_impl_far x.1 x.2 K hp (fun x h => hk x h)⟩)
theorem vF_impl_NumFar (a:Int) (b:Int) (K:List Arg→List (List AC)→Prop) (hp:True) (hk:∀ (x:Int),(x=if 0≤a∧a≤7∧0≤b∧b≤7 then (b - a + 8) % 8 else -1)→K ([rInt.to x]) ([])):(true=true)∧(True∧(∀ r:Bool,(r=(decide (((0:Int)≤a)∧(a≤(7:Int)))))→(true=true)∧(if ((!r)=true) then ((true=true)∧(K [(aI IntKind.i64 (-1:Int))] [])) else ((true=true)∧(True∧(∀ r1:Bool,(r1=(decide (((0:Int)≤b)∧(b≤(7:Int)))))→(true=true)∧(if ((!r1)=true) then ((true=true)∧(K [(aI IntKind.i64 (-1:Int))] [])) else ((true=true)∧((((0:Int)≤a)∧((a≤(7:Int))∧(((0:Int)≤b)∧(b≤(7:Int)))))∧(∀ r2:Int,(r2=(((b - a) + (8:Int)) % (8:Int)))→(true=true)∧((true=true)∧(K [(aI IntKind.i64 r2)] [])))))))))))) := by
  repeat' first
    | exact rfl
    | trivial
    | apply And.intro
    | (intro r hr; subst hr)
    | intro r
    | exact hp
    | (refine iteI (fun h => ?_) (fun h => ?_))
  all_goals first
    | exact hk _ (by grind [Int.tmod_eq_emod_of_nonneg, IntKind.wrap_i64])
    | omega
    | grind [Int.tmod_eq_emod_of_nonneg, IntKind.wrap_i64]
theorem w_impl_NumFar : Valid Try.prog 50 c_impl_NumFar :=
  valid_ctr2 (V := V_impl_NumFar) (tysB_ok tys_ok) ⟨(CallsL.cons w_impl_isNumber (CallsL.cons w_impl_far (CallsL.nil _))), (IosL.nil _)⟩ mixed 0 0 Try.func50 rfl (by kernel_rfl)
    (fun c hc => by
      obtain rfl := Option.some.inj hc
      exact ⟨trivial, ⟨⟨trivial, ⟨⟨trivial, trivial⟩, trivial⟩⟩, ⟨trivial, trivial⟩⟩⟩)
    (fun x K hp hk => ⟨_, by kernel_rfl, vF_impl_NumFar x.1 x.2 K hp (fun x h => hk x h)⟩)
theorem vF_spec_NumFar (a:Int) (b:Int) (K:List Arg→List (List AC)→Prop) (hp:True) (hk:∀ (x:Int),(x=if 0≤a∧a≤7∧0≤b∧b≤7 then (b - a + 8) % 8 else -1)→K ([rInt.to x]) ([])):(true=true)∧(True∧(∀ r:Bool,(r=(decide (((0:Int)≤a)∧(a≤(7:Int)))))→(true=true)∧(if ((!r)=true) then ((true=true)∧(K [(aI IntKind.i64 (-1:Int))] [])) else ((true=true)∧(True∧(∀ r1:Bool,(r1=(decide (((0:Int)≤b)∧(b≤(7:Int)))))→(true=true)∧(if ((!r1)=true) then ((true=true)∧(K [(aI IntKind.i64 (-1:Int))] [])) else (((8:Int) ≠ (0:Int))∧((true=true)∧(K [(aI IntKind.i64 (Int.tmod (IntKind.wrap IntKind.i64 ((IntKind.wrap IntKind.i64 (b - a)) + (8:Int))) (8:Int)))] [])))))))))) := by
  refine ⟨by trivial, trivial, fun r hr => ⟨by trivial, iteI (fun h => ?_) (fun h => ?_)⟩⟩
  · exact ⟨by trivial, hk _ (by subst hr; rw [if_neg]; simp at h; omega)⟩
  · refine ⟨by trivial, trivial, fun r1 hr1 => ⟨by trivial, iteI (fun h1 => ?_) (fun h1 => ?_)⟩⟩
    · exact ⟨by trivial, hk _ (by subst hr1; rw [if_neg]; simp at h1; omega)⟩
    · subst hr; subst hr1
      simp at h h1
      refine ⟨by decide, by trivial, hk _ ?_⟩
      rw [if_pos (by omega), wr (x := b - a) (by omega) (by omega), wr (by omega) (by omega), Int.tmod_eq_emod_of_nonneg (by omega)]
theorem w_spec_NumFar : Valid Try.prog 101 c_spec_NumFar :=
  valid_ctr2 (V := V_spec_NumFar) (tysB_ok tys_ok) ⟨(CallsL.cons w_spec_l1In (CallsL.nil _)), (IosL.nil _)⟩ mixed 0 0 Try.func101 rfl (by kernel_rfl)
    (fun c hc => by
      obtain rfl := Option.some.inj hc
      exact ⟨trivial, ⟨⟨trivial, ⟨⟨trivial, trivial⟩, trivial⟩⟩, ⟨trivial, trivial⟩⟩⟩)
    (fun x K hp hk => ⟨_, by kernel_rfl, vF_spec_NumFar x.1 x.2 K hp (fun x h => hk x h)⟩)
theorem vF_impl_NumNext (n:Int) (K:List Arg→List (List AC)→Prop) (hp:0≤n∧n≤100000) (hk:∀ (x:Int),(x=(n + 1) % 8)→K ([rInt.to x]) ([])):((8:Int) ≠ (0:Int))∧((true=true)∧(K [(aI IntKind.i64 (Int.tmod (IntKind.wrap IntKind.i64 (n + (1:Int))) (8:Int)))] [])) := by
  repeat' first
    | exact rfl
    | trivial
    | apply And.intro
    | (intro r hr; subst hr)
    | intro r
    | exact hp
    | (refine iteI (fun h => ?_) (fun h => ?_))
  all_goals first
    | exact hk _ (by grind [Int.tmod_eq_emod_of_nonneg, IntKind.wrap_i64])
    | omega
    | grind [Int.tmod_eq_emod_of_nonneg, IntKind.wrap_i64]
theorem w_impl_NumNext : Valid Try.prog 52 c_impl_NumNext :=
  valid_ctr2 (V := V_impl_NumNext) (tysB_ok tys_ok) ⟨(CallsL.nil _), (IosL.nil _)⟩ mixed 0 0 Try.func52 rfl (by kernel_rfl)
    (fun c hc => by
      obtain rfl := Option.some.inj hc
      exact ⟨trivial, ⟨trivial, trivial⟩⟩)
    (fun x K hp hk => ⟨_, by kernel_rfl, vF_impl_NumNext x K hp (fun x h => hk x h)⟩)
theorem vF_impl_NumOf (n:Int) (K:List Arg→List (List AC)→Prop) (hp:True) (hk:∀ (x:Int),(x=if n < 0 then -1 else n % 8)→K ([rInt.to x]) ([])):if ((decide (n < (0:Int)))=true) then ((true=true)∧(K [(aI IntKind.i64 (-1:Int))] [])) else (((8:Int) ≠ (0:Int))∧((true=true)∧(K [(aI IntKind.i64 (Int.tmod n (8:Int)))] []))) := by
  repeat' first
    | exact rfl
    | trivial
    | apply And.intro
    | (intro r hr; subst hr)
    | intro r
    | exact hp
    | (refine iteI (fun h => ?_) (fun h => ?_))
  all_goals first
    | exact hk _ (by grind [Int.tmod_eq_emod_of_nonneg, IntKind.wrap_i64])
    | omega
    | grind [Int.tmod_eq_emod_of_nonneg, IntKind.wrap_i64]
theorem w_impl_NumOf : Valid Try.prog 70 c_impl_NumOf :=
  valid_ctr2 (V := V_impl_NumOf) (tysB_ok tys_ok) ⟨(CallsL.nil _), (IosL.nil _)⟩ mixed 0 0 Try.func70 rfl (by kernel_rfl)
    (fun c hc => by
      obtain rfl := Option.some.inj hc
      exact ⟨trivial, ⟨⟨trivial, ⟨⟨trivial, trivial⟩, trivial⟩⟩, ⟨trivial, trivial⟩⟩⟩)
    (fun x K hp hk => ⟨_, by kernel_rfl, vF_impl_NumOf x K hp (fun x h => hk x h)⟩)
theorem vF_spec_NumNext (n:Int) (K:List Arg→List (List AC)→Prop) (hp:0≤n∧n≤100000) (hk:∀ (x:Int),(x=(n + 1) % 8)→K ([rInt.to x]) ([])):((8:Int) ≠ (0:Int))∧((true=true)∧(K [(aI IntKind.i64 (Int.tmod (IntKind.wrap IntKind.i64 (n + (1:Int))) (8:Int)))] [])) := by
  repeat' first
    | exact rfl
    | trivial
    | apply And.intro
    | (intro r hr; subst hr)
    | intro r
    | exact hp
    | (refine iteI (fun h => ?_) (fun h => ?_))
  all_goals first
    | exact hk _ (by grind [Int.tmod_eq_emod_of_nonneg, IntKind.wrap_i64])
    | omega
    | grind [Int.tmod_eq_emod_of_nonneg, IntKind.wrap_i64]
theorem w_spec_NumNext : Valid Try.prog 93 c_spec_NumNext :=
  valid_ctr2 (V := V_spec_NumNext) (tysB_ok tys_ok) ⟨(CallsL.nil _), (IosL.nil _)⟩ mixed 0 0 Try.func93 rfl (by kernel_rfl)
    (fun c hc => by
      obtain rfl := Option.some.inj hc
      exact ⟨trivial, ⟨trivial, trivial⟩⟩)
    (fun x K hp hk => ⟨_, by kernel_rfl, vF_spec_NumNext x K hp (fun x h => hk x h)⟩)
theorem vF_spec_NumOf (n:Int) (K:List Arg→List (List AC)→Prop) (hp:True) (hk:∀ (x:Int),(x=if n < 0 then -1 else n % 8)→K ([rInt.to x]) ([])):if ((decide (n < (0:Int)))=true) then ((true=true)∧(K [(aI IntKind.i64 (-1:Int))] [])) else (((8:Int) ≠ (0:Int))∧((true=true)∧(K [(aI IntKind.i64 (Int.tmod n (8:Int)))] []))) := by
  repeat' first
    | exact rfl
    | trivial
    | apply And.intro
    | (intro r hr; subst hr)
    | intro r
    | exact hp
    | (refine iteI (fun h => ?_) (fun h => ?_))
  all_goals first
    | exact hk _ (by grind [Int.tmod_eq_emod_of_nonneg, IntKind.wrap_i64])
    | omega
    | grind [Int.tmod_eq_emod_of_nonneg, IntKind.wrap_i64]
theorem w_spec_NumOf : Valid Try.prog 60 c_spec_NumOf :=
  valid_ctr2 (V := V_spec_NumOf) (tysB_ok tys_ok) ⟨(CallsL.nil _), (IosL.nil _)⟩ mixed 0 0 Try.func60 rfl (by kernel_rfl)
    (fun c hc => by
      obtain rfl := Option.some.inj hc
      exact ⟨trivial, ⟨⟨trivial, ⟨⟨trivial, trivial⟩, trivial⟩⟩, ⟨trivial, trivial⟩⟩⟩)
    (fun x K hp hk => ⟨_, by kernel_rfl, vF_spec_NumOf x K hp (fun x h => hk x h)⟩)
theorem vF_impl_goOrWait (b:Bool) (K:List Arg→List (List AC)→Prop) (hp:True) (hk:∀ (x:Int),(x=goWait b)→K ([rInt.to x]) ([])):if (b=true) then ((true=true)∧(K [(aI IntKind.i64 (2:Int))] [])) else ((true=true)∧(K [(aI IntKind.i64 (0:Int))] [])) := by
  repeat' first
    | exact rfl
    | trivial
    | apply And.intro
    | (intro r hr; subst hr)
    | intro r
    | exact hp
    | (refine iteI (fun h => ?_) (fun h => ?_))
  all_goals first
    | exact hk _ (by grind [goWait, Int.tmod_eq_emod_of_nonneg, IntKind.wrap_i64])
    | omega
    | grind [goWait, Int.tmod_eq_emod_of_nonneg, IntKind.wrap_i64]
theorem w_impl_goOrWait : Valid Try.prog 57 c_impl_goOrWait :=
  valid_ctr2 (V := V_impl_goOrWait) (tysB_ok tys_ok) ⟨(CallsL.nil _), (IosL.nil _)⟩ mixed 0 0 Try.func57 rfl (by kernel_rfl)
    (fun c hc => by
      obtain rfl := Option.some.inj hc
      exact ⟨trivial, ⟨⟨trivial, ⟨⟨trivial, trivial⟩, trivial⟩⟩, ⟨trivial, trivial⟩⟩⟩)
    (fun x K hp hk => ⟨_, by kernel_rfl, vF_impl_goOrWait x K hp (fun x h => hk x h)⟩)
theorem vF_impl_RxOk (r:RxS) (K:List Arg→List (List AC)→Prop) (hp:True) (hk:∀ (v:Bool),(v=decide (RxP r))→K ([rB.to v]) ([])):(true=true)∧(True∧(∀ r1:Bool,(r1=(decide (((0:Int)≤r.expect)∧(r.expect≤(7:Int)))))→(true=true)∧((true=true)∧(if (r1=true) then ((true=true)∧(True∧(∀ r2:Bool,(r2=(decide (((0:Int)≤r.count)∧(r.count≤(9999:Int)))))→(true=true)∧((true=true)∧(if (r2=true) then ((true=true)∧(True∧(∀ r3:Int,(r3=(if (r.count < (0:Int)) then (-1:Int) else (r.count % (8:Int))))→(true=true)∧((true=true)∧(if ((r3 == r.expect)=true) then ((true=true)∧(True∧(∀ r4:Bool,(r4=(decide (JoinP r.join)))→(true=true)∧((true=true)∧((true=true)∧(K [(aB r4)] [])))))) else ((true=true)∧((true=true)∧(K [(aB false)] [])))))))) else ((true=true)∧((true=true)∧((true=true)∧(K [(aB false)] []))))))))) else ((true=true)∧((true=true)∧((true=true)∧((true=true)∧(K [(aB false)] []))))))))) := by
  repeat' first
    | exact rfl
    | trivial
    | apply And.intro
    | (intro r hr; subst hr)
    | intro r
    | exact hp
    | (refine iteI (fun h => ?_) (fun h => ?_))
  all_goals first
    | exact hk _ (by grind [RxP, JoinP, IntKind.wrap_i64])
    | omega
    | grind [RxP, JoinP, IntKind.wrap_i64]
theorem w_impl_RxOk : Valid Try.prog 25 c_impl_RxOk :=
  valid_ctr2 (V := V_impl_RxOk) (tysB_ok tys_ok) ⟨(CallsL.cons w_impl_isNumber (CallsL.cons w_impl_in (CallsL.cons w_impl_NumOf (CallsL.cons w_impl_JoinOk (CallsL.nil _))))), (IosL.nil _)⟩ mixed 0 1 Try.func25 rfl (by kernel_rfl)
    (fun c hc => by
      obtain rfl := Option.some.inj hc
      exact ⟨trivial, ⟨trivial, trivial⟩⟩)
    (fun x K hp hk => ⟨_, by kernel_rfl, vF_impl_RxOk x K hp (fun v h => hk v h)⟩)
theorem vF_spec_RxOk (r:RxS) (K:List Arg→List (List AC)→Prop) (hp:True) (hk:∀ (v:Bool),(v=decide (RxP r))→K ([rB.to v]) ([])):(true=true)∧(True∧(∀ r1:Bool,(r1=(decide (((0:Int)≤r.expect)∧(r.expect≤(7:Int)))))→(true=true)∧((true=true)∧(if (r1=true) then ((true=true)∧(True∧(∀ r2:Bool,(r2=(decide (((0:Int)≤r.count)∧(r.count≤(9999:Int)))))→(true=true)∧((true=true)∧(if (r2=true) then ((true=true)∧(True∧(∀ r3:Int,(r3=(if (r.count < (0:Int)) then (-1:Int) else (r.count % (8:Int))))→(true=true)∧((true=true)∧(if ((r3 == r.expect)=true) then ((true=true)∧(True∧(∀ r4:Bool,(r4=(decide (JoinP r.join)))→(true=true)∧((true=true)∧((true=true)∧(K [(aB r4)] [])))))) else ((true=true)∧((true=true)∧(K [(aB false)] [])))))))) else ((true=true)∧((true=true)∧((true=true)∧(K [(aB false)] []))))))))) else ((true=true)∧((true=true)∧((true=true)∧((true=true)∧(K [(aB false)] []))))))))) := by
  repeat' first
    | exact rfl
    | trivial
    | apply And.intro
    | (intro r hr; subst hr)
    | intro r
    | exact hp
    | (refine iteI (fun h => ?_) (fun h => ?_))
  all_goals first
    | exact hk _ (by grind [RxP, JoinP, IntKind.wrap_i64])
    | omega
    | grind [RxP, JoinP, IntKind.wrap_i64]
theorem w_spec_RxOk : Valid Try.prog 17 c_spec_RxOk :=
  valid_ctr2 (V := V_spec_RxOk) (tysB_ok tys_ok) ⟨(CallsL.cons w_spec_l1In (CallsL.cons w_spec_NumOf (CallsL.cons w_spec_JoinOk (CallsL.nil _)))), (IosL.nil _)⟩ mixed 0 1 Try.func17 rfl (by kernel_rfl)
    (fun c hc => by
      obtain rfl := Option.some.inj hc
      exact ⟨trivial, ⟨trivial, trivial⟩⟩)
    (fun x K hp hk => ⟨_, by kernel_rfl, vF_spec_RxOk x K hp (fun v h => hk v h)⟩)
theorem vF_impl_RxState_say (r:RxS) (w:Int) (f:Bool) (K:List Arg→List (List AC)→Prop) (hp:True) (hk:∀ (g:Frm),(g=sayF r w f)→K ([rFrm.to g]) ([])):(true=true)∧(K [(Arg.v true [(AC.d (D.i IntKind.i64 (2:Int))),(AC.d (D.i IntKind.i64 (0:Int))),(AC.d (D.i IntKind.i64 r.expect)),(AC.d (D.b false)),(AC.d (D.b f)),(AC.d (D.i IntKind.i64 w)),(AC.d (D.i IntKind.i64 (0:Int))),(AC.d (D.i IntKind.i64 (0:Int))),(AC.d (D.r RK.u8 ([]:(List Int))))])] []) := by
  exact ⟨by trivial, hk _ rfl⟩
theorem w_impl_RxState_say : Valid Try.prog 56 c_impl_RxState_say :=
  valid_ctr2 (V := V_impl_RxState_say) (tysB_ok tys_ok) ⟨(CallsL.nil _), (IosL.nil _)⟩ mixed 0 2 Try.func56 rfl (by kernel_rfl)
    (fun c hc => by
      obtain rfl := Option.some.inj hc
      exact ⟨trivial, ⟨trivial, trivial⟩⟩)
    (fun x K hp hk => ⟨_, by kernel_rfl, vF_impl_RxState_say x.1 x.2.1 x.2.2 K hp (fun g h => hk g h)⟩)
theorem vF_spec_l7Say (r:RxS) (f:Bool) (K:List Arg→List (List AC)→Prop) (hp:True) (hk:∀ (g:Frm),(g=sayF r (goWait r.busy) f)→K ([rFrm.to g]) ([])):if (r.busy=true) then ((true=true)∧(K [(Arg.v true [(AC.d (D.i IntKind.i64 (2:Int))),(AC.d (D.i IntKind.i64 (0:Int))),(AC.d (D.i IntKind.i64 r.expect)),(AC.d (D.b false)),(AC.d (D.b f)),(AC.d (D.i IntKind.i64 (2:Int))),(AC.d (D.i IntKind.i64 (0:Int))),(AC.d (D.i IntKind.i64 (0:Int))),(AC.d (D.r RK.u8 ([]:(List Int))))])] [])) else ((true=true)∧(K [(Arg.v true [(AC.d (D.i IntKind.i64 (2:Int))),(AC.d (D.i IntKind.i64 (0:Int))),(AC.d (D.i IntKind.i64 r.expect)),(AC.d (D.b false)),(AC.d (D.b f)),(AC.d (D.i IntKind.i64 (0:Int))),(AC.d (D.i IntKind.i64 (0:Int))),(AC.d (D.i IntKind.i64 (0:Int))),(AC.d (D.r RK.u8 ([]:(List Int))))])] [])) := by
  refine iteI (fun h => ?_) (fun h => ?_)
  · have e : goWait r.busy = 2 := by simp [goWait, h]
    have h := hk _ rfl; rw [e] at h; exact ⟨by trivial, h⟩
  · have e : goWait r.busy = 0 := by simp [goWait, h]
    have h := hk _ rfl; rw [e] at h; exact ⟨by trivial, h⟩
theorem w_spec_l7Say : Valid Try.prog 58 c_spec_l7Say :=
  valid_ctr2 (V := V_spec_l7Say) (tysB_ok tys_ok) ⟨(CallsL.nil _), (IosL.nil _)⟩ mixed 0 3 Try.func58 rfl (by kernel_rfl)
    (fun c hc => by
      obtain rfl := Option.some.inj hc
      exact ⟨trivial, ⟨trivial, ⟨⟨trivial, ⟨trivial, trivial⟩⟩, ⟨trivial, trivial⟩⟩⟩⟩)
    (fun x K hp hk => ⟨_, by kernel_rfl, vF_spec_l7Say x.1 x.2 K hp (fun g h => hk g h)⟩)
end Go.Proofs.YtjladmhjpikdhaaE
