/- A part of the proof of laws of the program: what calls of the program answer. Conditions: none. -/
import Derived.Test.YtkencmgcibbfaaaMa82ab518
set_option linter.unusedVariables false
set_option linter.unusedSimpArgs false
set_option linter.unusedSectionVars false
/- Contracts: X3C. Conditions: none. -/
set_option linter.unusedVariables false
set_option maxHeartbeats 1600000
namespace Go.Proofs.YtkencmgcibbfaaaE
open Go
def dCtC (t : CtS) : List AC := [.d (.i .i64 t.have_), .own ⟨102, .part, t.queue, mD t.queue.length⟩, .d (.i .i64 t.granted), .d (.i .i64 t.sent), .d (.b t.dead)]
def dCt (t : CtS) : Arg := .v true (dCtC t)
def mkCtD : List AC → Option CtS
  | [.d (.i .i64 a0), .own ⟨e1, .part, a1, ⟨some _, false, 0, false⟩⟩, .d (.i .i64 a2), .d (.i .i64 a3), .d (.b a4)] => if e1 = 102 then some ⟨a0, a1, a2, a3, a4⟩ else none
  | _ => none
def sdCtD : List AC → Prop
  | [_, .own ⟨_, _, l1, ⟨some d1, _, _, _⟩⟩, _, _, _] => d1 = l1.length
  | _ => False
theorem mkCtD_cells {cs : List AC} {t : CtS} (h : mkCtD cs = some t) (hs : sdCtD cs) : cs = dCtC t := by
  unfold mkCtD at h
  split at h
  · split at h
    · rename_i he
      cases h
      obtain rfl := he
      have h1 : _ = _ := hs
      subst h1
      rfl
    · simp at h
  · simp at h
def odCt : Arg → Option CtS
  | .v true cs => mkCtD cs
  | _ => none
def sdCt : Arg → Prop
  | .v _ cs => sdCtD cs
  | .p _ => False
def rDCt : Rep CtS where
  to t := .v true (dCtC t)
  of := odCt
  sd := some sdCt
  inv a x h hs := by
    have hs := hs _ rfl
    unfold odCt at h
    split at h
    · rw [mkCtD_cells h hs]
    · simp at h

/-! laws.eqCrdTx -/
def c_laws_eqCrdTx : Ent := ctr (α := (CtS) × (CtS)) (ρ := (Bool)) [] [] (rs rCt (rs1 rCt)) (fun x_ => (fun (a : CtS) (b : CtS) => (a.queue.length ≤ LIM ∧ ∀ y ∈ a.queue, y.data.length ≤ LIM)) x_.1 x_.2) (fun x_ r_ => (fun x_ => (fun (a : CtS) (b : CtS) => ((fun r_ => (fun (r : Bool) => (r = decide (a = b))) r_))) x_.1 x_.2) x_ r_) (fun r_ => (fun (r : Bool) => ([rB.to r])) r_) (fun r_ => (fun (r : Bool) => ([])) r_)
def V_laws_eqCrdTx : Env := ⟨tys, [(82, c_laws_eqSegPartS)], [], [(2, 0), (3, 1)], [], [], [], [], []⟩
end Go.Proofs.YtkencmgcibbfaaaE

/- Calls answer what is promised: X3C. Conditions: none. -/
set_option linter.unusedVariables false
set_option maxHeartbeats 1600000
namespace Go.Proofs.YtkencmgcibbfaaaE
open Go
theorem vF_laws_eqCrdTx (a:CtS) (b:CtS) (K:List Arg→List (List AC)→Prop) (hp:a.queue.length≤LIM∧∀ y ∈ a.queue,y.data.length≤LIM) (hk:∀ (r:Bool),(r=decide (a=b))→K ([rB.to r]) ([])):if ((a.have_ != b.have_)=true) then ((true=true)∧(K [(aB false)] [])) else ((true=true)∧((((List.length a.queue)≤(137438953472:Nat))∧(∀ p:Part,(List.Mem p a.queue)→((List.length p.data)≤(137438953472:Nat))))∧(∀ r:Bool,(r=(decide (a.queue=b.queue)))→(true=true)∧(if ((!r)=true) then ((true=true)∧(K [(aB false)] [])) else (if ((a.granted != b.granted)=true) then ((true=true)∧(K [(aB false)] [])) else (if ((a.sent != b.sent)=true) then ((true=true)∧(K [(aB false)] [])) else (if ((a.dead != b.dead)=true) then ((true=true)∧(K [(aB false)] [])) else ((true=true)∧(K [(aB true)] []))))))))) := by
  obtain ⟨_, _, _, _, _⟩ := a
  obtain ⟨_, _, _, _, _⟩ := b

  repeat' first
    | exact rfl
    | exact True.intro
    | with_reducible apply And.intro
    | (with_reducible intro y_ hy_; subst hy_)
    | with_reducible intro y_
    | (refine iteI (fun h => ?_) (fun h => ?_))
  all_goals try simp only [Bool.not_eq_true', decide_eq_false_iff_not, decide_eq_true_eq, Bool.not_eq_true, bne_iff_ne, beq_iff_eq, ne_eq, Decidable.not_not, Bool.not_eq_false, gt_iff_lt, ge_iff_le, Int.not_le, Int.not_lt, beq_eq_false_iff_ne, bne_eq_false_iff_eq, Bool.and_eq_true, Bool.or_eq_true, Bool.true_eq_false, Bool.false_eq_true] at *
  all_goals try simp (disch := first | omega | grind []) only [wr] at *
  all_goals first
    | assumption
    | omega
    | exact hp.1
    | exact hp.2 _ ‹List.Mem _ _›
    | exact hk _ (by grind [])
    | (simp only [LIM] at *; omega)
    | grind [LIM]
theorem w_laws_eqCrdTx : Valid Try.prog 76 c_laws_eqCrdTx :=
  valid_ctr2 (V := V_laws_eqCrdTx) (tysB_ok tys_ok) ⟨(CallsL.cons w_laws_eqSegPartS (CallsL.nil _)), (IosL.nil _)⟩ mixed 0 2 Try.func76 rfl (by kernel_rfl)
    (fun c hc => by
      obtain rfl := Option.some.inj hc
      exact ⟨trivial, ⟨⟨trivial, ⟨⟨trivial, trivial⟩, trivial⟩⟩, ⟨⟨trivial, ⟨⟨trivial, trivial⟩, trivial⟩⟩, ⟨⟨trivial, ⟨⟨trivial, trivial⟩, trivial⟩⟩, ⟨⟨trivial, ⟨⟨trivial, trivial⟩, trivial⟩⟩, ⟨⟨trivial, ⟨⟨trivial, trivial⟩, trivial⟩⟩, ⟨trivial, trivial⟩⟩⟩⟩⟩⟩⟩)
    (fun x K hp hk => ⟨_, by kernel_rfl, vF_laws_eqCrdTx x.1 x.2 K hp (fun r h => hk r h)⟩)
end Go.Proofs.YtkencmgcibbfaaaE
