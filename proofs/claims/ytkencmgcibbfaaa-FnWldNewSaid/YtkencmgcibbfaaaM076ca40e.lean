/- A part of the proof of laws of the program: what calls of the program answer. Conditions: none. -/
import Derived.Test.YtkencmgcibbfaaaM1e0b0a2b
set_option linter.unusedVariables false
set_option linter.unusedSimpArgs false
set_option linter.unusedSectionVars false
/- Contracts: X3F. Conditions: none. -/
set_option linter.unusedVariables false
set_option maxHeartbeats 1600000
namespace Go.Proofs.YtkencmgcibbfaaaE
open Go
/-- A frame, its bytes one's own. -/
def dFrmC (f : Frm) : List AC := [.d (.i .i64 f.kind), .d (.i .i64 f.seq), .d (.i .i64 f.ack), .d (.b f.poll), .d (.b f.final), .d (.i .i64 f.say), .d (.i .i64 f.seg), .d (.i .i64 f.len), .own ⟨5, .u8, f.data, m0⟩]
def dFrm (f : Frm) : Arg := .v true (dFrmC f)
def mkFrmD : List AC → Option Frm
  | [.d (.i .i64 a0), .d (.i .i64 a1), .d (.i .i64 a2), .d (.b a3), .d (.b a4), .d (.i .i64 a5), .d (.i .i64 a6), .d (.i .i64 a7), .own ⟨e1, .u8, a8, ⟨none, false, 0, false⟩⟩] => if e1 = 5 then some ⟨a0, a1, a2, a3, a4, a5, a6, a7, a8⟩ else none
  | _ => none
theorem mkFrmD_cells {cs : List AC} {t : Frm} (h : mkFrmD cs = some t) : cs = dFrmC t := by
  unfold mkFrmD at h
  split at h
  · split at h
    · rename_i he
      cases h
      subst he
      rfl
    · simp at h
  · simp at h
def odFrm : Arg → Option Frm
  | .v true cs => mkFrmD cs
  | _ => none
def rDFrm : Rep Frm where
  to t := .v true (dFrmC t)
  of := odFrm
  inv a x h _ := by
    unfold odFrm at h
    split at h
    · rw [mkFrmD_cells h]
    · simp at h

/-! laws.toCfgOpts -/
def c_laws_toCfgOpts : Ent := ctr (α := (Cfg)) (ρ := (Cfg)) [] [] (rs1 rCfg) (fun x_ => (fun (c : Cfg) => (True)) x_) (fun x_ r_ => (fun x_ => (fun (c : Cfg) => ((fun r_ => (fun (r : Cfg) => (r = c)) r_))) x_) x_ r_) (fun r_ => (fun (r : Cfg) => ([rCfg.to r])) r_) (fun r_ => (fun (r : Cfg) => ([])) r_)
def V_laws_toCfgOpts : Env := ⟨tys, [], [], [(1, 0), (2, 1), (3, 2)], [], [], [], [], []⟩
end Go.Proofs.YtkencmgcibbfaaaE

/- Calls answer what is promised: X3F. Conditions: none. -/
set_option linter.unusedVariables false
set_option maxHeartbeats 1600000
namespace Go.Proofs.YtkencmgcibbfaaaE
open Go
theorem vF_laws_toCfgOpts (c:Cfg) (K:List Arg→List (List AC)→Prop) (hp:True) (hk:∀ (r:Cfg),(r=c)→K ([rCfg.to r]) ([])):(true=true)∧(K [(Arg.v true [(AC.d (D.i IntKind.i64 c.mode)),(AC.d (D.i IntKind.i64 c.win)),(AC.d (D.i IntKind.i64 c.mps)),(AC.d (D.i IntKind.i64 c.mtu)),(AC.d (D.i IntKind.i64 c.try_))])] []) := by
  repeat' first
    | exact rfl
    | exact True.intro
    | with_reducible apply And.intro
    | (with_reducible intro y_ hy_; subst hy_)
    | with_reducible intro y_
    | (refine iteI (fun h => ?_) (fun h => ?_))
  all_goals try simp only [Bool.not_eq_true', decide_eq_false_iff_not, decide_eq_true_eq, Bool.not_eq_true, bne_iff_ne, beq_iff_eq, ne_eq, Decidable.not_not, Bool.not_eq_false, gt_iff_lt, ge_iff_le, Int.not_le, Int.not_lt, beq_eq_false_iff_ne, bne_eq_false_iff_eq, Bool.and_eq_true, Bool.or_eq_true, Bool.true_eq_false, Bool.false_eq_true] at *
  all_goals try simp (disch := first | omega | grind []) only [wr] at *
  all_goals first
    | assumption
    | omega
    | exact hk _ rfl
    | exact hk _ (by grind [])
    | (simp only [LIM] at *; omega)
    | grind [LIM]
theorem w_laws_toCfgOpts : Valid Try.prog 14 c_laws_toCfgOpts :=
  valid_ctr2 (V := V_laws_toCfgOpts) (tysB_ok tys_ok) ⟨(CallsL.nil _), (IosL.nil _)⟩ mixed 0 3 Try.func14 rfl (by kernel_rfl)
    (fun c hc => by
      obtain rfl := Option.some.inj hc
      exact ⟨trivial, ⟨trivial, ⟨trivial, ⟨trivial, ⟨trivial, ⟨trivial, ⟨trivial, ⟨trivial, trivial⟩⟩⟩⟩⟩⟩⟩⟩)
    (fun x K hp hk => ⟨_, by kernel_rfl, vF_laws_toCfgOpts x K hp (fun r h => hk r h)⟩)
end Go.Proofs.YtkencmgcibbfaaaE
