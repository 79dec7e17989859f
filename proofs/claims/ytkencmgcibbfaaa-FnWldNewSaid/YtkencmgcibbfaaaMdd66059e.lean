/- A part of the proof of laws of the program: what calls of the program answer. Conditions: none. -/
import Derived.Test.YtkencmgcibbfaaaM9aa2d2af
set_option linter.unusedVariables false
set_option linter.unusedSimpArgs false
set_option linter.unusedSectionVars false
/- Contracts: R. Conditions: none. -/
set_option linter.unusedVariables false
set_option maxHeartbeats 1600000
namespace Go.Proofs.YtkencmgcibbfaaaE
open Go
/-! impl.CrdRxOk -/
def c_impl_CrdRxOk : Ent := ctr (α := (CrS)) (ρ := (Bool)) [] [] (rs1 rCr) (fun x_ => (fun (r : CrS) => (True)) x_) (fun x_ r_ => (fun x_ => (fun (r : CrS) => ((fun r_ => (fun (v : Bool) => (v = decide (CrP r))) r_))) x_) x_ r_) (fun r_ => (fun (v : Bool) => ([rB.to v])) r_) (fun r_ => (fun (v : Bool) => ([])) r_)
def V_impl_CrdRxOk : Env := ⟨tys, [(28, c_impl_in), (54, c_impl_JoinOk)], [], [(1, 0)], [], [], [500006], [], []⟩
theorem CrIn.part {c : Cfg} {r : CrS} {f : Frm} (h : CrIn c r f) : PartP ⟨f.seg, f.len, f.data⟩ := by
  obtain ⟨_, _, h, hk⟩ := h
  unfold FrmP at h
  unfold PartP
  rcases h with h | h | h | h
  all_goals first | omega | exact h.2.2.2.2.2.2
theorem CrIn.seg {c : Cfg} {r : CrS} {f : Frm} (h : CrIn c r f) : 0 ≤ f.seg ∧ f.seg ≤ 3 := h.part.seg
theorem CrIn.got {c : Cfg} {r : CrS} {f : Frm} (h : CrIn c r f) : r.join.got.length ≤ 24 := by
  have := h.2.1.2
  unfold JoinP at this
  omega
theorem crd_got (c : Cfg) (r : CrS) (f : Frm) : (crdHear1 c r f).r.join.got.length ≤ r.join.got.length + f.data.length ∧ (crdHear1 c r f).sdus.length ≤ 1 ∧ ∀ y ∈ (crdHear1 c r f).sdus, y.length ≤ r.join.got.length + f.data.length := by
  have h := segPut_got r.join ⟨f.seg, f.len, f.data⟩
  unfold crdHear1
  dsimp only at h ⊢
  repeat' split
  all_goals simp
  all_goals omega

/-! laws.liCrx -/
def c_laws_liCrx : Ent := ctr (α := (CrS) × (CrS)) (ρ := (Bool)) [] [] (rs rCr (rs1 rCr)) (fun x_ => (fun (a : CrS) (b : CrS) => (a.join.got.length ≤ LIM)) x_.1 x_.2) (fun x_ r_ => (fun x_ => (fun (a : CrS) (b : CrS) => ((fun r_ => (fun (r : Bool) => (r = decide (a = b))) r_))) x_.1 x_.2) x_ r_) (fun r_ => (fun (r : Bool) => ([rB.to r])) r_) (fun r_ => (fun (r : Bool) => ([])) r_)
def V_laws_liCrx : Env := ⟨tys, [(49, c_laws_liJoin)], [], [(2, 0), (3, 1)], [], [], [500010, 500017], [], []⟩
end Go.Proofs.YtkencmgcibbfaaaE

/- Calls answer what is promised: R. Conditions: none. -/
set_option linter.unusedVariables false
set_option maxHeartbeats 1600000
namespace Go.Proofs.YtkencmgcibbfaaaE
open Go
theorem vF_impl_CrdRxOk (r:CrS) (K:List Arg→List (List AC)→Prop) (hp:True) (hk:∀ (v:Bool),(v=decide (CrP r))→K ([rB.to v]) ([])):(true=true)∧(True∧(∀ r1:Bool,(r1=(decide (((0:Int)≤r.out)∧(r.out≤(255:Int)))))→(true=true)∧(if (r1=true) then ((true=true)∧(True∧(∀ r2:Bool,(r2=(decide (JoinP r.join)))→(true=true)∧((true=true)∧(K [(aB r2)] []))))) else ((true=true)∧(K [(aB false)] []))))) := by
  repeat' first
    | exact rfl
    | exact True.intro
    | with_reducible apply And.intro
    | (with_reducible intro r hr; subst hr)
    | with_reducible intro r
    | (refine iteI (fun h => ?_) (fun h => ?_))
  all_goals try simp (disch := omega) only [wr] at *
  all_goals first
    | assumption
    | exact hk _ (by grind [CrP, JoinP, IntKind.wrap_i64])
    | (simp only [LIM] at *; omega)
    | grind [CrP, JoinP, LIM]
theorem w_impl_CrdRxOk : Valid Try.prog 32 c_impl_CrdRxOk :=
  valid_ctr2 (V := V_impl_CrdRxOk) (tysB_ok tys_ok) ⟨(CallsL.cons w_impl_in (CallsL.cons w_impl_JoinOk (CallsL.nil _))), (IosL.nil _)⟩ mixed 0 1 Try.func32 rfl (by kernel_rfl)
    (fun c hc => by
      obtain rfl := Option.some.inj hc
      exact ⟨trivial, ⟨trivial, trivial⟩⟩)
    (fun x K hp hk => ⟨_, by kernel_rfl, vF_impl_CrdRxOk x K hp (fun v h => hk v h)⟩)
theorem vF_laws_liCrx (a:CrS) (b:CrS) (K:List Arg→List (List AC)→Prop) (hp:a.join.got.length≤LIM) (hk:∀ (r:Bool),(r=decide (a=b))→K ([rB.to r]) ([])):if ((a.out == b.out)=true) then ((true=true)∧(((List.length a.join.got)≤(137438953472:Nat))∧(∀ r:Bool,(r=(decide (a.join=b.join)))→(true=true)∧(if (r=true) then ((true=true)∧(K [(aB (a.dead == b.dead))] [])) else ((true=true)∧(K [(aB false)] [])))))) else ((true=true)∧(K [(aB false)] [])) := by
  obtain ⟨_, ⟨_, _⟩, _⟩ := a
  obtain ⟨_, ⟨_, _⟩, _⟩ := b

  repeat' first
    | exact rfl
    | exact True.intro
    | with_reducible apply And.intro
    | (with_reducible intro r hr; subst hr)
    | with_reducible intro r
    | (refine iteI (fun h => ?_) (fun h => ?_))
  all_goals try simp (disch := omega) only [wr] at *
  all_goals first
    | assumption
    | exact hk _ (by grind [IntKind.wrap_i64])
    | (simp only [LIM] at *; omega)
    | grind [LIM]
theorem w_laws_liCrx : Valid Try.prog 26 c_laws_liCrx :=
  valid_ctr2 (V := V_laws_liCrx) (tysB_ok tys_ok) ⟨(CallsL.cons w_laws_liJoin (CallsL.nil _)), (IosL.nil _)⟩ mixed 0 2 Try.func26 rfl (by kernel_rfl)
    (fun c hc => by
      obtain rfl := Option.some.inj hc
      exact ⟨trivial, ⟨trivial, trivial⟩⟩)
    (fun x K hp hk => ⟨_, by kernel_rfl, vF_laws_liCrx x.1 x.2 K hp (fun r h => hk r h)⟩)
end Go.Proofs.YtkencmgcibbfaaaE
