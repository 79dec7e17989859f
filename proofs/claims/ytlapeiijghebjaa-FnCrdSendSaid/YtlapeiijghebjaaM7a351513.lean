/- A part of the proof of laws of the program: what calls of the program answer. Conditions: none. -/
import Derived.Test.YtlapeiijghebjaaM1f834e74
set_option linter.unusedVariables false
set_option linter.unusedSimpArgs false
set_option linter.unusedSectionVars false
/- Contracts: R. Conditions: none. -/
set_option linter.unusedVariables false
set_option maxHeartbeats 1600000
namespace Go.Proofs.YtlapeiijghebjaaE
open Go
/-! impl.CrdRxOk -/
def c_impl_CrdRxOk : Ent := ctr (α := (CrS)) (ρ := (Bool)) [] [] (rs1 rCr) (fun x_ => (fun (r : CrS) => (True)) x_) (fun x_ r_ => (fun x_ => (fun (r : CrS) => ((fun r_ => (fun (v : Bool) => (v = decide (CrP r))) r_))) x_) x_ r_) (fun r_ => (fun (v : Bool) => ([rB.to v])) r_) (fun r_ => (fun (v : Bool) => ([])) r_)
def V_impl_CrdRxOk : Env := ⟨tys, [(77, c_impl_in), (78, c_impl_JoinOk)], [], [(1, 0)], [], [], []⟩
/-! spec.CrdRxOk -/
def c_spec_CrdRxOk : Ent := ctr (α := (CrS)) (ρ := (Bool)) [] [] (rs1 rCr) (fun x_ => (fun (r : CrS) => (True)) x_) (fun x_ r_ => (fun x_ => (fun (r : CrS) => ((fun r_ => (fun (v : Bool) => (v = decide (CrP r))) r_))) x_) x_ r_) (fun r_ => (fun (v : Bool) => ([rB.to v])) r_) (fun r_ => (fun (v : Bool) => ([])) r_)
def V_spec_CrdRxOk : Env := ⟨tys, [(74, c_spec_l1In), (75, c_spec_JoinOk)], [], [(1, 0)], [], [], []⟩
/-! (impl.CrdRx).copyOf -/
def c_impl_CrdRx_copyOf : Ent := ctr (α := (CrS)) (ρ := (CrS)) [] [] (rs1 rCr) (fun x_ => (fun (r : CrS) => (r.join.got.length ≤ LIM)) x_) (fun x_ r_ => (fun x_ => (fun (r : CrS) => ((fun r_ => (fun (x : CrS) => (x = r)) r_))) x_) x_ r_) (fun r_ => (fun (x : CrS) => ([rCr.to x])) r_) (fun r_ => (fun (x : CrS) => ([])) r_)
def V_impl_CrdRx_copyOf : Env := ⟨tys, [(94, c_impl_clone_byte)], [], [(1, 0), (2, 1)], [], [], []⟩
/-! spec.l8Rx -/
def c_spec_l8Rx : Ent := ctr (α := (CrS)) (ρ := (CrS)) [] [] (rs1 rCr) (fun x_ => (fun (r : CrS) => (r.join.got.length ≤ LIM)) x_) (fun x_ r_ => (fun x_ => (fun (r : CrS) => ((fun r_ => (fun (x : CrS) => (x = r)) r_))) x_) x_ r_) (fun r_ => (fun (x : CrS) => ([rCr.to x])) r_) (fun r_ => (fun (x : CrS) => ([])) r_)
def V_spec_l8Rx : Env := ⟨tys, [], [(5, [0])], [(1, 0), (2, 1), (3, 2)], [], [], []⟩
/-! impl.CrdGrant -/
def c_impl_CrdGrant : Ent := ctr (α := (CrS)) (ρ := (GrantR)) [] [] (rs1 rCr) (fun x_ => (fun (r : CrS) => (r.join.got.length ≤ LIM)) x_) (fun x_ r_ => (fun x_ => (fun (r : CrS) => ((fun r_ => (fun (q : GrantR) => (q = crdGrant r)) r_))) x_) x_ r_) (fun r_ => (fun (q : GrantR) => ([rCr.to q.r, rFrm.to q.f, rB.to q.ok])) r_) (fun r_ => (fun (q : GrantR) => ([])) r_)
def V_impl_CrdGrant : Env := ⟨tys, [(21, c_impl_CrdRxOk), (72, c_impl_CrdRx_copyOf)], [], [(1, 0), (2, 1), (3, 2), (5, 3)], [(7, ([1, 2], []))], [], []⟩
/-! spec.CrdGrant -/
def c_spec_CrdGrant : Ent := ctr (α := (CrS)) (ρ := (GrantR)) [] [] (rs1 rCr) (fun x_ => (fun (r : CrS) => (r.join.got.length ≤ LIM)) x_) (fun x_ r_ => (fun x_ => (fun (r : CrS) => ((fun r_ => (fun (q : GrantR) => (q = crdGrant r)) r_))) x_) x_ r_) (fun r_ => (fun (q : GrantR) => ([rCr.to q.r, rFrm.to q.f, rB.to q.ok])) r_) (fun r_ => (fun (q : GrantR) => ([])) r_)
def V_spec_CrdGrant : Env := ⟨tys, [(19, c_spec_CrdRxOk), (73, c_spec_l8Rx)], [], [(1, 0), (2, 1), (3, 2), (5, 3)], [(7, ([1, 2], []))], [], []⟩
theorem CrIn.part {c : Cfg} {r : CrS} {f : Frm} (h : CrIn c r f) : PartP ⟨f.seg, f.len, f.data⟩ := by
  obtain ⟨_, _, h, hk⟩ := h
  unfold FrmP at h
  unfold PartP
  rcases h with h | h | h | h
  all_goals first | omega | exact h.2.2.2.2.2.2
theorem CrIn.seg {c : Cfg} {r : CrS} {f : Frm} (h : CrIn c r f) : 0 ≤ f.seg ∧ f.seg ≤ 3 := h.part.seg
theorem CrIn.got {c : Cfg} {r : CrS} {f : Frm} (h : CrIn c r f) : r.join.got.length ≤ 24 := by
  have := h.2.1.2
  unfold JoinP at this
  omega
theorem crd_got (c : Cfg) (r : CrS) (f : Frm) : (crdHear1 c r f).r.join.got.length ≤ r.join.got.length + f.data.length ∧ (crdHear1 c r f).sdus.length ≤ 1 ∧ ∀ y ∈ (crdHear1 c r f).sdus, y.length ≤ r.join.got.length + f.data.length := by
  have h := segPut_got r.join ⟨f.seg, f.len, f.data⟩
  unfold crdHear1
  dsimp only at h ⊢
  repeat' split
  all_goals simp
  all_goals omega

/-! (*impl.CrdRx).hear -/
def c_impl_CrdRx_hear : Ent := ctr (α := (CrS) × (Cfg) × (Frm)) (ρ := (CrHearR)) [] [] (rs rPCr (rs rCfg (rs1 rFrm))) (fun x_ => (fun (r : CrS) (c : Cfg) (f : Frm) => (CrIn c r f ∧ f.data.length ≤ 1000000000)) x_.1 x_.2.1 x_.2.2) (fun x_ r_ => (fun x_ => (fun (r : CrS) (c : Cfg) (f : Frm) => ((fun r_ => (fun (q : CrHearR) => (q = crdHear1 c r f)) r_))) x_.1 x_.2.1 x_.2.2) x_ r_) (fun r_ => (fun (q : CrHearR) => ([(rR .byr).to q.sdus])) r_) (fun r_ => (fun (q : CrHearR) => ([(crC q.r).map .d])) r_)
def V_impl_CrdRx_hear : Env := ⟨tys, [(113, c_impl_SegJoin_put)], [], [(4, 1), (5, 2), (7, 3)], [(7, ([3], []))], [], []⟩
/-! impl.CrdHear -/
def c_impl_CrdHear : Ent := ctr (α := (Cfg) × (CrS) × (Frm)) (ρ := (CrHearR)) [] [] (rs rCfg (rs rCr (rs1 rFrm))) (fun x_ => (fun (c : Cfg) (r : CrS) (f : Frm) => (f.data.length ≤ 1000000000)) x_.1 x_.2.1 x_.2.2) (fun x_ r_ => (fun x_ => (fun (c : Cfg) (r : CrS) (f : Frm) => ((fun r_ => (fun (q : CrHearR) => (q = crdHear c r f)) r_))) x_.1 x_.2.1 x_.2.2) x_ r_) (fun r_ => (fun (q : CrHearR) => ([rCr.to q.r, (rR .byr).to q.sdus])) r_) (fun r_ => (fun (q : CrHearR) => ([])) r_)
def V_impl_CrdHear : Env := ⟨tys, [(21, c_impl_CrdRxOk), (22, c_impl_FrmOk), (72, c_impl_CrdRx_copyOf), (76, c_impl_CfgOk), (108, c_impl_CrdRx_hear)], [], [(3, 0), (4, 1), (5, 2), (6, 3), (8, 4)], [], [], []⟩
/-! spec.CrdHear -/
def c_spec_CrdHear : Ent := ctr (α := (Cfg) × (CrS) × (Frm)) (ρ := (CrHearR)) [] [] (rs rCfg (rs rCr (rs1 rFrm))) (fun x_ => (fun (c : Cfg) (r : CrS) (f : Frm) => (f.data.length ≤ 1000000000)) x_.1 x_.2.1 x_.2.2) (fun x_ r_ => (fun x_ => (fun (c : Cfg) (r : CrS) (f : Frm) => ((fun r_ => (fun (q : CrHearR) => (q = crdHear c r f)) r_))) x_.1 x_.2.1 x_.2.2) x_ r_) (fun r_ => (fun (q : CrHearR) => ([rCr.to q.r, (rR .byr).to q.sdus])) r_) (fun r_ => (fun (q : CrHearR) => ([])) r_)
def V_spec_CrdHear : Env := ⟨tys, [(19, c_spec_CrdRxOk), (60, c_spec_CfgOk), (61, c_spec_FrmOk), (73, c_spec_l8Rx), (109, c_spec_l4Put), (110, c_spec_l7Sdus)], [], [(3, 0), (4, 1), (5, 2), (6, 3), (8, 4), (9, 5)], [], [], []⟩
/-! laws.liCrx -/
def c_laws_liCrx : Ent := ctr (α := (CrS) × (CrS)) (ρ := (Bool)) [] [] (rs rCr (rs1 rCr)) (fun x_ => (fun (a : CrS) (b : CrS) => (a.join.got.length ≤ LIM)) x_.1 x_.2) (fun x_ r_ => (fun x_ => (fun (a : CrS) (b : CrS) => ((fun r_ => (fun (r : Bool) => (r = decide (a = b))) r_))) x_.1 x_.2) x_ r_) (fun r_ => (fun (r : Bool) => ([rB.to r])) r_) (fun r_ => (fun (r : Bool) => ([])) r_)
def V_laws_liCrx : Env := ⟨tys, [(63, c_laws_liJoin)], [], [(2, 0), (3, 1)], [], [], []⟩
/-! spec.l20Crx -/
def c_spec_l20Crx : Ent := ctr (α := (RdS) × (Int)) (ρ := (CrS) × (RdS)) [] [] (rs rRd (rs1 rInt)) (fun x_ => (fun (r : RdS) (n : Int) => (RdOk r 40000000 ∧ n ≤ 1000)) x_.1 x_.2) (fun x_ r_ => (fun x_ => (fun (r : RdS) (n : Int) => ((fun r_ => (fun (x : CrS) (q : RdS) => (Bytes x.join.got ∧ x.join.got.length ≤ 1000 ∧ RdOn r q 2000)) r_.1 r_.2))) x_.1 x_.2) x_ r_) (fun r_ => (fun (x : CrS) (q : RdS) => ([rCr.to x])) r_.1 r_.2) (fun r_ => (fun (x : CrS) (q : RdS) => ([(rdC q).map .d])) r_.1 r_.2)
def V_spec_l20Crx : Env := ⟨tys, [(101, c_spec_l20Rd_pick), (106, c_spec_l20Rd_odd), (115, c_spec_l20Join)], [], [(4, 1), (5, 2)], [], [], []⟩
/-! spec.DrawCrdGrant -/
def c_spec_DrawCrdGrant : Ent := ctr (α := (List Int)) (ρ := (CrS)) [] [] (rs1 rBytes) (fun x_ => (fun (l : List Int) => (Bytes l)) x_) (fun x_ r_ => (fun x_ => (fun (l : List Int) => ((fun r_ => (fun (x : CrS) => (Bytes x.join.got ∧ x.join.got.length ≤ 1000)) r_))) x_) x_ r_) (fun r_ => (fun (x : CrS) => ([rCr.to x])) r_) (fun r_ => (fun (x : CrS) => ([])) r_)
def V_spec_DrawCrdGrant : Env := ⟨tys, [(70, c_spec_l20Crx), (71, c_spec_l20Open)], [], [(2, 0), (4, 1)], [], [], []⟩
/-! spec.DrawCrdHear -/
def c_spec_DrawCrdHear : Ent := ctr (α := (List Int)) (ρ := (Cfg) × (CrS) × (Frm)) [] [] (rs1 rBytes) (fun x_ => (fun (l : List Int) => (Bytes l)) x_) (fun x_ r_ => (fun x_ => (fun (l : List Int) => ((fun r_ => (fun (c : Cfg) (x : CrS) (f : Frm) => ((Bytes x.join.got ∧ x.join.got.length ≤ 1000) ∧ Bytes f.data ∧ f.data.length ≤ 1000)) r_.1 r_.2.1 r_.2.2))) x_) x_ r_) (fun r_ => (fun (c : Cfg) (x : CrS) (f : Frm) => ([rCfg.to c, rCr.to x, rFrm.to f])) r_.1 r_.2.1 r_.2.2) (fun r_ => (fun (c : Cfg) (x : CrS) (f : Frm) => ([])) r_.1 r_.2.1 r_.2.2)
def V_spec_DrawCrdHear : Env := ⟨tys, [(70, c_spec_l20Crx), (71, c_spec_l20Open), (88, c_spec_l20Cfg), (105, c_spec_l20Part), (106, c_spec_l20Rd_odd), (107, c_spec_l20Frame)], [], [(2, 0), (3, 1), (4, 2), (11, 3), (6, 4), (7, 5), (8, 6), (9, 7)], [(8, ([0, 1, 2], []))], [], []⟩
end Go.Proofs.YtlapeiijghebjaaE

/- Calls answer what is promised: R. Conditions: none. -/
set_option linter.unusedVariables false
set_option maxHeartbeats 1600000
namespace Go.Proofs.YtlapeiijghebjaaE
open Go
theorem vF_impl_CrdRxOk (r : CrS) (K : List Arg → List (List AC) → Prop) (hp : True) (hk : ∀ (v : Bool), (v = decide (CrP r)) → K ([rB.to v]) ([])) :
 (true = true) ∧
 (True ∧
 (∀ r1 : Bool,
 (r1 = (decide (((0 : Int) ≤ r.out) ∧ (r.out ≤ (255 : Int))))) →
 (true = true) ∧
 (if (r1 = true) then
 ((true = true) ∧
 (True ∧
 (∀ r2 : Bool,
 (r2 = (decide (JoinP r.join))) →
 (true = true) ∧
 ((true = true) ∧
 (K [(aB r2)] [])))))
 else
 ((true = true) ∧
 (K [(aB false)] []))))) := by
  repeat' first
    | exact rfl
    | exact True.intro
    | with_reducible apply And.intro
    | (with_reducible intro r hr; subst hr)
    | with_reducible intro r
    | (refine iteI (fun h => ?_) (fun h => ?_))
  all_goals try simp (disch := omega) only [wr] at *
  all_goals first
    | assumption
    | exact hk _ (by grind [CrP, JoinP, IntKind.wrap_i64])
    | (simp only [LIM] at *; omega)
    | grind [CrP, JoinP, LIM]
theorem w_impl_CrdRxOk : Valid Try.prog 21 c_impl_CrdRxOk :=
  valid_ctr2 (V := V_impl_CrdRxOk) (tysB_ok tys_ok) (CallsL.cons w_impl_in (CallsL.cons w_impl_JoinOk (CallsL.nil _))) mixed 0 1 Try.func21 rfl (by kernel_rfl)
    (fun c hc => by
      obtain rfl := Option.some.inj hc
      exact ⟨trivial, ⟨trivial, trivial⟩⟩)
    (fun x K hp hk => ⟨_, by kernel_rfl, vF_impl_CrdRxOk x K hp (fun v h => hk v h)⟩)
theorem vF_spec_CrdRxOk (r : CrS) (K : List Arg → List (List AC) → Prop) (hp : True) (hk : ∀ (v : Bool), (v = decide (CrP r)) → K ([rB.to v]) ([])) :
 (true = true) ∧
 (True ∧
 (∀ r1 : Bool,
 (r1 = (decide (((0 : Int) ≤ r.out) ∧ (r.out ≤ (255 : Int))))) →
 (true = true) ∧
 (if (r1 = true) then
 ((true = true) ∧
 (True ∧
 (∀ r2 : Bool,
 (r2 = (decide (JoinP r.join))) →
 (true = true) ∧
 ((true = true) ∧
 (K [(aB r2)] [])))))
 else
 ((true = true) ∧
 (K [(aB false)] []))))) := by
  repeat' first
    | exact rfl
    | exact True.intro
    | with_reducible apply And.intro
    | (with_reducible intro r hr; subst hr)
    | with_reducible intro r
    | (refine iteI (fun h => ?_) (fun h => ?_))
  all_goals try simp (disch := omega) only [wr] at *
  all_goals first
    | assumption
    | exact hk _ (by grind [CrP, JoinP, IntKind.wrap_i64])
    | (simp only [LIM] at *; omega)
    | grind [CrP, JoinP, LIM]
theorem w_spec_CrdRxOk : Valid Try.prog 19 c_spec_CrdRxOk :=
  valid_ctr2 (V := V_spec_CrdRxOk) (tysB_ok tys_ok) (CallsL.cons w_spec_l1In (CallsL.cons w_spec_JoinOk (CallsL.nil _))) mixed 0 1 Try.func19 rfl (by kernel_rfl)
    (fun c hc => by
      obtain rfl := Option.some.inj hc
      exact ⟨trivial, ⟨trivial, trivial⟩⟩)
    (fun x K hp hk => ⟨_, by kernel_rfl, vF_spec_CrdRxOk x K hp (fun v h => hk v h)⟩)
theorem vF_impl_CrdRx_copyOf (r : CrS) (K : List Arg → List (List AC) → Prop) (hp : r.join.got.length ≤ LIM) (hk : ∀ (x : CrS), (x = r) → K ([rCr.to x]) ([])) :
 (true = true) ∧
 (((List.length r.join.got) ≤ (137438953472 : Nat)) ∧
 (∀ r1 : (List Int),
 (r1 = r.join.got) →
 (true = true) ∧
 ((true = true) ∧
 (K [(Arg.v true [(AC.d (D.i IntKind.i64 r.out)), (AC.d (D.i IntKind.i64 r.join.len)), (AC.d (D.r RK.u8 r1)), (AC.d (D.b r.dead))])] [])))) := by
  repeat' first
    | exact rfl
    | exact True.intro
    | with_reducible apply And.intro
    | (with_reducible intro r hr; subst hr)
    | with_reducible intro r
    | (refine iteI (fun h => ?_) (fun h => ?_))
  all_goals try simp (disch := omega) only [wr] at *
  all_goals first
    | assumption
    | exact hk r rfl
    | exact hk _ (by grind [IntKind.wrap_i64])
    | (simp only [LIM] at *; omega)
    | grind [LIM]
theorem w_impl_CrdRx_copyOf : Valid Try.prog 72 c_impl_CrdRx_copyOf :=
  valid_ctr2 (V := V_impl_CrdRx_copyOf) (tysB_ok tys_ok) (CallsL.cons w_impl_clone_byte (CallsL.nil _)) mixed 0 2 Try.func72 rfl (by kernel_rfl)
    (fun c hc => by
      obtain rfl := Option.some.inj hc
      exact ⟨trivial, ⟨trivial, ⟨trivial, trivial⟩⟩⟩)
    (fun x K hp hk => ⟨_, by kernel_rfl, vF_impl_CrdRx_copyOf x K hp (fun x h => hk x h)⟩)
theorem vF_spec_l8Rx (r : CrS) (K : List Arg → List (List AC) → Prop) (hp : r.join.got.length ≤ LIM) (hk : ∀ (x : CrS), (x = r) → K ([rCr.to x]) ([])) :
 (((0 : Nat) + (List.length r.join.got)) ≤ (137438953472 : Nat)) ∧
 ((true = true) ∧
 (K [(Arg.v true [(AC.d (D.i IntKind.i64 r.out)), (AC.d (D.i IntKind.i64 r.join.len)), (AC.d (D.r RK.u8 (([] : (List Int)) ++ r.join.got : (List Int)))), (AC.d (D.b r.dead))])] [])) := by
  repeat' first
    | exact rfl
    | exact True.intro
    | with_reducible apply And.intro
    | (with_reducible intro r hr; subst hr)
    | with_reducible intro r
    | (refine iteI (fun h => ?_) (fun h => ?_))
  all_goals try simp (disch := omega) only [wr] at *
  all_goals first
    | assumption
    | exact hk r rfl
    | exact hk _ (by grind [IntKind.wrap_i64])
    | (simp only [LIM] at *; omega)
    | grind [LIM]
theorem w_spec_l8Rx : Valid Try.prog 73 c_spec_l8Rx :=
  valid_ctr2 (V := V_spec_l8Rx) (tysB_ok tys_ok) (CallsL.nil _) mixed 1 3 Try.func73 rfl (by kernel_rfl)
    (fun c hc => by
      obtain rfl := Option.some.inj hc
      exact ⟨trivial, ⟨trivial, ⟨trivial, ⟨trivial, trivial⟩⟩⟩⟩)
    (fun x K hp hk => ⟨_, by kernel_rfl, vF_spec_l8Rx x K hp (fun x h => hk x h)⟩)
theorem vF_impl_CrdGrant (r : CrS) (K : List Arg → List (List AC) → Prop) (hp : r.join.got.length ≤ LIM) (hk : ∀ (q : GrantR), (q = crdGrant r) → K ([rCr.to q.r, rFrm.to q.f, rB.to q.ok]) ([])) :
 (true = true) ∧
 (True ∧
 (∀ r1 : Bool,
 (r1 = (decide (CrP r))) →
 (true = true) ∧
 (if ((!r1) = true) then
 ((true = true) ∧
 (K [(Arg.v true [(AC.d (D.i IntKind.i64 (0 : Int))), (AC.d (D.i IntKind.i64 (0 : Int))), (AC.d (D.r RK.u8 ([] : (List Int)))), (AC.d (D.b false))]), (Arg.v true [(AC.d (D.i IntKind.i64 (0 : Int))), (AC.d (D.i IntKind.i64 (0 : Int))), (AC.d (D.i IntKind.i64 (0 : Int))), (AC.d (D.b false)), (AC.d (D.b false)), (AC.d (D.i IntKind.i64 (0 : Int))), (AC.d (D.i IntKind.i64 (0 : Int))), (AC.d (D.i IntKind.i64 (0 : Int))), (AC.d (D.r RK.u8 ([] : (List Int))))]), (aB false)] []))
 else
 ((true = true) ∧
 (((List.length r.join.got) ≤ (137438953472 : Nat)) ∧
 (∀ r2 : CrS,
 (r2 = r) →
 (true = true) ∧
 (if (r.dead = true) then
 ((true = true) ∧
 (K [(Arg.v true [(AC.d (D.i IntKind.i64 r2.out)), (AC.d (D.i IntKind.i64 r2.join.len)), (AC.d (D.r RK.u8 r2.join.got)), (AC.d (D.b r2.dead))]), (Arg.v true [(AC.d (D.i IntKind.i64 (0 : Int))), (AC.d (D.i IntKind.i64 (0 : Int))), (AC.d (D.i IntKind.i64 (0 : Int))), (AC.d (D.b false)), (AC.d (D.b false)), (AC.d (D.i IntKind.i64 (0 : Int))), (AC.d (D.i IntKind.i64 (0 : Int))), (AC.d (D.i IntKind.i64 (0 : Int))), (AC.d (D.r RK.u8 ([] : (List Int))))]), (aB false)] []))
 else
 (if ((decide (r.out ≥ (6 : Int))) = true) then
 ((true = true) ∧
 (K [(Arg.v true [(AC.d (D.i IntKind.i64 r2.out)), (AC.d (D.i IntKind.i64 r2.join.len)), (AC.d (D.r RK.u8 r2.join.got)), (AC.d (D.b r2.dead))]), (Arg.v true [(AC.d (D.i IntKind.i64 (0 : Int))), (AC.d (D.i IntKind.i64 (0 : Int))), (AC.d (D.i IntKind.i64 (0 : Int))), (AC.d (D.b false)), (AC.d (D.b false)), (AC.d (D.i IntKind.i64 (0 : Int))), (AC.d (D.i IntKind.i64 (0 : Int))), (AC.d (D.i IntKind.i64 (0 : Int))), (AC.d (D.r RK.u8 ([] : (List Int))))]), (aB false)] []))
 else
 ((true = true) ∧
 ((true = true) ∧
 ((true = true) ∧
 (K [(Arg.v true [(AC.d (D.i IntKind.i64 (6 : Int))), (AC.d (D.i IntKind.i64 r2.join.len)), (AC.d (D.r RK.u8 r2.join.got)), (AC.d (D.b r2.dead))]), (Arg.v true [(AC.d (D.i IntKind.i64 (4 : Int))), (AC.d (D.i IntKind.i64 (0 : Int))), (AC.d (D.i IntKind.i64 (0 : Int))), (AC.d (D.b false)), (AC.d (D.b false)), (AC.d (D.i IntKind.i64 (0 : Int))), (AC.d (D.i IntKind.i64 (0 : Int))), (AC.d (D.i IntKind.i64 (IntKind.wrap IntKind.i64 ((6 : Int) - r.out)))), (AC.d (D.r RK.u8 ([] : (List Int))))]), (aB true)] [])))))))))))) := by
  repeat' first
    | exact rfl
    | exact True.intro
    | with_reducible apply And.intro
    | (with_reducible intro y_ hy_; subst hy_)
    | with_reducible intro y_
    | (refine iteI (fun h => ?_) (fun h => ?_))
  all_goals try simp only [Bool.not_eq_true', decide_eq_false_iff_not, decide_eq_true_eq, Bool.not_eq_true, bne_iff_ne, beq_iff_eq, ne_eq, Decidable.not_not, Bool.not_eq_false, gt_iff_lt, ge_iff_le, Int.not_le, Int.not_lt, beq_eq_false_iff_ne, bne_eq_false_iff_eq, Bool.and_eq_true, Bool.or_eq_true, Bool.true_eq_false, Bool.false_eq_true] at *
  all_goals try simp (disch := first | omega | grind [crdGrant, CrP, JoinP]) only [wr] at *
  all_goals first
    | assumption
    | omega
    | (have h := hk _ rfl
       unfold crdGrant at h
       try dsimp only at h
       first
       | exact h
       | (repeat' split at h
          all_goals first | exact h | (exfalso; grind [crdGrant, CrP, JoinP]) | (exfalso; simp at *; omega)))
    | exact hk _ (by grind [crdGrant, CrP, JoinP])
    | (simp only [LIM] at *; omega)
    | grind [crdGrant, CrP, JoinP, LIM]
theorem w_impl_CrdGrant : Valid Try.prog 15 c_impl_CrdGrant :=
  valid_ctr2 (V := V_impl_CrdGrant) (tysB_ok tys_ok) (CallsL.cons w_impl_CrdRxOk (CallsL.cons w_impl_CrdRx_copyOf (CallsL.nil _))) mixed 0 4 Try.func15 rfl (by kernel_rfl)
    (fun c hc => by
      obtain rfl := Option.some.inj hc
      exact ⟨trivial, ⟨⟨trivial, ⟨⟨trivial, trivial⟩, trivial⟩⟩, ⟨trivial, ⟨⟨trivial, ⟨⟨trivial, trivial⟩, trivial⟩⟩, ⟨trivial, ⟨trivial, trivial⟩⟩⟩⟩⟩⟩)
    (fun x K hp hk => ⟨_, by kernel_rfl, vF_impl_CrdGrant x K hp (fun q h => hk q h)⟩)
theorem vF_spec_CrdGrant (r : CrS) (K : List Arg → List (List AC) → Prop) (hp : r.join.got.length ≤ LIM) (hk : ∀ (q : GrantR), (q = crdGrant r) → K ([rCr.to q.r, rFrm.to q.f, rB.to q.ok]) ([])) :
 (true = true) ∧
 (True ∧
 (∀ r1 : Bool,
 (r1 = (decide (CrP r))) →
 (true = true) ∧
 (if ((!r1) = true) then
 ((true = true) ∧
 (K [(Arg.v true [(AC.d (D.i IntKind.i64 (0 : Int))), (AC.d (D.i IntKind.i64 (0 : Int))), (AC.d (D.r RK.u8 ([] : (List Int)))), (AC.d (D.b false))]), (Arg.v true [(AC.d (D.i IntKind.i64 (0 : Int))), (AC.d (D.i IntKind.i64 (0 : Int))), (AC.d (D.i IntKind.i64 (0 : Int))), (AC.d (D.b false)), (AC.d (D.b false)), (AC.d (D.i IntKind.i64 (0 : Int))), (AC.d (D.i IntKind.i64 (0 : Int))), (AC.d (D.i IntKind.i64 (0 : Int))), (AC.d (D.r RK.u8 ([] : (List Int))))]), (aB false)] []))
 else
 ((true = true) ∧
 (((List.length r.join.got) ≤ (137438953472 : Nat)) ∧
 (∀ r2 : CrS,
 (r2 = r) →
 (true = true) ∧
 (if (r.dead = true) then
 ((true = true) ∧
 (K [(Arg.v true [(AC.d (D.i IntKind.i64 r2.out)), (AC.d (D.i IntKind.i64 r2.join.len)), (AC.d (D.r RK.u8 r2.join.got)), (AC.d (D.b r2.dead))]), (Arg.v true [(AC.d (D.i IntKind.i64 (0 : Int))), (AC.d (D.i IntKind.i64 (0 : Int))), (AC.d (D.i IntKind.i64 (0 : Int))), (AC.d (D.b false)), (AC.d (D.b false)), (AC.d (D.i IntKind.i64 (0 : Int))), (AC.d (D.i IntKind.i64 (0 : Int))), (AC.d (D.i IntKind.i64 (0 : Int))), (AC.d (D.r RK.u8 ([] : (List Int))))]), (aB false)] []))
 else
 (if ((decide (r.out ≥ (6 : Int))) = true) then
 ((true = true) ∧
 (K [(Arg.v true [(AC.d (D.i IntKind.i64 r2.out)), (AC.d (D.i IntKind.i64 r2.join.len)), (AC.d (D.r RK.u8 r2.join.got)), (AC.d (D.b r2.dead))]), (Arg.v true [(AC.d (D.i IntKind.i64 (0 : Int))), (AC.d (D.i IntKind.i64 (0 : Int))), (AC.d (D.i IntKind.i64 (0 : Int))), (AC.d (D.b false)), (AC.d (D.b false)), (AC.d (D.i IntKind.i64 (0 : Int))), (AC.d (D.i IntKind.i64 (0 : Int))), (AC.d (D.i IntKind.i64 (0 : Int))), (AC.d (D.r RK.u8 ([] : (List Int))))]), (aB false)] []))
 else
 ((true = true) ∧
 ((true = true) ∧
 ((true = true) ∧
 (K [(Arg.v true [(AC.d (D.i IntKind.i64 (6 : Int))), (AC.d (D.i IntKind.i64 r2.join.len)), (AC.d (D.r RK.u8 r2.join.got)), (AC.d (D.b r2.dead))]), (Arg.v true [(AC.d (D.i IntKind.i64 (4 : Int))), (AC.d (D.i IntKind.i64 (0 : Int))), (AC.d (D.i IntKind.i64 (0 : Int))), (AC.d (D.b false)), (AC.d (D.b false)), (AC.d (D.i IntKind.i64 (0 : Int))), (AC.d (D.i IntKind.i64 (0 : Int))), (AC.d (D.i IntKind.i64 (IntKind.wrap IntKind.i64 ((6 : Int) - r.out)))), (AC.d (D.r RK.u8 ([] : (List Int))))]), (aB true)] [])))))))))))) := by
  repeat' first
    | exact rfl
    | exact True.intro
    | with_reducible apply And.intro
    | (with_reducible intro y_ hy_; subst hy_)
    | with_reducible intro y_
    | (refine iteI (fun h => ?_) (fun h => ?_))
  all_goals try simp only [Bool.not_eq_true', decide_eq_false_iff_not, decide_eq_true_eq, Bool.not_eq_true, bne_iff_ne, beq_iff_eq, ne_eq, Decidable.not_not, Bool.not_eq_false, gt_iff_lt, ge_iff_le, Int.not_le, Int.not_lt, beq_eq_false_iff_ne, bne_eq_false_iff_eq, Bool.and_eq_true, Bool.or_eq_true, Bool.true_eq_false, Bool.false_eq_true] at *
  all_goals try simp (disch := first | omega | grind [crdGrant, CrP, JoinP]) only [wr] at *
  all_goals first
    | assumption
    | omega
    | (have h := hk _ rfl
       unfold crdGrant at h
       try dsimp only at h
       first
       | exact h
       | (repeat' split at h
          all_goals first | exact h | (exfalso; grind [crdGrant, CrP, JoinP]) | (exfalso; simp at *; omega)))
    | exact hk _ (by grind [crdGrant, CrP, JoinP])
    | (simp only [LIM] at *; omega)
    | grind [crdGrant, CrP, JoinP, LIM]
theorem w_spec_CrdGrant : Valid Try.prog 16 c_spec_CrdGrant :=
  valid_ctr2 (V := V_spec_CrdGrant) (tysB_ok tys_ok) (CallsL.cons w_spec_CrdRxOk (CallsL.cons w_spec_l8Rx (CallsL.nil _))) mixed 0 4 Try.func16 rfl (by kernel_rfl)
    (fun c hc => by
      obtain rfl := Option.some.inj hc
      exact ⟨trivial, ⟨⟨trivial, ⟨⟨trivial, trivial⟩, trivial⟩⟩, ⟨trivial, ⟨⟨trivial, ⟨⟨trivial, trivial⟩, trivial⟩⟩, ⟨trivial, ⟨trivial, trivial⟩⟩⟩⟩⟩⟩)
    (fun x K hp hk => ⟨_, by kernel_rfl, vF_spec_CrdGrant x K hp (fun q h => hk q h)⟩)
theorem vF_impl_CrdRx_hear (r : CrS) (c : Cfg) (f : Frm) (K : List Arg → List (List AC) → Prop) (hp : CrIn c r f ∧ f.data.length ≤ 1000000000) (hk : ∀ (q : CrHearR), (q = crdHear1 c r f) → K ([(rR .byr).to q.sdus]) ([(crC q.r).map .d])) :
 if (r.dead = true) then
 ((true = true) ∧
 (K [(aR RK.byr ([] : (List (List Int))))] [[(AC.d (D.i IntKind.i64 r.out)), (AC.d (D.i IntKind.i64 r.join.len)), (AC.d (D.r RK.u8 r.join.got)), (AC.d (D.b r.dead))]]))
 else
 (if ((r.out == (0 : Int)) = true) then
 ((true = true) ∧
 (K [(aR RK.byr ([] : (List (List Int))))] [[(AC.d (D.i IntKind.i64 r.out)), (AC.d (D.i IntKind.i64 r.join.len)), (AC.d (D.r RK.u8 r.join.got)), (AC.d (D.b true))]]))
 else
 (if ((decide (f.len > c.mtu)) = true) then
 ((true = true) ∧
 (K [(aR RK.byr ([] : (List (List Int))))] [[(AC.d (D.i IntKind.i64 r.out)), (AC.d (D.i IntKind.i64 r.join.len)), (AC.d (D.r RK.u8 r.join.got)), (AC.d (D.b true))]]))
 else
 (if ((decide ((((List.length f.data) : Nat) : Int) > c.mps)) = true) then
 ((true = true) ∧
 (K [(aR RK.byr ([] : (List (List Int))))] [[(AC.d (D.i IntKind.i64 r.out)), (AC.d (D.i IntKind.i64 r.join.len)), (AC.d (D.r RK.u8 r.join.got)), (AC.d (D.b true))]]))
 else
 ((true = true) ∧
 (((JoinP r.join) ∧
 (((0 : Int) ≤ f.seg) ∧
 ((f.seg ≤ (3 : Int)) ∧
 ((List.length f.data) ≤ (1000000000 : Nat))))) ∧
 (∀ r1 : PutR,
 (r1 = (segPut r.join (Part.mk f.seg f.len f.data))) →
 (true = true) ∧
 ((true = true) ∧
 ((true = true) ∧
 (if ((r1.how == (3 : Int)) = true) then
 ((true = true) ∧
 (K [(aR RK.byr ([] : (List (List Int))))] [[(AC.d (D.i IntKind.i64 (IntKind.wrap IntKind.i64 (r.out - (1 : Int))))), (AC.d (D.i IntKind.i64 r1.j.len)), (AC.d (D.r RK.u8 r1.j.got)), (AC.d (D.b true))]]))
 else
 (if ((r1.how == (2 : Int)) = true) then
 ((true = true) ∧
 (K [(aR RK.byr (r1.sdu :: ([] : (List (List Int))) : (List (List Int))))] [[(AC.d (D.i IntKind.i64 (IntKind.wrap IntKind.i64 (r.out - (1 : Int))))), (AC.d (D.i IntKind.i64 r1.j.len)), (AC.d (D.r RK.u8 r1.j.got)), (AC.d (D.b r.dead))]]))
 else
 ((true = true) ∧
 (K [(aR RK.byr ([] : (List (List Int))))] [[(AC.d (D.i IntKind.i64 (IntKind.wrap IntKind.i64 (r.out - (1 : Int))))), (AC.d (D.i IntKind.i64 r1.j.len)), (AC.d (D.r RK.u8 r1.j.got)), (AC.d (D.b r.dead))]])))))))))))) := by
  have hseg := CrIn.seg hp.1
  have hgot := CrIn.got hp.1
  have hrx := hp.1.2.1
  simp only [CrP, JoinP] at hrx

  repeat' first
    | exact rfl
    | exact True.intro
    | with_reducible apply And.intro
    | (with_reducible intro r hr; subst hr)
    | with_reducible intro r
    | (refine iteI (fun h => ?_) (fun h => ?_))
  all_goals try simp (disch := omega) only [wr] at *
  all_goals first
    | assumption
    | exact hp.1.2.1.2
    | (have h := hk _ rfl
       unfold crdHear1 at h
       try dsimp only at h
       repeat' split at h
       all_goals first | exact h | (exfalso; grind []) | (exfalso; simp at *; omega))
    | exact hk _ (by grind [CrIn, CrP, JoinP, FrmP, IntKind.wrap_i64])
    | (simp only [LIM] at *; omega)
    | grind [CrIn, CrP, JoinP, FrmP, LIM]
theorem w_impl_CrdRx_hear : Valid Try.prog 108 c_impl_CrdRx_hear :=
  valid_ctr2 (V := V_impl_CrdRx_hear) (tysB_ok tys_ok) (CallsL.cons w_impl_SegJoin_put (CallsL.nil _)) mixed 0 3 Try.func108 rfl (by kernel_rfl)
    (fun c hc => by
      obtain rfl := Option.some.inj hc
      exact ⟨trivial, ⟨⟨trivial, ⟨⟨trivial, trivial⟩, ⟨trivial, ⟨⟨trivial, ⟨trivial, trivial⟩⟩, trivial⟩⟩⟩⟩, ⟨trivial, ⟨trivial, ⟨trivial, ⟨⟨trivial, ⟨trivial, ⟨trivial, ⟨trivial, ⟨⟨trivial, trivial⟩, trivial⟩⟩⟩⟩⟩, ⟨trivial, trivial⟩⟩⟩⟩⟩⟩⟩)
    (fun x K hp hk => ⟨_, by kernel_rfl, vF_impl_CrdRx_hear x.1 x.2.1 x.2.2 K hp (fun q h => hk q h)⟩)
theorem vF_impl_CrdHear (c : Cfg) (r : CrS) (f : Frm) (K : List Arg → List (List AC) → Prop) (hp : f.data.length ≤ 1000000000) (hk : ∀ (q : CrHearR), (q = crdHear c r f) → K ([rCr.to q.r, (rR .byr).to q.sdus]) ([])) :
 (true = true) ∧
 (True ∧
 (∀ r1 : Bool,
 (r1 = (decide (CfgP c))) →
 (true = true) ∧
 (if ((!r1) = true) then
 ((true = true) ∧
 (K [(Arg.v true [(AC.d (D.i IntKind.i64 (0 : Int))), (AC.d (D.i IntKind.i64 (0 : Int))), (AC.d (D.r RK.u8 ([] : (List Int)))), (AC.d (D.b false))]), (aR RK.byr ([] : (List (List Int))))] []))
 else
 ((true = true) ∧
 (True ∧
 (∀ r2 : Bool,
 (r2 = (decide (CrP r))) →
 (true = true) ∧
 (if ((!r2) = true) then
 ((true = true) ∧
 (K [(Arg.v true [(AC.d (D.i IntKind.i64 (0 : Int))), (AC.d (D.i IntKind.i64 (0 : Int))), (AC.d (D.r RK.u8 ([] : (List Int)))), (AC.d (D.b false))]), (aR RK.byr ([] : (List (List Int))))] []))
 else
 (if ((f.kind != (3 : Int)) = true) then
 ((true = true) ∧
 (K [(Arg.v true [(AC.d (D.i IntKind.i64 (0 : Int))), (AC.d (D.i IntKind.i64 (0 : Int))), (AC.d (D.r RK.u8 ([] : (List Int)))), (AC.d (D.b false))]), (aR RK.byr ([] : (List (List Int))))] []))
 else
 ((true = true) ∧
 (((List.length f.data) ≤ (137438953472 : Nat)) ∧
 (∀ r3 : Bool,
 (r3 = (decide (FrmP f))) →
 (true = true) ∧
 (if ((!r3) = true) then
 ((true = true) ∧
 (K [(Arg.v true [(AC.d (D.i IntKind.i64 (0 : Int))), (AC.d (D.i IntKind.i64 (0 : Int))), (AC.d (D.r RK.u8 ([] : (List Int)))), (AC.d (D.b false))]), (aR RK.byr ([] : (List (List Int))))] []))
 else
 ((true = true) ∧
 (((List.length r.join.got) ≤ (137438953472 : Nat)) ∧
 (∀ r4 : CrS,
 (r4 = r) →
 (true = true) ∧
 ((true = true) ∧
 (((CrIn c r4 f) ∧
 ((List.length f.data) ≤ (1000000000 : Nat))) ∧
 (∀ r5 : CrHearR,
 (r5 = (crdHear1 c r4 f)) →
 (true = true) ∧
 ((true = true) ∧
 (((List.length r5.r.join.got) ≤ (137438953472 : Nat)) ∧
 (∀ r6 : CrS,
 (r6 = r5.r) →
 (true = true) ∧
 ((true = true) ∧
 (K [(Arg.v true [(AC.d (D.i IntKind.i64 r6.out)), (AC.d (D.i IntKind.i64 r6.join.len)), (AC.d (D.r RK.u8 r6.join.got)), (AC.d (D.b r6.dead))]), (aR RK.byr r5.sdus)] []))))))))))))))))))))))) := by
  repeat' first
    | exact rfl
    | exact True.intro
    | with_reducible apply And.intro
    | (with_reducible intro y_ hy_; subst hy_)
    | with_reducible intro y_
    | (refine iteI (fun h => ?_) (fun h => ?_))
  all_goals try simp only [Bool.not_eq_true', decide_eq_false_iff_not, decide_eq_true_eq, Bool.not_eq_true, bne_iff_ne, beq_iff_eq, ne_eq, Decidable.not_not, Bool.not_eq_false, gt_iff_lt, ge_iff_le, Int.not_le, Int.not_lt, beq_eq_false_iff_ne, bne_eq_false_iff_eq, Bool.and_eq_true, Bool.or_eq_true, Bool.true_eq_false, Bool.false_eq_true] at *
  all_goals try simp (disch := first | omega | grind [CrIn, CrP, JoinP]) only [wr] at *
  all_goals first
    | assumption
    | omega
    | (have h2 : CrIn c _ f := ⟨by assumption, ‹CrP _›, by assumption, by assumption⟩
       exact Nat.le_trans (crd_got c _ f).1 (by have h4 := h2.got; omega))
    | (have h2 := CrIn.seg (c := c) (f := f) ⟨by assumption, ‹CrP _›, by assumption, by assumption⟩
       omega)
    | exact (‹CrP _› : CrP _).2
    | (have h4 := CrIn.got (c := c) (f := f) ⟨by assumption, ‹CrP _›, by assumption, by assumption⟩
       first
       | exact Nat.le_trans (segPut_got _ _).1 (by dsimp only; omega)
       | exact Nat.le_trans (segPut_got _ _).2 (by dsimp only; omega)
       | (cases ‹List.Mem _ _› with
         | head => exact Nat.le_trans (segPut_got _ _).2 (by dsimp only; omega)
         | tail _ h9 => cases h9))
    | (have h := hk _ rfl
       unfold crdHear at h
       try dsimp only at h
       first
       | exact h
       | (repeat' split at h
          all_goals first | exact h | (exfalso; grind [CrIn, CrP, JoinP]) | (exfalso; simp at *; omega)))
    | (have h := hk _ rfl
       unfold crdHear crdHear1 at h
       try dsimp only at h
       repeat' split at h
       all_goals first | exact h | (exfalso; grind [CrIn, CrP, JoinP]) | (exfalso; simp at *; omega))
    | exact hk _ (by grind [CrIn, CrP, JoinP])
    | (simp only [LIM] at *; omega)
    | grind [CrIn, CrP, JoinP, LIM]
theorem w_impl_CrdHear : Valid Try.prog 57 c_impl_CrdHear :=
  valid_ctr2 (V := V_impl_CrdHear) (tysB_ok tys_ok) (CallsL.cons w_impl_CrdRxOk (CallsL.cons w_impl_FrmOk (CallsL.cons w_impl_CrdRx_copyOf (CallsL.cons w_impl_CfgOk (CallsL.cons w_impl_CrdRx_hear (CallsL.nil _)))))) mixed 0 5 Try.func57 rfl (by kernel_rfl)
    (fun c hc => by
      obtain rfl := Option.some.inj hc
      exact ⟨trivial, ⟨⟨trivial, ⟨⟨trivial, trivial⟩, trivial⟩⟩, ⟨trivial, ⟨trivial, ⟨trivial, trivial⟩⟩⟩⟩⟩)
    (fun x K hp hk => ⟨_, by kernel_rfl, vF_impl_CrdHear x.1 x.2.1 x.2.2 K hp (fun q h => hk q h)⟩)
theorem vF_spec_CrdHear (c : Cfg) (r : CrS) (f : Frm) (K : List Arg → List (List AC) → Prop) (hp : f.data.length ≤ 1000000000) (hk : ∀ (q : CrHearR), (q = crdHear c r f) → K ([rCr.to q.r, (rR .byr).to q.sdus]) ([])) :
 (true = true) ∧
 (True ∧
 (∀ r1 : Bool,
 (r1 = (decide (CfgP c))) →
 (true = true) ∧
 (if ((!r1) = true) then
 ((true = true) ∧
 (K [(Arg.v true [(AC.d (D.i IntKind.i64 (0 : Int))), (AC.d (D.i IntKind.i64 (0 : Int))), (AC.d (D.r RK.u8 ([] : (List Int)))), (AC.d (D.b false))]), (aR RK.byr ([] : (List (List Int))))] []))
 else
 ((true = true) ∧
 (True ∧
 (∀ r2 : Bool,
 (r2 = (decide (CrP r))) →
 (true = true) ∧
 (if ((!r2) = true) then
 ((true = true) ∧
 (K [(Arg.v true [(AC.d (D.i IntKind.i64 (0 : Int))), (AC.d (D.i IntKind.i64 (0 : Int))), (AC.d (D.r RK.u8 ([] : (List Int)))), (AC.d (D.b false))]), (aR RK.byr ([] : (List (List Int))))] []))
 else
 ((true = true) ∧
 (True ∧
 (∀ r3 : Bool,
 (r3 = (decide (FrmP f))) →
 (true = true) ∧
 (if ((!r3) = true) then
 ((true = true) ∧
 (K [(Arg.v true [(AC.d (D.i IntKind.i64 (0 : Int))), (AC.d (D.i IntKind.i64 (0 : Int))), (AC.d (D.r RK.u8 ([] : (List Int)))), (AC.d (D.b false))]), (aR RK.byr ([] : (List (List Int))))] []))
 else
 (if ((f.kind != (3 : Int)) = true) then
 ((true = true) ∧
 (K [(Arg.v true [(AC.d (D.i IntKind.i64 (0 : Int))), (AC.d (D.i IntKind.i64 (0 : Int))), (AC.d (D.r RK.u8 ([] : (List Int)))), (AC.d (D.b false))]), (aR RK.byr ([] : (List (List Int))))] []))
 else
 ((true = true) ∧
 (((List.length r.join.got) ≤ (137438953472 : Nat)) ∧
 (∀ r4 : CrS,
 (r4 = r) →
 (true = true) ∧
 (if (r.dead = true) then
 ((true = true) ∧
 (K [(Arg.v true [(AC.d (D.i IntKind.i64 r4.out)), (AC.d (D.i IntKind.i64 r4.join.len)), (AC.d (D.r RK.u8 r4.join.got)), (AC.d (D.b r4.dead))]), (aR RK.byr ([] : (List (List Int))))] []))
 else
 (if ((r.out == (0 : Int)) = true) then
 ((true = true) ∧
 (K [(Arg.v true [(AC.d (D.i IntKind.i64 r4.out)), (AC.d (D.i IntKind.i64 r4.join.len)), (AC.d (D.r RK.u8 r4.join.got)), (AC.d (D.b true))]), (aR RK.byr ([] : (List (List Int))))] []))
 else
 (if ((decide (f.len > c.mtu)) = true) then
 ((true = true) ∧
 (K [(Arg.v true [(AC.d (D.i IntKind.i64 r4.out)), (AC.d (D.i IntKind.i64 r4.join.len)), (AC.d (D.r RK.u8 r4.join.got)), (AC.d (D.b true))]), (aR RK.byr ([] : (List (List Int))))] []))
 else
 (if ((decide ((((List.length f.data) : Nat) : Int) > c.mps)) = true) then
 ((true = true) ∧
 (K [(Arg.v true [(AC.d (D.i IntKind.i64 r4.out)), (AC.d (D.i IntKind.i64 r4.join.len)), (AC.d (D.r RK.u8 r4.join.got)), (AC.d (D.b true))]), (aR RK.byr ([] : (List (List Int))))] []))
 else
 ((true = true) ∧
 (((JoinP r4.join) ∧
 (((0 : Int) ≤ f.seg) ∧
 ((f.seg ≤ (3 : Int)) ∧
 ((List.length f.data) ≤ (1000000000 : Nat))))) ∧
 (∀ r5 : PutR,
 (r5 = (segPut r4.join (Part.mk f.seg f.len f.data))) →
 (true = true) ∧
 (if ((r5.how == (3 : Int)) = true) then
 (if ((r5.how == (2 : Int)) = true) then
 ((true = true) ∧
 (((List.length r5.j.got) ≤ (137438953472 : Nat)) ∧
 (∀ r6 : CrS,
 (r6 = (CrS.mk (IntKind.wrap IntKind.i64 (r.out - (1 : Int))) r5.j true)) →
 (true = true) ∧
 ((true = true) ∧
 ((((List.length (r5.sdu :: ([] : (List (List Int))) : (List (List Int)))) ≤ (1000 : Nat)) ∧
 (∀ y : (List Int),
 (List.Mem y (r5.sdu :: ([] : (List (List Int))) : (List (List Int)))) →
 ((List.length y) ≤ (137438953472 : Nat)))) ∧
 (∀ r7 : (List (List Int)),
 (r7 = (r5.sdu :: ([] : (List (List Int))) : (List (List Int)))) →
 (true = true) ∧
 ((true = true) ∧
 (K [(Arg.v true [(AC.d (D.i IntKind.i64 r6.out)), (AC.d (D.i IntKind.i64 r6.join.len)), (AC.d (D.r RK.u8 r6.join.got)), (AC.d (D.b r6.dead))]), (aR RK.byr r7)] []))))))))
 else
 ((true = true) ∧
 (((List.length r5.j.got) ≤ (137438953472 : Nat)) ∧
 (∀ r6 : CrS,
 (r6 = (CrS.mk (IntKind.wrap IntKind.i64 (r.out - (1 : Int))) r5.j true)) →
 (true = true) ∧
 ((true = true) ∧
 (K [(Arg.v true [(AC.d (D.i IntKind.i64 r6.out)), (AC.d (D.i IntKind.i64 r6.join.len)), (AC.d (D.r RK.u8 r6.join.got)), (AC.d (D.b r6.dead))]), (aR RK.byr ([] : (List (List Int))))] []))))))
 else
 (if ((r5.how == (2 : Int)) = true) then
 ((true = true) ∧
 (((List.length r5.j.got) ≤ (137438953472 : Nat)) ∧
 (∀ r6 : CrS,
 (r6 = (CrS.mk (IntKind.wrap IntKind.i64 (r.out - (1 : Int))) r5.j r4.dead)) →
 (true = true) ∧
 ((true = true) ∧
 ((((List.length (r5.sdu :: ([] : (List (List Int))) : (List (List Int)))) ≤ (1000 : Nat)) ∧
 (∀ y : (List Int),
 (List.Mem y (r5.sdu :: ([] : (List (List Int))) : (List (List Int)))) →
 ((List.length y) ≤ (137438953472 : Nat)))) ∧
 (∀ r7 : (List (List Int)),
 (r7 = (r5.sdu :: ([] : (List (List Int))) : (List (List Int)))) →
 (true = true) ∧
 ((true = true) ∧
 (K [(Arg.v true [(AC.d (D.i IntKind.i64 r6.out)), (AC.d (D.i IntKind.i64 r6.join.len)), (AC.d (D.r RK.u8 r6.join.got)), (AC.d (D.b r6.dead))]), (aR RK.byr r7)] []))))))))
 else
 ((true = true) ∧
 (((List.length r5.j.got) ≤ (137438953472 : Nat)) ∧
 (∀ r6 : CrS,
 (r6 = (CrS.mk (IntKind.wrap IntKind.i64 (r.out - (1 : Int))) r5.j r4.dead)) →
 (true = true) ∧
 ((true = true) ∧
 (K [(Arg.v true [(AC.d (D.i IntKind.i64 r6.out)), (AC.d (D.i IntKind.i64 r6.join.len)), (AC.d (D.r RK.u8 r6.join.got)), (AC.d (D.b r6.dead))]), (aR RK.byr ([] : (List (List Int))))] []))))))))))))))))))))))))))))) := by
  repeat' first
    | exact rfl
    | exact True.intro
    | with_reducible apply And.intro
    | (with_reducible intro y_ hy_; subst hy_)
    | with_reducible intro y_
    | (refine iteI (fun h => ?_) (fun h => ?_))
  all_goals try simp only [Bool.not_eq_true', decide_eq_false_iff_not, decide_eq_true_eq, Bool.not_eq_true, bne_iff_ne, beq_iff_eq, ne_eq, Decidable.not_not, Bool.not_eq_false, gt_iff_lt, ge_iff_le, Int.not_le, Int.not_lt, beq_eq_false_iff_ne, bne_eq_false_iff_eq, Bool.and_eq_true, Bool.or_eq_true, Bool.true_eq_false, Bool.false_eq_true] at *
  all_goals try simp (disch := first | omega | grind [CrIn, CrP, JoinP]) only [wr] at *
  all_goals first
    | assumption
    | omega
    | (have h2 : CrIn c _ f := ⟨by assumption, ‹CrP _›, by assumption, by assumption⟩
       exact Nat.le_trans (crd_got c _ f).1 (by have h4 := h2.got; omega))
    | (have h2 := CrIn.seg (c := c) (f := f) ⟨by assumption, ‹CrP _›, by assumption, by assumption⟩
       omega)
    | exact (‹CrP _› : CrP _).2
    | (have h4 := CrIn.got (c := c) (f := f) ⟨by assumption, ‹CrP _›, by assumption, by assumption⟩
       first
       | exact Nat.le_trans (segPut_got _ _).1 (by dsimp only; omega)
       | exact Nat.le_trans (segPut_got _ _).2 (by dsimp only; omega)
       | (cases ‹List.Mem _ _› with
         | head => exact Nat.le_trans (segPut_got _ _).2 (by dsimp only; omega)
         | tail _ h9 => cases h9))
    | (have h := hk _ rfl
       unfold crdHear at h
       try dsimp only at h
       first
       | exact h
       | (repeat' split at h
          all_goals first | exact h | (exfalso; grind [CrIn, CrP, JoinP]) | (exfalso; simp at *; omega)))
    | (have h := hk _ rfl
       unfold crdHear crdHear1 at h
       try dsimp only at h
       repeat' split at h
       all_goals first | exact h | (exfalso; grind [CrIn, CrP, JoinP]) | (exfalso; simp at *; omega))
    | exact hk _ (by grind [CrIn, CrP, JoinP])
    | (simp only [LIM] at *; omega)
    | grind [CrIn, CrP, JoinP, LIM]
theorem w_spec_CrdHear : Valid Try.prog 58 c_spec_CrdHear :=
  valid_ctr2 (V := V_spec_CrdHear) (tysB_ok tys_ok) (CallsL.cons w_spec_CrdRxOk (CallsL.cons w_spec_CfgOk (CallsL.cons w_spec_FrmOk (CallsL.cons w_spec_l8Rx (CallsL.cons w_spec_l4Put (CallsL.cons w_spec_l7Sdus (CallsL.nil _))))))) mixed 0 6 Try.func58 rfl (by kernel_rfl)
    (fun c hc => by
      obtain rfl := Option.some.inj hc
      exact ⟨trivial, ⟨⟨trivial, ⟨⟨trivial, trivial⟩, trivial⟩⟩, ⟨trivial, ⟨⟨trivial, ⟨⟨trivial, trivial⟩, trivial⟩⟩, ⟨⟨trivial, ⟨⟨trivial, ⟨trivial, trivial⟩⟩, trivial⟩⟩, ⟨trivial, ⟨trivial, ⟨trivial, ⟨⟨trivial, ⟨trivial, trivial⟩⟩, ⟨⟨trivial, ⟨⟨trivial, trivial⟩, trivial⟩⟩, ⟨trivial, trivial⟩⟩⟩⟩⟩⟩⟩⟩⟩⟩⟩)
    (fun x K hp hk => ⟨_, by kernel_rfl, vF_spec_CrdHear x.1 x.2.1 x.2.2 K hp (fun q h => hk q h)⟩)
theorem vF_laws_liCrx (a : CrS) (b : CrS) (K : List Arg → List (List AC) → Prop) (hp : a.join.got.length ≤ LIM) (hk : ∀ (r : Bool), (r = decide (a = b)) → K ([rB.to r]) ([])) :
 if ((a.out == b.out) = true) then
 ((true = true) ∧
 (((List.length a.join.got) ≤ (137438953472 : Nat)) ∧
 (∀ r : Bool,
 (r = (decide (a.join = b.join))) →
 (true = true) ∧
 (if (r = true) then
 ((true = true) ∧
 (K [(aB (a.dead == b.dead))] []))
 else
 ((true = true) ∧
 (K [(aB false)] []))))))
 else
 ((true = true) ∧
 (K [(aB false)] [])) := by
  obtain ⟨_, ⟨_, _⟩, _⟩ := a
  obtain ⟨_, ⟨_, _⟩, _⟩ := b

  repeat' first
    | exact rfl
    | exact True.intro
    | with_reducible apply And.intro
    | (with_reducible intro r hr; subst hr)
    | with_reducible intro r
    | (refine iteI (fun h => ?_) (fun h => ?_))
  all_goals try simp (disch := omega) only [wr] at *
  all_goals first
    | assumption
    | exact hk _ (by grind [IntKind.wrap_i64])
    | (simp only [LIM] at *; omega)
    | grind [LIM]
theorem w_laws_liCrx : Valid Try.prog 17 c_laws_liCrx :=
  valid_ctr2 (V := V_laws_liCrx) (tysB_ok tys_ok) (CallsL.cons w_laws_liJoin (CallsL.nil _)) mixed 0 2 Try.func17 rfl (by kernel_rfl)
    (fun c hc => by
      obtain rfl := Option.some.inj hc
      exact ⟨trivial, ⟨trivial, trivial⟩⟩)
    (fun x K hp hk => ⟨_, by kernel_rfl, vF_laws_liCrx x.1 x.2 K hp (fun r h => hk r h)⟩)
theorem vF_spec_l20Crx (r : RdS) (n : Int) (K : List Arg → List (List AC) → Prop) (hp : RdOk r 40000000 ∧ n ≤ 1000) (hk : ∀ (x : CrS) (q : RdS), (Bytes x.join.got ∧ x.join.got.length ≤ 1000 ∧ RdOn r q 2000) → K ([rCr.to x]) ([(rdC q).map .d])) :
 (true = true) ∧
 ((((Bytes r.b) ∧
 (((List.length r.b) ≤ (2000 : Nat)) ∧
 (((0 : Int) ≤ r.p) ∧
 (r.p ≤ (1000000000 : Int))))) ∧
 ((7 : Int) ≤ (1000000000 : Int))) ∧
 (∀ r1 : (Prod Int RdS),
 ((r1.snd = (RdS.mk r.b (r.p + (1 : Int)))) ∧ (((0 : Int) ≤ r1.fst) ∧ ((((1 : Int) ≤ (7 : Int)) → (r1.fst < (7 : Int))) ∧ (((7 : Int) < (1 : Int)) → (r1.fst = (0 : Int)))))) →
 (true = true) ∧
 ((true = true) ∧
 ((((Bytes r1.snd.b) ∧
 (((List.length r1.snd.b) ≤ (2000 : Nat)) ∧
 (((0 : Int) ≤ r1.snd.p) ∧
 (r1.snd.p ≤ (50000000 : Int))))) ∧
 ((0 : Int) ≤ (1000 : Int))) ∧
 (∀ r2 : (Prod JoinS RdS),
 ((Bytes r2.fst.got) ∧ (((List.length r2.fst.got) ≤ (1000 : Nat)) ∧ (RdOn r1.snd r2.snd (500 : Int)))) →
 (true = true) ∧
 ((true = true) ∧
 ((((Bytes r2.snd.b) ∧
 (((List.length r2.snd.b) ≤ (2000 : Nat)) ∧
 (((0 : Int) ≤ r2.snd.p) ∧
 (r2.snd.p ≤ (1000000000 : Int))))) ∧
 ((12 : Int) ≤ (1000000000 : Int))) ∧
 (∀ r3 : (Prod Int RdS),
 ((r3.snd = (RdS.mk r2.snd.b (r2.snd.p + (1 : Int)))) ∧ (((0 : Int) ≤ r3.fst) ∧ ((((1 : Int) ≤ (12 : Int)) → (r3.fst < (12 : Int))) ∧ (((12 : Int) < (1 : Int)) → (r3.fst = (0 : Int)))))) →
 (true = true) ∧
 ((true = true) ∧
 ((((Bytes r3.snd.b) ∧
 (((List.length r3.snd.b) ≤ (2000 : Nat)) ∧
 (((0 : Int) ≤ r3.snd.p) ∧
 (r3.snd.p ≤ (900000000 : Int))))) ∧
 (n ≤ (1000000000 : Int))) ∧
 (∀ r4 : (Prod Bool RdS),
 ((r4.snd.b = r3.snd.b) ∧ ((r3.snd.p ≤ r4.snd.p) ∧ (r4.snd.p ≤ (r3.snd.p + (1 : Int))))) →
 (true = true) ∧
 (if (r4.fst = true) then
 ((true = true) ∧
 ((((Bytes r4.snd.b) ∧
 (((List.length r4.snd.b) ≤ (2000 : Nat)) ∧
 (((0 : Int) ≤ r4.snd.p) ∧
 (r4.snd.p ≤ (1000000000 : Int))))) ∧
 ((2 : Int) ≤ (1000000000 : Int))) ∧
 (∀ r5 : (Prod Int RdS),
 ((r5.snd = (RdS.mk r4.snd.b (r4.snd.p + (1 : Int)))) ∧ (((0 : Int) ≤ r5.fst) ∧ ((((1 : Int) ≤ (2 : Int)) → (r5.fst < (2 : Int))) ∧ (((2 : Int) < (1 : Int)) → (r5.fst = (0 : Int)))))) →
 (true = true) ∧
 (if ((r5.fst == (0 : Int)) = true) then
 ((true = true) ∧
 ((((Bytes r5.snd.b) ∧
 (((List.length r5.snd.b) ≤ (2000 : Nat)) ∧
 (((0 : Int) ≤ r5.snd.p) ∧
 (r5.snd.p ≤ (1000000000 : Int))))) ∧
 ((3 : Int) ≤ (1000000000 : Int))) ∧
 (∀ r6 : (Prod Int RdS),
 ((r6.snd = (RdS.mk r5.snd.b (r5.snd.p + (1 : Int)))) ∧ (((0 : Int) ≤ r6.fst) ∧ ((((1 : Int) ≤ (3 : Int)) → (r6.fst < (3 : Int))) ∧ (((3 : Int) < (1 : Int)) → (r6.fst = (0 : Int)))))) →
 (true = true) ∧
 ((((0 : Int) ≤ r6.fst) ∧
 (r6.fst < (3 : Int))) ∧
 ((true = true) ∧
 (K [(Arg.v true [(AC.d (D.i IntKind.i64 (at_i64 ((-1 : Int) :: ((256 : Int) :: ((255 : Int) :: ([] : (List Int)) : (List Int)) : (List Int)) : (List Int)) (Int.toNat r6.fst)))), (AC.d (D.i IntKind.i64 r2.fst.len)), (AC.d (D.r RK.u8 r2.fst.got)), (AC.d (D.b (r3.fst == (0 : Int))))])] [[(AC.d (D.r RK.u8 r6.snd.b)), (AC.d (D.i IntKind.i64 r6.snd.p))]]))))))
 else
 ((true = true) ∧
 ((((Bytes r5.snd.b) ∧
 (((List.length r5.snd.b) ≤ (2000 : Nat)) ∧
 (((0 : Int) ≤ r5.snd.p) ∧
 (r5.snd.p ≤ (50000000 : Int))))) ∧
 ((1 : Int) ≤ (1000 : Int))) ∧
 (∀ r6 : (Prod JoinS RdS),
 ((Bytes r6.fst.got) ∧ (((List.length r6.fst.got) ≤ (1000 : Nat)) ∧ (RdOn r5.snd r6.snd (500 : Int)))) →
 (true = true) ∧
 ((true = true) ∧
 (K [(Arg.v true [(AC.d (D.i IntKind.i64 r1.fst)), (AC.d (D.i IntKind.i64 r6.fst.len)), (AC.d (D.r RK.u8 r6.fst.got)), (AC.d (D.b (r3.fst == (0 : Int))))])] [[(AC.d (D.r RK.u8 r6.snd.b)), (AC.d (D.i IntKind.i64 r6.snd.p))]])))))))))
 else
 ((true = true) ∧
 (K [(Arg.v true [(AC.d (D.i IntKind.i64 r1.fst)), (AC.d (D.i IntKind.i64 r2.fst.len)), (AC.d (D.r RK.u8 r2.fst.got)), (AC.d (D.b (r3.fst == (0 : Int))))])] [[(AC.d (D.r RK.u8 r4.snd.b)), (AC.d (D.i IntKind.i64 r4.snd.p))]])))))))))))))) := by
  repeat' first
    | exact rfl
    | exact True.intro
    | with_reducible apply And.intro
    | (with_reducible intro r hr; subst hr)
    | with_reducible intro r
    | (refine iteI (fun h => ?_) (fun h => ?_))
  all_goals try simp (disch := omega) only [wr] at *
  all_goals first
    | assumption
    | omega
    | exact hk ⟨_, ⟨_, _⟩, _⟩ ⟨_, _⟩ (by (try dsimp only); grind [RdOk, RdOn, Bytes.cons, Bytes.nil, Bytes.take])
    | grind [RdOk, RdOn, Bytes.cons, Bytes.nil, Bytes.take]
    | exact hk ⟨_, ⟨_, _⟩, _⟩ ⟨_, _⟩ (by (try dsimp only); refine ⟨?_, ?_, ?_⟩; all_goals first | (grind [RdOk, RdOn, Bytes.cons, Bytes.nil, Bytes.take]; done) | (simp; done) | (simp; omega))
theorem w_spec_l20Crx : Valid Try.prog 70 c_spec_l20Crx :=
  valid_ctr2 (V := V_spec_l20Crx) (tysB_ok tys_ok) (CallsL.cons w_spec_l20Rd_pick (CallsL.cons w_spec_l20Rd_odd (CallsL.cons w_spec_l20Join (CallsL.nil _)))) mixed 0 2 Try.func70 rfl (by kernel_rfl)
    (fun c hc => by
      obtain rfl := Option.some.inj hc
      exact ⟨trivial, ⟨trivial, ⟨⟨trivial, ⟨⟨trivial, ⟨trivial, trivial⟩⟩, trivial⟩⟩, ⟨trivial, trivial⟩⟩⟩⟩)
    (fun x K hp hk => ⟨_, by kernel_rfl, vF_spec_l20Crx x.1 x.2 K hp (fun x q h => hk (x, q) h)⟩)
theorem vF_spec_DrawCrdGrant (l : List Int) (K : List Arg → List (List AC) → Prop) (hp : Bytes l) (hk : ∀ (x : CrS), (Bytes x.join.got ∧ x.join.got.length ≤ 1000) → K ([rCr.to x]) ([])) :
 (true = true) ∧
 ((Bytes l) ∧
 (∀ r : RdS,
 (r = (RdS.mk (List.take (2000 : Nat) l) (0 : Int))) →
 (true = true) ∧
 ((true = true) ∧
 ((((Bytes r.b) ∧
 (((List.length r.b) ≤ (2000 : Nat)) ∧
 (((0 : Int) ≤ r.p) ∧
 (r.p ≤ (40000000 : Int))))) ∧
 ((6 : Int) ≤ (1000 : Int))) ∧
 (∀ r1 : (Prod CrS RdS),
 ((Bytes r1.fst.join.got) ∧ (((List.length r1.fst.join.got) ≤ (1000 : Nat)) ∧ (RdOn r r1.snd (2000 : Int)))) →
 (true = true) ∧
 ((true = true) ∧
 (K [(Arg.v true [(AC.d (D.i IntKind.i64 r1.fst.out)), (AC.d (D.i IntKind.i64 r1.fst.join.len)), (AC.d (D.r RK.u8 r1.fst.join.got)), (AC.d (D.b r1.fst.dead))])] []))))))) := by
  repeat' first
    | exact rfl
    | exact True.intro
    | with_reducible apply And.intro
    | (with_reducible intro r hr; subst hr)
    | with_reducible intro r
    | (refine iteI (fun h => ?_) (fun h => ?_))
  all_goals try simp (disch := omega) only [wr] at *
  all_goals first
    | assumption
    | omega
    | exact hk ⟨_, ⟨_, _⟩, _⟩ (by (try dsimp only); grind [RdOk, RdOn, Bytes.cons, Bytes.nil, Bytes.take])
    | grind [RdOk, RdOn, Bytes.cons, Bytes.nil, Bytes.take]
    | exact hk ⟨_, ⟨_, _⟩, _⟩ (by (try dsimp only); refine ⟨?_, ?_, ?_⟩; all_goals first | (grind [RdOk, RdOn, Bytes.cons, Bytes.nil, Bytes.take]; done) | (simp; done) | (simp; omega))
theorem w_spec_DrawCrdGrant : Valid Try.prog 14 c_spec_DrawCrdGrant :=
  valid_ctr2 (V := V_spec_DrawCrdGrant) (tysB_ok tys_ok) (CallsL.cons w_spec_l20Crx (CallsL.cons w_spec_l20Open (CallsL.nil _))) mixed 0 2 Try.func14 rfl (by kernel_rfl)
    (fun c hc => by
      obtain rfl := Option.some.inj hc
      exact ⟨trivial, ⟨trivial, trivial⟩⟩)
    (fun x K hp hk => ⟨_, by kernel_rfl, vF_spec_DrawCrdGrant x K hp (fun x h => hk x h)⟩)
theorem vF_spec_DrawCrdHear (l : List Int) (K : List Arg → List (List AC) → Prop) (hp : Bytes l) (hk : ∀ (c : Cfg) (x : CrS) (f : Frm), ((Bytes x.join.got ∧ x.join.got.length ≤ 1000) ∧ Bytes f.data ∧ f.data.length ≤ 1000) → K ([rCfg.to c, rCr.to x, rFrm.to f]) ([])) :
 (true = true) ∧
 ((Bytes l) ∧
 (∀ r : RdS,
 (r = (RdS.mk (List.take (2000 : Nat) l) (0 : Int))) →
 (true = true) ∧
 ((true = true) ∧
 ((((Bytes r.b) ∧
 (((List.length r.b) ≤ (2000 : Nat)) ∧
 (((0 : Int) ≤ r.p) ∧
 (r.p ≤ (40000000 : Int))))) ∧
 ((20 : Int) ≤ (1000 : Int))) ∧
 (∀ r1 : (Prod Cfg RdS),
 ((RdOn r r1.snd (20 : Int)) ∧ (((0 : Int) ≤ r1.fst.mtu) ∧ (r1.fst.mtu ≤ (25 : Int)))) →
 (true = true) ∧
 ((true = true) ∧
 ((((Bytes r1.snd.b) ∧
 (((List.length r1.snd.b) ≤ (2000 : Nat)) ∧
 (((0 : Int) ≤ r1.snd.p) ∧
 (r1.snd.p ≤ (40000000 : Int))))) ∧
 ((9 : Int) ≤ (1000 : Int))) ∧
 (∀ r2 : (Prod CrS RdS),
 ((Bytes r2.fst.join.got) ∧ (((List.length r2.fst.join.got) ≤ (1000 : Nat)) ∧ (RdOn r1.snd r2.snd (2000 : Int)))) →
 (true = true) ∧
 ((true = true) ∧
 (((Bytes r2.snd.b) ∧
 (((List.length r2.snd.b) ≤ (2000 : Nat)) ∧
 (((0 : Int) ≤ r2.snd.p) ∧
 (r2.snd.p ≤ (45000000 : Int))))) ∧
 (∀ r3 : (Prod Part RdS),
 ((Bytes r3.fst.data) ∧ (((List.length r3.fst.data) ≤ (100 : Nat)) ∧ (RdOn r2.snd r3.snd (50 : Int)))) →
 (true = true) ∧
 ((true = true) ∧
 ((((Bytes r3.snd.b) ∧
 (((List.length r3.snd.b) ≤ (2000 : Nat)) ∧
 (((0 : Int) ≤ r3.snd.p) ∧
 (r3.snd.p ≤ (900000000 : Int))))) ∧
 ((9 : Int) ≤ (1000000000 : Int))) ∧
 (∀ r4 : (Prod Bool RdS),
 ((r4.snd.b = r3.snd.b) ∧ ((r3.snd.p ≤ r4.snd.p) ∧ (r4.snd.p ≤ (r3.snd.p + (1 : Int))))) →
 (true = true) ∧
 (if (r4.fst = true) then
 ((true = true) ∧
 ((((Bytes r4.snd.b) ∧
 (((List.length r4.snd.b) ≤ (2000 : Nat)) ∧
 (((0 : Int) ≤ r4.snd.p) ∧
 (r4.snd.p ≤ (44000000 : Int))))) ∧
 ((3 : Int) ≤ (1000 : Int))) ∧
 (∀ r5 : (Prod Frm RdS),
 ((Bytes r5.fst.data) ∧ (((List.length r5.fst.data) ≤ (200 : Nat)) ∧ (RdOn r4.snd r5.snd (100 : Int)))) →
 (true = true) ∧
 ((true = true) ∧
 ((true = true) ∧
 ((true = true) ∧
 ((true = true) ∧
 (K [(Arg.v true [(AC.d (D.i IntKind.i64 r1.fst.mode)), (AC.d (D.i IntKind.i64 r1.fst.win)), (AC.d (D.i IntKind.i64 r1.fst.mps)), (AC.d (D.i IntKind.i64 r1.fst.mtu)), (AC.d (D.i IntKind.i64 r1.fst.try_))]), (Arg.v true [(AC.d (D.i IntKind.i64 r2.fst.out)), (AC.d (D.i IntKind.i64 r2.fst.join.len)), (AC.d (D.r RK.u8 r2.fst.join.got)), (AC.d (D.b r2.fst.dead))]), (Arg.v true [(AC.d (D.i IntKind.i64 r5.fst.kind)), (AC.d (D.i IntKind.i64 r5.fst.seq)), (AC.d (D.i IntKind.i64 r5.fst.ack)), (AC.d (D.b r5.fst.poll)), (AC.d (D.b r5.fst.final)), (AC.d (D.i IntKind.i64 r5.fst.say)), (AC.d (D.i IntKind.i64 r5.fst.seg)), (AC.d (D.i IntKind.i64 r5.fst.len)), (AC.d (D.r RK.u8 r5.fst.data))])] []))))))))
 else
 ((true = true) ∧
 ((true = true) ∧
 ((true = true) ∧
 ((true = true) ∧
 (K [(Arg.v true [(AC.d (D.i IntKind.i64 r1.fst.mode)), (AC.d (D.i IntKind.i64 r1.fst.win)), (AC.d (D.i IntKind.i64 r1.fst.mps)), (AC.d (D.i IntKind.i64 r1.fst.mtu)), (AC.d (D.i IntKind.i64 r1.fst.try_))]), (Arg.v true [(AC.d (D.i IntKind.i64 r2.fst.out)), (AC.d (D.i IntKind.i64 r2.fst.join.len)), (AC.d (D.r RK.u8 r2.fst.join.got)), (AC.d (D.b r2.fst.dead))]), (Arg.v true [(AC.d (D.i IntKind.i64 (3 : Int))), (AC.d (D.i IntKind.i64 (0 : Int))), (AC.d (D.i IntKind.i64 (0 : Int))), (AC.d (D.b false)), (AC.d (D.b false)), (AC.d (D.i IntKind.i64 (0 : Int))), (AC.d (D.i IntKind.i64 r3.fst.seg)), (AC.d (D.i IntKind.i64 r3.fst.len)), (AC.d (D.r RK.u8 r3.fst.data))])] [])))))))))))))))))))) := by
  repeat' first
    | exact rfl
    | exact True.intro
    | with_reducible apply And.intro
    | (with_reducible intro r hr; subst hr)
    | with_reducible intro r
    | (refine iteI (fun h => ?_) (fun h => ?_))
  all_goals try simp (disch := omega) only [wr] at *
  all_goals first
    | assumption
    | omega
    | exact hk ⟨_, _, _, _, _⟩ ⟨_, ⟨_, _⟩, _⟩ ⟨_, _, _, _, _, _, _, _, _⟩ (by (try dsimp only); grind [RdOk, RdOn, Bytes.cons, Bytes.nil, Bytes.take])
    | grind [RdOk, RdOn, Bytes.cons, Bytes.nil, Bytes.take]
    | exact hk ⟨_, _, _, _, _⟩ ⟨_, ⟨_, _⟩, _⟩ ⟨_, _, _, _, _, _, _, _, _⟩ (by (try dsimp only); refine ⟨?_, ?_, ?_⟩; all_goals first | (grind [RdOk, RdOn, Bytes.cons, Bytes.nil, Bytes.take]; done) | (simp; done) | (simp; omega))
theorem w_spec_DrawCrdHear : Valid Try.prog 56 c_spec_DrawCrdHear :=
  valid_ctr2 (V := V_spec_DrawCrdHear) (tysB_ok tys_ok) (CallsL.cons w_spec_l20Crx (CallsL.cons w_spec_l20Open (CallsL.cons w_spec_l20Cfg (CallsL.cons w_spec_l20Part (CallsL.cons w_spec_l20Rd_odd (CallsL.cons w_spec_l20Frame (CallsL.nil _))))))) mixed 0 8 Try.func56 rfl (by kernel_rfl)
    (fun c hc => by
      obtain rfl := Option.some.inj hc
      exact ⟨trivial, ⟨trivial, ⟨trivial, ⟨trivial, ⟨trivial, ⟨trivial, ⟨⟨trivial, ⟨trivial, trivial⟩⟩, ⟨trivial, trivial⟩⟩⟩⟩⟩⟩⟩⟩)
    (fun x K hp hk => ⟨_, by kernel_rfl, vF_spec_DrawCrdHear x K hp (fun c x f h => hk (c, x, f) h)⟩)
end Go.Proofs.YtlapeiijghebjaaE
