/- A part of the proof of laws of the program: what calls of the program answer. Conditions: none. -/
import Derived.Test.YtdahhphhblbfdaaM7a7f3d34
set_option linter.unusedVariables false
set_option linter.unusedSimpArgs false
set_option linter.unusedSectionVars false
/- Contracts: R. Conditions: none. -/
set_option linter.unusedVariables false
set_option maxHeartbeats 1600000
namespace Go.Proofs.YtdahhphhblbfdaaE
open Go
/-! impl.CrdRxOk -/
def c_impl_CrdRxOk : Ent := ctr (α := (CrS)) (ρ := (Bool)) [] [] (rs1 rCr) (fun x_ => (fun (r : CrS) => (True)) x_) (fun x_ r_ => (fun x_ => (fun (r : CrS) => ((fun r_ => (fun (v : Bool) => (v = decide (CrP r))) r_))) x_) x_ r_) (fun r_ => (fun (v : Bool) => ([rB.to v])) r_) (fun r_ => (fun (v : Bool) => ([])) r_)
def V_impl_CrdRxOk : Env := ⟨tys, [(56, c_impl_in), (75, c_impl_JoinOk)], [], [(1, 0)], [], [], [500006], [], []⟩
/-! spec.CrdRxOk -/
def c_spec_CrdRxOk : Ent := ctr (α := (CrS)) (ρ := (Bool)) [] [] (rs1 rCr) (fun x_ => (fun (r : CrS) => (True)) x_) (fun x_ r_ => (fun x_ => (fun (r : CrS) => ((fun r_ => (fun (v : Bool) => (v = decide (CrP r))) r_))) x_) x_ r_) (fun r_ => (fun (v : Bool) => ([rB.to v])) r_) (fun r_ => (fun (v : Bool) => ([])) r_)
def V_spec_CrdRxOk : Env := ⟨tys, [(52, c_spec_l1In), (74, c_spec_JoinOk)], [], [(1, 0)], [], [], [500006], [], []⟩
/-! (impl.CrdRx).copyOf -/
def c_impl_CrdRx_copyOf : Ent := ctr (α := (CrS)) (ρ := (CrS)) [] [] (rs1 rCr) (fun x_ => (fun (r : CrS) => (r.join.got.length ≤ LIM)) x_) (fun x_ r_ => (fun x_ => (fun (r : CrS) => ((fun r_ => (fun (x : CrS) => (x = r)) r_))) x_) x_ r_) (fun r_ => (fun (x : CrS) => ([rCr.to x])) r_) (fun r_ => (fun (x : CrS) => ([])) r_)
def V_impl_CrdRx_copyOf : Env := ⟨tys, [(65, c_impl_clone_byte)], [], [(1, 0), (2, 1)], [], [], [], [], []⟩
/-! spec.l8Rx -/
def c_spec_l8Rx : Ent := ctr (α := (CrS)) (ρ := (CrS)) [] [] (rs1 rCr) (fun x_ => (fun (r : CrS) => (r.join.got.length ≤ LIM)) x_) (fun x_ r_ => (fun x_ => (fun (r : CrS) => ((fun r_ => (fun (x : CrS) => (x = r)) r_))) x_) x_ r_) (fun r_ => (fun (x : CrS) => ([rCr.to x])) r_) (fun r_ => (fun (x : CrS) => ([])) r_)
def V_spec_l8Rx : Env := ⟨tys, [], [(5, [0])], [(1, 0), (2, 1), (3, 2)], [], [], [], [], []⟩
/-! impl.CrdGrant -/
def c_impl_CrdGrant : Ent := ctr (α := (CrS)) (ρ := (GrantR)) [] [] (rs1 rCr) (fun x_ => (fun (r : CrS) => (r.join.got.length ≤ LIM)) x_) (fun x_ r_ => (fun x_ => (fun (r : CrS) => ((fun r_ => (fun (q : GrantR) => (q = crdGrant r)) r_))) x_) x_ r_) (fun r_ => (fun (q : GrantR) => ([rCr.to q.r, rFrm.to q.f, rB.to q.ok])) r_) (fun r_ => (fun (q : GrantR) => ([])) r_)
def V_impl_CrdGrant : Env := ⟨tys, [(44, c_impl_CrdRxOk), (45, c_impl_CrdRx_copyOf)], [], [(1, 0), (2, 1), (3, 2), (5, 3)], [(7, ([1, 2], []))], [], [500015], [], [(7, [(0, false), (1, false), (2, false), (3, false), (4, false), (5, true), (6, true), (7, false)])]⟩
/-! spec.CrdGrant -/
def c_spec_CrdGrant : Ent := ctr (α := (CrS)) (ρ := (GrantR)) [] [] (rs1 rCr) (fun x_ => (fun (r : CrS) => (r.join.got.length ≤ LIM)) x_) (fun x_ r_ => (fun x_ => (fun (r : CrS) => ((fun r_ => (fun (q : GrantR) => (q = crdGrant r)) r_))) x_) x_ r_) (fun r_ => (fun (q : GrantR) => ([rCr.to q.r, rFrm.to q.f, rB.to q.ok])) r_) (fun r_ => (fun (q : GrantR) => ([])) r_)
def V_spec_CrdGrant : Env := ⟨tys, [(41, c_spec_CrdRxOk), (42, c_spec_l8Rx)], [], [(1, 0), (2, 1), (3, 2), (5, 3)], [(7, ([1, 2], []))], [], [500015], [], [(7, [(0, false), (1, false), (2, false), (3, false), (4, false), (5, true), (6, true), (7, false)])]⟩
theorem CrIn.part {c : Cfg} {r : CrS} {f : Frm} (h : CrIn c r f) : PartP ⟨f.seg, f.len, f.data⟩ := by
  obtain ⟨_, _, h, hk⟩ := h
  unfold FrmP at h
  unfold PartP
  rcases h with h | h | h | h
  all_goals first | omega | exact h.2.2.2.2.2.2
theorem CrIn.seg {c : Cfg} {r : CrS} {f : Frm} (h : CrIn c r f) : 0 ≤ f.seg ∧ f.seg ≤ 3 := h.part.seg
theorem CrIn.got {c : Cfg} {r : CrS} {f : Frm} (h : CrIn c r f) : r.join.got.length ≤ 24 := by
  have := h.2.1.2
  unfold JoinP at this
  omega
theorem crd_got (c : Cfg) (r : CrS) (f : Frm) : (crdHear1 c r f).r.join.got.length ≤ r.join.got.length + f.data.length ∧ (crdHear1 c r f).sdus.length ≤ 1 ∧ ∀ y ∈ (crdHear1 c r f).sdus, y.length ≤ r.join.got.length + f.data.length := by
  have h := segPut_got r.join ⟨f.seg, f.len, f.data⟩
  unfold crdHear1
  dsimp only at h ⊢
  repeat' split
  all_goals simp
  all_goals omega

/-! (*impl.CrdRx).hear -/
def c_impl_CrdRx_hear : Ent := ctr (α := (CrS) × (Cfg) × (Frm)) (ρ := (CrHearR)) [] [] (rs rPCr (rs rCfg (rs1 rFrm))) (fun x_ => (fun (r : CrS) (c : Cfg) (f : Frm) => (CrIn c r f ∧ f.data.length ≤ 1000000000)) x_.1 x_.2.1 x_.2.2) (fun x_ r_ => (fun x_ => (fun (r : CrS) (c : Cfg) (f : Frm) => ((fun r_ => (fun (q : CrHearR) => (q = crdHear1 c r f)) r_))) x_.1 x_.2.1 x_.2.2) x_ r_) (fun r_ => (fun (q : CrHearR) => ([(rR .byr).to q.sdus])) r_) (fun r_ => (fun (q : CrHearR) => ([(crC q.r).map .d])) r_)
def V_impl_CrdRx_hear : Env := ⟨tys, [(91, c_impl_SegJoin_put)], [], [(4, 1), (5, 2), (7, 3)], [(7, ([3], []))], [], [500021, 500028], [], [(7, [(0, false), (1, false), (2, false), (3, false), (4, false), (5, false), (6, false), (7, false), (8, false), (9, false), (10, false), (16, false), (11, true), (12, false), (13, false), (14, false), (15, false), (17, true), (18, false), (19, false)])]⟩
/-! impl.CrdHear -/
def c_impl_CrdHear : Ent := ctr (α := (Cfg) × (CrS) × (Frm)) (ρ := (CrHearR)) [] [] (rs rCfg (rs rCr (rs1 rFrm))) (fun x_ => (fun (c : Cfg) (r : CrS) (f : Frm) => (f.data.length ≤ 1000000000)) x_.1 x_.2.1 x_.2.2) (fun x_ r_ => (fun x_ => (fun (c : Cfg) (r : CrS) (f : Frm) => ((fun r_ => (fun (q : CrHearR) => (q = crdHear c r f)) r_))) x_.1 x_.2.1 x_.2.2) x_ r_) (fun r_ => (fun (q : CrHearR) => ([rCr.to q.r, (rR .byr).to q.sdus])) r_) (fun r_ => (fun (q : CrHearR) => ([])) r_)
def V_impl_CrdHear : Env := ⟨tys, [(44, c_impl_CrdRxOk), (45, c_impl_CrdRx_copyOf), (71, c_impl_CfgOk), (72, c_impl_FrmOk), (73, c_impl_CrdRx_hear)], [], [(3, 0), (4, 1), (5, 2), (6, 3), (8, 4)], [], [], [500013, 500018, 500023], [], []⟩
/-! spec.CrdHear -/
def c_spec_CrdHear : Ent := ctr (α := (Cfg) × (CrS) × (Frm)) (ρ := (CrHearR)) [] [] (rs rCfg (rs rCr (rs1 rFrm))) (fun x_ => (fun (c : Cfg) (r : CrS) (f : Frm) => (f.data.length ≤ 1000000000)) x_.1 x_.2.1 x_.2.2) (fun x_ r_ => (fun x_ => (fun (c : Cfg) (r : CrS) (f : Frm) => ((fun r_ => (fun (q : CrHearR) => (q = crdHear c r f)) r_))) x_.1 x_.2.1 x_.2.2) x_ r_) (fun r_ => (fun (q : CrHearR) => ([rCr.to q.r, (rR .byr).to q.sdus])) r_) (fun r_ => (fun (q : CrHearR) => ([])) r_)
def V_spec_CrdHear : Env := ⟨tys, [(41, c_spec_CrdRxOk), (42, c_spec_l8Rx), (67, c_spec_CfgOk), (68, c_spec_FrmOk), (69, c_spec_l4Put), (70, c_spec_l7Sdus)], [], [(3, 0), (4, 1), (5, 2), (6, 3), (8, 4), (9, 5)], [], [], [500015, 500020, 500025, 500041, 500048], [], []⟩
end Go.Proofs.YtdahhphhblbfdaaE

/- Calls answer what is promised: R. Conditions: none. -/
set_option linter.unusedVariables false
set_option maxHeartbeats 1600000
namespace Go.Proofs.YtdahhphhblbfdaaE
open Go
theorem vF_impl_CrdRxOk (r:CrS) (K:List Arg→List (List AC)→Prop) (hp:True) (hk:∀ (v:Bool),(v=decide (CrP r))→K ([rB.to v]) ([])):(true=true)∧(True∧(∀ r1:Bool,(r1=(decide (((0:Int)≤r.out)∧(r.out≤(255:Int)))))→(true=true)∧(if (r1=true) then ((true=true)∧(True∧(∀ r2:Bool,(r2=(decide (JoinP r.join)))→(true=true)∧((true=true)∧(K [(aB r2)] []))))) else ((true=true)∧(K [(aB false)] []))))) := by
  repeat' first
    | exact rfl
    | exact True.intro
    | with_reducible apply And.intro
    | (with_reducible intro r hr; subst hr)
    | with_reducible intro r
    | (refine iteI (fun h => ?_) (fun h => ?_))
  all_goals try simp (disch := omega) only [wr] at *
  all_goals first
    | assumption
    | exact hk _ (by grind [CrP, JoinP, IntKind.wrap_i64])
    | (simp only [LIM] at *; omega)
    | grind [CrP, JoinP, LIM]
theorem w_impl_CrdRxOk : Valid Try.prog 44 c_impl_CrdRxOk :=
  valid_ctr2 (V := V_impl_CrdRxOk) (tysB_ok tys_ok) ⟨(CallsL.cons w_impl_in (CallsL.cons w_impl_JoinOk (CallsL.nil _))), (IosL.nil _)⟩ mixed 0 1 Try.func44 rfl (by kernel_rfl)
    (fun c hc => by
      obtain rfl := Option.some.inj hc
      exact ⟨trivial, ⟨trivial, trivial⟩⟩)
    (fun x K hp hk => ⟨_, by kernel_rfl, vF_impl_CrdRxOk x K hp (fun v h => hk v h)⟩)
theorem vF_spec_CrdRxOk (r:CrS) (K:List Arg→List (List AC)→Prop) (hp:True) (hk:∀ (v:Bool),(v=decide (CrP r))→K ([rB.to v]) ([])):(true=true)∧(True∧(∀ r1:Bool,(r1=(decide (((0:Int)≤r.out)∧(r.out≤(255:Int)))))→(true=true)∧(if (r1=true) then ((true=true)∧(True∧(∀ r2:Bool,(r2=(decide (JoinP r.join)))→(true=true)∧((true=true)∧(K [(aB r2)] []))))) else ((true=true)∧(K [(aB false)] []))))) := by
  repeat' first
    | exact rfl
    | exact True.intro
    | with_reducible apply And.intro
    | (with_reducible intro r hr; subst hr)
    | with_reducible intro r
    | (refine iteI (fun h => ?_) (fun h => ?_))
  all_goals try simp (disch := omega) only [wr] at *
  all_goals first
    | assumption
    | exact hk _ (by grind [CrP, JoinP, IntKind.wrap_i64])
    | (simp only [LIM] at *; omega)
    | grind [CrP, JoinP, LIM]
theorem w_spec_CrdRxOk : Valid Try.prog 41 c_spec_CrdRxOk :=
  valid_ctr2 (V := V_spec_CrdRxOk) (tysB_ok tys_ok) ⟨(CallsL.cons w_spec_l1In (CallsL.cons w_spec_JoinOk (CallsL.nil _))), (IosL.nil _)⟩ mixed 0 1 Try.func41 rfl (by kernel_rfl)
    (fun c hc => by
      obtain rfl := Option.some.inj hc
      exact ⟨trivial, ⟨trivial, trivial⟩⟩)
    (fun x K hp hk => ⟨_, by kernel_rfl, vF_spec_CrdRxOk x K hp (fun v h => hk v h)⟩)
theorem vF_impl_CrdRx_copyOf (r:CrS) (K:List Arg→List (List AC)→Prop) (hp:r.join.got.length≤LIM) (hk:∀ (x:CrS),(x=r)→K ([rCr.to x]) ([])):(true=true)∧(((List.length r.join.got)≤(137438953472:Nat))∧(∀ r1:(List Int),(r1=r.join.got)→(true=true)∧((true=true)∧(K [(Arg.v true [(AC.d (D.i IntKind.i64 r.out)),(AC.d (D.i IntKind.i64 r.join.len)),(AC.d (D.r RK.u8 r1)),(AC.d (D.b r.dead))])] [])))) := by
  repeat' first
    | exact rfl
    | exact True.intro
    | with_reducible apply And.intro
    | (with_reducible intro r hr; subst hr)
    | with_reducible intro r
    | (refine iteI (fun h => ?_) (fun h => ?_))
  all_goals try simp (disch := omega) only [wr] at *
  all_goals first
    | assumption
    | exact hk r rfl
    | exact hk _ (by grind [IntKind.wrap_i64])
    | (simp only [LIM] at *; omega)
    | grind [LIM]
theorem w_impl_CrdRx_copyOf : Valid Try.prog 45 c_impl_CrdRx_copyOf :=
  valid_ctr2 (V := V_impl_CrdRx_copyOf) (tysB_ok tys_ok) ⟨(CallsL.cons w_impl_clone_byte (CallsL.nil _)), (IosL.nil _)⟩ mixed 0 2 Try.func45 rfl (by kernel_rfl)
    (fun c hc => by
      obtain rfl := Option.some.inj hc
      exact ⟨trivial, ⟨trivial, ⟨trivial, trivial⟩⟩⟩)
    (fun x K hp hk => ⟨_, by kernel_rfl, vF_impl_CrdRx_copyOf x K hp (fun x h => hk x h)⟩)
theorem vF_spec_l8Rx (r:CrS) (K:List Arg→List (List AC)→Prop) (hp:r.join.got.length≤LIM) (hk:∀ (x:CrS),(x=r)→K ([rCr.to x]) ([])):(((0:Nat) + (List.length r.join.got))≤(137438953472:Nat))∧((true=true)∧(K [(Arg.v true [(AC.d (D.i IntKind.i64 r.out)),(AC.d (D.i IntKind.i64 r.join.len)),(AC.d (D.r RK.u8 (([]:(List Int)) ++ r.join.got:(List Int)))),(AC.d (D.b r.dead))])] [])) := by
  repeat' first
    | exact rfl
    | exact True.intro
    | with_reducible apply And.intro
    | (with_reducible intro r hr; subst hr)
    | with_reducible intro r
    | (refine iteI (fun h => ?_) (fun h => ?_))
  all_goals try simp (disch := omega) only [wr] at *
  all_goals first
    | assumption
    | exact hk r rfl
    | exact hk _ (by grind [IntKind.wrap_i64])
    | (simp only [LIM] at *; omega)
    | grind [LIM]
theorem w_spec_l8Rx : Valid Try.prog 42 c_spec_l8Rx :=
  valid_ctr2 (V := V_spec_l8Rx) (tysB_ok tys_ok) ⟨(CallsL.nil _), (IosL.nil _)⟩ mixed 1 3 Try.func42 rfl (by kernel_rfl)
    (fun c hc => by
      obtain rfl := Option.some.inj hc
      exact ⟨trivial, ⟨trivial, ⟨trivial, ⟨trivial, trivial⟩⟩⟩⟩)
    (fun x K hp hk => ⟨_, by kernel_rfl, vF_spec_l8Rx x K hp (fun x h => hk x h)⟩)
theorem vF_impl_CrdGrant (r:CrS) (K:List Arg→List (List AC)→Prop) (hp:r.join.got.length≤LIM) (hk:∀ (q:GrantR),(q=crdGrant r)→K ([rCr.to q.r,rFrm.to q.f,rB.to q.ok]) ([])):(true=true)∧(True∧(∀ r1:Bool,(r1=(decide (CrP r)))→(true=true)∧(if ((!r1)=true) then ((true=true)∧(K [(Arg.v true [(AC.d (D.i IntKind.i64 (0:Int))),(AC.d (D.i IntKind.i64 (0:Int))),(AC.d (D.r RK.u8 ([]:(List Int)))),(AC.d (D.b false))]),(Arg.v true [(AC.d (D.i IntKind.i64 (0:Int))),(AC.d (D.i IntKind.i64 (0:Int))),(AC.d (D.i IntKind.i64 (0:Int))),(AC.d (D.b false)),(AC.d (D.b false)),(AC.d (D.i IntKind.i64 (0:Int))),(AC.d (D.i IntKind.i64 (0:Int))),(AC.d (D.i IntKind.i64 (0:Int))),(AC.d (D.r RK.u8 ([]:(List Int))))]),(aB false)] [])) else ((true=true)∧(((List.length r.join.got)≤(137438953472:Nat))∧(∀ r2:CrS,(r2=r)→(true=true)∧(if (r.dead=true) then ((true=true)∧(K [(Arg.v true [(AC.d (D.i IntKind.i64 r2.out)),(AC.d (D.i IntKind.i64 r2.join.len)),(AC.d (D.r RK.u8 r2.join.got)),(AC.d (D.b r2.dead))]),(Arg.v true [(AC.d (D.i IntKind.i64 (0:Int))),(AC.d (D.i IntKind.i64 (0:Int))),(AC.d (D.i IntKind.i64 (0:Int))),(AC.d (D.b false)),(AC.d (D.b false)),(AC.d (D.i IntKind.i64 (0:Int))),(AC.d (D.i IntKind.i64 (0:Int))),(AC.d (D.i IntKind.i64 (0:Int))),(AC.d (D.r RK.u8 ([]:(List Int))))]),(aB false)] [])) else (if ((decide (r.out ≥ (6:Int)))=true) then ((true=true)∧(K [(Arg.v true [(AC.d (D.i IntKind.i64 r2.out)),(AC.d (D.i IntKind.i64 r2.join.len)),(AC.d (D.r RK.u8 r2.join.got)),(AC.d (D.b r2.dead))]),(Arg.v true [(AC.d (D.i IntKind.i64 (0:Int))),(AC.d (D.i IntKind.i64 (0:Int))),(AC.d (D.i IntKind.i64 (0:Int))),(AC.d (D.b false)),(AC.d (D.b false)),(AC.d (D.i IntKind.i64 (0:Int))),(AC.d (D.i IntKind.i64 (0:Int))),(AC.d (D.i IntKind.i64 (0:Int))),(AC.d (D.r RK.u8 ([]:(List Int))))]),(aB false)] [])) else ((true=true)∧((true=true)∧((true=true)∧(K [(Arg.v true [(AC.d (D.i IntKind.i64 (6:Int))),(AC.d (D.i IntKind.i64 r2.join.len)),(AC.d (D.r RK.u8 r2.join.got)),(AC.d (D.b r2.dead))]),(Arg.v true [(AC.d (D.i IntKind.i64 (4:Int))),(AC.d (D.i IntKind.i64 (0:Int))),(AC.d (D.i IntKind.i64 (0:Int))),(AC.d (D.b false)),(AC.d (D.b false)),(AC.d (D.i IntKind.i64 (0:Int))),(AC.d (D.i IntKind.i64 (0:Int))),(AC.d (D.i IntKind.i64 (IntKind.wrap IntKind.i64 ((6:Int) - r.out)))),(AC.d (D.r RK.u8 ([]:(List Int))))]),(aB true)] [])))))))))))) := by
  repeat' first
    | exact rfl
    | exact True.intro
    | with_reducible apply And.intro
    | (with_reducible intro y_ hy_; subst hy_)
    | with_reducible intro y_
    | (refine iteI (fun h => ?_) (fun h => ?_))
  all_goals try simp only [Bool.not_eq_true', decide_eq_false_iff_not, decide_eq_true_eq, Bool.not_eq_true, bne_iff_ne, beq_iff_eq, ne_eq, Decidable.not_not, Bool.not_eq_false, gt_iff_lt, ge_iff_le, Int.not_le, Int.not_lt, beq_eq_false_iff_ne, bne_eq_false_iff_eq, Bool.and_eq_true, Bool.or_eq_true, Bool.true_eq_false, Bool.false_eq_true] at *
  all_goals try simp (disch := first | omega | grind [crdGrant, CrP, JoinP]) only [wr] at *
  all_goals first
    | assumption
    | omega
    | (have h := hk _ rfl
       unfold crdGrant at h
       try dsimp only at h
       first
       | exact h
       | (repeat' split at h
          all_goals first | exact h | (exfalso; grind [crdGrant, CrP, JoinP]) | (exfalso; simp at *; omega)))
    | exact hk _ (by grind [crdGrant, CrP, JoinP])
    | (simp only [LIM] at *; omega)
    | grind [crdGrant, CrP, JoinP, LIM]
theorem w_impl_CrdGrant : Valid Try.prog 11 c_impl_CrdGrant :=
  valid_ctr2 (V := V_impl_CrdGrant) (tysB_ok tys_ok) ⟨(CallsL.cons w_impl_CrdRxOk (CallsL.cons w_impl_CrdRx_copyOf (CallsL.nil _))), (IosL.nil _)⟩ mixed 0 4 Try.func11 rfl (by kernel_rfl)
    (fun c hc => by
      obtain rfl := Option.some.inj hc
      exact ⟨trivial, ⟨⟨trivial, ⟨⟨trivial, trivial⟩, trivial⟩⟩, ⟨trivial, ⟨⟨trivial, ⟨⟨trivial, trivial⟩, trivial⟩⟩, ⟨trivial, ⟨trivial, trivial⟩⟩⟩⟩⟩⟩)
    (fun x K hp hk => ⟨_, by kernel_rfl, vF_impl_CrdGrant x K hp (fun q h => hk q h)⟩)
theorem vF_spec_CrdGrant (r:CrS) (K:List Arg→List (List AC)→Prop) (hp:r.join.got.length≤LIM) (hk:∀ (q:GrantR),(q=crdGrant r)→K ([rCr.to q.r,rFrm.to q.f,rB.to q.ok]) ([])):(true=true)∧(True∧(∀ r1:Bool,(r1=(decide (CrP r)))→(true=true)∧(if ((!r1)=true) then ((true=true)∧(K [(Arg.v true [(AC.d (D.i IntKind.i64 (0:Int))),(AC.d (D.i IntKind.i64 (0:Int))),(AC.d (D.r RK.u8 ([]:(List Int)))),(AC.d (D.b false))]),(Arg.v true [(AC.d (D.i IntKind.i64 (0:Int))),(AC.d (D.i IntKind.i64 (0:Int))),(AC.d (D.i IntKind.i64 (0:Int))),(AC.d (D.b false)),(AC.d (D.b false)),(AC.d (D.i IntKind.i64 (0:Int))),(AC.d (D.i IntKind.i64 (0:Int))),(AC.d (D.i IntKind.i64 (0:Int))),(AC.d (D.r RK.u8 ([]:(List Int))))]),(aB false)] [])) else ((true=true)∧(((List.length r.join.got)≤(137438953472:Nat))∧(∀ r2:CrS,(r2=r)→(true=true)∧(if (r.dead=true) then ((true=true)∧(K [(Arg.v true [(AC.d (D.i IntKind.i64 r2.out)),(AC.d (D.i IntKind.i64 r2.join.len)),(AC.d (D.r RK.u8 r2.join.got)),(AC.d (D.b r2.dead))]),(Arg.v true [(AC.d (D.i IntKind.i64 (0:Int))),(AC.d (D.i IntKind.i64 (0:Int))),(AC.d (D.i IntKind.i64 (0:Int))),(AC.d (D.b false)),(AC.d (D.b false)),(AC.d (D.i IntKind.i64 (0:Int))),(AC.d (D.i IntKind.i64 (0:Int))),(AC.d (D.i IntKind.i64 (0:Int))),(AC.d (D.r RK.u8 ([]:(List Int))))]),(aB false)] [])) else (if ((decide (r.out ≥ (6:Int)))=true) then ((true=true)∧(K [(Arg.v true [(AC.d (D.i IntKind.i64 r2.out)),(AC.d (D.i IntKind.i64 r2.join.len)),(AC.d (D.r RK.u8 r2.join.got)),(AC.d (D.b r2.dead))]),(Arg.v true [(AC.d (D.i IntKind.i64 (0:Int))),(AC.d (D.i IntKind.i64 (0:Int))),(AC.d (D.i IntKind.i64 (0:Int))),(AC.d (D.b false)),(AC.d (D.b false)),(AC.d (D.i IntKind.i64 (0:Int))),(AC.d (D.i IntKind.i64 (0:Int))),(AC.d (D.i IntKind.i64 (0:Int))),(AC.d (D.r RK.u8 ([]:(List Int))))]),(aB false)] [])) else ((true=true)∧((true=true)∧((true=true)∧(K [(Arg.v true [(AC.d (D.i IntKind.i64 (6:Int))),(AC.d (D.i IntKind.i64 r2.join.len)),(AC.d (D.r RK.u8 r2.join.got)),(AC.d (D.b r2.dead))]),(Arg.v true [(AC.d (D.i IntKind.i64 (4:Int))),(AC.d (D.i IntKind.i64 (0:Int))),(AC.d (D.i IntKind.i64 (0:Int))),(AC.d (D.b false)),(AC.d (D.b false)),(AC.d (D.i IntKind.i64 (0:Int))),(AC.d (D.i IntKind.i64 (0:Int))),(AC.d (D.i IntKind.i64 (IntKind.wrap IntKind.i64 ((6:Int) - r.out)))),(AC.d (D.r RK.u8 ([]:(List Int))))]),(aB true)] [])))))))))))) := by
  repeat' first
    | exact rfl
    | exact True.intro
    | with_reducible apply And.intro
    | (with_reducible intro y_ hy_; subst hy_)
    | with_reducible intro y_
    | (refine iteI (fun h => ?_) (fun h => ?_))
  all_goals try simp only [Bool.not_eq_true', decide_eq_false_iff_not, decide_eq_true_eq, Bool.not_eq_true, bne_iff_ne, beq_iff_eq, ne_eq, Decidable.not_not, Bool.not_eq_false, gt_iff_lt, ge_iff_le, Int.not_le, Int.not_lt, beq_eq_false_iff_ne, bne_eq_false_iff_eq, Bool.and_eq_true, Bool.or_eq_true, Bool.true_eq_false, Bool.false_eq_true] at *
  all_goals try simp (disch := first | omega | grind [crdGrant, CrP, JoinP]) only [wr] at *
  all_goals first
    | assumption
    | omega
    | (have h := hk _ rfl
       unfold crdGrant at h
       try dsimp only at h
       first
       | exact h
       | (repeat' split at h
          all_goals first | exact h | (exfalso; grind [crdGrant, CrP, JoinP]) | (exfalso; simp at *; omega)))
    | exact hk _ (by grind [crdGrant, CrP, JoinP])
    | (simp only [LIM] at *; omega)
    | grind [crdGrant, CrP, JoinP, LIM]
theorem w_spec_CrdGrant : Valid Try.prog 9 c_spec_CrdGrant :=
  valid_ctr2 (V := V_spec_CrdGrant) (tysB_ok tys_ok) ⟨(CallsL.cons w_spec_CrdRxOk (CallsL.cons w_spec_l8Rx (CallsL.nil _))), (IosL.nil _)⟩ mixed 0 4 Try.func9 rfl (by kernel_rfl)
    (fun c hc => by
      obtain rfl := Option.some.inj hc
      exact ⟨trivial, ⟨⟨trivial, ⟨⟨trivial, trivial⟩, trivial⟩⟩, ⟨trivial, ⟨⟨trivial, ⟨⟨trivial, trivial⟩, trivial⟩⟩, ⟨trivial, ⟨trivial, trivial⟩⟩⟩⟩⟩⟩)
    (fun x K hp hk => ⟨_, by kernel_rfl, vF_spec_CrdGrant x K hp (fun q h => hk q h)⟩)
theorem vF_impl_CrdRx_hear (r:CrS) (c:Cfg) (f:Frm) (K:List Arg→List (List AC)→Prop) (hp:CrIn c r f∧f.data.length≤1000000000) (hk:∀ (q:CrHearR),(q=crdHear1 c r f)→K ([(rR .byr).to q.sdus]) ([(crC q.r).map .d])):if (r.dead=true) then ((true=true)∧(K [(aR RK.byr ([]:(List (List Int))))] [[(AC.d (D.i IntKind.i64 r.out)),(AC.d (D.i IntKind.i64 r.join.len)),(AC.d (D.r RK.u8 r.join.got)),(AC.d (D.b r.dead))]])) else (if ((r.out == (0:Int))=true) then ((true=true)∧(K [(aR RK.byr ([]:(List (List Int))))] [[(AC.d (D.i IntKind.i64 r.out)),(AC.d (D.i IntKind.i64 r.join.len)),(AC.d (D.r RK.u8 r.join.got)),(AC.d (D.b true))]])) else (if ((decide (f.len > c.mtu))=true) then ((true=true)∧(K [(aR RK.byr ([]:(List (List Int))))] [[(AC.d (D.i IntKind.i64 r.out)),(AC.d (D.i IntKind.i64 r.join.len)),(AC.d (D.r RK.u8 r.join.got)),(AC.d (D.b true))]])) else (if ((decide ((((List.length f.data):Nat):Int) > c.mps))=true) then ((true=true)∧(K [(aR RK.byr ([]:(List (List Int))))] [[(AC.d (D.i IntKind.i64 r.out)),(AC.d (D.i IntKind.i64 r.join.len)),(AC.d (D.r RK.u8 r.join.got)),(AC.d (D.b true))]])) else ((true=true)∧(((JoinP r.join)∧(((0:Int)≤f.seg)∧((f.seg≤(3:Int))∧((List.length f.data)≤(1000000000:Nat)))))∧(∀ r1:PutR,(r1=(segPut r.join (Part.mk f.seg f.len f.data)))→(true=true)∧((true=true)∧((true=true)∧(if ((r1.how == (3:Int))=true) then ((true=true)∧(K [(aR RK.byr ([]:(List (List Int))))] [[(AC.d (D.i IntKind.i64 (IntKind.wrap IntKind.i64 (r.out - (1:Int))))),(AC.d (D.i IntKind.i64 r1.j.len)),(AC.d (D.r RK.u8 r1.j.got)),(AC.d (D.b true))]])) else (if ((r1.how == (2:Int))=true) then ((true=true)∧(K [(aR RK.byr (r1.sdu :: ([]:(List (List Int))):(List (List Int))))] [[(AC.d (D.i IntKind.i64 (IntKind.wrap IntKind.i64 (r.out - (1:Int))))),(AC.d (D.i IntKind.i64 r1.j.len)),(AC.d (D.r RK.u8 r1.j.got)),(AC.d (D.b r.dead))]])) else ((true=true)∧(K [(aR RK.byr ([]:(List (List Int))))] [[(AC.d (D.i IntKind.i64 (IntKind.wrap IntKind.i64 (r.out - (1:Int))))),(AC.d (D.i IntKind.i64 r1.j.len)),(AC.d (D.r RK.u8 r1.j.got)),(AC.d (D.b r.dead))]])))))))))))) := by
  have hseg := CrIn.seg hp.1
  have hgot := CrIn.got hp.1
  have hrx := hp.1.2.1
  simp only [CrP, JoinP] at hrx

  repeat' first
    | exact rfl
    | exact True.intro
    | with_reducible apply And.intro
    | (with_reducible intro r hr; subst hr)
    | with_reducible intro r
    | (refine iteI (fun h => ?_) (fun h => ?_))
  all_goals try simp (disch := omega) only [wr] at *
  all_goals first
    | assumption
    | exact hp.1.2.1.2
    | (have h := hk _ rfl
       unfold crdHear1 at h
       try dsimp only at h
       repeat' split at h
       all_goals first | exact h | (exfalso; grind []) | (exfalso; simp at *; omega))
    | exact hk _ (by grind [CrIn, CrP, JoinP, FrmP, IntKind.wrap_i64])
    | (simp only [LIM] at *; omega)
    | grind [CrIn, CrP, JoinP, FrmP, LIM]
theorem w_impl_CrdRx_hear : Valid Try.prog 73 c_impl_CrdRx_hear :=
  valid_ctr2 (V := V_impl_CrdRx_hear) (tysB_ok tys_ok) ⟨(CallsL.cons w_impl_SegJoin_put (CallsL.nil _)), (IosL.nil _)⟩ mixed 0 3 Try.func73 rfl (by kernel_rfl)
    (fun c hc => by
      obtain rfl := Option.some.inj hc
      exact ⟨trivial, ⟨⟨trivial, ⟨⟨trivial, trivial⟩, ⟨trivial, ⟨⟨trivial, ⟨trivial, trivial⟩⟩, trivial⟩⟩⟩⟩, ⟨trivial, ⟨trivial, ⟨trivial, ⟨⟨trivial, ⟨trivial, ⟨trivial, ⟨trivial, ⟨⟨trivial, trivial⟩, trivial⟩⟩⟩⟩⟩, ⟨trivial, trivial⟩⟩⟩⟩⟩⟩⟩)
    (fun x K hp hk => ⟨_, by kernel_rfl, vF_impl_CrdRx_hear x.1 x.2.1 x.2.2 K hp (fun q h => hk q h)⟩)
theorem vF_impl_CrdHear (c:Cfg) (r:CrS) (f:Frm) (K:List Arg→List (List AC)→Prop) (hp:f.data.length≤1000000000) (hk:∀ (q:CrHearR),(q=crdHear c r f)→K ([rCr.to q.r,(rR .byr).to q.sdus]) ([])):(true=true)∧(True∧(∀ r1:Bool,(r1=(decide (CfgP c)))→(true=true)∧(if ((!r1)=true) then ((true=true)∧(K [(Arg.v true [(AC.d (D.i IntKind.i64 (0:Int))),(AC.d (D.i IntKind.i64 (0:Int))),(AC.d (D.r RK.u8 ([]:(List Int)))),(AC.d (D.b false))]),(aR RK.byr ([]:(List (List Int))))] [])) else ((true=true)∧(True∧(∀ r2:Bool,(r2=(decide (CrP r)))→(true=true)∧(if ((!r2)=true) then ((true=true)∧(K [(Arg.v true [(AC.d (D.i IntKind.i64 (0:Int))),(AC.d (D.i IntKind.i64 (0:Int))),(AC.d (D.r RK.u8 ([]:(List Int)))),(AC.d (D.b false))]),(aR RK.byr ([]:(List (List Int))))] [])) else (if ((f.kind != (3:Int))=true) then ((true=true)∧(K [(Arg.v true [(AC.d (D.i IntKind.i64 (0:Int))),(AC.d (D.i IntKind.i64 (0:Int))),(AC.d (D.r RK.u8 ([]:(List Int)))),(AC.d (D.b false))]),(aR RK.byr ([]:(List (List Int))))] [])) else ((true=true)∧(((List.length f.data)≤(137438953472:Nat))∧(∀ r3:Bool,(r3=(decide (FrmP f)))→(true=true)∧(if ((!r3)=true) then ((true=true)∧(K [(Arg.v true [(AC.d (D.i IntKind.i64 (0:Int))),(AC.d (D.i IntKind.i64 (0:Int))),(AC.d (D.r RK.u8 ([]:(List Int)))),(AC.d (D.b false))]),(aR RK.byr ([]:(List (List Int))))] [])) else ((true=true)∧(((List.length r.join.got)≤(137438953472:Nat))∧(∀ r4:CrS,(r4=r)→(true=true)∧((true=true)∧(((CrIn c r4 f)∧((List.length f.data)≤(1000000000:Nat)))∧(∀ r5:CrHearR,(r5=(crdHear1 c r4 f))→(true=true)∧((true=true)∧(((List.length r5.r.join.got)≤(137438953472:Nat))∧(∀ r6:CrS,(r6=r5.r)→(true=true)∧((true=true)∧(K [(Arg.v true [(AC.d (D.i IntKind.i64 r6.out)),(AC.d (D.i IntKind.i64 r6.join.len)),(AC.d (D.r RK.u8 r6.join.got)),(AC.d (D.b r6.dead))]),(aR RK.byr r5.sdus)] []))))))))))))))))))))))) := by
  repeat' first
    | exact rfl
    | exact True.intro
    | with_reducible apply And.intro
    | (with_reducible intro y_ hy_; subst hy_)
    | with_reducible intro y_
    | (refine iteI (fun h => ?_) (fun h => ?_))
  all_goals try simp only [Bool.not_eq_true', decide_eq_false_iff_not, decide_eq_true_eq, Bool.not_eq_true, bne_iff_ne, beq_iff_eq, ne_eq, Decidable.not_not, Bool.not_eq_false, gt_iff_lt, ge_iff_le, Int.not_le, Int.not_lt, beq_eq_false_iff_ne, bne_eq_false_iff_eq, Bool.and_eq_true, Bool.or_eq_true, Bool.true_eq_false, Bool.false_eq_true] at *
  all_goals try simp (disch := first | omega | grind [CrIn, CrP, JoinP]) only [wr] at *
  all_goals first
    | assumption
    | omega
    | (have h2 : CrIn c _ f := ⟨by assumption, ‹CrP _›, by assumption, by assumption⟩
       exact Nat.le_trans (crd_got c _ f).1 (by have h4 := h2.got; omega))
    | (have h2 := CrIn.seg (c := c) (f := f) ⟨by assumption, ‹CrP _›, by assumption, by assumption⟩
       omega)
    | exact (‹CrP _› : CrP _).2
    | (have h4 := CrIn.got (c := c) (f := f) ⟨by assumption, ‹CrP _›, by assumption, by assumption⟩
       first
       | exact Nat.le_trans (segPut_got _ _).1 (by dsimp only; omega)
       | exact Nat.le_trans (segPut_got _ _).2 (by dsimp only; omega)
       | (cases ‹List.Mem _ _› with
         | head => exact Nat.le_trans (segPut_got _ _).2 (by dsimp only; omega)
         | tail _ h9 => cases h9))
    | (have h := hk _ rfl
       unfold crdHear at h
       try dsimp only at h
       first
       | exact h
       | (repeat' split at h
          all_goals first | exact h | (exfalso; grind [CrIn, CrP, JoinP]) | (exfalso; simp at *; omega)))
    | (have h := hk _ rfl
       unfold crdHear crdHear1 at h
       try dsimp only at h
       repeat' split at h
       all_goals first | exact h | (exfalso; grind [CrIn, CrP, JoinP]) | (exfalso; simp at *; omega))
    | exact hk _ (by grind [CrIn, CrP, JoinP])
    | (simp only [LIM] at *; omega)
    | grind [CrIn, CrP, JoinP, LIM]
theorem w_impl_CrdHear : Valid Try.prog 36 c_impl_CrdHear :=
  valid_ctr2 (V := V_impl_CrdHear) (tysB_ok tys_ok) ⟨(CallsL.cons w_impl_CrdRxOk (CallsL.cons w_impl_CrdRx_copyOf (CallsL.cons w_impl_CfgOk (CallsL.cons w_impl_FrmOk (CallsL.cons w_impl_CrdRx_hear (CallsL.nil _)))))), (IosL.nil _)⟩ mixed 0 5 Try.func36 rfl (by kernel_rfl)
    (fun c hc => by
      obtain rfl := Option.some.inj hc
      exact ⟨trivial, ⟨⟨trivial, ⟨⟨trivial, trivial⟩, trivial⟩⟩, ⟨trivial, ⟨trivial, ⟨trivial, trivial⟩⟩⟩⟩⟩)
    (fun x K hp hk => ⟨_, by kernel_rfl, vF_impl_CrdHear x.1 x.2.1 x.2.2 K hp (fun q h => hk q h)⟩)
theorem vF_spec_CrdHear (c:Cfg) (r:CrS) (f:Frm) (K:List Arg→List (List AC)→Prop) (hp:f.data.length≤1000000000) (hk:∀ (q:CrHearR),(q=crdHear c r f)→K ([rCr.to q.r,(rR .byr).to q.sdus]) ([])):(true=true)∧(True∧(∀ r1:Bool,(r1=(decide (CfgP c)))→(true=true)∧(if ((!r1)=true) then ((true=true)∧(K [(Arg.v true [(AC.d (D.i IntKind.i64 (0:Int))),(AC.d (D.i IntKind.i64 (0:Int))),(AC.d (D.r RK.u8 ([]:(List Int)))),(AC.d (D.b false))]),(aR RK.byr ([]:(List (List Int))))] [])) else ((true=true)∧(True∧(∀ r2:Bool,(r2=(decide (CrP r)))→(true=true)∧(if ((!r2)=true) then ((true=true)∧(K [(Arg.v true [(AC.d (D.i IntKind.i64 (0:Int))),(AC.d (D.i IntKind.i64 (0:Int))),(AC.d (D.r RK.u8 ([]:(List Int)))),(AC.d (D.b false))]),(aR RK.byr ([]:(List (List Int))))] [])) else ((true=true)∧(True∧(∀ r3:Bool,(r3=(decide (FrmP f)))→(true=true)∧(if ((!r3)=true) then ((true=true)∧(K [(Arg.v true [(AC.d (D.i IntKind.i64 (0:Int))),(AC.d (D.i IntKind.i64 (0:Int))),(AC.d (D.r RK.u8 ([]:(List Int)))),(AC.d (D.b false))]),(aR RK.byr ([]:(List (List Int))))] [])) else (if ((f.kind != (3:Int))=true) then ((true=true)∧(K [(Arg.v true [(AC.d (D.i IntKind.i64 (0:Int))),(AC.d (D.i IntKind.i64 (0:Int))),(AC.d (D.r RK.u8 ([]:(List Int)))),(AC.d (D.b false))]),(aR RK.byr ([]:(List (List Int))))] [])) else ((true=true)∧(((List.length r.join.got)≤(137438953472:Nat))∧(∀ r4:CrS,(r4=r)→(true=true)∧(if (r.dead=true) then ((true=true)∧(K [(Arg.v true [(AC.d (D.i IntKind.i64 r4.out)),(AC.d (D.i IntKind.i64 r4.join.len)),(AC.d (D.r RK.u8 r4.join.got)),(AC.d (D.b r4.dead))]),(aR RK.byr ([]:(List (List Int))))] [])) else (if ((r.out == (0:Int))=true) then ((true=true)∧(K [(Arg.v true [(AC.d (D.i IntKind.i64 r4.out)),(AC.d (D.i IntKind.i64 r4.join.len)),(AC.d (D.r RK.u8 r4.join.got)),(AC.d (D.b true))]),(aR RK.byr ([]:(List (List Int))))] [])) else (if ((decide (f.len > c.mtu))=true) then ((true=true)∧(K [(Arg.v true [(AC.d (D.i IntKind.i64 r4.out)),(AC.d (D.i IntKind.i64 r4.join.len)),(AC.d (D.r RK.u8 r4.join.got)),(AC.d (D.b true))]),(aR RK.byr ([]:(List (List Int))))] [])) else (if ((decide ((((List.length f.data):Nat):Int) > c.mps))=true) then ((true=true)∧(K [(Arg.v true [(AC.d (D.i IntKind.i64 r4.out)),(AC.d (D.i IntKind.i64 r4.join.len)),(AC.d (D.r RK.u8 r4.join.got)),(AC.d (D.b true))]),(aR RK.byr ([]:(List (List Int))))] [])) else ((true=true)∧(((JoinP r4.join)∧(((0:Int)≤f.seg)∧((f.seg≤(3:Int))∧((List.length f.data)≤(1000000000:Nat)))))∧(∀ r5:PutR,(r5=(segPut r4.join (Part.mk f.seg f.len f.data)))→(true=true)∧(if ((r5.how == (3:Int))=true) then (if ((r5.how == (2:Int))=true) then ((true=true)∧(((List.length r5.j.got)≤(137438953472:Nat))∧(∀ r6:CrS,(r6=(CrS.mk (IntKind.wrap IntKind.i64 (r.out - (1:Int))) r5.j true))→(true=true)∧((true=true)∧((((List.length (r5.sdu :: ([]:(List (List Int))):(List (List Int))))≤(1000:Nat))∧(∀ y:(List Int),(List.Mem y (r5.sdu :: ([]:(List (List Int))):(List (List Int))))→((List.length y)≤(137438953472:Nat))))∧(∀ r7:(List (List Int)),(r7=(r5.sdu :: ([]:(List (List Int))):(List (List Int))))→(true=true)∧((true=true)∧(K [(Arg.v true [(AC.d (D.i IntKind.i64 r6.out)),(AC.d (D.i IntKind.i64 r6.join.len)),(AC.d (D.r RK.u8 r6.join.got)),(AC.d (D.b r6.dead))]),(aR RK.byr r7)] [])))))))) else ((true=true)∧(((List.length r5.j.got)≤(137438953472:Nat))∧(∀ r6:CrS,(r6=(CrS.mk (IntKind.wrap IntKind.i64 (r.out - (1:Int))) r5.j true))→(true=true)∧((true=true)∧(K [(Arg.v true [(AC.d (D.i IntKind.i64 r6.out)),(AC.d (D.i IntKind.i64 r6.join.len)),(AC.d (D.r RK.u8 r6.join.got)),(AC.d (D.b r6.dead))]),(aR RK.byr ([]:(List (List Int))))] [])))))) else (if ((r5.how == (2:Int))=true) then ((true=true)∧(((List.length r5.j.got)≤(137438953472:Nat))∧(∀ r6:CrS,(r6=(CrS.mk (IntKind.wrap IntKind.i64 (r.out - (1:Int))) r5.j r4.dead))→(true=true)∧((true=true)∧((((List.length (r5.sdu :: ([]:(List (List Int))):(List (List Int))))≤(1000:Nat))∧(∀ y:(List Int),(List.Mem y (r5.sdu :: ([]:(List (List Int))):(List (List Int))))→((List.length y)≤(137438953472:Nat))))∧(∀ r7:(List (List Int)),(r7=(r5.sdu :: ([]:(List (List Int))):(List (List Int))))→(true=true)∧((true=true)∧(K [(Arg.v true [(AC.d (D.i IntKind.i64 r6.out)),(AC.d (D.i IntKind.i64 r6.join.len)),(AC.d (D.r RK.u8 r6.join.got)),(AC.d (D.b r6.dead))]),(aR RK.byr r7)] [])))))))) else ((true=true)∧(((List.length r5.j.got)≤(137438953472:Nat))∧(∀ r6:CrS,(r6=(CrS.mk (IntKind.wrap IntKind.i64 (r.out - (1:Int))) r5.j r4.dead))→(true=true)∧((true=true)∧(K [(Arg.v true [(AC.d (D.i IntKind.i64 r6.out)),(AC.d (D.i IntKind.i64 r6.join.len)),(AC.d (D.r RK.u8 r6.join.got)),(AC.d (D.b r6.dead))]),(aR RK.byr ([]:(List (List Int))))] []))))))))))))))))))))))))))))) := by
  repeat' first
    | exact rfl
    | exact True.intro
    | with_reducible apply And.intro
    | (with_reducible intro y_ hy_; subst hy_)
    | with_reducible intro y_
    | (refine iteI (fun h => ?_) (fun h => ?_))
  all_goals try simp only [Bool.not_eq_true', decide_eq_false_iff_not, decide_eq_true_eq, Bool.not_eq_true, bne_iff_ne, beq_iff_eq, ne_eq, Decidable.not_not, Bool.not_eq_false, gt_iff_lt, ge_iff_le, Int.not_le, Int.not_lt, beq_eq_false_iff_ne, bne_eq_false_iff_eq, Bool.and_eq_true, Bool.or_eq_true, Bool.true_eq_false, Bool.false_eq_true] at *
  all_goals try simp (disch := first | omega | grind [CrIn, CrP, JoinP]) only [wr] at *
  all_goals first
    | assumption
    | omega
    | (have h2 : CrIn c _ f := ⟨by assumption, ‹CrP _›, by assumption, by assumption⟩
       exact Nat.le_trans (crd_got c _ f).1 (by have h4 := h2.got; omega))
    | (have h2 := CrIn.seg (c := c) (f := f) ⟨by assumption, ‹CrP _›, by assumption, by assumption⟩
       omega)
    | exact (‹CrP _› : CrP _).2
    | (have h4 := CrIn.got (c := c) (f := f) ⟨by assumption, ‹CrP _›, by assumption, by assumption⟩
       first
       | exact Nat.le_trans (segPut_got _ _).1 (by dsimp only; omega)
       | exact Nat.le_trans (segPut_got _ _).2 (by dsimp only; omega)
       | (cases ‹List.Mem _ _› with
         | head => exact Nat.le_trans (segPut_got _ _).2 (by dsimp only; omega)
         | tail _ h9 => cases h9))
    | (have h := hk _ rfl
       unfold crdHear at h
       try dsimp only at h
       first
       | exact h
       | (repeat' split at h
          all_goals first | exact h | (exfalso; grind [CrIn, CrP, JoinP]) | (exfalso; simp at *; omega)))
    | (have h := hk _ rfl
       unfold crdHear crdHear1 at h
       try dsimp only at h
       repeat' split at h
       all_goals first | exact h | (exfalso; grind [CrIn, CrP, JoinP]) | (exfalso; simp at *; omega))
    | exact hk _ (by grind [CrIn, CrP, JoinP])
    | (simp only [LIM] at *; omega)
    | grind [CrIn, CrP, JoinP, LIM]
theorem w_spec_CrdHear : Valid Try.prog 34 c_spec_CrdHear :=
  valid_ctr2 (V := V_spec_CrdHear) (tysB_ok tys_ok) ⟨(CallsL.cons w_spec_CrdRxOk (CallsL.cons w_spec_l8Rx (CallsL.cons w_spec_CfgOk (CallsL.cons w_spec_FrmOk (CallsL.cons w_spec_l4Put (CallsL.cons w_spec_l7Sdus (CallsL.nil _))))))), (IosL.nil _)⟩ mixed 0 6 Try.func34 rfl (by kernel_rfl)
    (fun c hc => by
      obtain rfl := Option.some.inj hc
      exact ⟨trivial, ⟨⟨trivial, ⟨⟨trivial, trivial⟩, trivial⟩⟩, ⟨trivial, ⟨⟨trivial, ⟨⟨trivial, trivial⟩, trivial⟩⟩, ⟨⟨trivial, ⟨⟨trivial, ⟨trivial, trivial⟩⟩, trivial⟩⟩, ⟨trivial, ⟨trivial, ⟨trivial, ⟨⟨trivial, ⟨trivial, trivial⟩⟩, ⟨⟨trivial, ⟨⟨trivial, trivial⟩, trivial⟩⟩, ⟨trivial, trivial⟩⟩⟩⟩⟩⟩⟩⟩⟩⟩⟩)
    (fun x K hp hk => ⟨_, by kernel_rfl, vF_spec_CrdHear x.1 x.2.1 x.2.2 K hp (fun q h => hk q h)⟩)
end Go.Proofs.YtdahhphhblbfdaaE
