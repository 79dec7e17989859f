/- A part of the proof of laws of the program: what calls of the program answer. Conditions: none. -/
import Derived.Test.YtkkokenpehoffaaMcaba1ee7
set_option linter.unusedVariables false
set_option linter.unusedSimpArgs false
set_option linter.unusedSectionVars false
/- Contracts: X4. Conditions: none. -/
set_option linter.unusedVariables false
set_option maxHeartbeats 1600000
namespace Go.Proofs.YtkkokenpehoffaaE
open Go
/-! impl.FrmBytes@x -/
def c_impl_FrmBytes_x : Ent := ctr (α := (Frm)) (ρ := (List Int)) [] [(0, 0)] (rs1 rFrm) (fun x_ => (fun (f : Frm) => (f.data.length ≤ 1048576 ∧ Bytes f.data)) x_) (fun x_ r_ => (fun x_ => (fun (f : Frm) => ((fun r_ => (fun (r : List Int) => (r = frmBytes f)) r_))) x_) x_ r_) (fun r_ => (fun (r : List Int) => ([(rO 5 .u8).to r])) r_) (fun r_ => (fun (r : List Int) => ([])) r_)
def V_impl_FrmBytes_x : Env := ⟨tys, [(10, c_impl_CrcPut), (33, c_impl_FrmOk), (44, c_impl_truth)], [(41, [0]), (46, [1]), (2, [2])], [(1, 0)], [(3, ([], [0]))], [], [], [], [(3, [(0, false), (1, false), (2, false), (3, false), (4, false), (5, false), (6, false), (7, false), (8, false), (9, false), (10, false), (11, false), (13, false), (14, false), (18, false), (19, false), (20, false), (22, false), (23, false), (24, false), (27, false), (28, false), (29, false), (30, false), (31, false), (32, false), (33, false), (12, true), (15, true), (16, false), (17, false), (21, false), (25, false), (26, false), (34, true), (35, false)])]⟩
/-! spec.FrmBytes@x -/
def c_spec_FrmBytes_x : Ent := ctr (α := (Frm)) (ρ := (List Int)) [] [] (rs1 rFrm) (fun x_ => (fun (f : Frm) => (f.data.length ≤ 1048576 ∧ Bytes f.data)) x_) (fun x_ r_ => (fun x_ => (fun (f : Frm) => ((fun r_ => (fun (r : List Int) => (r = frmBytes f)) r_))) x_) x_ r_) (fun r_ => (fun (r : List Int) => ([rBytes.to r])) r_) (fun r_ => (fun (r : List Int) => ([])) r_)
def V_spec_FrmBytes_x : Env := ⟨tys, [(14, c_spec_CrcPut), (29, c_spec_FrmOk), (43, c_spec_l2Bit)], [(42, [0])], [(1, 0)], [(3, ([], [0]))], [], [], [], [(3, [(0, false), (1, false), (2, false), (3, false), (4, false), (5, false), (6, false), (7, false), (8, false), (9, false), (10, false), (11, false), (13, false), (14, false), (18, false), (19, false), (20, false), (22, false), (23, false), (24, false), (27, false), (28, false), (29, false), (30, false), (31, false), (32, false), (33, false), (12, true), (15, true), (16, false), (17, false), (21, false), (25, false), (26, false), (34, true), (35, false)])]⟩
/-! impl.FrmRead@x -/
def c_impl_FrmRead_x : Ent := ctr (α := (List Int)) (ρ := (ReadR)) [] [(0, 8)] (rs1 rBytes) (fun x_ => (fun (l : List Int) => (l.length ≤ 1048576 ∧ Bytes l)) x_) (fun x_ r_ => (fun x_ => (fun (l : List Int) => ((fun r_ => (fun (q : ReadR) => (q = frmRead2 l)) r_))) x_) x_ r_) (fun r_ => (fun (q : ReadR) => ([dFrm q.f, rB.to q.ok])) r_) (fun r_ => (fun (q : ReadR) => ([])) r_)
def V_impl_FrmRead_x : Env := ⟨tys, [(11, c_impl_CrcCut), (26, c_impl_FrmBytes_x), (39, c_impl_clone_byte), (40, c_slices_Equal_byte_byte)], [(56, [0]), (20, [0]), (63, [0])], [(2, 0), (7, 1)], [(5, ([], [0]))], [], [500015], [], [(5, [(0, false), (1, false), (2, false), (3, false), (4, false), (5, false), (6, false), (7, false), (8, false), (9, false), (10, false), (11, false), (12, false), (13, false), (14, false), (15, false), (16, false), (17, false), (18, false), (19, false), (20, false), (21, false), (22, false), (23, false), (24, false), (25, false), (26, false), (27, false), (28, false), (29, false), (30, false), (33, false), (31, true), (32, false), (34, true)])]⟩
/-! spec.FrmRead@x -/
def c_spec_FrmRead_x : Ent := ctr (α := (List Int)) (ρ := (ReadR)) [] [] (rs1 rBytes) (fun x_ => (fun (l : List Int) => (l.length ≤ 1048576 ∧ Bytes l)) x_) (fun x_ r_ => (fun x_ => (fun (l : List Int) => ((fun r_ => (fun (q : ReadR) => (q = frmRead2 l)) r_))) x_) x_ r_) (fun r_ => (fun (q : ReadR) => ([rFrm.to q.f, rB.to q.ok])) r_) (fun r_ => (fun (q : ReadR) => ([])) r_)
def V_spec_FrmRead_x : Env := ⟨tys, [(12, c_spec_CrcCut), (29, c_spec_FrmOk)], [(75, [0])], [(2, 0), (6, 1)], [(4, ([], [0]))], [], [78, 500014, 500019, 500029], [], [(4, [(0, false), (1, false), (2, false), (3, false), (4, false), (5, false), (6, false), (7, false), (8, false), (9, false), (10, false), (11, false), (12, false), (13, false), (14, false), (15, false), (16, false), (17, false), (18, false), (19, false), (20, false), (21, false), (22, false), (23, false), (24, false), (25, false), (26, false), (27, false), (28, false), (29, false), (30, false), (31, false), (32, false), (33, false), (34, false), (35, false), (36, false), (37, false), (38, false), (39, false), (41, false), (42, false), (45, false), (40, true), (43, true), (44, false), (46, true)])]⟩
end Go.Proofs.YtkkokenpehoffaaE

/- Calls answer what is promised: X4. Conditions: none. -/
set_option linter.unusedVariables false
set_option maxHeartbeats 1600000
namespace Go.Proofs.YtkkokenpehoffaaE
open Go
theorem vF_impl_FrmBytes_x (f:Frm) (K:List Arg→List (List AC)→Prop) (hp:f.data.length≤1048576∧Bytes f.data) (hk:∀ (r:List Int),(r=frmBytes f)→K ([(rO 5 .u8).to r]) ([])):(true=true)∧(((List.length f.data)≤(137438953472:Nat))∧(∀ r:Bool,(r=(decide (FrmP f)))→(true=true)∧(if ((!r)=true) then ((true=true)∧(K [(Arg.v false [(AC.own (RC.mk (5:Nat) RK.u8 ([]:(List Int)) (RM.mk (dpM false (Option.none)) false (0:Nat) false)))])] [])) else ((true=true)∧(True∧(∀ r1:Int,(r1=(bit f.poll))→(true=true)∧((true=true)∧((true=true)∧(True∧(∀ r2:Int,(r2=(bit f.final))→(true=true)∧((true=true)∧((true=true)∧((((List.length ((IntKind.wrap IntKind.u8 f.kind) :: ((IntKind.wrap IntKind.u8 (IntKind.wrap IntKind.i64 ((IntKind.wrap IntKind.i64 (f.seq * (16:Int))) + f.ack))) :: ((IntKind.wrap IntKind.u8 (IntKind.wrap IntKind.i64 ((IntKind.wrap IntKind.i64 ((IntKind.wrap IntKind.i64 (r1 + (IntKind.wrap IntKind.i64 ((2:Int) * r2)))) + (IntKind.wrap IntKind.i64 ((4:Int) * f.say)))) + (IntKind.wrap IntKind.i64 ((16:Int) * f.seg))))) :: ((IntKind.wrap IntKind.u8 f.len) :: ((IntKind.wrap IntKind.u8 (((List.length f.data):Nat):Int)) :: ([]:(List Int)):(List Int)):(List Int)):(List Int)):(List Int)):(List Int))) + (List.length f.data))≤(137438953472:Nat))∧((true=true)∧(((Bytes (((IntKind.wrap IntKind.u8 f.kind) :: ((IntKind.wrap IntKind.u8 (IntKind.wrap IntKind.i64 ((IntKind.wrap IntKind.i64 (f.seq * (16:Int))) + f.ack))) :: ((IntKind.wrap IntKind.u8 (IntKind.wrap IntKind.i64 ((IntKind.wrap IntKind.i64 ((IntKind.wrap IntKind.i64 (r1 + (IntKind.wrap IntKind.i64 ((2:Int) * r2)))) + (IntKind.wrap IntKind.i64 ((4:Int) * f.say)))) + (IntKind.wrap IntKind.i64 ((16:Int) * f.seg))))) :: ((IntKind.wrap IntKind.u8 f.len) :: ((IntKind.wrap IntKind.u8 (((List.length f.data):Nat):Int)) :: ([]:(List Int)):(List Int)):(List Int)):(List Int)):(List Int)):(List Int)) ++ f.data:(List Int)))∧((List.length (((IntKind.wrap IntKind.u8 f.kind) :: ((IntKind.wrap IntKind.u8 (IntKind.wrap IntKind.i64 ((IntKind.wrap IntKind.i64 (f.seq * (16:Int))) + f.ack))) :: ((IntKind.wrap IntKind.u8 (IntKind.wrap IntKind.i64 ((IntKind.wrap IntKind.i64 ((IntKind.wrap IntKind.i64 (r1 + (IntKind.wrap IntKind.i64 ((2:Int) * r2)))) + (IntKind.wrap IntKind.i64 ((4:Int) * f.say)))) + (IntKind.wrap IntKind.i64 ((16:Int) * f.seg))))) :: ((IntKind.wrap IntKind.u8 f.len) :: ((IntKind.wrap IntKind.u8 (((List.length f.data):Nat):Int)) :: ([]:(List Int)):(List Int)):(List Int)):(List Int)):(List Int)):(List Int)) ++ f.data:(List Int)))≤(1000000000:Nat)))∧(∀ r3:(List Int),(r3=(crcPut (((IntKind.wrap IntKind.u8 f.kind) :: ((IntKind.wrap IntKind.u8 (IntKind.wrap IntKind.i64 ((IntKind.wrap IntKind.i64 (f.seq * (16:Int))) + f.ack))) :: ((IntKind.wrap IntKind.u8 (IntKind.wrap IntKind.i64 ((IntKind.wrap IntKind.i64 ((IntKind.wrap IntKind.i64 (r1 + (IntKind.wrap IntKind.i64 ((2:Int) * r2)))) + (IntKind.wrap IntKind.i64 ((4:Int) * f.say)))) + (IntKind.wrap IntKind.i64 ((16:Int) * f.seg))))) :: ((IntKind.wrap IntKind.u8 f.len) :: ((IntKind.wrap IntKind.u8 (((List.length f.data):Nat):Int)) :: ([]:(List Int)):(List Int)):(List Int)):(List Int)):(List Int)):(List Int)) ++ f.data:(List Int))))→(true=true)∧((true=true)∧(K [(Arg.v false [(AC.own (RC.mk (5:Nat) RK.u8 r3 (RM.mk (dpM false (Option.none)) false (0:Nat) false)))])] [])))))))))))))))))) := by
  repeat' first
    | exact rfl
    | exact True.intro
    | with_reducible apply And.intro
    | (with_reducible intro y_ hy_; subst hy_)
    | with_reducible intro y_
    | (refine iteI (fun h => ?_) (fun h => ?_))
  all_goals try simp only [Bool.not_eq_true', decide_eq_false_iff_not, decide_eq_true_eq, Bool.not_eq_true, bne_iff_ne, beq_iff_eq, ne_eq, Decidable.not_not, Bool.not_eq_false, gt_iff_lt, ge_iff_le, Int.not_le, Int.not_lt, beq_eq_false_iff_ne, bne_eq_false_iff_eq, Bool.and_eq_true, Bool.or_eq_true, Bool.true_eq_false, Bool.false_eq_true] at *
  all_goals try simp (disch := first | omega | grind [frm_rng, bit_rng]) only [wr] at *
  all_goals try have h7 := frm_rng ‹FrmP _›
  all_goals try have h8 := bit_rng f.poll
  all_goals try have h9 := bit_rng f.final
  all_goals try simp (disch := omega) only [wr, wr8] at *
  all_goals first
    | assumption
    | omega
    | (have h := hk _ rfl
       unfold frmBytes at h
       first | (rw [if_pos ‹FrmP _›] at h; exact h) | (rw [if_neg ‹¬ FrmP _›] at h; exact h))
    | exact head_bytes ‹_› hp.2
    | exact hk _ (by grind [frm_rng, bit_rng])
    | (simp only [LIM] at *; omega)
    | grind [frm_rng, bit_rng, LIM]
theorem w_impl_FrmBytes_x : Valid Try.prog 26 c_impl_FrmBytes_x :=
  valid_ctr2 (V := V_impl_FrmBytes_x) (tysB_ok tys_ok) ⟨(CallsL.cons w_impl_CrcPut (CallsL.cons w_impl_FrmOk (CallsL.cons w_impl_truth (CallsL.nil _)))), (IosL.nil _)⟩ mixed 3 1 Try.func26 rfl (by kernel_rfl)
    (fun c hc => by
      obtain rfl := Option.some.inj hc
      exact ⟨trivial, ⟨⟨trivial, ⟨⟨trivial, trivial⟩, trivial⟩⟩, ⟨trivial, ⟨trivial, trivial⟩⟩⟩⟩)
    (fun x K hp hk => ⟨_, by kernel_rfl, vF_impl_FrmBytes_x x K hp (fun r h => hk r h)⟩)
theorem vF_spec_FrmBytes_x (f:Frm) (K:List Arg→List (List AC)→Prop) (hp:f.data.length≤1048576∧Bytes f.data) (hk:∀ (r:List Int),(r=frmBytes f)→K ([rBytes.to r]) ([])):(true=true)∧(True∧(∀ r:Bool,(r=(decide (FrmP f)))→(true=true)∧(if ((!r)=true) then ((true=true)∧(K [(aR RK.u8 ([]:(List Int)))] [])) else ((true=true)∧(True∧(∀ r1:Int,(r1=(bit f.poll))→(true=true)∧((true=true)∧((true=true)∧(True∧(∀ r2:Int,(r2=(bit f.final))→(true=true)∧((true=true)∧((true=true)∧((((List.length ((IntKind.wrap IntKind.u8 f.kind) :: ((IntKind.wrap IntKind.u8 (IntKind.wrap IntKind.i64 ((IntKind.wrap IntKind.i64 (f.seq * (16:Int))) + f.ack))) :: ((IntKind.wrap IntKind.u8 (IntKind.wrap IntKind.i64 ((IntKind.wrap IntKind.i64 ((IntKind.wrap IntKind.i64 (r1 + (IntKind.wrap IntKind.i64 ((2:Int) * r2)))) + (IntKind.wrap IntKind.i64 ((4:Int) * f.say)))) + (IntKind.wrap IntKind.i64 ((16:Int) * f.seg))))) :: ((IntKind.wrap IntKind.u8 f.len) :: ((IntKind.wrap IntKind.u8 (((List.length f.data):Nat):Int)) :: ([]:(List Int)):(List Int)):(List Int)):(List Int)):(List Int)):(List Int))) + (List.length f.data))≤(137438953472:Nat))∧((true=true)∧(((Bytes (((IntKind.wrap IntKind.u8 f.kind) :: ((IntKind.wrap IntKind.u8 (IntKind.wrap IntKind.i64 ((IntKind.wrap IntKind.i64 (f.seq * (16:Int))) + f.ack))) :: ((IntKind.wrap IntKind.u8 (IntKind.wrap IntKind.i64 ((IntKind.wrap IntKind.i64 ((IntKind.wrap IntKind.i64 (r1 + (IntKind.wrap IntKind.i64 ((2:Int) * r2)))) + (IntKind.wrap IntKind.i64 ((4:Int) * f.say)))) + (IntKind.wrap IntKind.i64 ((16:Int) * f.seg))))) :: ((IntKind.wrap IntKind.u8 f.len) :: ((IntKind.wrap IntKind.u8 (((List.length f.data):Nat):Int)) :: ([]:(List Int)):(List Int)):(List Int)):(List Int)):(List Int)):(List Int)) ++ f.data:(List Int)))∧((List.length (((IntKind.wrap IntKind.u8 f.kind) :: ((IntKind.wrap IntKind.u8 (IntKind.wrap IntKind.i64 ((IntKind.wrap IntKind.i64 (f.seq * (16:Int))) + f.ack))) :: ((IntKind.wrap IntKind.u8 (IntKind.wrap IntKind.i64 ((IntKind.wrap IntKind.i64 ((IntKind.wrap IntKind.i64 (r1 + (IntKind.wrap IntKind.i64 ((2:Int) * r2)))) + (IntKind.wrap IntKind.i64 ((4:Int) * f.say)))) + (IntKind.wrap IntKind.i64 ((16:Int) * f.seg))))) :: ((IntKind.wrap IntKind.u8 f.len) :: ((IntKind.wrap IntKind.u8 (((List.length f.data):Nat):Int)) :: ([]:(List Int)):(List Int)):(List Int)):(List Int)):(List Int)):(List Int)) ++ f.data:(List Int)))≤(1000000000:Nat)))∧(∀ r3:(List Int),(r3=(crcPut (((IntKind.wrap IntKind.u8 f.kind) :: ((IntKind.wrap IntKind.u8 (IntKind.wrap IntKind.i64 ((IntKind.wrap IntKind.i64 (f.seq * (16:Int))) + f.ack))) :: ((IntKind.wrap IntKind.u8 (IntKind.wrap IntKind.i64 ((IntKind.wrap IntKind.i64 ((IntKind.wrap IntKind.i64 (r1 + (IntKind.wrap IntKind.i64 ((2:Int) * r2)))) + (IntKind.wrap IntKind.i64 ((4:Int) * f.say)))) + (IntKind.wrap IntKind.i64 ((16:Int) * f.seg))))) :: ((IntKind.wrap IntKind.u8 f.len) :: ((IntKind.wrap IntKind.u8 (((List.length f.data):Nat):Int)) :: ([]:(List Int)):(List Int)):(List Int)):(List Int)):(List Int)):(List Int)) ++ f.data:(List Int))))→(true=true)∧((true=true)∧(K [(aR RK.u8 r3)] [])))))))))))))))))) := by
  repeat' first
    | exact rfl
    | exact True.intro
    | with_reducible apply And.intro
    | (with_reducible intro y_ hy_; subst hy_)
    | with_reducible intro y_
    | (refine iteI (fun h => ?_) (fun h => ?_))
  all_goals try simp only [Bool.not_eq_true', decide_eq_false_iff_not, decide_eq_true_eq, Bool.not_eq_true, bne_iff_ne, beq_iff_eq, ne_eq, Decidable.not_not, Bool.not_eq_false, gt_iff_lt, ge_iff_le, Int.not_le, Int.not_lt, beq_eq_false_iff_ne, bne_eq_false_iff_eq, Bool.and_eq_true, Bool.or_eq_true, Bool.true_eq_false, Bool.false_eq_true] at *
  all_goals try simp (disch := first | omega | grind [frm_rng, bit_rng]) only [wr] at *
  all_goals try have h7 := frm_rng ‹FrmP _›
  all_goals try have h8 := bit_rng f.poll
  all_goals try have h9 := bit_rng f.final
  all_goals try simp (disch := omega) only [wr, wr8] at *
  all_goals first
    | assumption
    | omega
    | (have h := hk _ rfl
       unfold frmBytes at h
       first | (rw [if_pos ‹FrmP _›] at h; exact h) | (rw [if_neg ‹¬ FrmP _›] at h; exact h))
    | exact head_bytes ‹_› hp.2
    | exact hk _ (by grind [frm_rng, bit_rng])
    | (simp only [LIM] at *; omega)
    | grind [frm_rng, bit_rng, LIM]
theorem w_spec_FrmBytes_x : Valid Try.prog 24 c_spec_FrmBytes_x :=
  valid_ctr2 (V := V_spec_FrmBytes_x) (tysB_ok tys_ok) ⟨(CallsL.cons w_spec_CrcPut (CallsL.cons w_spec_FrmOk (CallsL.cons w_spec_l2Bit (CallsL.nil _)))), (IosL.nil _)⟩ mixed 1 1 Try.func24 rfl (by kernel_rfl)
    (fun c hc => by
      obtain rfl := Option.some.inj hc
      exact ⟨trivial, ⟨⟨trivial, ⟨⟨trivial, trivial⟩, trivial⟩⟩, ⟨trivial, ⟨trivial, trivial⟩⟩⟩⟩)
    (fun x K hp hk => ⟨_, by kernel_rfl, vF_spec_FrmBytes_x x K hp (fun r h => hk r h)⟩)
theorem vF_impl_FrmRead_x (l:List Int) (K:List Arg→List (List AC)→Prop) (hp:l.length≤1048576∧Bytes l) (hk:∀ (q:ReadR),(q=frmRead2 l)→K ([dFrm q.f,rB.to q.ok]) ([])):(true=true)∧(((Bytes l)∧((List.length l)≤(1000000000:Nat)))∧(∀ r:CutR,(r=(crcCut2 l))→(true=true)∧(if ((!r.ok)=true) then ((true=true)∧(K [(Arg.v true [(AC.d (D.i IntKind.i64 (0:Int))),(AC.d (D.i IntKind.i64 (0:Int))),(AC.d (D.i IntKind.i64 (0:Int))),(AC.d (D.b false)),(AC.d (D.b false)),(AC.d (D.i IntKind.i64 (0:Int))),(AC.d (D.i IntKind.i64 (0:Int))),(AC.d (D.i IntKind.i64 (0:Int))),(AC.own (RC.mk (5:Nat) RK.u8 ([]:(List Int)) (RM.mk (dpM false (Option.none)) false (0:Nat) false)))]),(aB false)] [])) else (if ((decide ((((List.length r.l):Nat):Int) < (5:Int)))=true) then ((true=true)∧(K [(Arg.v true [(AC.d (D.i IntKind.i64 (0:Int))),(AC.d (D.i IntKind.i64 (0:Int))),(AC.d (D.i IntKind.i64 (0:Int))),(AC.d (D.b false)),(AC.d (D.b false)),(AC.d (D.i IntKind.i64 (0:Int))),(AC.d (D.i IntKind.i64 (0:Int))),(AC.d (D.i IntKind.i64 (0:Int))),(AC.own (RC.mk (5:Nat) RK.u8 ([]:(List Int)) (RM.mk (dpM false (Option.none)) false (0:Nat) false)))]),(aB false)] [])) else ((((0:Int)≤(2:Int))∧((2:Int) < (((List.length r.l):Nat):Int)))∧((((0:Int)≤(0:Int))∧((0:Int) < (((List.length r.l):Nat):Int)))∧((((0:Int)≤(1:Int))∧((1:Int) < (((List.length r.l):Nat):Int)))∧(((16:Int) ≠ (0:Int))∧((((0:Int)≤(1:Int))∧((1:Int) < (((List.length r.l):Nat):Int)))∧(((16:Int) ≠ (0:Int))∧(((4:Int) ≠ (0:Int))∧(((4:Int) ≠ (0:Int))∧(((16:Int) ≠ (0:Int))∧((((0:Int)≤(3:Int))∧((3:Int) < (((List.length r.l):Nat):Int)))∧((((0:Int)≤(5:Int))∧(((5:Int)≤(((List.length r.l):Nat):Int))∧((((List.length r.l):Nat):Int)≤(((List.length r.l):Nat):Int))))∧((true=true)∧(((List.length (List.take ((Int.toNat (((List.length r.l):Nat):Int)) - (5:Nat)) (List.drop (5:Nat) r.l)))≤(137438953472:Nat))∧(∀ r1:(List Int),(r1=(List.take ((Int.toNat (((List.length r.l):Nat):Int)) - (5:Nat)) (List.drop (5:Nat) r.l)))→(true=true)∧((true=true)∧((true=true)∧((true=true)∧((((List.length r1)≤(1048576:Nat))∧(Bytes r1))∧(∀ r2:(List Int),(r2=(frmBytes (Frm.mk (IntKind.wrap IntKind.i64 (at_u8 r.l (0:Nat))) (IntKind.wrap IntKind.i64 (Int.tdiv (IntKind.wrap IntKind.i64 (at_u8 r.l (1:Nat))) (16:Int))) (Int.tmod (IntKind.wrap IntKind.i64 (at_u8 r.l (1:Nat))) (16:Int)) ((bits BinOp.and IntKind.i64 (IntKind.wrap IntKind.i64 (at_u8 r.l (2:Nat))) (1:Int)) == (1:Int)) ((bits BinOp.and IntKind.i64 (IntKind.wrap IntKind.i64 (at_u8 r.l (2:Nat))) (2:Int)) == (2:Int)) (Int.tmod (IntKind.wrap IntKind.i64 (Int.tdiv (IntKind.wrap IntKind.i64 (at_u8 r.l (2:Nat))) (4:Int))) (4:Int)) (IntKind.wrap IntKind.i64 (Int.tdiv (IntKind.wrap IntKind.i64 (at_u8 r.l (2:Nat))) (16:Int))) (IntKind.wrap IntKind.i64 (at_u8 r.l (3:Nat))) r1)))→(true=true)∧((true=true)∧(((List.length r2)≤(137438953472:Nat))∧(∀ r3:Bool,(r3=(decide (r2=l)))→(true=true)∧(if ((!r3)=true) then ((true=true)∧(K [(Arg.v true [(AC.d (D.i IntKind.i64 (0:Int))),(AC.d (D.i IntKind.i64 (0:Int))),(AC.d (D.i IntKind.i64 (0:Int))),(AC.d (D.b false)),(AC.d (D.b false)),(AC.d (D.i IntKind.i64 (0:Int))),(AC.d (D.i IntKind.i64 (0:Int))),(AC.d (D.i IntKind.i64 (0:Int))),(AC.own (RC.mk (5:Nat) RK.u8 ([]:(List Int)) (RM.mk (dpM false (Option.none)) false (0:Nat) false)))]),(aB false)] [])) else ((true=true)∧(K [(Arg.v true [(AC.d (D.i IntKind.i64 (IntKind.wrap IntKind.i64 (at_u8 r.l (0:Nat))))),(AC.d (D.i IntKind.i64 (IntKind.wrap IntKind.i64 (Int.tdiv (IntKind.wrap IntKind.i64 (at_u8 r.l (1:Nat))) (16:Int))))),(AC.d (D.i IntKind.i64 (Int.tmod (IntKind.wrap IntKind.i64 (at_u8 r.l (1:Nat))) (16:Int)))),(AC.d (D.b ((bits BinOp.and IntKind.i64 (IntKind.wrap IntKind.i64 (at_u8 r.l (2:Nat))) (1:Int)) == (1:Int)))),(AC.d (D.b ((bits BinOp.and IntKind.i64 (IntKind.wrap IntKind.i64 (at_u8 r.l (2:Nat))) (2:Int)) == (2:Int)))),(AC.d (D.i IntKind.i64 (Int.tmod (IntKind.wrap IntKind.i64 (Int.tdiv (IntKind.wrap IntKind.i64 (at_u8 r.l (2:Nat))) (4:Int))) (4:Int)))),(AC.d (D.i IntKind.i64 (IntKind.wrap IntKind.i64 (Int.tdiv (IntKind.wrap IntKind.i64 (at_u8 r.l (2:Nat))) (16:Int))))),(AC.d (D.i IntKind.i64 (IntKind.wrap IntKind.i64 (at_u8 r.l (3:Nat))))),(AC.own (RC.mk (5:Nat) RK.u8 r1 (RM.mk (dpM false (Option.none)) false (0:Nat) false)))]),(aB true)] []))))))))))))))))))))))))))))) := by
  have hb := crcCut_bytes hp.2
  have hcl := crcCut_len l
  have g0 := hb.at8 0
  have g1 := hb.at8 1
  have g2 := hb.at8 2
  have g3 := hb.at8 3
  have g4 := hb.at8 4

  repeat' first
    | exact rfl
    | exact True.intro
    | with_reducible apply And.intro
    | (with_reducible intro y_ hy_; subst hy_)
    | with_reducible intro y_
    | (refine iteI (fun h => ?_) (fun h => ?_))
  all_goals try simp only [Bool.not_eq_true', decide_eq_false_iff_not, decide_eq_true_eq, Bool.not_eq_true, bne_iff_ne, beq_iff_eq, ne_eq, Decidable.not_not, Bool.not_eq_false, gt_iff_lt, ge_iff_le, Int.not_le, Int.not_lt, beq_eq_false_iff_ne, bne_eq_false_iff_eq, Bool.and_eq_true, Bool.or_eq_true, Bool.true_eq_false, Bool.false_eq_true] at *
  all_goals try simp (disch := first | omega | grind [crcCut2, crcCut_len, crcCut_bytes]) only [wr] at *
  all_goals try simp only [crcCut2, drop5, drop5b, List.nil_append] at *
  all_goals try simp (disch := omega) only [Int.tdiv_eq_ediv_of_nonneg, Int.tmod_eq_emod_of_nonneg, wr, wr8] at *
  all_goals first
    | assumption
    | omega
    | (rw [List.length_drop]; omega)
    | exact hb.drop 5
    | exact Nat.le_trans (frmBytes_len _) (by decide)
    | (have hn : ¬ ReadP l := fun hr => by
         have q1 := hr.1
         have q2 := hr.2.1
         have q3 := hr.2.2.1
         have q4 := read_len hr
         first
         | omega
         | (exact absurd q3 h)
         | (exact absurd q1 (of_decide_eq_false h))
         | (exact absurd hr.2.2.2 h)
         | (rw [frmOf_i hb] at h
            exact h ((read_iff hp.2 hr.1 hr.2.1).2 hr))
       have h0 := hk _ rfl
       rw [read2_no hn] at h0
       exact h0)
    | (rw [frmOf_i hb] at h
       have hr := (read_iff hp.2 (of_decide_eq_true ‹_›) (by omega)).1 h
       have h0 := hk _ rfl
       rw [read2_yes hr, ← frmOf_i hb] at h0
       exact h0)
    | (have hr : ReadP l := ⟨of_decide_eq_true ‹_›, by omega, by assumption, h⟩
       have h0 := hk _ rfl
       rw [read2_yes hr] at h0
       exact h0)
    | exact hk _ (by grind [crcCut2, crcCut_len, crcCut_bytes])
    | (simp only [LIM] at *; omega)
    | grind [crcCut2, crcCut_len, crcCut_bytes, LIM]
theorem w_impl_FrmRead_x : Valid Try.prog 17 c_impl_FrmRead_x :=
  valid_ctr2 (V := V_impl_FrmRead_x) (tysB_ok tys_ok) ⟨(CallsL.cons w_impl_CrcCut (CallsL.cons w_impl_FrmBytes_x (CallsL.cons w_impl_clone_byte (CallsL.cons w_slices_Equal_byte_byte (CallsL.nil _))))), (IosL.nil _)⟩ mixed 1 2 Try.func17 rfl (by kernel_rfl)
    (fun c hc => by
      obtain rfl := Option.some.inj hc
      exact ⟨trivial, ⟨trivial, ⟨⟨trivial, ⟨⟨trivial, trivial⟩, trivial⟩⟩, ⟨trivial, ⟨trivial, ⟨⟨trivial, ⟨⟨trivial, trivial⟩, trivial⟩⟩, ⟨trivial, trivial⟩⟩⟩⟩⟩⟩⟩)
    (fun x K hp hk => ⟨_, by kernel_rfl, vF_impl_FrmRead_x x K hp (fun q h => hk q h)⟩)
theorem vF_spec_FrmRead_x (l:List Int) (K:List Arg→List (List AC)→Prop) (hp:l.length≤1048576∧Bytes l) (hk:∀ (q:ReadR),(q=frmRead2 l)→K ([rFrm.to q.f,rB.to q.ok]) ([])):(true=true)∧(((Bytes l)∧((List.length l)≤(1000000000:Nat)))∧(∀ r:CutR,(r=(crcCut2 l))→(true=true)∧(if ((!r.ok)=true) then ((true=true)∧(K [(Arg.v true [(AC.d (D.i IntKind.i64 (0:Int))),(AC.d (D.i IntKind.i64 (0:Int))),(AC.d (D.i IntKind.i64 (0:Int))),(AC.d (D.b false)),(AC.d (D.b false)),(AC.d (D.i IntKind.i64 (0:Int))),(AC.d (D.i IntKind.i64 (0:Int))),(AC.d (D.i IntKind.i64 (0:Int))),(AC.d (D.r RK.u8 ([]:(List Int))))]),(aB false)] [])) else (if ((decide ((((List.length r.l):Nat):Int) < (5:Int)))=true) then ((true=true)∧(K [(Arg.v true [(AC.d (D.i IntKind.i64 (0:Int))),(AC.d (D.i IntKind.i64 (0:Int))),(AC.d (D.i IntKind.i64 (0:Int))),(AC.d (D.b false)),(AC.d (D.b false)),(AC.d (D.i IntKind.i64 (0:Int))),(AC.d (D.i IntKind.i64 (0:Int))),(AC.d (D.i IntKind.i64 (0:Int))),(AC.d (D.r RK.u8 ([]:(List Int))))]),(aB false)] [])) else ((((0:Int)≤(4:Int))∧((4:Int) < (((List.length r.l):Nat):Int)))∧(if (((IntKind.wrap IntKind.i64 (at_u8 r.l (4:Nat))) != (IntKind.wrap IntKind.i64 ((((List.length r.l):Nat):Int) - (5:Int))))=true) then ((true=true)∧(K [(Arg.v true [(AC.d (D.i IntKind.i64 (0:Int))),(AC.d (D.i IntKind.i64 (0:Int))),(AC.d (D.i IntKind.i64 (0:Int))),(AC.d (D.b false)),(AC.d (D.b false)),(AC.d (D.i IntKind.i64 (0:Int))),(AC.d (D.i IntKind.i64 (0:Int))),(AC.d (D.i IntKind.i64 (0:Int))),(AC.d (D.r RK.u8 ([]:(List Int))))]),(aB false)] [])) else (if ((decide ((((List.length r.l):Nat):Int) > (13:Int)))=true) then ((true=true)∧(K [(Arg.v true [(AC.d (D.i IntKind.i64 (0:Int))),(AC.d (D.i IntKind.i64 (0:Int))),(AC.d (D.i IntKind.i64 (0:Int))),(AC.d (D.b false)),(AC.d (D.b false)),(AC.d (D.i IntKind.i64 (0:Int))),(AC.d (D.i IntKind.i64 (0:Int))),(AC.d (D.i IntKind.i64 (0:Int))),(AC.d (D.r RK.u8 ([]:(List Int))))]),(aB false)] [])) else ((((0:Int)≤(0:Int))∧((0:Int) < (((List.length r.l):Nat):Int)))∧((((0:Int)≤(1:Int))∧((1:Int) < (((List.length r.l):Nat):Int)))∧(((16:Int) ≠ (0:Int))∧((((0:Int)≤(1:Int))∧((1:Int) < (((List.length r.l):Nat):Int)))∧(((16:Int) ≠ (0:Int))∧((((0:Int)≤(2:Int))∧((2:Int) < (((List.length r.l):Nat):Int)))∧(((2:Int) ≠ (0:Int))∧((((0:Int)≤(2:Int))∧((2:Int) < (((List.length r.l):Nat):Int)))∧(((2:Int) ≠ (0:Int))∧(((2:Int) ≠ (0:Int))∧((((0:Int)≤(2:Int))∧((2:Int) < (((List.length r.l):Nat):Int)))∧(((4:Int) ≠ (0:Int))∧(((4:Int) ≠ (0:Int))∧((((0:Int)≤(2:Int))∧((2:Int) < (((List.length r.l):Nat):Int)))∧(((16:Int) ≠ (0:Int))∧((((0:Int)≤(3:Int))∧((3:Int) < (((List.length r.l):Nat):Int)))∧((((0:Int)≤(5:Int))∧(((5:Int)≤(((List.length r.l):Nat):Int))∧((((List.length r.l):Nat):Int)≤(((List.length r.l):Nat):Int))))∧((true=true)∧((((0:Nat) + (List.length (List.take ((Int.toNat (((List.length r.l):Nat):Int)) - (5:Nat)) (List.drop (5:Nat) r.l))))≤(137438953472:Nat))∧((true=true)∧((true=true)∧((true=true)∧(True∧(∀ r1:Bool,(r1=(decide (FrmP (Frm.mk (IntKind.wrap IntKind.i64 (at_u8 r.l (0:Nat))) (IntKind.wrap IntKind.i64 (IntKind.wrap IntKind.u8 (Int.tdiv (at_u8 r.l (1:Nat)) (16:Int)))) (IntKind.wrap IntKind.i64 (Int.tmod (at_u8 r.l (1:Nat)) (16:Int))) ((Int.tmod (at_u8 r.l (2:Nat)) (2:Int)) == (1:Int)) ((Int.tmod (IntKind.wrap IntKind.u8 (Int.tdiv (at_u8 r.l (2:Nat)) (2:Int))) (2:Int)) == (1:Int)) (IntKind.wrap IntKind.i64 (Int.tmod (IntKind.wrap IntKind.u8 (Int.tdiv (at_u8 r.l (2:Nat)) (4:Int))) (4:Int))) (IntKind.wrap IntKind.i64 (IntKind.wrap IntKind.u8 (Int.tdiv (at_u8 r.l (2:Nat)) (16:Int)))) (IntKind.wrap IntKind.i64 (at_u8 r.l (3:Nat))) (([]:(List Int)) ++ (List.take ((Int.toNat (((List.length r.l):Nat):Int)) - (5:Nat)) (List.drop (5:Nat) r.l)):(List Int))))))→(true=true)∧(if ((!r1)=true) then ((true=true)∧(K [(Arg.v true [(AC.d (D.i IntKind.i64 (0:Int))),(AC.d (D.i IntKind.i64 (0:Int))),(AC.d (D.i IntKind.i64 (0:Int))),(AC.d (D.b false)),(AC.d (D.b false)),(AC.d (D.i IntKind.i64 (0:Int))),(AC.d (D.i IntKind.i64 (0:Int))),(AC.d (D.i IntKind.i64 (0:Int))),(AC.d (D.r RK.u8 ([]:(List Int))))]),(aB false)] [])) else ((true=true)∧(K [(Arg.v true [(AC.d (D.i IntKind.i64 (IntKind.wrap IntKind.i64 (at_u8 r.l (0:Nat))))),(AC.d (D.i IntKind.i64 (IntKind.wrap IntKind.i64 (IntKind.wrap IntKind.u8 (Int.tdiv (at_u8 r.l (1:Nat)) (16:Int)))))),(AC.d (D.i IntKind.i64 (IntKind.wrap IntKind.i64 (Int.tmod (at_u8 r.l (1:Nat)) (16:Int))))),(AC.d (D.b ((Int.tmod (at_u8 r.l (2:Nat)) (2:Int)) == (1:Int)))),(AC.d (D.b ((Int.tmod (IntKind.wrap IntKind.u8 (Int.tdiv (at_u8 r.l (2:Nat)) (2:Int))) (2:Int)) == (1:Int)))),(AC.d (D.i IntKind.i64 (IntKind.wrap IntKind.i64 (Int.tmod (IntKind.wrap IntKind.u8 (Int.tdiv (at_u8 r.l (2:Nat)) (4:Int))) (4:Int))))),(AC.d (D.i IntKind.i64 (IntKind.wrap IntKind.i64 (IntKind.wrap IntKind.u8 (Int.tdiv (at_u8 r.l (2:Nat)) (16:Int)))))),(AC.d (D.i IntKind.i64 (IntKind.wrap IntKind.i64 (at_u8 r.l (3:Nat))))),(AC.d (D.r RK.u8 (([]:(List Int)) ++ (List.take ((Int.toNat (((List.length r.l):Nat):Int)) - (5:Nat)) (List.drop (5:Nat) r.l)):(List Int))))]),(aB true)] [])))))))))))))))))))))))))))))))))) := by
  have hb := crcCut_bytes hp.2
  have hcl := crcCut_len l
  have g0 := hb.at8 0
  have g1 := hb.at8 1
  have g2 := hb.at8 2
  have g3 := hb.at8 3
  have g4 := hb.at8 4

  repeat' first
    | exact rfl
    | exact True.intro
    | with_reducible apply And.intro
    | (with_reducible intro y_ hy_; subst hy_)
    | with_reducible intro y_
    | (refine iteI (fun h => ?_) (fun h => ?_))
  all_goals try simp only [Bool.not_eq_true', decide_eq_false_iff_not, decide_eq_true_eq, Bool.not_eq_true, bne_iff_ne, beq_iff_eq, ne_eq, Decidable.not_not, Bool.not_eq_false, gt_iff_lt, ge_iff_le, Int.not_le, Int.not_lt, beq_eq_false_iff_ne, bne_eq_false_iff_eq, Bool.and_eq_true, Bool.or_eq_true, Bool.true_eq_false, Bool.false_eq_true] at *
  all_goals try simp (disch := first | omega | grind [crcCut2, crcCut_len, crcCut_bytes]) only [wr] at *
  all_goals try simp only [crcCut2, drop5, drop5b, List.nil_append] at *
  all_goals try simp (disch := omega) only [Int.tdiv_eq_ediv_of_nonneg, Int.tmod_eq_emod_of_nonneg, wr, wr8] at *
  all_goals first
    | assumption
    | omega
    | (rw [List.length_drop]; omega)
    | exact hb.drop 5
    | exact Nat.le_trans (frmBytes_len _) (by decide)
    | (have hn : ¬ ReadP l := fun hr => by
         have q1 := hr.1
         have q2 := hr.2.1
         have q3 := hr.2.2.1
         have q4 := read_len hr
         first
         | omega
         | (exact absurd q3 h)
         | (exact absurd q1 (of_decide_eq_false h))
         | (exact absurd hr.2.2.2 h)
         | (rw [frmOf_i hb] at h
            exact h ((read_iff hp.2 hr.1 hr.2.1).2 hr))
       have h0 := hk _ rfl
       rw [read2_no hn] at h0
       exact h0)
    | (rw [frmOf_i hb] at h
       have hr := (read_iff hp.2 (of_decide_eq_true ‹_›) (by omega)).1 h
       have h0 := hk _ rfl
       rw [read2_yes hr, ← frmOf_i hb] at h0
       exact h0)
    | (have hr : ReadP l := ⟨of_decide_eq_true ‹_›, by omega, by assumption, h⟩
       have h0 := hk _ rfl
       rw [read2_yes hr] at h0
       exact h0)
    | exact hk _ (by grind [crcCut2, crcCut_len, crcCut_bytes])
    | (simp only [LIM] at *; omega)
    | grind [crcCut2, crcCut_len, crcCut_bytes, LIM]
theorem w_spec_FrmRead_x : Valid Try.prog 15 c_spec_FrmRead_x :=
  valid_ctr2 (V := V_spec_FrmRead_x) (tysB_ok tys_ok) ⟨(CallsL.cons w_spec_CrcCut (CallsL.cons w_spec_FrmOk (CallsL.nil _))), (IosL.nil _)⟩ mixed 1 2 Try.func15 rfl (by kernel_rfl)
    (fun c hc => by
      obtain rfl := Option.some.inj hc
      exact ⟨trivial, ⟨trivial, ⟨⟨trivial, ⟨⟨trivial, trivial⟩, trivial⟩⟩, ⟨trivial, ⟨⟨trivial, ⟨⟨trivial, trivial⟩, trivial⟩⟩, ⟨trivial, trivial⟩⟩⟩⟩⟩⟩)
    (fun x K hp hk => ⟨_, by kernel_rfl, vF_spec_FrmRead_x x K hp (fun q h => hk q h)⟩)
end Go.Proofs.YtkkokenpehoffaaE
