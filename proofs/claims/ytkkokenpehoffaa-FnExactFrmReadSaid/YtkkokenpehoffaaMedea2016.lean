/- A part of the proof of laws of the program: what calls of the program answer. Conditions: none. -/
import Derived.Test.YtkkokenpehoffaaM3b2d5158
set_option linter.unusedVariables false
set_option linter.unusedSimpArgs false
set_option linter.unusedSectionVars false
/- Contracts: S2. Conditions: none. -/
set_option linter.unusedVariables false
set_option maxHeartbeats 1600000
namespace Go.Proofs.YtkkokenpehoffaaE
open Go
theorem drop5 (b : List Int) : List.take (((b.length : Nat) : Int).toNat - 5) (List.drop 5 b) = List.drop 5 b := by
  rw [Int.toNat_natCast]
  exact List.take_of_length_le (by rw [List.length_drop]; omega)
theorem drop5b (b : List Int) : List.take (b.length - 5) (List.drop 5 b) = List.drop 5 b := List.take_of_length_le (by rw [List.length_drop]; omega)
theorem frmOf_i {b : List Int} (hb : Bytes b) : (⟨at_u8 b 0, at_u8 b 1 / 16, at_u8 b 1 % 16, Go.bits .and .i64 (at_u8 b 2) 1 == 1, Go.bits .and .i64 (at_u8 b 2) 2 == 2, at_u8 b 2 / 4 % 4, at_u8 b 2 / 16, at_u8 b 3, List.drop 5 b⟩ : Frm) = frmOf b := by
  have g2 := hb.at8 2
  have e0 : rd b 0 = at_u8 b 0 := rfl
  have e1 : rd b 1 = at_u8 b 1 := rfl
  have e2 : rd b 2 = at_u8 b 2 := rfl
  have e3 : rd b 3 = at_u8 b 3 := rfl
  unfold frmOf
  rw [e0, e1, e2, e3]
  generalize at_u8 b 2 = y at g2
  obtain ⟨y, rfl⟩ : ∃ n : Nat, y = n := ⟨y.toNat, by omega⟩
  rw [and1 y (by omega), and2 y (by omega)]
  have q1 : (((y % 2 : Nat) : Int) == 1) = (((y : Nat) : Int) % 2 == 1) := by
    rw [show ((y % 2 : Nat) : Int) = (y : Int) % 2 by omega]
  have q2 : (((2 * (y / 2 % 2) : Nat) : Int) == 2) = (((y : Nat) : Int) / 2 % 2 == 1) := by
    rw [Bool.eq_iff_iff]
    simp only [beq_iff_eq]
    omega
  rw [q1, q2]
theorem frmOf_s (b : List Int) : (⟨at_u8 b 0, at_u8 b 1 / 16, at_u8 b 1 % 16, at_u8 b 2 % 2 == 1, at_u8 b 2 / 2 % 2 == 1, at_u8 b 2 / 4 % 4, at_u8 b 2 / 16, at_u8 b 3, List.drop 5 b⟩ : Frm) = frmOf b := rfl
theorem read_len {l : List Int} (h : ReadP l) : (crcCut l).length ≤ 13 := by
  have := (frm_rng h.2.2.2).2.2.2.2.2.2
  rw [frmOf_data, List.length_drop] at this
  omega

/-! impl.FrmRead -/
def c_impl_FrmRead : Ent := ctr (α := (List Int)) (ρ := (ReadR)) [] [] (rs1 rBytes) (fun x_ => (fun (l : List Int) => (l.length ≤ 1004 ∧ Bytes l)) x_) (fun x_ r_ => (fun x_ => (fun (l : List Int) => ((fun r_ => (fun (q : ReadR) => (q = frmRead2 l)) r_))) x_) x_ r_) (fun r_ => (fun (q : ReadR) => ([rFrm.to q.f, rB.to q.ok])) r_) (fun r_ => (fun (q : ReadR) => ([])) r_)
def V_impl_FrmRead : Env := ⟨tys, [(11, c_impl_CrcCut), (26, c_impl_FrmBytes), (39, c_impl_clone_byte), (40, c_slices_Equal_byte_byte)], [], [(2, 0), (7, 1)], [], [], [500015], [], [(5, [(0, false), (1, false), (2, false), (3, false), (4, false), (5, false), (6, false), (7, false), (8, false), (9, false), (10, false), (11, false), (12, false), (13, false), (14, false), (15, false), (16, false), (17, false), (18, false), (19, false), (20, false), (21, false), (22, false), (23, false), (24, false), (25, false), (26, false), (27, false), (28, false), (29, false), (30, false), (33, false), (31, true), (32, false), (34, true)])]⟩
/-! spec.FrmRead -/
def c_spec_FrmRead : Ent := ctr (α := (List Int)) (ρ := (ReadR)) [] [] (rs1 rBytes) (fun x_ => (fun (l : List Int) => (l.length ≤ 1004 ∧ Bytes l)) x_) (fun x_ r_ => (fun x_ => (fun (l : List Int) => ((fun r_ => (fun (q : ReadR) => (q = frmRead2 l)) r_))) x_) x_ r_) (fun r_ => (fun (q : ReadR) => ([rFrm.to q.f, rB.to q.ok])) r_) (fun r_ => (fun (q : ReadR) => ([])) r_)
def V_spec_FrmRead : Env := ⟨tys, [(12, c_spec_CrcCut), (29, c_spec_FrmOk)], [(75, [0])], [(2, 0), (6, 1)], [(4, ([], [0]))], [], [78, 500014, 500019, 500029], [], [(4, [(0, false), (1, false), (2, false), (3, false), (4, false), (5, false), (6, false), (7, false), (8, false), (9, false), (10, false), (11, false), (12, false), (13, false), (14, false), (15, false), (16, false), (17, false), (18, false), (19, false), (20, false), (21, false), (22, false), (23, false), (24, false), (25, false), (26, false), (27, false), (28, false), (29, false), (30, false), (31, false), (32, false), (33, false), (34, false), (35, false), (36, false), (37, false), (38, false), (39, false), (41, false), (42, false), (45, false), (40, true), (43, true), (44, false), (46, true)])]⟩
/-! spec.DrawFrmRead -/
def c_spec_DrawFrmRead : Ent := ctr (α := (List Int)) (ρ := (List Int)) [] [] (rs1 rBytes) (fun x_ => (fun (l : List Int) => (Bytes l)) x_) (fun x_ r_ => (fun x_ => (fun (l : List Int) => ((fun r_ => (fun (o : List Int) => (Bytes o ∧ o.length ≤ 1003)) r_))) x_) x_ r_) (fun r_ => (fun (o : List Int) => ([rBytes.to o])) r_) (fun r_ => (fun (o : List Int) => ([])) r_)
def V_spec_DrawFrmRead : Env := ⟨tys, [(12, c_spec_CrcCut), (14, c_spec_CrcPut), (24, c_spec_FrmBytes), (35, c_spec_l20Open), (36, c_spec_l20Rd_pick), (37, c_spec_l20Turn), (45, c_spec_l20Frame)], [], [(8, 0)], [], [], [], [], []⟩
end Go.Proofs.YtkkokenpehoffaaE

/- Calls answer what is promised: S2. Conditions: none. -/
set_option linter.unusedVariables false
set_option maxHeartbeats 1600000
namespace Go.Proofs.YtkkokenpehoffaaE
open Go
theorem vF_impl_FrmRead (l:List Int) (K:List Arg→List (List AC)→Prop) (hp:l.length≤1004∧Bytes l) (hk:∀ (q:ReadR),(q=frmRead2 l)→K ([rFrm.to q.f,rB.to q.ok]) ([])):(true=true)∧(((Bytes l)∧((List.length l)≤(1000000000:Nat)))∧(∀ r:CutR,(r=(crcCut2 l))→(true=true)∧(if ((!r.ok)=true) then ((true=true)∧(K [(Arg.v true [(AC.d (D.i IntKind.i64 (0:Int))),(AC.d (D.i IntKind.i64 (0:Int))),(AC.d (D.i IntKind.i64 (0:Int))),(AC.d (D.b false)),(AC.d (D.b false)),(AC.d (D.i IntKind.i64 (0:Int))),(AC.d (D.i IntKind.i64 (0:Int))),(AC.d (D.i IntKind.i64 (0:Int))),(AC.d (D.r RK.u8 ([]:(List Int))))]),(aB false)] [])) else (if ((decide ((((List.length r.l):Nat):Int) < (5:Int)))=true) then ((true=true)∧(K [(Arg.v true [(AC.d (D.i IntKind.i64 (0:Int))),(AC.d (D.i IntKind.i64 (0:Int))),(AC.d (D.i IntKind.i64 (0:Int))),(AC.d (D.b false)),(AC.d (D.b false)),(AC.d (D.i IntKind.i64 (0:Int))),(AC.d (D.i IntKind.i64 (0:Int))),(AC.d (D.i IntKind.i64 (0:Int))),(AC.d (D.r RK.u8 ([]:(List Int))))]),(aB false)] [])) else ((((0:Int)≤(2:Int))∧((2:Int) < (((List.length r.l):Nat):Int)))∧((((0:Int)≤(0:Int))∧((0:Int) < (((List.length r.l):Nat):Int)))∧((((0:Int)≤(1:Int))∧((1:Int) < (((List.length r.l):Nat):Int)))∧(((16:Int) ≠ (0:Int))∧((((0:Int)≤(1:Int))∧((1:Int) < (((List.length r.l):Nat):Int)))∧(((16:Int) ≠ (0:Int))∧(((4:Int) ≠ (0:Int))∧(((4:Int) ≠ (0:Int))∧(((16:Int) ≠ (0:Int))∧((((0:Int)≤(3:Int))∧((3:Int) < (((List.length r.l):Nat):Int)))∧((((0:Int)≤(5:Int))∧(((5:Int)≤(((List.length r.l):Nat):Int))∧((((List.length r.l):Nat):Int)≤(((List.length r.l):Nat):Int))))∧((true=true)∧(((List.length (List.take ((Int.toNat (((List.length r.l):Nat):Int)) - (5:Nat)) (List.drop (5:Nat) r.l)))≤(137438953472:Nat))∧(∀ r1:(List Int),(r1=(List.take ((Int.toNat (((List.length r.l):Nat):Int)) - (5:Nat)) (List.drop (5:Nat) r.l)))→(true=true)∧((true=true)∧((true=true)∧((true=true)∧((((List.length r1)≤(1000:Nat))∧(Bytes r1))∧(∀ r2:(List Int),(r2=(frmBytes (Frm.mk (IntKind.wrap IntKind.i64 (at_u8 r.l (0:Nat))) (IntKind.wrap IntKind.i64 (Int.tdiv (IntKind.wrap IntKind.i64 (at_u8 r.l (1:Nat))) (16:Int))) (Int.tmod (IntKind.wrap IntKind.i64 (at_u8 r.l (1:Nat))) (16:Int)) ((bits BinOp.and IntKind.i64 (IntKind.wrap IntKind.i64 (at_u8 r.l (2:Nat))) (1:Int)) == (1:Int)) ((bits BinOp.and IntKind.i64 (IntKind.wrap IntKind.i64 (at_u8 r.l (2:Nat))) (2:Int)) == (2:Int)) (Int.tmod (IntKind.wrap IntKind.i64 (Int.tdiv (IntKind.wrap IntKind.i64 (at_u8 r.l (2:Nat))) (4:Int))) (4:Int)) (IntKind.wrap IntKind.i64 (Int.tdiv (IntKind.wrap IntKind.i64 (at_u8 r.l (2:Nat))) (16:Int))) (IntKind.wrap IntKind.i64 (at_u8 r.l (3:Nat))) r1)))→(true=true)∧((true=true)∧(((List.length r2)≤(137438953472:Nat))∧(∀ r3:Bool,(r3=(decide (r2=l)))→(true=true)∧(if ((!r3)=true) then ((true=true)∧(K [(Arg.v true [(AC.d (D.i IntKind.i64 (0:Int))),(AC.d (D.i IntKind.i64 (0:Int))),(AC.d (D.i IntKind.i64 (0:Int))),(AC.d (D.b false)),(AC.d (D.b false)),(AC.d (D.i IntKind.i64 (0:Int))),(AC.d (D.i IntKind.i64 (0:Int))),(AC.d (D.i IntKind.i64 (0:Int))),(AC.d (D.r RK.u8 ([]:(List Int))))]),(aB false)] [])) else ((true=true)∧(K [(Arg.v true [(AC.d (D.i IntKind.i64 (IntKind.wrap IntKind.i64 (at_u8 r.l (0:Nat))))),(AC.d (D.i IntKind.i64 (IntKind.wrap IntKind.i64 (Int.tdiv (IntKind.wrap IntKind.i64 (at_u8 r.l (1:Nat))) (16:Int))))),(AC.d (D.i IntKind.i64 (Int.tmod (IntKind.wrap IntKind.i64 (at_u8 r.l (1:Nat))) (16:Int)))),(AC.d (D.b ((bits BinOp.and IntKind.i64 (IntKind.wrap IntKind.i64 (at_u8 r.l (2:Nat))) (1:Int)) == (1:Int)))),(AC.d (D.b ((bits BinOp.and IntKind.i64 (IntKind.wrap IntKind.i64 (at_u8 r.l (2:Nat))) (2:Int)) == (2:Int)))),(AC.d (D.i IntKind.i64 (Int.tmod (IntKind.wrap IntKind.i64 (Int.tdiv (IntKind.wrap IntKind.i64 (at_u8 r.l (2:Nat))) (4:Int))) (4:Int)))),(AC.d (D.i IntKind.i64 (IntKind.wrap IntKind.i64 (Int.tdiv (IntKind.wrap IntKind.i64 (at_u8 r.l (2:Nat))) (16:Int))))),(AC.d (D.i IntKind.i64 (IntKind.wrap IntKind.i64 (at_u8 r.l (3:Nat))))),(AC.d (D.r RK.u8 r1))]),(aB true)] []))))))))))))))))))))))))))))) := by
  have hb := crcCut_bytes hp.2
  have hcl := crcCut_len l
  have g0 := hb.at8 0
  have g1 := hb.at8 1
  have g2 := hb.at8 2
  have g3 := hb.at8 3
  have g4 := hb.at8 4

  repeat' first
    | exact rfl
    | exact True.intro
    | with_reducible apply And.intro
    | (with_reducible intro y_ hy_; subst hy_)
    | with_reducible intro y_
    | (refine iteI (fun h => ?_) (fun h => ?_))
  all_goals try simp only [Bool.not_eq_true', decide_eq_false_iff_not, decide_eq_true_eq, Bool.not_eq_true, bne_iff_ne, beq_iff_eq, ne_eq, Decidable.not_not, Bool.not_eq_false, gt_iff_lt, ge_iff_le, Int.not_le, Int.not_lt, beq_eq_false_iff_ne, bne_eq_false_iff_eq, Bool.and_eq_true, Bool.or_eq_true, Bool.true_eq_false, Bool.false_eq_true] at *
  all_goals try simp (disch := first | omega | grind [crcCut2, crcCut_len, crcCut_bytes]) only [wr] at *
  all_goals try simp only [crcCut2, drop5, drop5b, List.nil_append] at *
  all_goals try simp (disch := omega) only [Int.tdiv_eq_ediv_of_nonneg, Int.tmod_eq_emod_of_nonneg, wr, wr8] at *
  all_goals first
    | assumption
    | omega
    | (rw [List.length_drop]; omega)
    | exact hb.drop 5
    | exact Nat.le_trans (frmBytes_len _) (by decide)
    | (have hn : ¬ ReadP l := fun hr => by
         have q1 := hr.1
         have q2 := hr.2.1
         have q3 := hr.2.2.1
         have q4 := read_len hr
         first
         | omega
         | (exact absurd q3 h)
         | (exact absurd q1 (of_decide_eq_false h))
         | (exact absurd hr.2.2.2 h)
         | (rw [frmOf_i hb] at h
            exact h ((read_iff hp.2 hr.1 hr.2.1).2 hr))
       have h0 := hk _ rfl
       rw [read2_no hn] at h0
       exact h0)
    | (rw [frmOf_i hb] at h
       have hr := (read_iff hp.2 (of_decide_eq_true ‹_›) (by omega)).1 h
       have h0 := hk _ rfl
       rw [read2_yes hr, ← frmOf_i hb] at h0
       exact h0)
    | (have hr : ReadP l := ⟨of_decide_eq_true ‹_›, by omega, by assumption, h⟩
       have h0 := hk _ rfl
       rw [read2_yes hr] at h0
       exact h0)
    | exact hk _ (by grind [crcCut2, crcCut_len, crcCut_bytes])
    | (simp only [LIM] at *; omega)
    | grind [crcCut2, crcCut_len, crcCut_bytes, LIM]
theorem w_impl_FrmRead : Valid Try.prog 17 c_impl_FrmRead :=
  valid_ctr2 (V := V_impl_FrmRead) (tysB_ok tys_ok) ⟨(CallsL.cons w_impl_CrcCut (CallsL.cons w_impl_FrmBytes (CallsL.cons w_impl_clone_byte (CallsL.cons w_slices_Equal_byte_byte (CallsL.nil _))))), (IosL.nil _)⟩ mixed 0 2 Try.func17 rfl (by kernel_rfl)
    (fun c hc => by
      obtain rfl := Option.some.inj hc
      exact ⟨trivial, ⟨trivial, ⟨⟨trivial, ⟨⟨trivial, trivial⟩, trivial⟩⟩, ⟨trivial, ⟨trivial, ⟨⟨trivial, ⟨⟨trivial, trivial⟩, trivial⟩⟩, ⟨trivial, trivial⟩⟩⟩⟩⟩⟩⟩)
    (fun x K hp hk => ⟨_, by kernel_rfl, vF_impl_FrmRead x K hp (fun q h => hk q h)⟩)
theorem vF_spec_FrmRead (l:List Int) (K:List Arg→List (List AC)→Prop) (hp:l.length≤1004∧Bytes l) (hk:∀ (q:ReadR),(q=frmRead2 l)→K ([rFrm.to q.f,rB.to q.ok]) ([])):(true=true)∧(((Bytes l)∧((List.length l)≤(1000000000:Nat)))∧(∀ r:CutR,(r=(crcCut2 l))→(true=true)∧(if ((!r.ok)=true) then ((true=true)∧(K [(Arg.v true [(AC.d (D.i IntKind.i64 (0:Int))),(AC.d (D.i IntKind.i64 (0:Int))),(AC.d (D.i IntKind.i64 (0:Int))),(AC.d (D.b false)),(AC.d (D.b false)),(AC.d (D.i IntKind.i64 (0:Int))),(AC.d (D.i IntKind.i64 (0:Int))),(AC.d (D.i IntKind.i64 (0:Int))),(AC.d (D.r RK.u8 ([]:(List Int))))]),(aB false)] [])) else (if ((decide ((((List.length r.l):Nat):Int) < (5:Int)))=true) then ((true=true)∧(K [(Arg.v true [(AC.d (D.i IntKind.i64 (0:Int))),(AC.d (D.i IntKind.i64 (0:Int))),(AC.d (D.i IntKind.i64 (0:Int))),(AC.d (D.b false)),(AC.d (D.b false)),(AC.d (D.i IntKind.i64 (0:Int))),(AC.d (D.i IntKind.i64 (0:Int))),(AC.d (D.i IntKind.i64 (0:Int))),(AC.d (D.r RK.u8 ([]:(List Int))))]),(aB false)] [])) else ((((0:Int)≤(4:Int))∧((4:Int) < (((List.length r.l):Nat):Int)))∧(if (((IntKind.wrap IntKind.i64 (at_u8 r.l (4:Nat))) != (IntKind.wrap IntKind.i64 ((((List.length r.l):Nat):Int) - (5:Int))))=true) then ((true=true)∧(K [(Arg.v true [(AC.d (D.i IntKind.i64 (0:Int))),(AC.d (D.i IntKind.i64 (0:Int))),(AC.d (D.i IntKind.i64 (0:Int))),(AC.d (D.b false)),(AC.d (D.b false)),(AC.d (D.i IntKind.i64 (0:Int))),(AC.d (D.i IntKind.i64 (0:Int))),(AC.d (D.i IntKind.i64 (0:Int))),(AC.d (D.r RK.u8 ([]:(List Int))))]),(aB false)] [])) else (if ((decide ((((List.length r.l):Nat):Int) > (13:Int)))=true) then ((true=true)∧(K [(Arg.v true [(AC.d (D.i IntKind.i64 (0:Int))),(AC.d (D.i IntKind.i64 (0:Int))),(AC.d (D.i IntKind.i64 (0:Int))),(AC.d (D.b false)),(AC.d (D.b false)),(AC.d (D.i IntKind.i64 (0:Int))),(AC.d (D.i IntKind.i64 (0:Int))),(AC.d (D.i IntKind.i64 (0:Int))),(AC.d (D.r RK.u8 ([]:(List Int))))]),(aB false)] [])) else ((((0:Int)≤(0:Int))∧((0:Int) < (((List.length r.l):Nat):Int)))∧((((0:Int)≤(1:Int))∧((1:Int) < (((List.length r.l):Nat):Int)))∧(((16:Int) ≠ (0:Int))∧((((0:Int)≤(1:Int))∧((1:Int) < (((List.length r.l):Nat):Int)))∧(((16:Int) ≠ (0:Int))∧((((0:Int)≤(2:Int))∧((2:Int) < (((List.length r.l):Nat):Int)))∧(((2:Int) ≠ (0:Int))∧((((0:Int)≤(2:Int))∧((2:Int) < (((List.length r.l):Nat):Int)))∧(((2:Int) ≠ (0:Int))∧(((2:Int) ≠ (0:Int))∧((((0:Int)≤(2:Int))∧((2:Int) < (((List.length r.l):Nat):Int)))∧(((4:Int) ≠ (0:Int))∧(((4:Int) ≠ (0:Int))∧((((0:Int)≤(2:Int))∧((2:Int) < (((List.length r.l):Nat):Int)))∧(((16:Int) ≠ (0:Int))∧((((0:Int)≤(3:Int))∧((3:Int) < (((List.length r.l):Nat):Int)))∧((((0:Int)≤(5:Int))∧(((5:Int)≤(((List.length r.l):Nat):Int))∧((((List.length r.l):Nat):Int)≤(((List.length r.l):Nat):Int))))∧((true=true)∧((((0:Nat) + (List.length (List.take ((Int.toNat (((List.length r.l):Nat):Int)) - (5:Nat)) (List.drop (5:Nat) r.l))))≤(137438953472:Nat))∧((true=true)∧((true=true)∧((true=true)∧(True∧(∀ r1:Bool,(r1=(decide (FrmP (Frm.mk (IntKind.wrap IntKind.i64 (at_u8 r.l (0:Nat))) (IntKind.wrap IntKind.i64 (IntKind.wrap IntKind.u8 (Int.tdiv (at_u8 r.l (1:Nat)) (16:Int)))) (IntKind.wrap IntKind.i64 (Int.tmod (at_u8 r.l (1:Nat)) (16:Int))) ((Int.tmod (at_u8 r.l (2:Nat)) (2:Int)) == (1:Int)) ((Int.tmod (IntKind.wrap IntKind.u8 (Int.tdiv (at_u8 r.l (2:Nat)) (2:Int))) (2:Int)) == (1:Int)) (IntKind.wrap IntKind.i64 (Int.tmod (IntKind.wrap IntKind.u8 (Int.tdiv (at_u8 r.l (2:Nat)) (4:Int))) (4:Int))) (IntKind.wrap IntKind.i64 (IntKind.wrap IntKind.u8 (Int.tdiv (at_u8 r.l (2:Nat)) (16:Int)))) (IntKind.wrap IntKind.i64 (at_u8 r.l (3:Nat))) (([]:(List Int)) ++ (List.take ((Int.toNat (((List.length r.l):Nat):Int)) - (5:Nat)) (List.drop (5:Nat) r.l)):(List Int))))))→(true=true)∧(if ((!r1)=true) then ((true=true)∧(K [(Arg.v true [(AC.d (D.i IntKind.i64 (0:Int))),(AC.d (D.i IntKind.i64 (0:Int))),(AC.d (D.i IntKind.i64 (0:Int))),(AC.d (D.b false)),(AC.d (D.b false)),(AC.d (D.i IntKind.i64 (0:Int))),(AC.d (D.i IntKind.i64 (0:Int))),(AC.d (D.i IntKind.i64 (0:Int))),(AC.d (D.r RK.u8 ([]:(List Int))))]),(aB false)] [])) else ((true=true)∧(K [(Arg.v true [(AC.d (D.i IntKind.i64 (IntKind.wrap IntKind.i64 (at_u8 r.l (0:Nat))))),(AC.d (D.i IntKind.i64 (IntKind.wrap IntKind.i64 (IntKind.wrap IntKind.u8 (Int.tdiv (at_u8 r.l (1:Nat)) (16:Int)))))),(AC.d (D.i IntKind.i64 (IntKind.wrap IntKind.i64 (Int.tmod (at_u8 r.l (1:Nat)) (16:Int))))),(AC.d (D.b ((Int.tmod (at_u8 r.l (2:Nat)) (2:Int)) == (1:Int)))),(AC.d (D.b ((Int.tmod (IntKind.wrap IntKind.u8 (Int.tdiv (at_u8 r.l (2:Nat)) (2:Int))) (2:Int)) == (1:Int)))),(AC.d (D.i IntKind.i64 (IntKind.wrap IntKind.i64 (Int.tmod (IntKind.wrap IntKind.u8 (Int.tdiv (at_u8 r.l (2:Nat)) (4:Int))) (4:Int))))),(AC.d (D.i IntKind.i64 (IntKind.wrap IntKind.i64 (IntKind.wrap IntKind.u8 (Int.tdiv (at_u8 r.l (2:Nat)) (16:Int)))))),(AC.d (D.i IntKind.i64 (IntKind.wrap IntKind.i64 (at_u8 r.l (3:Nat))))),(AC.d (D.r RK.u8 (([]:(List Int)) ++ (List.take ((Int.toNat (((List.length r.l):Nat):Int)) - (5:Nat)) (List.drop (5:Nat) r.l)):(List Int))))]),(aB true)] [])))))))))))))))))))))))))))))))))) := by
  have hb := crcCut_bytes hp.2
  have hcl := crcCut_len l
  have g0 := hb.at8 0
  have g1 := hb.at8 1
  have g2 := hb.at8 2
  have g3 := hb.at8 3
  have g4 := hb.at8 4

  repeat' first
    | exact rfl
    | exact True.intro
    | with_reducible apply And.intro
    | (with_reducible intro y_ hy_; subst hy_)
    | with_reducible intro y_
    | (refine iteI (fun h => ?_) (fun h => ?_))
  all_goals try simp only [Bool.not_eq_true', decide_eq_false_iff_not, decide_eq_true_eq, Bool.not_eq_true, bne_iff_ne, beq_iff_eq, ne_eq, Decidable.not_not, Bool.not_eq_false, gt_iff_lt, ge_iff_le, Int.not_le, Int.not_lt, beq_eq_false_iff_ne, bne_eq_false_iff_eq, Bool.and_eq_true, Bool.or_eq_true, Bool.true_eq_false, Bool.false_eq_true] at *
  all_goals try simp (disch := first | omega | grind [crcCut2, crcCut_len, crcCut_bytes]) only [wr] at *
  all_goals try simp only [crcCut2, drop5, drop5b, List.nil_append] at *
  all_goals try simp (disch := omega) only [Int.tdiv_eq_ediv_of_nonneg, Int.tmod_eq_emod_of_nonneg, wr, wr8] at *
  all_goals first
    | assumption
    | omega
    | (rw [List.length_drop]; omega)
    | exact hb.drop 5
    | exact Nat.le_trans (frmBytes_len _) (by decide)
    | (have hn : ¬ ReadP l := fun hr => by
         have q1 := hr.1
         have q2 := hr.2.1
         have q3 := hr.2.2.1
         have q4 := read_len hr
         first
         | omega
         | (exact absurd q3 h)
         | (exact absurd q1 (of_decide_eq_false h))
         | (exact absurd hr.2.2.2 h)
         | (rw [frmOf_i hb] at h
            exact h ((read_iff hp.2 hr.1 hr.2.1).2 hr))
       have h0 := hk _ rfl
       rw [read2_no hn] at h0
       exact h0)
    | (rw [frmOf_i hb] at h
       have hr := (read_iff hp.2 (of_decide_eq_true ‹_›) (by omega)).1 h
       have h0 := hk _ rfl
       rw [read2_yes hr, ← frmOf_i hb] at h0
       exact h0)
    | (have hr : ReadP l := ⟨of_decide_eq_true ‹_›, by omega, by assumption, h⟩
       have h0 := hk _ rfl
       rw [read2_yes hr] at h0
       exact h0)
    | exact hk _ (by grind [crcCut2, crcCut_len, crcCut_bytes])
    | (simp only [LIM] at *; omega)
    | grind [crcCut2, crcCut_len, crcCut_bytes, LIM]
theorem w_spec_FrmRead : Valid Try.prog 15 c_spec_FrmRead :=
  valid_ctr2 (V := V_spec_FrmRead) (tysB_ok tys_ok) ⟨(CallsL.cons w_spec_CrcCut (CallsL.cons w_spec_FrmOk (CallsL.nil _))), (IosL.nil _)⟩ mixed 1 2 Try.func15 rfl (by kernel_rfl)
    (fun c hc => by
      obtain rfl := Option.some.inj hc
      exact ⟨trivial, ⟨trivial, ⟨⟨trivial, ⟨⟨trivial, trivial⟩, trivial⟩⟩, ⟨trivial, ⟨⟨trivial, ⟨⟨trivial, trivial⟩, trivial⟩⟩, ⟨trivial, trivial⟩⟩⟩⟩⟩⟩)
    (fun x K hp hk => ⟨_, by kernel_rfl, vF_spec_FrmRead x K hp (fun q h => hk q h)⟩)
theorem vF_spec_DrawFrmRead (l:List Int) (K:List Arg→List (List AC)→Prop) (hp:Bytes l) (hk:∀ (o:List Int),(Bytes o∧o.length≤1003)→K ([rBytes.to o]) ([])):(true=true)∧((Bytes l)∧(∀ r:RdS,(r=(RdS.mk (List.take (2000:Nat) l) (0:Int)))→(true=true)∧((true=true)∧((((Bytes r.b)∧(((List.length r.b)≤(2000:Nat))∧(((0:Int)≤r.p)∧(r.p≤(44000000:Int)))))∧((0:Int)≤(1000:Int)))∧(∀ r1:(Prod Frm RdS),((Bytes r1.fst.data)∧(((List.length r1.fst.data)≤(200:Nat))∧(RdOn r r1.snd (100:Int))))→(true=true)∧((true=true)∧((((List.length r1.fst.data)≤(1000:Nat))∧(Bytes r1.fst.data))∧(∀ r2:(List Int),(r2=(frmBytes r1.fst))→(true=true)∧((true=true)∧((((Bytes r1.snd.b)∧(((List.length r1.snd.b)≤(2000:Nat))∧(((0:Int)≤r1.snd.p)∧(r1.snd.p≤(1000000000:Int)))))∧((4:Int)≤(1000000000:Int)))∧(∀ r3:(Prod Int RdS),((r3.snd=(RdS.mk r1.snd.b (r1.snd.p + (1:Int))))∧(((0:Int)≤r3.fst)∧((((1:Int)≤(4:Int))→(r3.fst < (4:Int)))∧(((4:Int) < (1:Int))→(r3.fst=(0:Int))))))→(true=true)∧(if ((r3.fst == (0:Int))=true) then ((true=true)∧((((Bytes r3.snd.b)∧(((List.length r3.snd.b)≤(2000:Nat))∧(((0:Int)≤r3.snd.p)∧(r3.snd.p≤(80000000:Int)))))∧((Bytes r2)∧((List.length r2)≤(1000:Nat))))∧(∀ r4:(Prod (List Int) RdS),((Bytes r4.fst)∧(((List.length r4.fst)≤(1001:Nat))∧(RdOn r3.snd r4.snd (5:Int))))→(true=true)∧((true=true)∧(K [(aR RK.u8 r4.fst)] []))))) else (if ((r3.fst == (1:Int))=true) then ((true=true)∧(((Bytes r2)∧((List.length r2)≤(1000000000:Nat)))∧(∀ r4:CutR,(r4=(crcCut2 r2))→(true=true)∧((true=true)∧((((Bytes r3.snd.b)∧(((List.length r3.snd.b)≤(2000:Nat))∧(((0:Int)≤r3.snd.p)∧(r3.snd.p≤(80000000:Int)))))∧((Bytes r4.l)∧((List.length r4.l)≤(1000:Nat))))∧(∀ r5:(Prod (List Int) RdS),((Bytes r5.fst)∧(((List.length r5.fst)≤(1001:Nat))∧(RdOn r3.snd r5.snd (5:Int))))→(true=true)∧((true=true)∧(((Bytes r5.fst)∧((List.length r5.fst)≤(1000000000:Nat)))∧(∀ r6:(List Int),(r6=(crcPut r5.fst))→(true=true)∧((true=true)∧(K [(aR RK.u8 r6)] []))))))))))) else ((true=true)∧(K [(aR RK.u8 r2)] []))))))))))))))) := by
  repeat' first
    | exact rfl
    | exact True.intro
    | with_reducible apply And.intro
    | (with_reducible intro r hr; subst hr)
    | with_reducible intro r
    | (refine iteI (fun h => ?_) (fun h => ?_))
  all_goals try simp (disch := omega) only [wr] at *
  all_goals first
    | assumption
    | omega
    | exact hk _ (by (try dsimp only); grind [RdOk, RdOn, Bytes.cons, Bytes.nil, Bytes.take, frmBytes_bytes, frmBytes_len, crcPut_bytes, crcPut_len, crcCut_bytes, crcCut_len, crcCut2])
    | grind [RdOk, RdOn, Bytes.cons, Bytes.nil, Bytes.take, frmBytes_bytes, frmBytes_len, crcPut_bytes, crcPut_len, crcCut_bytes, crcCut_len, crcCut2]
    | exact hk _ (by (try dsimp only); refine ⟨?_, ?_, ?_⟩; all_goals first | (grind [RdOk, RdOn, Bytes.cons, Bytes.nil, Bytes.take, frmBytes_bytes, frmBytes_len, crcPut_bytes, crcPut_len, crcCut_bytes, crcCut_len, crcCut2]; done) | (simp; done) | (simp; omega))
theorem w_spec_DrawFrmRead : Valid Try.prog 32 c_spec_DrawFrmRead :=
  valid_ctr2 (V := V_spec_DrawFrmRead) (tysB_ok tys_ok) ⟨(CallsL.cons w_spec_CrcCut (CallsL.cons w_spec_CrcPut (CallsL.cons w_spec_FrmBytes (CallsL.cons w_spec_l20Open (CallsL.cons w_spec_l20Rd_pick (CallsL.cons w_spec_l20Turn (CallsL.cons w_spec_l20Frame (CallsL.nil _)))))))), (IosL.nil _)⟩ mixed 0 1 Try.func32 rfl (by kernel_rfl)
    (fun c hc => by
      obtain rfl := Option.some.inj hc
      exact ⟨trivial, ⟨trivial, ⟨trivial, ⟨⟨trivial, ⟨trivial, ⟨⟨trivial, trivial⟩, ⟨trivial, ⟨⟨trivial, ⟨trivial, trivial⟩⟩, trivial⟩⟩⟩⟩⟩, ⟨trivial, trivial⟩⟩⟩⟩⟩)
    (fun x K hp hk => ⟨_, by kernel_rfl, vF_spec_DrawFrmRead x K hp (fun o h => hk o h)⟩)
end Go.Proofs.YtkkokenpehoffaaE
