/- A part of the proof of laws of the program: what calls of the program answer. Conditions: none. -/
import Derived.Test.YtkkokenpehoffaaM19f768f6
set_option linter.unusedVariables false
set_option linter.unusedSimpArgs false
set_option linter.unusedSectionVars false
/- Contracts: S. Conditions: none. -/
set_option linter.unusedVariables false
set_option maxHeartbeats 1600000
namespace Go.Proofs.YtkkokenpehoffaaE
open Go
theorem frm_rng {f : Frm} (h : FrmP f) : (1 ≤ f.kind ∧ f.kind ≤ 4) ∧ (0 ≤ f.seq ∧ f.seq ≤ 7) ∧ (0 ≤ f.ack ∧ f.ack ≤ 7) ∧ (0 ≤ f.say ∧ f.say ≤ 2) ∧ (0 ≤ f.seg ∧ f.seg ≤ 3) ∧ (0 ≤ f.len ∧ f.len ≤ 255) ∧ f.data.length ≤ 8 := by
  unfold FrmP SegP at h
  omega
theorem bit_rng (b : Bool) : 0 ≤ bit b ∧ bit b ≤ 1 := by cases b <;> simp [bit]
theorem head_bytes {f : Frm} (h : FrmP f) (hd : Bytes f.data) : Bytes (frmHead f ++ f.data) := by
  obtain ⟨h1, h2, h3, h4, h5, h6, h7⟩ := frm_rng h
  have hb1 := bit_rng f.poll
  have hb2 := bit_rng f.final
  refine Bytes.append ?_ hd
  unfold frmHead
  refine .cons ?_ ?_ (.cons ?_ ?_ (.cons ?_ ?_ (.cons ?_ ?_ (.cons ?_ ?_ .nil)))) <;> omega
theorem frmBytes_bytes {f : Frm} (hd : Bytes f.data) : Bytes (frmBytes f) := by
  unfold frmBytes
  split
  · exact crcPut_bytes (head_bytes ‹_› hd)
  · exact .nil
theorem frmBytes_len (f : Frm) : (frmBytes f).length ≤ 100 := by
  unfold frmBytes
  split
  · rename_i h
    have := (frm_rng h).2.2.2.2.2.2
    rw [crcPut_len, List.length_append]
    simp [frmHead]; omega
  · simp
theorem frmBytes_len2 {f : Frm} (h : FrmP f) : (frmBytes f).length = f.data.length + 7 := by
  unfold frmBytes
  rw [if_pos h, crcPut_len, List.length_append]
  simp [frmHead]; omega
theorem rd_app {l m : List Int} {i : Int} (h0 : 0 ≤ i) (h : i < l.length) : rd (l ++ m) i = rd l i := by
  unfold rd
  rw [List.getD_eq_getElem?_getD, List.getD_eq_getElem?_getD, List.getElem?_append_left (by omega)]
/-- Five bytes, and the rest. -/
theorem five {b : List Int} (h : 5 ≤ b.length) : b = [rd b 0, rd b 1, rd b 2, rd b 3, rd b 4] ++ b.drop 5 := by
  match b, h with
  | a0 :: a1 :: a2 :: a3 :: a4 :: r, _ => rfl
theorem frmOf_head {f : Frm} (h : FrmP f) : frmOf (frmHead f ++ f.data) = f := by
  obtain ⟨h1, h2, h3, h4, h5, h6, h7⟩ := frm_rng h
  obtain ⟨k, s, a, p, fi, sy, sg, ln, d⟩ := f
  dsimp only at h1 h2 h3 h4 h5 h6 h7
  show (⟨k, (s * 16 + a) / 16, (s * 16 + a) % 16, (bit p + 2 * bit fi + 4 * sy + 16 * sg) % 2 == 1, (bit p + 2 * bit fi + 4 * sy + 16 * sg) / 2 % 2 == 1, (bit p + 2 * bit fi + 4 * sy + 16 * sg) / 4 % 4, (bit p + 2 * bit fi + 4 * sy + 16 * sg) / 16, ln, d⟩ : Frm) = ⟨k, s, a, p, fi, sy, sg, ln, d⟩
  have e1 : (s * 16 + a) / 16 = s := by omega
  have e2 : (s * 16 + a) % 16 = a := by omega
  rw [e1, e2]
  have hb1 : bit p = if p = true then 1 else 0 := rfl
  have hb2 : bit fi = if fi = true then 1 else 0 := rfl
  have e3 : ((bit p + 2 * bit fi + 4 * sy + 16 * sg) % 2 == 1) = p := by cases p <;> cases fi <;> simp [bit] <;> omega
  have e4 : ((bit p + 2 * bit fi + 4 * sy + 16 * sg) / 2 % 2 == 1) = fi := by cases p <;> cases fi <;> simp [bit] <;> omega
  have e5 : (bit p + 2 * bit fi + 4 * sy + 16 * sg) / 4 % 4 = sy := by cases p <;> cases fi <;> simp [bit] <;> omega
  have e6 : (bit p + 2 * bit fi + 4 * sy + 16 * sg) / 16 = sg := by cases p <;> cases fi <;> simp [bit] <;> omega
  rw [e3, e4, e5, e6]
theorem head_frmOf {b : List Int} (hb : Bytes b) (h5 : 5 ≤ b.length) (h4 : rd b 4 = b.length - 5) : frmHead (frmOf b) ++ (frmOf b).data = b := by
  have e := five h5
  obtain ⟨a1, a2⟩ := hb.at_ 1
  obtain ⟨b1, b2⟩ := hb.at_ 2
  have hl : ((b.drop 5).length : Int) = rd b 4 := by rw [List.length_drop]; omega
  have key : frmHead (frmOf b) = [rd b 0, rd b 1, rd b 2, rd b 3, rd b 4] := by
    unfold frmHead frmOf
    dsimp only
    have e1 : rd b 1 / 16 * 16 + rd b 1 % 16 = rd b 1 := by omega
    have e2 : bit (rd b 2 % 2 == 1) + 2 * bit (rd b 2 / 2 % 2 == 1) + 4 * (rd b 2 / 4 % 4) + 16 * (rd b 2 / 16) = rd b 2 := by
      have q1 : bit (rd b 2 % 2 == 1) = rd b 2 % 2 := by
        unfold bit; split
        · rename_i h; have : rd b 2 % 2 = 1 := by simpa using h
          omega
        · rename_i h; have : ¬ rd b 2 % 2 = 1 := by simpa using h
          omega
      have q2 : bit (rd b 2 / 2 % 2 == 1) = rd b 2 / 2 % 2 := by
        unfold bit; split
        · rename_i h; have : rd b 2 / 2 % 2 = 1 := by simpa using h
          omega
        · rename_i h; have : ¬ rd b 2 / 2 % 2 = 1 := by simpa using h
          omega
      rw [q1, q2]
      omega
    rw [e1, e2, hl]
  rw [key]
  exact e.symm
theorem put_inj {a b : List Int} (h : crcPut a = crcPut b) : a = b := by
  have := congrArg (fun z => z.take (z.length - 2)) h
  simpa only [take_put] using this
theorem frmOf_data (b : List Int) : (frmOf b).data = b.drop 5 := rfl
theorem read_iff {l : List Int} (hl : Bytes l) (hc : CutP l) (h5 : 5 ≤ (crcCut l).length) : frmBytes (frmOf (crcCut l)) = l ↔ ReadP l := by
  have hcp := cut_put2 hl hc
  constructor
  · intro e
    unfold frmBytes at e
    split at e
    · rename_i hf
      have e2 : frmHead (frmOf (crcCut l)) ++ (frmOf (crcCut l)).data = crcCut l := put_inj (e.trans hcp.symm)
      refine ⟨hc, h5, ?_, hf⟩
      have e3 : rd (frmHead (frmOf (crcCut l)) ++ (frmOf (crcCut l)).data) 4 = ((frmOf (crcCut l)).data.length : Int) := rfl
      rw [e2] at e3
      rw [e3, frmOf_data, List.length_drop]
      omega
    · subst e
      exact absurd hc.1 (by simp)
  · rintro ⟨_, _, h4, hf⟩
    unfold frmBytes
    rw [if_pos hf, head_frmOf (crcCut_bytes hl) h5 h4, hcp]
theorem read_bytes {f : Frm} (h : FrmP f) (hd : Bytes f.data) : ReadP (frmBytes f) ∧ frmRead (frmBytes f) = f := by
  have e : frmBytes f = crcPut (frmHead f ++ f.data) := by unfold frmBytes; rw [if_pos h]
  have hb := head_bytes h hd
  have hc := put_cut hb
  have hr : ReadP (frmBytes f) := by
    rw [e]
    refine ⟨put_cutP hb, ?_, ?_, ?_⟩
    · rw [hc, List.length_append]; simp [frmHead]
    · rw [hc, List.length_append]
      have : rd (frmHead f ++ f.data) 4 = (f.data.length : Int) := rfl
      rw [this]; simp [frmHead]; omega
    · rw [hc, frmOf_head h]; exact h
  refine ⟨hr, ?_⟩
  unfold frmRead
  rw [if_pos hr, e, hc, frmOf_head h]
theorem bytes_read {l : List Int} (hl : Bytes l) (h : ReadP l) : FrmP (frmRead l) ∧ frmBytes (frmRead l) = l := by
  have e : frmRead l = frmOf (crcCut l) := by unfold frmRead; rw [if_pos h]
  rw [e]
  exact ⟨h.2.2.2, (read_iff hl h.1 h.2.1).2 h⟩
theorem frmRead_data {l : List Int} (hl : Bytes l) : Bytes (frmRead l).data := by
  unfold frmRead
  split
  · exact (crcCut_bytes hl).drop 5
  · exact .nil
theorem and2 (a : Nat) (ha : a < 256) : Go.bits .and .i64 (a : Int) 2 = ((2 * (a / 2 % 2) : Nat) : Int) := by
  have h1 : (2 : Int) = ((2 : Nat) : Int) := rfl
  simp only [Go.bits]
  rw [h1]
  simp only [BitVec.ofInt_natCast, BitVec.toNat_and, BitVec.toNat_ofNat]
  rw [Nat.mod_eq_of_lt (Nat.lt_trans ha (by decide)), Nat.mod_eq_of_lt (by decide : 2 < 2 ^ IntKind.i64.bits)]
  have key : ∀ a, a < 256 → a &&& 2 = 2 * (a / 2 % 2) := by decide +kernel
  have e := key a ha
  rw [e, IntKind.wrap_i64]
  omega
structure ReadR where
  f : Frm
  ok : Bool
def frmRead2 (l : List Int) : ReadR := ⟨frmRead l, decide (ReadP l)⟩
theorem read2_no {l : List Int} (h : ¬ ReadP l) : frmRead2 l = ⟨zFrm, false⟩ := by unfold frmRead2 frmRead; rw [if_neg h, decide_eq_false h]
theorem read2_yes {l : List Int} (h : ReadP l) : frmRead2 l = ⟨frmOf (crcCut l), true⟩ := by unfold frmRead2 frmRead; rw [if_pos h, decide_eq_true h]

/-! impl.FrmBytes -/
def c_impl_FrmBytes : Ent := ctr (α := (Frm)) (ρ := (List Int)) [] [] (rs1 rFrm) (fun x_ => (fun (f : Frm) => (f.data.length ≤ 1000 ∧ Bytes f.data)) x_) (fun x_ r_ => (fun x_ => (fun (f : Frm) => ((fun r_ => (fun (r : List Int) => (r = frmBytes f)) r_))) x_) x_ r_) (fun r_ => (fun (r : List Int) => ([rBytes.to r])) r_) (fun r_ => (fun (r : List Int) => ([])) r_)
def V_impl_FrmBytes : Env := ⟨tys, [(10, c_impl_CrcPut), (33, c_impl_FrmOk), (44, c_impl_truth)], [(41, [0])], [(1, 0)], [(3, ([], [0]))], [], [], [], [(3, [(0, false), (1, false), (2, false), (3, false), (4, false), (5, false), (6, false), (7, false), (8, false), (9, false), (10, false), (11, false), (13, false), (14, false), (18, false), (19, false), (20, false), (22, false), (23, false), (24, false), (27, false), (28, false), (29, false), (30, false), (31, false), (32, false), (33, false), (12, true), (15, true), (16, false), (17, false), (21, false), (25, false), (26, false), (34, true), (35, false)])]⟩
/-! spec.FrmBytes -/
def c_spec_FrmBytes : Ent := ctr (α := (Frm)) (ρ := (List Int)) [] [] (rs1 rFrm) (fun x_ => (fun (f : Frm) => (f.data.length ≤ 1000 ∧ Bytes f.data)) x_) (fun x_ r_ => (fun x_ => (fun (f : Frm) => ((fun r_ => (fun (r : List Int) => (r = frmBytes f)) r_))) x_) x_ r_) (fun r_ => (fun (r : List Int) => ([rBytes.to r])) r_) (fun r_ => (fun (r : List Int) => ([])) r_)
def V_spec_FrmBytes : Env := ⟨tys, [(14, c_spec_CrcPut), (29, c_spec_FrmOk), (43, c_spec_l2Bit)], [(42, [0])], [(1, 0)], [(3, ([], [0]))], [], [], [], [(3, [(0, false), (1, false), (2, false), (3, false), (4, false), (5, false), (6, false), (7, false), (8, false), (9, false), (10, false), (11, false), (13, false), (14, false), (18, false), (19, false), (20, false), (22, false), (23, false), (24, false), (27, false), (28, false), (29, false), (30, false), (31, false), (32, false), (33, false), (12, true), (15, true), (16, false), (17, false), (21, false), (25, false), (26, false), (34, true), (35, false)])]⟩
end Go.Proofs.YtkkokenpehoffaaE

/- Calls answer what is promised: S. Conditions: none. -/
set_option linter.unusedVariables false
set_option maxHeartbeats 1600000
namespace Go.Proofs.YtkkokenpehoffaaE
open Go
theorem vF_impl_FrmBytes (f:Frm) (K:List Arg→List (List AC)→Prop) (hp:f.data.length≤1000∧Bytes f.data) (hk:∀ (r:List Int),(r=frmBytes f)→K ([rBytes.to r]) ([])):(true=true)∧(((List.length f.data)≤(137438953472:Nat))∧(∀ r:Bool,(r=(decide (FrmP f)))→(true=true)∧(if ((!r)=true) then ((true=true)∧(K [(aR RK.u8 ([]:(List Int)))] [])) else ((true=true)∧(True∧(∀ r1:Int,(r1=(bit f.poll))→(true=true)∧((true=true)∧((true=true)∧(True∧(∀ r2:Int,(r2=(bit f.final))→(true=true)∧((true=true)∧((true=true)∧((((List.length ((IntKind.wrap IntKind.u8 f.kind) :: ((IntKind.wrap IntKind.u8 (IntKind.wrap IntKind.i64 ((IntKind.wrap IntKind.i64 (f.seq * (16:Int))) + f.ack))) :: ((IntKind.wrap IntKind.u8 (IntKind.wrap IntKind.i64 ((IntKind.wrap IntKind.i64 ((IntKind.wrap IntKind.i64 (r1 + (IntKind.wrap IntKind.i64 ((2:Int) * r2)))) + (IntKind.wrap IntKind.i64 ((4:Int) * f.say)))) + (IntKind.wrap IntKind.i64 ((16:Int) * f.seg))))) :: ((IntKind.wrap IntKind.u8 f.len) :: ((IntKind.wrap IntKind.u8 (((List.length f.data):Nat):Int)) :: ([]:(List Int)):(List Int)):(List Int)):(List Int)):(List Int)):(List Int))) + (List.length f.data))≤(137438953472:Nat))∧((true=true)∧(((Bytes (((IntKind.wrap IntKind.u8 f.kind) :: ((IntKind.wrap IntKind.u8 (IntKind.wrap IntKind.i64 ((IntKind.wrap IntKind.i64 (f.seq * (16:Int))) + f.ack))) :: ((IntKind.wrap IntKind.u8 (IntKind.wrap IntKind.i64 ((IntKind.wrap IntKind.i64 ((IntKind.wrap IntKind.i64 (r1 + (IntKind.wrap IntKind.i64 ((2:Int) * r2)))) + (IntKind.wrap IntKind.i64 ((4:Int) * f.say)))) + (IntKind.wrap IntKind.i64 ((16:Int) * f.seg))))) :: ((IntKind.wrap IntKind.u8 f.len) :: ((IntKind.wrap IntKind.u8 (((List.length f.data):Nat):Int)) :: ([]:(List Int)):(List Int)):(List Int)):(List Int)):(List Int)):(List Int)) ++ f.data:(List Int)))∧((List.length (((IntKind.wrap IntKind.u8 f.kind) :: ((IntKind.wrap IntKind.u8 (IntKind.wrap IntKind.i64 ((IntKind.wrap IntKind.i64 (f.seq * (16:Int))) + f.ack))) :: ((IntKind.wrap IntKind.u8 (IntKind.wrap IntKind.i64 ((IntKind.wrap IntKind.i64 ((IntKind.wrap IntKind.i64 (r1 + (IntKind.wrap IntKind.i64 ((2:Int) * r2)))) + (IntKind.wrap IntKind.i64 ((4:Int) * f.say)))) + (IntKind.wrap IntKind.i64 ((16:Int) * f.seg))))) :: ((IntKind.wrap IntKind.u8 f.len) :: ((IntKind.wrap IntKind.u8 (((List.length f.data):Nat):Int)) :: ([]:(List Int)):(List Int)):(List Int)):(List Int)):(List Int)):(List Int)) ++ f.data:(List Int)))≤(1000000000:Nat)))∧(∀ r3:(List Int),(r3=(crcPut (((IntKind.wrap IntKind.u8 f.kind) :: ((IntKind.wrap IntKind.u8 (IntKind.wrap IntKind.i64 ((IntKind.wrap IntKind.i64 (f.seq * (16:Int))) + f.ack))) :: ((IntKind.wrap IntKind.u8 (IntKind.wrap IntKind.i64 ((IntKind.wrap IntKind.i64 ((IntKind.wrap IntKind.i64 (r1 + (IntKind.wrap IntKind.i64 ((2:Int) * r2)))) + (IntKind.wrap IntKind.i64 ((4:Int) * f.say)))) + (IntKind.wrap IntKind.i64 ((16:Int) * f.seg))))) :: ((IntKind.wrap IntKind.u8 f.len) :: ((IntKind.wrap IntKind.u8 (((List.length f.data):Nat):Int)) :: ([]:(List Int)):(List Int)):(List Int)):(List Int)):(List Int)):(List Int)) ++ f.data:(List Int))))→(true=true)∧((true=true)∧(K [(aR RK.u8 r3)] [])))))))))))))))))) := by
  repeat' first
    | exact rfl
    | exact True.intro
    | with_reducible apply And.intro
    | (with_reducible intro y_ hy_; subst hy_)
    | with_reducible intro y_
    | (refine iteI (fun h => ?_) (fun h => ?_))
  all_goals try simp only [Bool.not_eq_true', decide_eq_false_iff_not, decide_eq_true_eq, Bool.not_eq_true, bne_iff_ne, beq_iff_eq, ne_eq, Decidable.not_not, Bool.not_eq_false, gt_iff_lt, ge_iff_le, Int.not_le, Int.not_lt, beq_eq_false_iff_ne, bne_eq_false_iff_eq, Bool.and_eq_true, Bool.or_eq_true, Bool.true_eq_false, Bool.false_eq_true] at *
  all_goals try simp (disch := first | omega | grind [frm_rng, bit_rng]) only [wr] at *
  all_goals try have h7 := frm_rng ‹FrmP _›
  all_goals try have h8 := bit_rng f.poll
  all_goals try have h9 := bit_rng f.final
  all_goals try simp (disch := omega) only [wr, wr8] at *
  all_goals first
    | assumption
    | omega
    | (have h := hk _ rfl
       unfold frmBytes at h
       first | (rw [if_pos ‹FrmP _›] at h; exact h) | (rw [if_neg ‹¬ FrmP _›] at h; exact h))
    | exact head_bytes ‹_› hp.2
    | exact hk _ (by grind [frm_rng, bit_rng])
    | (simp only [LIM] at *; omega)
    | grind [frm_rng, bit_rng, LIM]
theorem w_impl_FrmBytes : Valid Try.prog 26 c_impl_FrmBytes :=
  valid_ctr2 (V := V_impl_FrmBytes) (tysB_ok tys_ok) ⟨(CallsL.cons w_impl_CrcPut (CallsL.cons w_impl_FrmOk (CallsL.cons w_impl_truth (CallsL.nil _)))), (IosL.nil _)⟩ mixed 1 1 Try.func26 rfl (by kernel_rfl)
    (fun c hc => by
      obtain rfl := Option.some.inj hc
      exact ⟨trivial, ⟨⟨trivial, ⟨⟨trivial, trivial⟩, trivial⟩⟩, ⟨trivial, ⟨trivial, trivial⟩⟩⟩⟩)
    (fun x K hp hk => ⟨_, by kernel_rfl, vF_impl_FrmBytes x K hp (fun r h => hk r h)⟩)
theorem vF_spec_FrmBytes (f:Frm) (K:List Arg→List (List AC)→Prop) (hp:f.data.length≤1000∧Bytes f.data) (hk:∀ (r:List Int),(r=frmBytes f)→K ([rBytes.to r]) ([])):(true=true)∧(True∧(∀ r:Bool,(r=(decide (FrmP f)))→(true=true)∧(if ((!r)=true) then ((true=true)∧(K [(aR RK.u8 ([]:(List Int)))] [])) else ((true=true)∧(True∧(∀ r1:Int,(r1=(bit f.poll))→(true=true)∧((true=true)∧((true=true)∧(True∧(∀ r2:Int,(r2=(bit f.final))→(true=true)∧((true=true)∧((true=true)∧((((List.length ((IntKind.wrap IntKind.u8 f.kind) :: ((IntKind.wrap IntKind.u8 (IntKind.wrap IntKind.i64 ((IntKind.wrap IntKind.i64 (f.seq * (16:Int))) + f.ack))) :: ((IntKind.wrap IntKind.u8 (IntKind.wrap IntKind.i64 ((IntKind.wrap IntKind.i64 ((IntKind.wrap IntKind.i64 (r1 + (IntKind.wrap IntKind.i64 ((2:Int) * r2)))) + (IntKind.wrap IntKind.i64 ((4:Int) * f.say)))) + (IntKind.wrap IntKind.i64 ((16:Int) * f.seg))))) :: ((IntKind.wrap IntKind.u8 f.len) :: ((IntKind.wrap IntKind.u8 (((List.length f.data):Nat):Int)) :: ([]:(List Int)):(List Int)):(List Int)):(List Int)):(List Int)):(List Int))) + (List.length f.data))≤(137438953472:Nat))∧((true=true)∧(((Bytes (((IntKind.wrap IntKind.u8 f.kind) :: ((IntKind.wrap IntKind.u8 (IntKind.wrap IntKind.i64 ((IntKind.wrap IntKind.i64 (f.seq * (16:Int))) + f.ack))) :: ((IntKind.wrap IntKind.u8 (IntKind.wrap IntKind.i64 ((IntKind.wrap IntKind.i64 ((IntKind.wrap IntKind.i64 (r1 + (IntKind.wrap IntKind.i64 ((2:Int) * r2)))) + (IntKind.wrap IntKind.i64 ((4:Int) * f.say)))) + (IntKind.wrap IntKind.i64 ((16:Int) * f.seg))))) :: ((IntKind.wrap IntKind.u8 f.len) :: ((IntKind.wrap IntKind.u8 (((List.length f.data):Nat):Int)) :: ([]:(List Int)):(List Int)):(List Int)):(List Int)):(List Int)):(List Int)) ++ f.data:(List Int)))∧((List.length (((IntKind.wrap IntKind.u8 f.kind) :: ((IntKind.wrap IntKind.u8 (IntKind.wrap IntKind.i64 ((IntKind.wrap IntKind.i64 (f.seq * (16:Int))) + f.ack))) :: ((IntKind.wrap IntKind.u8 (IntKind.wrap IntKind.i64 ((IntKind.wrap IntKind.i64 ((IntKind.wrap IntKind.i64 (r1 + (IntKind.wrap IntKind.i64 ((2:Int) * r2)))) + (IntKind.wrap IntKind.i64 ((4:Int) * f.say)))) + (IntKind.wrap IntKind.i64 ((16:Int) * f.seg))))) :: ((IntKind.wrap IntKind.u8 f.len) :: ((IntKind.wrap IntKind.u8 (((List.length f.data):Nat):Int)) :: ([]:(List Int)):(List Int)):(List Int)):(List Int)):(List Int)):(List Int)) ++ f.data:(List Int)))≤(1000000000:Nat)))∧(∀ r3:(List Int),(r3=(crcPut (((IntKind.wrap IntKind.u8 f.kind) :: ((IntKind.wrap IntKind.u8 (IntKind.wrap IntKind.i64 ((IntKind.wrap IntKind.i64 (f.seq * (16:Int))) + f.ack))) :: ((IntKind.wrap IntKind.u8 (IntKind.wrap IntKind.i64 ((IntKind.wrap IntKind.i64 ((IntKind.wrap IntKind.i64 (r1 + (IntKind.wrap IntKind.i64 ((2:Int) * r2)))) + (IntKind.wrap IntKind.i64 ((4:Int) * f.say)))) + (IntKind.wrap IntKind.i64 ((16:Int) * f.seg))))) :: ((IntKind.wrap IntKind.u8 f.len) :: ((IntKind.wrap IntKind.u8 (((List.length f.data):Nat):Int)) :: ([]:(List Int)):(List Int)):(List Int)):(List Int)):(List Int)):(List Int)) ++ f.data:(List Int))))→(true=true)∧((true=true)∧(K [(aR RK.u8 r3)] [])))))))))))))))))) := by
  repeat' first
    | exact rfl
    | exact True.intro
    | with_reducible apply And.intro
    | (with_reducible intro y_ hy_; subst hy_)
    | with_reducible intro y_
    | (refine iteI (fun h => ?_) (fun h => ?_))
  all_goals try simp only [Bool.not_eq_true', decide_eq_false_iff_not, decide_eq_true_eq, Bool.not_eq_true, bne_iff_ne, beq_iff_eq, ne_eq, Decidable.not_not, Bool.not_eq_false, gt_iff_lt, ge_iff_le, Int.not_le, Int.not_lt, beq_eq_false_iff_ne, bne_eq_false_iff_eq, Bool.and_eq_true, Bool.or_eq_true, Bool.true_eq_false, Bool.false_eq_true] at *
  all_goals try simp (disch := first | omega | grind [frm_rng, bit_rng]) only [wr] at *
  all_goals try have h7 := frm_rng ‹FrmP _›
  all_goals try have h8 := bit_rng f.poll
  all_goals try have h9 := bit_rng f.final
  all_goals try simp (disch := omega) only [wr, wr8] at *
  all_goals first
    | assumption
    | omega
    | (have h := hk _ rfl
       unfold frmBytes at h
       first | (rw [if_pos ‹FrmP _›] at h; exact h) | (rw [if_neg ‹¬ FrmP _›] at h; exact h))
    | exact head_bytes ‹_› hp.2
    | exact hk _ (by grind [frm_rng, bit_rng])
    | (simp only [LIM] at *; omega)
    | grind [frm_rng, bit_rng, LIM]
theorem w_spec_FrmBytes : Valid Try.prog 24 c_spec_FrmBytes :=
  valid_ctr2 (V := V_spec_FrmBytes) (tysB_ok tys_ok) ⟨(CallsL.cons w_spec_CrcPut (CallsL.cons w_spec_FrmOk (CallsL.cons w_spec_l2Bit (CallsL.nil _)))), (IosL.nil _)⟩ mixed 1 1 Try.func24 rfl (by kernel_rfl)
    (fun c hc => by
      obtain rfl := Option.some.inj hc
      exact ⟨trivial, ⟨⟨trivial, ⟨⟨trivial, trivial⟩, trivial⟩⟩, ⟨trivial, ⟨trivial, trivial⟩⟩⟩⟩)
    (fun x K hp hk => ⟨_, by kernel_rfl, vF_spec_FrmBytes x K hp (fun r h => hk r h)⟩)
end Go.Proofs.YtkkokenpehoffaaE
