/- A part of the proof of laws of the program: what calls of the program answer. Conditions: none. -/
import Derived.Test.YtkkokenpehoffaaM384f0b35
set_option linter.unusedVariables false
set_option linter.unusedSimpArgs false
set_option linter.unusedSectionVars false
/- Contracts: LawFrm2. Conditions: none. -/
set_option linter.unusedVariables false
set_option maxHeartbeats 1600000
namespace Go.Proofs.YtkkokenpehoffaaE
open Go
theorem frmBytes_nil {f : Frm} : (frmBytes f).length = 0 ↔ ¬ FrmP f := by
  constructor
  · intro h hf
    rw [frmBytes_len2 hf] at h
    omega
  · intro h
    unfold frmBytes
    rw [if_neg h]
    rfl
theorem frmBytes_big (f : Frm) : (frmBytes f).length ≤ 137438953472 := Nat.le_trans (frmBytes_len f) (by decide)
theorem rd_take {l : List Int} {n : Nat} {i : Int} (h : i.toNat < n) : rd (l.take n) i = rd l i := by
  unfold rd
  rw [List.getD_eq_getElem?_getD, List.getD_eq_getElem?_getD, List.getElem?_take_of_lt h]
theorem frm_put {f : Frm} (h : FrmP f) : frmBytes f = crcPut (frmHead f ++ f.data) := by unfold frmBytes; rw [if_pos h]
theorem head_len (f : Frm) : (frmHead f ++ f.data).length = f.data.length + 5 := by rw [List.length_append]; simp [frmHead]; omega
theorem head_four (f : Frm) : rd (frmHead f ++ f.data) 4 = (f.data.length : Int) := rfl
theorem frm_crc {f : Frm} (h : FrmP f) (hd : Bytes f.data) : crc 0 (frmBytes f) = 0 := by rw [frm_put h]; exact put_crc (head_bytes h hd)
theorem frm_bent {f : Frm} (h : FrmP f) (hd : Bytes f.data) (n m : Nat) :
    (frmRead2 ((frmBytes f).set (Int.tmod ((m : Int) * 37 + (n : Int)) ((frmBytes f).length : Int)).toNat (Go.bits .xor .u8 (at_u8 (frmBytes f) (Int.tmod ((m : Int) * 37 + (n : Int)) ((frmBytes f).length : Int)).toNat) (IntKind.wrap .u8 (1 + Int.tmod (m : Int) 255))))).ok = false := by
  have h1 := bent_at (frmBytes_bytes hd) (frm_crc h hd) (by rw [frmBytes_len2 h]; omega) n m
  unfold frmRead2
  exact decide_eq_false fun hr => by
    have h2 : decide (CutP _) = true := decide_eq_true hr.1
    exact absurd (h1.symm.trans h2) (by simp)
theorem frm_longer {f : Frm} (h : FrmP f) : (frmRead2 (frmBytes f ++ [0])).ok = false := by
  unfold frmRead2
  refine decide_eq_false fun hr => ?_
  have hl := frmBytes_len2 h
  have e : crcCut (frmBytes f ++ [0]) = (frmBytes f).take (f.data.length + 6) := by
    unfold crcCut
    rw [if_pos hr.1, List.length_append, hl]
    show (frmBytes f ++ [0]).take (f.data.length + 7 + 1 - 2) = _
    rw [List.take_append_of_le_length (by omega)]
    rfl
  obtain ⟨_, h5, h4, _⟩ := hr
  have hx := head_len f
  rw [e] at h4 h5
  rw [rd_take (by show 4 < _; omega), frm_put h] at h4
  have e4 : rd (crcPut (frmHead f ++ f.data)) 4 = rd (frmHead f ++ f.data) 4 := rd_app (by decide) (by omega)
  rw [e4, head_four, List.length_take, crcPut_len] at h4
  omega
theorem frm_shorter {f : Frm} (h : FrmP f) : (frmRead2 ((frmBytes f).take ((frmBytes f).length - 1))).ok = false := by
  unfold frmRead2
  refine decide_eq_false fun hr => ?_
  have hl := frmBytes_len2 h
  have e : crcCut ((frmBytes f).take ((frmBytes f).length - 1)) = (frmBytes f).take (f.data.length + 4) := by
    unfold crcCut
    rw [if_pos hr.1, List.length_take, hl, List.take_take]
    congr 1
    omega
  obtain ⟨_, h5, h4, _⟩ := hr
  have hx := head_len f
  rw [e, List.length_take] at h5
  rw [e] at h4
  rw [rd_take (by show 4 < _; omega), frm_put h] at h4
  have e4 : rd (crcPut (frmHead f ++ f.data)) 4 = rd (frmHead f ++ f.data) 4 := rd_app (by decide) (by omega)
  rw [e4, head_four, List.length_take, crcPut_len] at h4
  omega
theorem frm_shorter2 {f : Frm} (h : FrmP f) : (frmRead2 (List.take (((((frmBytes f).length : Nat) : Int) - 1).toNat - 0) (List.drop 0 (frmBytes f)))).ok = false := by
  rw [List.drop_zero, show ((((frmBytes f).length : Nat) : Int) - 1).toNat - 0 = (frmBytes f).length - 1 by omega]
  exact frm_shorter h
theorem read2_ok {l : List Int} (hl : Bytes l) (h : (frmRead2 l).ok = true) : FrmP (frmRead2 l).f ∧ frmBytes (frmRead2 l).f = l := bytes_read hl (of_decide_eq_true h)
theorem read2_data {l : List Int} (hl : Bytes l) : Bytes (frmRead2 l).f.data := frmRead_data hl
theorem read2_len {l : List Int} (h : l.length ≤ 1004) : (frmRead2 l).f.data.length ≤ 1000 := by
  unfold frmRead2 frmRead
  split
  · show (List.drop 5 (crcCut l)).length ≤ 1000
    have := crcCut_len l
    rw [List.length_drop]; omega
  · simp [zFrm]
theorem read2_bytes {f : Frm} (h : FrmP f) (hd : Bytes f.data) : (frmRead2 (frmBytes f)).ok = true ∧ (frmRead2 (frmBytes f)).f = f := ⟨decide_eq_true (read_bytes h hd).1, (read_bytes h hd).2⟩

/-! laws.FnFrmBytes -/
def c_laws_FnFrmBytes : Ent := ctr (α := (List Int) × (List Int)) (ρ := (Bool)) [] [] (rs rBytes (rs1 rBytes)) (fun x_ => (fun (l : List Int) (m : List Int) => (Bytes l ∧ Bytes m)) x_.1 x_.2) (fun x_ r_ => (fun x_ => (fun (l : List Int) (m : List Int) => ((fun r_ => (fun (r : Bool) => (r = true)) r_))) x_.1 x_.2) x_ r_) (fun r_ => (fun (r : Bool) => ([rB.to r])) r_) (fun r_ => (fun (r : Bool) => ([])) r_)
def V_laws_FnFrmBytes : Env := ⟨tys, [(13, c_laws_liBytes), (15, c_spec_FrmRead), (17, c_impl_FrmRead), (24, c_spec_FrmBytes), (26, c_impl_FrmBytes), (28, c_spec_DrawFrmBytes), (29, c_spec_FrmOk), (30, c_laws_liOk), (31, c_laws_liFrame), (32, c_spec_DrawFrmRead), (33, c_impl_FrmOk)], [(113, [0]), (144, [1])], [(5, 0), (8, 1), (10, 2), (12, 3), (16, 4), (18, 5), (20, 6)], [], [], [900025]⟩
end Go.Proofs.YtkkokenpehoffaaE

/- Calls answer what is promised: LawFrm2. Conditions: none. -/
set_option linter.unusedVariables false
set_option maxHeartbeats 1600000
namespace Go.Proofs.YtkkokenpehoffaaE
open Go
theorem vF_laws_FnFrmBytes (l : List Int) (m : List Int) (K : List Arg → List (List AC) → Prop) (hp : Bytes l ∧ Bytes m) (hk : ∀ (r : Bool), (r = true) → K ([rB.to r]) ([])) :
 IfP (decide ((((List.length l) : Nat) : Int) > (1048576 : Int)))
 ((true = true) ∧
 (K [(aB true)] []))
 (if ((decide ((((List.length m) : Nat) : Int) > (1048576 : Int))) = true) then
 ((true = true) ∧
 (K [(aB true)] []))
 else
 ((true = true) ∧
 ((Bytes l) ∧
 (∀ r : Frm,
 ((Bytes r.data) ∧ ((List.length r.data) ≤ (200 : Nat))) →
 (true = true) ∧
 ((true = true) ∧
 ((Bytes m) ∧
 (∀ r1 : (List Int),
 ((Bytes r1) ∧ ((List.length r1) ≤ (1003 : Nat))) →
 (true = true) ∧
 ((true = true) ∧
 ((((List.length r.data) ≤ (1000 : Nat)) ∧
 (Bytes r.data)) ∧
 (∀ r2 : (List Int),
 (r2 = (frmBytes r)) →
 (true = true) ∧
 ((true = true) ∧
 ((((List.length r1) ≤ (1004 : Nat)) ∧
 (Bytes r1)) ∧
 (∀ r3 : ReadR,
 (r3 = (frmRead2 r1)) →
 (true = true) ∧
 ((true = true) ∧
 ((((List.length r1) ≤ (1004 : Nat)) ∧
 (Bytes r1)) ∧
 (∀ r4 : ReadR,
 (r4 = (frmRead2 r1)) →
 (true = true) ∧
 ((true = true) ∧
 ((((List.length r.data) ≤ (1000 : Nat)) ∧
 (Bytes r.data)) ∧
 (∀ r5 : (List Int),
 (r5 = (frmBytes r)) →
 (true = true) ∧
 ((true = true) ∧
 ((true = true) ∧
 ((((List.length r2) ≤ (137438953472 : Nat)) ∧
 True) ∧
 (∀ r6 : Bool,
 (r6 = (decide (r2 = r5))) →
 (true = true) ∧
 ((true = true) ∧
 (if ((!r6) = true) then
 ((true = true) ∧
 (K [(aB false)] []))
 else
 ((true = true) ∧
 (((List.length r3.f.data) ≤ (137438953472 : Nat)) ∧
 (∀ r7 : Bool,
 (r7 = (decide (r3.f = r4.f))) →
 (true = true) ∧
 ((true = true) ∧
 (if ((!r7) = true) then
 ((true = true) ∧
 (K [(aB false)] []))
 else
 (if ((r3.ok != r4.ok) = true) then
 ((true = true) ∧
 (K [(aB false)] []))
 else
 ((true = true) ∧
 (((List.length r.data) ≤ (137438953472 : Nat)) ∧
 (∀ r8 : Bool,
 (r8 = (decide (FrmP r))) →
 (true = true) ∧
 ((true = true) ∧
 ((true = true) ∧
 (True ∧
 (∀ r9 : Bool,
 (r9 = (decide (FrmP r))) →
 (true = true) ∧
 ((true = true) ∧
 (if ((r8 != r9) = true) then
 ((true = true) ∧
 (K [(aB false)] []))
 else
 (if (r3.ok = true) then
 ((true = true) ∧
 (((List.length r3.f.data) ≤ (137438953472 : Nat)) ∧
 (∀ r10 : Bool,
 (r10 = (decide (FrmP r3.f))) →
 (true = true) ∧
 (if ((!r10) = true) then
 ((true = true) ∧
 (K [(aB false)] []))
 else
 ((true = true) ∧
 ((((List.length r3.f.data) ≤ (1000 : Nat)) ∧
 (Bytes r3.f.data)) ∧
 (∀ r11 : (List Int),
 (r11 = (frmBytes r3.f)) →
 (true = true) ∧
 ((true = true) ∧
 ((((List.length r11) ≤ (137438953472 : Nat)) ∧
 True) ∧
 (∀ r12 : Bool,
 (r12 = (decide (r11 = r1))) →
 (true = true) ∧
 (if ((!r12) = true) then
 ((true = true) ∧
 (K [(aB false)] []))
 else
 ((true = true) ∧
 (True ∧
 (∀ r13 : Bool,
 (r13 = (decide (FrmP r))) →
 (true = true) ∧
 (if ((!r13) = true) then
 (if (((((List.length r2) : Nat) : Int) == (0 : Int)) = true) then
 ((true = true) ∧
 (True ∧
 (∀ r14 : Bool,
 (r14 = true) →
 (true = true) ∧
 ((true = true) ∧
 (K [(aB r14)] [])))))
 else
 ((true = true) ∧
 (K [(aB false)] [])))
 else
 ((true = true) ∧
 ((((List.length r2) ≤ (1004 : Nat)) ∧
 (Bytes r2)) ∧
 (∀ r14 : ReadR,
 (r14 = (frmRead2 r2)) →
 (true = true) ∧
 (if ((!r14.ok) = true) then
 ((true = true) ∧
 (K [(aB false)] []))
 else
 ((true = true) ∧
 (((List.length r14.f.data) ≤ (137438953472 : Nat)) ∧
 (∀ r15 : Bool,
 (r15 = (decide (r14.f = r))) →
 (true = true) ∧
 (if ((!r15) = true) then
 ((true = true) ∧
 (K [(aB false)] []))
 else
 (if (((((List.length r2) : Nat) : Int) != (IntKind.wrap IntKind.i64 ((((List.length r.data) : Nat) : Int) + (7 : Int)))) = true) then
 ((true = true) ∧
 (K [(aB false)] []))
 else
 ((((0 : Nat) + (List.length r2)) ≤ (137438953472 : Nat)) ∧
 (((((List.length (([] : (List Int)) ++ r2 : (List Int))) : Nat) : Int) ≠ (0 : Int)) ∧
 ((((0 : Int) ≤ (Int.tmod (IntKind.wrap IntKind.i64 ((IntKind.wrap IntKind.i64 ((((List.length m) : Nat) : Int) * (37 : Int))) + (((List.length l) : Nat) : Int))) (((List.length (([] : (List Int)) ++ r2 : (List Int))) : Nat) : Int))) ∧
 ((Int.tmod (IntKind.wrap IntKind.i64 ((IntKind.wrap IntKind.i64 ((((List.length m) : Nat) : Int) * (37 : Int))) + (((List.length l) : Nat) : Int))) (((List.length (([] : (List Int)) ++ r2 : (List Int))) : Nat) : Int)) < (((List.length (([] : (List Int)) ++ r2 : (List Int))) : Nat) : Int))) ∧
 (((255 : Int) ≠ (0 : Int)) ∧
 ((((0 : Int) ≤ (Int.tmod (IntKind.wrap IntKind.i64 ((IntKind.wrap IntKind.i64 ((((List.length m) : Nat) : Int) * (37 : Int))) + (((List.length l) : Nat) : Int))) (((List.length (([] : (List Int)) ++ r2 : (List Int))) : Nat) : Int))) ∧
 ((Int.tmod (IntKind.wrap IntKind.i64 ((IntKind.wrap IntKind.i64 ((((List.length m) : Nat) : Int) * (37 : Int))) + (((List.length l) : Nat) : Int))) (((List.length (([] : (List Int)) ++ r2 : (List Int))) : Nat) : Int)) < (((List.length (([] : (List Int)) ++ r2 : (List Int))) : Nat) : Int))) ∧
 ((true = true) ∧
 ((((List.length (List.set (([] : (List Int)) ++ r2 : (List Int)) (Int.toNat (Int.tmod (IntKind.wrap IntKind.i64 ((IntKind.wrap IntKind.i64 ((((List.length m) : Nat) : Int) * (37 : Int))) + (((List.length l) : Nat) : Int))) (((List.length (([] : (List Int)) ++ r2 : (List Int))) : Nat) : Int))) (bits BinOp.xor IntKind.u8 (at_u8 (([] : (List Int)) ++ r2 : (List Int)) (Int.toNat (Int.tmod (IntKind.wrap IntKind.i64 ((IntKind.wrap IntKind.i64 ((((List.length m) : Nat) : Int) * (37 : Int))) + (((List.length l) : Nat) : Int))) (((List.length (([] : (List Int)) ++ r2 : (List Int))) : Nat) : Int)))) (IntKind.wrap IntKind.u8 (IntKind.wrap IntKind.i64 ((1 : Int) + (Int.tmod (((List.length m) : Nat) : Int) (255 : Int)))))))) ≤ (1004 : Nat)) ∧
 (Bytes (List.set (([] : (List Int)) ++ r2 : (List Int)) (Int.toNat (Int.tmod (IntKind.wrap IntKind.i64 ((IntKind.wrap IntKind.i64 ((((List.length m) : Nat) : Int) * (37 : Int))) + (((List.length l) : Nat) : Int))) (((List.length (([] : (List Int)) ++ r2 : (List Int))) : Nat) : Int))) (bits BinOp.xor IntKind.u8 (at_u8 (([] : (List Int)) ++ r2 : (List Int)) (Int.toNat (Int.tmod (IntKind.wrap IntKind.i64 ((IntKind.wrap IntKind.i64 ((((List.length m) : Nat) : Int) * (37 : Int))) + (((List.length l) : Nat) : Int))) (((List.length (([] : (List Int)) ++ r2 : (List Int))) : Nat) : Int)))) (IntKind.wrap IntKind.u8 (IntKind.wrap IntKind.i64 ((1 : Int) + (Int.tmod (((List.length m) : Nat) : Int) (255 : Int))))))))) ∧
 (∀ r16 : ReadR,
 (r16 = (frmRead2 (List.set (([] : (List Int)) ++ r2 : (List Int)) (Int.toNat (Int.tmod (IntKind.wrap IntKind.i64 ((IntKind.wrap IntKind.i64 ((((List.length m) : Nat) : Int) * (37 : Int))) + (((List.length l) : Nat) : Int))) (((List.length (([] : (List Int)) ++ r2 : (List Int))) : Nat) : Int))) (bits BinOp.xor IntKind.u8 (at_u8 (([] : (List Int)) ++ r2 : (List Int)) (Int.toNat (Int.tmod (IntKind.wrap IntKind.i64 ((IntKind.wrap IntKind.i64 ((((List.length m) : Nat) : Int) * (37 : Int))) + (((List.length l) : Nat) : Int))) (((List.length (([] : (List Int)) ++ r2 : (List Int))) : Nat) : Int)))) (IntKind.wrap IntKind.u8 (IntKind.wrap IntKind.i64 ((1 : Int) + (Int.tmod (((List.length m) : Nat) : Int) (255 : Int))))))))) →
 (true = true) ∧
 ((((0 : Nat) + (List.length r2)) ≤ (137438953472 : Nat)) ∧
 ((((List.length (([] : (List Int)) ++ r2 : (List Int))) + (1 : Nat)) ≤ (137438953472 : Nat)) ∧
 ((true = true) ∧
 ((((List.length ((([] : (List Int)) ++ r2 : (List Int)) ++ ((0 : Int) :: ([] : (List Int)) : (List Int)) : (List Int))) ≤ (1004 : Nat)) ∧
 (Bytes ((([] : (List Int)) ++ r2 : (List Int)) ++ ((0 : Int) :: ([] : (List Int)) : (List Int)) : (List Int)))) ∧
 (∀ r17 : ReadR,
 (r17 = (frmRead2 ((([] : (List Int)) ++ r2 : (List Int)) ++ ((0 : Int) :: ([] : (List Int)) : (List Int)) : (List Int)))) →
 (true = true) ∧
 ((((0 : Int) ≤ (0 : Int)) ∧
 (((0 : Int) ≤ (IntKind.wrap IntKind.i64 ((((List.length r2) : Nat) : Int) - (1 : Int)))) ∧
 ((IntKind.wrap IntKind.i64 ((((List.length r2) : Nat) : Int) - (1 : Int))) ≤ (((List.length r2) : Nat) : Int)))) ∧
 ((true = true) ∧
 ((((List.length (List.take ((Int.toNat (IntKind.wrap IntKind.i64 ((((List.length r2) : Nat) : Int) - (1 : Int)))) - (0 : Nat)) (List.drop (0 : Nat) r2))) ≤ (1004 : Nat)) ∧
 (Bytes (List.take ((Int.toNat (IntKind.wrap IntKind.i64 ((((List.length r2) : Nat) : Int) - (1 : Int)))) - (0 : Nat)) (List.drop (0 : Nat) r2)))) ∧
 (∀ r18 : ReadR,
 (r18 = (frmRead2 (List.take ((Int.toNat (IntKind.wrap IntKind.i64 ((((List.length r2) : Nat) : Int) - (1 : Int)))) - (0 : Nat)) (List.drop (0 : Nat) r2)))) →
 (true = true) ∧
 (if ((!r16.ok) = true) then
 (if ((!r17.ok) = true) then
 ((true = true) ∧
 (K [(aB (!r18.ok))] []))
 else
 ((true = true) ∧
 (K [(aB false)] [])))
 else
 ((true = true) ∧
 (K [(aB false)] []))))))))))))))))))))))))))))))))))))))))))))
 else
 ((true = true) ∧
 (True ∧
 (∀ r10 : Bool,
 (r10 = (decide (FrmP r))) →
 (true = true) ∧
 (if ((!r10) = true) then
 (if (((((List.length r2) : Nat) : Int) == (0 : Int)) = true) then
 ((true = true) ∧
 (True ∧
 (∀ r11 : Bool,
 (r11 = true) →
 (true = true) ∧
 ((true = true) ∧
 (K [(aB r11)] [])))))
 else
 ((true = true) ∧
 (K [(aB false)] [])))
 else
 ((true = true) ∧
 ((((List.length r2) ≤ (1004 : Nat)) ∧
 (Bytes r2)) ∧
 (∀ r11 : ReadR,
 (r11 = (frmRead2 r2)) →
 (true = true) ∧
 (if ((!r11.ok) = true) then
 ((true = true) ∧
 (K [(aB false)] []))
 else
 ((true = true) ∧
 (((List.length r11.f.data) ≤ (137438953472 : Nat)) ∧
 (∀ r12 : Bool,
 (r12 = (decide (r11.f = r))) →
 (true = true) ∧
 (if ((!r12) = true) then
 ((true = true) ∧
 (K [(aB false)] []))
 else
 (if (((((List.length r2) : Nat) : Int) != (IntKind.wrap IntKind.i64 ((((List.length r.data) : Nat) : Int) + (7 : Int)))) = true) then
 ((true = true) ∧
 (K [(aB false)] []))
 else
 ((((0 : Nat) + (List.length r2)) ≤ (137438953472 : Nat)) ∧
 (((((List.length (([] : (List Int)) ++ r2 : (List Int))) : Nat) : Int) ≠ (0 : Int)) ∧
 ((((0 : Int) ≤ (Int.tmod (IntKind.wrap IntKind.i64 ((IntKind.wrap IntKind.i64 ((((List.length m) : Nat) : Int) * (37 : Int))) + (((List.length l) : Nat) : Int))) (((List.length (([] : (List Int)) ++ r2 : (List Int))) : Nat) : Int))) ∧
 ((Int.tmod (IntKind.wrap IntKind.i64 ((IntKind.wrap IntKind.i64 ((((List.length m) : Nat) : Int) * (37 : Int))) + (((List.length l) : Nat) : Int))) (((List.length (([] : (List Int)) ++ r2 : (List Int))) : Nat) : Int)) < (((List.length (([] : (List Int)) ++ r2 : (List Int))) : Nat) : Int))) ∧
 (((255 : Int) ≠ (0 : Int)) ∧
 ((((0 : Int) ≤ (Int.tmod (IntKind.wrap IntKind.i64 ((IntKind.wrap IntKind.i64 ((((List.length m) : Nat) : Int) * (37 : Int))) + (((List.length l) : Nat) : Int))) (((List.length (([] : (List Int)) ++ r2 : (List Int))) : Nat) : Int))) ∧
 ((Int.tmod (IntKind.wrap IntKind.i64 ((IntKind.wrap IntKind.i64 ((((List.length m) : Nat) : Int) * (37 : Int))) + (((List.length l) : Nat) : Int))) (((List.length (([] : (List Int)) ++ r2 : (List Int))) : Nat) : Int)) < (((List.length (([] : (List Int)) ++ r2 : (List Int))) : Nat) : Int))) ∧
 ((true = true) ∧
 ((((List.length (List.set (([] : (List Int)) ++ r2 : (List Int)) (Int.toNat (Int.tmod (IntKind.wrap IntKind.i64 ((IntKind.wrap IntKind.i64 ((((List.length m) : Nat) : Int) * (37 : Int))) + (((List.length l) : Nat) : Int))) (((List.length (([] : (List Int)) ++ r2 : (List Int))) : Nat) : Int))) (bits BinOp.xor IntKind.u8 (at_u8 (([] : (List Int)) ++ r2 : (List Int)) (Int.toNat (Int.tmod (IntKind.wrap IntKind.i64 ((IntKind.wrap IntKind.i64 ((((List.length m) : Nat) : Int) * (37 : Int))) + (((List.length l) : Nat) : Int))) (((List.length (([] : (List Int)) ++ r2 : (List Int))) : Nat) : Int)))) (IntKind.wrap IntKind.u8 (IntKind.wrap IntKind.i64 ((1 : Int) + (Int.tmod (((List.length m) : Nat) : Int) (255 : Int)))))))) ≤ (1004 : Nat)) ∧
 (Bytes (List.set (([] : (List Int)) ++ r2 : (List Int)) (Int.toNat (Int.tmod (IntKind.wrap IntKind.i64 ((IntKind.wrap IntKind.i64 ((((List.length m) : Nat) : Int) * (37 : Int))) + (((List.length l) : Nat) : Int))) (((List.length (([] : (List Int)) ++ r2 : (List Int))) : Nat) : Int))) (bits BinOp.xor IntKind.u8 (at_u8 (([] : (List Int)) ++ r2 : (List Int)) (Int.toNat (Int.tmod (IntKind.wrap IntKind.i64 ((IntKind.wrap IntKind.i64 ((((List.length m) : Nat) : Int) * (37 : Int))) + (((List.length l) : Nat) : Int))) (((List.length (([] : (List Int)) ++ r2 : (List Int))) : Nat) : Int)))) (IntKind.wrap IntKind.u8 (IntKind.wrap IntKind.i64 ((1 : Int) + (Int.tmod (((List.length m) : Nat) : Int) (255 : Int))))))))) ∧
 (∀ r13 : ReadR,
 (r13 = (frmRead2 (List.set (([] : (List Int)) ++ r2 : (List Int)) (Int.toNat (Int.tmod (IntKind.wrap IntKind.i64 ((IntKind.wrap IntKind.i64 ((((List.length m) : Nat) : Int) * (37 : Int))) + (((List.length l) : Nat) : Int))) (((List.length (([] : (List Int)) ++ r2 : (List Int))) : Nat) : Int))) (bits BinOp.xor IntKind.u8 (at_u8 (([] : (List Int)) ++ r2 : (List Int)) (Int.toNat (Int.tmod (IntKind.wrap IntKind.i64 ((IntKind.wrap IntKind.i64 ((((List.length m) : Nat) : Int) * (37 : Int))) + (((List.length l) : Nat) : Int))) (((List.length (([] : (List Int)) ++ r2 : (List Int))) : Nat) : Int)))) (IntKind.wrap IntKind.u8 (IntKind.wrap IntKind.i64 ((1 : Int) + (Int.tmod (((List.length m) : Nat) : Int) (255 : Int))))))))) →
 (true = true) ∧
 ((((0 : Nat) + (List.length r2)) ≤ (137438953472 : Nat)) ∧
 ((((List.length (([] : (List Int)) ++ r2 : (List Int))) + (1 : Nat)) ≤ (137438953472 : Nat)) ∧
 ((true = true) ∧
 ((((List.length ((([] : (List Int)) ++ r2 : (List Int)) ++ ((0 : Int) :: ([] : (List Int)) : (List Int)) : (List Int))) ≤ (1004 : Nat)) ∧
 (Bytes ((([] : (List Int)) ++ r2 : (List Int)) ++ ((0 : Int) :: ([] : (List Int)) : (List Int)) : (List Int)))) ∧
 (∀ r14 : ReadR,
 (r14 = (frmRead2 ((([] : (List Int)) ++ r2 : (List Int)) ++ ((0 : Int) :: ([] : (List Int)) : (List Int)) : (List Int)))) →
 (true = true) ∧
 ((((0 : Int) ≤ (0 : Int)) ∧
 (((0 : Int) ≤ (IntKind.wrap IntKind.i64 ((((List.length r2) : Nat) : Int) - (1 : Int)))) ∧
 ((IntKind.wrap IntKind.i64 ((((List.length r2) : Nat) : Int) - (1 : Int))) ≤ (((List.length r2) : Nat) : Int)))) ∧
 ((true = true) ∧
 ((((List.length (List.take ((Int.toNat (IntKind.wrap IntKind.i64 ((((List.length r2) : Nat) : Int) - (1 : Int)))) - (0 : Nat)) (List.drop (0 : Nat) r2))) ≤ (1004 : Nat)) ∧
 (Bytes (List.take ((Int.toNat (IntKind.wrap IntKind.i64 ((((List.length r2) : Nat) : Int) - (1 : Int)))) - (0 : Nat)) (List.drop (0 : Nat) r2)))) ∧
 (∀ r15 : ReadR,
 (r15 = (frmRead2 (List.take ((Int.toNat (IntKind.wrap IntKind.i64 ((((List.length r2) : Nat) : Int) - (1 : Int)))) - (0 : Nat)) (List.drop (0 : Nat) r2)))) →
 (true = true) ∧
 (if ((!r13.ok) = true) then
 (if ((!r14.ok) = true) then
 ((true = true) ∧
 (K [(aB (!r15.ok))] []))
 else
 ((true = true) ∧
 (K [(aB false)] [])))
 else
 ((true = true) ∧
 (K [(aB false)] [])))))))))))))))))))))))))))))))))))))))))))))))))))))))))))))))))))))))))) := by
  repeat' first
    | exact rfl
    | exact True.intro
    | with_reducible apply And.intro
    | (with_reducible intro y_ hy_; subst hy_)
    | with_reducible intro y_
    | (refine iteI (fun h => ?_) (fun h => ?_))
    | (refine ifpI (fun h => ?_) (fun h => ?_))
  all_goals try simp only [Bool.not_eq_true', decide_eq_false_iff_not, decide_eq_true_eq, Bool.not_eq_true, bne_iff_ne, beq_iff_eq, ne_eq, Decidable.not_not, Bool.not_eq_false, gt_iff_lt, ge_iff_le, Int.not_le, Int.not_lt, beq_eq_false_iff_ne, bne_eq_false_iff_eq, Bool.and_eq_true, Bool.or_eq_true, Bool.true_eq_false, Bool.false_eq_true] at *
  all_goals try simp (disch := first | omega | grind [frmBytes_nil, frmBytes_len2, read2_ok, read2_data, read2_len, read2_bytes, frmBytes_bytes, frmBytes_len, frmBytes_big]) only [wr] at *
  all_goals first
    | assumption
    | omega
    | exact frmBytes_big _
    | exact Int.tmod_lt_of_pos _ (show 0 < ((frmBytes _).length : Int) by omega)
    | exact Bytes.setx (l := frmBytes _) (frmBytes_bytes (And.left (by assumption))) _ _
    | exact Bytes.append (frmBytes_bytes (And.left (by assumption))) (.cons (by decide) (by decide) .nil)
    | exact ((frmBytes_bytes (And.left (by assumption))).drop 0).take _
    | (refine hk _ ?_
       rw [Bool.not_eq_true']
       exact frm_shorter2 (by assumption))
    | exact (Bool.false_ne_true ((frm_longer (by assumption)).symm.trans ‹(frmRead2 (_ ++ [0])).ok = true›)).elim
    | exact (Bool.false_ne_true ((frm_bent (by assumption) (And.left (by assumption)) l.length m.length).symm.trans h)).elim
    | exact hk _ (by grind [frmBytes_nil, frmBytes_len2, read2_ok, read2_data, read2_len, read2_bytes, frmBytes_bytes, frmBytes_len, frmBytes_big])
    | (simp only [LIM] at *; omega)
    | grind [frmBytes_nil, frmBytes_len2, read2_ok, read2_data, read2_len, read2_bytes, frmBytes_bytes, frmBytes_len, frmBytes_big, LIM]
theorem w_laws_FnFrmBytes : Valid Try.prog 7 c_laws_FnFrmBytes :=
  valid_ctr2 (V := V_laws_FnFrmBytes) (tysB_ok tys_ok) (CallsL.cons w_laws_liBytes (CallsL.cons w_spec_FrmRead (CallsL.cons w_impl_FrmRead (CallsL.cons w_spec_FrmBytes (CallsL.cons w_impl_FrmBytes (CallsL.cons w_spec_DrawFrmBytes (CallsL.cons w_spec_FrmOk (CallsL.cons w_laws_liOk (CallsL.cons w_laws_liFrame (CallsL.cons w_spec_DrawFrmRead (CallsL.cons w_impl_FrmOk (CallsL.nil _)))))))))))) mixed 2 7 Try.func7 rfl (by kernel_rfl)
    (fun c hc => by
      obtain rfl := Option.some.inj hc
      exact ⟨trivial, ⟨⟨trivial, ⟨⟨trivial, trivial⟩, trivial⟩⟩, ⟨trivial, ⟨trivial, ⟨trivial, ⟨trivial, ⟨trivial, ⟨⟨trivial, ⟨⟨trivial, trivial⟩, trivial⟩⟩, ⟨⟨trivial, ⟨⟨trivial, trivial⟩, trivial⟩⟩, ⟨⟨trivial, ⟨⟨trivial, trivial⟩, trivial⟩⟩, ⟨trivial, ⟨⟨trivial, ⟨⟨trivial, trivial⟩, trivial⟩⟩, ⟨trivial, ⟨trivial, ⟨trivial, ⟨trivial, ⟨trivial, ⟨trivial, ⟨trivial, trivial⟩⟩⟩⟩⟩⟩⟩⟩⟩⟩⟩⟩⟩⟩⟩⟩⟩⟩⟩)
    (fun x K hp hk => ⟨_, by kernel_rfl, vF_laws_FnFrmBytes x.1 x.2 K hp (fun r h => hk r h)⟩)
end Go.Proofs.YtkkokenpehoffaaE
