/- A part of the proof of laws of the program: what calls of the program answer. Conditions: none. -/
import Derived.Test.YtkkokenpehoffaaM73b60c92
set_option linter.unusedVariables false
set_option linter.unusedSimpArgs false
set_option linter.unusedSectionVars false
/- Contracts: P. Conditions: none. -/
set_option linter.unusedVariables false
set_option maxHeartbeats 1600000
namespace Go.Proofs.YtkkokenpehoffaaE
open Go
theorem crc0_lt {l : List Int} (h : Bytes l) : crc 0 l < 65536 := crc_lt h (by decide)
theorem crcPut_len (l : List Int) : (crcPut l).length = l.length + 2 := by simp [crcPut]
theorem crcPut_bytes {l : List Int} (h : Bytes l) : Bytes (crcPut l) := by
  have := crc0_lt h
  refine h.append (.cons ?_ ?_ (.cons ?_ ?_ .nil)) <;> omega
theorem split2 (l : List Int) (h : 2 ≤ l.length) : l = l.take (l.length - 2) ++ [rd l (l.length - 2), rd l (l.length - 1)] := by
  have e : l.drop (l.length - 2) = [rd l (l.length - 2), rd l (l.length - 1)] := by
    have h1 : l.length - 2 < l.length := by omega
    rw [List.drop_eq_getElem_cons h1, show l.length - 2 + 1 = l.length - 1 by omega, List.drop_eq_getElem_cons (by omega), List.drop_of_length_le (by omega)]
    unfold rd
    rw [show ((l.length : Int) - 2).toNat = l.length - 2 by omega, show ((l.length : Int) - 1).toNat = l.length - 1 by omega]
    rw [List.getD_eq_getElem?_getD, List.getD_eq_getElem?_getD, List.getElem?_eq_getElem h1, List.getElem?_eq_getElem (by omega)]
    rfl
  rw [← e, List.take_append_drop]
theorem cut_put {l : List Int} (hl : Bytes l) (h : 2 ≤ l.length) : crcPut (l.take (l.length - 2)) = l ↔ CutP l := by
  have hs := split2 l h
  have hc := crc0_lt (hl.take (l.length - 2))
  obtain ⟨a1, a2⟩ := hl.at_ ((l.length : Int) - 2)
  obtain ⟨b1, b2⟩ := hl.at_ ((l.length : Int) - 1)
  unfold CutP crcPut
  constructor
  · intro e
    refine ⟨h, ?_⟩
    have e2 : l.take (l.length - 2) ++ [((crc 0 (l.take (l.length - 2)) % 256 : Nat) : Int), ((crc 0 (l.take (l.length - 2)) / 256 : Nat) : Int)] = l.take (l.length - 2) ++ [rd l (l.length - 2), rd l (l.length - 1)] := e.trans hs
    have e3 := List.append_cancel_left e2
    simp only [List.cons.injEq, and_true] at e3
    omega
  · intro e
    refine Eq.trans ?_ hs.symm
    congr 1
    have e1 := e.2
    congr 1
    · omega
    · congr 1; omega
structure CutR where
  l : List Int
  ok : Bool
def crcCut2 (l : List Int) : CutR := ⟨crcCut l, decide (CutP l)⟩
theorem crcCut_bytes {l : List Int} (h : Bytes l) : Bytes (crcCut l) := by unfold crcCut; split; exact h.take _; exact .nil
theorem crcCut_len (l : List Int) : (crcCut l).length ≤ l.length := by unfold crcCut; split; rw [List.length_take]; omega; simp
theorem shr8 (c : Nat) (h : c < 65536) : Int.fdiv (c : Int) (2 ^ (min (8 : Int).toNat 64)) = ((c / 256 : Nat) : Int) := by
  rw [Int.fdiv_eq_ediv_of_nonneg _ (by decide)]
  rw [show (min (8 : Int).toNat 64) = 8 by decide]
  omega

/-! impl.CrcPut -/
def c_impl_CrcPut : Ent := ctr (α := (List Int)) (ρ := (List Int)) [] [(0, 0)] (rs1 rBytes) (fun x_ => (fun (l : List Int) => (Bytes l ∧ l.length ≤ 1000000000)) x_) (fun x_ r_ => (fun x_ => (fun (l : List Int) => ((fun r_ => (fun (r : List Int) => (r = crcPut l)) r_))) x_) x_ r_) (fun r_ => (fun (r : List Int) => ([(rO 5 .u8).to r])) r_) (fun r_ => (fun (r : List Int) => ([])) r_)
def V_impl_CrcPut : Env := ⟨tys, [(38, c_impl_CrcOf), (39, c_impl_clone_byte)], [(7, [0]), (15, [1])], [], [], [], [], [], []⟩
/-! spec.CrcPut -/
def c_spec_CrcPut : Ent := ctr (α := (List Int)) (ρ := (List Int)) [] [] (rs1 rBytes) (fun x_ => (fun (l : List Int) => (Bytes l ∧ l.length ≤ 1000000000)) x_) (fun x_ r_ => (fun x_ => (fun (l : List Int) => ((fun r_ => (fun (r : List Int) => (r = crcPut l)) r_))) x_) x_ r_) (fun r_ => (fun (r : List Int) => ([rBytes.to r])) r_) (fun r_ => (fun (r : List Int) => ([])) r_)
def V_spec_CrcPut : Env := ⟨tys, [(41, c_spec_CrcOf)], [(6, [0])], [], [], [], [], [], []⟩
/-! impl.CrcCut -/
def c_impl_CrcCut : Ent := ctr (α := (List Int)) (ρ := (CutR)) [] [] (rs1 rBytes) (fun x_ => (fun (l : List Int) => (Bytes l ∧ l.length ≤ 1000000000)) x_) (fun x_ r_ => (fun x_ => (fun (l : List Int) => ((fun r_ => (fun (q : CutR) => (q = crcCut2 l)) r_))) x_) x_ r_) (fun r_ => (fun (q : CutR) => ([rBytes.to q.l, rB.to q.ok])) r_) (fun r_ => (fun (q : CutR) => ([])) r_)
def V_impl_CrcCut : Env := ⟨tys, [(10, c_impl_CrcPut), (39, c_impl_clone_byte), (40, c_slices_Equal_byte_byte)], [], [], [], [], [500010], [], []⟩
/-! spec.CrcCut -/
def c_spec_CrcCut : Ent := ctr (α := (List Int)) (ρ := (CutR)) [] [] (rs1 rBytes) (fun x_ => (fun (l : List Int) => (Bytes l ∧ l.length ≤ 1000000000)) x_) (fun x_ r_ => (fun x_ => (fun (l : List Int) => ((fun r_ => (fun (q : CutR) => (q = crcCut2 l)) r_))) x_) x_ r_) (fun r_ => (fun (q : CutR) => ([rBytes.to q.l, rB.to q.ok])) r_) (fun r_ => (fun (q : CutR) => ([])) r_)
def V_spec_CrcCut : Env := ⟨tys, [(41, c_spec_CrcOf)], [(31, [0])], [], [], [], [500010], [], [(2, [(0, false), (1, false), (2, false), (3, false), (4, false), (5, false), (7, false), (8, false), (9, false), (10, false), (11, false), (12, false), (13, false), (14, false), (15, false), (16, false), (17, false), (18, false), (19, false), (6, true), (20, false), (21, false)])]⟩
theorem xor8_lt {a b : Int} (ha : 0 ≤ a ∧ a ≤ 255) (hb : 0 ≤ b ∧ b ≤ 255) : 0 ≤ Go.bits .xor .u8 a b ∧ Go.bits .xor .u8 a b ≤ 255 := by
  obtain ⟨a, rfl⟩ : ∃ n : Nat, a = n := ⟨a.toNat, by omega⟩
  obtain ⟨b, rfl⟩ : ∃ n : Nat, b = n := ⟨b.toNat, by omega⟩
  have h := Nat.xor_lt_two_pow (show a < 2 ^ 8 by omega) (show b < 2 ^ 8 by omega)
  rw [xor8 _ _ (by omega) (by omega)]
  omega
theorem wr8_lt (x : Int) : 0 ≤ IntKind.wrap .u8 x ∧ IntKind.wrap .u8 x ≤ 255 := by rw [wr8m]; omega
theorem Bytes.at8 {l : List Int} (h : Bytes l) (i : Nat) : 0 ≤ at_u8 l i ∧ at_u8 l i ≤ 255 := h.at_ (i : Int)
theorem Bytes.setx {l : List Int} (h : Bytes l) (n : Nat) (x : Int) : Bytes (l.set n (Go.bits .xor .u8 (at_u8 l n) (IntKind.wrap .u8 x))) := h.set n (xor8_lt (h.at8 n) (wr8_lt x)).1 (xor8_lt (h.at8 n) (wr8_lt x)).2
theorem Bytes.wr1 (x : Int) : Bytes [IntKind.wrap .u8 x] := .cons (wr8_lt x).1 (wr8_lt x).2 .nil

/-! spec.l20Turn -/
def c_spec_l20Turn : Ent := ctr (α := (RdS) × (List Int)) (ρ := (List Int) × (RdS)) [] [] (rs rRd (rs1 rBytes)) (fun x_ => (fun (r : RdS) (b : List Int) => (RdOk r 80000000 ∧ Bytes b ∧ b.length ≤ 1000)) x_.1 x_.2) (fun x_ r_ => (fun x_ => (fun (r : RdS) (b : List Int) => ((fun r_ => (fun (l : List Int) (q : RdS) => (Bytes l ∧ l.length ≤ 1001 ∧ RdOn r q 5)) r_.1 r_.2))) x_.1 x_.2) x_ r_) (fun r_ => (fun (l : List Int) (q : RdS) => ([rBytes.to l])) r_.1 r_.2) (fun r_ => (fun (l : List Int) (q : RdS) => ([(rdC q).map .d])) r_.1 r_.2)
def V_spec_l20Turn : Env := ⟨tys, [(36, c_spec_l20Rd_pick)], [(22, [0]), (34, [1]), (48, [2])], [], [(6, ([], [0])), (8, ([0], [1])), (10, ([0], []))], [], [], [], [(6, [(1, false), (2, false), (3, false), (5, false), (6, false), (7, false), (8, false), (0, true), (4, true), (9, true), (10, false)]), (8, [(1, false), (2, false), (3, false), (5, false), (10, false), (11, false), (12, false), (0, true), (4, true), (6, true), (7, false), (8, false), (9, true), (13, true), (14, false)]), (10, [(0, false), (1, false), (2, false), (3, false), (4, false), (5, false), (6, false), (7, true), (8, false), (9, false), (10, false), (11, false), (12, true)])]⟩
/-! spec.DrawCrcPut -/
def c_spec_DrawCrcPut : Ent := ctr (α := (List Int)) (ρ := (List Int)) [] [] (rs1 rBytes) (fun x_ => (fun (l : List Int) => (Bytes l)) x_) (fun x_ r_ => (fun x_ => (fun (l : List Int) => ((fun r_ => (fun (o : List Int) => (Bytes o ∧ o.length ≤ 20)) r_))) x_) x_ r_) (fun r_ => (fun (o : List Int) => ([rBytes.to o])) r_) (fun r_ => (fun (o : List Int) => ([])) r_)
def V_spec_DrawCrcPut : Env := ⟨tys, [(34, c_spec_l20Bytes), (35, c_spec_l20Open)], [], [(4, 0)], [], [], [], [], []⟩
/-! spec.DrawCrcCut -/
def c_spec_DrawCrcCut : Ent := ctr (α := (List Int)) (ρ := (List Int)) [] [] (rs1 rBytes) (fun x_ => (fun (l : List Int) => (Bytes l)) x_) (fun x_ r_ => (fun x_ => (fun (l : List Int) => ((fun r_ => (fun (o : List Int) => (Bytes o ∧ o.length ≤ 1001)) r_))) x_) x_ r_) (fun r_ => (fun (o : List Int) => ([rBytes.to o])) r_) (fun r_ => (fun (o : List Int) => ([])) r_)
def V_spec_DrawCrcCut : Env := ⟨tys, [(14, c_spec_CrcPut), (34, c_spec_l20Bytes), (35, c_spec_l20Open), (36, c_spec_l20Rd_pick), (37, c_spec_l20Turn)], [], [(6, 0)], [], [], [], [], []⟩
/-! spec.DrawFrmBytes -/
def c_spec_DrawFrmBytes : Ent := ctr (α := (List Int)) (ρ := (Frm)) [] [] (rs1 rBytes) (fun x_ => (fun (l : List Int) => (Bytes l)) x_) (fun x_ r_ => (fun x_ => (fun (l : List Int) => ((fun r_ => (fun (f : Frm) => (Bytes f.data ∧ f.data.length ≤ 200)) r_))) x_) x_ r_) (fun r_ => (fun (f : Frm) => ([rFrm.to f])) r_) (fun r_ => (fun (f : Frm) => ([])) r_)
def V_spec_DrawFrmBytes : Env := ⟨tys, [(35, c_spec_l20Open), (45, c_spec_l20Frame)], [], [(2, 0), (4, 1)], [], [], [], [], []⟩
end Go.Proofs.YtkkokenpehoffaaE

/- Calls answer what is promised: P. Conditions: none. -/
set_option linter.unusedVariables false
set_option maxHeartbeats 1600000
namespace Go.Proofs.YtkkokenpehoffaaE
open Go
theorem vF_impl_CrcPut (l:List Int) (K:List Arg→List (List AC)→Prop) (hp:Bytes l∧l.length≤1000000000) (hk:∀ (r:List Int),(r=crcPut l)→K ([(rO 5 .u8).to r]) ([])):(true=true)∧(((Bytes l)∧((List.length l)≤(137438953472:Nat)))∧(∀ r:Int,(r=(((crc (0:Nat) l):Nat):Int))→(true=true)∧((true=true)∧(((List.length l)≤(137438953472:Nat))∧(∀ r1:(List Int),(r1=l)→(true=true)∧(((0:Int)≤(8:Int))∧((((List.length r1) + (List.length ((IntKind.wrap IntKind.u8 r) :: ((IntKind.wrap IntKind.u8 (Int.fdiv r (256:Int))) :: ([]:(List Int)):(List Int)):(List Int))))≤(137438953472:Nat))∧((true=true)∧(((List.length (r1 ++ ((IntKind.wrap IntKind.u8 r) :: ((IntKind.wrap IntKind.u8 (Int.fdiv r (256:Int))) :: ([]:(List Int)):(List Int)):(List Int)):(List Int)))≤(137438953472:Nat))∧(∀ r2:(List Int),(r2=(r1 ++ ((IntKind.wrap IntKind.u8 r) :: ((IntKind.wrap IntKind.u8 (Int.fdiv r (256:Int))) :: ([]:(List Int)):(List Int)):(List Int)):(List Int)))→(true=true)∧((true=true)∧(K [(Arg.v false [(AC.own (RC.mk (5:Nat) RK.u8 r2 (RM.mk (dpM false (Option.none)) false (0:Nat) false)))])] [])))))))))))) := by
  have hL : LIM = 137438953472 := rfl
  have hc := crc0_lt hp.1
  refine ⟨by trivial, ⟨hp.1, by omega⟩, fun r hr => ⟨by trivial, by trivial, by omega, fun r1 hr1 => ⟨by trivial, by omega, ?_⟩⟩⟩
  subst hr
  subst hr1
  have e1 : IntKind.wrap .u8 ((crc 0 r1 : Nat) : Int) = ((crc 0 r1 % 256 : Nat) : Int) := by rw [wr8m]; omega
  have e2 : IntKind.wrap .u8 (Int.fdiv ((crc 0 r1 : Nat) : Int) 256) = ((crc 0 r1 / 256 : Nat) : Int) := by rw [Int.fdiv_eq_ediv_of_nonneg _ (by decide), wr8m]; omega
  rw [e1, e2]
  refine ⟨by simp; omega, by trivial, by simp; omega, fun r2 hr2 => ⟨by trivial, by trivial, ?_⟩⟩
  exact hk r2 hr2
theorem w_impl_CrcPut : Valid Try.prog 10 c_impl_CrcPut :=
  valid_ctr2 (V := V_impl_CrcPut) (tysB_ok tys_ok) ⟨(CallsL.cons w_impl_CrcOf (CallsL.cons w_impl_clone_byte (CallsL.nil _))), (IosL.nil _)⟩ mixed 2 0 Try.func10 rfl (by kernel_rfl)
    (fun c hc => by
      obtain rfl := Option.some.inj hc
      exact ⟨trivial, ⟨trivial, ⟨trivial, trivial⟩⟩⟩)
    (fun x K hp hk => ⟨_, by kernel_rfl, vF_impl_CrcPut x K hp (fun r h => hk r h)⟩)
theorem vF_spec_CrcPut (l:List Int) (K:List Arg→List (List AC)→Prop) (hp:Bytes l∧l.length≤1000000000) (hk:∀ (r:List Int),(r=crcPut l)→K ([rBytes.to r]) ([])):(true=true)∧(((Bytes l)∧((List.length l)≤(137438953472:Nat)))∧(∀ r:Int,(r=(((crc (0:Nat) l):Nat):Int))→(true=true)∧((((0:Nat) + (List.length l))≤(137438953472:Nat))∧(((256:Int) ≠ (0:Int))∧(((256:Int) ≠ (0:Int))∧((((List.length (([]:(List Int)) ++ l:(List Int))) + (List.length ((IntKind.wrap IntKind.u8 (Int.tmod r (256:Int))) :: ((IntKind.wrap IntKind.u8 (IntKind.wrap IntKind.i64 (Int.tdiv r (256:Int)))) :: ([]:(List Int)):(List Int)):(List Int))))≤(137438953472:Nat))∧((true=true)∧(K [(aR RK.u8 ((([]:(List Int)) ++ l:(List Int)) ++ ((IntKind.wrap IntKind.u8 (Int.tmod r (256:Int))) :: ((IntKind.wrap IntKind.u8 (IntKind.wrap IntKind.i64 (Int.tdiv r (256:Int)))) :: ([]:(List Int)):(List Int)):(List Int)):(List Int)))] [])))))))) := by
  have hL : LIM = 137438953472 := rfl
  have hc := crc0_lt hp.1
  refine ⟨by trivial, ⟨hp.1, by omega⟩, fun r hr => ⟨by trivial, by omega, by decide, by decide, ?_⟩⟩
  subst hr
  have e1 : IntKind.wrap .u8 (Int.tmod ((crc 0 l : Nat) : Int) 256) = ((crc 0 l % 256 : Nat) : Int) := by rw [Int.tmod_eq_emod_of_nonneg (by omega), wr8m]; omega
  have e2 : IntKind.wrap .u8 (IntKind.wrap .i64 (Int.tdiv ((crc 0 l : Nat) : Int) 256)) = ((crc 0 l / 256 : Nat) : Int) := by rw [Int.tdiv_eq_ediv_of_nonneg (by omega), wr (by omega) (by omega), wr8m]; omega
  rw [e1, e2]
  exact ⟨by simp; omega, by trivial, hk _ rfl⟩
theorem w_spec_CrcPut : Valid Try.prog 14 c_spec_CrcPut :=
  valid_ctr2 (V := V_spec_CrcPut) (tysB_ok tys_ok) ⟨(CallsL.cons w_spec_CrcOf (CallsL.nil _)), (IosL.nil _)⟩ mixed 1 0 Try.func14 rfl (by kernel_rfl)
    (fun c hc => by
      obtain rfl := Option.some.inj hc
      exact ⟨trivial, ⟨trivial, ⟨trivial, trivial⟩⟩⟩)
    (fun x K hp hk => ⟨_, by kernel_rfl, vF_spec_CrcPut x K hp (fun r h => hk r h)⟩)
theorem vF_impl_CrcCut (l:List Int) (K:List Arg→List (List AC)→Prop) (hp:Bytes l∧l.length≤1000000000) (hk:∀ (q:CutR),(q=crcCut2 l)→K ([rBytes.to q.l,rB.to q.ok]) ([])):if ((decide ((IntKind.wrap IntKind.i64 ((((List.length l):Nat):Int) - (2:Int))) < (0:Int)))=true) then ((true=true)∧(K [(aR RK.u8 ([]:(List Int))),(aB false)] [])) else ((((0:Int)≤(0:Int))∧(((0:Int)≤(IntKind.wrap IntKind.i64 ((((List.length l):Nat):Int) - (2:Int))))∧((IntKind.wrap IntKind.i64 ((((List.length l):Nat):Int) - (2:Int)))≤(((List.length l):Nat):Int))))∧((true=true)∧(((Bytes (List.take ((Int.toNat (IntKind.wrap IntKind.i64 ((((List.length l):Nat):Int) - (2:Int)))) - (0:Nat)) (List.drop (0:Nat) l)))∧((List.length (List.take ((Int.toNat (IntKind.wrap IntKind.i64 ((((List.length l):Nat):Int) - (2:Int)))) - (0:Nat)) (List.drop (0:Nat) l)))≤(1000000000:Nat)))∧(∀ r:(List Int),(r=(crcPut (List.take ((Int.toNat (IntKind.wrap IntKind.i64 ((((List.length l):Nat):Int) - (2:Int)))) - (0:Nat)) (List.drop (0:Nat) l))))→(true=true)∧((true=true)∧(((List.length r)≤(137438953472:Nat))∧(∀ r1:Bool,(r1=(decide (r=l)))→(true=true)∧(if ((!r1)=true) then ((true=true)∧(K [(aR RK.u8 ([]:(List Int))),(aB false)] [])) else ((((0:Int)≤(0:Int))∧(((0:Int)≤(IntKind.wrap IntKind.i64 ((((List.length l):Nat):Int) - (2:Int))))∧((IntKind.wrap IntKind.i64 ((((List.length l):Nat):Int) - (2:Int)))≤(((List.length l):Nat):Int))))∧((true=true)∧(((List.length (List.take ((Int.toNat (IntKind.wrap IntKind.i64 ((((List.length l):Nat):Int) - (2:Int)))) - (0:Nat)) (List.drop (0:Nat) l)))≤(137438953472:Nat))∧(∀ r2:(List Int),(r2=(List.take ((Int.toNat (IntKind.wrap IntKind.i64 ((((List.length l):Nat):Int) - (2:Int)))) - (0:Nat)) (List.drop (0:Nat) l)))→(true=true)∧((true=true)∧(K [(aR RK.u8 r2),(aB true)] [])))))))))))))) := by
  have hL : LIM = 137438953472 := rfl
  have h9 := hp.2
  rw [wr (x := (l.length : Int) - 2) (by omega) (by omega)]
  refine iteI (fun h => ?_) (fun h => ?_)
  · have hn : ¬ CutP l := fun hc => by have := hc.1; simp at h; omega
    have h0 := hk _ rfl
    unfold crcCut2 crcCut at h0
    rw [if_neg hn, decide_eq_false hn] at h0
    first | exact ⟨by trivial, h0⟩ | exact ⟨by trivial, by trivial, h0⟩
  · have h2 : 2 ≤ l.length := by simp at h; omega
    have et : List.take (((l.length : Int) - 2).toNat - 0) (List.drop 0 l) = l.take (l.length - 2) := by
      rw [List.drop_zero, show ((l.length : Int) - 2).toNat - 0 = l.length - 2 by omega]
    rw [et]
    have hlt : (l.take (l.length - 2)).length ≤ l.length := by rw [List.length_take]; omega
    refine ⟨⟨by omega, by omega, by omega⟩, by trivial, ⟨hp.1.take _, by omega⟩, fun r hr => ⟨by trivial, by trivial, by rw [hr, crcPut_len]; omega, fun r1 hr1 => ⟨by trivial, ?_⟩⟩⟩
    subst hr
    subst hr1
    have hci := cut_put hp.1 h2
    refine iteI (fun hx => ?_) (fun hx => ?_)
    · have hn : ¬ CutP l := fun hc => by simp [hci.2 hc] at hx
      have h0 := hk _ rfl
      unfold crcCut2 crcCut at h0
      rw [if_neg hn, decide_eq_false hn] at h0
      first | exact ⟨by trivial, h0⟩ | exact ⟨by trivial, by trivial, h0⟩
    · have hc : CutP l := hci.1 (by simpa using hx)
      refine ⟨⟨by omega, by omega, by omega⟩, by trivial, by omega, fun r2 hr2 => ⟨by trivial, by trivial, ?_⟩⟩
      subst hr2
      have h0 := hk _ rfl
      unfold crcCut2 crcCut at h0
      rw [if_pos hc, decide_eq_true hc] at h0
      exact h0
theorem w_impl_CrcCut : Valid Try.prog 11 c_impl_CrcCut :=
  valid_ctr2 (V := V_impl_CrcCut) (tysB_ok tys_ok) ⟨(CallsL.cons w_impl_CrcPut (CallsL.cons w_impl_clone_byte (CallsL.cons w_slices_Equal_byte_byte (CallsL.nil _)))), (IosL.nil _)⟩ mixed 0 0 Try.func11 rfl (by kernel_rfl)
    (fun c hc => by
      obtain rfl := Option.some.inj hc
      exact ⟨trivial, ⟨trivial, ⟨⟨trivial, ⟨⟨trivial, trivial⟩, trivial⟩⟩, ⟨trivial, trivial⟩⟩⟩⟩)
    (fun x K hp hk => ⟨_, by kernel_rfl, vF_impl_CrcCut x K hp (fun q h => hk q h)⟩)
theorem vF_spec_CrcCut (l:List Int) (K:List Arg→List (List AC)→Prop) (hp:Bytes l∧l.length≤1000000000) (hk:∀ (q:CutR),(q=crcCut2 l)→K ([rBytes.to q.l,rB.to q.ok]) ([])):if ((decide ((IntKind.wrap IntKind.i64 ((((List.length l):Nat):Int) - (2:Int))) < (0:Int)))=true) then ((true=true)∧((true=true)∧(K [(aR RK.u8 ([]:(List Int))),(aB false)] []))) else ((((0:Int)≤(0:Int))∧(((0:Int)≤(IntKind.wrap IntKind.i64 ((((List.length l):Nat):Int) - (2:Int))))∧((IntKind.wrap IntKind.i64 ((((List.length l):Nat):Int) - (2:Int)))≤(((List.length l):Nat):Int))))∧((((0:Int)≤(IntKind.wrap IntKind.i64 ((((List.length l):Nat):Int) - (2:Int))))∧((IntKind.wrap IntKind.i64 ((((List.length l):Nat):Int) - (2:Int))) < (((List.length l):Nat):Int)))∧((((0:Int)≤(IntKind.wrap IntKind.i64 ((IntKind.wrap IntKind.i64 ((((List.length l):Nat):Int) - (2:Int))) + (1:Int))))∧((IntKind.wrap IntKind.i64 ((IntKind.wrap IntKind.i64 ((((List.length l):Nat):Int) - (2:Int))) + (1:Int))) < (((List.length l):Nat):Int)))∧((true=true)∧(((Bytes (List.take ((Int.toNat (IntKind.wrap IntKind.i64 ((((List.length l):Nat):Int) - (2:Int)))) - (0:Nat)) (List.drop (0:Nat) l)))∧((List.length (List.take ((Int.toNat (IntKind.wrap IntKind.i64 ((((List.length l):Nat):Int) - (2:Int)))) - (0:Nat)) (List.drop (0:Nat) l)))≤(137438953472:Nat)))∧(∀ r:Int,(r=(((crc (0:Nat) (List.take ((Int.toNat (IntKind.wrap IntKind.i64 ((((List.length l):Nat):Int) - (2:Int)))) - (0:Nat)) (List.drop (0:Nat) l))):Nat):Int))→(true=true)∧((true=true)∧(if ((r != (IntKind.wrap IntKind.i64 ((IntKind.wrap IntKind.i64 (at_u8 l (Int.toNat (IntKind.wrap IntKind.i64 ((((List.length l):Nat):Int) - (2:Int)))))) + (IntKind.wrap IntKind.i64 ((IntKind.wrap IntKind.i64 (at_u8 l (Int.toNat (IntKind.wrap IntKind.i64 ((IntKind.wrap IntKind.i64 ((((List.length l):Nat):Int) - (2:Int))) + (1:Int)))))) * (256:Int))))))=true) then ((true=true)∧(K [(aR RK.u8 ([]:(List Int))),(aB false)] [])) else ((((0:Int)≤(0:Int))∧(((0:Int)≤(IntKind.wrap IntKind.i64 ((((List.length l):Nat):Int) - (2:Int))))∧((IntKind.wrap IntKind.i64 ((((List.length l):Nat):Int) - (2:Int)))≤(((List.length l):Nat):Int))))∧((((0:Nat) + (List.length (List.take ((Int.toNat (IntKind.wrap IntKind.i64 ((((List.length l):Nat):Int) - (2:Int)))) - (0:Nat)) (List.drop (0:Nat) l))))≤(137438953472:Nat))∧((true=true)∧(K [(aR RK.u8 (([]:(List Int)) ++ (List.take ((Int.toNat (IntKind.wrap IntKind.i64 ((((List.length l):Nat):Int) - (2:Int)))) - (0:Nat)) (List.drop (0:Nat) l)):(List Int))),(aB true)] [])))))))))))) := by
  have hL : LIM = 137438953472 := rfl
  have h9 := hp.2
  rw [wr (x := (l.length : Int) - 2) (by omega) (by omega)]
  refine iteI (fun h => ?_) (fun h => ?_)
  · have hn : ¬ CutP l := fun hc => by have := hc.1; simp at h; omega
    have h0 := hk _ rfl
    unfold crcCut2 crcCut at h0
    rw [if_neg hn, decide_eq_false hn] at h0
    first | exact ⟨by trivial, h0⟩ | exact ⟨by trivial, by trivial, h0⟩
  · have h2 : 2 ≤ l.length := by simp at h; omega
    have et : List.take (((l.length : Int) - 2).toNat - 0) (List.drop 0 l) = l.take (l.length - 2) := by
      rw [List.drop_zero, show ((l.length : Int) - 2).toNat - 0 = l.length - 2 by omega]
    rw [et]
    have hlt : (l.take (l.length - 2)).length ≤ l.length := by rw [List.length_take]; omega
    have ha : at_u8 l ((l.length : Int) - 2).toNat = rd l (l.length - 2) := rfl
    have hb : at_u8 l ((l.length : Int) - 1).toNat = rd l (l.length - 1) := rfl
    obtain ⟨a1, a2⟩ := hp.1.at_ ((l.length : Int) - 2)
    obtain ⟨b1, b2⟩ := hp.1.at_ ((l.length : Int) - 1)
    rw [wr (x := (l.length : Int) - 2 + 1) (by omega) (by omega), show (l.length : Int) - 2 + 1 = l.length - 1 by omega, ha, hb]
    rw [wr (x := rd l (l.length - 2)) (by omega) (by omega), wr (x := rd l (l.length - 1)) (by omega) (by omega), wr (x := rd l (l.length - 1) * 256) (by omega) (by omega), wr (by omega) (by omega)]
    refine ⟨⟨by omega, by omega, by omega⟩, ⟨by omega, by omega⟩, ⟨by omega, by omega⟩, by trivial, ⟨hp.1.take _, by omega⟩, fun r hr => ⟨by trivial, by trivial, ?_⟩⟩
    subst hr
    refine iteI (fun hx => ?_) (fun hx => ?_)
    · have hn : ¬ CutP l := fun hc => by simp [hc.2] at hx
      have h0 := hk _ rfl
      unfold crcCut2 crcCut at h0
      rw [if_neg hn, decide_eq_false hn] at h0
      first | exact ⟨by trivial, h0⟩ | exact ⟨by trivial, by trivial, h0⟩
    · have hc : CutP l := ⟨h2, by simpa using hx⟩
      have h0 := hk _ rfl
      unfold crcCut2 crcCut at h0
      rw [if_pos hc, decide_eq_true hc] at h0
      exact ⟨⟨by omega, by omega, by omega⟩, by omega, by trivial, h0⟩
theorem w_spec_CrcCut : Valid Try.prog 12 c_spec_CrcCut :=
  valid_ctr2 (V := V_spec_CrcCut) (tysB_ok tys_ok) ⟨(CallsL.cons w_spec_CrcOf (CallsL.nil _)), (IosL.nil _)⟩ mixed 1 0 Try.func12 rfl (by kernel_rfl)
    (fun c hc => by
      obtain rfl := Option.some.inj hc
      exact ⟨trivial, ⟨trivial, ⟨⟨trivial, ⟨⟨trivial, trivial⟩, trivial⟩⟩, ⟨trivial, trivial⟩⟩⟩⟩)
    (fun x K hp hk => ⟨_, by kernel_rfl, vF_spec_CrcCut x K hp (fun q h => hk q h)⟩)
theorem vF_spec_l20Turn (r:RdS) (b:List Int) (K:List Arg→List (List AC)→Prop) (hp:RdOk r 80000000∧Bytes b∧b.length≤1000) (hk:∀ (l:List Int) (q:RdS),(Bytes l∧l.length≤1001∧RdOn r q 5)→K ([rBytes.to l]) ([(rdC q).map .d])):if (((((List.length b):Nat):Int) == (0:Int))=true) then ((true=true)∧((((Bytes r.b)∧(((List.length r.b)≤(2000:Nat))∧(((0:Int)≤r.p)∧(r.p≤(1000000000:Int)))))∧((256:Int)≤(1000000000:Int)))∧(∀ r1:(Prod Int RdS),((r1.snd=(RdS.mk r.b (r.p + (1:Int))))∧(((0:Int)≤r1.fst)∧((((1:Int)≤(256:Int))→(r1.fst < (256:Int)))∧(((256:Int) < (1:Int))→(r1.fst=(0:Int))))))→(true=true)∧((true=true)∧(K [(aR RK.u8 ((IntKind.wrap IntKind.u8 r1.fst) :: ([]:(List Int)):(List Int)))] [[(AC.d (D.r RK.u8 r1.snd.b)),(AC.d (D.i IntKind.i64 r1.snd.p))]]))))) else ((true=true)∧((((Bytes r.b)∧(((List.length r.b)≤(2000:Nat))∧(((0:Int)≤r.p)∧(r.p≤(1000000000:Int)))))∧((((List.length b):Nat):Int)≤(1000000000:Int)))∧(∀ r1:(Prod Int RdS),((r1.snd=(RdS.mk r.b (r.p + (1:Int))))∧(((0:Int)≤r1.fst)∧((((1:Int)≤(((List.length b):Nat):Int))→(r1.fst < (((List.length b):Nat):Int)))∧(((((List.length b):Nat):Int) < (1:Int))→(r1.fst=(0:Int))))))→(true=true)∧((true=true)∧((((Bytes r1.snd.b)∧(((List.length r1.snd.b)≤(2000:Nat))∧(((0:Int)≤r1.snd.p)∧(r1.snd.p≤(1000000000:Int)))))∧((3:Int)≤(1000000000:Int)))∧(∀ r2:(Prod Int RdS),((r2.snd=(RdS.mk r1.snd.b (r1.snd.p + (1:Int))))∧(((0:Int)≤r2.fst)∧((((1:Int)≤(3:Int))→(r2.fst < (3:Int)))∧(((3:Int) < (1:Int))→(r2.fst=(0:Int))))))→(true=true)∧(if ((r2.fst == (0:Int))=true) then ((((0:Int)≤(0:Int))∧(((0:Int)≤r1.fst)∧(r1.fst≤(((List.length b):Nat):Int))))∧((((0:Int)≤(IntKind.wrap IntKind.i64 (r1.fst + (1:Int))))∧(((IntKind.wrap IntKind.i64 (r1.fst + (1:Int)))≤(((List.length b):Nat):Int))∧((((List.length b):Nat):Int)≤(((List.length b):Nat):Int))))∧((true=true)∧((((0:Nat) + (List.length (List.take ((Int.toNat r1.fst) - (0:Nat)) (List.drop (0:Nat) b))))≤(137438953472:Nat))∧((true=true)∧((((List.length (([]:(List Int)) ++ (List.take ((Int.toNat r1.fst) - (0:Nat)) (List.drop (0:Nat) b)):(List Int))) + (List.length (List.take ((Int.toNat (((List.length b):Nat):Int)) - (Int.toNat (IntKind.wrap IntKind.i64 (r1.fst + (1:Int))))) (List.drop (Int.toNat (IntKind.wrap IntKind.i64 (r1.fst + (1:Int)))) b))))≤(137438953472:Nat))∧((true=true)∧((true=true)∧(K [(aR RK.u8 ((([]:(List Int)) ++ (List.take ((Int.toNat r1.fst) - (0:Nat)) (List.drop (0:Nat) b)):(List Int)) ++ (List.take ((Int.toNat (((List.length b):Nat):Int)) - (Int.toNat (IntKind.wrap IntKind.i64 (r1.fst + (1:Int))))) (List.drop (Int.toNat (IntKind.wrap IntKind.i64 (r1.fst + (1:Int)))) b)):(List Int)))] [[(AC.d (D.r RK.u8 r2.snd.b)),(AC.d (D.i IntKind.i64 r2.snd.p))]]))))))))) else (if ((r2.fst == (1:Int))=true) then ((((0:Int)≤(0:Int))∧(((0:Int)≤r1.fst)∧(r1.fst≤(((List.length b):Nat):Int))))∧((((0:Int)≤r1.fst)∧((r1.fst≤(((List.length b):Nat):Int))∧((((List.length b):Nat):Int)≤(((List.length b):Nat):Int))))∧((true=true)∧((((0:Nat) + (List.length (List.take ((Int.toNat r1.fst) - (0:Nat)) (List.drop (0:Nat) b))))≤(137438953472:Nat))∧((true=true)∧((true=true)∧((((Bytes r2.snd.b)∧(((List.length r2.snd.b)≤(2000:Nat))∧(((0:Int)≤r2.snd.p)∧(r2.snd.p≤(1000000000:Int)))))∧((9:Int)≤(1000000000:Int)))∧(∀ r3:(Prod Int RdS),((r3.snd=(RdS.mk r2.snd.b (r2.snd.p + (1:Int))))∧(((0:Int)≤r3.fst)∧((((1:Int)≤(9:Int))→(r3.fst < (9:Int)))∧(((9:Int) < (1:Int))→(r3.fst=(0:Int))))))→(true=true)∧((true=true)∧((((List.length (([]:(List Int)) ++ (List.take ((Int.toNat r1.fst) - (0:Nat)) (List.drop (0:Nat) b)):(List Int))) + (List.length ((IntKind.wrap IntKind.u8 r3.fst) :: ([]:(List Int)):(List Int))))≤(137438953472:Nat))∧((true=true)∧((((List.length ((([]:(List Int)) ++ (List.take ((Int.toNat r1.fst) - (0:Nat)) (List.drop (0:Nat) b)):(List Int)) ++ ((IntKind.wrap IntKind.u8 r3.fst) :: ([]:(List Int)):(List Int)):(List Int))) + (List.length (List.take ((Int.toNat (((List.length b):Nat):Int)) - (Int.toNat r1.fst)) (List.drop (Int.toNat r1.fst) b))))≤(137438953472:Nat))∧((true=true)∧((true=true)∧(K [(aR RK.u8 (((([]:(List Int)) ++ (List.take ((Int.toNat r1.fst) - (0:Nat)) (List.drop (0:Nat) b)):(List Int)) ++ ((IntKind.wrap IntKind.u8 r3.fst) :: ([]:(List Int)):(List Int)):(List Int)) ++ (List.take ((Int.toNat (((List.length b):Nat):Int)) - (Int.toNat r1.fst)) (List.drop (Int.toNat r1.fst) b)):(List Int)))] [[(AC.d (D.r RK.u8 r3.snd.b)),(AC.d (D.i IntKind.i64 r3.snd.p))]]))))))))))))))) else ((((0:Nat) + (List.length b))≤(137438953472:Nat))∧((((0:Int)≤r1.fst)∧(r1.fst < (((List.length (([]:(List Int)) ++ b:(List Int))):Nat):Int)))∧((true=true)∧((((Bytes r2.snd.b)∧(((List.length r2.snd.b)≤(2000:Nat))∧(((0:Int)≤r2.snd.p)∧(r2.snd.p≤(1000000000:Int)))))∧((255:Int)≤(1000000000:Int)))∧(∀ r3:(Prod Int RdS),((r3.snd=(RdS.mk r2.snd.b (r2.snd.p + (1:Int))))∧(((0:Int)≤r3.fst)∧((((1:Int)≤(255:Int))→(r3.fst < (255:Int)))∧(((255:Int) < (1:Int))→(r3.fst=(0:Int))))))→(true=true)∧((true=true)∧((((0:Int)≤r1.fst)∧(r1.fst < (((List.length (([]:(List Int)) ++ b:(List Int))):Nat):Int)))∧((true=true)∧((true=true)∧(K [(aR RK.u8 (List.set (([]:(List Int)) ++ b:(List Int)) (Int.toNat r1.fst) (bits BinOp.xor IntKind.u8 (at_u8 (([]:(List Int)) ++ b:(List Int)) (Int.toNat r1.fst)) (IntKind.wrap IntKind.u8 (IntKind.wrap IntKind.i64 ((1:Int) + r3.fst))))))] [[(AC.d (D.r RK.u8 r3.snd.b)),(AC.d (D.i IntKind.i64 r3.snd.p))]])))))))))))))))))) := by
  repeat' first
    | exact rfl
    | exact True.intro
    | with_reducible apply And.intro
    | (with_reducible intro r hr; subst hr)
    | with_reducible intro r
    | (refine iteI (fun h => ?_) (fun h => ?_))
  all_goals try simp (disch := omega) only [wr] at *
  all_goals first
    | assumption
    | (refine hk _ ⟨_, _⟩ ⟨?_, ?_, ?_⟩
       · exact Bytes.setx (l := b) hp.2.1 _ _
       · show (List.set (α := Int) b _ _).length ≤ 1001
         rw [List.length_set]
         omega
       · grind [RdOk, RdOn])
    | (simp only [List.length_take, List.length_drop, List.length_append, List.length_cons, List.length_nil]; omega)
    | omega
    | exact hk _ ⟨_, _⟩ (by (try dsimp only); grind [RdOk, RdOn, Bytes.cons, Bytes.nil, Bytes.take, Bytes.append, Bytes.drop, Bytes.setx, Bytes.wr1])
    | grind [RdOk, RdOn, Bytes.cons, Bytes.nil, Bytes.take, Bytes.append, Bytes.drop, Bytes.setx, Bytes.wr1]
    | exact hk _ ⟨_, _⟩ (by (try dsimp only); refine ⟨?_, ?_, ?_⟩; all_goals first | (grind [RdOk, RdOn, Bytes.cons, Bytes.nil, Bytes.take, Bytes.append, Bytes.drop, Bytes.setx, Bytes.wr1]; done) | (simp; done) | (simp; omega))
theorem w_spec_l20Turn : Valid Try.prog 37 c_spec_l20Turn :=
  valid_ctr2 (V := V_spec_l20Turn) (tysB_ok tys_ok) ⟨(CallsL.cons w_spec_l20Rd_pick (CallsL.nil _)), (IosL.nil _)⟩ mixed 3 0 Try.func37 rfl (by kernel_rfl)
    (fun c hc => by
      obtain rfl := Option.some.inj hc
      exact ⟨trivial, ⟨⟨trivial, ⟨⟨trivial, trivial⟩, trivial⟩⟩, ⟨trivial, ⟨⟨trivial, ⟨trivial, ⟨⟨trivial, trivial⟩, ⟨trivial, ⟨⟨trivial, trivial⟩, trivial⟩⟩⟩⟩⟩, ⟨trivial, ⟨trivial, ⟨trivial, trivial⟩⟩⟩⟩⟩⟩⟩)
    (fun x K hp hk => ⟨_, by kernel_rfl, vF_spec_l20Turn x.1 x.2 K hp (fun l q h => hk (l, q) h)⟩)
theorem vF_spec_DrawCrcPut (l:List Int) (K:List Arg→List (List AC)→Prop) (hp:Bytes l) (hk:∀ (o:List Int),(Bytes o∧o.length≤20)→K ([rBytes.to o]) ([])):(true=true)∧((Bytes l)∧(∀ r:RdS,(r=(RdS.mk (List.take (2000:Nat) l) (0:Int)))→(true=true)∧((true=true)∧((((Bytes r.b)∧(((List.length r.b)≤(2000:Nat))∧(((0:Int)≤r.p)∧(r.p≤(100000000:Int)))))∧(((0:Int)≤(20:Int))∧((20:Int)≤(900:Int))))∧(∀ r1:(Prod (List Int) RdS),((Bytes r1.fst)∧(((((List.length r1.fst):Nat):Int)≤(20:Int))∧(RdOn r r1.snd ((1:Int) + ((3:Int) * (20:Int))))))→(true=true)∧((true=true)∧(K [(aR RK.u8 r1.fst)] []))))))) := by
  repeat' first
    | exact rfl
    | exact True.intro
    | with_reducible apply And.intro
    | (with_reducible intro r hr; subst hr)
    | with_reducible intro r
    | (refine iteI (fun h => ?_) (fun h => ?_))
  all_goals try simp (disch := omega) only [wr] at *
  all_goals first
    | assumption
    | omega
    | exact hk _ (by (try dsimp only); grind [RdOk, RdOn, Bytes.cons, Bytes.nil, Bytes.take])
    | grind [RdOk, RdOn, Bytes.cons, Bytes.nil, Bytes.take]
    | exact hk _ (by (try dsimp only); refine ⟨?_, ?_, ?_⟩; all_goals first | (grind [RdOk, RdOn, Bytes.cons, Bytes.nil, Bytes.take]; done) | (simp; done) | (simp; omega))
theorem w_spec_DrawCrcPut : Valid Try.prog 8 c_spec_DrawCrcPut :=
  valid_ctr2 (V := V_spec_DrawCrcPut) (tysB_ok tys_ok) ⟨(CallsL.cons w_spec_l20Bytes (CallsL.cons w_spec_l20Open (CallsL.nil _))), (IosL.nil _)⟩ mixed 0 1 Try.func8 rfl (by kernel_rfl)
    (fun c hc => by
      obtain rfl := Option.some.inj hc
      exact ⟨trivial, ⟨trivial, trivial⟩⟩)
    (fun x K hp hk => ⟨_, by kernel_rfl, vF_spec_DrawCrcPut x K hp (fun o h => hk o h)⟩)
theorem vF_spec_DrawCrcCut (l:List Int) (K:List Arg→List (List AC)→Prop) (hp:Bytes l) (hk:∀ (o:List Int),(Bytes o∧o.length≤1001)→K ([rBytes.to o]) ([])):(true=true)∧((Bytes l)∧(∀ r:RdS,(r=(RdS.mk (List.take (2000:Nat) l) (0:Int)))→(true=true)∧((true=true)∧((((Bytes r.b)∧(((List.length r.b)≤(2000:Nat))∧(((0:Int)≤r.p)∧(r.p≤(100000000:Int)))))∧(((0:Int)≤(16:Int))∧((16:Int)≤(900:Int))))∧(∀ r1:(Prod (List Int) RdS),((Bytes r1.fst)∧(((((List.length r1.fst):Nat):Int)≤(16:Int))∧(RdOn r r1.snd ((1:Int) + ((3:Int) * (16:Int))))))→(true=true)∧((true=true)∧(((Bytes r1.fst)∧((List.length r1.fst)≤(1000000000:Nat)))∧(∀ r2:(List Int),(r2=(crcPut r1.fst))→(true=true)∧((true=true)∧((((Bytes r1.snd.b)∧(((List.length r1.snd.b)≤(2000:Nat))∧(((0:Int)≤r1.snd.p)∧(r1.snd.p≤(1000000000:Int)))))∧((3:Int)≤(1000000000:Int)))∧(∀ r3:(Prod Int RdS),((r3.snd=(RdS.mk r1.snd.b (r1.snd.p + (1:Int))))∧(((0:Int)≤r3.fst)∧((((1:Int)≤(3:Int))→(r3.fst < (3:Int)))∧(((3:Int) < (1:Int))→(r3.fst=(0:Int))))))→(true=true)∧(if ((r3.fst == (0:Int))=true) then ((true=true)∧((((Bytes r3.snd.b)∧(((List.length r3.snd.b)≤(2000:Nat))∧(((0:Int)≤r3.snd.p)∧(r3.snd.p≤(80000000:Int)))))∧((Bytes r2)∧((List.length r2)≤(1000:Nat))))∧(∀ r4:(Prod (List Int) RdS),((Bytes r4.fst)∧(((List.length r4.fst)≤(1001:Nat))∧(RdOn r3.snd r4.snd (5:Int))))→(true=true)∧((true=true)∧(K [(aR RK.u8 r4.fst)] []))))) else ((true=true)∧(K [(aR RK.u8 r2)] [])))))))))))))) := by
  repeat' first
    | exact rfl
    | exact True.intro
    | with_reducible apply And.intro
    | (with_reducible intro r hr; subst hr)
    | with_reducible intro r
    | (refine iteI (fun h => ?_) (fun h => ?_))
  all_goals try simp (disch := omega) only [wr] at *
  all_goals first
    | assumption
    | omega
    | exact hk _ (by (try dsimp only); grind [RdOk, RdOn, Bytes.cons, Bytes.nil, Bytes.take, crcPut_bytes, crcPut_len])
    | grind [RdOk, RdOn, Bytes.cons, Bytes.nil, Bytes.take, crcPut_bytes, crcPut_len]
    | exact hk _ (by (try dsimp only); refine ⟨?_, ?_, ?_⟩; all_goals first | (grind [RdOk, RdOn, Bytes.cons, Bytes.nil, Bytes.take, crcPut_bytes, crcPut_len]; done) | (simp; done) | (simp; omega))
theorem w_spec_DrawCrcCut : Valid Try.prog 9 c_spec_DrawCrcCut :=
  valid_ctr2 (V := V_spec_DrawCrcCut) (tysB_ok tys_ok) ⟨(CallsL.cons w_spec_CrcPut (CallsL.cons w_spec_l20Bytes (CallsL.cons w_spec_l20Open (CallsL.cons w_spec_l20Rd_pick (CallsL.cons w_spec_l20Turn (CallsL.nil _)))))), (IosL.nil _)⟩ mixed 0 1 Try.func9 rfl (by kernel_rfl)
    (fun c hc => by
      obtain rfl := Option.some.inj hc
      exact ⟨trivial, ⟨trivial, ⟨trivial, ⟨⟨trivial, ⟨⟨trivial, trivial⟩, trivial⟩⟩, ⟨trivial, trivial⟩⟩⟩⟩⟩)
    (fun x K hp hk => ⟨_, by kernel_rfl, vF_spec_DrawCrcCut x K hp (fun o h => hk o h)⟩)
theorem vF_spec_DrawFrmBytes (l:List Int) (K:List Arg→List (List AC)→Prop) (hp:Bytes l) (hk:∀ (f:Frm),(Bytes f.data∧f.data.length≤200)→K ([rFrm.to f]) ([])):(true=true)∧((Bytes l)∧(∀ r:RdS,(r=(RdS.mk (List.take (2000:Nat) l) (0:Int)))→(true=true)∧((true=true)∧((((Bytes r.b)∧(((List.length r.b)≤(2000:Nat))∧(((0:Int)≤r.p)∧(r.p≤(44000000:Int)))))∧((6:Int)≤(1000:Int)))∧(∀ r1:(Prod Frm RdS),((Bytes r1.fst.data)∧(((List.length r1.fst.data)≤(200:Nat))∧(RdOn r r1.snd (100:Int))))→(true=true)∧((true=true)∧(K [(Arg.v true [(AC.d (D.i IntKind.i64 r1.fst.kind)),(AC.d (D.i IntKind.i64 r1.fst.seq)),(AC.d (D.i IntKind.i64 r1.fst.ack)),(AC.d (D.b r1.fst.poll)),(AC.d (D.b r1.fst.final)),(AC.d (D.i IntKind.i64 r1.fst.say)),(AC.d (D.i IntKind.i64 r1.fst.seg)),(AC.d (D.i IntKind.i64 r1.fst.len)),(AC.d (D.r RK.u8 r1.fst.data))])] []))))))) := by
  repeat' first
    | exact rfl
    | exact True.intro
    | with_reducible apply And.intro
    | (with_reducible intro r hr; subst hr)
    | with_reducible intro r
    | (refine iteI (fun h => ?_) (fun h => ?_))
  all_goals try simp (disch := omega) only [wr] at *
  all_goals first
    | assumption
    | omega
    | exact hk (Prod.fst _) (by (try dsimp only); grind [RdOk, RdOn, Bytes.cons, Bytes.nil, Bytes.take])
    | grind [RdOk, RdOn, Bytes.cons, Bytes.nil, Bytes.take]
    | exact hk (Prod.fst _) (by (try dsimp only); refine ⟨?_, ?_, ?_⟩; all_goals first | (grind [RdOk, RdOn, Bytes.cons, Bytes.nil, Bytes.take]; done) | (simp; done) | (simp; omega))
theorem w_spec_DrawFrmBytes : Valid Try.prog 28 c_spec_DrawFrmBytes :=
  valid_ctr2 (V := V_spec_DrawFrmBytes) (tysB_ok tys_ok) ⟨(CallsL.cons w_spec_l20Open (CallsL.cons w_spec_l20Frame (CallsL.nil _))), (IosL.nil _)⟩ mixed 0 2 Try.func28 rfl (by kernel_rfl)
    (fun c hc => by
      obtain rfl := Option.some.inj hc
      exact ⟨trivial, ⟨trivial, trivial⟩⟩)
    (fun x K hp hk => ⟨_, by kernel_rfl, vF_spec_DrawFrmBytes x K hp (fun f h => hk f h)⟩)
end Go.Proofs.YtkkokenpehoffaaE
