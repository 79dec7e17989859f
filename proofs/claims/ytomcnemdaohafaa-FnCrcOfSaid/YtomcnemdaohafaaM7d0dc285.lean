/- A part of the proof of laws of the program: what calls of the program answer. Conditions: none. -/
import Derived.Test.YtomcnemdaohafaaM005464bf
set_option linter.unusedVariables false
set_option linter.unusedSimpArgs false
set_option linter.unusedSectionVars false
/- Contracts: P. Conditions: none. -/
set_option linter.unusedVariables false
set_option maxHeartbeats 1600000
namespace Go.Proofs.YtomcnemdaohafaaE
open Go
theorem crc0_lt {l : List Int} (h : Bytes l) : crc 0 l < 65536 := crc_lt h (by decide)
theorem crcPut_len (l : List Int) : (crcPut l).length = l.length + 2 := by simp [crcPut]
theorem crcPut_bytes {l : List Int} (h : Bytes l) : Bytes (crcPut l) := by
  have := crc0_lt h
  refine h.append (.cons ?_ ?_ (.cons ?_ ?_ .nil)) <;> omega
theorem split2 (l : List Int) (h : 2 ≤ l.length) : l = l.take (l.length - 2) ++ [rd l (l.length - 2), rd l (l.length - 1)] := by
  have e : l.drop (l.length - 2) = [rd l (l.length - 2), rd l (l.length - 1)] := by
    have h1 : l.length - 2 < l.length := by omega
    rw [List.drop_eq_getElem_cons h1, show l.length - 2 + 1 = l.length - 1 by omega, List.drop_eq_getElem_cons (by omega), List.drop_of_length_le (by omega)]
    unfold rd
    rw [show ((l.length : Int) - 2).toNat = l.length - 2 by omega, show ((l.length : Int) - 1).toNat = l.length - 1 by omega]
    rw [List.getD_eq_getElem?_getD, List.getD_eq_getElem?_getD, List.getElem?_eq_getElem h1, List.getElem?_eq_getElem (by omega)]
    rfl
  rw [← e, List.take_append_drop]
theorem cut_put {l : List Int} (hl : Bytes l) (h : 2 ≤ l.length) : crcPut (l.take (l.length - 2)) = l ↔ CutP l := by
  have hs := split2 l h
  have hc := crc0_lt (hl.take (l.length - 2))
  obtain ⟨a1, a2⟩ := hl.at_ ((l.length : Int) - 2)
  obtain ⟨b1, b2⟩ := hl.at_ ((l.length : Int) - 1)
  unfold CutP crcPut
  constructor
  · intro e
    refine ⟨h, ?_⟩
    have e2 : l.take (l.length - 2) ++ [((crc 0 (l.take (l.length - 2)) % 256 : Nat) : Int), ((crc 0 (l.take (l.length - 2)) / 256 : Nat) : Int)] = l.take (l.length - 2) ++ [rd l (l.length - 2), rd l (l.length - 1)] := e.trans hs
    have e3 := List.append_cancel_left e2
    simp only [List.cons.injEq, and_true] at e3
    omega
  · intro e
    refine Eq.trans ?_ hs.symm
    congr 1
    have e1 := e.2
    congr 1
    · omega
    · congr 1; omega
structure CutR where
  l : List Int
  ok : Bool
def crcCut2 (l : List Int) : CutR := ⟨crcCut l, decide (CutP l)⟩
theorem crcCut_bytes {l : List Int} (h : Bytes l) : Bytes (crcCut l) := by unfold crcCut; split; exact h.take _; exact .nil
theorem crcCut_len (l : List Int) : (crcCut l).length ≤ l.length := by unfold crcCut; split; rw [List.length_take]; omega; simp
theorem shr8 (c : Nat) (h : c < 65536) : Int.fdiv (c : Int) (2 ^ (min (8 : Int).toNat 64)) = ((c / 256 : Nat) : Int) := by
  rw [Int.fdiv_eq_ediv_of_nonneg _ (by decide)]
  rw [show (min (8 : Int).toNat 64) = 8 by decide]
  omega

/-! impl.CrcPut -/
def c_impl_CrcPut : Ent := ctr (α := (List Int)) (ρ := (List Int)) [] [(0, 0)] (rs1 rBytes) (fun x_ => (fun (l : List Int) => (Bytes l ∧ l.length ≤ 1000000000)) x_) (fun x_ r_ => (fun x_ => (fun (l : List Int) => ((fun r_ => (fun (r : List Int) => (r = crcPut l)) r_))) x_) x_ r_) (fun r_ => (fun (r : List Int) => ([(rO 5 .u8).to r])) r_) (fun r_ => (fun (r : List Int) => ([])) r_)
def V_impl_CrcPut : Env := ⟨tys, [(6, c_impl_CrcOf), (22, c_impl_clone_byte)], [(7, [0]), (15, [1])], [], [], [], [], [], []⟩
/-! impl.CrcCut -/
def c_impl_CrcCut : Ent := ctr (α := (List Int)) (ρ := (CutR)) [] [] (rs1 rBytes) (fun x_ => (fun (l : List Int) => (Bytes l ∧ l.length ≤ 1000000000)) x_) (fun x_ r_ => (fun x_ => (fun (l : List Int) => ((fun r_ => (fun (q : CutR) => (q = crcCut2 l)) r_))) x_) x_ r_) (fun r_ => (fun (q : CutR) => ([rBytes.to q.l, rB.to q.ok])) r_) (fun r_ => (fun (q : CutR) => ([])) r_)
def V_impl_CrcCut : Env := ⟨tys, [(9, c_impl_CrcPut), (22, c_impl_clone_byte), (24, c_slices_Equal_byte_byte)], [], [], [], [], [500010], [], []⟩
/-! spec.CrcCut -/
def c_spec_CrcCut : Ent := ctr (α := (List Int)) (ρ := (CutR)) [] [] (rs1 rBytes) (fun x_ => (fun (l : List Int) => (Bytes l ∧ l.length ≤ 1000000000)) x_) (fun x_ r_ => (fun x_ => (fun (l : List Int) => ((fun r_ => (fun (q : CutR) => (q = crcCut2 l)) r_))) x_) x_ r_) (fun r_ => (fun (q : CutR) => ([rBytes.to q.l, rB.to q.ok])) r_) (fun r_ => (fun (q : CutR) => ([])) r_)
def V_spec_CrcCut : Env := ⟨tys, [(7, c_spec_CrcOf)], [(31, [0])], [], [], [], [500010], [], [(2, [(0, false), (1, false), (2, false), (3, false), (4, false), (5, false), (7, false), (8, false), (9, false), (10, false), (11, false), (12, false), (13, false), (14, false), (15, false), (16, false), (17, false), (18, false), (19, false), (6, true), (20, false), (21, false)])]⟩
theorem xor8_lt {a b : Int} (ha : 0 ≤ a ∧ a ≤ 255) (hb : 0 ≤ b ∧ b ≤ 255) : 0 ≤ Go.bits .xor .u8 a b ∧ Go.bits .xor .u8 a b ≤ 255 := by
  obtain ⟨a, rfl⟩ : ∃ n : Nat, a = n := ⟨a.toNat, by omega⟩
  obtain ⟨b, rfl⟩ : ∃ n : Nat, b = n := ⟨b.toNat, by omega⟩
  have h := Nat.xor_lt_two_pow (show a < 2 ^ 8 by omega) (show b < 2 ^ 8 by omega)
  rw [xor8 _ _ (by omega) (by omega)]
  omega
theorem wr8_lt (x : Int) : 0 ≤ IntKind.wrap .u8 x ∧ IntKind.wrap .u8 x ≤ 255 := by rw [wr8m]; omega
theorem Bytes.at8 {l : List Int} (h : Bytes l) (i : Nat) : 0 ≤ at_u8 l i ∧ at_u8 l i ≤ 255 := h.at_ (i : Int)
theorem Bytes.setx {l : List Int} (h : Bytes l) (n : Nat) (x : Int) : Bytes (l.set n (Go.bits .xor .u8 (at_u8 l n) (IntKind.wrap .u8 x))) := h.set n (xor8_lt (h.at8 n) (wr8_lt x)).1 (xor8_lt (h.at8 n) (wr8_lt x)).2
theorem Bytes.wr1 (x : Int) : Bytes [IntKind.wrap .u8 x] := .cons (wr8_lt x).1 (wr8_lt x).2 .nil

/-! spec.DrawCrcOf -/
def c_spec_DrawCrcOf : Ent := ctr (α := (List Int)) (ρ := (List Int)) [] [] (rs1 rBytes) (fun x_ => (fun (l : List Int) => (Bytes l)) x_) (fun x_ r_ => (fun x_ => (fun (l : List Int) => ((fun r_ => (fun (o : List Int) => (Bytes o ∧ o.length ≤ 20)) r_))) x_) x_ r_) (fun r_ => (fun (o : List Int) => ([rBytes.to o])) r_) (fun r_ => (fun (o : List Int) => ([])) r_)
def V_spec_DrawCrcOf : Env := ⟨tys, [(17, c_spec_l20Bytes), (18, c_spec_l20Open)], [], [(4, 0)], [], [], [], [], []⟩
end Go.Proofs.YtomcnemdaohafaaE

/- Calls answer what is promised: P. Conditions: none. -/
set_option linter.unusedVariables false
set_option maxHeartbeats 1600000
namespace Go.Proofs.YtomcnemdaohafaaE
open Go
theorem vF_impl_CrcPut (l:List Int) (K:List Arg→List (List AC)→Prop) (hp:Bytes l∧l.length≤1000000000) (hk:∀ (r:List Int),(r=crcPut l)→K ([(rO 5 .u8).to r]) ([])):(true=true)∧(((Bytes l)∧((List.length l)≤(137438953472:Nat)))∧(∀ r:Int,(r=(((crc (0:Nat) l):Nat):Int))→(true=true)∧((true=true)∧(((List.length l)≤(137438953472:Nat))∧(∀ r1:(List Int),(r1=l)→(true=true)∧(((0:Int)≤(8:Int))∧((((List.length r1) + (List.length ((IntKind.wrap IntKind.u8 r) :: ((IntKind.wrap IntKind.u8 (Int.fdiv r (256:Int))) :: ([]:(List Int)):(List Int)):(List Int))))≤(137438953472:Nat))∧((true=true)∧(((List.length (r1 ++ ((IntKind.wrap IntKind.u8 r) :: ((IntKind.wrap IntKind.u8 (Int.fdiv r (256:Int))) :: ([]:(List Int)):(List Int)):(List Int)):(List Int)))≤(137438953472:Nat))∧(∀ r2:(List Int),(r2=(r1 ++ ((IntKind.wrap IntKind.u8 r) :: ((IntKind.wrap IntKind.u8 (Int.fdiv r (256:Int))) :: ([]:(List Int)):(List Int)):(List Int)):(List Int)))→(true=true)∧((true=true)∧(K [(Arg.v false [(AC.own (RC.mk (5:Nat) RK.u8 r2 (RM.mk (dpM false (Option.none)) false (0:Nat) false)))])] [])))))))))))) := by
  have hL : LIM = 137438953472 := rfl
  have hc := crc0_lt hp.1
  refine ⟨by trivial, ⟨hp.1, by omega⟩, fun r hr => ⟨by trivial, by trivial, by omega, fun r1 hr1 => ⟨by trivial, by omega, ?_⟩⟩⟩
  subst hr
  subst hr1
  have e1 : IntKind.wrap .u8 ((crc 0 r1 : Nat) : Int) = ((crc 0 r1 % 256 : Nat) : Int) := by rw [wr8m]; omega
  have e2 : IntKind.wrap .u8 (Int.fdiv ((crc 0 r1 : Nat) : Int) 256) = ((crc 0 r1 / 256 : Nat) : Int) := by rw [Int.fdiv_eq_ediv_of_nonneg _ (by decide), wr8m]; omega
  rw [e1, e2]
  refine ⟨by simp; omega, by trivial, by simp; omega, fun r2 hr2 => ⟨by trivial, by trivial, ?_⟩⟩
  exact hk r2 hr2
theorem w_impl_CrcPut : Valid Try.prog 9 c_impl_CrcPut :=
  valid_ctr2 (V := V_impl_CrcPut) (tysB_ok tys_ok) ⟨(CallsL.cons w_impl_CrcOf (CallsL.cons w_impl_clone_byte (CallsL.nil _))), (IosL.nil _)⟩ mixed 2 0 Try.func9 rfl (by kernel_rfl)
    (fun c hc => by
      obtain rfl := Option.some.inj hc
      exact ⟨trivial, ⟨trivial, ⟨trivial, trivial⟩⟩⟩)
    (fun x K hp hk => ⟨_, by kernel_rfl, vF_impl_CrcPut x K hp (fun r h => hk r h)⟩)
theorem vF_impl_CrcCut (l:List Int) (K:List Arg→List (List AC)→Prop) (hp:Bytes l∧l.length≤1000000000) (hk:∀ (q:CutR),(q=crcCut2 l)→K ([rBytes.to q.l,rB.to q.ok]) ([])):if ((decide ((IntKind.wrap IntKind.i64 ((((List.length l):Nat):Int) - (2:Int))) < (0:Int)))=true) then ((true=true)∧(K [(aR RK.u8 ([]:(List Int))),(aB false)] [])) else ((((0:Int)≤(0:Int))∧(((0:Int)≤(IntKind.wrap IntKind.i64 ((((List.length l):Nat):Int) - (2:Int))))∧((IntKind.wrap IntKind.i64 ((((List.length l):Nat):Int) - (2:Int)))≤(((List.length l):Nat):Int))))∧((true=true)∧(((Bytes (List.take ((Int.toNat (IntKind.wrap IntKind.i64 ((((List.length l):Nat):Int) - (2:Int)))) - (0:Nat)) (List.drop (0:Nat) l)))∧((List.length (List.take ((Int.toNat (IntKind.wrap IntKind.i64 ((((List.length l):Nat):Int) - (2:Int)))) - (0:Nat)) (List.drop (0:Nat) l)))≤(1000000000:Nat)))∧(∀ r:(List Int),(r=(crcPut (List.take ((Int.toNat (IntKind.wrap IntKind.i64 ((((List.length l):Nat):Int) - (2:Int)))) - (0:Nat)) (List.drop (0:Nat) l))))→(true=true)∧((true=true)∧(((List.length r)≤(137438953472:Nat))∧(∀ r1:Bool,(r1=(decide (r=l)))→(true=true)∧(if ((!r1)=true) then ((true=true)∧(K [(aR RK.u8 ([]:(List Int))),(aB false)] [])) else ((((0:Int)≤(0:Int))∧(((0:Int)≤(IntKind.wrap IntKind.i64 ((((List.length l):Nat):Int) - (2:Int))))∧((IntKind.wrap IntKind.i64 ((((List.length l):Nat):Int) - (2:Int)))≤(((List.length l):Nat):Int))))∧((true=true)∧(((List.length (List.take ((Int.toNat (IntKind.wrap IntKind.i64 ((((List.length l):Nat):Int) - (2:Int)))) - (0:Nat)) (List.drop (0:Nat) l)))≤(137438953472:Nat))∧(∀ r2:(List Int),(r2=(List.take ((Int.toNat (IntKind.wrap IntKind.i64 ((((List.length l):Nat):Int) - (2:Int)))) - (0:Nat)) (List.drop (0:Nat) l)))→(true=true)∧((true=true)∧(K [(aR RK.u8 r2),(aB true)] [])))))))))))))) := by
  have hL : LIM = 137438953472 := rfl
  have h9 := hp.2
  rw [wr (x := (l.length : Int) - 2) (by omega) (by omega)]
  refine iteI (fun h => ?_) (fun h => ?_)
  · have hn : ¬ CutP l := fun hc => by have := hc.1; simp at h; omega
    have h0 := hk _ rfl
    unfold crcCut2 crcCut at h0
    rw [if_neg hn, decide_eq_false hn] at h0
    first | exact ⟨by trivial, h0⟩ | exact ⟨by trivial, by trivial, h0⟩
  · have h2 : 2 ≤ l.length := by simp at h; omega
    have et : List.take (((l.length : Int) - 2).toNat - 0) (List.drop 0 l) = l.take (l.length - 2) := by
      rw [List.drop_zero, show ((l.length : Int) - 2).toNat - 0 = l.length - 2 by omega]
    rw [et]
    have hlt : (l.take (l.length - 2)).length ≤ l.length := by rw [List.length_take]; omega
    refine ⟨⟨by omega, by omega, by omega⟩, by trivial, ⟨hp.1.take _, by omega⟩, fun r hr => ⟨by trivial, by trivial, by rw [hr, crcPut_len]; omega, fun r1 hr1 => ⟨by trivial, ?_⟩⟩⟩
    subst hr
    subst hr1
    have hci := cut_put hp.1 h2
    refine iteI (fun hx => ?_) (fun hx => ?_)
    · have hn : ¬ CutP l := fun hc => by simp [hci.2 hc] at hx
      have h0 := hk _ rfl
      unfold crcCut2 crcCut at h0
      rw [if_neg hn, decide_eq_false hn] at h0
      first | exact ⟨by trivial, h0⟩ | exact ⟨by trivial, by trivial, h0⟩
    · have hc : CutP l := hci.1 (by simpa using hx)
      refine ⟨⟨by omega, by omega, by omega⟩, by trivial, by omega, fun r2 hr2 => ⟨by trivial, by trivial, ?_⟩⟩
      subst hr2
      have h0 := hk _ rfl
      unfold crcCut2 crcCut at h0
      rw [if_pos hc, decide_eq_true hc] at h0
      exact h0
theorem w_impl_CrcCut : Valid Try.prog 13 c_impl_CrcCut :=
  valid_ctr2 (V := V_impl_CrcCut) (tysB_ok tys_ok) ⟨(CallsL.cons w_impl_CrcPut (CallsL.cons w_impl_clone_byte (CallsL.cons w_slices_Equal_byte_byte (CallsL.nil _)))), (IosL.nil _)⟩ mixed 0 0 Try.func13 rfl (by kernel_rfl)
    (fun c hc => by
      obtain rfl := Option.some.inj hc
      exact ⟨trivial, ⟨trivial, ⟨⟨trivial, ⟨⟨trivial, trivial⟩, trivial⟩⟩, ⟨trivial, trivial⟩⟩⟩⟩)
    (fun x K hp hk => ⟨_, by kernel_rfl, vF_impl_CrcCut x K hp (fun q h => hk q h)⟩)
theorem vF_spec_CrcCut (l:List Int) (K:List Arg→List (List AC)→Prop) (hp:Bytes l∧l.length≤1000000000) (hk:∀ (q:CutR),(q=crcCut2 l)→K ([rBytes.to q.l,rB.to q.ok]) ([])):if ((decide ((IntKind.wrap IntKind.i64 ((((List.length l):Nat):Int) - (2:Int))) < (0:Int)))=true) then ((true=true)∧((true=true)∧(K [(aR RK.u8 ([]:(List Int))),(aB false)] []))) else ((((0:Int)≤(0:Int))∧(((0:Int)≤(IntKind.wrap IntKind.i64 ((((List.length l):Nat):Int) - (2:Int))))∧((IntKind.wrap IntKind.i64 ((((List.length l):Nat):Int) - (2:Int)))≤(((List.length l):Nat):Int))))∧((((0:Int)≤(IntKind.wrap IntKind.i64 ((((List.length l):Nat):Int) - (2:Int))))∧((IntKind.wrap IntKind.i64 ((((List.length l):Nat):Int) - (2:Int))) < (((List.length l):Nat):Int)))∧((((0:Int)≤(IntKind.wrap IntKind.i64 ((IntKind.wrap IntKind.i64 ((((List.length l):Nat):Int) - (2:Int))) + (1:Int))))∧((IntKind.wrap IntKind.i64 ((IntKind.wrap IntKind.i64 ((((List.length l):Nat):Int) - (2:Int))) + (1:Int))) < (((List.length l):Nat):Int)))∧((true=true)∧(((Bytes (List.take ((Int.toNat (IntKind.wrap IntKind.i64 ((((List.length l):Nat):Int) - (2:Int)))) - (0:Nat)) (List.drop (0:Nat) l)))∧((List.length (List.take ((Int.toNat (IntKind.wrap IntKind.i64 ((((List.length l):Nat):Int) - (2:Int)))) - (0:Nat)) (List.drop (0:Nat) l)))≤(137438953472:Nat)))∧(∀ r:Int,(r=(((crc (0:Nat) (List.take ((Int.toNat (IntKind.wrap IntKind.i64 ((((List.length l):Nat):Int) - (2:Int)))) - (0:Nat)) (List.drop (0:Nat) l))):Nat):Int))→(true=true)∧((true=true)∧(if ((r != (IntKind.wrap IntKind.i64 ((IntKind.wrap IntKind.i64 (at_u8 l (Int.toNat (IntKind.wrap IntKind.i64 ((((List.length l):Nat):Int) - (2:Int)))))) + (IntKind.wrap IntKind.i64 ((IntKind.wrap IntKind.i64 (at_u8 l (Int.toNat (IntKind.wrap IntKind.i64 ((IntKind.wrap IntKind.i64 ((((List.length l):Nat):Int) - (2:Int))) + (1:Int)))))) * (256:Int))))))=true) then ((true=true)∧(K [(aR RK.u8 ([]:(List Int))),(aB false)] [])) else ((((0:Int)≤(0:Int))∧(((0:Int)≤(IntKind.wrap IntKind.i64 ((((List.length l):Nat):Int) - (2:Int))))∧((IntKind.wrap IntKind.i64 ((((List.length l):Nat):Int) - (2:Int)))≤(((List.length l):Nat):Int))))∧((((0:Nat) + (List.length (List.take ((Int.toNat (IntKind.wrap IntKind.i64 ((((List.length l):Nat):Int) - (2:Int)))) - (0:Nat)) (List.drop (0:Nat) l))))≤(137438953472:Nat))∧((true=true)∧(K [(aR RK.u8 (([]:(List Int)) ++ (List.take ((Int.toNat (IntKind.wrap IntKind.i64 ((((List.length l):Nat):Int) - (2:Int)))) - (0:Nat)) (List.drop (0:Nat) l)):(List Int))),(aB true)] [])))))))))))) := by
  have hL : LIM = 137438953472 := rfl
  have h9 := hp.2
  rw [wr (x := (l.length : Int) - 2) (by omega) (by omega)]
  refine iteI (fun h => ?_) (fun h => ?_)
  · have hn : ¬ CutP l := fun hc => by have := hc.1; simp at h; omega
    have h0 := hk _ rfl
    unfold crcCut2 crcCut at h0
    rw [if_neg hn, decide_eq_false hn] at h0
    first | exact ⟨by trivial, h0⟩ | exact ⟨by trivial, by trivial, h0⟩
  · have h2 : 2 ≤ l.length := by simp at h; omega
    have et : List.take (((l.length : Int) - 2).toNat - 0) (List.drop 0 l) = l.take (l.length - 2) := by
      rw [List.drop_zero, show ((l.length : Int) - 2).toNat - 0 = l.length - 2 by omega]
    rw [et]
    have hlt : (l.take (l.length - 2)).length ≤ l.length := by rw [List.length_take]; omega
    have ha : at_u8 l ((l.length : Int) - 2).toNat = rd l (l.length - 2) := rfl
    have hb : at_u8 l ((l.length : Int) - 1).toNat = rd l (l.length - 1) := rfl
    obtain ⟨a1, a2⟩ := hp.1.at_ ((l.length : Int) - 2)
    obtain ⟨b1, b2⟩ := hp.1.at_ ((l.length : Int) - 1)
    rw [wr (x := (l.length : Int) - 2 + 1) (by omega) (by omega), show (l.length : Int) - 2 + 1 = l.length - 1 by omega, ha, hb]
    rw [wr (x := rd l (l.length - 2)) (by omega) (by omega), wr (x := rd l (l.length - 1)) (by omega) (by omega), wr (x := rd l (l.length - 1) * 256) (by omega) (by omega), wr (by omega) (by omega)]
    refine ⟨⟨by omega, by omega, by omega⟩, ⟨by omega, by omega⟩, ⟨by omega, by omega⟩, by trivial, ⟨hp.1.take _, by omega⟩, fun r hr => ⟨by trivial, by trivial, ?_⟩⟩
    subst hr
    refine iteI (fun hx => ?_) (fun hx => ?_)
    · have hn : ¬ CutP l := fun hc => by simp [hc.2] at hx
      have h0 := hk _ rfl
      unfold crcCut2 crcCut at h0
      rw [if_neg hn, decide_eq_false hn] at h0
      first | exact ⟨by trivial, h0⟩ | exact ⟨by trivial, by trivial, h0⟩
    · have hc : CutP l := ⟨h2, by simpa using hx⟩
      have h0 := hk _ rfl
      unfold crcCut2 crcCut at h0
      rw [if_pos hc, decide_eq_true hc] at h0
      exact ⟨⟨by omega, by omega, by omega⟩, by omega, by trivial, h0⟩
theorem w_spec_CrcCut : Valid Try.prog 11 c_spec_CrcCut :=
  valid_ctr2 (V := V_spec_CrcCut) (tysB_ok tys_ok) ⟨(CallsL.cons w_spec_CrcOf (CallsL.nil _)), (IosL.nil _)⟩ mixed 1 0 Try.func11 rfl (by kernel_rfl)
    (fun c hc => by
      obtain rfl := Option.some.inj hc
      exact ⟨trivial, ⟨trivial, ⟨⟨trivial, ⟨⟨trivial, trivial⟩, trivial⟩⟩, ⟨trivial, trivial⟩⟩⟩⟩)
    (fun x K hp hk => ⟨_, by kernel_rfl, vF_spec_CrcCut x K hp (fun q h => hk q h)⟩)
theorem vF_spec_DrawCrcOf (l:List Int) (K:List Arg→List (List AC)→Prop) (hp:Bytes l) (hk:∀ (o:List Int),(Bytes o∧o.length≤20)→K ([rBytes.to o]) ([])):(true=true)∧((Bytes l)∧(∀ r:RdS,(r=(RdS.mk (List.take (2000:Nat) l) (0:Int)))→(true=true)∧((true=true)∧((((Bytes r.b)∧(((List.length r.b)≤(2000:Nat))∧(((0:Int)≤r.p)∧(r.p≤(100000000:Int)))))∧(((0:Int)≤(20:Int))∧((20:Int)≤(900:Int))))∧(∀ r1:(Prod (List Int) RdS),((Bytes r1.fst)∧(((((List.length r1.fst):Nat):Int)≤(20:Int))∧(RdOn r r1.snd ((1:Int) + ((3:Int) * (20:Int))))))→(true=true)∧((true=true)∧(K [(aR RK.u8 r1.fst)] []))))))) := by
  repeat' first
    | exact rfl
    | exact True.intro
    | with_reducible apply And.intro
    | (with_reducible intro r hr; subst hr)
    | with_reducible intro r
    | (refine iteI (fun h => ?_) (fun h => ?_))
  all_goals try simp (disch := omega) only [wr] at *
  all_goals first
    | assumption
    | omega
    | exact hk _ (by (try dsimp only); grind [RdOk, RdOn, Bytes.cons, Bytes.nil, Bytes.take])
    | grind [RdOk, RdOn, Bytes.cons, Bytes.nil, Bytes.take]
    | exact hk _ (by (try dsimp only); refine ⟨?_, ?_, ?_⟩; all_goals first | (grind [RdOk, RdOn, Bytes.cons, Bytes.nil, Bytes.take]; done) | (simp; done) | (simp; omega))
theorem w_spec_DrawCrcOf : Valid Try.prog 5 c_spec_DrawCrcOf :=
  valid_ctr2 (V := V_spec_DrawCrcOf) (tysB_ok tys_ok) ⟨(CallsL.cons w_spec_l20Bytes (CallsL.cons w_spec_l20Open (CallsL.nil _))), (IosL.nil _)⟩ mixed 0 1 Try.func5 rfl (by kernel_rfl)
    (fun c hc => by
      obtain rfl := Option.some.inj hc
      exact ⟨trivial, ⟨trivial, trivial⟩⟩)
    (fun x K hp hk => ⟨_, by kernel_rfl, vF_spec_DrawCrcOf x K hp (fun o h => hk o h)⟩)
end Go.Proofs.YtomcnemdaohafaaE
