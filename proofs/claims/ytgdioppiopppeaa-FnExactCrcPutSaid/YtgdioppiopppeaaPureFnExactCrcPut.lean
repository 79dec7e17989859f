/- CrcPut answers as the reference does, for every input, keeps its argument and shares no memory. Conditions: none. -/
import Derived.Test.YtgdioppiopppeaaPFnExactCrcPutx2
set_option linter.unusedVariables false
set_option linter.unusedSimpArgs false
namespace Go.Proofs.Ytgdioppiopppeaa.Pure
open Go.RowKit Go.Proofs.Ytgdioppiopppeaa.PFnExactCrcPut Go.Proofs.YtgdioppiopppeaaV.PrintWords Go.Proofs.YtgdioppiopppeaaV.PrintLast

/-! ### numbers -/
theorem w64 {x : Int} (h1 : -9223372036854775808 ≤ x) (h2 : x ≤ 9223372036854775807) : wrap64 x = x := by unfold wrap64; omega
theorem xor64 (a b : Nat) (ha : a < 2 ^ 62) (hb : b < 2 ^ 62) : Go.bits .xor .i64 (a : Int) (b : Int) = ((a ^^^ b : Nat) : Int) := by
  have h := Nat.xor_lt_two_pow ha hb
  simp only [Go.bits, BitVec.ofInt_natCast, BitVec.toNat_xor, BitVec.toNat_ofNat]
  rw [Nat.mod_eq_of_lt (Nat.lt_trans ha (by decide)), Nat.mod_eq_of_lt (Nat.lt_trans hb (by decide)), IntKind.wrap_i64]
  omega
theorem xor8 (a b : Nat) (ha : a < 2 ^ 8) (hb : b < 2 ^ 8) : Go.bits .xor .u8 (a : Int) (b : Int) = ((a ^^^ b : Nat) : Int) := by
  have h := Nat.xor_lt_two_pow ha hb
  simp only [Go.bits, BitVec.ofInt_natCast, BitVec.toNat_xor, BitVec.toNat_ofNat]
  rw [Nat.mod_eq_of_lt (Nat.lt_of_lt_of_le ha (by decide)), Nat.mod_eq_of_lt (Nat.lt_of_lt_of_le hb (by decide)), IntKind.wrap_u8]
  omega
theorem and1 (a : Nat) (ha : a < 2 ^ 62) : Go.bits .and .i64 (a : Int) 1 = ((a % 2 : Nat) : Int) := by
  have h1 : (1 : Int) = ((1 : Nat) : Int) := rfl
  simp only [Go.bits]
  rw [h1]
  simp only [BitVec.ofInt_natCast, BitVec.toNat_and, BitVec.toNat_ofNat]
  rw [Nat.mod_eq_of_lt (Nat.lt_trans ha (by decide)), Nat.mod_eq_of_lt (by decide : 1 < 2 ^ IntKind.i64.bits), Nat.and_one_is_mod, IntKind.wrap_i64]
  omega
def Bytes (l : List Int) : Prop := ∀ x ∈ l, 0 ≤ x ∧ x ≤ 255
theorem Bytes.nil : Bytes [] := fun x h => by simp at h
theorem Bytes.cons {a : Int} {l : List Int} (h1 : 0 ≤ a) (h2 : a ≤ 255) (h : Bytes l) : Bytes (a :: l) := fun x hx => by
  rcases List.mem_cons.1 hx with rfl | hx
  · exact ⟨h1, h2⟩
  · exact h x hx
theorem Bytes.append {l m : List Int} (h : Bytes l) (k : Bytes m) : Bytes (l ++ m) := fun x hx => by
  rcases List.mem_append.1 hx with hx | hx
  · exact h x hx
  · exact k x hx
theorem Bytes.snoc {a : Int} {l : List Int} (h1 : 0 ≤ a) (h2 : a ≤ 255) (h : Bytes l) : Bytes (l ++ [a]) := h.append (.cons h1 h2 .nil)
theorem Bytes.take {l : List Int} (h : Bytes l) (n : Nat) : Bytes (l.take n) := fun x hx => h x (List.mem_of_mem_take hx)
theorem Bytes.drop {l : List Int} (h : Bytes l) (n : Nat) : Bytes (l.drop n) := fun x hx => h x (List.mem_of_mem_drop hx)
theorem Bytes.set {l : List Int} (h : Bytes l) (n : Nat) {a : Int} (h1 : 0 ≤ a) (h2 : a ≤ 255) : Bytes (l.set n a) := fun x hx => by
  rcases List.mem_or_eq_of_mem_set hx with hx | rfl
  · exact h x hx
  · exact ⟨h1, h2⟩
theorem Bytes.at_ {l : List Int} (h : Bytes l) (i : Int) : 0 ≤ rd l i ∧ rd l i ≤ 255 := by
  unfold rd
  rw [List.getD_eq_getElem?_getD]
  by_cases hi : i.toNat < l.length
  · rw [List.getElem?_eq_getElem hi]
    exact h _ (List.getElem_mem hi)
  · rw [List.getElem?_eq_none (by omega)]
    exact ⟨by simp, by simp⟩
theorem Bytes.of_wf {l : List Int} (h : ∀ x ∈ l, (Lit.int .u8 x).wf = true) : Bytes l := fun x hx => by
  have := h x hx
  simp only [Lit.wf, IntKind.min, IntKind.max, IntKind.signed, IntKind.bits, Bool.and_eq_true, decide_eq_true_eq] at this
  simp at this
  omega

/-! ### sums: one bit, eight bits, a byte, bytes -/
def one (x : Nat) : Nat := if x % 2 = 1 then (x / 2) ^^^ 40961 else x / 2
def ones : Nat → Nat → Nat
  | 0, x => x
  | n + 1, x => ones n (one x)
def stp (s b : Nat) : Nat := ones 8 (s ^^^ b)
def crc (s : Nat) (l : List Int) : Nat := l.foldl (fun s b => stp s b.toNat) s
theorem div_xor (a b : Nat) : (a ^^^ b) / 2 = a / 2 ^^^ b / 2 := by
  have := Nat.shiftRight_xor_distrib (a := a) (b := b) (i := 1)
  simpa [Nat.shiftRight_eq_div_pow] using this
theorem mod_xor (a b : Nat) : (a ^^^ b) % 2 = (a % 2 + b % 2) % 2 := by
  have h := Nat.testBit_xor (x := a) (y := b) (i := 0)
  simp only [Nat.testBit_zero] at h
  rcases Nat.mod_two_eq_zero_or_one a with h1 | h1 <;> rcases Nat.mod_two_eq_zero_or_one b with h2 | h2 <;> rcases Nat.mod_two_eq_zero_or_one (a ^^^ b) with h3 | h3 <;> simp_all
theorem one_lt {x : Nat} (h : x < 2 ^ 16) : one x < 2 ^ 16 := by
  unfold one
  split
  · exact Nat.xor_lt_two_pow (by omega) (by decide)
  · omega
theorem ones_lt (n : Nat) : ∀ {x : Nat}, x < 2 ^ 16 → ones n x < 2 ^ 16 := by
  induction n with
  | zero => exact fun h => h
  | succ n ih => exact fun h => ih (one_lt h)
theorem stp_lt {s b : Nat} (h : s < 2 ^ 16) (hb : b < 2 ^ 16) : stp s b < 2 ^ 16 := ones_lt 8 (Nat.xor_lt_two_pow h hb)
theorem one_xor (x y : Nat) : one (x ^^^ y) = one x ^^^ one y := by
  unfold one
  rw [mod_xor, div_xor]
  rcases Nat.mod_two_eq_zero_or_one x with hx | hx <;> rcases Nat.mod_two_eq_zero_or_one y with hy | hy <;> rw [hx, hy]
  · simp
  · simp [Nat.xor_assoc]
  · simp only [show (1 + 0) % 2 = 1 by decide, show ¬ (0 = 1) by decide, if_true, if_false]
    rw [Nat.xor_assoc, Nat.xor_assoc, Nat.xor_comm (y / 2)]
  · simp only [show (1 + 1) % 2 ≠ 1 by decide, if_true, if_false]
    rw [Nat.xor_assoc, ← Nat.xor_assoc 40961, Nat.xor_comm 40961 (y / 2), Nat.xor_assoc (y / 2), Nat.xor_self, Nat.xor_zero]
theorem ones_xor (n : Nat) : ∀ (x y : Nat), ones n (x ^^^ y) = ones n x ^^^ ones n y := by
  induction n with
  | zero => exact fun _ _ => rfl
  | succ n ih => intro x y; rw [ones, one_xor, ih]; rfl
theorem one_zero {x : Nat} (hx : x < 2 ^ 16) (h : one x = 0) : x = 0 := by
  unfold one at h
  split at h
  · have h2 : x / 2 = 40961 := by
      have := congrArg (fun z => z ^^^ 40961) h
      simpa [Nat.xor_assoc] using this
    omega
  · omega
theorem ones_zero (n : Nat) : ∀ {x : Nat}, x < 2 ^ 16 → ones n x = 0 → x = 0 := by
  induction n with
  | zero => exact fun _ h => h
  | succ n ih => exact fun hx h => one_zero hx (ih (one_lt hx) h)
theorem ones_at_zero (n : Nat) : ones n 0 = 0 := by
  induction n with
  | zero => rfl
  | succ n ih => rw [ones]; exact ih
theorem xor_eq_zero' {a b : Nat} (h : a ^^^ b = 0) : a = b := by
  have := congrArg (fun z => z ^^^ b) h
  simpa [Nat.xor_assoc] using this
theorem ones_inj (n : Nat) {x y : Nat} (hx : x < 2 ^ 16) (hy : y < 2 ^ 16) (h : ones n x = ones n y) : x = y := by
  apply xor_eq_zero'
  apply ones_zero n (Nat.xor_lt_two_pow hx hy)
  rw [ones_xor, h, Nat.xor_self]
theorem xor_left_inj' {a b c : Nat} (h : a ^^^ b = a ^^^ c) : b = c := by
  have := congrArg (fun z => a ^^^ z) h
  simpa [← Nat.xor_assoc] using this
theorem xor_right_inj' {a b c : Nat} (h : b ^^^ a = c ^^^ a) : b = c := by
  rw [Nat.xor_comm b, Nat.xor_comm c] at h
  exact xor_left_inj' h
theorem stp_inj_byte {s b c : Nat} (hs : s < 2 ^ 16) (hb : b < 2 ^ 16) (hc : c < 2 ^ 16) (h : stp s b = stp s c) : b = c :=
  xor_left_inj' (ones_inj 8 (Nat.xor_lt_two_pow hs hb) (Nat.xor_lt_two_pow hs hc) h)
theorem stp_inj_sum {s t b : Nat} (hs : s < 2 ^ 16) (ht : t < 2 ^ 16) (hb : b < 2 ^ 16) (h : stp s b = stp t b) : s = t :=
  xor_right_inj' (ones_inj 8 (Nat.xor_lt_two_pow hs hb) (Nat.xor_lt_two_pow ht hb) h)
theorem byte_lt {x : Int} (h : 0 ≤ x ∧ x ≤ 255) : x.toNat < 2 ^ 16 := by omega
theorem crc_lt {l : List Int} (hl : Bytes l) : ∀ {s : Nat}, s < 2 ^ 16 → crc s l < 2 ^ 16 := by
  induction l with
  | nil => exact fun h => h
  | cons a l ih =>
    intro s hs
    exact ih (fun x hx => hl x (List.mem_cons_of_mem _ hx)) (stp_lt hs (byte_lt (hl a List.mem_cons_self)))
theorem crc_append (s : Nat) (l m : List Int) : crc s (l ++ m) = crc (crc s l) m := by simp [crc, List.foldl_append]
theorem crc_cons (s : Nat) (a : Int) (l : List Int) : crc s (a :: l) = crc (stp s a.toNat) l := rfl
/-- What follows tells two sums apart. -/
theorem crc_inj {l : List Int} (hl : Bytes l) : ∀ {s t : Nat}, s < 2 ^ 16 → t < 2 ^ 16 → crc s l = crc t l → s = t := by
  induction l with
  | nil => exact fun _ _ h => h
  | cons a l ih =>
    intro s t hs ht h
    have hb := byte_lt (hl a List.mem_cons_self)
    exact stp_inj_sum hs ht hb (ih (fun x hx => hl x (List.mem_cons_of_mem _ hx)) (stp_lt hs hb) (stp_lt ht hb) h)
/-- A sum's lower byte behind it leaves its higher one. -/
theorem ones_shift (n : Nat) : ∀ (q : Nat), ones n (2 ^ n * q) = q := by
  induction n with
  | zero => intro q; simp [ones]
  | succ n ih =>
    intro q
    rw [ones]
    have h : one (2 ^ (n + 1) * q) = 2 ^ n * q := by
      have e : 2 ^ (n + 1) * q = 2 * (2 ^ n * q) := by rw [Nat.pow_succ, Nat.mul_comm (2 ^ n) 2, Nat.mul_assoc]
      rw [e]
      unfold one
      rw [if_neg (by omega)]
      omega
    rw [h, ih]
theorem low_xor (s : Nat) : s ^^^ s % 256 = 256 * (s / 256) := by
  have h1 : s = 256 * (s / 256) + s % 256 := by omega
  have h2 : 256 * (s / 256) + s % 256 = 256 * (s / 256) ||| s % 256 := by
    have := Nat.two_pow_add_eq_or_of_lt (i := 8) (b := s % 256) (by omega) (s / 256)
    simpa using this
  apply Nat.eq_of_testBit_eq
  intro i
  rw [Nat.testBit_xor]
  have h3 : (256 * (s / 256)).testBit i = (decide (8 ≤ i) && (s / 256).testBit (i - 8)) := by
    have := Nat.testBit_two_pow_mul (i := 8) (a := s / 256) (j := i)
    simpa using this
  have h4 : (s % 256).testBit i = (decide (i < 8) && s.testBit i) := by
    have := Nat.testBit_mod_two_pow s 8 i
    simpa using this
  have h5 : (s / 256).testBit (i - 8) = s.testBit (8 + (i - 8)) := by
    have := Nat.testBit_div_two_pow (n := 8) s (i - 8)
    simpa [Nat.add_comm] using this
  rw [h3, h4, h5]
  by_cases hi : i < 8
  · simp [hi, show ¬ 8 ≤ i by omega]
  · simp [hi, show 8 ≤ i by omega, show 8 + (i - 8) = i by omega]
theorem stp_low (s : Nat) : stp s (s % 256) = s / 256 := by
  unfold stp
  rw [low_xor]
  exact ones_shift 8 _
theorem stp_self (s : Nat) : stp s s = 0 := by
  unfold stp
  rw [Nat.xor_self]
  exact ones_at_zero 8
/-- Bytes with their sum behind have the sum 0. -/
theorem crc_put (s : Nat) : stp (stp s (s % 256)) (s / 256) = 0 := by rw [stp_low, stp_self]
/-- Two bytes behind one another, from two sums. -/
theorem stp_xor (s t b c : Nat) : stp (s ^^^ t) (b ^^^ c) = stp s b ^^^ stp t c := by
  unfold stp
  rw [← ones_xor]
  congr 1
  rw [Nat.xor_assoc, Nat.xor_assoc]
  congr 1
  rw [← Nat.xor_assoc, Nat.xor_comm t b, Nat.xor_assoc]
theorem two_stps {a b : Nat} (ha : a < 256) (hb : b < 256) (h : stp (stp 0 a) b = 0) : a = 0 ∧ b = 0 := by
  have h1 : stp (stp 0 a) b = ones 8 (ones 8 (a ^^^ 256 * b)) := by
    unfold stp
    rw [ones_xor 8 a, Nat.zero_xor]
    congr 1
    have := ones_shift 8 b
    rw [show 2 ^ 8 = 256 by decide] at this
    rw [this]
  rw [h1] at h
  have h256 : 256 * b < 2 ^ 16 := by omega
  have hlt : a ^^^ 256 * b < 2 ^ 16 := Nat.xor_lt_two_pow (by omega) h256
  have h2 := xor_eq_zero' (ones_zero 8 hlt (ones_zero 8 (ones_lt 8 hlt) h))
  omega

/-! ### the program's and the reference's sums -/
theorem step_l0 (d : Nat) : ∀ (x : Nat) (i : Int) (k : Nat), x < 2 ^ 16 → 0 ≤ i → i + d = 8 → d + 1 ≤ k → impl_step.l0 k (x : Int) i = some ((ones d x : Nat) : Int) := by
  induction d with
  | zero =>
    intro x i k hx h0 h1 hk
    obtain ⟨k, rfl⟩ : ∃ m, k = m + 1 := ⟨k - 1, by omega⟩
    simp only [impl_step.l0]
    rw [if_neg (by omega)]
    rfl
  | succ d ih =>
    intro x i k hx h0 h1 hk
    obtain ⟨k, rfl⟩ : ∃ m, k = m + 1 := ⟨k - 1, by omega⟩
    simp only [impl_step.l0]
    rw [if_pos (by omega), and1 x (by omega), w64 (by omega) (by omega)]
    have hd : (x : Int) / 2 = ((x / 2 : Nat) : Int) := by omega
    rw [hd, show (40961 : Int) = ((40961 : Nat) : Int) by rfl, xor64 _ _ (by omega) (by decide)]
    have h1' : ones (d + 1) x = ones d (one x) := rfl
    rw [h1']
    by_cases hp : x % 2 = 1
    · rw [if_pos (by rw [hp]; rfl), ih _ _ _ (Nat.xor_lt_two_pow (by omega) (by decide)) (by omega) (by omega) (by omega)]
      unfold one
      rw [if_pos hp]
    · rw [if_neg (by omega), ih _ _ _ (by omega) (by omega) (by omega) (by omega)]
      unfold one
      rw [if_neg hp]
theorem step_eq (s b : Nat) (hs : s < 2 ^ 16) (hb : b < 2 ^ 16) (k : Nat) (hk : 10 ≤ k) : impl_step.f k (s : Int) (b : Int) = some ((stp s b : Nat) : Int) := by
  unfold impl_step.f
  rw [w64 (by omega) (by omega), xor64 _ _ (by omega) (by omega)]
  exact step_l0 8 _ _ _ (Nat.xor_lt_two_pow hs hb) (by omega) (by omega) (by omega)
theorem spec_step_l0 (d : Nat) : ∀ (x : Nat) (i : Int) (k : Nat), x < 2 ^ 16 → 0 ≤ i → i + d = 8 → d + 1 ≤ k → spec_CrcStep.l0 k (x : Int) i = some ((ones d x : Nat) : Int) := by
  induction d with
  | zero =>
    intro x i k hx h0 h1 hk
    obtain ⟨k, rfl⟩ : ∃ m, k = m + 1 := ⟨k - 1, by omega⟩
    simp only [spec_CrcStep.l0]
    rw [if_neg (by omega)]
    rfl
  | succ d ih =>
    intro x i k hx h0 h1 hk
    obtain ⟨k, rfl⟩ : ∃ m, k = m + 1 := ⟨k - 1, by omega⟩
    simp only [spec_CrcStep.l0]
    rw [if_pos (by omega), Int.tmod_eq_emod_of_nonneg (by omega), Int.tdiv_eq_ediv_of_nonneg (by omega), w64 (x := i + 1) (by omega) (by omega)]
    have hd : (x : Int) / 2 = ((x / 2 : Nat) : Int) := by omega
    rw [w64 (x := (x : Int) / 2) (by omega) (by omega), hd, show (40961 : Int) = ((40961 : Nat) : Int) by rfl, xor64 _ _ (by omega) (by decide)]
    have h1' : ones (d + 1) x = ones d (one x) := rfl
    rw [h1']
    by_cases hp : x % 2 = 1
    · rw [if_pos (by omega), ih _ _ _ (Nat.xor_lt_two_pow (by omega) (by decide)) (by omega) (by omega) (by omega)]
      unfold one
      rw [if_pos hp]
    · rw [if_neg (by omega), ih _ _ _ (by omega) (by omega) (by omega) (by omega)]
      unfold one
      rw [if_neg hp]
theorem l1In_eq (a b c : Int) : spec_l1In.f a b c = some (decide (b ≤ a ∧ a ≤ c)) := by
  unfold spec_l1In.f
  by_cases h : a ≥ b
  · rw [if_pos h]; simp [h]
  · rw [if_neg h]; simp [h]
theorem spec_step_eq (s b : Nat) (hs : s < 2 ^ 16) (hb : b < 2 ^ 16) (k : Nat) (hk : 10 ≤ k) : spec_CrcStep.f k (s : Int) (b : Int) = some ((stp s b : Nat) : Int) := by
  unfold spec_CrcStep.f
  rw [l1In_eq]; simp only [Option.bind_some]
  rw [if_pos (by simp; omega), w64 (by omega) (by omega), xor64 _ _ (by omega) (by omega)]
  exact spec_step_l0 8 _ _ _ (Nat.xor_lt_two_pow hs hb) (by omega) (by omega) (by omega)

theorem rd_drop {l : List Int} {i : Nat} (hi : i < l.length) : l.drop i = rd l (i : Int) :: l.drop (i + 1) := by
  rw [List.drop_eq_getElem_cons hi]
  congr 1
  unfold rd
  rw [List.getD_eq_getElem?_getD, Int.toNat_natCast, List.getElem?_eq_getElem hi]
  rfl
theorem CrcOf_l0 (l : List Int) (hb : Bytes l) (hl : l.length ≤ 1000000000) (d : Nat) : ∀ (s i k : Nat), s < 2 ^ 16 → i + d = l.length → d + 20 ≤ k → impl_CrcOf.l0 k (s : Int) l (l.length : Int) (i : Int) = some ((crc s (l.drop i) : Nat) : Int) := by
  induction d with
  | zero =>
    intro s i k hs hi hk
    obtain ⟨k, rfl⟩ : ∃ m, k = m + 1 := ⟨k - 1, by omega⟩
    simp only [impl_CrcOf.l0]
    rw [if_neg (by omega), List.drop_of_length_le (by omega)]
    rfl
  | succ d ih =>
    intro s i k hs hi hk
    obtain ⟨k, rfl⟩ : ∃ m, k = m + 1 := ⟨k - 1, by omega⟩
    simp only [impl_CrcOf.l0]
    have hr := hb.at_ (i : Int)
    rw [if_pos (by omega), if_pos (by omega), if_pos (by omega), w64 (by omega) (by omega)]
    rw [rd_drop (show i < l.length by omega), crc_cons]
    obtain ⟨x, hx⟩ : ∃ x : Nat, rd l (i : Int) = (x : Int) := ⟨(rd l (i : Int)).toNat, by omega⟩
    rw [hx] at hr ⊢
    rw [step_eq s x hs (by omega) k (by omega)]
    simp only [Option.bind_some, Int.toNat_natCast]
    exact ih _ (i + 1) k (stp_lt hs (by omega)) (by omega) (by omega)
theorem CrcOf_eq (l : List Int) (hb : Bytes l) (hl : l.length ≤ 1000000000) (k : Nat) (hk : l.length + 20 ≤ k) : impl_CrcOf.f k l = some ((crc 0 l : Nat) : Int) := by
  unfold impl_CrcOf.f
  exact CrcOf_l0 l hb hl l.length 0 0 k (by decide) (by omega) (by omega)
theorem spec_CrcOf_l0 (l : List Int) (hb : Bytes l) (hl : l.length ≤ 1000000000) (d : Nat) : ∀ (s i k : Nat), s < 2 ^ 16 → i + d = l.length → d + 20 ≤ k → spec_CrcOf.l0 k l (s : Int) (i : Int) = some ((crc s (l.drop i) : Nat) : Int) := by
  induction d with
  | zero =>
    intro s i k hs hi hk
    obtain ⟨k, rfl⟩ : ∃ m, k = m + 1 := ⟨k - 1, by omega⟩
    simp only [spec_CrcOf.l0]
    rw [if_neg (by omega), List.drop_of_length_le (by omega)]
    rfl
  | succ d ih =>
    intro s i k hs hi hk
    obtain ⟨k, rfl⟩ : ∃ m, k = m + 1 := ⟨k - 1, by omega⟩
    simp only [spec_CrcOf.l0]
    have hr := hb.at_ (i : Int)
    rw [if_pos (by omega), if_pos (by omega), w64 (by omega) (by omega)]
    rw [rd_drop (show i < l.length by omega), crc_cons]
    obtain ⟨x, hx⟩ : ∃ x : Nat, rd l (i : Int) = (x : Int) := ⟨(rd l (i : Int)).toNat, by omega⟩
    rw [hx] at hr ⊢
    rw [spec_step_eq s x hs (by omega) k (by omega)]
    simp only [Option.bind_some, Int.toNat_natCast]
    exact ih _ (i + 1) k (stp_lt hs (by omega)) (by omega) (by omega)
theorem spec_CrcOf_eq (l : List Int) (hb : Bytes l) (hl : l.length ≤ 1000000000) (k : Nat) (hk : l.length + 20 ≤ k) : spec_CrcOf.f k l = some ((crc 0 l : Nat) : Int) := by
  unfold spec_CrcOf.f
  exact spec_CrcOf_l0 l hb hl l.length 0 0 k (by decide) (by omega) (by omega)

/-! ### bytes with their sum behind -/
theorem clone_eq (l : List Int) (hl : l.length ≤ 1000000000) : impl_clone_byte.f l = some l := by
  unfold impl_clone_byte.f
  rw [Option.bind_some, List.nil_append, if_pos (by rw [List.length_nil]; omega)]
def putL (l : List Int) : List Int := l ++ [((crc 0 l % 256 : Nat) : Int), ((crc 0 l / 256 : Nat) : Int)]
theorem putL_length (l : List Int) : (putL l).length = l.length + 2 := by simp [putL]
theorem putL_bytes {l : List Int} (h : Bytes l) : Bytes (putL l) := by
  have hc := crc_lt h (s := 0) (by decide)
  exact h.append (.cons (by omega) (by omega) (.cons (by omega) (by omega) .nil))
theorem CrcPut_eq (l : List Int) (hb : Bytes l) (hl : l.length ≤ 100000000) (k : Nat) (hk : l.length + 30 ≤ k) : impl_CrcPut.f k l = some (putL l) := by
  unfold impl_CrcPut.f
  have hc := crc_lt hb (s := 0) (by decide)
  rw [CrcOf_eq l hb (by omega) k (by omega), Option.bind_some, clone_eq l (by omega), Option.bind_some, Option.bind_some, if_pos (by simp only [List.length_cons, List.length_nil]; omega), clone_eq _ (by simp; omega), Option.bind_some]
  congr 1
  unfold putL
  rw [show (((crc 0 l : Nat) : Int) % 256) = ((crc 0 l % 256 : Nat) : Int) by omega, show (((crc 0 l : Nat) : Int) / 256) % 256 = ((crc 0 l / 256 : Nat) : Int) by omega]
theorem spec_CrcPut_eq (l : List Int) (hb : Bytes l) (hl : l.length ≤ 100000000) (k : Nat) (hk : l.length + 30 ≤ k) : spec_CrcPut.f k l = some (putL l) := by
  unfold spec_CrcPut.f
  have hc := crc_lt hb (s := 0) (by decide)
  rw [spec_CrcOf_eq l hb (by omega) k (by omega), Option.bind_some, Option.bind_some, List.nil_append, if_pos (by rw [List.length_nil]; omega), Option.bind_some, Option.bind_some, if_pos (by simp only [List.length_cons, List.length_nil]; omega)]
  congr 1
  unfold putL
  rw [Int.tmod_eq_emod_of_nonneg (by omega), Int.tdiv_eq_ediv_of_nonneg (by omega), w64 (by omega) (by omega)]
  rw [show (((crc 0 l : Nat) : Int) % 256) % 256 = ((crc 0 l % 256 : Nat) : Int) by omega, show (((crc 0 l : Nat) : Int) / 256) % 256 = ((crc 0 l / 256 : Nat) : Int) by omega]

/-! ### copies, comparisons, marks -/
theorem rd_get {l : List Int} {i : Nat} (hi : i < l.length) : rd l (i : Int) = l[i] := by
  unfold rd
  rw [List.getD_eq_getElem?_getD, Int.toNat_natCast, List.getElem?_eq_getElem hi]
  rfl
theorem toByteS_l0 (l : List Int) (hl : l.length ≤ 1000000000) (d : Nat) : ∀ (x : List Int) (i k : Nat), i + d = l.length → x = l.take i ++ List.replicate d 0 → d + 1 ≤ k → laws_toByteS.l0 k l x (i : Int) = some l := by
  induction d with
  | zero =>
    intro x i k hi hx hk
    obtain ⟨k, rfl⟩ : ∃ m, k = m + 1 := ⟨k - 1, by omega⟩
    simp only [laws_toByteS.l0]
    rw [if_neg (by omega), hx, List.take_of_length_le (by omega), List.replicate_zero, List.append_nil]
  | succ d ih =>
    intro x i k hi hx hk
    obtain ⟨k, rfl⟩ : ∃ m, k = m + 1 := ⟨k - 1, by omega⟩
    simp only [laws_toByteS.l0]
    have hxl : x.length = l.length := by rw [hx, List.length_append, List.length_take, List.length_replicate]; omega
    rw [if_pos (by omega), if_pos (by omega), if_pos (by omega), w64 (by omega) (by omega), rd_get (show i < l.length by omega), Int.toNat_natCast]
    refine ih _ (i + 1) k (by omega) ?_ (by omega)
    rw [hx, List.replicate_succ, List.set_append_right _ _ (by rw [List.length_take]; omega), List.length_take, Nat.min_eq_left (by omega), Nat.sub_self, List.set_cons_zero, List.take_succ_eq_append_getElem (by omega), List.append_assoc]
    rfl
theorem toByteS_eq (l : List Int) (hl : l.length ≤ 1000000000) (k : Nat) (hk : l.length + 1 ≤ k) : laws_toByteS.f k l = some l := by
  unfold laws_toByteS.f
  rw [if_pos (by omega), if_pos (by omega), Int.toNat_natCast]
  exact toByteS_l0 l hl l.length _ 0 k (by omega) (by simp) (by omega)
theorem eqByteS_l0 (a b : List Int) (hl : a.length ≤ 1000000000) (hab : a.length = b.length) (d : Nat) : ∀ (i k : Nat), i + d = a.length → d + 1 ≤ k → laws_eqByteS.l0 k a b (i : Int) = some (decide (a.drop i = b.drop i)) := by
  induction d with
  | zero =>
    intro i k hi hk
    obtain ⟨k, rfl⟩ : ∃ m, k = m + 1 := ⟨k - 1, by omega⟩
    simp only [laws_eqByteS.l0]
    rw [if_neg (by omega), List.drop_of_length_le (by omega), List.drop_of_length_le (by omega)]
    simp
  | succ d ih =>
    intro i k hi hk
    obtain ⟨k, rfl⟩ : ∃ m, k = m + 1 := ⟨k - 1, by omega⟩
    simp only [laws_eqByteS.l0]
    rw [if_pos (by omega), if_pos (by omega), if_pos (by omega), w64 (by omega) (by omega), rd_get (show i < a.length by omega), rd_get (show i < b.length by omega)]
    have hd : (a.drop i = b.drop i) ↔ (a[i]'(by omega) = b[i]'(by omega) ∧ a.drop (i + 1) = b.drop (i + 1)) := by
      rw [List.drop_eq_getElem_cons (show i < a.length by omega), List.drop_eq_getElem_cons (show i < b.length by omega), List.cons.injEq]
    by_cases h : a[i]'(by omega) = b[i]'(by omega)
    · rw [if_pos h]
      have := ih (i + 1) k (by omega) (by omega)
      rw [show ((i : Int) + 1) = ((i + 1 : Nat) : Int) by omega, this]
      congr 1
      exact decide_eq_decide.2 (by rw [hd]; exact ⟨fun e => ⟨h, e⟩, fun e => e.2⟩)
    · rw [if_neg h]
      congr 1
      exact (decide_eq_false (by rw [hd]; exact fun e => h e.1)).symm
theorem eqByteS_eq (a b : List Int) (hl : a.length ≤ 1000000000) (k : Nat) (hk : a.length + 1 ≤ k) : laws_eqByteS.f k a b = some (decide (a = b)) := by
  unfold laws_eqByteS.f
  by_cases h : a.length = b.length
  · rw [if_pos (by omega)]
    exact eqByteS_l0 a b hl h a.length 0 k (by omega) (by omega)
  · rw [if_neg (by omega)]
    have : a ≠ b := fun e => h (by rw [e])
    simp [this]
theorem eqByteS_same (a : List Int) (hl : a.length ≤ 1000000000) (k : Nat) (hk : a.length + 1 ≤ k) : laws_eqByteS.f k a a = some true := by
  rw [eqByteS_eq a a hl k hk]
  simp
def Marked (x : List Int) (n : Nat) (m : Int) : Prop := x.length = n ∧ ∀ j : Nat, j < n → rd x (j : Int) = (m + j) % 256
theorem rd_set (x : List Int) (i j : Nat) (v : Int) (hi : i < x.length) : rd (x.set i v) (j : Int) = if j = i then v else rd x (j : Int) := by
  unfold rd
  rw [List.getD_eq_getElem?_getD, List.getD_eq_getElem?_getD, Int.toNat_natCast, List.getElem?_set]
  by_cases h : i = j
  · subst h
    rw [if_pos rfl, if_pos hi, if_pos rfl]
    rfl
  · rw [if_neg h, if_neg (fun e => h e.symm)]
theorem markByteS_l0 (n : Nat) (m : Int) (hm : 0 ≤ m) (hm2 : m ≤ 1000000000) (hn : n ≤ 1000000000) (d : Nat) : ∀ (x : List Int) (i k : Nat), i + d = n → x.length = n → (∀ j : Nat, j < i → rd x (j : Int) = (m + j) % 256) → d + 1 ≤ k →
    ∃ y, laws_markByteS.l0 k x (m + i) (i : Int) = some (m + n, y) ∧ Marked y n m := by
  induction d with
  | zero =>
    intro x i k hi hx hj hk
    obtain ⟨k, rfl⟩ : ∃ m, k = m + 1 := ⟨k - 1, by omega⟩
    refine ⟨x, ?_, hx, fun j h => hj j (by omega)⟩
    simp only [laws_markByteS.l0]
    rw [if_neg (by omega), show i = n by omega]
  | succ d ih =>
    intro x i k hi hx hj hk
    obtain ⟨k, rfl⟩ : ∃ m, k = m + 1 := ⟨k - 1, by omega⟩
    simp only [laws_markByteS.l0]
    rw [if_pos (by omega), if_pos (by omega), w64 (by omega) (by omega), w64 (by omega) (by omega), Int.toNat_natCast]
    have := ih (x.set i ((m + i) % 256)) (i + 1) k (by omega) (by rw [List.length_set]; exact hx) (fun j h => by
      rw [rd_set _ _ _ _ (by omega)]
      by_cases e : j = i
      · rw [if_pos e, e]
      · rw [if_neg e]
        exact hj j (by omega)) (by omega)
    rwa [show m + ((i + 1 : Nat) : Int) = m + i + 1 by omega, show ((i + 1 : Nat) : Int) = (i : Int) + 1 by omega] at this
theorem markByteS_eq (x : List Int) (m : Int) (hm : 0 ≤ m) (hm2 : m ≤ 1000000000) (hn : x.length ≤ 1000000000) (k : Nat) (hk : x.length + 1 ≤ k) :
    ∃ y, laws_markByteS.f k x m = some (m + x.length, y) ∧ Marked y x.length m := by
  unfold laws_markByteS.f
  have := markByteS_l0 x.length m hm hm2 hn x.length x 0 k (by omega) rfl (fun j h => by omega) hk
  simpa using this
theorem heldByteS_l0 (x : List Int) (n : Nat) (m : Int) (hM : Marked x n m) (hm : 0 ≤ m) (hm2 : m ≤ 1000000000) (hn : n ≤ 1000000000) (d : Nat) : ∀ (i k : Nat), i + d = n → d + 1 ≤ k → laws_heldByteS.l0 k x (m + i) (i : Int) = some (m + n) := by
  obtain ⟨hx, hj⟩ := hM
  induction d with
  | zero =>
    intro i k hi hk
    obtain ⟨k, rfl⟩ : ∃ m, k = m + 1 := ⟨k - 1, by omega⟩
    simp only [laws_heldByteS.l0]
    rw [if_neg (by omega), show i = n by omega]
  | succ d ih =>
    intro i k hi hk
    obtain ⟨k, rfl⟩ : ∃ m, k = m + 1 := ⟨k - 1, by omega⟩
    simp only [laws_heldByteS.l0]
    rw [if_pos (by omega), if_pos (by omega), if_pos (hj i (by omega)), w64 (by omega) (by omega), w64 (by omega) (by omega)]
    have := ih (i + 1) k (by omega) (by omega)
    rwa [show m + ((i + 1 : Nat) : Int) = m + i + 1 by omega, show ((i + 1 : Nat) : Int) = (i : Int) + 1 by omega] at this
theorem heldByteS_eq (x : List Int) (n : Nat) (m : Int) (hM : Marked x n m) (hm : 0 ≤ m) (hm2 : m ≤ 1000000000) (hn : n ≤ 1000000000) (k : Nat) (hk : n + 1 ≤ k) : laws_heldByteS.f k x m = some (m + n) := by
  unfold laws_heldByteS.f
  have := heldByteS_l0 x n m hM hm hm2 hn n 0 k (by omega) hk
  simpa using this

theorem FnExactCrcPut : laws_FnExactCrcPut.Pure := by
  intro l _ _ w0
  have hb := Bytes.of_wf w0
  refine ⟨l.length + 100 + 1, ?_⟩
  unfold laws_FnExactCrcPut.f
  by_cases h : (l.length : Int) > 1048576
  · rw [if_pos h]
  · rw [if_neg h]
    have hp := putL_length l
    obtain ⟨y, hy, hY⟩ := markByteS_eq l 1 (by omega) (by omega) (by omega) (l.length + 100 + 1) (by omega)
    obtain ⟨z, hz, hZ⟩ := markByteS_eq (putL l) 1 (by omega) (by omega) (by omega) (l.length + 100) (by omega)
    rw [toByteS_eq l (by omega) _ (by omega), Option.bind_some, spec_CrcPut_eq l hb (by omega) _ (by omega), Option.bind_some, Option.bind_some, CrcPut_eq l hb (by omega) _ (by omega), Option.bind_some,
      eqByteS_same _ (by omega) _ (by omega), Option.bind_some, if_pos rfl, Option.bind_some, eqByteS_same _ (by omega) _ (by omega), Option.bind_some, if_pos rfl, hy, Option.bind_some, if_neg (by simp only []; omega), Option.bind_some]
    simp only [laws_FnExactCrcPut.j0]
    rw [if_neg (by decide), hz, Option.bind_some, heldByteS_eq z _ 1 hZ (by omega) (by omega) (by omega) _ (by omega), Option.bind_some, if_neg (by omega), if_pos (by simp only []), toByteS_eq l (by omega) _ (by omega), Option.bind_some,
      CrcPut_eq l hb (by omega) _ (by omega), Option.bind_some, eqByteS_same _ (by omega) _ (by omega), Option.bind_some, if_pos rfl, Option.bind_some, if_neg (by omega), if_pos (by simp only [])]

end Go.Proofs.Ytgdioppiopppeaa.Pure
