/- What is turned within two bytes is told, for every input. Conditions: none. -/
import Derived.Test.YtgdioppiopppeaaPFnCrcBurstx2
set_option linter.unusedVariables false
set_option linter.unusedSimpArgs false
namespace Go.Proofs.Ytgdioppiopppeaa.Pure
open Go.RowKit Go.Proofs.Ytgdioppiopppeaa.PFnCrcBurst Go.Proofs.YtgdioppiopppeaaV.PrintWords Go.Proofs.YtgdioppiopppeaaV.PrintLast

/-! ### numbers -/
theorem w64 {x : Int} (h1 : -9223372036854775808 ≤ x) (h2 : x ≤ 9223372036854775807) : wrap64 x = x := by unfold wrap64; omega
theorem xor64 (a b : Nat) (ha : a < 2 ^ 62) (hb : b < 2 ^ 62) : Go.bits .xor .i64 (a : Int) (b : Int) = ((a ^^^ b : Nat) : Int) := by
  have h := Nat.xor_lt_two_pow ha hb
  simp only [Go.bits, BitVec.ofInt_natCast, BitVec.toNat_xor, BitVec.toNat_ofNat]
  rw [Nat.mod_eq_of_lt (Nat.lt_trans ha (by decide)), Nat.mod_eq_of_lt (Nat.lt_trans hb (by decide)), IntKind.wrap_i64]
  omega
theorem xor8 (a b : Nat) (ha : a < 2 ^ 8) (hb : b < 2 ^ 8) : Go.bits .xor .u8 (a : Int) (b : Int) = ((a ^^^ b : Nat) : Int) := by
  have h := Nat.xor_lt_two_pow ha hb
  simp only [Go.bits, BitVec.ofInt_natCast, BitVec.toNat_xor, BitVec.toNat_ofNat]
  rw [Nat.mod_eq_of_lt (Nat.lt_of_lt_of_le ha (by decide)), Nat.mod_eq_of_lt (Nat.lt_of_lt_of_le hb (by decide)), IntKind.wrap_u8]
  omega
theorem and1 (a : Nat) (ha : a < 2 ^ 62) : Go.bits .and .i64 (a : Int) 1 = ((a % 2 : Nat) : Int) := by
  have h1 : (1 : Int) = ((1 : Nat) : Int) := rfl
  simp only [Go.bits]
  rw [h1]
  simp only [BitVec.ofInt_natCast, BitVec.toNat_and, BitVec.toNat_ofNat]
  rw [Nat.mod_eq_of_lt (Nat.lt_trans ha (by decide)), Nat.mod_eq_of_lt (by decide : 1 < 2 ^ IntKind.i64.bits), Nat.and_one_is_mod, IntKind.wrap_i64]
  omega
def Bytes (l : List Int) : Prop := ∀ x ∈ l, 0 ≤ x ∧ x ≤ 255
theorem Bytes.nil : Bytes [] := fun x h => by simp at h
theorem Bytes.cons {a : Int} {l : List Int} (h1 : 0 ≤ a) (h2 : a ≤ 255) (h : Bytes l) : Bytes (a :: l) := fun x hx => by
  rcases List.mem_cons.1 hx with rfl | hx
  · exact ⟨h1, h2⟩
  · exact h x hx
theorem Bytes.append {l m : List Int} (h : Bytes l) (k : Bytes m) : Bytes (l ++ m) := fun x hx => by
  rcases List.mem_append.1 hx with hx | hx
  · exact h x hx
  · exact k x hx
theorem Bytes.snoc {a : Int} {l : List Int} (h1 : 0 ≤ a) (h2 : a ≤ 255) (h : Bytes l) : Bytes (l ++ [a]) := h.append (.cons h1 h2 .nil)
theorem Bytes.take {l : List Int} (h : Bytes l) (n : Nat) : Bytes (l.take n) := fun x hx => h x (List.mem_of_mem_take hx)
theorem Bytes.drop {l : List Int} (h : Bytes l) (n : Nat) : Bytes (l.drop n) := fun x hx => h x (List.mem_of_mem_drop hx)
theorem Bytes.set {l : List Int} (h : Bytes l) (n : Nat) {a : Int} (h1 : 0 ≤ a) (h2 : a ≤ 255) : Bytes (l.set n a) := fun x hx => by
  rcases List.mem_or_eq_of_mem_set hx with hx | rfl
  · exact h x hx
  · exact ⟨h1, h2⟩
theorem Bytes.at_ {l : List Int} (h : Bytes l) (i : Int) : 0 ≤ rd l i ∧ rd l i ≤ 255 := by
  unfold rd
  rw [List.getD_eq_getElem?_getD]
  by_cases hi : i.toNat < l.length
  · rw [List.getElem?_eq_getElem hi]
    exact h _ (List.getElem_mem hi)
  · rw [List.getElem?_eq_none (by omega)]
    exact ⟨by simp, by simp⟩
theorem Bytes.of_wf {l : List Int} (h : ∀ x ∈ l, (Lit.int .u8 x).wf = true) : Bytes l := fun x hx => by
  have := h x hx
  simp only [Lit.wf, IntKind.min, IntKind.max, IntKind.signed, IntKind.bits, Bool.and_eq_true, decide_eq_true_eq] at this
  simp at this
  omega
/-! ### the draws' reader -/
theorem open_eq (l : List Int) : spec_l20Open.f l = some (l.take 2000, 0) := by
  unfold spec_l20Open.f
  by_cases h : (l.length : Int) > 2000
  · rw [if_pos h, if_pos (by omega)]
  · rw [if_neg h, List.take_of_length_le (by omega)]
theorem pick_some (l : List Int) (hb : Bytes l) (hl : l.length ≤ 2000) (p n : Int) (h0 : 0 ≤ p) (h1 : p ≤ 1000000000) (hn : n ≤ 1000000000) (k : Nat) (hk : 1 ≤ k) :
    ∃ r, spec_l20Rd_pick.f k l p n = some (r, p + 1) ∧ 0 ≤ r ∧ (1 ≤ n → r < n) ∧ (n < 1 → r = 0) := by
  obtain ⟨k, rfl⟩ : ∃ m, k = m + 1 := ⟨k - 1, by omega⟩
  unfold spec_l20Rd_pick.f
  rw [w64 (x := p + 1) (by omega) (by omega)]
  by_cases hn1 : n < 1
  · rw [if_pos hn1]
    simp only [spec_l20Rd_pick.j0]
    exact ⟨0, by simp, by omega, fun h => by omega, fun _ => rfl⟩
  · rw [if_neg hn1]
    simp only [spec_l20Rd_pick.j0]
    by_cases he : l.length = 0
    · rw [if_pos (by rw [he]; rfl)]
      exact ⟨0, rfl, by omega, fun h => by omega, fun _ => rfl⟩
    · rw [if_neg (by rw [beq_eq_false_iff_ne.2 (by omega)]; simp)]
      rw [w64 (x := p + 1 - 1) (by omega) (by omega), show p + 1 - 1 = p by omega]
      have hr := hb.at_ p
      by_cases hp : p < (l.length : Int)
      · rw [if_pos hp, if_pos h0, if_neg (by omega), w64 (by omega) (by omega)]
        refine ⟨_, rfl, Int.tmod_nonneg _ hr.1, fun _ => Int.tmod_lt_of_pos _ (by omega), fun h => by omega⟩
      · have e1 : Int.tmod p (l.length : Int) = p % (l.length : Int) := Int.tmod_eq_emod_of_nonneg h0
        have a1 := Int.emod_nonneg p (show (l.length : Int) ≠ 0 by omega)
        have a2 := Int.emod_lt_of_pos p (show 0 < (l.length : Int) by omega)
        rw [w64 (x := p * 7) (by omega) (by omega), w64 (x := p * 7 + 3) (by omega) (by omega)]
        have e2 : Int.tmod (p * 7 + 3) (l.length : Int) = (p * 7 + 3) % (l.length : Int) := Int.tmod_eq_emod_of_nonneg (by omega)
        have b1 := Int.emod_nonneg (p * 7 + 3) (show (l.length : Int) ≠ 0 by omega)
        have b2 := Int.emod_lt_of_pos (p * 7 + 3) (show 0 < (l.length : Int) by omega)
        rw [e1, e2, if_neg hp, if_neg (by omega), if_pos a1, if_pos a2, if_pos b1, if_pos b2, if_neg (by omega)]
        obtain ⟨c1, c2⟩ := hb.at_ (p % (l.length : Int))
        obtain ⟨d1, d2⟩ := hb.at_ ((p * 7 + 3) % (l.length : Int))
        have e3 : Int.tdiv p (l.length : Int) = p / (l.length : Int) := Int.tdiv_eq_ediv_of_nonneg h0
        have f1 : 0 ≤ p / (l.length : Int) := Int.ediv_nonneg h0 (by omega)
        have f2 : p / (l.length : Int) ≤ p := Int.ediv_le_self _ h0
        rw [e3]
        generalize rd l (p % (l.length : Int)) = x at c1 c2 ⊢
        generalize rd l ((p * 7 + 3) % (l.length : Int)) = y at d1 d2 ⊢
        generalize p / (l.length : Int) = z at f1 f2 ⊢
        rw [w64 (x := x) (by omega) (by omega), w64 (x := y) (by omega) (by omega), w64 (x := z) (by omega) (by omega), w64 (x := x * 131) (by omega) (by omega), w64 (x := y * 1117) (by omega) (by omega),
          w64 (x := x * 131 + y * 1117) (by omega) (by omega), w64 (x := p * 29) (by omega) (by omega), w64 (x := x * 131 + y * 1117 + p * 29) (by omega) (by omega), w64 (x := z * 53) (by omega) (by omega),
          w64 (x := x * 131 + y * 1117 + p * 29 + z * 53) (by omega) (by omega)]
        obtain ⟨t, ht⟩ : ∃ t : Nat, x * 131 + y * 1117 + p * 29 + z * 53 = (t : Int) := ⟨(x * 131 + y * 1117 + p * 29 + z * 53).toNat, by omega⟩
        have ht2 : t < 2 ^ 62 := by omega
        rw [ht, Int.tdiv_eq_ediv_of_nonneg (by omega), w64 (x := (t : Int) / 64) (by omega) (by omega)]
        have h64 : ((t : Int) / 64) = ((t / 64 : Nat) : Int) := by omega
        rw [h64, xor64 t (t / 64) ht2 (by omega)]
        exact ⟨_, rfl, Int.tmod_nonneg _ (Int.natCast_nonneg _), fun _ => Int.tmod_lt_of_pos _ (by omega), fun h => by omega⟩
theorem pick_in (l : List Int) (hb : Bytes l) (hl : l.length ≤ 2000) (p n : Int) (h0 : 0 ≤ p) (h1 : p ≤ 1000000000) (hn1 : 1 ≤ n) (hn : n ≤ 1000000000) (k : Nat) (hk : 1 ≤ k) :
    ∃ r, spec_l20Rd_pick.f k l p n = some (r, p + 1) ∧ 0 ≤ r ∧ r < n := by
  obtain ⟨r, h, h2, h3, _⟩ := pick_some l hb hl p n h0 h1 hn k hk
  exact ⟨r, h, h2, h3 hn1⟩

theorem bytes_l0 (l : List Int) (hb : Bytes l) (hl : l.length ≤ 2000) (d : Nat) : ∀ (out : List Int) (p : Int) (k : Nat), Bytes out → 0 ≤ p → p + 3 * d ≤ 1000000000 → d ≤ 1000 → out.length + d ≤ 100000 → d + 2 ≤ k →
    ∃ r, spec_l20Bytes.l0 k out (d : Int) l p = some (r, p + 3 * d) ∧ Bytes r ∧ r.length = out.length + d := by
  induction d with
  | zero =>
    intro out p k ho h0 h1 hd hl2 hk
    obtain ⟨k, rfl⟩ : ∃ m, k = m + 1 := ⟨k - 1, by omega⟩
    exact ⟨out, by simp [spec_l20Bytes.l0], ho, rfl⟩
  | succ d ih =>
    intro out p k ho h0 h1 hd hl2 hk
    obtain ⟨k, rfl⟩ : ∃ m, k = m + 1 := ⟨k - 1, by omega⟩
    simp only [spec_l20Bytes.l0]
    rw [if_pos (by omega)]
    obtain ⟨a, ha, a0, a1⟩ := pick_in l hb hl p 256 h0 (by omega) (by omega) (by omega) k (by omega)
    obtain ⟨b, hb2, b0, b1⟩ := pick_in l hb hl (p + 1) 4 (by omega) (by omega) (by omega) (by omega) k (by omega)
    obtain ⟨c, hc, c0, c1⟩ := pick_in l hb hl (p + 1 + 1) 3 (by omega) (by omega) (by omega) (by omega) k (by omega)
    rw [ha]; simp only [Option.bind_some]
    rw [hb2]; simp only [Option.bind_some]
    rw [hc]; simp only [Option.bind_some]
    rw [if_pos c0, if_pos (by simpa using c1), if_pos (by omega), w64 (by omega) (by omega)]
    have hx : 0 ≤ rd [a, b, 255] c % 256 ∧ rd [a, b, 255] c % 256 ≤ 255 := by omega
    obtain ⟨r, hr, hr1, hr2⟩ := ih (out ++ [rd [a, b, 255] c % 256]) (p + 1 + 1 + 1) k (ho.snoc hx.1 hx.2) (by omega) (by omega) (by omega) (by rw [List.length_append, List.length_singleton]; omega) (by omega)
    refine ⟨r, ?_, hr1, by rw [hr2]; simp; omega⟩
    rw [show ((d + 1 : Nat) : Int) - 1 = (d : Int) by omega, hr]
    congr 2
    omega
theorem bytes_some (l : List Int) (hb : Bytes l) (hl : l.length ≤ 2000) (p n : Int) (h0 : 0 ≤ p) (h1 : p ≤ 100000000) (hn0 : 0 ≤ n) (hn : n ≤ 900) (k : Nat) (hk : 1000 ≤ k) :
    ∃ r q, spec_l20Bytes.f k l p n = some (r, q) ∧ Bytes r ∧ (r.length : Int) ≤ n ∧ p ≤ q ∧ q ≤ p + 1 + 3 * n := by
  unfold spec_l20Bytes.f
  rw [w64 (by omega) (by omega)]
  obtain ⟨a, ha, a0, a1⟩ := pick_in l hb hl p (n + 1) h0 (by omega) (by omega) (by omega) k (by omega)
  rw [ha]; simp only [Option.bind_some]
  obtain ⟨d, rfl⟩ : ∃ d : Nat, a = (d : Int) := ⟨a.toNat, by omega⟩
  obtain ⟨r, hr, hr1, hr2⟩ := bytes_l0 l hb hl d [] (p + 1) k .nil (by omega) (by omega) (by omega) (by simp; omega) (by omega)
  exact ⟨r, _, hr, hr1, by rw [hr2]; simp; omega, by omega, by omega⟩

/-! ### sums: one bit, eight bits, a byte, bytes -/
def one (x : Nat) : Nat := if x % 2 = 1 then (x / 2) ^^^ 40961 else x / 2
def ones : Nat → Nat → Nat
  | 0, x => x
  | n + 1, x => ones n (one x)
def stp (s b : Nat) : Nat := ones 8 (s ^^^ b)
def crc (s : Nat) (l : List Int) : Nat := l.foldl (fun s b => stp s b.toNat) s
theorem div_xor (a b : Nat) : (a ^^^ b) / 2 = a / 2 ^^^ b / 2 := by
  have := Nat.shiftRight_xor_distrib (a := a) (b := b) (i := 1)
  simpa [Nat.shiftRight_eq_div_pow] using this
theorem mod_xor (a b : Nat) : (a ^^^ b) % 2 = (a % 2 + b % 2) % 2 := by
  have h := Nat.testBit_xor (x := a) (y := b) (i := 0)
  simp only [Nat.testBit_zero] at h
  rcases Nat.mod_two_eq_zero_or_one a with h1 | h1 <;> rcases Nat.mod_two_eq_zero_or_one b with h2 | h2 <;> rcases Nat.mod_two_eq_zero_or_one (a ^^^ b) with h3 | h3 <;> simp_all
theorem one_lt {x : Nat} (h : x < 2 ^ 16) : one x < 2 ^ 16 := by
  unfold one
  split
  · exact Nat.xor_lt_two_pow (by omega) (by decide)
  · omega
theorem ones_lt (n : Nat) : ∀ {x : Nat}, x < 2 ^ 16 → ones n x < 2 ^ 16 := by
  induction n with
  | zero => exact fun h => h
  | succ n ih => exact fun h => ih (one_lt h)
theorem stp_lt {s b : Nat} (h : s < 2 ^ 16) (hb : b < 2 ^ 16) : stp s b < 2 ^ 16 := ones_lt 8 (Nat.xor_lt_two_pow h hb)
theorem one_xor (x y : Nat) : one (x ^^^ y) = one x ^^^ one y := by
  unfold one
  rw [mod_xor, div_xor]
  rcases Nat.mod_two_eq_zero_or_one x with hx | hx <;> rcases Nat.mod_two_eq_zero_or_one y with hy | hy <;> rw [hx, hy]
  · simp
  · simp [Nat.xor_assoc]
  · simp only [show (1 + 0) % 2 = 1 by decide, show ¬ (0 = 1) by decide, if_true, if_false]
    rw [Nat.xor_assoc, Nat.xor_assoc, Nat.xor_comm (y / 2)]
  · simp only [show (1 + 1) % 2 ≠ 1 by decide, if_true, if_false]
    rw [Nat.xor_assoc, ← Nat.xor_assoc 40961, Nat.xor_comm 40961 (y / 2), Nat.xor_assoc (y / 2), Nat.xor_self, Nat.xor_zero]
theorem ones_xor (n : Nat) : ∀ (x y : Nat), ones n (x ^^^ y) = ones n x ^^^ ones n y := by
  induction n with
  | zero => exact fun _ _ => rfl
  | succ n ih => intro x y; rw [ones, one_xor, ih]; rfl
theorem one_zero {x : Nat} (hx : x < 2 ^ 16) (h : one x = 0) : x = 0 := by
  unfold one at h
  split at h
  · have h2 : x / 2 = 40961 := by
      have := congrArg (fun z => z ^^^ 40961) h
      simpa [Nat.xor_assoc] using this
    omega
  · omega
theorem ones_zero (n : Nat) : ∀ {x : Nat}, x < 2 ^ 16 → ones n x = 0 → x = 0 := by
  induction n with
  | zero => exact fun _ h => h
  | succ n ih => exact fun hx h => one_zero hx (ih (one_lt hx) h)
theorem ones_at_zero (n : Nat) : ones n 0 = 0 := by
  induction n with
  | zero => rfl
  | succ n ih => rw [ones]; exact ih
theorem xor_eq_zero' {a b : Nat} (h : a ^^^ b = 0) : a = b := by
  have := congrArg (fun z => z ^^^ b) h
  simpa [Nat.xor_assoc] using this
theorem ones_inj (n : Nat) {x y : Nat} (hx : x < 2 ^ 16) (hy : y < 2 ^ 16) (h : ones n x = ones n y) : x = y := by
  apply xor_eq_zero'
  apply ones_zero n (Nat.xor_lt_two_pow hx hy)
  rw [ones_xor, h, Nat.xor_self]
theorem xor_left_inj' {a b c : Nat} (h : a ^^^ b = a ^^^ c) : b = c := by
  have := congrArg (fun z => a ^^^ z) h
  simpa [← Nat.xor_assoc] using this
theorem xor_right_inj' {a b c : Nat} (h : b ^^^ a = c ^^^ a) : b = c := by
  rw [Nat.xor_comm b, Nat.xor_comm c] at h
  exact xor_left_inj' h
theorem stp_inj_byte {s b c : Nat} (hs : s < 2 ^ 16) (hb : b < 2 ^ 16) (hc : c < 2 ^ 16) (h : stp s b = stp s c) : b = c :=
  xor_left_inj' (ones_inj 8 (Nat.xor_lt_two_pow hs hb) (Nat.xor_lt_two_pow hs hc) h)
theorem stp_inj_sum {s t b : Nat} (hs : s < 2 ^ 16) (ht : t < 2 ^ 16) (hb : b < 2 ^ 16) (h : stp s b = stp t b) : s = t :=
  xor_right_inj' (ones_inj 8 (Nat.xor_lt_two_pow hs hb) (Nat.xor_lt_two_pow ht hb) h)
theorem byte_lt {x : Int} (h : 0 ≤ x ∧ x ≤ 255) : x.toNat < 2 ^ 16 := by omega
theorem crc_lt {l : List Int} (hl : Bytes l) : ∀ {s : Nat}, s < 2 ^ 16 → crc s l < 2 ^ 16 := by
  induction l with
  | nil => exact fun h => h
  | cons a l ih =>
    intro s hs
    exact ih (fun x hx => hl x (List.mem_cons_of_mem _ hx)) (stp_lt hs (byte_lt (hl a List.mem_cons_self)))
theorem crc_append (s : Nat) (l m : List Int) : crc s (l ++ m) = crc (crc s l) m := by simp [crc, List.foldl_append]
theorem crc_cons (s : Nat) (a : Int) (l : List Int) : crc s (a :: l) = crc (stp s a.toNat) l := rfl
/-- What follows tells two sums apart. -/
theorem crc_inj {l : List Int} (hl : Bytes l) : ∀ {s t : Nat}, s < 2 ^ 16 → t < 2 ^ 16 → crc s l = crc t l → s = t := by
  induction l with
  | nil => exact fun _ _ h => h
  | cons a l ih =>
    intro s t hs ht h
    have hb := byte_lt (hl a List.mem_cons_self)
    exact stp_inj_sum hs ht hb (ih (fun x hx => hl x (List.mem_cons_of_mem _ hx)) (stp_lt hs hb) (stp_lt ht hb) h)
/-- A sum's lower byte behind it leaves its higher one. -/
theorem ones_shift (n : Nat) : ∀ (q : Nat), ones n (2 ^ n * q) = q := by
  induction n with
  | zero => intro q; simp [ones]
  | succ n ih =>
    intro q
    rw [ones]
    have h : one (2 ^ (n + 1) * q) = 2 ^ n * q := by
      have e : 2 ^ (n + 1) * q = 2 * (2 ^ n * q) := by rw [Nat.pow_succ, Nat.mul_comm (2 ^ n) 2, Nat.mul_assoc]
      rw [e]
      unfold one
      rw [if_neg (by omega)]
      omega
    rw [h, ih]
theorem low_xor (s : Nat) : s ^^^ s % 256 = 256 * (s / 256) := by
  have h1 : s = 256 * (s / 256) + s % 256 := by omega
  have h2 : 256 * (s / 256) + s % 256 = 256 * (s / 256) ||| s % 256 := by
    have := Nat.two_pow_add_eq_or_of_lt (i := 8) (b := s % 256) (by omega) (s / 256)
    simpa using this
  apply Nat.eq_of_testBit_eq
  intro i
  rw [Nat.testBit_xor]
  have h3 : (256 * (s / 256)).testBit i = (decide (8 ≤ i) && (s / 256).testBit (i - 8)) := by
    have := Nat.testBit_two_pow_mul (i := 8) (a := s / 256) (j := i)
    simpa using this
  have h4 : (s % 256).testBit i = (decide (i < 8) && s.testBit i) := by
    have := Nat.testBit_mod_two_pow s 8 i
    simpa using this
  have h5 : (s / 256).testBit (i - 8) = s.testBit (8 + (i - 8)) := by
    have := Nat.testBit_div_two_pow (n := 8) s (i - 8)
    simpa [Nat.add_comm] using this
  rw [h3, h4, h5]
  by_cases hi : i < 8
  · simp [hi, show ¬ 8 ≤ i by omega]
  · simp [hi, show 8 ≤ i by omega, show 8 + (i - 8) = i by omega]
theorem stp_low (s : Nat) : stp s (s % 256) = s / 256 := by
  unfold stp
  rw [low_xor]
  exact ones_shift 8 _
theorem stp_self (s : Nat) : stp s s = 0 := by
  unfold stp
  rw [Nat.xor_self]
  exact ones_at_zero 8
/-- Bytes with their sum behind have the sum 0. -/
theorem crc_put (s : Nat) : stp (stp s (s % 256)) (s / 256) = 0 := by rw [stp_low, stp_self]
/-- Two bytes behind one another, from two sums. -/
theorem stp_xor (s t b c : Nat) : stp (s ^^^ t) (b ^^^ c) = stp s b ^^^ stp t c := by
  unfold stp
  rw [← ones_xor]
  congr 1
  rw [Nat.xor_assoc, Nat.xor_assoc]
  congr 1
  rw [← Nat.xor_assoc, Nat.xor_comm t b, Nat.xor_assoc]
theorem two_stps {a b : Nat} (ha : a < 256) (hb : b < 256) (h : stp (stp 0 a) b = 0) : a = 0 ∧ b = 0 := by
  have h1 : stp (stp 0 a) b = ones 8 (ones 8 (a ^^^ 256 * b)) := by
    unfold stp
    rw [ones_xor 8 a, Nat.zero_xor]
    congr 1
    have := ones_shift 8 b
    rw [show 2 ^ 8 = 256 by decide] at this
    rw [this]
  rw [h1] at h
  have h256 : 256 * b < 2 ^ 16 := by omega
  have hlt : a ^^^ 256 * b < 2 ^ 16 := Nat.xor_lt_two_pow (by omega) h256
  have h2 := xor_eq_zero' (ones_zero 8 hlt (ones_zero 8 (ones_lt 8 hlt) h))
  omega

/-! ### the program's and the reference's sums -/
theorem step_l0 (d : Nat) : ∀ (x : Nat) (i : Int) (k : Nat), x < 2 ^ 16 → 0 ≤ i → i + d = 8 → d + 1 ≤ k → impl_step.l0 k (x : Int) i = some ((ones d x : Nat) : Int) := by
  induction d with
  | zero =>
    intro x i k hx h0 h1 hk
    obtain ⟨k, rfl⟩ : ∃ m, k = m + 1 := ⟨k - 1, by omega⟩
    simp only [impl_step.l0]
    rw [if_neg (by omega)]
    rfl
  | succ d ih =>
    intro x i k hx h0 h1 hk
    obtain ⟨k, rfl⟩ : ∃ m, k = m + 1 := ⟨k - 1, by omega⟩
    simp only [impl_step.l0]
    rw [if_pos (by omega), and1 x (by omega), w64 (by omega) (by omega)]
    have hd : (x : Int) / 2 = ((x / 2 : Nat) : Int) := by omega
    rw [hd, show (40961 : Int) = ((40961 : Nat) : Int) by rfl, xor64 _ _ (by omega) (by decide)]
    have h1' : ones (d + 1) x = ones d (one x) := rfl
    rw [h1']
    by_cases hp : x % 2 = 1
    · rw [if_pos (by rw [hp]; rfl), ih _ _ _ (Nat.xor_lt_two_pow (by omega) (by decide)) (by omega) (by omega) (by omega)]
      unfold one
      rw [if_pos hp]
    · rw [if_neg (by omega), ih _ _ _ (by omega) (by omega) (by omega) (by omega)]
      unfold one
      rw [if_neg hp]
theorem step_eq (s b : Nat) (hs : s < 2 ^ 16) (hb : b < 2 ^ 16) (k : Nat) (hk : 10 ≤ k) : impl_step.f k (s : Int) (b : Int) = some ((stp s b : Nat) : Int) := by
  unfold impl_step.f
  rw [w64 (by omega) (by omega), xor64 _ _ (by omega) (by omega)]
  exact step_l0 8 _ _ _ (Nat.xor_lt_two_pow hs hb) (by omega) (by omega) (by omega)
theorem spec_step_l0 (d : Nat) : ∀ (x : Nat) (i : Int) (k : Nat), x < 2 ^ 16 → 0 ≤ i → i + d = 8 → d + 1 ≤ k → spec_CrcStep.l0 k (x : Int) i = some ((ones d x : Nat) : Int) := by
  induction d with
  | zero =>
    intro x i k hx h0 h1 hk
    obtain ⟨k, rfl⟩ : ∃ m, k = m + 1 := ⟨k - 1, by omega⟩
    simp only [spec_CrcStep.l0]
    rw [if_neg (by omega)]
    rfl
  | succ d ih =>
    intro x i k hx h0 h1 hk
    obtain ⟨k, rfl⟩ : ∃ m, k = m + 1 := ⟨k - 1, by omega⟩
    simp only [spec_CrcStep.l0]
    rw [if_pos (by omega), Int.tmod_eq_emod_of_nonneg (by omega), Int.tdiv_eq_ediv_of_nonneg (by omega), w64 (x := i + 1) (by omega) (by omega)]
    have hd : (x : Int) / 2 = ((x / 2 : Nat) : Int) := by omega
    rw [w64 (x := (x : Int) / 2) (by omega) (by omega), hd, show (40961 : Int) = ((40961 : Nat) : Int) by rfl, xor64 _ _ (by omega) (by decide)]
    have h1' : ones (d + 1) x = ones d (one x) := rfl
    rw [h1']
    by_cases hp : x % 2 = 1
    · rw [if_pos (by omega), ih _ _ _ (Nat.xor_lt_two_pow (by omega) (by decide)) (by omega) (by omega) (by omega)]
      unfold one
      rw [if_pos hp]
    · rw [if_neg (by omega), ih _ _ _ (by omega) (by omega) (by omega) (by omega)]
      unfold one
      rw [if_neg hp]
theorem in_eq (a b c : Int) : impl_in.f a b c = some (decide (b ≤ a ∧ a ≤ c)) := by
  unfold impl_in.f
  by_cases h : a ≥ b
  · rw [if_pos h]; simp [h]
  · rw [if_neg h]; simp [h]
theorem l1In_eq (a b c : Int) : spec_l1In.f a b c = some (decide (b ≤ a ∧ a ≤ c)) := by
  unfold spec_l1In.f
  by_cases h : a ≥ b
  · rw [if_pos h]; simp [h]
  · rw [if_neg h]; simp [h]
theorem spec_step_eq (s b : Nat) (hs : s < 2 ^ 16) (hb : b < 2 ^ 16) (k : Nat) (hk : 10 ≤ k) : spec_CrcStep.f k (s : Int) (b : Int) = some ((stp s b : Nat) : Int) := by
  unfold spec_CrcStep.f
  rw [l1In_eq]; simp only [Option.bind_some]
  rw [if_pos (by simp; omega), w64 (by omega) (by omega), xor64 _ _ (by omega) (by omega)]
  exact spec_step_l0 8 _ _ _ (Nat.xor_lt_two_pow hs hb) (by omega) (by omega) (by omega)
theorem liOk_eq : laws_liOk.f = some true := by decide

theorem rd_drop {l : List Int} {i : Nat} (hi : i < l.length) : l.drop i = rd l (i : Int) :: l.drop (i + 1) := by
  rw [List.drop_eq_getElem_cons hi]
  congr 1
  unfold rd
  rw [List.getD_eq_getElem?_getD, Int.toNat_natCast, List.getElem?_eq_getElem hi]
  rfl
theorem CrcOf_l0 (l : List Int) (hb : Bytes l) (hl : l.length ≤ 1000000000) (d : Nat) : ∀ (s i k : Nat), s < 2 ^ 16 → i + d = l.length → d + 20 ≤ k → impl_CrcOf.l0 k (s : Int) l (l.length : Int) (i : Int) = some ((crc s (l.drop i) : Nat) : Int) := by
  induction d with
  | zero =>
    intro s i k hs hi hk
    obtain ⟨k, rfl⟩ : ∃ m, k = m + 1 := ⟨k - 1, by omega⟩
    simp only [impl_CrcOf.l0]
    rw [if_neg (by omega), List.drop_of_length_le (by omega)]
    rfl
  | succ d ih =>
    intro s i k hs hi hk
    obtain ⟨k, rfl⟩ : ∃ m, k = m + 1 := ⟨k - 1, by omega⟩
    simp only [impl_CrcOf.l0]
    have hr := hb.at_ (i : Int)
    rw [if_pos (by omega), if_pos (by omega), if_pos (by omega), w64 (by omega) (by omega)]
    rw [rd_drop (show i < l.length by omega), crc_cons]
    obtain ⟨x, hx⟩ : ∃ x : Nat, rd l (i : Int) = (x : Int) := ⟨(rd l (i : Int)).toNat, by omega⟩
    rw [hx] at hr ⊢
    rw [step_eq s x hs (by omega) k (by omega)]
    simp only [Option.bind_some, Int.toNat_natCast]
    exact ih _ (i + 1) k (stp_lt hs (by omega)) (by omega) (by omega)
theorem CrcOf_eq (l : List Int) (hb : Bytes l) (hl : l.length ≤ 1000000000) (k : Nat) (hk : l.length + 20 ≤ k) : impl_CrcOf.f k l = some ((crc 0 l : Nat) : Int) := by
  unfold impl_CrcOf.f
  exact CrcOf_l0 l hb hl l.length 0 0 k (by decide) (by omega) (by omega)
theorem spec_CrcOf_l0 (l : List Int) (hb : Bytes l) (hl : l.length ≤ 1000000000) (d : Nat) : ∀ (s i k : Nat), s < 2 ^ 16 → i + d = l.length → d + 20 ≤ k → spec_CrcOf.l0 k l (s : Int) (i : Int) = some ((crc s (l.drop i) : Nat) : Int) := by
  induction d with
  | zero =>
    intro s i k hs hi hk
    obtain ⟨k, rfl⟩ : ∃ m, k = m + 1 := ⟨k - 1, by omega⟩
    simp only [spec_CrcOf.l0]
    rw [if_neg (by omega), List.drop_of_length_le (by omega)]
    rfl
  | succ d ih =>
    intro s i k hs hi hk
    obtain ⟨k, rfl⟩ : ∃ m, k = m + 1 := ⟨k - 1, by omega⟩
    simp only [spec_CrcOf.l0]
    have hr := hb.at_ (i : Int)
    rw [if_pos (by omega), if_pos (by omega), w64 (by omega) (by omega)]
    rw [rd_drop (show i < l.length by omega), crc_cons]
    obtain ⟨x, hx⟩ : ∃ x : Nat, rd l (i : Int) = (x : Int) := ⟨(rd l (i : Int)).toNat, by omega⟩
    rw [hx] at hr ⊢
    rw [spec_step_eq s x hs (by omega) k (by omega)]
    simp only [Option.bind_some, Int.toNat_natCast]
    exact ih _ (i + 1) k (stp_lt hs (by omega)) (by omega) (by omega)
theorem spec_CrcOf_eq (l : List Int) (hb : Bytes l) (hl : l.length ≤ 1000000000) (k : Nat) (hk : l.length + 20 ≤ k) : spec_CrcOf.f k l = some ((crc 0 l : Nat) : Int) := by
  unfold spec_CrcOf.f
  exact spec_CrcOf_l0 l hb hl l.length 0 0 k (by decide) (by omega) (by omega)

theorem draw_crcof (l : List Int) (hb : Bytes l) (k : Nat) (hk : 1000 ≤ k) : ∃ r, spec_DrawCrcOf.f k l = some r ∧ Bytes r ∧ r.length ≤ 20 := by
  unfold spec_DrawCrcOf.f
  rw [open_eq]; simp only [Option.bind_some]
  obtain ⟨r, q, h, h1, h2, _⟩ := bytes_some (l.take 2000) (hb.take 2000) (by rw [List.length_take]; omega) 0 20 (by omega) (by omega) (by omega) (by omega) k hk
  rw [h]
  exact ⟨r, rfl, h1, by omega⟩

theorem nat_of {x : Int} (h : 0 ≤ x ∧ x ≤ 255) : ∃ n : Nat, x = (n : Int) ∧ n < 256 := ⟨x.toNat, by omega, by omega⟩
theorem cut2 {r : List Int} {i : Nat} (hi : i + 1 < r.length) : r = r.take i ++ rd r (i : Int) :: rd r ((i + 1 : Nat) : Int) :: r.drop (i + 1 + 1) := by
  rw [← rd_drop hi, ← rd_drop (by omega), List.take_append_drop]
theorem set2 {r : List Int} {i : Nat} (hi : i + 1 < r.length) (a b : Int) : (r.set i a).set (i + 1) b = r.take i ++ a :: b :: r.drop (i + 1 + 1) := by
  apply List.ext_getElem?
  intro j
  rw [List.getElem?_set, List.getElem?_set]
  rcases Nat.lt_trichotomy j i with h | h | h
  · rw [if_neg (by omega), if_neg (by omega), List.getElem?_append_left (by rw [List.length_take]; omega), List.getElem?_take, if_pos h]
  · subst h
    rw [if_neg (by omega), if_pos rfl, List.getElem?_append_right (by rw [List.length_take]; omega), List.length_take, Nat.min_eq_left (by omega), Nat.sub_self]
    simp; omega
  · rcases Nat.lt_or_eq_of_le (show i + 1 ≤ j by omega) with h2 | h2
    · rw [if_neg (by omega), if_neg (by omega), List.getElem?_append_right (by rw [List.length_take]; omega), List.length_take, Nat.min_eq_left (by omega)]
      obtain ⟨m, rfl⟩ : ∃ m, j = i + 1 + 1 + m := ⟨j - (i + 1 + 1), by omega⟩
      rw [show i + 1 + 1 + m - i = m + 1 + 1 by omega, List.getElem?_cons_succ, List.getElem?_cons_succ, List.getElem?_drop]
    · subst h2
      rw [if_pos rfl, List.getElem?_append_right (by rw [List.length_take]; omega), List.length_take, Nat.min_eq_left (by omega), show i + 1 - i = 1 by omega]
      simp; omega
theorem rd_set_other {r : List Int} {i : Nat} (a : Int) : rd (r.set i a) ((i + 1 : Nat) : Int) = rd r ((i + 1 : Nat) : Int) := by
  unfold rd
  rw [List.getD_eq_getElem?_getD, List.getD_eq_getElem?_getD, Int.toNat_natCast, List.getElem?_set, if_neg (by omega)]
theorem burst (r : List Int) (hb : Bytes r) (hl : r.length ≤ 20) (i : Nat) (hi : i + 1 < r.length) (o t : Nat) (ho : o < 256) (ht : t < 256) (hn : ¬ (o = 0 ∧ t = 0)) (k : Nat) (hk : 40 ≤ k) :
    ((some (([] : List Int) : List Int)).bind fun y150 => (if y150.length + r.length < 140737488355328 then ((some (y150 ++ r : List Int)).bind fun y153 => (if 0 ≤ (i : Int) then (if (i : Int) < (y153.length : Int) then ((some (y153.set ((i : Int) : Int).toNat (Go.bits .xor .u8 (rd y153 (i : Int)) (o : Int)) : List Int)).bind fun y157 => (if 0 ≤ (wrap64 ((i : Int) + 1)) then (if (wrap64 ((i : Int) + 1)) < (y153.length : Int) then ((impl_CrcOf.f k (y157.set ((wrap64 ((i : Int) + 1)) : Int).toNat (Go.bits .xor .u8 (rd y157 (wrap64 ((i : Int) + 1))) (t : Int)))).bind fun t160 => (some (t160 != ((crc 0 r : Nat) : Int)))) else (none)) else (none))) else (none)) else (none))) else (none))) = some true := by
  rw [Option.bind_some, List.nil_append, if_pos (by rw [List.length_nil]; omega), Option.bind_some, if_pos (by omega), if_pos (by omega), Option.bind_some, w64 (by omega) (by omega)]
  rw [show ((i : Int) + 1) = ((i + 1 : Nat) : Int) by omega, if_pos (by omega), if_pos (by omega), Int.toNat_natCast, Int.toNat_natCast, rd_set_other, set2 hi]
  have hx := hb.at_ (i : Int)
  have hy := hb.at_ ((i + 1 : Nat) : Int)
  obtain ⟨X, hX, X2⟩ := nat_of hx
  obtain ⟨Y, hY, Y2⟩ := nat_of hy
  have hx8 := Nat.xor_lt_two_pow (n := 8) X2 ho
  have hy8 := Nat.xor_lt_two_pow (n := 8) Y2 ht
  have hq : Bytes (r.drop (i + 1 + 1)) := hb.drop _
  rw [hX, hY, xor8 X o X2 ho, xor8 Y t Y2 ht]
  have hbn : Bytes (r.take i ++ ((X ^^^ o : Nat) : Int) :: ((Y ^^^ t : Nat) : Int) :: r.drop (i + 1 + 1)) := (hb.take i).append (.cons (by omega) (by omega) (.cons (by omega) (by omega) hq))
  rw [CrcOf_eq _ hbn (by simp; omega) k (by simp; omega)]
  rw [Option.bind_some]
  congr 1
  rw [bne_iff_ne]
  intro he
  rw [Int.natCast_inj] at he
  have hr := cut2 hi
  rw [hX, hY] at hr
  have hS := crc_lt (hb.take i) (s := 0) (by decide)
  have he2 : crc 0 (r.take i ++ ((X ^^^ o : Nat) : Int) :: ((Y ^^^ t : Nat) : Int) :: r.drop (i + 1 + 1)) = crc 0 (r.take i ++ (X : Int) :: (Y : Int) :: r.drop (i + 1 + 1)) := by rw [he, ← hr]
  rw [crc_append, crc_append, crc_cons, crc_cons, crc_cons, crc_cons] at he2
  simp only [Int.toNat_natCast] at he2
  have h1 := crc_inj hq (stp_lt (stp_lt hS (by omega)) (by omega)) (stp_lt (stp_lt hS (by omega)) (by omega)) he2
  have h2 : stp (stp 0 o) t = 0 := by
    have e1 : stp (stp (crc 0 (r.take i)) (X ^^^ o)) (Y ^^^ t) ^^^ stp (stp (crc 0 (r.take i)) X) Y = 0 := by rw [h1, Nat.xor_self]
    rw [← stp_xor, ← stp_xor, Nat.xor_self] at e1
    rw [Nat.xor_comm X o, Nat.xor_comm Y t, Nat.xor_assoc, Nat.xor_assoc, Nat.xor_self, Nat.xor_self, Nat.xor_zero, Nat.xor_zero] at e1
    exact e1
  exact hn (two_stps ho ht h2)
theorem FnCrcBurst : laws_FnCrcBurst.Pure := by
  intro l0 l1 _ _ w0 _ _ w1
  have hb0 := Bytes.of_wf w0
  obtain ⟨r, hd, hr, hl⟩ := draw_crcof l0 hb0 2000 (by omega)
  have j0 : ∀ x : Bool, laws_FnCrcBurst.j0 (2000 + 1) l0 l1 x = some true := by
    intro x
    simp only [laws_FnCrcBurst.j0]
    cases x with
    | true => rw [if_pos rfl]
    | false =>
      rw [if_neg (by decide), hd, Option.bind_some]
      rw [CrcOf_eq r hr (by omega) 2000 (by omega), spec_CrcOf_eq r hr (by omega) 2000 (by omega)]
      rw [Option.bind_some, Option.bind_some, if_pos rfl]
      by_cases h2 : (r.length : Int) < 2
      · rw [if_pos h2, liOk_eq]; rfl
      · rw [if_neg h2]
        have hw : wrap64 ((r.length : Int) - 1) = (r.length : Int) - 1 := w64 (by omega) (by omega)
        rw [hw, if_neg (by omega)]
        obtain ⟨i, hi⟩ : ∃ i : Nat, (l1.length : Int) % ((r.length : Int) - 1) = (i : Int) := ⟨((l1.length : Int) % ((r.length : Int) - 1)).toNat, by have := Int.emod_nonneg (l1.length : Int) (show (r.length : Int) - 1 ≠ 0 by omega); omega⟩
        have hi2 := Int.emod_lt_of_pos (l1.length : Int) (show 0 < (r.length : Int) - 1 by omega)
        rw [hi] at hi2 ⊢
        have e1 := Int.emod_nonneg (wrap64 ((l1.length : Int) * 7)) (show (256 : Int) ≠ 0 by omega)
        have e2 := Int.emod_lt_of_pos (wrap64 ((l1.length : Int) * 7)) (show (0 : Int) < 256 by omega)
        have e3 := Int.emod_nonneg (wrap64 (wrap64 ((l0.length : Int) * 13) + (l1.length : Int))) (show (256 : Int) ≠ 0 by omega)
        have e4 := Int.emod_lt_of_pos (wrap64 (wrap64 ((l0.length : Int) * 13) + (l1.length : Int))) (show (0 : Int) < 256 by omega)
        generalize wrap64 ((l1.length : Int) * 7) % 256 = o at e1 e2 ⊢
        generalize wrap64 (wrap64 ((l0.length : Int) * 13) + (l1.length : Int)) % 256 = t at e3 e4 ⊢
        obtain ⟨O, rfl⟩ : ∃ n : Nat, o = (n : Int) := ⟨o.toNat, by omega⟩
        obtain ⟨T, rfl⟩ : ∃ n : Nat, t = (n : Int) := ⟨t.toNat, by omega⟩
        by_cases ho : (O : Int) = 0
        · rw [if_pos ho]
          by_cases ht : (T : Int) = 0
          · rw [if_pos ht]
            exact burst r hr hl i (by omega) 1 T (by omega) (by omega) (by omega) 2000 (by omega)
          · rw [if_neg ht]
            exact burst r hr hl i (by omega) O T (by omega) (by omega) (by omega) 2000 (by omega)
        · rw [if_neg ho]
          exact burst r hr hl i (by omega) O T (by omega) (by omega) (by omega) 2000 (by omega)
  refine ⟨2001, ?_⟩
  unfold laws_FnCrcBurst.f
  split
  · exact j0 _
  · exact j0 _

end Go.Proofs.Ytgdioppiopppeaa.Pure
