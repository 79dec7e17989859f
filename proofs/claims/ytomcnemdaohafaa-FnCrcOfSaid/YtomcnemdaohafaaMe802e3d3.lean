/- A part of the proof of laws of the program: what calls of the program answer. Conditions: none. -/
import Derived.Test.YtomcnemdaohafaaM7d0dc285
set_option linter.unusedVariables false
set_option linter.unusedSimpArgs false
set_option linter.unusedSectionVars false
/- Contracts: Q. Conditions: none. -/
set_option linter.unusedVariables false
set_option maxHeartbeats 1600000
namespace Go.Proofs.YtomcnemdaohafaaE
open Go
theorem rd_cons_zero (a : Int) (l : List Int) : rd (a :: l) 0 = a := rfl
theorem crc_set_ne {x : Int} (hx : 0 ≤ x ∧ x ≤ 255) : ∀ {l : List Int} (i : Nat) {s : Nat}, Bytes l → s < 2 ^ 16 → i < l.length → x ≠ l.getD i 0 → crc s (l.set i x) ≠ crc s l
  | [], i, s, hb, hs, hi, hn => by simp at hi
  | a :: l, 0, s, hb, hs, hi, hn => by
    have ha := hb a List.mem_cons_self
    have hl : Bytes l := fun y hy => hb y (List.mem_cons_of_mem _ hy)
    rw [List.set_cons_zero, crc_cons, crc_cons]
    intro e
    have h1 := crc_inj hl (stp_lt hs (byte_lt hx)) (stp_lt hs (byte_lt ha)) e
    have h2 := stp_inj_byte hs (byte_lt hx) (byte_lt ha) h1
    apply hn
    show x = a
    omega
  | a :: l, i + 1, s, hb, hs, hi, hn => by
    have ha := hb a List.mem_cons_self
    have hl : Bytes l := fun y hy => hb y (List.mem_cons_of_mem _ hy)
    rw [List.set_cons_succ, crc_cons, crc_cons]
    exact crc_set_ne hx i hl (stp_lt hs (byte_lt ha)) (by simpa using hi) (by simpa using hn)
theorem two_sum {s u v : Nat} (hs : s < 65536) (hu : u < 256) (hv : v < 256) (h : stp (stp s u) v = 0) : u = s % 256 ∧ v = s / 256 := by
  have h1 := crc_put s
  have h2 := stp_xor (stp s u) (stp s (s % 256)) v (s / 256)
  rw [h, h1, ← stp_xor, Nat.xor_self, Nat.xor_self] at h2
  have e1 : u ^^^ s % 256 < 2 ^ 8 := Nat.xor_lt_two_pow (by omega) (by omega)
  have e2 : v ^^^ s / 256 < 2 ^ 8 := Nat.xor_lt_two_pow (by omega) (by omega)
  obtain ⟨a, b⟩ := two_stps (by omega) (by omega) h2
  exact ⟨xor_eq_zero' a, xor_eq_zero' b⟩
theorem cut_iff {l : List Int} (hl : Bytes l) (h : 2 ≤ l.length) : CutP l ↔ crc 0 l = 0 := by
  have hs := split2 l h
  have hc := crc0_lt (hl.take (l.length - 2))
  obtain ⟨a1, a2⟩ := hl.at_ ((l.length : Int) - 2)
  obtain ⟨b1, b2⟩ := hl.at_ ((l.length : Int) - 1)
  have e : crc 0 l = stp (stp (crc 0 (l.take (l.length - 2))) (rd l (l.length - 2)).toNat) (rd l (l.length - 1)).toNat := by
    conv => lhs; rw [hs]
    rw [crc_append]
    rfl
  rw [e]
  unfold CutP
  constructor
  · rintro ⟨_, h2⟩
    have e1 : (rd l (l.length - 2)).toNat = crc 0 (l.take (l.length - 2)) % 256 := by omega
    have e2 : (rd l (l.length - 1)).toNat = crc 0 (l.take (l.length - 2)) / 256 := by omega
    rw [e1, e2]
    exact crc_put _
  · intro h2
    obtain ⟨e1, e2⟩ := two_sum hc (by omega) (by omega) h2
    exact ⟨h, by omega⟩
theorem take_put (b : List Int) : (crcPut b).take ((crcPut b).length - 2) = b := by
  rw [crcPut_len]
  unfold crcPut
  simp
theorem put_cutP {b : List Int} (h : Bytes b) : CutP (crcPut b) := by
  refine (cut_put (crcPut_bytes h) (by rw [crcPut_len]; omega)).1 ?_
  rw [take_put]
theorem put_cut {b : List Int} (h : Bytes b) : crcCut (crcPut b) = b := by
  unfold crcCut
  rw [if_pos (put_cutP h), take_put]
theorem cut_put2 {c : List Int} (h : Bytes c) (hc : CutP c) : crcPut (crcCut c) = c := by
  unfold crcCut
  rw [if_pos hc]
  exact (cut_put h hc.1).2 hc
theorem cut_nil {c : List Int} (hc : ¬ CutP c) : crcCut c = [] := by unfold crcCut; rw [if_neg hc]
/-- A byte turned: not its own sum. -/
theorem turn_ne {a y : Int} (ha : 0 ≤ a ∧ a ≤ 255) (hy : 1 ≤ y ∧ y ≤ 255) : Go.bits .xor .u8 a (IntKind.wrap .u8 y) ≠ a := by
  obtain ⟨a, rfl⟩ : ∃ n : Nat, a = n := ⟨a.toNat, by omega⟩
  obtain ⟨y, rfl⟩ : ∃ n : Nat, y = n := ⟨y.toNat, by omega⟩
  rw [wr8 (by omega) (by omega), xor8 _ _ (by omega) (by omega)]
  intro e
  have e2 : a ^^^ y = a := by omega
  have : a ^^^ y = a ^^^ 0 := by rw [e2, Nat.xor_zero]
  have := xor_left_inj' this
  omega
theorem bent_cut {p : List Int} (hp : Bytes p) (h0 : crc 0 p = 0) {n : Nat} (hn : n < p.length) (y : Int) (hy : 1 ≤ y ∧ y ≤ 255) : ¬ CutP (p.set n (Go.bits .xor .u8 (at_u8 p n) (IntKind.wrap .u8 y))) := by
  intro hc
  have hb : Bytes (p.set n (Go.bits .xor .u8 (at_u8 p n) (IntKind.wrap .u8 y))) := Bytes.setx hp n y
  have h1 := (cut_iff hb hc.1).1 hc
  have h2 := crc_set_ne (l := p) (xor8_lt (hp.at8 n) (wr8_lt y)) n hp (show 0 < 2 ^ 16 by decide) hn (turn_ne (hp.at8 n) hy)
  rw [h0] at h2
  exact h2 h1
theorem put_crc {b : List Int} (h : Bytes b) : crc 0 (crcPut b) = 0 := (cut_iff (crcPut_bytes h) (by rw [crcPut_len]; omega)).1 (put_cutP h)
theorem bent_at {p : List Int} (hp : Bytes p) (h0 : crc 0 p = 0) (h2 : 2 ≤ p.length) (n m : Nat) :
    (crcCut2 (p.set (Int.tmod ((m : Int) * 37 + (n : Int)) (p.length : Int)).toNat (Go.bits .xor .u8 (at_u8 p (Int.tmod ((m : Int) * 37 + (n : Int)) (p.length : Int)).toNat) (IntKind.wrap .u8 (1 + Int.tmod (m : Int) 255))))).ok = false := by
  have a1 := Int.tmod_lt_of_pos ((m : Int) * 37 + (n : Int)) (show 0 < (p.length : Int) by omega)
  have a2 := Int.tmod_nonneg (p.length : Int) (show 0 ≤ (m : Int) * 37 + (n : Int) by omega)
  have b1 := Int.tmod_lt_of_pos (m : Int) (show (0 : Int) < 255 by decide)
  have b2 := Int.tmod_nonneg 255 (show 0 ≤ (m : Int) by omega)
  unfold crcCut2
  exact decide_eq_false (bent_cut hp h0 (by omega) _ (by omega))
theorem bent_put {b : List Int} (h : Bytes b) (n m : Nat) :
    (crcCut2 ((crcPut b).set (Int.tmod ((m : Int) * 37 + (n : Int)) ((crcPut b).length : Int)).toNat (Go.bits .xor .u8 (at_u8 (crcPut b) (Int.tmod ((m : Int) * 37 + (n : Int)) ((crcPut b).length : Int)).toNat) (IntKind.wrap .u8 (1 + Int.tmod (m : Int) 255))))).ok = false :=
  bent_at (crcPut_bytes h) (put_crc h) (by rw [crcPut_len]; omega) n m

end Go.Proofs.YtomcnemdaohafaaE

/- Calls answer what is promised: Q. Conditions: none. -/
set_option linter.unusedVariables false
set_option maxHeartbeats 1600000
namespace Go.Proofs.YtomcnemdaohafaaE
open Go
end Go.Proofs.YtomcnemdaohafaaE
