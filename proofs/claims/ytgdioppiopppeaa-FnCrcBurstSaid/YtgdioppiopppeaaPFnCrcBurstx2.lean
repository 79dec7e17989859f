/- The program's functions as plain Lean functions, each with the proof that its call answers so. Conditions: none. -/
import Derived.Test.YtgdioppiopppeaaPFnCrcBurstx0
import Derived.Test.YtgdioppiopppeaaPFnCrcBurstx1
namespace Go.Proofs.Ytgdioppiopppeaa.PFnCrcBurst
open Go.RowKit Go.Proofs.YtgdioppiopppeaaV.PrintWords Go.Proofs.YtgdioppiopppeaaV.PrintLast Go.Proofs.YtgdioppiopppeaaV.PrintMore
attribute [local go_sem] max2_int min2_int max_two min_two max_three min_three max_four min_four   -- for this text's walks alone
set_option linter.unusedVariables false
set_option linter.unusedSimpArgs false

/-! ### spec_CrcStep: function 11 -/
def spec_CrcStep.l0 : Nat → Int → Int → Option (Int)
  | 0, _, _ => none
  | k + 1, x0, x5 => if x5 < 8 then (if (Int.tmod x0 2) = 1 then (spec_CrcStep.l0 k (Go.bits .xor .i64 (wrap64 (Int.tdiv x0 2)) 40961) (wrap64 (x5 + 1))) else (spec_CrcStep.l0 k (wrap64 (Int.tdiv x0 2)) (wrap64 (x5 + 1)))) else (some x0)
def spec_CrcStep.f (k : Nat) (a0 : Int) (a1 : Int) : Option (Int) := (spec_l1In.f a0 0 65535).bind fun t141 => (if t141 = true then (spec_CrcStep.l0 k (Go.bits .xor .i64 a0 (wrap64 (a1))) 0) else (some (-1)))
theorem spec_CrcStep.mono_l : ∀ k, (∀ y0 y1, LeO (spec_CrcStep.l0 k y0 y1) (spec_CrcStep.l0 (k + 1) y0 y1))
  | 0 => fun _ _ r h => by simp [spec_CrcStep.l0] at h
  | k + 1 => by
    have ih0 := spec_CrcStep.mono_l k
    · intro y0 y1
      unfold spec_CrcStep.l0
      repeat' first
      | (with_reducible exact ih0 _ _)
      | (with_reducible exact LeO.refl _)
      | (with_reducible exact LeO.none _)
      | (with_reducible refine LeO.ite ?_ ?_)
      | (with_reducible refine LeO.bind ?_ (fun _ => ?_))
      | exact ih0 _ _
      | exact LeO.none _
      | refine LeO.ite ?_ ?_
      | refine LeO.bind ?_ (fun _ => ?_)
theorem spec_CrcStep.mono : ∀ a0 a1 k, LeO (spec_CrcStep.f k a0 a1) (spec_CrcStep.f (k + 1) a0 a1) := by
  intro a0 a1 k
  have ih0 := spec_CrcStep.mono_l k
  unfold spec_CrcStep.f
  repeat' first
      | (with_reducible exact ih0 _ _)
      | (with_reducible exact LeO.refl _)
      | (with_reducible exact LeO.none _)
      | (with_reducible refine LeO.ite ?_ ?_)
      | (with_reducible refine LeO.bind ?_ (fun _ => ?_))
      | exact ih0 _ _
      | exact LeO.none _
      | refine LeO.ite ?_ ?_
      | refine LeO.bind ?_ (fun _ => ?_)
set_option maxHeartbeats 8000000 in
set_option maxRecDepth 100000 in
theorem spec_CrcStep.calls (k : Nat) (a0 : Int) (a1 : Int) (r : Int) (w : World) (h : spec_CrcStep.f k a0 a1 = some r) :
    Calls Try.prog 11 #[.int .i64 a0, .int .u8 a1] w fun e w' => e = .returned (.int .i64 r) ∧ Drawn0 w w' := by
  have H : ((spec_l1In.f a0 0 65535).bind fun t141 => (if t141 = true then (spec_CrcStep.l0 k (Go.bits .xor .i64 a0 (wrap64 (a1))) 0) else (some (-1)))) = some r := h
  clear h
  replace H := Option.bind_eq_some_iff.mp H
  obtain ⟨t141, A30, H⟩ := H
  replace H : (if t141 = true then (spec_CrcStep.l0 k (Go.bits .xor .i64 a0 (wrap64 (a1))) 0) else (some (-1))) = some r := H
  have A3 := Aside0.mk A30
  clear A30
  by_cases c4 : t141 = true
  · subst c4
    have H1 : (spec_CrcStep.l0 k (Go.bits .xor .i64 a0 (wrap64 (a1))) 0) = some r := by rw [if_pos rfl] at H; exact H
    clear H
    have H := H1
    clear H1
    have H' := Aside0.mk H
    clear H
    go_enter Try.func11, Try.ntmps11
    go_wp2_with (first | ((with_reducible refine gate_callee (f := 28) rfl ?_); refine goesL_ (some 7) rfl rfl Try.func28 (by kernel_rfl) rfl #[.int .i64 a0, .int .i64 0, .int .i64 65535] rfl (by (try simp only [List.map_toArray, List.map_cons, List.map_nil]); first | done | rfl | (simp only [List.length_drop, List.length_take]; rfl)) ?_; (with_reducible refine (spec_l1In.calls a0 0 65535 true _ A3.out).mono ?_); rintro e w' ⟨rfl, ⟨nd, rfl⟩⟩; refine ⟨_, rfl, ?_⟩))
    go_loopg [0, 5] k (fun kq v0 v5 w' => ∃ (x0_1 : Int) (x5_1 : Int), v0 = .int .i64 x0_1 ∧ v5 = .int .i64 x5_1 ∧ Aside0 (spec_CrcStep.l0 kq x0_1 x5_1 = some r) ∧ Aside0 (kq ≤ k) ∧ Drawn0 w w')
    case atStart => exact ⟨(Go.bits .xor .i64 a0 (wrap64 (a1))), (0), (by first | rfl | (simp; done) | (simp [*]; done)), (by first | rfl | (simp; done) | (simp [*]; done)), H', ⟨Nat.le_refl _⟩, by repeat (first | exact Drawn0.refl _ | apply Drawn0.step)⟩
    case round =>
      clear H'
      try clear c1
      try clear c2
      try clear p2
      try clear c4
      obtain ⟨x0_1, x5_1, rfl, rfl, HA, HK1, ⟨m1, rfl⟩⟩ := hrel
      cases gk with
      | zero => exact absurd HA.out (by simp [spec_CrcStep.l0])
      | succ k1 =>
        have H := HA.out
        clear HA
        simp only [spec_CrcStep.l0] at H
        by_cases c5 : x5_1 < 8
        · rw [if_pos c5] at H
          have c5b0 : decide (x5_1 < 8) = true := decide_eq_true c5
          clear c5
          by_cases c6 : (Int.tmod x0_1 2) = 1
          · rw [if_pos c6] at H
            have c6b0 : ((Int.tmod x0_1 2) == 1) = true := beq_iff_eq.mpr c6
            have c6b1 : ((Int.tmod x0_1 2) != 1) = false := bne_eq_false_iff_eq.mpr c6
            clear c6
            have H' := Aside0.mk H
            clear H
            go_wp2
            go_roundg k1
            case measure => have := HK1.out; omega
            case rel => exact ⟨(Go.bits .xor .i64 (wrap64 (Int.tdiv x0_1 2)) 40961), (wrap64 (x5_1 + 1)), (by first | rfl | (simp; done) | (simp [*]; done)), (by first | rfl | (simp; done) | (simp [*]; done)), H', ⟨by have := HK1.out; omega⟩, by repeat (first | exact Drawn0.refl _ | apply Drawn0.step)⟩
          · rw [if_neg c6] at H
            have c6b0 : ((Int.tmod x0_1 2) == 1) = false := beq_eq_false_iff_ne.mpr c6
            have c6b1 : ((Int.tmod x0_1 2) != 1) = true := bne_iff_ne.mpr c6
            have H' := Aside0.mk H
            clear H
            go_wp2
            go_roundg k1
            case measure => have := HK1.out; omega
            case rel => exact ⟨(wrap64 (Int.tdiv x0_1 2)), (wrap64 (x5_1 + 1)), (by first | rfl | (simp; done) | (simp [*]; done)), (by first | rfl | (simp; done) | (simp [*]; done)), H', ⟨by have := HK1.out; omega⟩, by repeat (first | exact Drawn0.refl _ | apply Drawn0.step)⟩
        · rw [if_neg c5] at H
          have c5b0 : decide (x5_1 < 8) = false := decide_eq_false c5
          clear c5
          obtain rfl := Option.some.inj H
          go_wp2
          go_ret
          exact ⟨by first | rfl | (simp; done) | (simp [*]; done), by repeat (first | exact Drawn0.refl _ | apply Drawn0.step)⟩
  · replace c4 := Bool.eq_false_iff.mpr c4
    subst c4
    have H1 : (some (-1)) = some r := by rw [if_neg (show ¬ (false = true) by decide)] at H; exact H
    clear H
    have H := H1
    clear H1
    obtain rfl := Option.some.inj H
    go_enter Try.func11, Try.ntmps11
    go_wp2_with (first | ((with_reducible refine gate_callee (f := 28) rfl ?_); refine goesL_ (some 7) rfl rfl Try.func28 (by kernel_rfl) rfl #[.int .i64 a0, .int .i64 0, .int .i64 65535] rfl (by (try simp only [List.map_toArray, List.map_cons, List.map_nil]); first | done | rfl | (simp only [List.length_drop, List.length_take]; rfl)) ?_; (with_reducible refine (spec_l1In.calls a0 0 65535 false _ A3.out).mono ?_); rintro e w' ⟨rfl, ⟨nd, rfl⟩⟩; refine ⟨_, rfl, ?_⟩))
    go_ret
    exact ⟨by first | rfl | (simp; done) | (simp [*]; done), by repeat (first | exact Drawn0.refl _ | apply Drawn0.step)⟩

/-! ### spec_CrcOf: function 15 -/
def spec_CrcOf.l0 : Nat → List Int → Int → Int → Option (Int)
  | 0, _, _, _ => none
  | k + 1, x0, x3, x4 => if x4 < (x0.length : Int) then (if 0 ≤ x4 then ((spec_CrcStep.f k x3 (rd x0 x4)).bind fun t143 => (spec_CrcOf.l0 k x0 t143 (wrap64 (x4 + 1)))) else (none)) else (some x3)
def spec_CrcOf.f (k : Nat) (l0 : List Int) : Option (Int) := spec_CrcOf.l0 k l0 0 0
theorem spec_CrcOf.mono_l : ∀ k, (∀ y0 y1 y2, LeO (spec_CrcOf.l0 k y0 y1 y2) (spec_CrcOf.l0 (k + 1) y0 y1 y2))
  | 0 => fun _ _ _ r h => by simp [spec_CrcOf.l0] at h
  | k + 1 => by
    have ih0 := spec_CrcOf.mono_l k
    · intro y0 y1 y2
      unfold spec_CrcOf.l0
      repeat' first
      | (with_reducible exact ih0 _ _ _)
      | (with_reducible exact spec_CrcStep.mono _ _ _)
      | (with_reducible exact LeO.refl _)
      | (with_reducible exact LeO.none _)
      | (with_reducible refine LeO.ite ?_ ?_)
      | (with_reducible refine LeO.bind ?_ (fun _ => ?_))
      | exact ih0 _ _ _
      | exact spec_CrcStep.mono _ _ _
      | exact LeO.none _
      | refine LeO.ite ?_ ?_
      | refine LeO.bind ?_ (fun _ => ?_)
theorem spec_CrcOf.mono : ∀ a0 k, LeO (spec_CrcOf.f k a0) (spec_CrcOf.f (k + 1) a0) := by
  intro a0 k
  have ih0 := spec_CrcOf.mono_l k
  unfold spec_CrcOf.f
  repeat' first
      | (with_reducible exact ih0 _ _ _)
      | (with_reducible exact spec_CrcStep.mono _ _ _)
      | (with_reducible exact LeO.refl _)
      | (with_reducible exact LeO.none _)
      | (with_reducible refine LeO.ite ?_ ?_)
      | (with_reducible refine LeO.bind ?_ (fun _ => ?_))
      | exact ih0 _ _ _
      | exact spec_CrcStep.mono _ _ _
      | exact LeO.none _
      | refine LeO.ite ?_ ?_
      | refine LeO.bind ?_ (fun _ => ?_)
set_option maxHeartbeats 8000000 in
set_option maxRecDepth 100000 in
theorem spec_CrcOf.calls (k : Nat) (A0 : Option Addr) (c0 : Nat) (l0 : List Int) (r : Int) (w : World) (hr0 : Kd.C (Kd.int .u8) w A0 l0.length l0) (hc0 : l0.length ≤ c0) (h : spec_CrcOf.f k l0 = some r) :
    Calls Try.prog 15 #[.slice A0 l0.length c0] w fun e w' => e = .returned (.int .i64 r) ∧ Drawn0 w w' := by
  have HR0 := Aside0.mk hr0
  have HC0 := Aside0.mk hc0
  clear hr0 hc0
  have H : (spec_CrcOf.l0 k l0 0 0) = some r := h
  clear h
  have H' := Aside0.mk H
  clear H
  go_enter Try.func15, Try.ntmps15
  go_wp2
  go_loopg [3, 4] k (fun kq v3 v4 w' => ∃ (x3_1 : Int) (x4_1 : Int), v3 = .int .i64 x3_1 ∧ v4 = .int .i64 x4_1 ∧ Aside0 (spec_CrcOf.l0 kq l0 x3_1 x4_1 = some r) ∧ Aside0 (kq ≤ k) ∧ Drawn0 w w')
  case atStart => exact ⟨(0), (0), (by first | rfl | (simp; done) | (simp [*]; done)), (by first | rfl | (simp; done) | (simp [*]; done)), H', ⟨Nat.le_refl _⟩, by repeat (first | exact Drawn0.refl _ | apply Drawn0.step)⟩
  case round =>
    clear H'
    try clear c1
    obtain ⟨x3_1, x4_1, rfl, rfl, HA, HK1, ⟨m1, rfl⟩⟩ := hrel
    cases gk with
    | zero => exact absurd HA.out (by simp [spec_CrcOf.l0])
    | succ k1 =>
      have H := HA.out
      clear HA
      simp only [spec_CrcOf.l0] at H
      by_cases c2 : x4_1 < (l0.length : Int)
      · rw [if_pos c2] at H
        have c2b0 : decide (x4_1 < (l0.length : Int)) = true := decide_eq_true c2
        clear c2
        by_cases c3 : 0 ≤ x4_1
        · rw [if_pos c3] at H
          have c3b0 : decide (0 ≤ x4_1) = true := decide_eq_true c3
          clear c3
          replace H := Option.bind_eq_some_iff.mp H
          obtain ⟨t143, A40, H⟩ := H
          replace H : (spec_CrcOf.l0 k1 l0 t143 (wrap64 (x4_1 + 1))) = some r := H
          have A4 := Aside0.mk A40
          clear A40
          have H' := Aside0.mk H
          clear H
          have p142 : 0 ≤ (x4_1 : Int) := of_decide_eq_true (by first | (with_reducible assumption) | assumption)
          have q142 : x4_1 < (l0.length : Int) := of_decide_eq_true (by first | (with_reducible assumption) | assumption)
          obtain ⟨ad142, e142, hx142_0⟩ := Kd.at_int HR0.out x4_1 p142 q142
          cases e142
          replace p142 := eq_true p142
          replace q142 := eq_true q142
          go_wp2_with (first | ((with_reducible refine gate_callee (f := 11) rfl ?_); refine goesL_ (some 16) rfl rfl Try.func11 (by kernel_rfl) rfl #[.int .i64 x3_1, .int .u8 (rd l0 x4_1)] rfl (by (try simp only [List.map_toArray, List.map_cons, List.map_nil]); first | done | rfl | (simp only [List.length_drop, List.length_take]; rfl)) ?_; (with_reducible refine (spec_CrcStep.calls k1 x3_1 (rd l0 x4_1) t143 _ A4.out).mono ?_); rintro e w' ⟨rfl, ⟨nd, rfl⟩⟩; refine ⟨_, rfl, ?_⟩))
          go_roundg k1
          case measure => have := HK1.out; omega
          case rel => exact ⟨(t143), (wrap64 (x4_1 + 1)), (by first | rfl | (simp; done) | (simp [*]; done)), (by first | rfl | (simp; done) | (simp [*]; done)), H', ⟨by have := HK1.out; omega⟩, by repeat (first | exact Drawn0.refl _ | apply Drawn0.step)⟩
        · rw [if_neg c3] at H
          exact absurd H (by simp)
      · rw [if_neg c2] at H
        have c2b0 : decide (x4_1 < (l0.length : Int)) = false := decide_eq_false c2
        clear c2
        obtain rfl := Option.some.inj H
        go_wp2
        go_ret
        exact ⟨by first | rfl | (simp; done) | (simp [*]; done), by repeat (first | exact Drawn0.refl _ | apply Drawn0.step)⟩

/-! ### laws_FnCrcBurst: function 4 -/
def laws_FnCrcBurst.j0 : Nat → List Int → List Int → Bool → Option (Bool)
  | 0, _, _, _ => none
  | k + 1, x0, x1, x18 => if x18 = true then (some true) else ((spec_DrawCrcOf.f k x0).bind fun t144 => ((impl_CrcOf.f k t144).bind fun t147 => ((spec_CrcOf.f k t144).bind fun t148 => (if t147 = t148 then (if (t144.length : Int) < 2 then ((laws_liOk.f).bind fun t149 => (some t149)) else (if (wrap64 ((t144.length : Int) - 1)) = 0 then (none) else (if ((wrap64 ((x1.length : Int) * 7)) % 256) = 0 then (if ((wrap64 ((wrap64 ((x0.length : Int) * 13)) + (x1.length : Int))) % 256) = 0 then ((some (([] : List Int) : List Int)).bind fun y150 => (if y150.length + t144.length < 140737488355328 then ((some (y150 ++ t144 : List Int)).bind fun y153 => (if 0 ≤ ((x1.length : Int) % (wrap64 ((t144.length : Int) - 1))) then (if ((x1.length : Int) % (wrap64 ((t144.length : Int) - 1))) < (y153.length : Int) then ((some (y153.set (((x1.length : Int) % (wrap64 ((t144.length : Int) - 1))) : Int).toNat (Go.bits .xor .u8 (rd y153 ((x1.length : Int) % (wrap64 ((t144.length : Int) - 1)))) 1) : List Int)).bind fun y157 => (if 0 ≤ (wrap64 (((x1.length : Int) % (wrap64 ((t144.length : Int) - 1))) + 1)) then (if (wrap64 (((x1.length : Int) % (wrap64 ((t144.length : Int) - 1))) + 1)) < (y153.length : Int) then ((impl_CrcOf.f k (y157.set ((wrap64 (((x1.length : Int) % (wrap64 ((t144.length : Int) - 1))) + 1)) : Int).toNat (Go.bits .xor .u8 (rd y157 (wrap64 (((x1.length : Int) % (wrap64 ((t144.length : Int) - 1))) + 1))) ((wrap64 ((wrap64 ((x0.length : Int) * 13)) + (x1.length : Int))) % 256)))).bind fun t160 => (some (t160 != t147))) else (none)) else (none))) else (none)) else (none))) else (none))) else ((some (([] : List Int) : List Int)).bind fun y161 => (if y161.length + t144.length < 140737488355328 then ((some (y161 ++ t144 : List Int)).bind fun y164 => (if 0 ≤ ((x1.length : Int) % (wrap64 ((t144.length : Int) - 1))) then (if ((x1.length : Int) % (wrap64 ((t144.length : Int) - 1))) < (y164.length : Int) then ((some (y164.set (((x1.length : Int) % (wrap64 ((t144.length : Int) - 1))) : Int).toNat (Go.bits .xor .u8 (rd y164 ((x1.length : Int) % (wrap64 ((t144.length : Int) - 1)))) ((wrap64 ((x1.length : Int) * 7)) % 256)) : List Int)).bind fun y168 => (if 0 ≤ (wrap64 (((x1.length : Int) % (wrap64 ((t144.length : Int) - 1))) + 1)) then (if (wrap64 (((x1.length : Int) % (wrap64 ((t144.length : Int) - 1))) + 1)) < (y164.length : Int) then ((impl_CrcOf.f k (y168.set ((wrap64 (((x1.length : Int) % (wrap64 ((t144.length : Int) - 1))) + 1)) : Int).toNat (Go.bits .xor .u8 (rd y168 (wrap64 (((x1.length : Int) % (wrap64 ((t144.length : Int) - 1))) + 1))) ((wrap64 ((wrap64 ((x0.length : Int) * 13)) + (x1.length : Int))) % 256)))).bind fun t171 => (some (t171 != t147))) else (none)) else (none))) else (none)) else (none))) else (none)))) else ((some (([] : List Int) : List Int)).bind fun y172 => (if y172.length + t144.length < 140737488355328 then ((some (y172 ++ t144 : List Int)).bind fun y175 => (if 0 ≤ ((x1.length : Int) % (wrap64 ((t144.length : Int) - 1))) then (if ((x1.length : Int) % (wrap64 ((t144.length : Int) - 1))) < (y175.length : Int) then ((some (y175.set (((x1.length : Int) % (wrap64 ((t144.length : Int) - 1))) : Int).toNat (Go.bits .xor .u8 (rd y175 ((x1.length : Int) % (wrap64 ((t144.length : Int) - 1)))) ((wrap64 ((x1.length : Int) * 7)) % 256)) : List Int)).bind fun y179 => (if 0 ≤ (wrap64 (((x1.length : Int) % (wrap64 ((t144.length : Int) - 1))) + 1)) then (if (wrap64 (((x1.length : Int) % (wrap64 ((t144.length : Int) - 1))) + 1)) < (y175.length : Int) then ((impl_CrcOf.f k (y179.set ((wrap64 (((x1.length : Int) % (wrap64 ((t144.length : Int) - 1))) + 1)) : Int).toNat (Go.bits .xor .u8 (rd y179 (wrap64 (((x1.length : Int) % (wrap64 ((t144.length : Int) - 1))) + 1))) ((wrap64 ((wrap64 ((x0.length : Int) * 13)) + (x1.length : Int))) % 256)))).bind fun t182 => (some (t182 != t147))) else (none)) else (none))) else (none)) else (none))) else (none)))))) else (some false)))))
def laws_FnCrcBurst.f (k : Nat) (l0 : List Int) (l1 : List Int) : Option (Bool) := if (l0.length : Int) > 1048576 then (laws_FnCrcBurst.j0 k l0 l1 true) else (laws_FnCrcBurst.j0 k l0 l1 (decide ((l1.length : Int) > 1048576)))
theorem laws_FnCrcBurst.mono_l : ∀ k, (∀ y0 y1 y2, LeO (laws_FnCrcBurst.j0 k y0 y1 y2) (laws_FnCrcBurst.j0 (k + 1) y0 y1 y2))
  | 0 => fun _ _ _ r h => by simp [laws_FnCrcBurst.j0] at h
  | k + 1 => by
    have ih0 := laws_FnCrcBurst.mono_l k
    · intro y0 y1 y2
      unfold laws_FnCrcBurst.j0
      repeat' first
      | (with_reducible exact ih0 _ _ _)
      | (with_reducible exact impl_CrcOf.mono _ _)
      | (with_reducible exact spec_CrcOf.mono _ _)
      | (with_reducible exact spec_DrawCrcOf.mono _ _)
      | (with_reducible exact LeO.refl _)
      | (with_reducible exact LeO.none _)
      | (with_reducible refine LeO.ite ?_ ?_)
      | (with_reducible refine LeO.bind ?_ (fun _ => ?_))
      | exact ih0 _ _ _
      | exact impl_CrcOf.mono _ _
      | exact spec_CrcOf.mono _ _
      | exact spec_DrawCrcOf.mono _ _
      | exact LeO.none _
      | refine LeO.ite ?_ ?_
      | refine LeO.bind ?_ (fun _ => ?_)
theorem laws_FnCrcBurst.mono : ∀ a0 a1 k, LeO (laws_FnCrcBurst.f k a0 a1) (laws_FnCrcBurst.f (k + 1) a0 a1) := by
  intro a0 a1 k
  have ih0 := laws_FnCrcBurst.mono_l k
  unfold laws_FnCrcBurst.f
  repeat' first
      | (with_reducible exact ih0 _ _ _)
      | (with_reducible exact impl_CrcOf.mono _ _)
      | (with_reducible exact spec_CrcOf.mono _ _)
      | (with_reducible exact spec_DrawCrcOf.mono _ _)
      | (with_reducible exact LeO.refl _)
      | (with_reducible exact LeO.none _)
      | (with_reducible refine LeO.ite ?_ ?_)
      | (with_reducible refine LeO.bind ?_ (fun _ => ?_))
      | exact ih0 _ _ _
      | exact impl_CrcOf.mono _ _
      | exact spec_CrcOf.mono _ _
      | exact spec_DrawCrcOf.mono _ _
      | exact LeO.none _
      | refine LeO.ite ?_ ?_
      | refine LeO.bind ?_ (fun _ => ?_)
set_option maxHeartbeats 8000000 in
set_option maxRecDepth 100000 in
theorem laws_FnCrcBurst.calls (k : Nat) (A0 : Option Addr) (c0 : Nat) (l0 : List Int) (A1 : Option Addr) (c1 : Nat) (l1 : List Int) (r : Bool) (w : World) (hr0 : Kd.C (Kd.int .u8) w A0 l0.length l0) (hc0 : l0.length ≤ c0) (hr1 : Kd.C (Kd.int .u8) w A1 l1.length l1) (hc1 : l1.length ≤ c1) (h : laws_FnCrcBurst.f k l0 l1 = some r) :
    Calls Try.prog 4 #[.slice A0 l0.length c0, .slice A1 l1.length c1] w fun e w' => e = .returned (.bool r) ∧ Below w.heap.size w w' := by
  have HR0 := Aside0.mk hr0
  have HC0 := Aside0.mk hc0
  clear hr0 hc0
  have HR1 := Aside0.mk hr1
  have HC1 := Aside0.mk hc1
  clear hr1 hc1
  have HB := Aside0.mk (Below.refl w.heap.size w)
  have H : (if (l0.length : Int) > 1048576 then (laws_FnCrcBurst.j0 k l0 l1 true) else (laws_FnCrcBurst.j0 k l0 l1 (decide ((l1.length : Int) > 1048576)))) = some r := h
  clear h
  have HC3 := Aside0.mk H
  clear H
  go_enter Try.func4, Try.ntmps4
  go_upto_region 1 with (fail)
  go_cut [18] (fun v18 wc => ∃ (kq : Nat) (x18_2 : Bool), v18 = .bool x18_2 ∧ Aside0 (laws_FnCrcBurst.j0 kq l0 l1 x18_2 = some r) ∧ Aside0 (kq ≤ k) ∧ Aside0 (Below w.heap.size w wc))
  case first =>
    have H := HC3.out
    clear HC3
    by_cases c4 : (l0.length : Int) > 1048576
    · rw [if_pos c4] at H
      have c4b0 : decide (1048576 < (l0.length : Int)) = true := decide_eq_true c4
      have c4b1 : decide (1048576 < l0.length) = true := decide_eq_true (by omega)
      clear c4
      (first | rw [c4b0] | (simp only [i64_w, i32_w]; rw [c4b0]) | skip)
      have H' := Aside0.mk H
      clear H
      go_wp2
      go_meet
      case rel => exact ⟨_, (true), (by first | rfl | (simp; done) | (simp [*]; done)), H', ⟨by first | omega | exact Nat.le_refl _⟩, ⟨by repeat (first | (with_reducible first | exact HB.out | apply below_alloc | apply pw_below_drewN | apply below_drew1) | exact HB.out)⟩⟩
    · rw [if_neg c4] at H
      have c4b0 : decide (1048576 < (l0.length : Int)) = false := decide_eq_false c4
      have c4b1 : decide (1048576 < l0.length) = false := decide_eq_false (by omega)
      clear c4
      (first | rw [c4b0] | (simp only [i64_w, i32_w]; rw [c4b0]) | skip)
      have H' := Aside0.mk H
      clear H
      go_wp2
      go_meet
      case rel => exact ⟨_, (decide ((l1.length : Int) > 1048576)), (by first | rfl | (simp; done) | (simp [*]; done)), H', ⟨by first | omega | exact Nat.le_refl _⟩, ⟨by repeat (first | (with_reducible first | exact HB.out | apply below_alloc | apply pw_below_drewN | apply below_drew1) | exact HB.out)⟩⟩
  case rest =>
    clear HC3
    try clear c1
    try clear p2
    try clear c4
    try clear c4b0
    try clear c4b1
    obtain ⟨kq, x18_2, rfl, HA, HJ2, HB⟩ := hcut
    cases kq with
    | zero => exact absurd HA.out (by simp [laws_FnCrcBurst.j0])
    | succ kj2 =>
      have H := HA.out
      clear HA
      simp only [laws_FnCrcBurst.j0] at H
      by_cases c5 : x18_2 = true
      · subst c5
        have H1 : (some true) = some r := by rw [if_pos rfl] at H; exact H
        clear H
        have H := H1
        clear H1
        obtain rfl := Option.some.inj H
        go_wp2
        go_ret
        exact ⟨by first | rfl | (simp [errW_none, errW_some] <;> rfl) | (simp [*, errW_none, errW_some] <;> rfl), by repeat (first | (with_reducible first | exact HB.out | apply below_alloc | apply pw_below_drewN | apply below_drew1) | exact HB.out)⟩
      · replace c5 := Bool.eq_false_iff.mpr c5
        subst c5
        have H1 : ((spec_DrawCrcOf.f kj2 l0).bind fun t144 => ((impl_CrcOf.f kj2 t144).bind fun t147 => ((spec_CrcOf.f kj2 t144).bind fun t148 => (if t147 = t148 then (if (t144.length : Int) < 2 then ((laws_liOk.f).bind fun t149 => (some t149)) else (if (wrap64 ((t144.length : Int) - 1)) = 0 then (none) else (if ((wrap64 ((l1.length : Int) * 7)) % 256) = 0 then (if ((wrap64 ((wrap64 ((l0.length : Int) * 13)) + (l1.length : Int))) % 256) = 0 then ((some (([] : List Int) : List Int)).bind fun y150 => (if y150.length + t144.length < 140737488355328 then ((some (y150 ++ t144 : List Int)).bind fun y153 => (if 0 ≤ ((l1.length : Int) % (wrap64 ((t144.length : Int) - 1))) then (if ((l1.length : Int) % (wrap64 ((t144.length : Int) - 1))) < (y153.length : Int) then ((some (y153.set (((l1.length : Int) % (wrap64 ((t144.length : Int) - 1))) : Int).toNat (Go.bits .xor .u8 (rd y153 ((l1.length : Int) % (wrap64 ((t144.length : Int) - 1)))) 1) : List Int)).bind fun y157 => (if 0 ≤ (wrap64 (((l1.length : Int) % (wrap64 ((t144.length : Int) - 1))) + 1)) then (if (wrap64 (((l1.length : Int) % (wrap64 ((t144.length : Int) - 1))) + 1)) < (y153.length : Int) then ((impl_CrcOf.f kj2 (y157.set ((wrap64 (((l1.length : Int) % (wrap64 ((t144.length : Int) - 1))) + 1)) : Int).toNat (Go.bits .xor .u8 (rd y157 (wrap64 (((l1.length : Int) % (wrap64 ((t144.length : Int) - 1))) + 1))) ((wrap64 ((wrap64 ((l0.length : Int) * 13)) + (l1.length : Int))) % 256)))).bind fun t160 => (some (t160 != t147))) else (none)) else (none))) else (none)) else (none))) else (none))) else ((some (([] : List Int) : List Int)).bind fun y161 => (if y161.length + t144.length < 140737488355328 then ((some (y161 ++ t144 : List Int)).bind fun y164 => (if 0 ≤ ((l1.length : Int) % (wrap64 ((t144.length : Int) - 1))) then (if ((l1.length : Int) % (wrap64 ((t144.length : Int) - 1))) < (y164.length : Int) then ((some (y164.set (((l1.length : Int) % (wrap64 ((t144.length : Int) - 1))) : Int).toNat (Go.bits .xor .u8 (rd y164 ((l1.length : Int) % (wrap64 ((t144.length : Int) - 1)))) ((wrap64 ((l1.length : Int) * 7)) % 256)) : List Int)).bind fun y168 => (if 0 ≤ (wrap64 (((l1.length : Int) % (wrap64 ((t144.length : Int) - 1))) + 1)) then (if (wrap64 (((l1.length : Int) % (wrap64 ((t144.length : Int) - 1))) + 1)) < (y164.length : Int) then ((impl_CrcOf.f kj2 (y168.set ((wrap64 (((l1.length : Int) % (wrap64 ((t144.length : Int) - 1))) + 1)) : Int).toNat (Go.bits .xor .u8 (rd y168 (wrap64 (((l1.length : Int) % (wrap64 ((t144.length : Int) - 1))) + 1))) ((wrap64 ((wrap64 ((l0.length : Int) * 13)) + (l1.length : Int))) % 256)))).bind fun t171 => (some (t171 != t147))) else (none)) else (none))) else (none)) else (none))) else (none)))) else ((some (([] : List Int) : List Int)).bind fun y172 => (if y172.length + t144.length < 140737488355328 then ((some (y172 ++ t144 : List Int)).bind fun y175 => (if 0 ≤ ((l1.length : Int) % (wrap64 ((t144.length : Int) - 1))) then (if ((l1.length : Int) % (wrap64 ((t144.length : Int) - 1))) < (y175.length : Int) then ((some (y175.set (((l1.length : Int) % (wrap64 ((t144.length : Int) - 1))) : Int).toNat (Go.bits .xor .u8 (rd y175 ((l1.length : Int) % (wrap64 ((t144.length : Int) - 1)))) ((wrap64 ((l1.length : Int) * 7)) % 256)) : List Int)).bind fun y179 => (if 0 ≤ (wrap64 (((l1.length : Int) % (wrap64 ((t144.length : Int) - 1))) + 1)) then (if (wrap64 (((l1.length : Int) % (wrap64 ((t144.length : Int) - 1))) + 1)) < (y175.length : Int) then ((impl_CrcOf.f kj2 (y179.set ((wrap64 (((l1.length : Int) % (wrap64 ((t144.length : Int) - 1))) + 1)) : Int).toNat (Go.bits .xor .u8 (rd y179 (wrap64 (((l1.length : Int) % (wrap64 ((t144.length : Int) - 1))) + 1))) ((wrap64 ((wrap64 ((l0.length : Int) * 13)) + (l1.length : Int))) % 256)))).bind fun t182 => (some (t182 != t147))) else (none)) else (none))) else (none)) else (none))) else (none)))))) else (some false))))) = some r := by rw [if_neg (show ¬ (false = true) by decide)] at H; exact H
        clear H
        have H := H1
        clear H1
        replace H := Option.bind_eq_some_iff.mp H
        obtain ⟨t144, A60, H⟩ := H
        replace H : ((impl_CrcOf.f kj2 t144).bind fun t147 => ((spec_CrcOf.f kj2 t144).bind fun t148 => (if t147 = t148 then (if (t144.length : Int) < 2 then ((laws_liOk.f).bind fun t149 => (some t149)) else (if (wrap64 ((t144.length : Int) - 1)) = 0 then (none) else (if ((wrap64 ((l1.length : Int) * 7)) % 256) = 0 then (if ((wrap64 ((wrap64 ((l0.length : Int) * 13)) + (l1.length : Int))) % 256) = 0 then ((some (([] : List Int) : List Int)).bind fun y150 => (if y150.length + t144.length < 140737488355328 then ((some (y150 ++ t144 : List Int)).bind fun y153 => (if 0 ≤ ((l1.length : Int) % (wrap64 ((t144.length : Int) - 1))) then (if ((l1.length : Int) % (wrap64 ((t144.length : Int) - 1))) < (y153.length : Int) then ((some (y153.set (((l1.length : Int) % (wrap64 ((t144.length : Int) - 1))) : Int).toNat (Go.bits .xor .u8 (rd y153 ((l1.length : Int) % (wrap64 ((t144.length : Int) - 1)))) 1) : List Int)).bind fun y157 => (if 0 ≤ (wrap64 (((l1.length : Int) % (wrap64 ((t144.length : Int) - 1))) + 1)) then (if (wrap64 (((l1.length : Int) % (wrap64 ((t144.length : Int) - 1))) + 1)) < (y153.length : Int) then ((impl_CrcOf.f kj2 (y157.set ((wrap64 (((l1.length : Int) % (wrap64 ((t144.length : Int) - 1))) + 1)) : Int).toNat (Go.bits .xor .u8 (rd y157 (wrap64 (((l1.length : Int) % (wrap64 ((t144.length : Int) - 1))) + 1))) ((wrap64 ((wrap64 ((l0.length : Int) * 13)) + (l1.length : Int))) % 256)))).bind fun t160 => (some (t160 != t147))) else (none)) else (none))) else (none)) else (none))) else (none))) else ((some (([] : List Int) : List Int)).bind fun y161 => (if y161.length + t144.length < 140737488355328 then ((some (y161 ++ t144 : List Int)).bind fun y164 => (if 0 ≤ ((l1.length : Int) % (wrap64 ((t144.length : Int) - 1))) then (if ((l1.length : Int) % (wrap64 ((t144.length : Int) - 1))) < (y164.length : Int) then ((some (y164.set (((l1.length : Int) % (wrap64 ((t144.length : Int) - 1))) : Int).toNat (Go.bits .xor .u8 (rd y164 ((l1.length : Int) % (wrap64 ((t144.length : Int) - 1)))) ((wrap64 ((l1.length : Int) * 7)) % 256)) : List Int)).bind fun y168 => (if 0 ≤ (wrap64 (((l1.length : Int) % (wrap64 ((t144.length : Int) - 1))) + 1)) then (if (wrap64 (((l1.length : Int) % (wrap64 ((t144.length : Int) - 1))) + 1)) < (y164.length : Int) then ((impl_CrcOf.f kj2 (y168.set ((wrap64 (((l1.length : Int) % (wrap64 ((t144.length : Int) - 1))) + 1)) : Int).toNat (Go.bits .xor .u8 (rd y168 (wrap64 (((l1.length : Int) % (wrap64 ((t144.length : Int) - 1))) + 1))) ((wrap64 ((wrap64 ((l0.length : Int) * 13)) + (l1.length : Int))) % 256)))).bind fun t171 => (some (t171 != t147))) else (none)) else (none))) else (none)) else (none))) else (none)))) else ((some (([] : List Int) : List Int)).bind fun y172 => (if y172.length + t144.length < 140737488355328 then ((some (y172 ++ t144 : List Int)).bind fun y175 => (if 0 ≤ ((l1.length : Int) % (wrap64 ((t144.length : Int) - 1))) then (if ((l1.length : Int) % (wrap64 ((t144.length : Int) - 1))) < (y175.length : Int) then ((some (y175.set (((l1.length : Int) % (wrap64 ((t144.length : Int) - 1))) : Int).toNat (Go.bits .xor .u8 (rd y175 ((l1.length : Int) % (wrap64 ((t144.length : Int) - 1)))) ((wrap64 ((l1.length : Int) * 7)) % 256)) : List Int)).bind fun y179 => (if 0 ≤ (wrap64 (((l1.length : Int) % (wrap64 ((t144.length : Int) - 1))) + 1)) then (if (wrap64 (((l1.length : Int) % (wrap64 ((t144.length : Int) - 1))) + 1)) < (y175.length : Int) then ((impl_CrcOf.f kj2 (y179.set ((wrap64 (((l1.length : Int) % (wrap64 ((t144.length : Int) - 1))) + 1)) : Int).toNat (Go.bits .xor .u8 (rd y179 (wrap64 (((l1.length : Int) % (wrap64 ((t144.length : Int) - 1))) + 1))) ((wrap64 ((wrap64 ((l0.length : Int) * 13)) + (l1.length : Int))) % 256)))).bind fun t182 => (some (t182 != t147))) else (none)) else (none))) else (none)) else (none))) else (none)))))) else (some false)))) = some r := H
        have A6 := Aside0.mk A60
        clear A60
        replace H := Option.bind_eq_some_iff.mp H
        obtain ⟨t147, A70, H⟩ := H
        replace H : ((spec_CrcOf.f kj2 t144).bind fun t148 => (if t147 = t148 then (if (t144.length : Int) < 2 then ((laws_liOk.f).bind fun t149 => (some t149)) else (if (wrap64 ((t144.length : Int) - 1)) = 0 then (none) else (if ((wrap64 ((l1.length : Int) * 7)) % 256) = 0 then (if ((wrap64 ((wrap64 ((l0.length : Int) * 13)) + (l1.length : Int))) % 256) = 0 then ((some (([] : List Int) : List Int)).bind fun y150 => (if y150.length + t144.length < 140737488355328 then ((some (y150 ++ t144 : List Int)).bind fun y153 => (if 0 ≤ ((l1.length : Int) % (wrap64 ((t144.length : Int) - 1))) then (if ((l1.length : Int) % (wrap64 ((t144.length : Int) - 1))) < (y153.length : Int) then ((some (y153.set (((l1.length : Int) % (wrap64 ((t144.length : Int) - 1))) : Int).toNat (Go.bits .xor .u8 (rd y153 ((l1.length : Int) % (wrap64 ((t144.length : Int) - 1)))) 1) : List Int)).bind fun y157 => (if 0 ≤ (wrap64 (((l1.length : Int) % (wrap64 ((t144.length : Int) - 1))) + 1)) then (if (wrap64 (((l1.length : Int) % (wrap64 ((t144.length : Int) - 1))) + 1)) < (y153.length : Int) then ((impl_CrcOf.f kj2 (y157.set ((wrap64 (((l1.length : Int) % (wrap64 ((t144.length : Int) - 1))) + 1)) : Int).toNat (Go.bits .xor .u8 (rd y157 (wrap64 (((l1.length : Int) % (wrap64 ((t144.length : Int) - 1))) + 1))) ((wrap64 ((wrap64 ((l0.length : Int) * 13)) + (l1.length : Int))) % 256)))).bind fun t160 => (some (t160 != t147))) else (none)) else (none))) else (none)) else (none))) else (none))) else ((some (([] : List Int) : List Int)).bind fun y161 => (if y161.length + t144.length < 140737488355328 then ((some (y161 ++ t144 : List Int)).bind fun y164 => (if 0 ≤ ((l1.length : Int) % (wrap64 ((t144.length : Int) - 1))) then (if ((l1.length : Int) % (wrap64 ((t144.length : Int) - 1))) < (y164.length : Int) then ((some (y164.set (((l1.length : Int) % (wrap64 ((t144.length : Int) - 1))) : Int).toNat (Go.bits .xor .u8 (rd y164 ((l1.length : Int) % (wrap64 ((t144.length : Int) - 1)))) ((wrap64 ((l1.length : Int) * 7)) % 256)) : List Int)).bind fun y168 => (if 0 ≤ (wrap64 (((l1.length : Int) % (wrap64 ((t144.length : Int) - 1))) + 1)) then (if (wrap64 (((l1.length : Int) % (wrap64 ((t144.length : Int) - 1))) + 1)) < (y164.length : Int) then ((impl_CrcOf.f kj2 (y168.set ((wrap64 (((l1.length : Int) % (wrap64 ((t144.length : Int) - 1))) + 1)) : Int).toNat (Go.bits .xor .u8 (rd y168 (wrap64 (((l1.length : Int) % (wrap64 ((t144.length : Int) - 1))) + 1))) ((wrap64 ((wrap64 ((l0.length : Int) * 13)) + (l1.length : Int))) % 256)))).bind fun t171 => (some (t171 != t147))) else (none)) else (none))) else (none)) else (none))) else (none)))) else ((some (([] : List Int) : List Int)).bind fun y172 => (if y172.length + t144.length < 140737488355328 then ((some (y172 ++ t144 : List Int)).bind fun y175 => (if 0 ≤ ((l1.length : Int) % (wrap64 ((t144.length : Int) - 1))) then (if ((l1.length : Int) % (wrap64 ((t144.length : Int) - 1))) < (y175.length : Int) then ((some (y175.set (((l1.length : Int) % (wrap64 ((t144.length : Int) - 1))) : Int).toNat (Go.bits .xor .u8 (rd y175 ((l1.length : Int) % (wrap64 ((t144.length : Int) - 1)))) ((wrap64 ((l1.length : Int) * 7)) % 256)) : List Int)).bind fun y179 => (if 0 ≤ (wrap64 (((l1.length : Int) % (wrap64 ((t144.length : Int) - 1))) + 1)) then (if (wrap64 (((l1.length : Int) % (wrap64 ((t144.length : Int) - 1))) + 1)) < (y175.length : Int) then ((impl_CrcOf.f kj2 (y179.set ((wrap64 (((l1.length : Int) % (wrap64 ((t144.length : Int) - 1))) + 1)) : Int).toNat (Go.bits .xor .u8 (rd y179 (wrap64 (((l1.length : Int) % (wrap64 ((t144.length : Int) - 1))) + 1))) ((wrap64 ((wrap64 ((l0.length : Int) * 13)) + (l1.length : Int))) % 256)))).bind fun t182 => (some (t182 != t147))) else (none)) else (none))) else (none)) else (none))) else (none)))))) else (some false))) = some r := H
        have A7 := Aside0.mk A70
        clear A70
        replace H := Option.bind_eq_some_iff.mp H
        obtain ⟨t148, A80, H⟩ := H
        replace H : (if t147 = t148 then (if (t144.length : Int) < 2 then ((laws_liOk.f).bind fun t149 => (some t149)) else (if (wrap64 ((t144.length : Int) - 1)) = 0 then (none) else (if ((wrap64 ((l1.length : Int) * 7)) % 256) = 0 then (if ((wrap64 ((wrap64 ((l0.length : Int) * 13)) + (l1.length : Int))) % 256) = 0 then ((some (([] : List Int) : List Int)).bind fun y150 => (if y150.length + t144.length < 140737488355328 then ((some (y150 ++ t144 : List Int)).bind fun y153 => (if 0 ≤ ((l1.length : Int) % (wrap64 ((t144.length : Int) - 1))) then (if ((l1.length : Int) % (wrap64 ((t144.length : Int) - 1))) < (y153.length : Int) then ((some (y153.set (((l1.length : Int) % (wrap64 ((t144.length : Int) - 1))) : Int).toNat (Go.bits .xor .u8 (rd y153 ((l1.length : Int) % (wrap64 ((t144.length : Int) - 1)))) 1) : List Int)).bind fun y157 => (if 0 ≤ (wrap64 (((l1.length : Int) % (wrap64 ((t144.length : Int) - 1))) + 1)) then (if (wrap64 (((l1.length : Int) % (wrap64 ((t144.length : Int) - 1))) + 1)) < (y153.length : Int) then ((impl_CrcOf.f kj2 (y157.set ((wrap64 (((l1.length : Int) % (wrap64 ((t144.length : Int) - 1))) + 1)) : Int).toNat (Go.bits .xor .u8 (rd y157 (wrap64 (((l1.length : Int) % (wrap64 ((t144.length : Int) - 1))) + 1))) ((wrap64 ((wrap64 ((l0.length : Int) * 13)) + (l1.length : Int))) % 256)))).bind fun t160 => (some (t160 != t147))) else (none)) else (none))) else (none)) else (none))) else (none))) else ((some (([] : List Int) : List Int)).bind fun y161 => (if y161.length + t144.length < 140737488355328 then ((some (y161 ++ t144 : List Int)).bind fun y164 => (if 0 ≤ ((l1.length : Int) % (wrap64 ((t144.length : Int) - 1))) then (if ((l1.length : Int) % (wrap64 ((t144.length : Int) - 1))) < (y164.length : Int) then ((some (y164.set (((l1.length : Int) % (wrap64 ((t144.length : Int) - 1))) : Int).toNat (Go.bits .xor .u8 (rd y164 ((l1.length : Int) % (wrap64 ((t144.length : Int) - 1)))) ((wrap64 ((l1.length : Int) * 7)) % 256)) : List Int)).bind fun y168 => (if 0 ≤ (wrap64 (((l1.length : Int) % (wrap64 ((t144.length : Int) - 1))) + 1)) then (if (wrap64 (((l1.length : Int) % (wrap64 ((t144.length : Int) - 1))) + 1)) < (y164.length : Int) then ((impl_CrcOf.f kj2 (y168.set ((wrap64 (((l1.length : Int) % (wrap64 ((t144.length : Int) - 1))) + 1)) : Int).toNat (Go.bits .xor .u8 (rd y168 (wrap64 (((l1.length : Int) % (wrap64 ((t144.length : Int) - 1))) + 1))) ((wrap64 ((wrap64 ((l0.length : Int) * 13)) + (l1.length : Int))) % 256)))).bind fun t171 => (some (t171 != t147))) else (none)) else (none))) else (none)) else (none))) else (none)))) else ((some (([] : List Int) : List Int)).bind fun y172 => (if y172.length + t144.length < 140737488355328 then ((some (y172 ++ t144 : List Int)).bind fun y175 => (if 0 ≤ ((l1.length : Int) % (wrap64 ((t144.length : Int) - 1))) then (if ((l1.length : Int) % (wrap64 ((t144.length : Int) - 1))) < (y175.length : Int) then ((some (y175.set (((l1.length : Int) % (wrap64 ((t144.length : Int) - 1))) : Int).toNat (Go.bits .xor .u8 (rd y175 ((l1.length : Int) % (wrap64 ((t144.length : Int) - 1)))) ((wrap64 ((l1.length : Int) * 7)) % 256)) : List Int)).bind fun y179 => (if 0 ≤ (wrap64 (((l1.length : Int) % (wrap64 ((t144.length : Int) - 1))) + 1)) then (if (wrap64 (((l1.length : Int) % (wrap64 ((t144.length : Int) - 1))) + 1)) < (y175.length : Int) then ((impl_CrcOf.f kj2 (y179.set ((wrap64 (((l1.length : Int) % (wrap64 ((t144.length : Int) - 1))) + 1)) : Int).toNat (Go.bits .xor .u8 (rd y179 (wrap64 (((l1.length : Int) % (wrap64 ((t144.length : Int) - 1))) + 1))) ((wrap64 ((wrap64 ((l0.length : Int) * 13)) + (l1.length : Int))) % 256)))).bind fun t182 => (some (t182 != t147))) else (none)) else (none))) else (none)) else (none))) else (none)))))) else (some false)) = some r := H
        have A8 := Aside0.mk A80
        clear A80
        by_cases c9 : t147 = t148
        · rw [if_pos c9] at H
          have c9b0 : (t147 == t148) = true := beq_iff_eq.mpr c9
          have c9b1 : (t147 != t148) = false := bne_eq_false_iff_eq.mpr c9
          clear c9
          by_cases c10 : (t144.length : Int) < 2
          · rw [if_pos c10] at H
            have c10b0 : decide ((t144.length : Int) < 2) = true := decide_eq_true c10
            have c10b1 : decide (t144.length < 2) = true := decide_eq_true (by omega)
            clear c10
            replace H := Option.bind_eq_some_iff.mp H
            obtain ⟨t149, A110, H⟩ := H
            replace H : (some t149) = some r := H
            have A11 := Aside0.mk A110
            clear A110
            obtain rfl := Option.some.inj H
            go_wp2_with (first | ((with_reducible refine gate_callee (f := 13) rfl ?_); refine goesL_ (some 20) rfl rfl Try.func13 (by kernel_rfl) rfl #[.slice A0 l0.length c0] rfl (by (try simp only [List.map_toArray, List.map_cons, List.map_nil]); first | done | rfl | (simp only [List.length_drop, List.length_take]; rfl)) ?_; (with_reducible refine (spec_DrawCrcOf.calls kj2 _ _ l0 t144 _ ?side1 ?side2 A6.out).mono ?_); (case side1 => repeat (first | exact (Kd.C_below HR0.out HB.out) | (with_reducible refine Kd.C_alloc ?_ _) | (with_reducible refine Kd.C_drewN ?_ _) | (with_reducible refine Kd.C_drew ?_))); (case side2 => exact HC0.out); rintro e w12 ⟨v145, rfl, ho0, hb⟩; refine ⟨_, rfl, ?_⟩; have n0_ := Aside0.mk (Kd.R_lower ho0 (below_size (by repeat (first | (with_reducible first | exact HB.out | apply below_alloc | apply pw_below_drewN | apply below_drew1) | exact HB.out)))); have n1_ := Aside0.mk (below_step (by repeat (first | (with_reducible first | exact HB.out | apply below_alloc | apply pw_below_drewN | apply below_drew1) | exact HB.out)) hb); clear HB; have HO146 := n0_; have HB := n1_; clear n0_ n1_; (try clear hb); (try clear hb2); (try clear hk); (try clear hi); (try clear ho0); obtain ⟨Ao13, co13, eo13⟩ := Kd.R_slice HO146.out; subst eo13) | ((with_reducible refine gate_callee (f := 14) rfl ?_); refine goesL_ (some 22) rfl rfl Try.func14 (by kernel_rfl) rfl #[.slice Ao13 t144.length co13] rfl (by (try simp only [List.map_toArray, List.map_cons, List.map_nil]); first | done | rfl | (simp only [List.length_drop, List.length_take]; rfl)) ?_; (with_reducible refine (impl_CrcOf.calls kj2 _ _ t144 t147 _ ?side1 ?side2 A7.out).mono ?_); (case side1 => repeat (first | exact (Kd.R_reads' HO146.out).2.2 | (with_reducible refine Kd.C_alloc ?_ _) | (with_reducible refine Kd.C_drewN ?_ _) | (with_reducible refine Kd.C_drew ?_))); (case side2 => exact (Kd.R_reads' HO146.out).2.1); rintro e w' ⟨rfl, ⟨nd, rfl⟩⟩; refine ⟨_, rfl, ?_⟩) | ((with_reducible refine gate_callee (f := 15) rfl ?_); refine goesL_ (some 25) rfl rfl Try.func15 (by kernel_rfl) rfl #[.slice Ao13 t144.length co13] rfl (by (try simp only [List.map_toArray, List.map_cons, List.map_nil]); first | done | rfl | (simp only [List.length_drop, List.length_take]; rfl)) ?_; (with_reducible refine (spec_CrcOf.calls kj2 _ _ t144 t148 _ ?side1 ?side2 A8.out).mono ?_); (case side1 => repeat (first | exact (Kd.R_reads' HO146.out).2.2 | (with_reducible refine Kd.C_alloc ?_ _) | (with_reducible refine Kd.C_drewN ?_ _) | (with_reducible refine Kd.C_drew ?_))); (case side2 => exact (Kd.R_reads' HO146.out).2.1); rintro e w' ⟨rfl, ⟨nd, rfl⟩⟩; refine ⟨_, rfl, ?_⟩) | ((with_reducible refine gate_callee (f := 12) rfl ?_); refine goesL_ (some 30) rfl rfl Try.func12 (by kernel_rfl) rfl #[] rfl (by (try simp only [List.map_toArray, List.map_cons, List.map_nil]); first | done | rfl | (simp only [List.length_drop, List.length_take]; rfl)) ?_; (with_reducible refine (laws_liOk.calls  t149 _ A11.out).mono ?_); rintro e w14 ⟨rfl, hb⟩; refine ⟨_, rfl, ?_⟩; have n0_ := Aside0.mk (Kd.R_below (by (with_reducible repeat (first | apply Kd.R_alloc | apply Kd.R_drewN | apply Kd.R_drew)); exact HO146.out) hb); have n1_ := Aside0.mk (below_step (by repeat (first | (with_reducible first | exact HB.out | apply below_alloc | apply pw_below_drewN | apply below_drew1) | exact HB.out)) hb); clear HO146; clear HB; have HO146 := n0_; have HB := n1_; clear n0_ n1_; (try clear hb); (try clear hb2); (try clear hk); (try clear hi)))
            go_ret
            exact ⟨by first | rfl | (simp [errW_none, errW_some] <;> rfl) | (simp [*, errW_none, errW_some] <;> rfl), by repeat (first | (with_reducible first | exact HB.out | apply below_alloc | apply pw_below_drewN | apply below_drew1) | exact HB.out)⟩
          · rw [if_neg c10] at H
            have c10b0 : decide ((t144.length : Int) < 2) = false := decide_eq_false c10
            have c10b1 : decide (t144.length < 2) = false := decide_eq_false (by omega)
            clear c10
            by_cases c15 : (wrap64 ((t144.length : Int) - 1)) = 0
            · rw [if_pos c15] at H
              exact absurd H (by simp)
            · rw [if_neg c15] at H
              have c15b0 : ((wrap64 ((t144.length : Int) - 1)) == 0) = false := beq_eq_false_iff_ne.mpr c15
              have c15b1 : ((wrap64 ((t144.length : Int) - 1)) != 0) = true := bne_iff_ne.mpr c15
              by_cases c16 : ((wrap64 ((l1.length : Int) * 7)) % 256) = 0
              · rw [if_pos c16] at H
                have c16b0 : (((wrap64 ((l1.length : Int) * 7)) % 256) == 0) = true := beq_iff_eq.mpr c16
                have c16b1 : (((wrap64 ((l1.length : Int) * 7)) % 256) != 0) = false := bne_eq_false_iff_eq.mpr c16
                clear c16
                by_cases c17 : ((wrap64 ((wrap64 ((l0.length : Int) * 13)) + (l1.length : Int))) % 256) = 0
                · rw [if_pos c17] at H
                  have c17b0 : (((wrap64 ((wrap64 ((l0.length : Int) * 13)) + (l1.length : Int))) % 256) == 0) = true := beq_iff_eq.mpr c17
                  have c17b1 : (((wrap64 ((wrap64 ((l0.length : Int) * 13)) + (l1.length : Int))) % 256) != 0) = false := bne_eq_false_iff_eq.mpr c17
                  clear c17
                  obtain ⟨y150, hy150⟩ : ∃ y_ : List Int, y_ = (([] : List Int)) := ⟨_, rfl⟩
                  replace H : (if y150.length + t144.length < 140737488355328 then ((some (y150 ++ t144 : List Int)).bind fun y153 => (if 0 ≤ ((l1.length : Int) % (wrap64 ((t144.length : Int) - 1))) then (if ((l1.length : Int) % (wrap64 ((t144.length : Int) - 1))) < (y153.length : Int) then ((some (y153.set (((l1.length : Int) % (wrap64 ((t144.length : Int) - 1))) : Int).toNat (Go.bits .xor .u8 (rd y153 ((l1.length : Int) % (wrap64 ((t144.length : Int) - 1)))) 1) : List Int)).bind fun y157 => (if 0 ≤ (wrap64 (((l1.length : Int) % (wrap64 ((t144.length : Int) - 1))) + 1)) then (if (wrap64 (((l1.length : Int) % (wrap64 ((t144.length : Int) - 1))) + 1)) < (y153.length : Int) then ((impl_CrcOf.f kj2 (y157.set ((wrap64 (((l1.length : Int) % (wrap64 ((t144.length : Int) - 1))) + 1)) : Int).toNat (Go.bits .xor .u8 (rd y157 (wrap64 (((l1.length : Int) % (wrap64 ((t144.length : Int) - 1))) + 1))) ((wrap64 ((wrap64 ((l0.length : Int) * 13)) + (l1.length : Int))) % 256)))).bind fun t160 => (some (t160 != t147))) else (none)) else (none))) else (none)) else (none))) else (none)) = some r := by first | (rw [hy150]; with_reducible exact H) | (have H2_ := (Option.bind_some _ _).symm.trans H; rw [hy150]; with_reducible exact H2_) | (have H2_ := (Option.bind_some _ _).symm.trans H; with_reducible exact H2_) | with_reducible exact H | (rw [hy150]; exact H) | exact H
                  have Ny150 := Aside0.mk hy150
                  clear hy150
                  by_cases c18 : y150.length + t144.length < 140737488355328
                  · rw [if_pos c18] at H
                    have LMc18 := Aside0.mk c18
                    clear c18
                    obtain ⟨y153, hy153⟩ : ∃ y_ : List Int, y_ = (y150 ++ t144) := ⟨_, rfl⟩
                    replace H : (if 0 ≤ ((l1.length : Int) % (wrap64 ((t144.length : Int) - 1))) then (if ((l1.length : Int) % (wrap64 ((t144.length : Int) - 1))) < (y153.length : Int) then ((some (y153.set (((l1.length : Int) % (wrap64 ((t144.length : Int) - 1))) : Int).toNat (Go.bits .xor .u8 (rd y153 ((l1.length : Int) % (wrap64 ((t144.length : Int) - 1)))) 1) : List Int)).bind fun y157 => (if 0 ≤ (wrap64 (((l1.length : Int) % (wrap64 ((t144.length : Int) - 1))) + 1)) then (if (wrap64 (((l1.length : Int) % (wrap64 ((t144.length : Int) - 1))) + 1)) < (y153.length : Int) then ((impl_CrcOf.f kj2 (y157.set ((wrap64 (((l1.length : Int) % (wrap64 ((t144.length : Int) - 1))) + 1)) : Int).toNat (Go.bits .xor .u8 (rd y157 (wrap64 (((l1.length : Int) % (wrap64 ((t144.length : Int) - 1))) + 1))) ((wrap64 ((wrap64 ((l0.length : Int) * 13)) + (l1.length : Int))) % 256)))).bind fun t160 => (some (t160 != t147))) else (none)) else (none))) else (none)) else (none)) = some r := by first | (rw [hy153]; with_reducible exact H) | (have H2_ := (Option.bind_some _ _).symm.trans H; rw [hy153]; with_reducible exact H2_) | (have H2_ := (Option.bind_some _ _).symm.trans H; with_reducible exact H2_) | with_reducible exact H | (rw [hy153]; exact H) | exact H
                    have Ny153 := Aside0.mk hy153
                    clear hy153
                    obtain ⟨ji19, hji19⟩ : ∃ j_ : Int, ((l1.length : Int) % (wrap64 ((t144.length : Int) - 1))) = j_ := ⟨_, rfl⟩
                    replace H : (if 0 ≤ (ji19) then (if (ji19) < (y153.length : Int) then ((some (y153.set ((ji19) : Int).toNat (Go.bits .xor .u8 (rd y153 (ji19)) 1) : List Int)).bind fun y157 => (if 0 ≤ (wrap64 ((ji19) + 1)) then (if (wrap64 ((ji19) + 1)) < (y153.length : Int) then ((impl_CrcOf.f kj2 (y157.set ((wrap64 ((ji19) + 1)) : Int).toNat (Go.bits .xor .u8 (rd y157 (wrap64 ((ji19) + 1))) ((wrap64 ((wrap64 ((l0.length : Int) * 13)) + (l1.length : Int))) % 256)))).bind fun t160 => (some (t160 != t147))) else (none)) else (none))) else (none)) else (none)) = some r := by first | (rw [hji19] at H; exact H) | (simp only [hji19] at H ⊢; exact H)
                    (try rw [hji19] at A6)
                    (try rw [hji19] at A7)
                    (try rw [hji19] at A8)
                    by_cases c20 : 0 ≤ (ji19)
                    · rw [if_pos c20] at H
                      have c20b0 : decide (0 ≤ (ji19)) = true := decide_eq_true c20
                      clear c20
                      by_cases c21 : (ji19) < (y153.length : Int)
                      · rw [if_pos c21] at H
                        have c21b0 : decide ((ji19) < (y153.length : Int)) = true := decide_eq_true c21
                        clear c21
                        obtain ⟨y157, hy157⟩ : ∃ y_ : List Int, y_ = (y153.set ((ji19) : Int).toNat (Go.bits .xor .u8 (rd y153 (ji19)) 1)) := ⟨_, rfl⟩
                        replace H : (if 0 ≤ (wrap64 ((ji19) + 1)) then (if (wrap64 ((ji19) + 1)) < (y153.length : Int) then ((impl_CrcOf.f kj2 (y157.set ((wrap64 ((ji19) + 1)) : Int).toNat (Go.bits .xor .u8 (rd y157 (wrap64 ((ji19) + 1))) ((wrap64 ((wrap64 ((l0.length : Int) * 13)) + (l1.length : Int))) % 256)))).bind fun t160 => (some (t160 != t147))) else (none)) else (none)) = some r := by first | (rw [hy157]; with_reducible exact H) | (have H2_ := (Option.bind_some _ _).symm.trans H; rw [hy157]; with_reducible exact H2_) | (have H2_ := (Option.bind_some _ _).symm.trans H; with_reducible exact H2_) | with_reducible exact H | (rw [hy157]; exact H) | exact H
                        have Ny157 := Aside0.mk hy157
                        clear hy157
                        obtain ⟨ji23, hji23⟩ : ∃ j_ : Int, (wrap64 ((ji19) + 1)) = j_ := ⟨_, rfl⟩
                        replace H : (if 0 ≤ (ji23) then (if (ji23) < (y153.length : Int) then ((impl_CrcOf.f kj2 (y157.set ((ji23) : Int).toNat (Go.bits .xor .u8 (rd y157 (ji23)) ((wrap64 ((wrap64 ((l0.length : Int) * 13)) + (l1.length : Int))) % 256)))).bind fun t160 => (some (t160 != t147))) else (none)) else (none)) = some r := by first | (rw [hji23] at H; exact H) | (simp only [hji23] at H ⊢; exact H)
                        (try rw [hji23] at A6)
                        (try rw [hji23] at A7)
                        (try rw [hji23] at A8)
                        have hji23w : (IntKind.i64.wrap ((ji19) + 1)) = ji23 := (i64_w _).trans hji23
                        by_cases c24 : 0 ≤ (ji23)
                        · rw [if_pos c24] at H
                          have c24b0 : decide (0 ≤ (ji23)) = true := decide_eq_true c24
                          clear c24
                          by_cases c25 : (ji23) < (y153.length : Int)
                          · rw [if_pos c25] at H
                            have c25b0 : decide ((ji23) < (y153.length : Int)) = true := decide_eq_true c25
                            clear c25
                            obtain ⟨y159, hy159⟩ : ∃ y_ : List Int, y_ = (y157.set ((ji23) : Int).toNat (Go.bits .xor .u8 (rd y157 (ji23)) ((wrap64 ((wrap64 ((l0.length : Int) * 13)) + (l1.length : Int))) % 256))) := ⟨_, rfl⟩
                            replace H : ((impl_CrcOf.f kj2 y159).bind fun t160 => (some (t160 != t147))) = some r := by first | (rw [hy159]; with_reducible exact H) | (have H2_ := (Option.bind_some _ _).symm.trans H; rw [hy159]; with_reducible exact H2_) | (have H2_ := (Option.bind_some _ _).symm.trans H; with_reducible exact H2_) | with_reducible exact H | (rw [hy159]; exact H) | exact H
                            have Ny159 := Aside0.mk hy159
                            clear hy159
                            replace H := Option.bind_eq_some_iff.mp H
                            obtain ⟨t160, A270, H⟩ := H
                            replace H : (some (t160 != t147)) = some r := H
                            have A27 := Aside0.mk A270
                            clear A270
                            obtain rfl := Option.some.inj H
                            go_wp2_with (first | ((with_reducible refine gate_callee (f := 13) rfl ?_); refine goesL_ (some 20) rfl rfl Try.func13 (by kernel_rfl) rfl #[.slice A0 l0.length c0] rfl (by (try simp only [List.map_toArray, List.map_cons, List.map_nil]); first | done | rfl | (simp only [List.length_drop, List.length_take]; rfl)) ?_; (with_reducible refine (spec_DrawCrcOf.calls kj2 _ _ l0 t144 _ ?side1 ?side2 A6.out).mono ?_); (case side1 => repeat (first | exact (Kd.C_below HR0.out HB.out) | (with_reducible refine Kd.C_alloc ?_ _) | (with_reducible refine Kd.C_drewN ?_ _) | (with_reducible refine Kd.C_drew ?_))); (case side2 => exact HC0.out); rintro e w28 ⟨v145, rfl, ho0, hb⟩; refine ⟨_, rfl, ?_⟩; have n0_ := Aside0.mk (Kd.R_lower ho0 (below_size (by repeat (first | (with_reducible first | exact HB.out | apply below_alloc | apply pw_below_drewN | apply below_drew1) | exact HB.out)))); have n1_ := Aside0.mk (below_step (by repeat (first | (with_reducible first | exact HB.out | apply below_alloc | apply pw_below_drewN | apply below_drew1) | exact HB.out)) hb); clear HB; have HO146 := n0_; have HB := n1_; clear n0_ n1_; (try clear hb); (try clear hb2); (try clear hk); (try clear hi); (try clear ho0); obtain ⟨Ao29, co29, eo29⟩ := Kd.R_slice HO146.out; subst eo29) | ((with_reducible refine gate_callee (f := 14) rfl ?_); refine goesL_ (some 22) rfl rfl Try.func14 (by kernel_rfl) rfl #[.slice Ao29 t144.length co29] rfl (by (try simp only [List.map_toArray, List.map_cons, List.map_nil]); first | done | rfl | (simp only [List.length_drop, List.length_take]; rfl)) ?_; (with_reducible refine (impl_CrcOf.calls kj2 _ _ t144 t147 _ ?side1 ?side2 A7.out).mono ?_); (case side1 => repeat (first | exact (Kd.R_reads' HO146.out).2.2 | (with_reducible refine Kd.C_alloc ?_ _) | (with_reducible refine Kd.C_drewN ?_ _) | (with_reducible refine Kd.C_drew ?_))); (case side2 => exact (Kd.R_reads' HO146.out).2.1); rintro e w' ⟨rfl, ⟨nd, rfl⟩⟩; refine ⟨_, rfl, ?_⟩; (try (rw [drewN_self w28]; generalize hq_ : World.drewN w28 _ = w28; have n0_ : Aside0 (Kd.R (Kd.int .u8) 5 w28 w.heap.size (fun _ => True) (.slice Ao29 t144.length co29) t144) := ⟨by rw [← hq_]; exact (by (with_reducible repeat (first | apply Kd.R_alloc | apply Kd.R_drewN | apply Kd.R_drew)); exact HO146.out)⟩; have n1_ : Aside0 (Below w.heap.size w w28) := ⟨by rw [← hq_]; exact (by repeat (first | (with_reducible first | exact HB.out | apply below_alloc | apply pw_below_drewN | apply below_drew1) | exact HB.out))⟩; clear HO146 HB hq_; have HO146 := n0_; have HB := n1_; clear n0_ n1_))) | ((with_reducible refine gate_callee (f := 15) rfl ?_); refine goesL_ (some 25) rfl rfl Try.func15 (by kernel_rfl) rfl #[.slice Ao29 t144.length co29] rfl (by (try simp only [List.map_toArray, List.map_cons, List.map_nil]); first | done | rfl | (simp only [List.length_drop, List.length_take]; rfl)) ?_; (with_reducible refine (spec_CrcOf.calls kj2 _ _ t144 t148 _ ?side1 ?side2 A8.out).mono ?_); (case side1 => repeat (first | exact (Kd.R_reads' HO146.out).2.2 | (with_reducible refine Kd.C_alloc ?_ _) | (with_reducible refine Kd.C_drewN ?_ _) | (with_reducible refine Kd.C_drew ?_))); (case side2 => exact (Kd.R_reads' HO146.out).2.1); rintro e w' ⟨rfl, ⟨nd, rfl⟩⟩; refine ⟨_, rfl, ?_⟩; (try (rw [drewN_self w28]; generalize hq_ : World.drewN w28 _ = w28; have n0_ : Aside0 (Kd.R (Kd.int .u8) 5 w28 w.heap.size (fun _ => True) (.slice Ao29 t144.length co29) t144) := ⟨by rw [← hq_]; exact (by (with_reducible repeat (first | apply Kd.R_alloc | apply Kd.R_drewN | apply Kd.R_drew)); exact HO146.out)⟩; have n1_ : Aside0 (Below w.heap.size w w28) := ⟨by rw [← hq_]; exact (by repeat (first | (with_reducible first | exact HB.out | apply below_alloc | apply pw_below_drewN | apply below_drew1) | exact HB.out))⟩; clear HO146 HB hq_; have HO146 := n0_; have HB := n1_; clear n0_ n1_))) | ((with_reducible refine gate_dst (N := 54) rfl ?_); refine Kd.R_lit (Kd.int .u8) _ 5 ?hg (N := 54) ?hd (xs := ([] : List Int)) (inner := []) (ok := fun _ => True) (okp := fun _ => True) ?hr ?hp (fun _ hk => hk) trivial (Below.refl _ _) (Nat.le_refl _) (by simp) ?_; (case hd => rfl); (case hg => rfl); (case hr => first | (go_simp; done) | (go_simp; rfl)); (case hp => exact (Reps.none _ _)); intro v151 w30 ho31 hb hg_ hnew_; clear hg_ hnew_; (first | rw [← Ny150.out] at ho31 | (simp only [Int.reduceToNat] at ho31; rw [← Ny150.out] at ho31)); have n0_ := Aside0.mk (Kd.R_elder' (by (with_reducible repeat (first | apply Kd.R_alloc | apply Kd.R_drewN | apply Kd.R_drew)); exact HO146.out) (Kd.R_base ho31) hb); have n1_ := Aside0.mk (Kd.R_lower (Kd.R_new' ho31 (Kd.R_lt (by (with_reducible repeat (first | apply Kd.R_alloc | apply Kd.R_drewN | apply Kd.R_drew)); exact HO146.out))) (below_size (by repeat (first | (with_reducible first | exact HB.out | apply below_alloc | apply pw_below_drewN | apply below_drew1) | exact HB.out)))); have n2_ := Aside0.mk (below_step (by repeat (first | (with_reducible first | exact HB.out | apply below_alloc | apply pw_below_drewN | apply below_drew1) | exact HB.out)) hb); clear HO146; clear HB; have HO146 := n0_; have HO152 := n1_; have HB := n2_; clear n0_ n1_ n2_; clear hb ho31) | ((with_reducible refine gate_builtin (b := .append) (xs := #[.tmp 54, .tmp 55]) rfl ?_); at_builtin; refine Kd.R_append_rows (Kd.int .u8) (w0 := w) w.heap.size rfl (.tmp 54) (.tmp 55) 22 5 (.int .u8 0) 1 rfl Try.underlying22 info5 rfl (by decide) (by omega) v151 y150 t144 _ _ _ (fun k_ => some k_ ≠ (.slice Ao29 t144.length co29 : Value).ownBlock) (fun _ => False) rfl rfl ?aO ?aR (fun _ _ h => h) (fun _ h => h.elim) ?aF ?aB ?aS ?aL ?_; (case aR => repeat (first | exact (Kd.R_reads' HO146.out).2.2 | (with_reducible refine Kd.C_alloc ?_ _) | (with_reducible refine Kd.C_drewN ?_ _) | (with_reducible refine Kd.C_drew ?_))); (case aB => exact (by repeat (first | (with_reducible first | exact HB.out | apply below_alloc | apply pw_below_drewN | apply below_drew1) | exact HB.out))); (case aF => exact (fun k_ hk => Kd.fresh' (Kd.R_lt (by (with_reducible repeat (first | apply Kd.R_alloc | apply Kd.R_drewN | apply Kd.R_drew)); exact HO146.out)) k_ hk)); (case aO => exact (by (with_reducible repeat (first | apply Kd.R_alloc | apply Kd.R_drewN | apply Kd.R_drew)); exact Kd.R_mono HO152.out (fun _ hk => hk.2))); (case aS => exact (below_size (by repeat (first | (with_reducible first | exact HB.out | apply below_alloc | apply pw_below_drewN | apply below_drew1) | exact HB.out)))); (case aL => have := LMc18.out; omega); intro v154 w32 ho hb hg hat; rw [← Ny153.out] at ho; have n0_ := Aside0.mk (Kd.R_after (ok := (fun _ => True)) (by (with_reducible repeat (first | apply Kd.R_alloc | apply Kd.R_drewN | apply Kd.R_drew)); exact HO146.out) hg hat); have n1_ := Aside0.mk (hb); have n2_ := Aside0.mk (ho); clear HO146; clear HB; clear HO152; have HO146 := n0_; have HB := n1_; have HO155 := n2_; clear n0_ n1_ n2_; clear ho hb hg hat; obtain ⟨Ao33, co33, eo33⟩ := Kd.R_slice HO155.out; subst eo33; have p156 : 0 ≤ ((ji19) : Int) := of_decide_eq_true (by first | (with_reducible assumption) | assumption); have q156 : (ji19) < (y153.length : Int) := of_decide_eq_true (by first | (with_reducible assumption) | assumption); obtain ⟨ad156, e156, hx156_0⟩ := Kd.at_int (Kd.R_reads' HO155.out).2.2 (ji19) p156 q156; cases e156; replace p156 := eq_true p156; replace q156 := eq_true q156; have p22 : 0 ≤ ((ji19) : Int) := of_decide_eq_true (by first | (with_reducible assumption) | assumption); have q22 : ((ji19) : Int) < ((y153.length : Int) : Int) := of_decide_eq_true (by first | (with_reducible assumption) | assumption); obtain ⟨go22, co22, eo22, gb22, gl22, cl22, HG22⟩ := Kd.R_form HO155.out (by omega); (first | cases eo22 | (injection eo22 with ea_ en_ ec_; (first | subst ea_ | (injection ea_ with ea_; subst ea_)); subst ec_; clear en_)); have GB22 := Aside0.mk gb22; have GG22 := Aside0.mk HG22; clear gb22 gl22 HG22; (first | simp only [add_plain] at hx156_0 | skip); obtain ⟨hx22_0, hf22_0⟩ := Kd.R_celln 0 HO155.out ((ji19) : Int) p22 q22; replace p22 := eq_true p22; replace q22 := eq_true q22; obtain ⟨hy34_, hz34_⟩ := Kd.R_celln 0 HO155.out ((ji19) : Int) (of_decide_eq_true (by first | (with_reducible assumption) | assumption)) (of_decide_eq_true (by first | (with_reducible assumption) | assumption)); have HP34 := Kd.R_putg HO155.out ((ji19) : Int) (Go.bits .xor .u8 (rd y153 (ji19)) 1)) | ((with_reducible refine gate_store (t := 5) (p := 65) rfl ?_); refine store_event (t := 5) (p := 65) (v := ?vo_w35) (w1 := (w32.setCell ⟨go22, ((ji19) : Int).toNat, none⟩ (.int .u8 (Go.bits .xor .u8 (rd y153 (ji19)) 1)))) ?hg ?ho ?hn ?hr ?_; (case ho => rfl); (case hg => rfl); (case hn => rfl); (case hr => first | (go_simp; done) | (go_simp; rfl)); intro w35 hw; have hg : w32.grownBy w35 (some go22) := (by rw [hw]; exact HP34.2); have hp_ : Kd.R (Kd.int .u8) 5 w35 w.heap.size (fun k_ => some k_ ≠ (.slice Ao29 t144.length co29 : Value).ownBlock) (.slice (some ⟨go22, 0, none⟩) y153.length co33) y157 := (by rw [hw, Ny157.out]; exact HP34.1); clear HP34; have n0_ := Aside0.mk (Kd.R_after (v := (.slice (some ⟨go22, 0, none⟩) y153.length co33)) (v1 := (.slice (some ⟨go22, 0, none⟩) y153.length co33)) (ok := (fun _ => True)) (by (with_reducible repeat (first | apply Kd.R_alloc | apply Kd.R_drewN | apply Kd.R_drew)); exact HO146.out) hg (.inl rfl)); have n1_ := Aside0.mk (hp_); have n2_ := Aside0.mk ((by rw [hw]; exact below_set (HB.out) GB22.out : Below w.heap.size w w35)); clear HO146; clear HO155; clear HB; have HO146 := n0_; have HO155 := n1_; have HB := n2_; clear n0_ n1_ n2_; clear hg hw hp_; have p158 : 0 ≤ ((ji23) : Int) := of_decide_eq_true (by first | (with_reducible assumption) | assumption); have q158 : (ji23) < (y157.length : Int) := (by have h_ : ((ji23) : Int) < ((y153.length : Int) : Int) := of_decide_eq_true (by first | (with_reducible assumption) | assumption); first | (have e_ := (Kd.R_reads' HO155.out).1; omega) | simpa only [Ny157.out, List.length_set] using h_); have ql158 : (((ji23) : Int) < ((y153.length : Int) : Int)) = True := eq_true (of_decide_eq_true (by first | (with_reducible assumption) | assumption)); obtain ⟨ad158, e158, hx158_0⟩ := Kd.at_int (Kd.R_reads' HO155.out).2.2 (ji23) p158 q158; obtain rfl : (⟨go22, 0, none⟩ : Addr) = ad158 := (by injection e158); (first | simp only [add_plain] at hx158_0 | simp only [add_at] at hx158_0 | simp only [Addr.add, Nat.zero_add] at hx158_0 | skip); replace p158 := eq_true p158; replace q158 := eq_true q158; have p26 : 0 ≤ ((ji23) : Int) := of_decide_eq_true (by first | (with_reducible assumption) | assumption); have q26 : ((ji23) : Int) < ((y153.length : Int) : Int) := of_decide_eq_true (by first | (with_reducible assumption) | assumption); obtain ⟨hx26_0, hf26_0⟩ := Kd.R_celln 0 HO155.out ((ji23) : Int) p26 q26; replace p26 := eq_true p26; replace q26 := eq_true q26; obtain ⟨hy36_, hz36_⟩ := Kd.R_celln 0 HO155.out ((ji23) : Int) (of_decide_eq_true (by first | (with_reducible assumption) | assumption)) (of_decide_eq_true (by first | (with_reducible assumption) | assumption)); have HP36 := Kd.R_putg HO155.out ((ji23) : Int) (Go.bits .xor .u8 (rd y157 (ji23)) ((wrap64 ((wrap64 ((l0.length : Int) * 13)) + (l1.length : Int))) % 256))) | ((with_reducible refine gate_store (t := 5) (p := 76) rfl ?_); refine store_event (t := 5) (p := 76) (v := ?vo_w37) (w1 := (w35.setCell ⟨go22, ((ji23) : Int).toNat, none⟩ (.int .u8 (Go.bits .xor .u8 (rd y157 (ji23)) ((wrap64 ((wrap64 ((l0.length : Int) * 13)) + (l1.length : Int))) % 256))))) ?hg ?ho ?hn ?hr ?_; (case ho => rfl); (case hg => rfl); (case hn => rfl); (case hr => first | (go_simp; done) | (go_simp; rfl)); intro w37 hw; have hg : w35.grownBy w37 (some go22) := (by rw [hw]; exact HP36.2); have hp_ : Kd.R (Kd.int .u8) 5 w37 w.heap.size (fun k_ => some k_ ≠ (.slice Ao29 t144.length co29 : Value).ownBlock) (.slice (some ⟨go22, 0, none⟩) y153.length co33) y159 := (by rw [hw, Ny159.out]; exact HP36.1); clear HP36; have n0_ := Aside0.mk (Kd.R_after (v := (.slice (some ⟨go22, 0, none⟩) y153.length co33)) (v1 := (.slice (some ⟨go22, 0, none⟩) y153.length co33)) (ok := (fun _ => True)) (by (with_reducible repeat (first | apply Kd.R_alloc | apply Kd.R_drewN | apply Kd.R_drew)); exact HO146.out) hg (.inl rfl)); have n1_ := Aside0.mk (hp_); have n2_ := Aside0.mk ((by rw [hw]; exact below_set (HB.out) GB22.out : Below w.heap.size w w37)); clear HO146; clear HO155; clear HB; have HO146 := n0_; have HO155 := n1_; have HB := n2_; clear n0_ n1_ n2_; clear hg hw hp_) | ((with_reducible refine gate_callee (f := 14) rfl ?_); refine goesL_ (some 78) rfl rfl Try.func14 (by kernel_rfl) rfl #[.slice (some ⟨go22, 0, none⟩) y159.length co33] rfl (by (try simp only [List.map_toArray, List.map_cons, List.map_nil]); first | done | (rw [show y159.length = y153.length from (Kd.R_reads' HO155.out).1.symm] <;> rfl) | rfl | (simp only [List.length_drop, List.length_take]; rfl)) ?_; (with_reducible refine (impl_CrcOf.calls kj2 _ _ y159 t160 _ ?side1 ?side2 A27.out).mono ?_); (case side1 => repeat (first | exact (Kd.R_reads' HO155.out).2.2 | (with_reducible refine Kd.C_alloc ?_ _) | (with_reducible refine Kd.C_drewN ?_ _) | (with_reducible refine Kd.C_drew ?_))); (case side2 => rw [show y159.length = y153.length from (Kd.R_reads' HO155.out).1.symm]; exact (Kd.R_reads' HO155.out).2.1); rintro e w' ⟨rfl, ⟨nd, rfl⟩⟩; refine ⟨_, rfl, ?_⟩))
                            go_ret
                            exact ⟨by first | rfl | (simp [errW_none, errW_some] <;> rfl) | (simp only [← hji19, ← hji23]; first | rfl | (simp [errW_none, errW_some] <;> rfl)) | (simp [*, errW_none, errW_some] <;> rfl), by repeat (first | (with_reducible first | exact HB.out | apply below_alloc | apply pw_below_drewN | apply below_drew1) | exact HB.out)⟩
                          · rw [if_neg c25] at H
                            exact absurd H (by simp)
                        · rw [if_neg c24] at H
                          exact absurd H (by simp)
                      · rw [if_neg c21] at H
                        exact absurd H (by simp)
                    · rw [if_neg c20] at H
                      exact absurd H (by simp)
                  · rw [if_neg c18] at H
                    exact absurd H (by simp)
                · rw [if_neg c17] at H
                  have c17b0 : (((wrap64 ((wrap64 ((l0.length : Int) * 13)) + (l1.length : Int))) % 256) == 0) = false := beq_eq_false_iff_ne.mpr c17
                  have c17b1 : (((wrap64 ((wrap64 ((l0.length : Int) * 13)) + (l1.length : Int))) % 256) != 0) = true := bne_iff_ne.mpr c17
                  obtain ⟨y161, hy161⟩ : ∃ y_ : List Int, y_ = (([] : List Int)) := ⟨_, rfl⟩
                  replace H : (if y161.length + t144.length < 140737488355328 then ((some (y161 ++ t144 : List Int)).bind fun y164 => (if 0 ≤ ((l1.length : Int) % (wrap64 ((t144.length : Int) - 1))) then (if ((l1.length : Int) % (wrap64 ((t144.length : Int) - 1))) < (y164.length : Int) then ((some (y164.set (((l1.length : Int) % (wrap64 ((t144.length : Int) - 1))) : Int).toNat (Go.bits .xor .u8 (rd y164 ((l1.length : Int) % (wrap64 ((t144.length : Int) - 1)))) ((wrap64 ((l1.length : Int) * 7)) % 256)) : List Int)).bind fun y168 => (if 0 ≤ (wrap64 (((l1.length : Int) % (wrap64 ((t144.length : Int) - 1))) + 1)) then (if (wrap64 (((l1.length : Int) % (wrap64 ((t144.length : Int) - 1))) + 1)) < (y164.length : Int) then ((impl_CrcOf.f kj2 (y168.set ((wrap64 (((l1.length : Int) % (wrap64 ((t144.length : Int) - 1))) + 1)) : Int).toNat (Go.bits .xor .u8 (rd y168 (wrap64 (((l1.length : Int) % (wrap64 ((t144.length : Int) - 1))) + 1))) ((wrap64 ((wrap64 ((l0.length : Int) * 13)) + (l1.length : Int))) % 256)))).bind fun t171 => (some (t171 != t147))) else (none)) else (none))) else (none)) else (none))) else (none)) = some r := by first | (rw [hy161]; with_reducible exact H) | (have H2_ := (Option.bind_some _ _).symm.trans H; rw [hy161]; with_reducible exact H2_) | (have H2_ := (Option.bind_some _ _).symm.trans H; with_reducible exact H2_) | with_reducible exact H | (rw [hy161]; exact H) | exact H
                  have Ny161 := Aside0.mk hy161
                  clear hy161
                  by_cases c38 : y161.length + t144.length < 140737488355328
                  · rw [if_pos c38] at H
                    have LMc38 := Aside0.mk c38
                    clear c38
                    obtain ⟨y164, hy164⟩ : ∃ y_ : List Int, y_ = (y161 ++ t144) := ⟨_, rfl⟩
                    replace H : (if 0 ≤ ((l1.length : Int) % (wrap64 ((t144.length : Int) - 1))) then (if ((l1.length : Int) % (wrap64 ((t144.length : Int) - 1))) < (y164.length : Int) then ((some (y164.set (((l1.length : Int) % (wrap64 ((t144.length : Int) - 1))) : Int).toNat (Go.bits .xor .u8 (rd y164 ((l1.length : Int) % (wrap64 ((t144.length : Int) - 1)))) ((wrap64 ((l1.length : Int) * 7)) % 256)) : List Int)).bind fun y168 => (if 0 ≤ (wrap64 (((l1.length : Int) % (wrap64 ((t144.length : Int) - 1))) + 1)) then (if (wrap64 (((l1.length : Int) % (wrap64 ((t144.length : Int) - 1))) + 1)) < (y164.length : Int) then ((impl_CrcOf.f kj2 (y168.set ((wrap64 (((l1.length : Int) % (wrap64 ((t144.length : Int) - 1))) + 1)) : Int).toNat (Go.bits .xor .u8 (rd y168 (wrap64 (((l1.length : Int) % (wrap64 ((t144.length : Int) - 1))) + 1))) ((wrap64 ((wrap64 ((l0.length : Int) * 13)) + (l1.length : Int))) % 256)))).bind fun t171 => (some (t171 != t147))) else (none)) else (none))) else (none)) else (none)) = some r := by first | (rw [hy164]; with_reducible exact H) | (have H2_ := (Option.bind_some _ _).symm.trans H; rw [hy164]; with_reducible exact H2_) | (have H2_ := (Option.bind_some _ _).symm.trans H; with_reducible exact H2_) | with_reducible exact H | (rw [hy164]; exact H) | exact H
                    have Ny164 := Aside0.mk hy164
                    clear hy164
                    obtain ⟨ji39, hji39⟩ : ∃ j_ : Int, ((l1.length : Int) % (wrap64 ((t144.length : Int) - 1))) = j_ := ⟨_, rfl⟩
                    replace H : (if 0 ≤ (ji39) then (if (ji39) < (y164.length : Int) then ((some (y164.set ((ji39) : Int).toNat (Go.bits .xor .u8 (rd y164 (ji39)) ((wrap64 ((l1.length : Int) * 7)) % 256)) : List Int)).bind fun y168 => (if 0 ≤ (wrap64 ((ji39) + 1)) then (if (wrap64 ((ji39) + 1)) < (y164.length : Int) then ((impl_CrcOf.f kj2 (y168.set ((wrap64 ((ji39) + 1)) : Int).toNat (Go.bits .xor .u8 (rd y168 (wrap64 ((ji39) + 1))) ((wrap64 ((wrap64 ((l0.length : Int) * 13)) + (l1.length : Int))) % 256)))).bind fun t171 => (some (t171 != t147))) else (none)) else (none))) else (none)) else (none)) = some r := by first | (rw [hji39] at H; exact H) | (simp only [hji39] at H ⊢; exact H)
                    (try rw [hji39] at A6)
                    (try rw [hji39] at A7)
                    (try rw [hji39] at A8)
                    by_cases c40 : 0 ≤ (ji39)
                    · rw [if_pos c40] at H
                      have c40b0 : decide (0 ≤ (ji39)) = true := decide_eq_true c40
                      clear c40
                      by_cases c41 : (ji39) < (y164.length : Int)
                      · rw [if_pos c41] at H
                        have c41b0 : decide ((ji39) < (y164.length : Int)) = true := decide_eq_true c41
                        clear c41
                        obtain ⟨y168, hy168⟩ : ∃ y_ : List Int, y_ = (y164.set ((ji39) : Int).toNat (Go.bits .xor .u8 (rd y164 (ji39)) ((wrap64 ((l1.length : Int) * 7)) % 256))) := ⟨_, rfl⟩
                        replace H : (if 0 ≤ (wrap64 ((ji39) + 1)) then (if (wrap64 ((ji39) + 1)) < (y164.length : Int) then ((impl_CrcOf.f kj2 (y168.set ((wrap64 ((ji39) + 1)) : Int).toNat (Go.bits .xor .u8 (rd y168 (wrap64 ((ji39) + 1))) ((wrap64 ((wrap64 ((l0.length : Int) * 13)) + (l1.length : Int))) % 256)))).bind fun t171 => (some (t171 != t147))) else (none)) else (none)) = some r := by first | (rw [hy168]; with_reducible exact H) | (have H2_ := (Option.bind_some _ _).symm.trans H; rw [hy168]; with_reducible exact H2_) | (have H2_ := (Option.bind_some _ _).symm.trans H; with_reducible exact H2_) | with_reducible exact H | (rw [hy168]; exact H) | exact H
                        have Ny168 := Aside0.mk hy168
                        clear hy168
                        obtain ⟨ji43, hji43⟩ : ∃ j_ : Int, (wrap64 ((ji39) + 1)) = j_ := ⟨_, rfl⟩
                        replace H : (if 0 ≤ (ji43) then (if (ji43) < (y164.length : Int) then ((impl_CrcOf.f kj2 (y168.set ((ji43) : Int).toNat (Go.bits .xor .u8 (rd y168 (ji43)) ((wrap64 ((wrap64 ((l0.length : Int) * 13)) + (l1.length : Int))) % 256)))).bind fun t171 => (some (t171 != t147))) else (none)) else (none)) = some r := by first | (rw [hji43] at H; exact H) | (simp only [hji43] at H ⊢; exact H)
                        (try rw [hji43] at A6)
                        (try rw [hji43] at A7)
                        (try rw [hji43] at A8)
                        have hji43w : (IntKind.i64.wrap ((ji39) + 1)) = ji43 := (i64_w _).trans hji43
                        by_cases c44 : 0 ≤ (ji43)
                        · rw [if_pos c44] at H
                          have c44b0 : decide (0 ≤ (ji43)) = true := decide_eq_true c44
                          clear c44
                          by_cases c45 : (ji43) < (y164.length : Int)
                          · rw [if_pos c45] at H
                            have c45b0 : decide ((ji43) < (y164.length : Int)) = true := decide_eq_true c45
                            clear c45
                            obtain ⟨y170, hy170⟩ : ∃ y_ : List Int, y_ = (y168.set ((ji43) : Int).toNat (Go.bits .xor .u8 (rd y168 (ji43)) ((wrap64 ((wrap64 ((l0.length : Int) * 13)) + (l1.length : Int))) % 256))) := ⟨_, rfl⟩
                            replace H : ((impl_CrcOf.f kj2 y170).bind fun t171 => (some (t171 != t147))) = some r := by first | (rw [hy170]; with_reducible exact H) | (have H2_ := (Option.bind_some _ _).symm.trans H; rw [hy170]; with_reducible exact H2_) | (have H2_ := (Option.bind_some _ _).symm.trans H; with_reducible exact H2_) | with_reducible exact H | (rw [hy170]; exact H) | exact H
                            have Ny170 := Aside0.mk hy170
                            clear hy170
                            replace H := Option.bind_eq_some_iff.mp H
                            obtain ⟨t171, A470, H⟩ := H
                            replace H : (some (t171 != t147)) = some r := H
                            have A47 := Aside0.mk A470
                            clear A470
                            obtain rfl := Option.some.inj H
                            go_wp2_with (first | ((with_reducible refine gate_callee (f := 13) rfl ?_); refine goesL_ (some 20) rfl rfl Try.func13 (by kernel_rfl) rfl #[.slice A0 l0.length c0] rfl (by (try simp only [List.map_toArray, List.map_cons, List.map_nil]); first | done | rfl | (simp only [List.length_drop, List.length_take]; rfl)) ?_; (with_reducible refine (spec_DrawCrcOf.calls kj2 _ _ l0 t144 _ ?side1 ?side2 A6.out).mono ?_); (case side1 => repeat (first | exact (Kd.C_below HR0.out HB.out) | (with_reducible refine Kd.C_alloc ?_ _) | (with_reducible refine Kd.C_drewN ?_ _) | (with_reducible refine Kd.C_drew ?_))); (case side2 => exact HC0.out); rintro e w48 ⟨v145, rfl, ho0, hb⟩; refine ⟨_, rfl, ?_⟩; have n0_ := Aside0.mk (Kd.R_lower ho0 (below_size (by repeat (first | (with_reducible first | exact HB.out | apply below_alloc | apply pw_below_drewN | apply below_drew1) | exact HB.out)))); have n1_ := Aside0.mk (below_step (by repeat (first | (with_reducible first | exact HB.out | apply below_alloc | apply pw_below_drewN | apply below_drew1) | exact HB.out)) hb); clear HB; have HO146 := n0_; have HB := n1_; clear n0_ n1_; (try clear hb); (try clear hb2); (try clear hk); (try clear hi); (try clear ho0); obtain ⟨Ao49, co49, eo49⟩ := Kd.R_slice HO146.out; subst eo49) | ((with_reducible refine gate_callee (f := 14) rfl ?_); refine goesL_ (some 22) rfl rfl Try.func14 (by kernel_rfl) rfl #[.slice Ao49 t144.length co49] rfl (by (try simp only [List.map_toArray, List.map_cons, List.map_nil]); first | done | rfl | (simp only [List.length_drop, List.length_take]; rfl)) ?_; (with_reducible refine (impl_CrcOf.calls kj2 _ _ t144 t147 _ ?side1 ?side2 A7.out).mono ?_); (case side1 => repeat (first | exact (Kd.R_reads' HO146.out).2.2 | (with_reducible refine Kd.C_alloc ?_ _) | (with_reducible refine Kd.C_drewN ?_ _) | (with_reducible refine Kd.C_drew ?_))); (case side2 => exact (Kd.R_reads' HO146.out).2.1); rintro e w' ⟨rfl, ⟨nd, rfl⟩⟩; refine ⟨_, rfl, ?_⟩; (try (rw [drewN_self w48]; generalize hq_ : World.drewN w48 _ = w48; have n0_ : Aside0 (Kd.R (Kd.int .u8) 5 w48 w.heap.size (fun _ => True) (.slice Ao49 t144.length co49) t144) := ⟨by rw [← hq_]; exact (by (with_reducible repeat (first | apply Kd.R_alloc | apply Kd.R_drewN | apply Kd.R_drew)); exact HO146.out)⟩; have n1_ : Aside0 (Below w.heap.size w w48) := ⟨by rw [← hq_]; exact (by repeat (first | (with_reducible first | exact HB.out | apply below_alloc | apply pw_below_drewN | apply below_drew1) | exact HB.out))⟩; clear HO146 HB hq_; have HO146 := n0_; have HB := n1_; clear n0_ n1_))) | ((with_reducible refine gate_callee (f := 15) rfl ?_); refine goesL_ (some 25) rfl rfl Try.func15 (by kernel_rfl) rfl #[.slice Ao49 t144.length co49] rfl (by (try simp only [List.map_toArray, List.map_cons, List.map_nil]); first | done | rfl | (simp only [List.length_drop, List.length_take]; rfl)) ?_; (with_reducible refine (spec_CrcOf.calls kj2 _ _ t144 t148 _ ?side1 ?side2 A8.out).mono ?_); (case side1 => repeat (first | exact (Kd.R_reads' HO146.out).2.2 | (with_reducible refine Kd.C_alloc ?_ _) | (with_reducible refine Kd.C_drewN ?_ _) | (with_reducible refine Kd.C_drew ?_))); (case side2 => exact (Kd.R_reads' HO146.out).2.1); rintro e w' ⟨rfl, ⟨nd, rfl⟩⟩; refine ⟨_, rfl, ?_⟩; (try (rw [drewN_self w48]; generalize hq_ : World.drewN w48 _ = w48; have n0_ : Aside0 (Kd.R (Kd.int .u8) 5 w48 w.heap.size (fun _ => True) (.slice Ao49 t144.length co49) t144) := ⟨by rw [← hq_]; exact (by (with_reducible repeat (first | apply Kd.R_alloc | apply Kd.R_drewN | apply Kd.R_drew)); exact HO146.out)⟩; have n1_ : Aside0 (Below w.heap.size w w48) := ⟨by rw [← hq_]; exact (by repeat (first | (with_reducible first | exact HB.out | apply below_alloc | apply pw_below_drewN | apply below_drew1) | exact HB.out))⟩; clear HO146 HB hq_; have HO146 := n0_; have HB := n1_; clear n0_ n1_))) | ((with_reducible refine gate_dst (N := 54) rfl ?_); refine Kd.R_lit (Kd.int .u8) _ 5 ?hg (N := 54) ?hd (xs := ([] : List Int)) (inner := []) (ok := fun _ => True) (okp := fun _ => True) ?hr ?hp (fun _ hk => hk) trivial (Below.refl _ _) (Nat.le_refl _) (by simp) ?_; (case hd => rfl); (case hg => rfl); (case hr => first | (go_simp; done) | (go_simp; rfl)); (case hp => exact (Reps.none _ _)); intro v162 w50 ho51 hb hg_ hnew_; clear hg_ hnew_; (first | rw [← Ny161.out] at ho51 | (simp only [Int.reduceToNat] at ho51; rw [← Ny161.out] at ho51)); have n0_ := Aside0.mk (Kd.R_elder' (by (with_reducible repeat (first | apply Kd.R_alloc | apply Kd.R_drewN | apply Kd.R_drew)); exact HO146.out) (Kd.R_base ho51) hb); have n1_ := Aside0.mk (Kd.R_lower (Kd.R_new' ho51 (Kd.R_lt (by (with_reducible repeat (first | apply Kd.R_alloc | apply Kd.R_drewN | apply Kd.R_drew)); exact HO146.out))) (below_size (by repeat (first | (with_reducible first | exact HB.out | apply below_alloc | apply pw_below_drewN | apply below_drew1) | exact HB.out)))); have n2_ := Aside0.mk (below_step (by repeat (first | (with_reducible first | exact HB.out | apply below_alloc | apply pw_below_drewN | apply below_drew1) | exact HB.out)) hb); clear HO146; clear HB; have HO146 := n0_; have HO163 := n1_; have HB := n2_; clear n0_ n1_ n2_; clear hb ho51) | ((with_reducible refine gate_builtin (b := .append) (xs := #[.tmp 54, .tmp 55]) rfl ?_); at_builtin; refine Kd.R_append_rows (Kd.int .u8) (w0 := w) w.heap.size rfl (.tmp 54) (.tmp 55) 22 5 (.int .u8 0) 1 rfl Try.underlying22 info5 rfl (by decide) (by omega) v162 y161 t144 _ _ _ (fun k_ => some k_ ≠ (.slice Ao49 t144.length co49 : Value).ownBlock) (fun _ => False) rfl rfl ?aO ?aR (fun _ _ h => h) (fun _ h => h.elim) ?aF ?aB ?aS ?aL ?_; (case aR => repeat (first | exact (Kd.R_reads' HO146.out).2.2 | (with_reducible refine Kd.C_alloc ?_ _) | (with_reducible refine Kd.C_drewN ?_ _) | (with_reducible refine Kd.C_drew ?_))); (case aB => exact (by repeat (first | (with_reducible first | exact HB.out | apply below_alloc | apply pw_below_drewN | apply below_drew1) | exact HB.out))); (case aF => exact (fun k_ hk => Kd.fresh' (Kd.R_lt (by (with_reducible repeat (first | apply Kd.R_alloc | apply Kd.R_drewN | apply Kd.R_drew)); exact HO146.out)) k_ hk)); (case aO => exact (by (with_reducible repeat (first | apply Kd.R_alloc | apply Kd.R_drewN | apply Kd.R_drew)); exact Kd.R_mono HO163.out (fun _ hk => hk.2))); (case aS => exact (below_size (by repeat (first | (with_reducible first | exact HB.out | apply below_alloc | apply pw_below_drewN | apply below_drew1) | exact HB.out)))); (case aL => have := LMc38.out; omega); intro v165 w52 ho hb hg hat; rw [← Ny164.out] at ho; have n0_ := Aside0.mk (Kd.R_after (ok := (fun _ => True)) (by (with_reducible repeat (first | apply Kd.R_alloc | apply Kd.R_drewN | apply Kd.R_drew)); exact HO146.out) hg hat); have n1_ := Aside0.mk (hb); have n2_ := Aside0.mk (ho); clear HO146; clear HB; clear HO163; have HO146 := n0_; have HB := n1_; have HO166 := n2_; clear n0_ n1_ n2_; clear ho hb hg hat; obtain ⟨Ao53, co53, eo53⟩ := Kd.R_slice HO166.out; subst eo53; have p167 : 0 ≤ ((ji39) : Int) := of_decide_eq_true (by first | (with_reducible assumption) | assumption); have q167 : (ji39) < (y164.length : Int) := of_decide_eq_true (by first | (with_reducible assumption) | assumption); obtain ⟨ad167, e167, hx167_0⟩ := Kd.at_int (Kd.R_reads' HO166.out).2.2 (ji39) p167 q167; cases e167; replace p167 := eq_true p167; replace q167 := eq_true q167; have p42 : 0 ≤ ((ji39) : Int) := of_decide_eq_true (by first | (with_reducible assumption) | assumption); have q42 : ((ji39) : Int) < ((y164.length : Int) : Int) := of_decide_eq_true (by first | (with_reducible assumption) | assumption); obtain ⟨go42, co42, eo42, gb42, gl42, cl42, HG42⟩ := Kd.R_form HO166.out (by omega); (first | cases eo42 | (injection eo42 with ea_ en_ ec_; (first | subst ea_ | (injection ea_ with ea_; subst ea_)); subst ec_; clear en_)); have GB42 := Aside0.mk gb42; have GG42 := Aside0.mk HG42; clear gb42 gl42 HG42; (first | simp only [add_plain] at hx167_0 | skip); obtain ⟨hx42_0, hf42_0⟩ := Kd.R_celln 0 HO166.out ((ji39) : Int) p42 q42; replace p42 := eq_true p42; replace q42 := eq_true q42; obtain ⟨hy54_, hz54_⟩ := Kd.R_celln 0 HO166.out ((ji39) : Int) (of_decide_eq_true (by first | (with_reducible assumption) | assumption)) (of_decide_eq_true (by first | (with_reducible assumption) | assumption)); have HP54 := Kd.R_putg HO166.out ((ji39) : Int) (Go.bits .xor .u8 (rd y164 (ji39)) ((wrap64 ((l1.length : Int) * 7)) % 256))) | ((with_reducible refine gate_store (t := 5) (p := 65) rfl ?_); refine store_event (t := 5) (p := 65) (v := ?vo_w55) (w1 := (w52.setCell ⟨go42, ((ji39) : Int).toNat, none⟩ (.int .u8 (Go.bits .xor .u8 (rd y164 (ji39)) ((wrap64 ((l1.length : Int) * 7)) % 256))))) ?hg ?ho ?hn ?hr ?_; (case ho => rfl); (case hg => rfl); (case hn => rfl); (case hr => first | (go_simp; done) | (go_simp; rfl)); intro w55 hw; have hg : w52.grownBy w55 (some go42) := (by rw [hw]; exact HP54.2); have hp_ : Kd.R (Kd.int .u8) 5 w55 w.heap.size (fun k_ => some k_ ≠ (.slice Ao49 t144.length co49 : Value).ownBlock) (.slice (some ⟨go42, 0, none⟩) y164.length co53) y168 := (by rw [hw, Ny168.out]; exact HP54.1); clear HP54; have n0_ := Aside0.mk (Kd.R_after (v := (.slice (some ⟨go42, 0, none⟩) y164.length co53)) (v1 := (.slice (some ⟨go42, 0, none⟩) y164.length co53)) (ok := (fun _ => True)) (by (with_reducible repeat (first | apply Kd.R_alloc | apply Kd.R_drewN | apply Kd.R_drew)); exact HO146.out) hg (.inl rfl)); have n1_ := Aside0.mk (hp_); have n2_ := Aside0.mk ((by rw [hw]; exact below_set (HB.out) GB42.out : Below w.heap.size w w55)); clear HO146; clear HO166; clear HB; have HO146 := n0_; have HO166 := n1_; have HB := n2_; clear n0_ n1_ n2_; clear hg hw hp_; have p169 : 0 ≤ ((ji43) : Int) := of_decide_eq_true (by first | (with_reducible assumption) | assumption); have q169 : (ji43) < (y168.length : Int) := (by have h_ : ((ji43) : Int) < ((y164.length : Int) : Int) := of_decide_eq_true (by first | (with_reducible assumption) | assumption); first | (have e_ := (Kd.R_reads' HO166.out).1; omega) | simpa only [Ny168.out, List.length_set] using h_); have ql169 : (((ji43) : Int) < ((y164.length : Int) : Int)) = True := eq_true (of_decide_eq_true (by first | (with_reducible assumption) | assumption)); obtain ⟨ad169, e169, hx169_0⟩ := Kd.at_int (Kd.R_reads' HO166.out).2.2 (ji43) p169 q169; obtain rfl : (⟨go42, 0, none⟩ : Addr) = ad169 := (by injection e169); (first | simp only [add_plain] at hx169_0 | simp only [add_at] at hx169_0 | simp only [Addr.add, Nat.zero_add] at hx169_0 | skip); replace p169 := eq_true p169; replace q169 := eq_true q169; have p46 : 0 ≤ ((ji43) : Int) := of_decide_eq_true (by first | (with_reducible assumption) | assumption); have q46 : ((ji43) : Int) < ((y164.length : Int) : Int) := of_decide_eq_true (by first | (with_reducible assumption) | assumption); obtain ⟨hx46_0, hf46_0⟩ := Kd.R_celln 0 HO166.out ((ji43) : Int) p46 q46; replace p46 := eq_true p46; replace q46 := eq_true q46; obtain ⟨hy56_, hz56_⟩ := Kd.R_celln 0 HO166.out ((ji43) : Int) (of_decide_eq_true (by first | (with_reducible assumption) | assumption)) (of_decide_eq_true (by first | (with_reducible assumption) | assumption)); have HP56 := Kd.R_putg HO166.out ((ji43) : Int) (Go.bits .xor .u8 (rd y168 (ji43)) ((wrap64 ((wrap64 ((l0.length : Int) * 13)) + (l1.length : Int))) % 256))) | ((with_reducible refine gate_store (t := 5) (p := 76) rfl ?_); refine store_event (t := 5) (p := 76) (v := ?vo_w57) (w1 := (w55.setCell ⟨go42, ((ji43) : Int).toNat, none⟩ (.int .u8 (Go.bits .xor .u8 (rd y168 (ji43)) ((wrap64 ((wrap64 ((l0.length : Int) * 13)) + (l1.length : Int))) % 256))))) ?hg ?ho ?hn ?hr ?_; (case ho => rfl); (case hg => rfl); (case hn => rfl); (case hr => first | (go_simp; done) | (go_simp; rfl)); intro w57 hw; have hg : w55.grownBy w57 (some go42) := (by rw [hw]; exact HP56.2); have hp_ : Kd.R (Kd.int .u8) 5 w57 w.heap.size (fun k_ => some k_ ≠ (.slice Ao49 t144.length co49 : Value).ownBlock) (.slice (some ⟨go42, 0, none⟩) y164.length co53) y170 := (by rw [hw, Ny170.out]; exact HP56.1); clear HP56; have n0_ := Aside0.mk (Kd.R_after (v := (.slice (some ⟨go42, 0, none⟩) y164.length co53)) (v1 := (.slice (some ⟨go42, 0, none⟩) y164.length co53)) (ok := (fun _ => True)) (by (with_reducible repeat (first | apply Kd.R_alloc | apply Kd.R_drewN | apply Kd.R_drew)); exact HO146.out) hg (.inl rfl)); have n1_ := Aside0.mk (hp_); have n2_ := Aside0.mk ((by rw [hw]; exact below_set (HB.out) GB42.out : Below w.heap.size w w57)); clear HO146; clear HO166; clear HB; have HO146 := n0_; have HO166 := n1_; have HB := n2_; clear n0_ n1_ n2_; clear hg hw hp_) | ((with_reducible refine gate_callee (f := 14) rfl ?_); refine goesL_ (some 78) rfl rfl Try.func14 (by kernel_rfl) rfl #[.slice (some ⟨go42, 0, none⟩) y170.length co53] rfl (by (try simp only [List.map_toArray, List.map_cons, List.map_nil]); first | done | (rw [show y170.length = y164.length from (Kd.R_reads' HO166.out).1.symm] <;> rfl) | rfl | (simp only [List.length_drop, List.length_take]; rfl)) ?_; (with_reducible refine (impl_CrcOf.calls kj2 _ _ y170 t171 _ ?side1 ?side2 A47.out).mono ?_); (case side1 => repeat (first | exact (Kd.R_reads' HO166.out).2.2 | (with_reducible refine Kd.C_alloc ?_ _) | (with_reducible refine Kd.C_drewN ?_ _) | (with_reducible refine Kd.C_drew ?_))); (case side2 => rw [show y170.length = y164.length from (Kd.R_reads' HO166.out).1.symm]; exact (Kd.R_reads' HO166.out).2.1); rintro e w' ⟨rfl, ⟨nd, rfl⟩⟩; refine ⟨_, rfl, ?_⟩))
                            go_ret
                            exact ⟨by first | rfl | (simp [errW_none, errW_some] <;> rfl) | (simp only [← hji39, ← hji43]; first | rfl | (simp [errW_none, errW_some] <;> rfl)) | (simp [*, errW_none, errW_some] <;> rfl), by repeat (first | (with_reducible first | exact HB.out | apply below_alloc | apply pw_below_drewN | apply below_drew1) | exact HB.out)⟩
                          · rw [if_neg c45] at H
                            exact absurd H (by simp)
                        · rw [if_neg c44] at H
                          exact absurd H (by simp)
                      · rw [if_neg c41] at H
                        exact absurd H (by simp)
                    · rw [if_neg c40] at H
                      exact absurd H (by simp)
                  · rw [if_neg c38] at H
                    exact absurd H (by simp)
              · rw [if_neg c16] at H
                have c16b0 : (((wrap64 ((l1.length : Int) * 7)) % 256) == 0) = false := beq_eq_false_iff_ne.mpr c16
                have c16b1 : (((wrap64 ((l1.length : Int) * 7)) % 256) != 0) = true := bne_iff_ne.mpr c16
                obtain ⟨y172, hy172⟩ : ∃ y_ : List Int, y_ = (([] : List Int)) := ⟨_, rfl⟩
                replace H : (if y172.length + t144.length < 140737488355328 then ((some (y172 ++ t144 : List Int)).bind fun y175 => (if 0 ≤ ((l1.length : Int) % (wrap64 ((t144.length : Int) - 1))) then (if ((l1.length : Int) % (wrap64 ((t144.length : Int) - 1))) < (y175.length : Int) then ((some (y175.set (((l1.length : Int) % (wrap64 ((t144.length : Int) - 1))) : Int).toNat (Go.bits .xor .u8 (rd y175 ((l1.length : Int) % (wrap64 ((t144.length : Int) - 1)))) ((wrap64 ((l1.length : Int) * 7)) % 256)) : List Int)).bind fun y179 => (if 0 ≤ (wrap64 (((l1.length : Int) % (wrap64 ((t144.length : Int) - 1))) + 1)) then (if (wrap64 (((l1.length : Int) % (wrap64 ((t144.length : Int) - 1))) + 1)) < (y175.length : Int) then ((impl_CrcOf.f kj2 (y179.set ((wrap64 (((l1.length : Int) % (wrap64 ((t144.length : Int) - 1))) + 1)) : Int).toNat (Go.bits .xor .u8 (rd y179 (wrap64 (((l1.length : Int) % (wrap64 ((t144.length : Int) - 1))) + 1))) ((wrap64 ((wrap64 ((l0.length : Int) * 13)) + (l1.length : Int))) % 256)))).bind fun t182 => (some (t182 != t147))) else (none)) else (none))) else (none)) else (none))) else (none)) = some r := by first | (rw [hy172]; with_reducible exact H) | (have H2_ := (Option.bind_some _ _).symm.trans H; rw [hy172]; with_reducible exact H2_) | (have H2_ := (Option.bind_some _ _).symm.trans H; with_reducible exact H2_) | with_reducible exact H | (rw [hy172]; exact H) | exact H
                have Ny172 := Aside0.mk hy172
                clear hy172
                by_cases c58 : y172.length + t144.length < 140737488355328
                · rw [if_pos c58] at H
                  have LMc58 := Aside0.mk c58
                  clear c58
                  obtain ⟨y175, hy175⟩ : ∃ y_ : List Int, y_ = (y172 ++ t144) := ⟨_, rfl⟩
                  replace H : (if 0 ≤ ((l1.length : Int) % (wrap64 ((t144.length : Int) - 1))) then (if ((l1.length : Int) % (wrap64 ((t144.length : Int) - 1))) < (y175.length : Int) then ((some (y175.set (((l1.length : Int) % (wrap64 ((t144.length : Int) - 1))) : Int).toNat (Go.bits .xor .u8 (rd y175 ((l1.length : Int) % (wrap64 ((t144.length : Int) - 1)))) ((wrap64 ((l1.length : Int) * 7)) % 256)) : List Int)).bind fun y179 => (if 0 ≤ (wrap64 (((l1.length : Int) % (wrap64 ((t144.length : Int) - 1))) + 1)) then (if (wrap64 (((l1.length : Int) % (wrap64 ((t144.length : Int) - 1))) + 1)) < (y175.length : Int) then ((impl_CrcOf.f kj2 (y179.set ((wrap64 (((l1.length : Int) % (wrap64 ((t144.length : Int) - 1))) + 1)) : Int).toNat (Go.bits .xor .u8 (rd y179 (wrap64 (((l1.length : Int) % (wrap64 ((t144.length : Int) - 1))) + 1))) ((wrap64 ((wrap64 ((l0.length : Int) * 13)) + (l1.length : Int))) % 256)))).bind fun t182 => (some (t182 != t147))) else (none)) else (none))) else (none)) else (none)) = some r := by first | (rw [hy175]; with_reducible exact H) | (have H2_ := (Option.bind_some _ _).symm.trans H; rw [hy175]; with_reducible exact H2_) | (have H2_ := (Option.bind_some _ _).symm.trans H; with_reducible exact H2_) | with_reducible exact H | (rw [hy175]; exact H) | exact H
                  have Ny175 := Aside0.mk hy175
                  clear hy175
                  obtain ⟨ji59, hji59⟩ : ∃ j_ : Int, ((l1.length : Int) % (wrap64 ((t144.length : Int) - 1))) = j_ := ⟨_, rfl⟩
                  replace H : (if 0 ≤ (ji59) then (if (ji59) < (y175.length : Int) then ((some (y175.set ((ji59) : Int).toNat (Go.bits .xor .u8 (rd y175 (ji59)) ((wrap64 ((l1.length : Int) * 7)) % 256)) : List Int)).bind fun y179 => (if 0 ≤ (wrap64 ((ji59) + 1)) then (if (wrap64 ((ji59) + 1)) < (y175.length : Int) then ((impl_CrcOf.f kj2 (y179.set ((wrap64 ((ji59) + 1)) : Int).toNat (Go.bits .xor .u8 (rd y179 (wrap64 ((ji59) + 1))) ((wrap64 ((wrap64 ((l0.length : Int) * 13)) + (l1.length : Int))) % 256)))).bind fun t182 => (some (t182 != t147))) else (none)) else (none))) else (none)) else (none)) = some r := by first | (rw [hji59] at H; exact H) | (simp only [hji59] at H ⊢; exact H)
                  (try rw [hji59] at A6)
                  (try rw [hji59] at A7)
                  (try rw [hji59] at A8)
                  by_cases c60 : 0 ≤ (ji59)
                  · rw [if_pos c60] at H
                    have c60b0 : decide (0 ≤ (ji59)) = true := decide_eq_true c60
                    clear c60
                    by_cases c61 : (ji59) < (y175.length : Int)
                    · rw [if_pos c61] at H
                      have c61b0 : decide ((ji59) < (y175.length : Int)) = true := decide_eq_true c61
                      clear c61
                      obtain ⟨y179, hy179⟩ : ∃ y_ : List Int, y_ = (y175.set ((ji59) : Int).toNat (Go.bits .xor .u8 (rd y175 (ji59)) ((wrap64 ((l1.length : Int) * 7)) % 256))) := ⟨_, rfl⟩
                      replace H : (if 0 ≤ (wrap64 ((ji59) + 1)) then (if (wrap64 ((ji59) + 1)) < (y175.length : Int) then ((impl_CrcOf.f kj2 (y179.set ((wrap64 ((ji59) + 1)) : Int).toNat (Go.bits .xor .u8 (rd y179 (wrap64 ((ji59) + 1))) ((wrap64 ((wrap64 ((l0.length : Int) * 13)) + (l1.length : Int))) % 256)))).bind fun t182 => (some (t182 != t147))) else (none)) else (none)) = some r := by first | (rw [hy179]; with_reducible exact H) | (have H2_ := (Option.bind_some _ _).symm.trans H; rw [hy179]; with_reducible exact H2_) | (have H2_ := (Option.bind_some _ _).symm.trans H; with_reducible exact H2_) | with_reducible exact H | (rw [hy179]; exact H) | exact H
                      have Ny179 := Aside0.mk hy179
                      clear hy179
                      obtain ⟨ji63, hji63⟩ : ∃ j_ : Int, (wrap64 ((ji59) + 1)) = j_ := ⟨_, rfl⟩
                      replace H : (if 0 ≤ (ji63) then (if (ji63) < (y175.length : Int) then ((impl_CrcOf.f kj2 (y179.set ((ji63) : Int).toNat (Go.bits .xor .u8 (rd y179 (ji63)) ((wrap64 ((wrap64 ((l0.length : Int) * 13)) + (l1.length : Int))) % 256)))).bind fun t182 => (some (t182 != t147))) else (none)) else (none)) = some r := by first | (rw [hji63] at H; exact H) | (simp only [hji63] at H ⊢; exact H)
                      (try rw [hji63] at A6)
                      (try rw [hji63] at A7)
                      (try rw [hji63] at A8)
                      have hji63w : (IntKind.i64.wrap ((ji59) + 1)) = ji63 := (i64_w _).trans hji63
                      by_cases c64 : 0 ≤ (ji63)
                      · rw [if_pos c64] at H
                        have c64b0 : decide (0 ≤ (ji63)) = true := decide_eq_true c64
                        clear c64
                        by_cases c65 : (ji63) < (y175.length : Int)
                        · rw [if_pos c65] at H
                          have c65b0 : decide ((ji63) < (y175.length : Int)) = true := decide_eq_true c65
                          clear c65
                          obtain ⟨y181, hy181⟩ : ∃ y_ : List Int, y_ = (y179.set ((ji63) : Int).toNat (Go.bits .xor .u8 (rd y179 (ji63)) ((wrap64 ((wrap64 ((l0.length : Int) * 13)) + (l1.length : Int))) % 256))) := ⟨_, rfl⟩
                          replace H : ((impl_CrcOf.f kj2 y181).bind fun t182 => (some (t182 != t147))) = some r := by first | (rw [hy181]; with_reducible exact H) | (have H2_ := (Option.bind_some _ _).symm.trans H; rw [hy181]; with_reducible exact H2_) | (have H2_ := (Option.bind_some _ _).symm.trans H; with_reducible exact H2_) | with_reducible exact H | (rw [hy181]; exact H) | exact H
                          have Ny181 := Aside0.mk hy181
                          clear hy181
                          replace H := Option.bind_eq_some_iff.mp H
                          obtain ⟨t182, A670, H⟩ := H
                          replace H : (some (t182 != t147)) = some r := H
                          have A67 := Aside0.mk A670
                          clear A670
                          obtain rfl := Option.some.inj H
                          go_wp2_with (first | ((with_reducible refine gate_callee (f := 13) rfl ?_); refine goesL_ (some 20) rfl rfl Try.func13 (by kernel_rfl) rfl #[.slice A0 l0.length c0] rfl (by (try simp only [List.map_toArray, List.map_cons, List.map_nil]); first | done | rfl | (simp only [List.length_drop, List.length_take]; rfl)) ?_; (with_reducible refine (spec_DrawCrcOf.calls kj2 _ _ l0 t144 _ ?side1 ?side2 A6.out).mono ?_); (case side1 => repeat (first | exact (Kd.C_below HR0.out HB.out) | (with_reducible refine Kd.C_alloc ?_ _) | (with_reducible refine Kd.C_drewN ?_ _) | (with_reducible refine Kd.C_drew ?_))); (case side2 => exact HC0.out); rintro e w68 ⟨v145, rfl, ho0, hb⟩; refine ⟨_, rfl, ?_⟩; have n0_ := Aside0.mk (Kd.R_lower ho0 (below_size (by repeat (first | (with_reducible first | exact HB.out | apply below_alloc | apply pw_below_drewN | apply below_drew1) | exact HB.out)))); have n1_ := Aside0.mk (below_step (by repeat (first | (with_reducible first | exact HB.out | apply below_alloc | apply pw_below_drewN | apply below_drew1) | exact HB.out)) hb); clear HB; have HO146 := n0_; have HB := n1_; clear n0_ n1_; (try clear hb); (try clear hb2); (try clear hk); (try clear hi); (try clear ho0); obtain ⟨Ao69, co69, eo69⟩ := Kd.R_slice HO146.out; subst eo69) | ((with_reducible refine gate_callee (f := 14) rfl ?_); refine goesL_ (some 22) rfl rfl Try.func14 (by kernel_rfl) rfl #[.slice Ao69 t144.length co69] rfl (by (try simp only [List.map_toArray, List.map_cons, List.map_nil]); first | done | rfl | (simp only [List.length_drop, List.length_take]; rfl)) ?_; (with_reducible refine (impl_CrcOf.calls kj2 _ _ t144 t147 _ ?side1 ?side2 A7.out).mono ?_); (case side1 => repeat (first | exact (Kd.R_reads' HO146.out).2.2 | (with_reducible refine Kd.C_alloc ?_ _) | (with_reducible refine Kd.C_drewN ?_ _) | (with_reducible refine Kd.C_drew ?_))); (case side2 => exact (Kd.R_reads' HO146.out).2.1); rintro e w' ⟨rfl, ⟨nd, rfl⟩⟩; refine ⟨_, rfl, ?_⟩; (try (rw [drewN_self w68]; generalize hq_ : World.drewN w68 _ = w68; have n0_ : Aside0 (Kd.R (Kd.int .u8) 5 w68 w.heap.size (fun _ => True) (.slice Ao69 t144.length co69) t144) := ⟨by rw [← hq_]; exact (by (with_reducible repeat (first | apply Kd.R_alloc | apply Kd.R_drewN | apply Kd.R_drew)); exact HO146.out)⟩; have n1_ : Aside0 (Below w.heap.size w w68) := ⟨by rw [← hq_]; exact (by repeat (first | (with_reducible first | exact HB.out | apply below_alloc | apply pw_below_drewN | apply below_drew1) | exact HB.out))⟩; clear HO146 HB hq_; have HO146 := n0_; have HB := n1_; clear n0_ n1_))) | ((with_reducible refine gate_callee (f := 15) rfl ?_); refine goesL_ (some 25) rfl rfl Try.func15 (by kernel_rfl) rfl #[.slice Ao69 t144.length co69] rfl (by (try simp only [List.map_toArray, List.map_cons, List.map_nil]); first | done | rfl | (simp only [List.length_drop, List.length_take]; rfl)) ?_; (with_reducible refine (spec_CrcOf.calls kj2 _ _ t144 t148 _ ?side1 ?side2 A8.out).mono ?_); (case side1 => repeat (first | exact (Kd.R_reads' HO146.out).2.2 | (with_reducible refine Kd.C_alloc ?_ _) | (with_reducible refine Kd.C_drewN ?_ _) | (with_reducible refine Kd.C_drew ?_))); (case side2 => exact (Kd.R_reads' HO146.out).2.1); rintro e w' ⟨rfl, ⟨nd, rfl⟩⟩; refine ⟨_, rfl, ?_⟩; (try (rw [drewN_self w68]; generalize hq_ : World.drewN w68 _ = w68; have n0_ : Aside0 (Kd.R (Kd.int .u8) 5 w68 w.heap.size (fun _ => True) (.slice Ao69 t144.length co69) t144) := ⟨by rw [← hq_]; exact (by (with_reducible repeat (first | apply Kd.R_alloc | apply Kd.R_drewN | apply Kd.R_drew)); exact HO146.out)⟩; have n1_ : Aside0 (Below w.heap.size w w68) := ⟨by rw [← hq_]; exact (by repeat (first | (with_reducible first | exact HB.out | apply below_alloc | apply pw_below_drewN | apply below_drew1) | exact HB.out))⟩; clear HO146 HB hq_; have HO146 := n0_; have HB := n1_; clear n0_ n1_))) | ((with_reducible refine gate_dst (N := 54) rfl ?_); refine Kd.R_lit (Kd.int .u8) _ 5 ?hg (N := 54) ?hd (xs := ([] : List Int)) (inner := []) (ok := fun _ => True) (okp := fun _ => True) ?hr ?hp (fun _ hk => hk) trivial (Below.refl _ _) (Nat.le_refl _) (by simp) ?_; (case hd => rfl); (case hg => rfl); (case hr => first | (go_simp; done) | (go_simp; rfl)); (case hp => exact (Reps.none _ _)); intro v173 w70 ho71 hb hg_ hnew_; clear hg_ hnew_; (first | rw [← Ny172.out] at ho71 | (simp only [Int.reduceToNat] at ho71; rw [← Ny172.out] at ho71)); have n0_ := Aside0.mk (Kd.R_elder' (by (with_reducible repeat (first | apply Kd.R_alloc | apply Kd.R_drewN | apply Kd.R_drew)); exact HO146.out) (Kd.R_base ho71) hb); have n1_ := Aside0.mk (Kd.R_lower (Kd.R_new' ho71 (Kd.R_lt (by (with_reducible repeat (first | apply Kd.R_alloc | apply Kd.R_drewN | apply Kd.R_drew)); exact HO146.out))) (below_size (by repeat (first | (with_reducible first | exact HB.out | apply below_alloc | apply pw_below_drewN | apply below_drew1) | exact HB.out)))); have n2_ := Aside0.mk (below_step (by repeat (first | (with_reducible first | exact HB.out | apply below_alloc | apply pw_below_drewN | apply below_drew1) | exact HB.out)) hb); clear HO146; clear HB; have HO146 := n0_; have HO174 := n1_; have HB := n2_; clear n0_ n1_ n2_; clear hb ho71) | ((with_reducible refine gate_builtin (b := .append) (xs := #[.tmp 54, .tmp 55]) rfl ?_); at_builtin; refine Kd.R_append_rows (Kd.int .u8) (w0 := w) w.heap.size rfl (.tmp 54) (.tmp 55) 22 5 (.int .u8 0) 1 rfl Try.underlying22 info5 rfl (by decide) (by omega) v173 y172 t144 _ _ _ (fun k_ => some k_ ≠ (.slice Ao69 t144.length co69 : Value).ownBlock) (fun _ => False) rfl rfl ?aO ?aR (fun _ _ h => h) (fun _ h => h.elim) ?aF ?aB ?aS ?aL ?_; (case aR => repeat (first | exact (Kd.R_reads' HO146.out).2.2 | (with_reducible refine Kd.C_alloc ?_ _) | (with_reducible refine Kd.C_drewN ?_ _) | (with_reducible refine Kd.C_drew ?_))); (case aB => exact (by repeat (first | (with_reducible first | exact HB.out | apply below_alloc | apply pw_below_drewN | apply below_drew1) | exact HB.out))); (case aF => exact (fun k_ hk => Kd.fresh' (Kd.R_lt (by (with_reducible repeat (first | apply Kd.R_alloc | apply Kd.R_drewN | apply Kd.R_drew)); exact HO146.out)) k_ hk)); (case aO => exact (by (with_reducible repeat (first | apply Kd.R_alloc | apply Kd.R_drewN | apply Kd.R_drew)); exact Kd.R_mono HO174.out (fun _ hk => hk.2))); (case aS => exact (below_size (by repeat (first | (with_reducible first | exact HB.out | apply below_alloc | apply pw_below_drewN | apply below_drew1) | exact HB.out)))); (case aL => have := LMc58.out; omega); intro v176 w72 ho hb hg hat; rw [← Ny175.out] at ho; have n0_ := Aside0.mk (Kd.R_after (ok := (fun _ => True)) (by (with_reducible repeat (first | apply Kd.R_alloc | apply Kd.R_drewN | apply Kd.R_drew)); exact HO146.out) hg hat); have n1_ := Aside0.mk (hb); have n2_ := Aside0.mk (ho); clear HO146; clear HB; clear HO174; have HO146 := n0_; have HB := n1_; have HO177 := n2_; clear n0_ n1_ n2_; clear ho hb hg hat; obtain ⟨Ao73, co73, eo73⟩ := Kd.R_slice HO177.out; subst eo73; have p178 : 0 ≤ ((ji59) : Int) := of_decide_eq_true (by first | (with_reducible assumption) | assumption); have q178 : (ji59) < (y175.length : Int) := of_decide_eq_true (by first | (with_reducible assumption) | assumption); obtain ⟨ad178, e178, hx178_0⟩ := Kd.at_int (Kd.R_reads' HO177.out).2.2 (ji59) p178 q178; cases e178; replace p178 := eq_true p178; replace q178 := eq_true q178; have p62 : 0 ≤ ((ji59) : Int) := of_decide_eq_true (by first | (with_reducible assumption) | assumption); have q62 : ((ji59) : Int) < ((y175.length : Int) : Int) := of_decide_eq_true (by first | (with_reducible assumption) | assumption); obtain ⟨go62, co62, eo62, gb62, gl62, cl62, HG62⟩ := Kd.R_form HO177.out (by omega); (first | cases eo62 | (injection eo62 with ea_ en_ ec_; (first | subst ea_ | (injection ea_ with ea_; subst ea_)); subst ec_; clear en_)); have GB62 := Aside0.mk gb62; have GG62 := Aside0.mk HG62; clear gb62 gl62 HG62; (first | simp only [add_plain] at hx178_0 | skip); obtain ⟨hx62_0, hf62_0⟩ := Kd.R_celln 0 HO177.out ((ji59) : Int) p62 q62; replace p62 := eq_true p62; replace q62 := eq_true q62; obtain ⟨hy74_, hz74_⟩ := Kd.R_celln 0 HO177.out ((ji59) : Int) (of_decide_eq_true (by first | (with_reducible assumption) | assumption)) (of_decide_eq_true (by first | (with_reducible assumption) | assumption)); have HP74 := Kd.R_putg HO177.out ((ji59) : Int) (Go.bits .xor .u8 (rd y175 (ji59)) ((wrap64 ((l1.length : Int) * 7)) % 256))) | ((with_reducible refine gate_store (t := 5) (p := 65) rfl ?_); refine store_event (t := 5) (p := 65) (v := ?vo_w75) (w1 := (w72.setCell ⟨go62, ((ji59) : Int).toNat, none⟩ (.int .u8 (Go.bits .xor .u8 (rd y175 (ji59)) ((wrap64 ((l1.length : Int) * 7)) % 256))))) ?hg ?ho ?hn ?hr ?_; (case ho => rfl); (case hg => rfl); (case hn => rfl); (case hr => first | (go_simp; done) | (go_simp; rfl)); intro w75 hw; have hg : w72.grownBy w75 (some go62) := (by rw [hw]; exact HP74.2); have hp_ : Kd.R (Kd.int .u8) 5 w75 w.heap.size (fun k_ => some k_ ≠ (.slice Ao69 t144.length co69 : Value).ownBlock) (.slice (some ⟨go62, 0, none⟩) y175.length co73) y179 := (by rw [hw, Ny179.out]; exact HP74.1); clear HP74; have n0_ := Aside0.mk (Kd.R_after (v := (.slice (some ⟨go62, 0, none⟩) y175.length co73)) (v1 := (.slice (some ⟨go62, 0, none⟩) y175.length co73)) (ok := (fun _ => True)) (by (with_reducible repeat (first | apply Kd.R_alloc | apply Kd.R_drewN | apply Kd.R_drew)); exact HO146.out) hg (.inl rfl)); have n1_ := Aside0.mk (hp_); have n2_ := Aside0.mk ((by rw [hw]; exact below_set (HB.out) GB62.out : Below w.heap.size w w75)); clear HO146; clear HO177; clear HB; have HO146 := n0_; have HO177 := n1_; have HB := n2_; clear n0_ n1_ n2_; clear hg hw hp_; have p180 : 0 ≤ ((ji63) : Int) := of_decide_eq_true (by first | (with_reducible assumption) | assumption); have q180 : (ji63) < (y179.length : Int) := (by have h_ : ((ji63) : Int) < ((y175.length : Int) : Int) := of_decide_eq_true (by first | (with_reducible assumption) | assumption); first | (have e_ := (Kd.R_reads' HO177.out).1; omega) | simpa only [Ny179.out, List.length_set] using h_); have ql180 : (((ji63) : Int) < ((y175.length : Int) : Int)) = True := eq_true (of_decide_eq_true (by first | (with_reducible assumption) | assumption)); obtain ⟨ad180, e180, hx180_0⟩ := Kd.at_int (Kd.R_reads' HO177.out).2.2 (ji63) p180 q180; obtain rfl : (⟨go62, 0, none⟩ : Addr) = ad180 := (by injection e180); (first | simp only [add_plain] at hx180_0 | simp only [add_at] at hx180_0 | simp only [Addr.add, Nat.zero_add] at hx180_0 | skip); replace p180 := eq_true p180; replace q180 := eq_true q180; have p66 : 0 ≤ ((ji63) : Int) := of_decide_eq_true (by first | (with_reducible assumption) | assumption); have q66 : ((ji63) : Int) < ((y175.length : Int) : Int) := of_decide_eq_true (by first | (with_reducible assumption) | assumption); obtain ⟨hx66_0, hf66_0⟩ := Kd.R_celln 0 HO177.out ((ji63) : Int) p66 q66; replace p66 := eq_true p66; replace q66 := eq_true q66; obtain ⟨hy76_, hz76_⟩ := Kd.R_celln 0 HO177.out ((ji63) : Int) (of_decide_eq_true (by first | (with_reducible assumption) | assumption)) (of_decide_eq_true (by first | (with_reducible assumption) | assumption)); have HP76 := Kd.R_putg HO177.out ((ji63) : Int) (Go.bits .xor .u8 (rd y179 (ji63)) ((wrap64 ((wrap64 ((l0.length : Int) * 13)) + (l1.length : Int))) % 256))) | ((with_reducible refine gate_store (t := 5) (p := 76) rfl ?_); refine store_event (t := 5) (p := 76) (v := ?vo_w77) (w1 := (w75.setCell ⟨go62, ((ji63) : Int).toNat, none⟩ (.int .u8 (Go.bits .xor .u8 (rd y179 (ji63)) ((wrap64 ((wrap64 ((l0.length : Int) * 13)) + (l1.length : Int))) % 256))))) ?hg ?ho ?hn ?hr ?_; (case ho => rfl); (case hg => rfl); (case hn => rfl); (case hr => first | (go_simp; done) | (go_simp; rfl)); intro w77 hw; have hg : w75.grownBy w77 (some go62) := (by rw [hw]; exact HP76.2); have hp_ : Kd.R (Kd.int .u8) 5 w77 w.heap.size (fun k_ => some k_ ≠ (.slice Ao69 t144.length co69 : Value).ownBlock) (.slice (some ⟨go62, 0, none⟩) y175.length co73) y181 := (by rw [hw, Ny181.out]; exact HP76.1); clear HP76; have n0_ := Aside0.mk (Kd.R_after (v := (.slice (some ⟨go62, 0, none⟩) y175.length co73)) (v1 := (.slice (some ⟨go62, 0, none⟩) y175.length co73)) (ok := (fun _ => True)) (by (with_reducible repeat (first | apply Kd.R_alloc | apply Kd.R_drewN | apply Kd.R_drew)); exact HO146.out) hg (.inl rfl)); have n1_ := Aside0.mk (hp_); have n2_ := Aside0.mk ((by rw [hw]; exact below_set (HB.out) GB62.out : Below w.heap.size w w77)); clear HO146; clear HO177; clear HB; have HO146 := n0_; have HO177 := n1_; have HB := n2_; clear n0_ n1_ n2_; clear hg hw hp_) | ((with_reducible refine gate_callee (f := 14) rfl ?_); refine goesL_ (some 78) rfl rfl Try.func14 (by kernel_rfl) rfl #[.slice (some ⟨go62, 0, none⟩) y181.length co73] rfl (by (try simp only [List.map_toArray, List.map_cons, List.map_nil]); first | done | (rw [show y181.length = y175.length from (Kd.R_reads' HO177.out).1.symm] <;> rfl) | rfl | (simp only [List.length_drop, List.length_take]; rfl)) ?_; (with_reducible refine (impl_CrcOf.calls kj2 _ _ y181 t182 _ ?side1 ?side2 A67.out).mono ?_); (case side1 => repeat (first | exact (Kd.R_reads' HO177.out).2.2 | (with_reducible refine Kd.C_alloc ?_ _) | (with_reducible refine Kd.C_drewN ?_ _) | (with_reducible refine Kd.C_drew ?_))); (case side2 => rw [show y181.length = y175.length from (Kd.R_reads' HO177.out).1.symm]; exact (Kd.R_reads' HO177.out).2.1); rintro e w' ⟨rfl, ⟨nd, rfl⟩⟩; refine ⟨_, rfl, ?_⟩))
                          go_ret
                          exact ⟨by first | rfl | (simp [errW_none, errW_some] <;> rfl) | (simp only [← hji59, ← hji63]; first | rfl | (simp [errW_none, errW_some] <;> rfl)) | (simp [*, errW_none, errW_some] <;> rfl), by repeat (first | (with_reducible first | exact HB.out | apply below_alloc | apply pw_below_drewN | apply below_drew1) | exact HB.out)⟩
                        · rw [if_neg c65] at H
                          exact absurd H (by simp)
                      · rw [if_neg c64] at H
                        exact absurd H (by simp)
                    · rw [if_neg c61] at H
                      exact absurd H (by simp)
                  · rw [if_neg c60] at H
                    exact absurd H (by simp)
                · rw [if_neg c58] at H
                  exact absurd H (by simp)
        · rw [if_neg c9] at H
          have c9b0 : (t147 == t148) = false := beq_eq_false_iff_ne.mpr c9
          have c9b1 : (t147 != t148) = true := bne_iff_ne.mpr c9
          obtain rfl := Option.some.inj H
          go_wp2_with (first | ((with_reducible refine gate_callee (f := 13) rfl ?_); refine goesL_ (some 20) rfl rfl Try.func13 (by kernel_rfl) rfl #[.slice A0 l0.length c0] rfl (by (try simp only [List.map_toArray, List.map_cons, List.map_nil]); first | done | rfl | (simp only [List.length_drop, List.length_take]; rfl)) ?_; (with_reducible refine (spec_DrawCrcOf.calls kj2 _ _ l0 t144 _ ?side1 ?side2 A6.out).mono ?_); (case side1 => repeat (first | exact (Kd.C_below HR0.out HB.out) | (with_reducible refine Kd.C_alloc ?_ _) | (with_reducible refine Kd.C_drewN ?_ _) | (with_reducible refine Kd.C_drew ?_))); (case side2 => exact HC0.out); rintro e w78 ⟨v145, rfl, ho0, hb⟩; refine ⟨_, rfl, ?_⟩; have n0_ := Aside0.mk (Kd.R_lower ho0 (below_size (by repeat (first | (with_reducible first | exact HB.out | apply below_alloc | apply pw_below_drewN | apply below_drew1) | exact HB.out)))); have n1_ := Aside0.mk (below_step (by repeat (first | (with_reducible first | exact HB.out | apply below_alloc | apply pw_below_drewN | apply below_drew1) | exact HB.out)) hb); clear HB; have HO146 := n0_; have HB := n1_; clear n0_ n1_; (try clear hb); (try clear hb2); (try clear hk); (try clear hi); (try clear ho0); obtain ⟨Ao79, co79, eo79⟩ := Kd.R_slice HO146.out; subst eo79) | ((with_reducible refine gate_callee (f := 14) rfl ?_); refine goesL_ (some 22) rfl rfl Try.func14 (by kernel_rfl) rfl #[.slice Ao79 t144.length co79] rfl (by (try simp only [List.map_toArray, List.map_cons, List.map_nil]); first | done | rfl | (simp only [List.length_drop, List.length_take]; rfl)) ?_; (with_reducible refine (impl_CrcOf.calls kj2 _ _ t144 t147 _ ?side1 ?side2 A7.out).mono ?_); (case side1 => repeat (first | exact (Kd.R_reads' HO146.out).2.2 | (with_reducible refine Kd.C_alloc ?_ _) | (with_reducible refine Kd.C_drewN ?_ _) | (with_reducible refine Kd.C_drew ?_))); (case side2 => exact (Kd.R_reads' HO146.out).2.1); rintro e w' ⟨rfl, ⟨nd, rfl⟩⟩; refine ⟨_, rfl, ?_⟩) | ((with_reducible refine gate_callee (f := 15) rfl ?_); refine goesL_ (some 25) rfl rfl Try.func15 (by kernel_rfl) rfl #[.slice Ao79 t144.length co79] rfl (by (try simp only [List.map_toArray, List.map_cons, List.map_nil]); first | done | rfl | (simp only [List.length_drop, List.length_take]; rfl)) ?_; (with_reducible refine (spec_CrcOf.calls kj2 _ _ t144 t148 _ ?side1 ?side2 A8.out).mono ?_); (case side1 => repeat (first | exact (Kd.R_reads' HO146.out).2.2 | (with_reducible refine Kd.C_alloc ?_ _) | (with_reducible refine Kd.C_drewN ?_ _) | (with_reducible refine Kd.C_drew ?_))); (case side2 => exact (Kd.R_reads' HO146.out).2.1); rintro e w' ⟨rfl, ⟨nd, rfl⟩⟩; refine ⟨_, rfl, ?_⟩))
          go_ret
          exact ⟨by first | rfl | (simp [errW_none, errW_some] <;> rfl) | (simp [*, errW_none, errW_some] <;> rfl), by repeat (first | (with_reducible first | exact HB.out | apply below_alloc | apply pw_below_drewN | apply below_drew1) | exact HB.out)⟩

/-- THE ONE PURE STATEMENT of laws_FnCrcBurst: yours. -/
def laws_FnCrcBurst.Pure : Prop := ∀ (l0 : List Int) (l1 : List Int), l0.length ≤ maxLen → l0.length * 1 ≤ 140737488351232 → (∀ x ∈ l0, (Lit.int .u8 x).wf = true) → l1.length ≤ maxLen → l1.length * 1 ≤ 140737488351232 → (∀ x ∈ l1, (Lit.int .u8 x).wf = true) → ∃ k, laws_FnCrcBurst.f k l0 l1 = some true
theorem laws_FnCrcBurst.walk (P : laws_FnCrcBurst.Pure) (a0 : Option Addr) (len0 cap0 : Nat) (z0 : List Int) (a1 : Option Addr) (len1 cap1 : Nat) (z1 : List Int) (w : World) (w0 : (a0 = none ∧ len0 = 0 ∧ cap0 = 0 ∧ z0 = []) ∨ ∃ x, a0 = some x ∧ len0 ≤ cap0 ∧ cap0 ≤ maxLen ∧ z0.length = cap0 ∧ (∀ i, i < z0.length → w.cell? (x.add i) = some (.int .u8 (z0.getD i 0))) ∧ ∀ n ∈ z0, (Lit.int .u8 n).wf = true) (y0 : len0 * 1 ≤ 140737488351232) (w1 : (a1 = none ∧ len1 = 0 ∧ cap1 = 0 ∧ z1 = []) ∨ ∃ x, a1 = some x ∧ len1 ≤ cap1 ∧ cap1 ≤ maxLen ∧ z1.length = cap1 ∧ (∀ i, i < z1.length → w.cell? (x.add i) = some (.int .u8 (z1.getD i 0))) ∧ ∀ n ∈ z1, (Lit.int .u8 n).wf = true) (y1 : len1 * 1 ≤ 140737488351232) :
    Calls Try.prog 4 #[.slice a0 len0 cap0, .slice a1 len1 cap1] w fun e w' => e = .returned (.bool true) ∧ Below w.heap.size w w' := by
  obtain ⟨l0, rfl, hr0, hm0, hw0, hc0⟩ := ReadsInt.ofRowC w0
  obtain ⟨l1, rfl, hr1, hm1, hw1, hc1⟩ := ReadsInt.ofRowC w1
  obtain ⟨k, h⟩ := P l0 l1 hm0 y0 hw0 hm1 y1 hw1
  refine (laws_FnCrcBurst.calls k _ _ l0 _ _ l1 true w (Kd.C_of_reads (d := (0 : Int)) (h1 := fun _ => rfl) hr0) hc0 (Kd.C_of_reads (d := (0 : Int)) (h1 := fun _ => rfl) hr1) hc1 h).mono ?_
  rintro e w' ⟨rfl, hd⟩
  exact ⟨rfl, hd⟩

end Go.Proofs.Ytgdioppiopppeaa.PFnCrcBurst
