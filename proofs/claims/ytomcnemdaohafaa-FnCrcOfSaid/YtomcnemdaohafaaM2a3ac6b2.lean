/- A part of the proof of laws of the program: what calls of the program answer. Conditions: none. -/
import Derived.Test.YtomcnemdaohafaaMe802e3d3
set_option linter.unusedVariables false
set_option linter.unusedSimpArgs false
set_option linter.unusedSectionVars false
/- Contracts: LawCrc2. Conditions: none. -/
set_option linter.unusedVariables false
set_option maxHeartbeats 1600000
namespace Go.Proofs.YtomcnemdaohafaaE
open Go
theorem crc_turn {b : List Int} (h : Bytes b) {n : Nat} (hn : n < b.length) (y : Int) (hy : 1 ≤ y ∧ y ≤ 255) : crc 0 (b.set n (Go.bits .xor .u8 (at_u8 b n) (IntKind.wrap .u8 y))) ≠ crc 0 b :=
  crc_set_ne (l := b) (xor8_lt (h.at8 n) (wr8_lt y)) n h (show 0 < 2 ^ 16 by decide) hn (turn_ne (h.at8 n) hy)
theorem crc_bent {b : List Int} (h : Bytes b) (hb : 0 < b.length) (m : Nat) : ((crc 0 (b.set (Int.tmod (m : Int) (b.length : Int)).toNat (Go.bits .xor .u8 (at_u8 b (Int.tmod (m : Int) (b.length : Int)).toNat) (IntKind.wrap .u8 (1 + Int.tmod (m : Int) 255)))) : Nat) : Int) ≠ ((crc 0 b : Nat) : Int) := by
  have a1 := Int.tmod_lt_of_pos (m : Int) (show 0 < (b.length : Int) by omega)
  have a2 := Int.tmod_nonneg (b.length : Int) (show 0 ≤ (m : Int) by omega)
  have b1 := Int.tmod_lt_of_pos (m : Int) (show (0 : Int) < 255 by decide)
  have b2 := Int.tmod_nonneg 255 (show 0 ≤ (m : Int) by omega)
  intro e
  exact crc_turn h (n := (Int.tmod (m : Int) (b.length : Int)).toNat) (by omega) (1 + Int.tmod (m : Int) 255) (by omega) (Int.ofNat.inj e)
theorem crc_nil0 : crc 0 [] = 0 := rfl

/-! laws.FnCrcOf -/
def c_laws_FnCrcOf : Ent := ctr (α := (List Int)) (ρ := (Bool)) [] [] (rs1 rBytes) (fun x_ => (fun (l : List Int) => (Bytes l)) x_) (fun x_ r_ => (fun x_ => (fun (l : List Int) => ((fun r_ => (fun (r : Bool) => (r = true)) r_))) x_) x_ r_) (fun r_ => (fun (r : Bool) => ([rB.to r])) r_) (fun r_ => (fun (r : Bool) => ([])) r_)
def l_laws_FnCrcOf_0 : LoopD ((List Int) × (List Int) × (Int) × (Int) × (Int)) ((List Int) × (List Int) × (Int) × (Int)) ((Empty)) where
  n := 76
  head := ⟨[0, 3, 4, 5, 6], [], []⟩
  st := fun x_ => (fun (l : List Int) (b : List Int) (m : Int) (s : Int) (k : Int) => (⟨true, [(0, .v false [.d (.r .u8 l)]), (3, .v false [.d (.r .u8 b)]), (4, num .i64 m), (5, num .i64 s), (6, num .i64 k)], [⟨0, none⟩], []⟩)) x_.1 x_.2.1 x_.2.2.1 x_.2.2.2.1 x_.2.2.2.2
  pre := fun x_ => (fun (l : List Int) (b : List Int) (m : Int) (s : Int) (k : Int) => (Bytes b ∧ b.length ≤ 20 ∧ s = 0 ∧ k = 0)) x_.1 x_.2.1 x_.2.2.1 x_.2.2.2.1 x_.2.2.2.2
  nk := ⟨[0, 3, 4, 5], [], []⟩
  nst := fun r_ => (fun (l : List Int) (b : List Int) (m : Int) (r : Int) => (⟨true, [(0, .v false [.d (.r .u8 l)]), (3, .v false [.d (.r .u8 b)]), (4, num .i64 m), (5, num .i64 r)], [⟨0, none⟩], []⟩)) r_.1 r_.2.1 r_.2.2.1 r_.2.2.2
  npost := fun x_ r_ => (fun x_ => (fun (l0 : List Int) (b0 : List Int) (m0 : Int) (s0 : Int) (k0 : Int) => ((fun r_ => (fun (l : List Int) (b : List Int) (m : Int) (r : Int) => (l = l0 ∧ b = b0 ∧ m = m0 ∧ r = ((crc 0 b0 : Nat) : Int))) r_.1 r_.2.1 r_.2.2.1 r_.2.2.2))) x_.1 x_.2.1 x_.2.2.1 x_.2.2.2.1 x_.2.2.2.2) x_ r_
  rk := ⟨[], [], []⟩
  rst := fun _ => ⟨true, [], [], []⟩
  rpost := fun _ _ => False
def i_laws_FnCrcOf_0 (x : (List Int) × (List Int) × (Int) × (Int) × (Int)) (n : Nat) (s : (List Int) × (List Int) × (Int) × (Int) × (Int)) : Prop := (fun x_ => (fun (l0 : List Int) (b0 : List Int) (m0 : Int) (s0 : Int) (k0 : Int) => ((fun s_ => (fun (l : List Int) (b : List Int) (m : Int) (s : Int) (k : Int) => (l = l0 ∧ b = b0 ∧ m = m0 ∧ Bytes b ∧ b.length ≤ 20 ∧ 0 ≤ s ∧ s ≤ 65535 ∧ 0 ≤ k ∧ k + n = b.length ∧ crc s.toNat (b.drop k.toNat) = crc 0 b0)) s_.1 s_.2.1 s_.2.2.1 s_.2.2.2.1 s_.2.2.2.2))) x_.1 x_.2.1 x_.2.2.1 x_.2.2.2.1 x_.2.2.2.2) x s
def V_laws_FnCrcOf : Env := ⟨tys, [(5, c_spec_DrawCrcOf), (6, c_impl_CrcOf), (7, c_spec_CrcOf), (8, c_impl_CrcStep), (9, c_impl_CrcPut), (10, c_laws_liOk)], [(48, [0])], [], [], [(0, l_laws_FnCrcOf_0.L)], [500034, 500045], [], [(17, [(0, false), (1, false), (2, false), (3, false), (4, false), (5, false), (6, false), (7, false), (8, false), (9, false), (10, false), (11, false), (12, false), (13, false), (14, false), (15, false), (16, false), (17, false), (18, false), (19, false), (20, false), (21, true)])]⟩
end Go.Proofs.YtomcnemdaohafaaE

/- Calls answer what is promised: LawCrc2. Conditions: none. -/
set_option linter.unusedVariables false
set_option maxHeartbeats 1600000
namespace Go.Proofs.YtomcnemdaohafaaE
open Go
theorem vF_laws_FnCrcOf (l:List Int) (K:List Arg→List (List AC)→Prop) (hp:Bytes l) (hk:∀ (r:Bool),(r=true)→K ([rB.to r]) ([])):if ((decide ((((List.length l):Nat):Int) > (1048576:Int)))=true) then ((true=true)∧(K [(aB true)] [])) else ((true=true)∧((Bytes l)∧(∀ r:(List Int),((Bytes r)∧((List.length r)≤(20:Nat)))→(true=true)∧((true=true)∧(((Bytes r)∧((List.length r)≤(137438953472:Nat)))∧(∀ r1:Int,(r1=(((crc (0:Nat) r):Nat):Int))→(true=true)∧((true=true)∧(((Bytes r)∧((List.length r)≤(137438953472:Nat)))∧(∀ r2:Int,(r2=(((crc (0:Nat) r):Nat):Int))→(true=true)∧(if ((r1 != r2)=true) then ((true=true)∧(K [(aB false)] [])) else (∃ s:(Prod (List Int) (Prod (List Int) (Prod Int (Prod Int Int)))),((KS.mk true [(Prod.mk (0:Nat) (T.v false [(Cm.d (D.r RK.u8 l))])),(Prod.mk (3:Nat) (T.v false [(Cm.d (D.r RK.u8 r))])),(Prod.mk (4:Nat) (num IntKind.i64 r1)),(Prod.mk (5:Nat) (num IntKind.i64 (0:Int))),(Prod.mk (6:Nat) (num IntKind.i64 (0:Int)))] [(Row.mk (0:Nat) Option.none)] [])=(KS.mk true [(Prod.mk (0:Nat) (T.v false [(Cm.d (D.r RK.u8 s.fst))])),(Prod.mk (3:Nat) (T.v false [(Cm.d (D.r RK.u8 s.snd.fst))])),(Prod.mk (4:Nat) (num IntKind.i64 s.snd.snd.fst)),(Prod.mk (5:Nat) (num IntKind.i64 s.snd.snd.snd.fst)),(Prod.mk (6:Nat) (num IntKind.i64 s.snd.snd.snd.snd))] [(Row.mk (0:Nat) Option.none)] []))∧(((Bytes s.snd.fst)∧(((List.length s.snd.fst)≤(20:Nat))∧((s.snd.snd.snd.fst=(0:Int))∧(s.snd.snd.snd.snd=(0:Int)))))∧((∀ r3:(Prod (List Int) (Prod (List Int) (Prod Int Int))),((r3.fst=s.fst)∧((r3.snd.fst=s.snd.fst)∧((r3.snd.snd.fst=s.snd.snd.fst)∧(r3.snd.snd.snd=(((crc (0:Nat) s.snd.fst):Nat):Int)))))→if ((r3.snd.snd.snd != r3.snd.snd.fst)=true) then ((true=true)∧(K [(aB false)] [])) else ((true=true)∧(((Bytes r3.snd.fst)∧((List.length r3.snd.fst)≤(1000000000:Nat)))∧(∀ r4:(List Int),(r4=(crcPut r3.snd.fst))→(true=true)∧((true=true)∧(((Bytes r4)∧((List.length r4)≤(137438953472:Nat)))∧(∀ r5:Int,(r5=(((crc (0:Nat) r4):Nat):Int))→(true=true)∧(if ((r5 != (0:Int))=true) then ((true=true)∧(K [(aB false)] [])) else (if (((((List.length r3.snd.fst):Nat):Int) == (0:Int))=true) then (if ((r3.snd.snd.fst == (0:Int))=true) then ((true=true)∧(True∧(∀ r6:Bool,(r6=true)→(true=true)∧((true=true)∧(K [(aB r6)] []))))) else ((true=true)∧(K [(aB false)] []))) else ((((0:Nat) + (List.length r3.snd.fst))≤(137438953472:Nat))∧(((((List.length (([]:(List Int)) ++ r3.snd.fst:(List Int))):Nat):Int) ≠ (0:Int))∧(((((List.length (([]:(List Int)) ++ r3.snd.fst:(List Int))):Nat):Int) ≠ (0:Int))∧((((0:Int)≤(Int.tmod (((List.length r3.fst):Nat):Int) (((List.length (([]:(List Int)) ++ r3.snd.fst:(List Int))):Nat):Int)))∧((Int.tmod (((List.length r3.fst):Nat):Int) (((List.length (([]:(List Int)) ++ r3.snd.fst:(List Int))):Nat):Int)) < (((List.length (([]:(List Int)) ++ r3.snd.fst:(List Int))):Nat):Int)))∧(((255:Int) ≠ (0:Int))∧((((0:Int)≤(Int.tmod (((List.length r3.fst):Nat):Int) (((List.length (([]:(List Int)) ++ r3.snd.fst:(List Int))):Nat):Int)))∧((Int.tmod (((List.length r3.fst):Nat):Int) (((List.length (([]:(List Int)) ++ r3.snd.fst:(List Int))):Nat):Int)) < (((List.length (([]:(List Int)) ++ r3.snd.fst:(List Int))):Nat):Int)))∧((true=true)∧((true=true)∧(((Bytes (List.set (([]:(List Int)) ++ r3.snd.fst:(List Int)) (Int.toNat (Int.tmod (((List.length r3.fst):Nat):Int) (((List.length (([]:(List Int)) ++ r3.snd.fst:(List Int))):Nat):Int))) (bits BinOp.xor IntKind.u8 (at_u8 (([]:(List Int)) ++ r3.snd.fst:(List Int)) (Int.toNat (Int.tmod (((List.length r3.fst):Nat):Int) (((List.length (([]:(List Int)) ++ r3.snd.fst:(List Int))):Nat):Int)))) (IntKind.wrap IntKind.u8 (IntKind.wrap IntKind.i64 ((1:Int) + (Int.tmod (((List.length r3.fst):Nat):Int) (255:Int))))))))∧((List.length (List.set (([]:(List Int)) ++ r3.snd.fst:(List Int)) (Int.toNat (Int.tmod (((List.length r3.fst):Nat):Int) (((List.length (([]:(List Int)) ++ r3.snd.fst:(List Int))):Nat):Int))) (bits BinOp.xor IntKind.u8 (at_u8 (([]:(List Int)) ++ r3.snd.fst:(List Int)) (Int.toNat (Int.tmod (((List.length r3.fst):Nat):Int) (((List.length (([]:(List Int)) ++ r3.snd.fst:(List Int))):Nat):Int)))) (IntKind.wrap IntKind.u8 (IntKind.wrap IntKind.i64 ((1:Int) + (Int.tmod (((List.length r3.fst):Nat):Int) (255:Int))))))))≤(137438953472:Nat)))∧(∀ r6:Int,(r6=(((crc (0:Nat) (List.set (([]:(List Int)) ++ r3.snd.fst:(List Int)) (Int.toNat (Int.tmod (((List.length r3.fst):Nat):Int) (((List.length (([]:(List Int)) ++ r3.snd.fst:(List Int))):Nat):Int))) (bits BinOp.xor IntKind.u8 (at_u8 (([]:(List Int)) ++ r3.snd.fst:(List Int)) (Int.toNat (Int.tmod (((List.length r3.fst):Nat):Int) (((List.length (([]:(List Int)) ++ r3.snd.fst:(List Int))):Nat):Int)))) (IntKind.wrap IntKind.u8 (IntKind.wrap IntKind.i64 ((1:Int) + (Int.tmod (((List.length r3.fst):Nat):Int) (255:Int)))))))):Nat):Int))→(true=true)∧((true=true)∧(K [(aB (r6 != r3.snd.snd.fst))] [])))))))))))))))))))))∧(∀ r3:Empty,False→False)))))))))))))) := by
  repeat' first
    | exact rfl
    | exact True.intro
    | with_reducible apply And.intro
    | (with_reducible intro y_ hy_; subst hy_)
    | with_reducible intro y_
    | (refine iteI (fun h => ?_) (fun h => ?_))
  all_goals try simp only [Bool.not_eq_true', decide_eq_false_iff_not, decide_eq_true_eq, Bool.not_eq_true, bne_iff_ne, beq_iff_eq, ne_eq, Decidable.not_not, Bool.not_eq_false, gt_iff_lt, ge_iff_le, Int.not_le, Int.not_lt, beq_eq_false_iff_ne, bne_eq_false_iff_eq, Bool.and_eq_true, Bool.or_eq_true, Bool.true_eq_false, Bool.false_eq_true] at *
  all_goals try simp (disch := first | omega | grind [crcPut_len, crcPut_bytes]) only [wr] at *
  all_goals first
    | assumption
    | omega
    | (obtain ⟨hb, hl⟩ := y_
       refine ⟨(_, _, _, 0, 0), rfl, ⟨hb, hl, rfl, rfl⟩, ?_, fun _ h => h.elim⟩
       rintro ⟨l', b', m', s'⟩ ⟨e1, e2, e3, e4⟩
       dsimp only at e1 e2 e3 e4 ⊢
       subst e1 e2 e3 e4
       rw [if_neg (fun hx => hx rfl)]
       refine ⟨trivial, ⟨hb, by omega⟩, ?_⟩
       rintro r4 rfl
       refine ⟨trivial, trivial, ⟨crcPut_bytes hb, by rw [crcPut_len]; omega⟩, ?_⟩
       rintro r5 rfl
       refine ⟨trivial, ?_⟩
       rw [put_crc hb, if_neg (fun hx => hx rfl)]
       refine iteI (fun h => ?_) (fun h => ?_)
       · have hn : b' = [] := List.length_eq_zero_iff.1 (by omega)
         subst hn
         rw [if_pos (by rfl)]
         exact ⟨trivial, trivial, fun r6 h6 => ⟨trivial, trivial, hk r6 h6⟩⟩
       · simp only [List.nil_append]
         have h9 := crc_bent hb (by omega) l'.length
         have a1 := Int.tmod_lt_of_pos (l'.length : Int) (by omega : (0 : Int) < (b'.length : Int))
         have a2 := Int.tmod_nonneg (b'.length : Int) (show 0 ≤ (l'.length : Int) by omega)
         refine ⟨by omega, by omega, by omega, ⟨a2, a1⟩, by decide, ⟨a2, a1⟩, trivial, trivial, ⟨Bytes.setx hb _ _, by rw [List.length_set]; omega⟩, ?_⟩
         rintro r6 rfl
         exact ⟨trivial, trivial, hk _ (by simpa using h9)⟩)
    | exact hk _ (by grind [crcPut_len, crcPut_bytes])
    | (simp only [LIM] at *; omega)
    | grind [crcPut_len, crcPut_bytes, LIM]
theorem vL_laws_FnCrcOf_0 (l0:List Int) (b0:List Int) (m0:Int) (s0:Int) (k0:Int) (l:List Int) (b:List Int) (m:Int) (s:Int) (k:Int) (n:Nat) (hp:(fun (l:List Int) (b:List Int) (m:Int) (s:Int) (k:Int) => (Bytes b∧b.length≤20∧s=0∧k=0)) l0 b0 m0 s0 k0) (hi:l=l0∧b=b0∧m=m0∧Bytes b∧b.length≤20∧0≤s∧s≤65535∧0≤k∧k + n=b.length∧crc s.toNat (b.drop k.toNat)=crc 0 b0):if ((decide (k < (((List.length b):Nat):Int)))=true) then ((((0:Int)≤k)∧(k < (((List.length b):Nat):Int)))∧((true=true)∧((((0:Int)≤(at_u8 b (Int.toNat k)))∧((at_u8 b (Int.toNat k))≤(255:Int)))∧(∀ r:Int,(r=(if (((0:Int)≤s)∧(s≤(65535:Int))) then (((stp (Int.toNat s) (Int.toNat (at_u8 b (Int.toNat k)))):Nat):Int) else (-1:Int)))→(true=true)∧(∃ s1:(Prod (List Int) (Prod (List Int) (Prod Int (Prod Int Int)))),((KS.mk true [(Prod.mk (0:Nat) (T.v false [(Cm.d (D.r RK.u8 l))])),(Prod.mk (3:Nat) (T.v false [(Cm.d (D.r RK.u8 b))])),(Prod.mk (4:Nat) (num IntKind.i64 m)),(Prod.mk (5:Nat) (num IntKind.i64 r)),(Prod.mk (6:Nat) (num IntKind.i64 (IntKind.wrap IntKind.i64 (k + (1:Int)))))] [(Row.mk (0:Nat) Option.none)] [])=(KS.mk true [(Prod.mk (0:Nat) (T.v false [(Cm.d (D.r RK.u8 s1.fst))])),(Prod.mk (3:Nat) (T.v false [(Cm.d (D.r RK.u8 s1.snd.fst))])),(Prod.mk (4:Nat) (num IntKind.i64 s1.snd.snd.fst)),(Prod.mk (5:Nat) (num IntKind.i64 s1.snd.snd.snd.fst)),(Prod.mk (6:Nat) (num IntKind.i64 s1.snd.snd.snd.snd))] [(Row.mk (0:Nat) Option.none)] []))∧(∃ m1:Nat,(m1 < n)∧((s1.fst=l0)∧((s1.snd.fst=b0)∧((s1.snd.snd.fst=m0)∧((Bytes s1.snd.fst)∧(((List.length s1.snd.fst)≤(20:Nat))∧(((0:Int)≤s1.snd.snd.snd.fst)∧((s1.snd.snd.snd.fst≤(65535:Int))∧(((0:Int)≤s1.snd.snd.snd.snd)∧(((s1.snd.snd.snd.snd + ((m1:Nat):Int))=(((List.length s1.snd.fst):Nat):Int))∧((crc (Int.toNat s1.snd.snd.snd.fst) (List.drop (Int.toNat s1.snd.snd.snd.snd) s1.snd.fst))=(crc (0:Nat) b0))))))))))))))))) else (∃ r:(Prod (List Int) (Prod (List Int) (Prod Int Int))),((KS.mk true [(Prod.mk (0:Nat) (T.v false [(Cm.d (D.r RK.u8 l))])),(Prod.mk (3:Nat) (T.v false [(Cm.d (D.r RK.u8 b))])),(Prod.mk (4:Nat) (num IntKind.i64 m)),(Prod.mk (5:Nat) (num IntKind.i64 s))] [(Row.mk (0:Nat) Option.none)] [])=(KS.mk true [(Prod.mk (0:Nat) (T.v false [(Cm.d (D.r RK.u8 r.fst))])),(Prod.mk (3:Nat) (T.v false [(Cm.d (D.r RK.u8 r.snd.fst))])),(Prod.mk (4:Nat) (num IntKind.i64 r.snd.snd.fst)),(Prod.mk (5:Nat) (num IntKind.i64 r.snd.snd.snd))] [(Row.mk (0:Nat) Option.none)] []))∧((r.fst=l0)∧((r.snd.fst=b0)∧((r.snd.snd.fst=m0)∧(r.snd.snd.snd=(((crc (0:Nat) b0):Nat):Int)))))) := by
  try dsimp only at hp
  obtain ⟨rfl, rfl, rfl, h1, h2, h3, h4, h5, h6, h7⟩ := hi
  have hL : b.length ≤ 20 := h2
  obtain ⟨i, rfl⟩ : ∃ z : Nat, k = z := ⟨k.toNat, by omega⟩
  rw [wr (x := (i : Int) + 1) (by omega) (by omega)]
  simp only [Int.toNat_natCast] at h7 ⊢
  cases n with
  | zero =>
    rw [if_neg (by simp; omega)]
    rw [List.drop_of_length_le (by omega)] at h7
    exact ⟨(l, b, m, s), rfl, rfl, rfl, rfl, by rw [← h7]; simp [crc]; omega⟩
  | succ n =>
    rw [if_pos (by simp; omega)]
    have hi : i < b.length := by omega
    obtain ⟨q1, q2⟩ := h1.at_ (i : Int)
    have hx : rd b (i : Int) = at_u8 b i := rfl
    rw [hx] at q1 q2
    have hd : b.drop i = at_u8 b i :: b.drop (i + 1) := by
      rw [List.drop_eq_getElem_cons hi]
      congr 1
      show _ = b.getD i 0
      rw [List.getD_eq_getElem?_getD, List.getElem?_eq_getElem hi]; rfl
    rw [hd, crc_cons] at h7
    generalize at_u8 b i = y at q1 q2 h7 ⊢
    have hs := stp_lt (s := s.toNat) (b := y.toNat) (by omega) (by omega)
    refine ⟨⟨by omega, by omega⟩, trivial, ⟨by omega, by omega⟩, fun r hr => ⟨trivial, ?_⟩⟩
    rw [if_pos ⟨by omega, by omega⟩] at hr
    subst hr
    exact ⟨(l, b, m, ((stp s.toNat y.toNat : Nat) : Int), (i : Int) + 1), rfl, n, by omega, rfl, rfl, rfl, h1, h2, by dsimp only; omega, by dsimp only; omega, by dsimp only; omega, by dsimp only; omega, by dsimp only; rw [show ((i : Int) + 1).toNat = i + 1 by omega]; simpa using h7⟩
theorem vS_laws_FnCrcOf_0 (l0 : List Int) (b0 : List Int) (m0 : Int) (s0 : Int) (k0 : Int) (hp : (fun (l : List Int) (b : List Int) (m : Int) (s : Int) (k : Int) => (Bytes b ∧ b.length ≤ 20 ∧ s = 0 ∧ k = 0)) l0 b0 m0 s0 k0) : ∃ n : Nat, (fun (l : List Int) (b : List Int) (m : Int) (s : Int) (k : Int) => (l = l0 ∧ b = b0 ∧ m = m0 ∧ Bytes b ∧ b.length ≤ 20 ∧ 0 ≤ s ∧ s ≤ 65535 ∧ 0 ≤ k ∧ k + n = b.length ∧ crc s.toNat (b.drop k.toNat) = crc 0 b0)) l0 b0 m0 s0 k0 := by
  try dsimp only at hp
  try dsimp only
  obtain ⟨h1, h2, rfl, rfl⟩ := hp
  exact ⟨b0.length, rfl, rfl, rfl, h1, h2, by omega, by omega, by omega, by omega, rfl⟩
theorem w_laws_FnCrcOf : Valid Try.prog 3 c_laws_FnCrcOf :=
  valid_ctr2 (V := V_laws_FnCrcOf) (tysB_ok tys_ok) ⟨(CallsL.cons w_spec_DrawCrcOf (CallsL.cons w_impl_CrcOf (CallsL.cons w_spec_CrcOf (CallsL.cons w_impl_CrcStep (CallsL.cons w_impl_CrcPut (CallsL.cons w_laws_liOk (CallsL.nil _))))))), (IosL.nil _)⟩ mixed 1 0 Try.func3 rfl (by kernel_rfl)
    (fun c hc => by
      obtain rfl := Option.some.inj hc
      exact ⟨trivial, ⟨⟨trivial, ⟨⟨trivial, trivial⟩, trivial⟩⟩, ⟨trivial, ⟨trivial, ⟨⟨trivial, ⟨⟨trivial, trivial⟩, trivial⟩⟩, ⟨trivial, ⟨⟨trivial, ⟨LoopD.ok2 (V := V_laws_FnCrcOf) l_laws_FnCrcOf_0 (LoopsM.cons 0 l_laws_FnCrcOf_0 LoopsM.nil) 0 _ i_laws_FnCrcOf_0 (fun x hx => vS_laws_FnCrcOf_0 x.1 x.2.1 x.2.2.1 x.2.2.2.1 x.2.2.2.2 hx) (fun x hx n s hi => ⟨_, by kernel_rfl, vL_laws_FnCrcOf_0 x.1 x.2.1 x.2.2.1 x.2.2.2.1 x.2.2.2.2 s.1 s.2.1 s.2.2.1 s.2.2.2.1 s.2.2.2.2 n hx hi⟩), ⟨⟨trivial, ⟨trivial, trivial⟩⟩, ⟨trivial, trivial⟩⟩⟩⟩, ⟨⟨trivial, ⟨⟨trivial, trivial⟩, trivial⟩⟩, ⟨⟨trivial, ⟨⟨trivial, trivial⟩, trivial⟩⟩, ⟨trivial, ⟨trivial, ⟨trivial, trivial⟩⟩⟩⟩⟩⟩⟩⟩⟩⟩⟩⟩)
    (fun x K hp hk => ⟨_, by kernel_rfl, vF_laws_FnCrcOf x K hp (fun r h => hk r h)⟩)
end Go.Proofs.YtomcnemdaohafaaE
