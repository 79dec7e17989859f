/- A part of the proof of laws of the program: what calls of the program answer. Conditions: none. -/
import Derived.Test.YtjladmhjpikdhaaMc82bc6b3
set_option linter.unusedVariables false
set_option linter.unusedSimpArgs false
set_option linter.unusedSectionVars false
/- Contracts: LawRx5. Conditions: none. -/
set_option linter.unusedVariables false
set_option maxHeartbeats 1600000
namespace Go.Proofs.YtjladmhjpikdhaaE
open Go
theorem at_frm0 (x : Frm) (l : List Frm) : at_frm (x :: l) 0 = x := rfl
theorem at_byr0 (x : List Int) (l : List (List Int)) : at_byr (x :: l) 0 = x := rfl
theorem sdus_len (c : Cfg) (r : RxS) (f : Frm) : (rxHear c r f).sdus.length ≤ 1 := by
  unfold rxHear
  split
  · exact (hear_got c r f).2.1
  · simp
theorem sdus_data {c : Cfg} {r : RxS} {f : Frm} {y : List Int} (hf : f.data.length ≤ 1000) (h : List.Mem y (rxHear c r f).sdus) : y.length ≤ 137438953472 := by
  unfold rxHear at h
  split at h
  · exact hear_len ‹_› (by omega) h
  · cases h
theorem hear_join (c : Cfg) (r : RxS) (f : Frm) (hf : f.data.length ≤ 1000) : (rxHear c r f).r.join.got.length ≤ 137438953472 := by
  unfold rxHear
  split
  · rename_i h
    have := (hear_got c r f).1
    have := h.got
    omega
  · simp [zRx, zJoin]
theorem rx_twice2 {c : Cfg} {r : RxS} {f : Frm} (h1 : CfgP c) (h2 : RxP r) (h3 : FrmP f) (hk : f.kind = 1) (hc : (rxHear c r f).r.count = r.count + 1) :
    rxHear c (rxHear c r f).r f = ⟨(rxHear c r f).r, [], []⟩ ∧ (rxHear c r f).r.dead = false := rx_twice ⟨h1, h2, h3, .inl hk⟩ hk hc
theorem rx_miss {c : Cfg} {y : RxS} {f : Frm} (h : RxIn c y f) (hk : f.kind = 1) (hb : y.busy = false) (hs : f.seq ≠ y.expect) :
    rxHear c y f = ⟨y, [], []⟩ ∨ (y.again = false ∧ ∃ w, rxHear c y f = ⟨{ y with again := true }, [], [w]⟩) := by
  unfold rxHear
  rw [if_pos h]
  unfold rxHear1
  split
  · exact .inl rfl
  · try rw [if_pos hk]
    unfold rxData
    rw [hb, if_neg (by simp), if_neg hs]
    split
    · rename_i hc
      exact .inr ⟨hc.2, _, rfl⟩
    · exact .inl rfl
theorem RxP.again {r : RxS} (h : RxP r) (b : Bool) : RxP { r with again := b } := h

/-! laws.FnRxMany -/
def c_laws_FnRxMany : Ent := ctr (α := (List Int) × (List Int)) (ρ := (Bool)) [] [] (rs rBytes (rs1 rBytes)) (fun x_ => (fun (l : List Int) (m : List Int) => (Bytes l ∧ Bytes m)) x_.1 x_.2) (fun x_ r_ => (fun x_ => (fun (l : List Int) (m : List Int) => ((fun r_ => (fun (r : Bool) => (r = true)) r_))) x_.1 x_.2) x_ r_) (fun r_ => (fun (r : Bool) => ([rB.to r])) r_) (fun r_ => (fun (r : Bool) => ([])) r_)
def l_laws_FnRxMany_0 : LoopD ((Cfg) × (RxS) × (Frm) × (Frm) × (RxS) × (Int) × (Int)) ((Int)) ((Empty)) where
  n := 154
  head := ⟨[5, 6, 7, 10, 17, 18, 19], [0, 1, 2, 5, 8], []⟩
  st := fun x_ => (fun (c : Cfg) (r : RxS) (f : Frm) (g : Frm) (y : RxS) (s : Int) (k : Int) => (⟨true, [(5, .pb 0 1 0), (6, .pb 1 1 0), (7, .pb 2 1 0), (10, .pb 5 1 0), (17, num .i64 s), (18, .pb 8 1 0), (19, num .i64 k)], [], [⟨1, some ((cfgC c).map .d)⟩, ⟨1, some ((rxC r).map .d)⟩, ⟨1, some ((RK.cells .frm f).map .d)⟩, ⟨0, none⟩, ⟨0, none⟩, ⟨1, some ((RK.cells .frm g).map .d)⟩, ⟨0, none⟩, ⟨0, none⟩, ⟨1, some ((rxC y).map .d)⟩, ⟨0, none⟩, ⟨0, none⟩]⟩)) x_.1 x_.2.1 x_.2.2.1 x_.2.2.2.1 x_.2.2.2.2.1 x_.2.2.2.2.2.1 x_.2.2.2.2.2.2
  pre := fun x_ => (fun (c : Cfg) (r : RxS) (f : Frm) (g : Frm) (y : RxS) (s : Int) (k : Int) => ((CfgP c ∧ RxP r ∧ FrmP f ∧ FrmP g ∧ f.kind = 1 ∧ g.kind = 1 ∧ r.busy = false ∧ f.seq ≠ r.expect ∧ g.seq ≠ r.expect ∧ f.data.length ≤ 1000 ∧ g.data.length ≤ 1000) ∧ y = r ∧ s = 0 ∧ k = 0)) x_.1 x_.2.1 x_.2.2.1 x_.2.2.2.1 x_.2.2.2.2.1 x_.2.2.2.2.2.1 x_.2.2.2.2.2.2
  nk := ⟨[17], [], []⟩
  nst := fun r_ => (fun (s : Int) => (⟨true, [(17, num .i64 s)], [], [⟨0, none⟩, ⟨0, none⟩, ⟨0, none⟩, ⟨0, none⟩, ⟨0, none⟩, ⟨0, none⟩, ⟨0, none⟩, ⟨0, none⟩, ⟨0, none⟩, ⟨0, none⟩, ⟨0, none⟩]⟩)) r_
  npost := fun x_ r_ => (fun x_ => (fun (c0 : Cfg) (r0 : RxS) (f0 : Frm) (g0 : Frm) (y0 : RxS) (s0 : Int) (k0 : Int) => ((fun r_ => (fun (s : Int) => (s ≤ 1)) r_))) x_.1 x_.2.1 x_.2.2.1 x_.2.2.2.1 x_.2.2.2.2.1 x_.2.2.2.2.2.1 x_.2.2.2.2.2.2) x_ r_
  rk := ⟨[], [], []⟩
  rst := fun _ => ⟨true, [], [], []⟩
  rpost := fun _ _ => False
def i_laws_FnRxMany_0 (x : (Cfg) × (RxS) × (Frm) × (Frm) × (RxS) × (Int) × (Int)) (n : Nat) (s : (Cfg) × (RxS) × (Frm) × (Frm) × (RxS) × (Int) × (Int)) : Prop := (fun x_ => (fun (c0 : Cfg) (r0 : RxS) (f0 : Frm) (g0 : Frm) (y0 : RxS) (s0 : Int) (k0 : Int) => ((fun s_ => (fun (c : Cfg) (r : RxS) (f : Frm) (g : Frm) (y : RxS) (s : Int) (k : Int) => ((c = c0 ∧ r = r0 ∧ f = f0 ∧ g = g0) ∧ (n : Int) = 6 - k ∧ 0 ≤ k ∧ ((y = r0 ∧ s = 0) ∨ (y = { r0 with again := true } ∧ 0 ≤ s ∧ s ≤ 1)))) s_.1 s_.2.1 s_.2.2.1 s_.2.2.2.1 s_.2.2.2.2.1 s_.2.2.2.2.2.1 s_.2.2.2.2.2.2))) x_.1 x_.2.1 x_.2.2.1 x_.2.2.2.1 x_.2.2.2.2.1 x_.2.2.2.2.2.1 x_.2.2.2.2.2.2) x s
def V_laws_FnRxMany : Env := ⟨tys, [(17, c_spec_RxOk), (18, c_laws_liOk), (23, c_laws_liRx), (26, c_laws_liJoin), (39, c_spec_RxHear), (42, c_impl_RxHear), (46, c_spec_DrawRxHear), (47, c_spec_CfgOk), (48, c_spec_FrmOk)], [], [(5, 0), (6, 1), (7, 2), (8, 3), (9, 4), (10, 5), (11, 6), (14, 7), (18, 8), (20, 9), (21, 10)], [], [(0, l_laws_FnRxMany_0.L)], [900027]⟩
end Go.Proofs.YtjladmhjpikdhaaE

/- Calls answer what is promised: LawRx5. Conditions: none. -/
set_option linter.unusedVariables false
set_option maxHeartbeats 1600000
namespace Go.Proofs.YtjladmhjpikdhaaE
open Go
theorem vF_laws_FnRxMany (l : List Int) (m : List Int) (K : List Arg → List (List AC) → Prop) (hp : Bytes l ∧ Bytes m) (hk : ∀ (r : Bool), (r = true) → K ([rB.to r]) ([])) :
 IfP (decide ((((List.length l) : Nat) : Int) > (1048576 : Int)))
 ((true = true) ∧
 (K [(aB true)] []))
 (if ((decide ((((List.length m) : Nat) : Int) > (1048576 : Int))) = true) then
 ((true = true) ∧
 (K [(aB true)] []))
 else
 ((true = true) ∧
 ((Bytes l) ∧
 (∀ r : (Prod Cfg (Prod RxS Frm)),
 (((Bytes r.snd.fst.join.got) ∧ ((List.length r.snd.fst.join.got) ≤ (1000 : Nat))) ∧ ((Bytes r.snd.snd.data) ∧ ((List.length r.snd.snd.data) ≤ (1000 : Nat)))) →
 (true = true) ∧
 ((true = true) ∧
 ((Bytes m) ∧
 (∀ r1 : (Prod Cfg (Prod RxS Frm)),
 (((Bytes r1.snd.fst.join.got) ∧ ((List.length r1.snd.fst.join.got) ≤ (1000 : Nat))) ∧ ((Bytes r1.snd.snd.data) ∧ ((List.length r1.snd.snd.data) ≤ (1000 : Nat)))) →
 (true = true) ∧
 ((true = true) ∧
 (((List.length r.snd.snd.data) ≤ (1000000000 : Nat)) ∧
 (∀ r2 : HearR,
 (r2 = (rxHear r.fst r.snd.fst r.snd.snd)) →
 (true = true) ∧
 ((true = true) ∧
 (((List.length r.snd.snd.data) ≤ (1000000000 : Nat)) ∧
 (∀ r3 : HearR,
 (r3 = (rxHear r.fst r.snd.fst r.snd.snd)) →
 (true = true) ∧
 ((true = true) ∧
 (((List.length r2.r.join.got) ≤ (137438953472 : Nat)) ∧
 (∀ r4 : Bool,
 (r4 = (decide (r2.r = r3.r))) →
 (true = true) ∧
 (if ((!r4) = true) then
 ((true = true) ∧
 (K [(aB false)] []))
 else
 ((true = true) ∧
 (True ∧
 (∀ r5 : Bool,
 (r5 = (decide (CfgP r.fst))) →
 (true = true) ∧
 (if ((!r5) = true) then
 ((true = true) ∧
 (True ∧
 (∀ r6 : Bool,
 (r6 = true) →
 (true = true) ∧
 ((true = true) ∧
 (K [(aB r6)] [])))))
 else
 ((true = true) ∧
 (True ∧
 (∀ r6 : Bool,
 (r6 = (decide (RxP r.snd.fst))) →
 (true = true) ∧
 (if ((!r6) = true) then
 ((true = true) ∧
 (True ∧
 (∀ r7 : Bool,
 (r7 = true) →
 (true = true) ∧
 ((true = true) ∧
 (K [(aB r7)] [])))))
 else
 (if (r.snd.fst.busy = true) then
 ((true = true) ∧
 (True ∧
 (∀ r7 : Bool,
 (r7 = true) →
 (true = true) ∧
 ((true = true) ∧
 (K [(aB r7)] [])))))
 else
 ((true = true) ∧
 (True ∧
 (∀ r7 : Bool,
 (r7 = (decide (FrmP r.snd.snd))) →
 (true = true) ∧
 (if ((!r7) = true) then
 ((true = true) ∧
 (True ∧
 (∀ r8 : Bool,
 (r8 = true) →
 (true = true) ∧
 ((true = true) ∧
 (K [(aB r8)] [])))))
 else
 ((true = true) ∧
 (True ∧
 (∀ r8 : Bool,
 (r8 = (decide (FrmP r1.snd.snd))) →
 (true = true) ∧
 (if ((!r8) = true) then
 ((true = true) ∧
 (True ∧
 (∀ r9 : Bool,
 (r9 = true) →
 (true = true) ∧
 ((true = true) ∧
 (K [(aB r9)] [])))))
 else
 (if ((r.snd.snd.kind != (1 : Int)) = true) then
 ((true = true) ∧
 (True ∧
 (∀ r9 : Bool,
 (r9 = true) →
 (true = true) ∧
 ((true = true) ∧
 (K [(aB r9)] [])))))
 else
 (if ((r1.snd.snd.kind != (1 : Int)) = true) then
 ((true = true) ∧
 (True ∧
 (∀ r9 : Bool,
 (r9 = true) →
 (true = true) ∧
 ((true = true) ∧
 (K [(aB r9)] [])))))
 else
 (if ((r.snd.snd.seq == r.snd.fst.expect) = true) then
 ((true = true) ∧
 (True ∧
 (∀ r9 : Bool,
 (r9 = true) →
 (true = true) ∧
 ((true = true) ∧
 (K [(aB r9)] [])))))
 else
 (if ((r1.snd.snd.seq == r.snd.fst.expect) = true) then
 ((true = true) ∧
 (True ∧
 (∀ r9 : Bool,
 (r9 = true) →
 (true = true) ∧
 ((true = true) ∧
 (K [(aB r9)] [])))))
 else
 (∃ s : (Prod Cfg (Prod RxS (Prod Frm (Prod Frm (Prod RxS (Prod Int Int)))))),
 ((KS.mk true [(Prod.mk (5 : Nat) (T.pb (0 : Nat) (1 : Nat) (0 : Nat))), (Prod.mk (6 : Nat) (T.pb (1 : Nat) (1 : Nat) (0 : Nat))), (Prod.mk (7 : Nat) (T.pb (2 : Nat) (1 : Nat) (0 : Nat))), (Prod.mk (10 : Nat) (T.pb (5 : Nat) (1 : Nat) (0 : Nat))), (Prod.mk (17 : Nat) (num IntKind.i64 (0 : Int))), (Prod.mk (18 : Nat) (T.pb (8 : Nat) (1 : Nat) (0 : Nat))), (Prod.mk (19 : Nat) (num IntKind.i64 (0 : Int)))] [] [(Box.mk (Min.min (1 : Nat) (1 : Nat)) (Option.some [(Cm.d (D.i IntKind.i64 r.fst.mode)), (Cm.d (D.i IntKind.i64 r.fst.win)), (Cm.d (D.i IntKind.i64 r.fst.mps)), (Cm.d (D.i IntKind.i64 r.fst.mtu)), (Cm.d (D.i IntKind.i64 r.fst.try_))])), (Box.mk (Min.min (1 : Nat) (1 : Nat)) (Option.some [(Cm.d (D.i IntKind.i64 r.snd.fst.expect)), (Cm.d (D.i IntKind.i64 r.snd.fst.count)), (Cm.d (D.i IntKind.i64 r.snd.fst.join.len)), (Cm.d (D.r RK.u8 r.snd.fst.join.got)), (Cm.d (D.b r.snd.fst.again)), (Cm.d (D.b r.snd.fst.busy)), (Cm.d (D.b r.snd.fst.dead))])), (Box.mk (Min.min (1 : Nat) (1 : Nat)) (Option.some [(Cm.d (D.i IntKind.i64 r.snd.snd.kind)), (Cm.d (D.i IntKind.i64 r.snd.snd.seq)), (Cm.d (D.i IntKind.i64 r.snd.snd.ack)), (Cm.d (D.b r.snd.snd.poll)), (Cm.d (D.b r.snd.snd.final)), (Cm.d (D.i IntKind.i64 r.snd.snd.say)), (Cm.d (D.i IntKind.i64 r.snd.snd.seg)), (Cm.d (D.i IntKind.i64 r.snd.snd.len)), (Cm.d (D.r RK.u8 r.snd.snd.data))])), (Box.mk (0 : Nat) Option.none), (Box.mk (0 : Nat) Option.none), (Box.mk (Min.min (1 : Nat) (1 : Nat)) (Option.some [(Cm.d (D.i IntKind.i64 r1.snd.snd.kind)), (Cm.d (D.i IntKind.i64 r1.snd.snd.seq)), (Cm.d (D.i IntKind.i64 r1.snd.snd.ack)), (Cm.d (D.b r1.snd.snd.poll)), (Cm.d (D.b r1.snd.snd.final)), (Cm.d (D.i IntKind.i64 r1.snd.snd.say)), (Cm.d (D.i IntKind.i64 r1.snd.snd.seg)), (Cm.d (D.i IntKind.i64 r1.snd.snd.len)), (Cm.d (D.r RK.u8 r1.snd.snd.data))])), (Box.mk (0 : Nat) Option.none), (Box.mk (0 : Nat) Option.none), (Box.mk (Min.min (1 : Nat) (1 : Nat)) (Option.some [(Cm.d (D.i IntKind.i64 r.snd.fst.expect)), (Cm.d (D.i IntKind.i64 r.snd.fst.count)), (Cm.d (D.i IntKind.i64 r.snd.fst.join.len)), (Cm.d (D.r RK.u8 r.snd.fst.join.got)), (Cm.d (D.b r.snd.fst.again)), (Cm.d (D.b r.snd.fst.busy)), (Cm.d (D.b r.snd.fst.dead))])), (Box.mk (0 : Nat) Option.none), (Box.mk (0 : Nat) Option.none)]) = (KS.mk true [(Prod.mk (5 : Nat) (T.pb (0 : Nat) (1 : Nat) (0 : Nat))), (Prod.mk (6 : Nat) (T.pb (1 : Nat) (1 : Nat) (0 : Nat))), (Prod.mk (7 : Nat) (T.pb (2 : Nat) (1 : Nat) (0 : Nat))), (Prod.mk (10 : Nat) (T.pb (5 : Nat) (1 : Nat) (0 : Nat))), (Prod.mk (17 : Nat) (num IntKind.i64 s.snd.snd.snd.snd.snd.fst)), (Prod.mk (18 : Nat) (T.pb (8 : Nat) (1 : Nat) (0 : Nat))), (Prod.mk (19 : Nat) (num IntKind.i64 s.snd.snd.snd.snd.snd.snd))] [] [(Box.mk (1 : Nat) (Option.some [(Cm.d (D.i IntKind.i64 s.fst.mode)), (Cm.d (D.i IntKind.i64 s.fst.win)), (Cm.d (D.i IntKind.i64 s.fst.mps)), (Cm.d (D.i IntKind.i64 s.fst.mtu)), (Cm.d (D.i IntKind.i64 s.fst.try_))])), (Box.mk (1 : Nat) (Option.some [(Cm.d (D.i IntKind.i64 s.snd.fst.expect)), (Cm.d (D.i IntKind.i64 s.snd.fst.count)), (Cm.d (D.i IntKind.i64 s.snd.fst.join.len)), (Cm.d (D.r RK.u8 s.snd.fst.join.got)), (Cm.d (D.b s.snd.fst.again)), (Cm.d (D.b s.snd.fst.busy)), (Cm.d (D.b s.snd.fst.dead))])), (Box.mk (1 : Nat) (Option.some [(Cm.d (D.i IntKind.i64 s.snd.snd.fst.kind)), (Cm.d (D.i IntKind.i64 s.snd.snd.fst.seq)), (Cm.d (D.i IntKind.i64 s.snd.snd.fst.ack)), (Cm.d (D.b s.snd.snd.fst.poll)), (Cm.d (D.b s.snd.snd.fst.final)), (Cm.d (D.i IntKind.i64 s.snd.snd.fst.say)), (Cm.d (D.i IntKind.i64 s.snd.snd.fst.seg)), (Cm.d (D.i IntKind.i64 s.snd.snd.fst.len)), (Cm.d (D.r RK.u8 s.snd.snd.fst.data))])), (Box.mk (0 : Nat) Option.none), (Box.mk (0 : Nat) Option.none), (Box.mk (1 : Nat) (Option.some [(Cm.d (D.i IntKind.i64 s.snd.snd.snd.fst.kind)), (Cm.d (D.i IntKind.i64 s.snd.snd.snd.fst.seq)), (Cm.d (D.i IntKind.i64 s.snd.snd.snd.fst.ack)), (Cm.d (D.b s.snd.snd.snd.fst.poll)), (Cm.d (D.b s.snd.snd.snd.fst.final)), (Cm.d (D.i IntKind.i64 s.snd.snd.snd.fst.say)), (Cm.d (D.i IntKind.i64 s.snd.snd.snd.fst.seg)), (Cm.d (D.i IntKind.i64 s.snd.snd.snd.fst.len)), (Cm.d (D.r RK.u8 s.snd.snd.snd.fst.data))])), (Box.mk (0 : Nat) Option.none), (Box.mk (0 : Nat) Option.none), (Box.mk (1 : Nat) (Option.some [(Cm.d (D.i IntKind.i64 s.snd.snd.snd.snd.fst.expect)), (Cm.d (D.i IntKind.i64 s.snd.snd.snd.snd.fst.count)), (Cm.d (D.i IntKind.i64 s.snd.snd.snd.snd.fst.join.len)), (Cm.d (D.r RK.u8 s.snd.snd.snd.snd.fst.join.got)), (Cm.d (D.b s.snd.snd.snd.snd.fst.again)), (Cm.d (D.b s.snd.snd.snd.snd.fst.busy)), (Cm.d (D.b s.snd.snd.snd.snd.fst.dead))])), (Box.mk (0 : Nat) Option.none), (Box.mk (0 : Nat) Option.none)])) ∧
 ((((CfgP s.fst) ∧
 ((RxP s.snd.fst) ∧
 ((FrmP s.snd.snd.fst) ∧
 ((FrmP s.snd.snd.snd.fst) ∧
 ((s.snd.snd.fst.kind = (1 : Int)) ∧
 ((s.snd.snd.snd.fst.kind = (1 : Int)) ∧
 ((s.snd.fst.busy = false) ∧
 ((s.snd.snd.fst.seq ≠ s.snd.fst.expect) ∧
 ((s.snd.snd.snd.fst.seq ≠ s.snd.fst.expect) ∧
 (((List.length s.snd.snd.fst.data) ≤ (1000 : Nat)) ∧
 ((List.length s.snd.snd.snd.fst.data) ≤ (1000 : Nat)))))))))))) ∧
 ((s.snd.snd.snd.snd.fst = s.snd.fst) ∧
 ((s.snd.snd.snd.snd.snd.fst = (0 : Int)) ∧
 (s.snd.snd.snd.snd.snd.snd = (0 : Int))))) ∧
 ((∀ r9 : Int,
 (r9 ≤ (1 : Int)) →
 (true = true) ∧
 (K [(aB (decide (r9 ≤ (1 : Int))))] [])) ∧
 (∀ r9 : Empty,
 False →
 False)))))))))))))))))))))))))))))))))))))))))) := by
  repeat' first
    | exact rfl
    | exact True.intro
    | with_reducible apply And.intro
    | (with_reducible intro y_ hy_; subst hy_)
    | with_reducible intro y_
    | (refine iteI (fun h => ?_) (fun h => ?_))
    | (refine ifpI (fun h => ?_) (fun h => ?_))
  all_goals try simp only [Bool.not_eq_true', decide_eq_false_iff_not, decide_eq_true_eq, Bool.not_eq_true, bne_iff_ne, beq_iff_eq, ne_eq, Decidable.not_not, Bool.not_eq_false, gt_iff_lt, ge_iff_le, Int.not_le, Int.not_lt, beq_eq_false_iff_ne, bne_eq_false_iff_eq, Bool.and_eq_true, Bool.or_eq_true, Bool.true_eq_false, Bool.false_eq_true] at *
  all_goals try simp (disch := first | omega | grind [at_frm0, RxP, FrmP, JoinP, SegP, CfgP, RxIn, zRx, zJoin]) only [wr] at *
  all_goals first
    | assumption
    | omega
    | exact Nat.le_trans (sdus_len _ _ _) (by decide)
    | (refine sdus_data ?_ ‹List.Mem _ _›; omega)
    | (refine hear_join _ _ _ ?_; omega)
    | (exfalso; simp at h; done)
    | (refine ⟨(⟨_, _, _, _, _⟩, ⟨_, _, ⟨_, _⟩, _, _, _⟩, ⟨_, _, _, _, _, _, _, _, _⟩, ⟨_, _, _, _, _, _, _, _, _⟩, ⟨_, _, ⟨_, _⟩, _, _, _⟩, 0, 0), rfl, ?_, ?_, ?_⟩
       · dsimp only
         exact ⟨⟨by assumption, by assumption, by assumption, by assumption, by assumption, by assumption, by assumption, by assumption, by assumption, by (show (Prod.snd (Prod.snd _) : Frm).data.length ≤ 1000); omega, by (show (Prod.snd (Prod.snd _) : Frm).data.length ≤ 1000); omega⟩, rfl, rfl, rfl⟩
       · intro z hz
         exact ⟨by trivial, hk _ (by simpa using hz)⟩
       · intro z hz
         exact hz.elim)
    | exact hk _ (by grind [at_frm0, RxP, FrmP, JoinP, SegP, CfgP, RxIn, zRx, zJoin])
    | (simp only [LIM] at *; omega)
    | grind [at_frm0, RxP, FrmP, JoinP, SegP, CfgP, RxIn, zRx, zJoin, LIM]
theorem vL_laws_FnRxMany_0 (c0 : Cfg) (r0 : RxS) (f0 : Frm) (g0 : Frm) (y0 : RxS) (s0 : Int) (k0 : Int) (c : Cfg) (r : RxS) (f : Frm) (g : Frm) (y : RxS) (s : Int) (k : Int) (n : Nat) (hp : (fun (c : Cfg) (r : RxS) (f : Frm) (g : Frm) (y : RxS) (s : Int) (k : Int) => ((CfgP c ∧ RxP r ∧ FrmP f ∧ FrmP g ∧ f.kind = 1 ∧ g.kind = 1 ∧ r.busy = false ∧ f.seq ≠ r.expect ∧ g.seq ≠ r.expect ∧ f.data.length ≤ 1000 ∧ g.data.length ≤ 1000) ∧ y = r ∧ s = 0 ∧ k = 0)) c0 r0 f0 g0 y0 s0 k0) (hi : (c = c0 ∧ r = r0 ∧ f = f0 ∧ g = g0) ∧ (n : Int) = 6 - k ∧ 0 ≤ k ∧ ((y = r0 ∧ s = 0) ∨ (y = { r0 with again := true } ∧ 0 ≤ s ∧ s ≤ 1))) :
 if ((decide (k < (6 : Int))) = true) then
 (((2 : Int) ≠ (0 : Int)) ∧
 (if (((Int.tmod k (2 : Int)) == (1 : Int)) = true) then
 ((true = true) ∧
 (((List.length g.data) ≤ (1000000000 : Nat)) ∧
 (∀ r1 : HearR,
 (r1 = (rxHear c y g)) →
 (true = true) ∧
 (if ((decide ((((List.length r1.sdus) : Nat) : Int) > (0 : Int))) = true) then
 (∃ r2 : Empty,
 ((KS.mk true [] [] [(Box.mk (0 : Nat) Option.none), (Box.mk (0 : Nat) Option.none), (Box.mk (0 : Nat) Option.none), (Box.mk (0 : Nat) Option.none), (Box.mk (0 : Nat) Option.none), (Box.mk (0 : Nat) Option.none), (Box.mk (0 : Nat) Option.none), (Box.mk (0 : Nat) Option.none), (Box.mk (0 : Nat) Option.none), (Box.mk (0 : Nat) Option.none), (Box.mk (0 : Nat) Option.none)]) = (KS.mk true [] [] [])) ∧
 False)
 else
 (if ((r1.r.count != r.count) = true) then
 (∃ r2 : Empty,
 ((KS.mk true [] [] [(Box.mk (0 : Nat) Option.none), (Box.mk (0 : Nat) Option.none), (Box.mk (0 : Nat) Option.none), (Box.mk (0 : Nat) Option.none), (Box.mk (0 : Nat) Option.none), (Box.mk (0 : Nat) Option.none), (Box.mk (0 : Nat) Option.none), (Box.mk (0 : Nat) Option.none), (Box.mk (0 : Nat) Option.none), (Box.mk (0 : Nat) Option.none), (Box.mk (0 : Nat) Option.none)]) = (KS.mk true [] [] [])) ∧
 False)
 else
 ((true = true) ∧
 (((List.length r1.r.join.got) ≤ (137438953472 : Nat)) ∧
 (∀ r2 : Bool,
 (r2 = (decide (r1.r.join = r.join))) →
 (true = true) ∧
 (if ((!r2) = true) then
 (∃ r3 : Empty,
 ((KS.mk true [] [] [(Box.mk (0 : Nat) Option.none), (Box.mk (0 : Nat) Option.none), (Box.mk (0 : Nat) Option.none), (Box.mk (0 : Nat) Option.none), (Box.mk (0 : Nat) Option.none), (Box.mk (0 : Nat) Option.none), (Box.mk (0 : Nat) Option.none), (Box.mk (0 : Nat) Option.none), (Box.mk (0 : Nat) Option.none), (Box.mk (0 : Nat) Option.none), (Box.mk (0 : Nat) Option.none)]) = (KS.mk true [] [] [])) ∧
 False)
 else
 (∃ s1 : (Prod Cfg (Prod RxS (Prod Frm (Prod Frm (Prod RxS (Prod Int Int)))))),
 ((KS.mk true [(Prod.mk (5 : Nat) (T.pb (0 : Nat) (1 : Nat) (0 : Nat))), (Prod.mk (6 : Nat) (T.pb (1 : Nat) (1 : Nat) (0 : Nat))), (Prod.mk (7 : Nat) (T.pb (2 : Nat) (1 : Nat) (0 : Nat))), (Prod.mk (10 : Nat) (T.pb (5 : Nat) (1 : Nat) (0 : Nat))), (Prod.mk (17 : Nat) (num IntKind.i64 (IntKind.wrap IntKind.i64 (s + (((List.length r1.says) : Nat) : Int))))), (Prod.mk (18 : Nat) (T.pb (8 : Nat) (1 : Nat) (0 : Nat))), (Prod.mk (19 : Nat) (num IntKind.i64 (IntKind.wrap IntKind.i64 (k + (1 : Int)))))] [] [(Box.mk (Min.min (1 : Nat) (1 : Nat)) (Option.some [(Cm.d (D.i IntKind.i64 c.mode)), (Cm.d (D.i IntKind.i64 c.win)), (Cm.d (D.i IntKind.i64 c.mps)), (Cm.d (D.i IntKind.i64 c.mtu)), (Cm.d (D.i IntKind.i64 c.try_))])), (Box.mk (Min.min (1 : Nat) (1 : Nat)) (Option.some [(Cm.d (D.i IntKind.i64 r.expect)), (Cm.d (D.i IntKind.i64 r.count)), (Cm.d (D.i IntKind.i64 r.join.len)), (Cm.d (D.r RK.u8 r.join.got)), (Cm.d (D.b r.again)), (Cm.d (D.b r.busy)), (Cm.d (D.b r.dead))])), (Box.mk (Min.min (1 : Nat) (1 : Nat)) (Option.some [(Cm.d (D.i IntKind.i64 f.kind)), (Cm.d (D.i IntKind.i64 f.seq)), (Cm.d (D.i IntKind.i64 f.ack)), (Cm.d (D.b f.poll)), (Cm.d (D.b f.final)), (Cm.d (D.i IntKind.i64 f.say)), (Cm.d (D.i IntKind.i64 f.seg)), (Cm.d (D.i IntKind.i64 f.len)), (Cm.d (D.r RK.u8 f.data))])), (Box.mk (0 : Nat) Option.none), (Box.mk (0 : Nat) Option.none), (Box.mk (Min.min (1 : Nat) (1 : Nat)) (Option.some [(Cm.d (D.i IntKind.i64 g.kind)), (Cm.d (D.i IntKind.i64 g.seq)), (Cm.d (D.i IntKind.i64 g.ack)), (Cm.d (D.b g.poll)), (Cm.d (D.b g.final)), (Cm.d (D.i IntKind.i64 g.say)), (Cm.d (D.i IntKind.i64 g.seg)), (Cm.d (D.i IntKind.i64 g.len)), (Cm.d (D.r RK.u8 g.data))])), (Box.mk (0 : Nat) Option.none), (Box.mk (0 : Nat) Option.none), (Box.mk (Min.min (1 : Nat) (1 : Nat)) (Option.some [(Cm.d (D.i IntKind.i64 r1.r.expect)), (Cm.d (D.i IntKind.i64 r1.r.count)), (Cm.d (D.i IntKind.i64 r1.r.join.len)), (Cm.d (D.r RK.u8 r1.r.join.got)), (Cm.d (D.b r1.r.again)), (Cm.d (D.b r1.r.busy)), (Cm.d (D.b r1.r.dead))])), (Box.mk (0 : Nat) Option.none), (Box.mk (0 : Nat) Option.none)]) = (KS.mk true [(Prod.mk (5 : Nat) (T.pb (0 : Nat) (1 : Nat) (0 : Nat))), (Prod.mk (6 : Nat) (T.pb (1 : Nat) (1 : Nat) (0 : Nat))), (Prod.mk (7 : Nat) (T.pb (2 : Nat) (1 : Nat) (0 : Nat))), (Prod.mk (10 : Nat) (T.pb (5 : Nat) (1 : Nat) (0 : Nat))), (Prod.mk (17 : Nat) (num IntKind.i64 s1.snd.snd.snd.snd.snd.fst)), (Prod.mk (18 : Nat) (T.pb (8 : Nat) (1 : Nat) (0 : Nat))), (Prod.mk (19 : Nat) (num IntKind.i64 s1.snd.snd.snd.snd.snd.snd))] [] [(Box.mk (1 : Nat) (Option.some [(Cm.d (D.i IntKind.i64 s1.fst.mode)), (Cm.d (D.i IntKind.i64 s1.fst.win)), (Cm.d (D.i IntKind.i64 s1.fst.mps)), (Cm.d (D.i IntKind.i64 s1.fst.mtu)), (Cm.d (D.i IntKind.i64 s1.fst.try_))])), (Box.mk (1 : Nat) (Option.some [(Cm.d (D.i IntKind.i64 s1.snd.fst.expect)), (Cm.d (D.i IntKind.i64 s1.snd.fst.count)), (Cm.d (D.i IntKind.i64 s1.snd.fst.join.len)), (Cm.d (D.r RK.u8 s1.snd.fst.join.got)), (Cm.d (D.b s1.snd.fst.again)), (Cm.d (D.b s1.snd.fst.busy)), (Cm.d (D.b s1.snd.fst.dead))])), (Box.mk (1 : Nat) (Option.some [(Cm.d (D.i IntKind.i64 s1.snd.snd.fst.kind)), (Cm.d (D.i IntKind.i64 s1.snd.snd.fst.seq)), (Cm.d (D.i IntKind.i64 s1.snd.snd.fst.ack)), (Cm.d (D.b s1.snd.snd.fst.poll)), (Cm.d (D.b s1.snd.snd.fst.final)), (Cm.d (D.i IntKind.i64 s1.snd.snd.fst.say)), (Cm.d (D.i IntKind.i64 s1.snd.snd.fst.seg)), (Cm.d (D.i IntKind.i64 s1.snd.snd.fst.len)), (Cm.d (D.r RK.u8 s1.snd.snd.fst.data))])), (Box.mk (0 : Nat) Option.none), (Box.mk (0 : Nat) Option.none), (Box.mk (1 : Nat) (Option.some [(Cm.d (D.i IntKind.i64 s1.snd.snd.snd.fst.kind)), (Cm.d (D.i IntKind.i64 s1.snd.snd.snd.fst.seq)), (Cm.d (D.i IntKind.i64 s1.snd.snd.snd.fst.ack)), (Cm.d (D.b s1.snd.snd.snd.fst.poll)), (Cm.d (D.b s1.snd.snd.snd.fst.final)), (Cm.d (D.i IntKind.i64 s1.snd.snd.snd.fst.say)), (Cm.d (D.i IntKind.i64 s1.snd.snd.snd.fst.seg)), (Cm.d (D.i IntKind.i64 s1.snd.snd.snd.fst.len)), (Cm.d (D.r RK.u8 s1.snd.snd.snd.fst.data))])), (Box.mk (0 : Nat) Option.none), (Box.mk (0 : Nat) Option.none), (Box.mk (1 : Nat) (Option.some [(Cm.d (D.i IntKind.i64 s1.snd.snd.snd.snd.fst.expect)), (Cm.d (D.i IntKind.i64 s1.snd.snd.snd.snd.fst.count)), (Cm.d (D.i IntKind.i64 s1.snd.snd.snd.snd.fst.join.len)), (Cm.d (D.r RK.u8 s1.snd.snd.snd.snd.fst.join.got)), (Cm.d (D.b s1.snd.snd.snd.snd.fst.again)), (Cm.d (D.b s1.snd.snd.snd.snd.fst.busy)), (Cm.d (D.b s1.snd.snd.snd.snd.fst.dead))])), (Box.mk (0 : Nat) Option.none), (Box.mk (0 : Nat) Option.none)])) ∧
 (∃ m : Nat,
 (m < n) ∧
 (((s1.fst = c0) ∧
 ((s1.snd.fst = r0) ∧
 ((s1.snd.snd.fst = f0) ∧
 (s1.snd.snd.snd.fst = g0)))) ∧
 ((((m : Nat) : Int) = ((6 : Int) - s1.snd.snd.snd.snd.snd.snd)) ∧
 (((0 : Int) ≤ s1.snd.snd.snd.snd.snd.snd) ∧
 (((s1.snd.snd.snd.snd.fst = r0) ∧ (s1.snd.snd.snd.snd.snd.fst = (0 : Int))) ∨ ((s1.snd.snd.snd.snd.fst = (RxS.mk r0.expect r0.count r0.join true r0.busy r0.dead)) ∧ (((0 : Int) ≤ s1.snd.snd.snd.snd.snd.fst) ∧ (s1.snd.snd.snd.snd.snd.fst ≤ (1 : Int)))))))))))))))))))
 else
 ((true = true) ∧
 (((List.length f.data) ≤ (1000000000 : Nat)) ∧
 (∀ r1 : HearR,
 (r1 = (rxHear c y f)) →
 (true = true) ∧
 (if ((decide ((((List.length r1.sdus) : Nat) : Int) > (0 : Int))) = true) then
 (∃ r2 : Empty,
 ((KS.mk true [] [] [(Box.mk (0 : Nat) Option.none), (Box.mk (0 : Nat) Option.none), (Box.mk (0 : Nat) Option.none), (Box.mk (0 : Nat) Option.none), (Box.mk (0 : Nat) Option.none), (Box.mk (0 : Nat) Option.none), (Box.mk (0 : Nat) Option.none), (Box.mk (0 : Nat) Option.none), (Box.mk (0 : Nat) Option.none), (Box.mk (0 : Nat) Option.none), (Box.mk (0 : Nat) Option.none)]) = (KS.mk true [] [] [])) ∧
 False)
 else
 (if ((r1.r.count != r.count) = true) then
 (∃ r2 : Empty,
 ((KS.mk true [] [] [(Box.mk (0 : Nat) Option.none), (Box.mk (0 : Nat) Option.none), (Box.mk (0 : Nat) Option.none), (Box.mk (0 : Nat) Option.none), (Box.mk (0 : Nat) Option.none), (Box.mk (0 : Nat) Option.none), (Box.mk (0 : Nat) Option.none), (Box.mk (0 : Nat) Option.none), (Box.mk (0 : Nat) Option.none), (Box.mk (0 : Nat) Option.none), (Box.mk (0 : Nat) Option.none)]) = (KS.mk true [] [] [])) ∧
 False)
 else
 ((true = true) ∧
 (((List.length r1.r.join.got) ≤ (137438953472 : Nat)) ∧
 (∀ r2 : Bool,
 (r2 = (decide (r1.r.join = r.join))) →
 (true = true) ∧
 (if ((!r2) = true) then
 (∃ r3 : Empty,
 ((KS.mk true [] [] [(Box.mk (0 : Nat) Option.none), (Box.mk (0 : Nat) Option.none), (Box.mk (0 : Nat) Option.none), (Box.mk (0 : Nat) Option.none), (Box.mk (0 : Nat) Option.none), (Box.mk (0 : Nat) Option.none), (Box.mk (0 : Nat) Option.none), (Box.mk (0 : Nat) Option.none), (Box.mk (0 : Nat) Option.none), (Box.mk (0 : Nat) Option.none), (Box.mk (0 : Nat) Option.none)]) = (KS.mk true [] [] [])) ∧
 False)
 else
 (∃ s1 : (Prod Cfg (Prod RxS (Prod Frm (Prod Frm (Prod RxS (Prod Int Int)))))),
 ((KS.mk true [(Prod.mk (5 : Nat) (T.pb (0 : Nat) (1 : Nat) (0 : Nat))), (Prod.mk (6 : Nat) (T.pb (1 : Nat) (1 : Nat) (0 : Nat))), (Prod.mk (7 : Nat) (T.pb (2 : Nat) (1 : Nat) (0 : Nat))), (Prod.mk (10 : Nat) (T.pb (5 : Nat) (1 : Nat) (0 : Nat))), (Prod.mk (17 : Nat) (num IntKind.i64 (IntKind.wrap IntKind.i64 (s + (((List.length r1.says) : Nat) : Int))))), (Prod.mk (18 : Nat) (T.pb (8 : Nat) (1 : Nat) (0 : Nat))), (Prod.mk (19 : Nat) (num IntKind.i64 (IntKind.wrap IntKind.i64 (k + (1 : Int)))))] [] [(Box.mk (Min.min (1 : Nat) (1 : Nat)) (Option.some [(Cm.d (D.i IntKind.i64 c.mode)), (Cm.d (D.i IntKind.i64 c.win)), (Cm.d (D.i IntKind.i64 c.mps)), (Cm.d (D.i IntKind.i64 c.mtu)), (Cm.d (D.i IntKind.i64 c.try_))])), (Box.mk (Min.min (1 : Nat) (1 : Nat)) (Option.some [(Cm.d (D.i IntKind.i64 r.expect)), (Cm.d (D.i IntKind.i64 r.count)), (Cm.d (D.i IntKind.i64 r.join.len)), (Cm.d (D.r RK.u8 r.join.got)), (Cm.d (D.b r.again)), (Cm.d (D.b r.busy)), (Cm.d (D.b r.dead))])), (Box.mk (Min.min (1 : Nat) (1 : Nat)) (Option.some [(Cm.d (D.i IntKind.i64 f.kind)), (Cm.d (D.i IntKind.i64 f.seq)), (Cm.d (D.i IntKind.i64 f.ack)), (Cm.d (D.b f.poll)), (Cm.d (D.b f.final)), (Cm.d (D.i IntKind.i64 f.say)), (Cm.d (D.i IntKind.i64 f.seg)), (Cm.d (D.i IntKind.i64 f.len)), (Cm.d (D.r RK.u8 f.data))])), (Box.mk (0 : Nat) Option.none), (Box.mk (0 : Nat) Option.none), (Box.mk (Min.min (1 : Nat) (1 : Nat)) (Option.some [(Cm.d (D.i IntKind.i64 g.kind)), (Cm.d (D.i IntKind.i64 g.seq)), (Cm.d (D.i IntKind.i64 g.ack)), (Cm.d (D.b g.poll)), (Cm.d (D.b g.final)), (Cm.d (D.i IntKind.i64 g.say)), (Cm.d (D.i IntKind.i64 g.seg)), (Cm.d (D.i IntKind.i64 g.len)), (Cm.d (D.r RK.u8 g.data))])), (Box.mk (0 : Nat) Option.none), (Box.mk (0 : Nat) Option.none), (Box.mk (Min.min (1 : Nat) (1 : Nat)) (Option.some [(Cm.d (D.i IntKind.i64 r1.r.expect)), (Cm.d (D.i IntKind.i64 r1.r.count)), (Cm.d (D.i IntKind.i64 r1.r.join.len)), (Cm.d (D.r RK.u8 r1.r.join.got)), (Cm.d (D.b r1.r.again)), (Cm.d (D.b r1.r.busy)), (Cm.d (D.b r1.r.dead))])), (Box.mk (0 : Nat) Option.none), (Box.mk (0 : Nat) Option.none)]) = (KS.mk true [(Prod.mk (5 : Nat) (T.pb (0 : Nat) (1 : Nat) (0 : Nat))), (Prod.mk (6 : Nat) (T.pb (1 : Nat) (1 : Nat) (0 : Nat))), (Prod.mk (7 : Nat) (T.pb (2 : Nat) (1 : Nat) (0 : Nat))), (Prod.mk (10 : Nat) (T.pb (5 : Nat) (1 : Nat) (0 : Nat))), (Prod.mk (17 : Nat) (num IntKind.i64 s1.snd.snd.snd.snd.snd.fst)), (Prod.mk (18 : Nat) (T.pb (8 : Nat) (1 : Nat) (0 : Nat))), (Prod.mk (19 : Nat) (num IntKind.i64 s1.snd.snd.snd.snd.snd.snd))] [] [(Box.mk (1 : Nat) (Option.some [(Cm.d (D.i IntKind.i64 s1.fst.mode)), (Cm.d (D.i IntKind.i64 s1.fst.win)), (Cm.d (D.i IntKind.i64 s1.fst.mps)), (Cm.d (D.i IntKind.i64 s1.fst.mtu)), (Cm.d (D.i IntKind.i64 s1.fst.try_))])), (Box.mk (1 : Nat) (Option.some [(Cm.d (D.i IntKind.i64 s1.snd.fst.expect)), (Cm.d (D.i IntKind.i64 s1.snd.fst.count)), (Cm.d (D.i IntKind.i64 s1.snd.fst.join.len)), (Cm.d (D.r RK.u8 s1.snd.fst.join.got)), (Cm.d (D.b s1.snd.fst.again)), (Cm.d (D.b s1.snd.fst.busy)), (Cm.d (D.b s1.snd.fst.dead))])), (Box.mk (1 : Nat) (Option.some [(Cm.d (D.i IntKind.i64 s1.snd.snd.fst.kind)), (Cm.d (D.i IntKind.i64 s1.snd.snd.fst.seq)), (Cm.d (D.i IntKind.i64 s1.snd.snd.fst.ack)), (Cm.d (D.b s1.snd.snd.fst.poll)), (Cm.d (D.b s1.snd.snd.fst.final)), (Cm.d (D.i IntKind.i64 s1.snd.snd.fst.say)), (Cm.d (D.i IntKind.i64 s1.snd.snd.fst.seg)), (Cm.d (D.i IntKind.i64 s1.snd.snd.fst.len)), (Cm.d (D.r RK.u8 s1.snd.snd.fst.data))])), (Box.mk (0 : Nat) Option.none), (Box.mk (0 : Nat) Option.none), (Box.mk (1 : Nat) (Option.some [(Cm.d (D.i IntKind.i64 s1.snd.snd.snd.fst.kind)), (Cm.d (D.i IntKind.i64 s1.snd.snd.snd.fst.seq)), (Cm.d (D.i IntKind.i64 s1.snd.snd.snd.fst.ack)), (Cm.d (D.b s1.snd.snd.snd.fst.poll)), (Cm.d (D.b s1.snd.snd.snd.fst.final)), (Cm.d (D.i IntKind.i64 s1.snd.snd.snd.fst.say)), (Cm.d (D.i IntKind.i64 s1.snd.snd.snd.fst.seg)), (Cm.d (D.i IntKind.i64 s1.snd.snd.snd.fst.len)), (Cm.d (D.r RK.u8 s1.snd.snd.snd.fst.data))])), (Box.mk (0 : Nat) Option.none), (Box.mk (0 : Nat) Option.none), (Box.mk (1 : Nat) (Option.some [(Cm.d (D.i IntKind.i64 s1.snd.snd.snd.snd.fst.expect)), (Cm.d (D.i IntKind.i64 s1.snd.snd.snd.snd.fst.count)), (Cm.d (D.i IntKind.i64 s1.snd.snd.snd.snd.fst.join.len)), (Cm.d (D.r RK.u8 s1.snd.snd.snd.snd.fst.join.got)), (Cm.d (D.b s1.snd.snd.snd.snd.fst.again)), (Cm.d (D.b s1.snd.snd.snd.snd.fst.busy)), (Cm.d (D.b s1.snd.snd.snd.snd.fst.dead))])), (Box.mk (0 : Nat) Option.none), (Box.mk (0 : Nat) Option.none)])) ∧
 (∃ m : Nat,
 (m < n) ∧
 (((s1.fst = c0) ∧
 ((s1.snd.fst = r0) ∧
 ((s1.snd.snd.fst = f0) ∧
 (s1.snd.snd.snd.fst = g0)))) ∧
 ((((m : Nat) : Int) = ((6 : Int) - s1.snd.snd.snd.snd.snd.snd)) ∧
 (((0 : Int) ≤ s1.snd.snd.snd.snd.snd.snd) ∧
 (((s1.snd.snd.snd.snd.fst = r0) ∧ (s1.snd.snd.snd.snd.snd.fst = (0 : Int))) ∨ ((s1.snd.snd.snd.snd.fst = (RxS.mk r0.expect r0.count r0.join true r0.busy r0.dead)) ∧ (((0 : Int) ≤ s1.snd.snd.snd.snd.snd.fst) ∧ (s1.snd.snd.snd.snd.snd.fst ≤ (1 : Int)))))))))))))))))))))
 else
 (∃ r1 : Int,
 ((KS.mk true [(Prod.mk (17 : Nat) (num IntKind.i64 s))] [] [(Box.mk (0 : Nat) Option.none), (Box.mk (0 : Nat) Option.none), (Box.mk (0 : Nat) Option.none), (Box.mk (0 : Nat) Option.none), (Box.mk (0 : Nat) Option.none), (Box.mk (0 : Nat) Option.none), (Box.mk (0 : Nat) Option.none), (Box.mk (0 : Nat) Option.none), (Box.mk (0 : Nat) Option.none), (Box.mk (0 : Nat) Option.none), (Box.mk (0 : Nat) Option.none)]) = (KS.mk true [(Prod.mk (17 : Nat) (num IntKind.i64 r1))] [] [(Box.mk (0 : Nat) Option.none), (Box.mk (0 : Nat) Option.none), (Box.mk (0 : Nat) Option.none), (Box.mk (0 : Nat) Option.none), (Box.mk (0 : Nat) Option.none), (Box.mk (0 : Nat) Option.none), (Box.mk (0 : Nat) Option.none), (Box.mk (0 : Nat) Option.none), (Box.mk (0 : Nat) Option.none), (Box.mk (0 : Nat) Option.none), (Box.mk (0 : Nat) Option.none)])) ∧
 (r1 ≤ (1 : Int))) := by
  try dsimp only at hp
  obtain ⟨⟨p1, p2, p3, p4, p5, p6, p7, p8, p9, p10, p11⟩, _⟩ := hp
  obtain ⟨⟨rfl, rfl, rfl, rfl⟩, hn, hk, hy⟩ := hi
  have hj : r.join.got.length ≤ 24 := RxIn.got (c := c) (f := f) ⟨p1, p2, p3, .inl p5⟩
  have hs : 0 ≤ s ∧ s ≤ 1 := by rcases hy with ⟨_, h⟩ | ⟨_, h1, h2⟩ <;> omega
  have key : ∀ h : Frm, FrmP h → h.kind = 1 → h.seq ≠ r.expect → ∃ (y' : RxS) (says : List Frm), rxHear c y h = ⟨y', [], says⟩ ∧ says.length ≤ 1 ∧ y'.count = r.count ∧ y'.join = r.join ∧
      ((y' = r ∧ s + says.length = 0) ∨ (y' = { r with again := true } ∧ 0 ≤ s + says.length ∧ s + says.length ≤ 1)) := by
    intro h h1 h2 h3
    have hin : RxIn c y h := ⟨p1, by rcases hy with ⟨rfl, _⟩ | ⟨rfl, _⟩; exact p2; exact p2.again true, h1, .inl h2⟩
    have hb : y.busy = false := by rcases hy with ⟨rfl, _⟩ | ⟨rfl, _⟩ <;> exact p7
    have he : h.seq ≠ y.expect := by rcases hy with ⟨rfl, _⟩ | ⟨rfl, _⟩ <;> exact h3
    rcases rx_miss hin h2 hb he with e | ⟨ha, w, e⟩
    · refine ⟨y, [], e, by simp, ?_⟩
      rcases hy with ⟨rfl, q⟩ | ⟨rfl, q⟩
      · exact ⟨rfl, rfl, .inl ⟨rfl, by simp; omega⟩⟩
      · exact ⟨rfl, rfl, .inr ⟨rfl, by simp; omega⟩⟩
    · refine ⟨{ y with again := true }, [w], e, by simp, ?_⟩
      rcases hy with ⟨rfl, q⟩ | ⟨rfl, q⟩
      · exact ⟨rfl, rfl, .inr ⟨rfl, by simp; omega⟩⟩
      · simp at ha
  refine iteI (fun h6 => ?_) (fun h6 => ?_)
  · refine ⟨by decide, iteI (fun h => ?_) (fun h => ?_)⟩
    · obtain ⟨y', sy, e, e0, e1, e2, e3⟩ := key g p4 p6 p9
      refine ⟨by trivial, by omega, fun r1 hr1 => ⟨by trivial, ?_⟩⟩
      rw [e] at hr1
      subst hr1
      dsimp only
      rw [if_neg (by simp), if_neg (by simp [e1])]
      refine ⟨by trivial, by rw [e2]; omega, fun r2 hr2 => ⟨by trivial, ?_⟩⟩
      subst hr2
      rw [if_neg (by simp [e2])]
      have h66 : k < 6 := by simpa using h6
      rw [wr (x := s + (sy.length : Int)) (by omega) (by omega), wr (x := k + 1) (by omega) (by omega)]
      exact ⟨(c, r, f, g, y', s + sy.length, k + 1), rfl, n - 1, by omega, ⟨rfl, rfl, rfl, rfl⟩, by dsimp only; omega, by dsimp only; omega, e3⟩
    · obtain ⟨y', sy, e, e0, e1, e2, e3⟩ := key f p3 p5 p8
      refine ⟨by trivial, by omega, fun r1 hr1 => ⟨by trivial, ?_⟩⟩
      rw [e] at hr1
      subst hr1
      dsimp only
      rw [if_neg (by simp), if_neg (by simp [e1])]
      refine ⟨by trivial, by rw [e2]; omega, fun r2 hr2 => ⟨by trivial, ?_⟩⟩
      subst hr2
      rw [if_neg (by simp [e2])]
      have h66 : k < 6 := by simpa using h6
      rw [wr (x := s + (sy.length : Int)) (by omega) (by omega), wr (x := k + 1) (by omega) (by omega)]
      exact ⟨(c, r, f, g, y', s + sy.length, k + 1), rfl, n - 1, by omega, ⟨rfl, rfl, rfl, rfl⟩, by dsimp only; omega, by dsimp only; omega, e3⟩
  · exact ⟨s, rfl, hs.2⟩
theorem vS_laws_FnRxMany_0 (c0 : Cfg) (r0 : RxS) (f0 : Frm) (g0 : Frm) (y0 : RxS) (s0 : Int) (k0 : Int) (hp : (fun (c : Cfg) (r : RxS) (f : Frm) (g : Frm) (y : RxS) (s : Int) (k : Int) => ((CfgP c ∧ RxP r ∧ FrmP f ∧ FrmP g ∧ f.kind = 1 ∧ g.kind = 1 ∧ r.busy = false ∧ f.seq ≠ r.expect ∧ g.seq ≠ r.expect ∧ f.data.length ≤ 1000 ∧ g.data.length ≤ 1000) ∧ y = r ∧ s = 0 ∧ k = 0)) c0 r0 f0 g0 y0 s0 k0) : ∃ n : Nat, (fun (c : Cfg) (r : RxS) (f : Frm) (g : Frm) (y : RxS) (s : Int) (k : Int) => ((c = c0 ∧ r = r0 ∧ f = f0 ∧ g = g0) ∧ (n : Int) = 6 - k ∧ 0 ≤ k ∧ ((y = r0 ∧ s = 0) ∨ (y = { r0 with again := true } ∧ 0 ≤ s ∧ s ≤ 1)))) c0 r0 f0 g0 y0 s0 k0 := by
  try dsimp only at hp
  try dsimp only
  obtain ⟨h1, rfl, rfl, rfl⟩ := hp
  exact ⟨6, ⟨rfl, rfl, rfl, rfl⟩, rfl, by omega, .inl ⟨rfl, rfl⟩⟩
theorem w_laws_FnRxMany : Valid Try.prog 9 c_laws_FnRxMany :=
  valid_ctr2 (V := V_laws_FnRxMany) (tysB_ok tys_ok) (CallsL.cons w_spec_RxOk (CallsL.cons w_laws_liOk (CallsL.cons w_laws_liRx (CallsL.cons w_laws_liJoin (CallsL.cons w_spec_RxHear (CallsL.cons w_impl_RxHear (CallsL.cons w_spec_DrawRxHear (CallsL.cons w_spec_CfgOk (CallsL.cons w_spec_FrmOk (CallsL.nil _)))))))))) mixed 0 11 Try.func9 rfl (by kernel_rfl)
    (fun c hc => by
      obtain rfl := Option.some.inj hc
      exact ⟨trivial, ⟨⟨trivial, ⟨⟨trivial, trivial⟩, trivial⟩⟩, ⟨trivial, ⟨trivial, ⟨trivial, ⟨trivial, ⟨⟨trivial, ⟨⟨trivial, trivial⟩, trivial⟩⟩, ⟨⟨trivial, ⟨⟨trivial, trivial⟩, trivial⟩⟩, ⟨trivial, ⟨trivial, ⟨⟨trivial, ⟨LoopD.ok2 (V := V_laws_FnRxMany) l_laws_FnRxMany_0 (LoopsM.cons 0 l_laws_FnRxMany_0 LoopsM.nil) 0 _ i_laws_FnRxMany_0 (fun x hx => vS_laws_FnRxMany_0 x.1 x.2.1 x.2.2.1 x.2.2.2.1 x.2.2.2.2.1 x.2.2.2.2.2.1 x.2.2.2.2.2.2 hx) (fun x hx n s hi => ⟨_, by kernel_rfl, vL_laws_FnRxMany_0 x.1 x.2.1 x.2.2.1 x.2.2.2.1 x.2.2.2.2.1 x.2.2.2.2.2.1 x.2.2.2.2.2.2 s.1 s.2.1 s.2.2.1 s.2.2.2.1 s.2.2.2.2.1 s.2.2.2.2.2.1 s.2.2.2.2.2.2 n hx hi⟩), ⟨⟨trivial, ⟨trivial, trivial⟩⟩, ⟨⟨trivial, ⟨⟨trivial, ⟨trivial, trivial⟩⟩, ⟨trivial, ⟨trivial, ⟨⟨trivial, ⟨⟨trivial, trivial⟩, trivial⟩⟩, trivial⟩⟩⟩⟩⟩, trivial⟩⟩⟩⟩, ⟨trivial, trivial⟩⟩⟩⟩⟩⟩⟩⟩⟩⟩⟩⟩)
    (fun x K hp hk => ⟨_, by kernel_rfl, vF_laws_FnRxMany x.1 x.2 K hp (fun r h => hk r h)⟩)
end Go.Proofs.YtjladmhjpikdhaaE
