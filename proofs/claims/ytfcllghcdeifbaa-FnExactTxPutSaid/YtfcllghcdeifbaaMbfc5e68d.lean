/- A part of the proof of laws of the program: what calls of the program answer. Conditions: none. -/
import Derived.Test.YtfcllghcdeifbaaM31401ff1
set_option linter.unusedVariables false
set_option linter.unusedSimpArgs false
set_option linter.unusedSectionVars false

/- Contracts: O. Conditions: none. -/
set_option linter.unusedVariables false
set_option maxHeartbeats 1600000
namespace Go.Proofs.YtfcllghcdeifbaaE
open Go
def CtP (c : Cfg) (t : CtS) : Prop := CfgP c ∧ (0 ≤ t.have_ ∧ t.have_ ≤ 255) ∧ (0 ≤ t.granted ∧ t.granted ≤ 9999) ∧ (0 ≤ t.sent ∧ t.sent ≤ 9999) ∧ t.have_ = t.granted - t.sent ∧ t.queue.length ≤ 24 ∧ PartsP c.mps t.queue
instance (c : Cfg) (t : CtS) : Decidable (CtP c t) := by unfold CtP; infer_instance
def zCt : CtS := ⟨0, [], 0, 0, false⟩
/-- Who sends for credits, its queue a row of one's own. -/
def oCt (t : CtS) : Arg := .v true [.d (.i .i64 t.have_), .own ⟨58, .part, t.queue, m0⟩, .d (.i .i64 t.granted), .d (.i .i64 t.sent), .d (.b t.dead)]
structure CtPutR where
  t : CtS
  ok : Bool
def crdPut (c : Cfg) (t : CtS) (s : List Int) : CtPutR :=
  if CtP c t then (if t.dead = true ∨ (s.length : Int) > c.mtu ∨ 24 < t.queue.length + (segCut s c.mps).length then ⟨t, false⟩ else ⟨{ t with queue := t.queue ++ segCut s c.mps }, true⟩) else ⟨zCt, false⟩
structure CtSendR where
  t : CtS
  f : Frm
  ok : Bool
def pieceF (p : Part) : Frm := ⟨3, 0, 0, false, false, 0, p.seg, p.len, p.data⟩
def crdSend (c : Cfg) (t : CtS) : CtSendR :=
  if CtP c t then (if t.dead = true ∨ t.have_ = 0 ∨ t.queue.length = 0 ∨ t.sent = 9999 then ⟨t, zFrm, false⟩ else ⟨⟨t.have_ - 1, t.queue.drop 1, t.granted, t.sent + 1, t.dead⟩, pieceF (at_part t.queue 0), true⟩) else ⟨zCt, zFrm, false⟩
def crdTake (c : Cfg) (t : CtS) (n : Int) : CtS :=
  if CtP c t ∧ 1 ≤ n ∧ n ≤ 255 then (if t.dead = true then t else if t.have_ + n > 255 ∨ t.granted + n > 9999 then { t with dead := true } else ⟨t.have_ + n, t.queue, t.granted + n, t.sent, t.dead⟩) else zCt
theorem CtP.len {c : Cfg} {t : CtS} (h : CtP c t) : t.queue.length ≤ 24 := h.2.2.2.2.2.1
theorem PartsP.data {m : Int} {l : List Part} (h : PartsP m l) : ∀ p ∈ l, p.data.length ≤ 24 := fun p hp => by
  have := (h p hp).1
  unfold PartP SegP at this
  omega
theorem CtP.data {c : Cfg} {t : CtS} (h : CtP c t) : ∀ p ∈ t.queue, p.data.length ≤ 137438953472 := fun p hp => by
  have := h.2.2.2.2.2.2.data p hp
  omega
theorem drop1 (l : List Part) : List.take (((l.length : Nat) : Int).toNat - 1) (List.drop 1 l) = List.drop 1 l := by
  rw [Int.toNat_natCast]
  exact List.take_of_length_le (by rw [List.length_drop]; omega)
theorem at0_mem {l : List Part} (h : ¬ l.length = 0) : at_part l 0 ∈ l := at_mem .part l 0 (show 0 < l.length by omega)

/-! laws.liPart -/
/-! laws.liParts -/
def l_laws_liParts_0 : LoopD ((List Part) × (List Part) × (Int)) ((Unit)) ((Unit)) where
  n := 27
  head := ⟨[0, 1, 5], [], []⟩
  st := fun x_ => (fun (a : List Part) (b : List Part) (i : Int) => (⟨true, [(0, .v false [.d (.r .part a)]), (1, .v false [.d (.r .part b)]), (5, num .i64 i)], [], []⟩)) x_.1 x_.2.1 x_.2.2
  pre := fun x_ => (fun (a : List Part) (b : List Part) (i : Int) => (a.length = b.length ∧ i = 0 ∧ a.length ≤ LIM ∧ ∀ y ∈ a, y.data.length ≤ LIM)) x_.1 x_.2.1 x_.2.2
  nk := ⟨[], [], []⟩
  nst := fun r_ => (fun (u : Unit) => (⟨true, [], [], []⟩)) r_
  npost := fun x_ r_ => (fun x_ => (fun (a0 : List Part) (b0 : List Part) (i0 : Int) => ((fun r_ => (fun (u : Unit) => (a0 = b0)) r_))) x_.1 x_.2.1 x_.2.2) x_ r_
  rk := ⟨[4], [], []⟩
  rst := fun r_ => (fun (u : Unit) => (⟨true, [(4, boo false)], [], []⟩)) r_
  rpost := fun x_ r_ => (fun x_ => (fun (a0 : List Part) (b0 : List Part) (i0 : Int) => ((fun r_ => (fun (u : Unit) => (a0 ≠ b0)) r_))) x_.1 x_.2.1 x_.2.2) x_ r_
def i_laws_liParts_0 (x : (List Part) × (List Part) × (Int)) (n : Nat) (s : (List Part) × (List Part) × (Int)) : Prop := (fun x_ => (fun (a0 : List Part) (b0 : List Part) (i0 : Int) => ((fun s_ => (fun (a : List Part) (b : List Part) (i : Int) => (a = a0 ∧ b = b0 ∧ a.length = b.length ∧ a.length ≤ LIM ∧ (∀ y ∈ a, y.data.length ≤ LIM) ∧ 0 ≤ i ∧ i + n = a.length ∧ a.take i.toNat = b.take i.toNat)) s_.1 s_.2.1 s_.2.2))) x_.1 x_.2.1 x_.2.2) x s
end Go.Proofs.YtfcllghcdeifbaaE


/- Calls answer what is promised: O. Conditions: none. -/
set_option linter.unusedVariables false
set_option maxHeartbeats 1600000
namespace Go.Proofs.YtfcllghcdeifbaaE
open Go
end Go.Proofs.YtfcllghcdeifbaaE
