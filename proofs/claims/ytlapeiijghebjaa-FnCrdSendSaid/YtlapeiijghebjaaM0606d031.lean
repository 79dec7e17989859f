/- A part of the proof of laws of the program: what calls of the program answer. Conditions: none. -/
import Derived.Test.YtlapeiijghebjaaM7a351513
set_option linter.unusedVariables false
set_option linter.unusedSimpArgs false
set_option linter.unusedSectionVars false
/- Contracts: RxL. Conditions: none. -/
set_option linter.unusedVariables false
set_option maxHeartbeats 1600000
namespace Go.Proofs.YtlapeiijghebjaaE
open Go
theorem segPut_ok {j : JoinS} {p : Part} (hj : JoinP j) (hp : PartP p) : JoinP (segPut j p).j ∧ ((segPut j p).how = 1 ∨ (segPut j p).how = 2 ∨ (segPut j p).how = 3) := by
  unfold segPut
  unfold PartP SegP at hp
  unfold JoinP at hj
  repeat' split
  all_goals grind [JoinP, zJoin]
theorem RxIn.part {c : Cfg} {r : RxS} {f : Frm} (h : RxIn c r f) (hk : f.kind = 1) : PartP ⟨f.seg, f.len, f.data⟩ := by
  obtain ⟨_, _, h, _⟩ := h
  unfold FrmP at h
  unfold PartP
  rcases h with h | h | h | h
  · exact h.2.2.2.2.2
  all_goals omega
theorem take_ok {c : Cfg} {r : RxS} {f : Frm} (h : RxIn c r f) (hk : f.kind = 1) : RxP (rxTake c r f).r := by
  have hs := segPut_ok h.2.1.2.2.2 (h.part hk)
  obtain ⟨h1, h2, h3, h4⟩ := h.2.1
  unfold rxTake
  dsimp only
  split
  · exact ⟨h1, h2, h3, h4⟩
  · split
    · exact ⟨h1, h2, h3, hs.1⟩
    · refine ⟨?_, ?_, ?_, hs.1⟩ <;> dsimp only <;> omega
theorem hear_ok {c : Cfg} {r : RxS} {f : Frm} (h : RxIn c r f) : RxP (rxHear1 c r f).r := by
  unfold rxHear1
  split
  · exact h.2.1
  · split
    · rename_i hk
      unfold rxData
      split
      · exact h.2.1
      · split
        · exact take_ok h hk
        · split
          · exact h.2.1
          · exact h.2.1
    · split
      · exact h.2.1
      · exact h.2.1
theorem rx_twice {c : Cfg} {r : RxS} {f : Frm} (h : RxIn c r f) (hk : f.kind = 1) (hc : (rxHear c r f).r.count = r.count + 1) :
    rxHear c (rxHear c r f).r f = ⟨(rxHear c r f).r, [], []⟩ ∧ (rxHear c r f).r.dead = false := by
  have hok := hear_ok h
  have e : rxHear c r f = rxHear1 c r f := by unfold rxHear; rw [if_pos h]
  rw [e] at hc ⊢
  have hx : RxIn c (rxHear1 c r f).r f := ⟨h.1, hok, h.2.2.1, h.2.2.2⟩
  have hn := h.num hk
  have hcf := h.1
  unfold rxHear
  rw [if_pos hx]
  have key : (rxHear1 c r f).r.busy = false ∧ (rxHear1 c r f).r.dead = false ∧ (rxHear1 c r f).r.expect = (r.expect + 1) % 8 ∧ f.seq = r.expect := by
    generalize hq : rxHear1 c r f = q at hc ⊢
    unfold rxHear1 at hq
    split at hq
    · subst hq; dsimp only at hc; omega
    · try rw [if_pos hk] at hq
      unfold rxData at hq
      split at hq
      · subst hq; dsimp only at hc; omega
      · split at hq
        · unfold rxTake at hq
          dsimp only at hq
          split at hq
          · subst hq; dsimp only at hc; omega
          · split at hq
            · subst hq; dsimp only at hc; omega
            · subst hq
              dsimp only
              refine ⟨?_, ?_, rfl, by assumption⟩ <;> simp_all
        · split at hq <;> (subst hq; dsimp only at hc; omega)
  obtain ⟨k1, k2, k3, k4⟩ := key
  generalize (rxHear1 c r f).r = x at k1 k2 k3
  refine ⟨?_, k2⟩
  unfold rxHear1
  rw [k2, if_neg (by simp), if_pos hk]
  unfold rxData
  rw [k1, if_neg (by simp), if_neg (by omega), if_neg]
  rintro ⟨ha, _⟩
  have := hcf.2.2.2.1
  omega
theorem rx_late {c : Cfg} {r : RxS} {f : Frm} {b : Int} (hc : CfgP c) (hr : RxP r) (hf : FrmP f) (hk : f.kind = 1) (hb : r.busy = false) (h1 : 1 ≤ b) (h2 : b ≤ 8 - c.win) (hs : f.seq = (r.expect + 8 - b) % 8) :
    rxHear c r f = ⟨r, [], []⟩ := by
  have h : RxIn c r f := ⟨hc, hr, hf, .inl hk⟩
  have hn := h.num hk
  have hw := hc.2.2.1
  unfold rxHear
  rw [if_pos h]
  unfold rxHear1
  split
  · rfl
  · try rw [if_pos hk]
    unfold rxData
    rw [hb, if_neg (by simp), if_neg (by omega), if_neg]
    rintro ⟨ha, _⟩
    omega
theorem FrmP.seq {f : Frm} (h : FrmP f) (hk : f.kind = 1) {s : Int} (h1 : 0 ≤ s) (h2 : s ≤ 7) : FrmP { f with seq := s } := by
  unfold FrmP at h ⊢
  rcases h with h | h | h | h
  · exact .inl ⟨h.1, ⟨h1, h2⟩, h.2.2⟩
  all_goals omega

end Go.Proofs.YtlapeiijghebjaaE

/- Calls answer what is promised: RxL. Conditions: none. -/
set_option linter.unusedVariables false
set_option maxHeartbeats 1600000
namespace Go.Proofs.YtlapeiijghebjaaE
open Go
end Go.Proofs.YtlapeiijghebjaaE
