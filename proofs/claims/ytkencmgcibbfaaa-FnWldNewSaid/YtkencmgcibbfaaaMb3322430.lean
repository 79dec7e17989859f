/- A part of the proof of laws of the program: what calls of the program answer. Conditions: none. -/
import Derived.Test.YtkencmgcibbfaaaM0e0d7ae7
set_option linter.unusedVariables false
set_option linter.unusedSimpArgs false
set_option linter.unusedSectionVars false
/- Contracts: K. Conditions: none. -/
set_option linter.unusedVariables false
set_option maxHeartbeats 1600000
namespace Go.Proofs.YtkencmgcibbfaaaE
open Go
theorem segPut_got (j : JoinS) (p : Part) : (segPut j p).j.got.length ≤ j.got.length + p.data.length ∧ (segPut j p).sdu.length ≤ j.got.length + p.data.length := by
  unfold segPut
  repeat' split
  all_goals simp [zJoin]
theorem SegP.seg {s l n : Int} (h : SegP s l n) : 0 ≤ s ∧ s ≤ 3 := by unfold SegP at h; omega
theorem RxIn.seg {c : Cfg} {r : RxS} {f : Frm} (h : RxIn c r f) : 0 ≤ f.seg ∧ f.seg ≤ 3 := by
  obtain ⟨_, _, h, hk⟩ := h
  unfold FrmP at h
  rcases h with h | h | h | h
  · exact h.2.2.2.2.2.seg
  · omega
  · exact h.2.2.2.2.2.2.seg
  · omega
theorem RxIn.num {c : Cfg} {r : RxS} {f : Frm} (h : RxIn c r f) (hk : f.kind = 1) : 0 ≤ r.expect ∧ r.expect ≤ 7 ∧ 0 ≤ f.seq ∧ f.seq ≤ 7 := by
  obtain ⟨_, h1, h, _⟩ := h
  unfold FrmP at h
  obtain ⟨⟨h2, h3⟩, _⟩ := h1
  omega
theorem RxIn.num2 {c : Cfg} {r : RxS} {f : Frm} (h : RxIn c r f) (hk : ¬ (f.kind == 2) = true) : 0 ≤ r.expect ∧ r.expect ≤ 7 ∧ 0 ≤ f.seq ∧ f.seq ≤ 7 := h.num (by have := h.2.2.2; simp at hk; omega)
theorem take_got (c : Cfg) (r : RxS) (f : Frm) : (rxTake c r f).r.join.got.length ≤ r.join.got.length + f.data.length ∧ (rxTake c r f).sdus.length ≤ 1 ∧ ∀ y ∈ (rxTake c r f).sdus, y.length ≤ r.join.got.length + f.data.length := by
  have h := segPut_got r.join ⟨f.seg, f.len, f.data⟩
  unfold rxTake
  dsimp only at h ⊢
  repeat' split
  all_goals simp
  all_goals omega
theorem take_says (c : Cfg) (r : RxS) (f : Frm) : (rxTake c r f).says = [] := by
  unfold rxTake
  dsimp only
  repeat' split
  all_goals rfl
theorem hear_got (c : Cfg) (r : RxS) (f : Frm) : (rxHear1 c r f).r.join.got.length ≤ r.join.got.length + f.data.length ∧ (rxHear1 c r f).sdus.length ≤ 1 ∧ ∀ y ∈ (rxHear1 c r f).sdus, y.length ≤ r.join.got.length + f.data.length := by
  have h := take_got c r f
  unfold rxHear1 rxData
  repeat' split
  all_goals first | exact h | simp

end Go.Proofs.YtkencmgcibbfaaaE

/- Calls answer what is promised: K. Conditions: none. -/
set_option linter.unusedVariables false
set_option maxHeartbeats 1600000
namespace Go.Proofs.YtkencmgcibbfaaaE
open Go
end Go.Proofs.YtkencmgcibbfaaaE
