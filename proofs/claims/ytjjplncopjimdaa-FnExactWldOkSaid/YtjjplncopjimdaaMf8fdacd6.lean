/- A part of the proof of laws of the program: what calls of the program answer. Conditions: none. -/
import Derived.Test.YtjjplncopjimdaaMd3d50abc
set_option linter.unusedVariables false
set_option linter.unusedSimpArgs false
set_option linter.unusedSectionVars false
/- Contracts: M. Conditions: none. -/
set_option linter.unusedVariables false
set_option maxHeartbeats 1600000
namespace Go.Proofs.YtjjplncopjimdaaE
open Go
theorem rxHear_got (c : Cfg) (r : RxS) (f : Frm) : (rxHear1 c r f).sdus.length ≤ 1000 := by have := (hear_got c r f).2.1; omega
theorem Bytes.k9 : Bytes [1, 2, 3, 4, 5, 6, 7, 8, 9] := by simp [Bytes]
theorem Bytes.k8 : Bytes [1, 2, 3, 4, 5, 6, 7, 8] := by simp [Bytes]
theorem RxIn.got {c : Cfg} {r : RxS} {f : Frm} (h : RxIn c r f) : r.join.got.length ≤ 24 := by
  have := h.2.1.2.2.2
  unfold JoinP at this
  omega
theorem hear_len {c : Cfg} {r : RxS} {f : Frm} {y : List Int} (h : RxIn c r f) (hf : f.data.length ≤ 1000000000) (hy : List.Mem y (rxHear1 c r f).sdus) : y.length ≤ 137438953472 := by
  have h1 := (hear_got c r f).2.2 y hy
  have h2 := h.got
  omega

theorem at64_bd {lo hi : Int} (h0 : lo ≤ 0) (h1 : 0 ≤ hi) : ∀ (l : List Int) (n : Nat), (∀ x ∈ l, lo ≤ x ∧ x ≤ hi) → lo ≤ at_i64 l n ∧ at_i64 l n ≤ hi := by
  intro l
  induction l with
  | nil => intro n _; exact ⟨h0, h1⟩
  | cons a l ih =>
    intro n h
    cases n with
    | zero => exact h a List.mem_cons_self
    | succ n => exact ih n fun x hx => h x (List.mem_cons_of_mem _ hx)
theorem at64_2 {a b lo hi : Int} (n : Nat) (h0 : lo ≤ 0) (h1 : 0 ≤ hi) (ha : lo ≤ a ∧ a ≤ hi) (hb : lo ≤ b ∧ b ≤ hi) : lo ≤ at_i64 [a, b] n ∧ at_i64 [a, b] n ≤ hi :=
  at64_bd h0 h1 _ n (by intro x hx; simp at hx; rcases hx with rfl | rfl <;> assumption)

def segPut2 (j : JoinS) (p : Part) : PutR := if JoinP j ∧ PartP p then segPut j p else ⟨zJoin, [], 0⟩

end Go.Proofs.YtjjplncopjimdaaE

/- Calls answer what is promised: M. Conditions: none. -/
set_option linter.unusedVariables false
set_option maxHeartbeats 1600000
namespace Go.Proofs.YtjjplncopjimdaaE
open Go
end Go.Proofs.YtjjplncopjimdaaE
