/- A row of the call's own stays one when its slice's capacity is cut down to its length. Conditions: none. -/
import Derived.Test.YtgdioppiopppeaaVApart
import Derived.Lib.SliceRun
namespace Go.Proofs.YtgdioppiopppeaaV.PrintWords
open Go.RowKit
namespace Kd
section
variable {α : Type} {d : Kd α} {e : Nat} {w : World} {base : Nat} {ok : Nat → Prop} {A : Option Addr} {n c : Nat} {xs : List α}
theorem R_max' (h : d.R e w base ok (.slice A n c) xs) : n ≤ 9223372036854775807 := by
  have h1 := (R_reads' h).1
  have h2 := (R_reads' h).2.2.2.1
  omega
theorem R_clip (h : d.R e w base ok (.slice A n c) xs) : d.R e w base ok (.slice A n n) xs := by
  obtain ⟨hn, _, _⟩ := R_reads' h
  subst hn
  obtain ⟨h0, inner, ho, hr⟩ := h
  have hb : (Value.slice A xs.length c).ownBlock = (Value.slice A xs.length xs.length).ownBlock := by cases A <;> rfl
  refine ⟨fun k hk => h0 k (by rw [hb]; exact hk), inner, ho.clip, hr.imp_ (fun _ _ hp => d.M_mono (fun k hk => ⟨hk.1, ?_⟩) hp)⟩
  rw [← hb]
  exact hk.2
end
end Kd
end Go.Proofs.YtgdioppiopppeaaV.PrintWords
