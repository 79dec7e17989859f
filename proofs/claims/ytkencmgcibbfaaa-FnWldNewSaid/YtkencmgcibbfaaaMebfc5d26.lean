/- A part of the proof of laws of the program: what calls of the program answer. Conditions: none. -/
import Derived.Test.YtkencmgcibbfaaaM14ce6117
set_option linter.unusedVariables false
set_option linter.unusedSimpArgs false
set_option linter.unusedSectionVars false
/- Contracts: Y2. Conditions: none. -/
set_option linter.unusedVariables false
set_option maxHeartbeats 1600000
namespace Go.Proofs.YtkencmgcibbfaaaE
open Go
def bigB (b : List Int) : Bool := decide (24 < b.length)
def bigN (m : NetS) : Bool := decide (15 < m.bytes.length)
def deadE (e : EndS) : Bool := e.tx.dead || e.rx.dead || e.ctx.dead || e.crx.dead

/-! impl.WldDead$1 -/
def c_impl_WldDead_1 : Ent := ctr (α := (EndS)) (ρ := (Bool)) [] [] (rs1 rEnd) (fun x_ => (fun (e : EndS) => (True)) x_) (fun x_ r_ => (fun x_ => (fun (e : EndS) => ((fun r_ => (fun (r : Bool) => (r = deadE e)) r_))) x_) x_ r_) (fun r_ => (fun (r : Bool) => ([rB.to r])) r_) (fun r_ => (fun (r : Bool) => ([])) r_)
def V_impl_WldDead_1 : Env := ⟨tys, [], [], [(1, 0)], [], [], [500006, 500011, 500016], [], []⟩
/-! slices.IndexFunc[[]impl.WldEnd,impl.WldEnd] -/
def c_slices_IndexFunc_impl_WldEnd_impl_WldEnd : Ent := ctr (α := (List EndS)) (ρ := (Int)) [] [] (rs1 (rR .wend)) (fun x_ => (fun (l : List EndS) => (l.length ≤ LIM)) x_) (fun x_ r_ => (fun x_ => (fun (l : List EndS) => ((fun r_ => (fun (r : Int) => (decide (r ≥ 0) = l.any deadE)) r_))) x_) x_ r_) (fun r_ => (fun (r : Int) => ([rInt.to r])) r_) (fun r_ => (fun (r : Int) => ([])) r_) (some (37, false))
def l_slices_IndexFunc_impl_WldEnd_impl_WldEnd_0 : LoopD ((List EndS) × (Int) × (Int)) ((Unit)) ((Int)) where
  n := 19
  head := ⟨[0, 1, 7, 8], [], []⟩
  st := fun x_ => (fun (l : List EndS) (m : Int) (i : Int) => (⟨true, [(0, .v false [.d (.r .wend l)]), (1, .fn 37 none), (7, num .i64 m), (8, num .i64 i)], [], []⟩)) x_.1 x_.2.1 x_.2.2
  pre := fun x_ => (fun (l : List EndS) (m : Int) (i : Int) => (l.length ≤ LIM ∧ m = l.length ∧ i = 0)) x_.1 x_.2.1 x_.2.2
  nk := ⟨[], [], []⟩
  nst := fun r_ => (fun (u : Unit) => (⟨true, [], [], []⟩)) r_
  npost := fun x_ r_ => (fun x_ => (fun (l0 : List EndS) (m0 : Int) (i0 : Int) => ((fun r_ => (fun (u : Unit) => (l0.any deadE = false)) r_))) x_.1 x_.2.1 x_.2.2) x_ r_
  rk := ⟨[4], [], []⟩
  rst := fun r_ => (fun (i : Int) => (⟨true, [(4, num .i64 i)], [], []⟩)) r_
  rpost := fun x_ r_ => (fun x_ => (fun (l0 : List EndS) (m0 : Int) (i0 : Int) => ((fun r_ => (fun (i : Int) => (0 ≤ i ∧ l0.any deadE = true)) r_))) x_.1 x_.2.1 x_.2.2) x_ r_
def i_slices_IndexFunc_impl_WldEnd_impl_WldEnd_0 (x : (List EndS) × (Int) × (Int)) (n : Nat) (s : (List EndS) × (Int) × (Int)) : Prop := (fun x_ => (fun (l0 : List EndS) (m0 : Int) (i0 : Int) => ((fun s_ => (fun (l : List EndS) (m : Int) (i : Int) => (l = l0 ∧ m = l.length ∧ l.length ≤ LIM ∧ 0 ≤ i ∧ i + n = l.length ∧ (l.take i.toNat).any deadE = false)) s_.1 s_.2.1 s_.2.2))) x_.1 x_.2.1 x_.2.2) x s
def V_slices_IndexFunc_impl_WldEnd_impl_WldEnd : Env := ⟨tys, [(37, c_impl_WldDead_1)], [], [], [], [(0, l_slices_IndexFunc_impl_WldEnd_impl_WldEnd_0.L)], [], [], []⟩
/-! slices.ContainsFunc[[]impl.WldEnd,impl.WldEnd] -/
def c_slices_ContainsFunc_impl_WldEnd_impl_WldEnd : Ent := ctr (α := (List EndS)) (ρ := (Bool)) [] [] (rs1 (rR .wend)) (fun x_ => (fun (l : List EndS) => (l.length ≤ LIM)) x_) (fun x_ r_ => (fun x_ => (fun (l : List EndS) => ((fun r_ => (fun (r : Bool) => (r = l.any deadE)) r_))) x_) x_ r_) (fun r_ => (fun (r : Bool) => ([rB.to r])) r_) (fun r_ => (fun (r : Bool) => ([])) r_) (some (37, false))
def V_slices_ContainsFunc_impl_WldEnd_impl_WldEnd : Env := ⟨tys, [(58, c_slices_IndexFunc_impl_WldEnd_impl_WldEnd)], [], [], [], [], [], [], []⟩
/-! impl.WldDead -/
def c_impl_WldDead : Ent := ctr (α := (WldS)) (ρ := (Bool)) [] [] (rs1 rWld) (fun x_ => (fun (w : WldS) => (w.ends.length ≤ LIM)) x_) (fun x_ r_ => (fun x_ => (fun (w : WldS) => ((fun r_ => (fun (r : Bool) => (r = w.ends.any deadE)) r_))) x_) x_ r_) (fun r_ => (fun (r : Bool) => ([rB.to r])) r_) (fun r_ => (fun (r : Bool) => ([])) r_)
def V_impl_WldDead : Env := ⟨tys, [(36, c_slices_ContainsFunc_impl_WldEnd_impl_WldEnd)], [], [(1, 0)], [], [], [], [], []⟩
end Go.Proofs.YtkencmgcibbfaaaE

/- Calls answer what is promised: Y2. Conditions: none. -/
set_option linter.unusedVariables false
set_option maxHeartbeats 1600000
namespace Go.Proofs.YtkencmgcibbfaaaE
open Go
theorem vF_impl_WldDead_1 (e:EndS) (K:List Arg→List (List AC)→Prop) (hp:True) (hk:∀ (r:Bool),(r=deadE e)→K ([rB.to r]) ([])):if (e.tx.dead=true) then ((true=true)∧(K [(aB true)] [])) else (if (e.rx.dead=true) then ((true=true)∧(K [(aB true)] [])) else (if (e.ctx.dead=true) then ((true=true)∧(K [(aB true)] [])) else ((true=true)∧(K [(aB e.crx.dead)] [])))) := by
  repeat' first
    | exact rfl
    | exact True.intro
    | with_reducible apply And.intro
    | (with_reducible intro y_ hy_; subst hy_)
    | with_reducible intro y_
    | (refine iteI (fun h => ?_) (fun h => ?_))
  all_goals try simp only [Bool.not_eq_true', decide_eq_false_iff_not, decide_eq_true_eq, Bool.not_eq_true, bne_iff_ne, beq_iff_eq, ne_eq, Decidable.not_not, Bool.not_eq_false, gt_iff_lt, ge_iff_le, Int.not_le, Int.not_lt, beq_eq_false_iff_ne, bne_eq_false_iff_eq, Bool.and_eq_true, Bool.or_eq_true, Bool.true_eq_false, Bool.false_eq_true] at *
  all_goals try simp (disch := first | omega | grind [deadE]) only [wr] at *
  all_goals first
    | assumption
    | omega
    | exact hk _ (by grind [deadE])
    | (simp only [LIM] at *; omega)
    | grind [deadE, LIM]
theorem w_impl_WldDead_1 : Valid Try.prog 37 c_impl_WldDead_1 :=
  valid_ctr2 (V := V_impl_WldDead_1) (tysB_ok tys_ok) ⟨(CallsL.nil _), (IosL.nil _)⟩ mixed 0 1 Try.func37 rfl (by kernel_rfl)
    (fun c hc => by
      obtain rfl := Option.some.inj hc
      exact ⟨trivial, ⟨trivial, trivial⟩⟩)
    (fun x K hp hk => ⟨_, by kernel_rfl, vF_impl_WldDead_1 x K hp (fun r h => hk r h)⟩)
theorem vF_slices_IndexFunc_impl_WldEnd_impl_WldEnd (l:List EndS) (K:List Arg→List (List AC)→Prop) (hp:l.length≤LIM) (hk:∀ (r:Int),(decide (r ≥ 0)=l.any deadE)→K ([rInt.to r]) ([])):∃ s:(Prod (List EndS) (Prod Int Int)),((KS.mk true [(Prod.mk (0:Nat) (T.v false [(Cm.d (D.r RK.wend l))])),(Prod.mk (1:Nat) (T.fn (37:Nat) (Option.none))),(Prod.mk (7:Nat) (num IntKind.i64 (((List.length l):Nat):Int))),(Prod.mk (8:Nat) (num IntKind.i64 (0:Int)))] [] [])=(KS.mk true [(Prod.mk (0:Nat) (T.v false [(Cm.d (D.r RK.wend s.fst))])),(Prod.mk (1:Nat) (T.fn (37:Nat) (Option.none))),(Prod.mk (7:Nat) (num IntKind.i64 s.snd.fst)),(Prod.mk (8:Nat) (num IntKind.i64 s.snd.snd))] [] []))∧((((List.length s.fst)≤(137438953472:Nat))∧((s.snd.fst=(((List.length s.fst):Nat):Int))∧(s.snd.snd=(0:Int))))∧((∀ r:Unit,((List.any s.fst deadE)=false)→(true=true)∧(K [(aI IntKind.i64 (-1:Int))] []))∧(∀ r:Int,(((0:Int)≤r)∧((List.any s.fst deadE)=true))→(true=true)∧(K [(aI IntKind.i64 r)] [])))) := by
  refine ⟨(l, (l.length : Int), 0), rfl, ⟨hp, rfl, rfl⟩, ?_, ?_⟩
  · intro u h
    exact ⟨by trivial, hk (-1) (by rw [show l.any _ = false from h]; rfl)⟩
  · rintro i ⟨h0, h⟩
    exact ⟨by trivial, hk i (by dsimp only at h h0; rw [h]; simpa using h0)⟩
theorem vL_slices_IndexFunc_impl_WldEnd_impl_WldEnd_0 (l0:List EndS) (m0:Int) (i0:Int) (l:List EndS) (m:Int) (i:Int) (n:Nat) (hp:(fun (l:List EndS) (m:Int) (i:Int) => (l.length≤LIM∧m=l.length∧i=0)) l0 m0 i0) (hi:l=l0∧m=l.length∧l.length≤LIM∧0≤i∧i + n=l.length∧(l.take i.toNat).any deadE=false):if ((decide (i < m))=true) then ((((0:Int)≤i)∧(i < (((List.length l):Nat):Int)))∧((true=true)∧(True∧(∀ r:Bool,(r=(deadE (at_wend l (Int.toNat i))))→(true=true)∧(if (r=true) then (∃ r1:Int,((KS.mk true [(Prod.mk (4:Nat) (num IntKind.i64 i))] [] [])=(KS.mk true [(Prod.mk (4:Nat) (num IntKind.i64 r1))] [] []))∧(((0:Int)≤r1)∧((List.any l0 deadE)=true))) else (∃ s:(Prod (List EndS) (Prod Int Int)),((KS.mk true [(Prod.mk (0:Nat) (T.v false [(Cm.d (D.r RK.wend l))])),(Prod.mk (1:Nat) (T.fn (37:Nat) (Option.none))),(Prod.mk (7:Nat) (num IntKind.i64 m)),(Prod.mk (8:Nat) (num IntKind.i64 (IntKind.wrap IntKind.i64 (i + (1:Int)))))] [] [])=(KS.mk true [(Prod.mk (0:Nat) (T.v false [(Cm.d (D.r RK.wend s.fst))])),(Prod.mk (1:Nat) (T.fn (37:Nat) (Option.none))),(Prod.mk (7:Nat) (num IntKind.i64 s.snd.fst)),(Prod.mk (8:Nat) (num IntKind.i64 s.snd.snd))] [] []))∧(∃ m1:Nat,(m1 < n)∧((s.fst=l0)∧((s.snd.fst=(((List.length s.fst):Nat):Int))∧(((List.length s.fst)≤(137438953472:Nat))∧(((0:Int)≤s.snd.snd)∧(((s.snd.snd + ((m1:Nat):Int))=(((List.length s.fst):Nat):Int))∧((List.any (List.take (Int.toNat s.snd.snd) s.fst) deadE)=false))))))))))))) else (∃ r:Unit,((KS.mk true [] [] [])=(KS.mk true [] [] []))∧((List.any l0 deadE)=false)) := by
  try dsimp only at hp
  obtain ⟨rfl, rfl, h1, h2, h3, h4⟩ := hi
  have hL : l.length ≤ 137438953472 := h1
  obtain ⟨i, rfl⟩ : ∃ k : Nat, i = k := ⟨i.toNat, by omega⟩
  rw [wr (x := (i : Int) + 1) (by omega) (by omega)]
  simp only [Int.toNat_natCast] at h4 ⊢
  refine iteI (fun h => ?_) (fun h => ?_)
  · have hi : i < l.length := by simp at h; omega
    have e : l.take (i + 1) = l.take i ++ [at_wend l i] := take_at .wend l i hi
    repeat' first
      | exact rfl
      | exact True.intro
      | with_reducible apply And.intro
      | (with_reducible intro r hr; subst r)
      | omega
    all_goals first
      | (refine iteI (fun hx => ?_) (fun hx => ?_)
         · exact ⟨(i : Int), rfl, by (try dsimp only); omega, List.any_eq_true.2 ⟨at_wend l i, at_mem .wend l i hi, hx⟩⟩
         · refine ⟨(l, (l.length : Int), (i : Int) + 1), rfl, n - 1, by omega, rfl, rfl, h1, by (try dsimp only); omega, by (try dsimp only); omega, ?_⟩
           show (l.take ((i : Int) + 1).toNat).any deadE = false
           have hx' : deadE (at_wend l i) = false := by simpa using hx
           rw [show ((i : Int) + 1).toNat = i + 1 by omega, e, List.any_append, h4]; simp [hx'])
  · refine ⟨(), by trivial, ?_⟩
    have hi : i = l.length := by simp at h; omega
    subst hi
    rw [List.take_length] at h4
    exact h4
theorem vS_slices_IndexFunc_impl_WldEnd_impl_WldEnd_0 (l0 : List EndS) (m0 : Int) (i0 : Int) (hp : (fun (l : List EndS) (m : Int) (i : Int) => (l.length ≤ LIM ∧ m = l.length ∧ i = 0)) l0 m0 i0) : ∃ n : Nat, (fun (l : List EndS) (m : Int) (i : Int) => (l = l0 ∧ m = l.length ∧ l.length ≤ LIM ∧ 0 ≤ i ∧ i + n = l.length ∧ (l.take i.toNat).any deadE = false)) l0 m0 i0 := by
  try dsimp only at hp
  try dsimp only
  obtain ⟨h1, rfl, rfl⟩ := hp
  exact ⟨l0.length, rfl, rfl, h1, by omega, by omega, rfl⟩
theorem w_slices_IndexFunc_impl_WldEnd_impl_WldEnd : Valid Try.prog 58 c_slices_IndexFunc_impl_WldEnd_impl_WldEnd :=
  valid_ctr2 (V := V_slices_IndexFunc_impl_WldEnd_impl_WldEnd) (tysB_ok tys_ok) ⟨(CallsL.cons w_impl_WldDead_1 (CallsL.nil _)), (IosL.nil _)⟩ mixed 0 0 Try.func58 rfl (by kernel_rfl)
    (fun c hc => by
      obtain rfl := Option.some.inj hc
      exact ⟨trivial, ⟨⟨trivial, ⟨LoopD.ok2 (V := V_slices_IndexFunc_impl_WldEnd_impl_WldEnd) l_slices_IndexFunc_impl_WldEnd_impl_WldEnd_0 (LoopsM.cons 0 l_slices_IndexFunc_impl_WldEnd_impl_WldEnd_0 LoopsM.nil) 0 _ i_slices_IndexFunc_impl_WldEnd_impl_WldEnd_0 (fun x hx => vS_slices_IndexFunc_impl_WldEnd_impl_WldEnd_0 x.1 x.2.1 x.2.2 hx) (fun x hx n s hi => ⟨_, by kernel_rfl, vL_slices_IndexFunc_impl_WldEnd_impl_WldEnd_0 x.1 x.2.1 x.2.2 s.1 s.2.1 s.2.2 n hx hi⟩), ⟨trivial, ⟨⟨trivial, trivial⟩, ⟨⟨trivial, ⟨trivial, ⟨⟨trivial, trivial⟩, trivial⟩⟩⟩, trivial⟩⟩⟩⟩⟩, ⟨trivial, trivial⟩⟩⟩)
    (fun x K hp hk => ⟨_, by kernel_rfl, vF_slices_IndexFunc_impl_WldEnd_impl_WldEnd x K hp (fun r h => hk r h)⟩)
theorem vF_slices_ContainsFunc_impl_WldEnd_impl_WldEnd (l:List EndS) (K:List Arg→List (List AC)→Prop) (hp:l.length≤LIM) (hk:∀ (r:Bool),(r=l.any deadE)→K ([rB.to r]) ([])):(true=true)∧(((List.length l)≤(137438953472:Nat))∧(∀ r:Int,((decide (r ≥ (0:Int)))=(List.any l deadE))→(true=true)∧((true=true)∧(K [(aB (decide (r ≥ (0:Int))))] [])))) := by
  refine ⟨by trivial, hp, fun r h => ?_⟩
  exact ⟨by trivial, by trivial, hk _ h⟩
theorem w_slices_ContainsFunc_impl_WldEnd_impl_WldEnd : Valid Try.prog 36 c_slices_ContainsFunc_impl_WldEnd_impl_WldEnd :=
  valid_ctr2 (V := V_slices_ContainsFunc_impl_WldEnd_impl_WldEnd) (tysB_ok tys_ok) ⟨(CallsL.cons w_slices_IndexFunc_impl_WldEnd_impl_WldEnd (CallsL.nil _)), (IosL.nil _)⟩ mixed 0 0 Try.func36 rfl (by kernel_rfl)
    (fun c hc => by
      obtain rfl := Option.some.inj hc
      exact ⟨trivial, ⟨trivial, trivial⟩⟩)
    (fun x K hp hk => ⟨_, by kernel_rfl, vF_slices_ContainsFunc_impl_WldEnd_impl_WldEnd x K hp (fun r h => hk r h)⟩)
theorem vF_impl_WldDead (w:WldS) (K:List Arg→List (List AC)→Prop) (hp:w.ends.length≤LIM) (hk:∀ (r:Bool),(r=w.ends.any deadE)→K ([rB.to r]) ([])):(true=true)∧(((List.length w.ends)≤(137438953472:Nat))∧(∀ r:Bool,(r=(List.any w.ends deadE))→(true=true)∧((true=true)∧(K [(aB r)] [])))) := by
  repeat' first
    | exact rfl
    | exact True.intro
    | with_reducible apply And.intro
    | (with_reducible intro y_ hy_; subst hy_)
    | with_reducible intro y_
    | (refine iteI (fun h => ?_) (fun h => ?_))
  all_goals try simp only [Bool.not_eq_true', decide_eq_false_iff_not, decide_eq_true_eq, Bool.not_eq_true, bne_iff_ne, beq_iff_eq, ne_eq, Decidable.not_not, Bool.not_eq_false, gt_iff_lt, ge_iff_le, Int.not_le, Int.not_lt, beq_eq_false_iff_ne, bne_eq_false_iff_eq, Bool.and_eq_true, Bool.or_eq_true, Bool.true_eq_false, Bool.false_eq_true] at *
  all_goals try simp (disch := first | omega | grind []) only [wr] at *
  all_goals first
    | assumption
    | omega
    | exact hk _ (by grind [])
    | (simp only [LIM] at *; omega)
    | grind [LIM]
theorem w_impl_WldDead : Valid Try.prog 13 c_impl_WldDead :=
  valid_ctr2 (V := V_impl_WldDead) (tysB_ok tys_ok) ⟨(CallsL.cons w_slices_ContainsFunc_impl_WldEnd_impl_WldEnd (CallsL.nil _)), (IosL.nil _)⟩ mixed 0 1 Try.func13 rfl (by kernel_rfl)
    (fun c hc => by
      obtain rfl := Option.some.inj hc
      exact ⟨trivial, ⟨trivial, trivial⟩⟩)
    (fun x K hp hk => ⟨_, by kernel_rfl, vF_impl_WldDead x K hp (fun r h => hk r h)⟩)
end Go.Proofs.YtkencmgcibbfaaaE
