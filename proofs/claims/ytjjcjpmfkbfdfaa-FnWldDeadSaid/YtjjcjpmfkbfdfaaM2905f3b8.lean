/- A part of the proof of laws of the program: what calls of the program answer. Conditions: none. -/
import Derived.Test.YtjjcjpmfkbfdfaaM50a7fede
set_option linter.unusedVariables false
set_option linter.unusedSimpArgs false
set_option linter.unusedSectionVars false

/- Contracts: N12. Conditions: none. -/
set_option linter.unusedVariables false
set_option maxHeartbeats 1600000
namespace Go.Proofs.YtjjcjpmfkbfdfaaE
open Go
def deadN (e : EndN) : Bool := e.tx.dead || e.rx.dead || e.ctx.dead || e.crx.dead
def tys3 : List (Nat × TyI) := (22, ⟨false, [.r .u8 []], some (.u8, 5), [], []⟩) :: tys2.filter (fun p => [2, 3, 4, 5, 25, 28, 33, 37, 39, 41, 44].contains p.1)
theorem tys3_ok : tysB Try.prog tys3 = true := by kernel_rfl

/-! impl.WldDead$1 -/
def c_impl_WldDead_1 : Ent := ctr (α := (EndN)) (ρ := (Bool)) [] [] (rs1 rEndN) (fun x_ => (fun (e : EndN) => (True)) x_) (fun x_ r_ => (fun x_ => (fun (e : EndN) => ((fun r_ => (fun (r : Bool) => (r = deadN e)) r_))) x_) x_ r_) (fun r_ => (fun (r : Bool) => ([rB.to r])) r_) (fun r_ => (fun (r : Bool) => ([])) r_)
def V_impl_WldDead_1 : Env := ⟨tys2, [], [], [(1, 0)], [], [], [500006, 500011, 500016], [], []⟩
/-! slices.IndexFunc[[]impl.WldEnd,impl.WldEnd] -/
def c_slices_IndexFunc_impl_WldEnd_impl_WldEnd : Ent := ctr (α := (List EndN)) (ρ := (Int)) [] [] (rs1 (rR .hend)) (fun x_ => (fun (l : List EndN) => (l.length ≤ LIM)) x_) (fun x_ r_ => (fun x_ => (fun (l : List EndN) => ((fun r_ => (fun (r : Int) => (decide (r ≥ 0) = l.any deadN)) r_))) x_) x_ r_) (fun r_ => (fun (r : Int) => ([rInt.to r])) r_) (fun r_ => (fun (r : Int) => ([])) r_) (some (11, false))
def l_slices_IndexFunc_impl_WldEnd_impl_WldEnd_0 : LoopD ((List EndN) × (Int) × (Int)) ((Unit)) ((Int)) where
  n := 19
  head := ⟨[0, 1, 7, 8], [], []⟩
  st := fun x_ => (fun (l : List EndN) (m : Int) (i : Int) => (⟨true, [(0, .v false [.d (.r .hend l)]), (1, .fn 11 none), (7, num .i64 m), (8, num .i64 i)], [], []⟩)) x_.1 x_.2.1 x_.2.2
  pre := fun x_ => (fun (l : List EndN) (m : Int) (i : Int) => (l.length ≤ LIM ∧ m = l.length ∧ i = 0)) x_.1 x_.2.1 x_.2.2
  nk := ⟨[], [], []⟩
  nst := fun r_ => (fun (u : Unit) => (⟨true, [], [], []⟩)) r_
  npost := fun x_ r_ => (fun x_ => (fun (l0 : List EndN) (m0 : Int) (i0 : Int) => ((fun r_ => (fun (u : Unit) => (l0.any deadN = false)) r_))) x_.1 x_.2.1 x_.2.2) x_ r_
  rk := ⟨[4], [], []⟩
  rst := fun r_ => (fun (i : Int) => (⟨true, [(4, num .i64 i)], [], []⟩)) r_
  rpost := fun x_ r_ => (fun x_ => (fun (l0 : List EndN) (m0 : Int) (i0 : Int) => ((fun r_ => (fun (i : Int) => (0 ≤ i ∧ l0.any deadN = true)) r_))) x_.1 x_.2.1 x_.2.2) x_ r_
def i_slices_IndexFunc_impl_WldEnd_impl_WldEnd_0 (x : (List EndN) × (Int) × (Int)) (n : Nat) (s : (List EndN) × (Int) × (Int)) : Prop := (fun x_ => (fun (l0 : List EndN) (m0 : Int) (i0 : Int) => ((fun s_ => (fun (l : List EndN) (m : Int) (i : Int) => (l = l0 ∧ m = l.length ∧ l.length ≤ LIM ∧ 0 ≤ i ∧ i + n = l.length ∧ (l.take i.toNat).any deadN = false)) s_.1 s_.2.1 s_.2.2))) x_.1 x_.2.1 x_.2.2) x s
def V_slices_IndexFunc_impl_WldEnd_impl_WldEnd : Env := ⟨tys2, [(11, c_impl_WldDead_1)], [], [], [], [(0, l_slices_IndexFunc_impl_WldEnd_impl_WldEnd_0.L)], [], [], []⟩
/-! slices.ContainsFunc[[]impl.WldEnd,impl.WldEnd] -/
def c_slices_ContainsFunc_impl_WldEnd_impl_WldEnd : Ent := ctr (α := (List EndN)) (ρ := (Bool)) [] [] (rs1 (rR .hend)) (fun x_ => (fun (l : List EndN) => (l.length ≤ LIM)) x_) (fun x_ r_ => (fun x_ => (fun (l : List EndN) => ((fun r_ => (fun (r : Bool) => (r = l.any deadN)) r_))) x_) x_ r_) (fun r_ => (fun (r : Bool) => ([rB.to r])) r_) (fun r_ => (fun (r : Bool) => ([])) r_) (some (11, false))
def V_slices_ContainsFunc_impl_WldEnd_impl_WldEnd : Env := ⟨tys2, [(21, c_slices_IndexFunc_impl_WldEnd_impl_WldEnd)], [], [], [], [], [], [], []⟩
/-! impl.WldDead -/
def c_impl_WldDead : Ent := ctr (α := (WldN)) (ρ := (Bool)) [] [] (rs1 rWldND) (fun x_ => (fun (w : WldN) => (w.ends.length ≤ LIM)) x_) (fun x_ r_ => (fun x_ => (fun (w : WldN) => ((fun r_ => (fun (r : Bool) => (r = w.ends.any deadN)) r_))) x_) x_ r_) (fun r_ => (fun (r : Bool) => ([rB.to r])) r_) (fun r_ => (fun (r : Bool) => ([])) r_)
def V_impl_WldDead : Env := ⟨tys2, [(10, c_slices_ContainsFunc_impl_WldEnd_impl_WldEnd)], [], [(1, 0)], [], [], [], [], []⟩
/-! spec.WldDead -/
def c_spec_WldDead : Ent := ctr (α := (WldN)) (ρ := (Bool)) [] [] (rs1 rWldND) (fun x_ => (fun (w : WldN) => (w.ends.length ≤ LIM)) x_) (fun x_ r_ => (fun x_ => (fun (w : WldN) => ((fun r_ => (fun (r : Bool) => (r = w.ends.any deadN)) r_))) x_) x_ r_) (fun r_ => (fun (r : Bool) => ([rB.to r])) r_) (fun r_ => (fun (r : Bool) => ([])) r_)
def l_spec_WldDead_0 : LoopD ((WldN) × (Int)) ((Unit)) ((Unit)) where
  n := 35
  head := ⟨[1, 3], [0], []⟩
  st := fun x_ => (fun (w : WldN) (i : Int) => (⟨true, [(1, .pb 0 1 0), (3, num .i64 i)], [], [⟨1, some ((wldNC w).map .d)⟩, ⟨0, none⟩]⟩)) x_.1 x_.2
  pre := fun x_ => (fun (w : WldN) (i : Int) => (w.ends.length ≤ LIM ∧ i = 0)) x_.1 x_.2
  nk := ⟨[], [], []⟩
  nst := fun r_ => (fun (u : Unit) => (⟨true, [], [], [⟨0, none⟩, ⟨0, none⟩]⟩)) r_
  npost := fun x_ r_ => (fun x_ => (fun (w0 : WldN) (i0 : Int) => ((fun r_ => (fun (u : Unit) => (w0.ends.any deadN = false)) r_))) x_.1 x_.2) x_ r_
  rk := ⟨[2], [], []⟩
  rst := fun r_ => (fun (u : Unit) => (⟨true, [(2, boo true)], [], [⟨0, none⟩, ⟨0, none⟩]⟩)) r_
  rpost := fun x_ r_ => (fun x_ => (fun (w0 : WldN) (i0 : Int) => ((fun r_ => (fun (u : Unit) => (w0.ends.any deadN = true)) r_))) x_.1 x_.2) x_ r_
def i_spec_WldDead_0 (x : (WldN) × (Int)) (n : Nat) (s : (WldN) × (Int)) : Prop := (fun x_ => (fun (w0 : WldN) (i0 : Int) => ((fun s_ => (fun (w : WldN) (i : Int) => (w = w0 ∧ w.ends.length ≤ LIM ∧ 0 ≤ i ∧ i + n = w.ends.length ∧ (w.ends.take i.toNat).any deadN = false)) s_.1 s_.2))) x_.1 x_.2) x s
def V_spec_WldDead : Env := ⟨tys2, [], [], [(1, 0), (4, 1)], [], [(0, l_spec_WldDead_0.L)], [500020, 500025, 500030], [], []⟩
/-! laws.liOk -/
def c_laws_liOk : Ent := ctr (α := Unit) (ρ := (Bool)) [] [] rs0 (fun x_ => (True)) (fun x_ r_ => (fun x_ => ((fun r_ => (fun (r : Bool) => (r = true)) r_))) x_ r_) (fun r_ => (fun (r : Bool) => ([rB.to r])) r_) (fun r_ => (fun (r : Bool) => ([])) r_)
def V_laws_liOk : Env := ⟨tys2, [(12, c_impl_CfgOk)], [], [], [], [], [], [], []⟩
end Go.Proofs.YtjjcjpmfkbfdfaaE


/- Calls answer what is promised: N12. Conditions: none. -/
set_option linter.unusedVariables false
set_option maxHeartbeats 1600000
namespace Go.Proofs.YtjjcjpmfkbfdfaaE
open Go
def k_7adb25 (s_:(Prod (List EndN) (Prod Int Int))) : KS := (KS.mk true [(Prod.mk 0 (T.v false [(Cm.d (D.r RK.hend s_.fst))])),(Prod.mk 1 (T.fn 11 (none))),(Prod.mk 7 (num IntKind.i64 s_.snd.fst)),(Prod.mk 8 (num IntKind.i64 s_.snd.snd))] [] [])
def k_3dbdd9 (s_:(Prod WldN Int)) : KS := (KS.mk true [(Prod.mk 1 (T.pb 0 1 0)),(Prod.mk 3 (num IntKind.i64 s_.snd))] [] [(Box.mk 1 (some [(mi s_.fst.cfg.mode),(mi s_.fst.cfg.win),(mi s_.fst.cfg.mps),(mi s_.fst.cfg.mtu),(mi s_.fst.cfg.try_),(Cm.d (D.r RK.hend s_.fst.ends)),(Cm.d (D.r RK.hnet s_.fst.net)),(mi s_.fst.link)])),(Box.mk 0 none)])
theorem vF_impl_WldDead_1 (e:EndN) (K:List Arg→List (List AC)→Prop) (hp:True) (hk:∀ (r:Bool),(r=deadN e)→K ([rB.to r]) ([])):if (e.tx.dead=true) then (Tt (K [(aB true)] [])) else (if (e.rx.dead=true) then (Tt (K [(aB true)] [])) else (if (e.ctx.dead=true) then (Tt (K [(aB true)] [])) else (Tt (K [(aB e.crx.dead)] [])))) := by
  repeat' first
    | exact rfl
    | exact True.intro
    | with_reducible apply And.intro
    | (with_reducible intro y_ hy_; subst hy_)
    | with_reducible intro y_
    | (refine iteI (fun h => ?_) (fun h => ?_))
  all_goals try simp only [cq1, cq2, cq3, cq4, cq5, cq6, cq7, cq8, cq9, cq10, cq11, cq12, cq13, cq14, cq15, cq16, cq17, cq18, cq19] at *
  all_goals try simp (disch := first | omega | grind [deadN]) only [wr] at *
  all_goals first
    | assumption
    | omega
    | exact hk _ (by grind [deadN])
    | (simp only [LIM] at *; omega)
    | grind [deadN, LIM]
theorem w_impl_WldDead_1 : Valid Try.prog 11 c_impl_WldDead_1 :=
  valid_ctr2 (V := V_impl_WldDead_1) (tysB_ok tys2_ok) ⟨(CallsL.nil _), (IosL.nil _)⟩ mixed 0 1 Try.func11 rfl (by kernel_rfl)
    (fun c hc => by
      obtain rfl := Option.some.inj hc
      exact ⟨trivial, ⟨trivial, trivial⟩⟩)
    (fun x K hp hk => ⟨_, by kernel_rfl, vF_impl_WldDead_1 x K hp (fun r h => hk r h)⟩)
theorem vF_slices_IndexFunc_impl_WldEnd_impl_WldEnd (l:List EndN) (K:List Arg→List (List AC)→Prop) (hp:l.length≤LIM) (hk:∀ (r:Int),(decide (r ≥ 0)=l.any deadN)→K ([rInt.to r]) ([])):∃ s:(Prod (List EndN) (Prod Int Int)),((KS.mk true [(Prod.mk 0 (T.v false [(Cm.d (D.r RK.hend l))])),(Prod.mk 1 (T.fn 11 (none))),(Prod.mk 7 (num IntKind.i64 ((l.length:Nat):Int))),(Prod.mk 8 (num IntKind.i64 0))] [] [])=(k_7adb25 s))∧(((s.fst.length≤137438953472)∧((s.snd.fst=((s.fst.length:Nat):Int))∧(s.snd.snd=0)))∧((∀ r:Unit,((List.any s.fst deadN)=false)→Tt (K [(aI IntKind.i64 (-1:Int))] []))∧(∀ r:Int,((0≤r)∧((List.any s.fst deadN)=true))→Tt (K [(aI IntKind.i64 r)] [])))) := by
  refine ⟨(l, (l.length : Int), 0), rfl, ⟨hp, rfl, rfl⟩, ?_, ?_⟩
  · intro u h
    exact ⟨by trivial, hk (-1) (by rw [show l.any _ = false from h]; rfl)⟩
  · rintro i ⟨h0, h⟩
    exact ⟨by trivial, hk i (by dsimp only at h h0; rw [h]; simpa using h0)⟩
theorem vL_slices_IndexFunc_impl_WldEnd_impl_WldEnd_0 (l0:List EndN) (m0:Int) (i0:Int) (l:List EndN) (m:Int) (i:Int) (n:Nat) (hp:(fun (l:List EndN) (m:Int) (i:Int) => (l.length≤LIM∧m=l.length∧i=0)) l0 m0 i0) (hi:l=l0∧m=l.length∧l.length≤LIM∧0≤i∧i + n=l.length∧(l.take i.toNat).any deadN=false):if ((decide (i < m))=true) then (((0≤i)∧(i < ((l.length:Nat):Int)))∧(Tt (True∧(∀ r:Bool,(r=(deadN (at_hend l i.toNat)))→Tt (if (r=true) then (∃ r1:Int,((KS.mk true [(Prod.mk 4 (num IntKind.i64 i))] [] [])=(KS.mk true [(Prod.mk 4 (num IntKind.i64 r1))] [] []))∧((0≤r1)∧((List.any l0 deadN)=true))) else (∃ s:(Prod (List EndN) (Prod Int Int)),((KS.mk true [(Prod.mk 0 (T.v false [(Cm.d (D.r RK.hend l))])),(Prod.mk 1 (T.fn 11 (none))),(Prod.mk 7 (num IntKind.i64 m)),(Prod.mk 8 (num IntKind.i64 (IntKind.i64.wrap (i + 1))))] [] [])=(k_7adb25 s))∧(∃ m1:Nat,(m1 < n)∧((s.fst=l0)∧((s.snd.fst=((s.fst.length:Nat):Int))∧((s.fst.length≤137438953472)∧((0≤s.snd.snd)∧(((s.snd.snd + ((m1:Nat):Int))=((s.fst.length:Nat):Int))∧((List.any (List.take s.snd.snd.toNat s.fst) deadN)=false))))))))))))) else (∃ r:Unit,((KS.mk true [] [] [])=(KS.mk true [] [] []))∧((List.any l0 deadN)=false)) := by
  try dsimp only at hp
  obtain ⟨rfl, rfl, h1, h2, h3, h4⟩ := hi
  have hL : l.length ≤ 137438953472 := h1
  obtain ⟨i, rfl⟩ : ∃ k : Nat, i = k := ⟨i.toNat, by omega⟩
  rw [wr (x := (i : Int) + 1) (by omega) (by omega)]
  simp only [Int.toNat_natCast] at h4 ⊢
  refine iteI (fun h => ?_) (fun h => ?_)
  · have hi : i < l.length := by simp at h; omega
    have e : l.take (i + 1) = l.take i ++ [at_hend l i] := take_at .hend l i hi
    repeat' first
      | exact rfl
      | exact True.intro
      | with_reducible apply And.intro
      | (with_reducible intro r hr; subst r)
      | omega
    all_goals first
      | (refine iteI (fun hx => ?_) (fun hx => ?_)
         · exact ⟨(i : Int), rfl, by (try dsimp only); omega, List.any_eq_true.2 ⟨at_hend l i, at_mem .hend l i hi, hx⟩⟩
         · refine ⟨(l, (l.length : Int), (i : Int) + 1), rfl, n - 1, by omega, rfl, rfl, h1, by (try dsimp only); omega, by (try dsimp only); omega, ?_⟩
           show (l.take ((i : Int) + 1).toNat).any deadN = false
           have hx' : deadN (at_hend l i) = false := by simpa using hx
           rw [show ((i : Int) + 1).toNat = i + 1 by omega, e, List.any_append, h4]; simp [hx'])
  · refine ⟨(), by trivial, ?_⟩
    have hi : i = l.length := by simp at h; omega
    subst hi
    rw [List.take_length] at h4
    exact h4
theorem vS_slices_IndexFunc_impl_WldEnd_impl_WldEnd_0 (l0 : List EndN) (m0 : Int) (i0 : Int) (hp : (fun (l : List EndN) (m : Int) (i : Int) => (l.length ≤ LIM ∧ m = l.length ∧ i = 0)) l0 m0 i0) : ∃ n : Nat, (fun (l : List EndN) (m : Int) (i : Int) => (l = l0 ∧ m = l.length ∧ l.length ≤ LIM ∧ 0 ≤ i ∧ i + n = l.length ∧ (l.take i.toNat).any deadN = false)) l0 m0 i0 := by
  try dsimp only at hp
  try dsimp only
  obtain ⟨h1, rfl, rfl⟩ := hp
  exact ⟨l0.length, rfl, rfl, h1, by omega, by omega, rfl⟩
theorem w_slices_IndexFunc_impl_WldEnd_impl_WldEnd : Valid Try.prog 21 c_slices_IndexFunc_impl_WldEnd_impl_WldEnd :=
  valid_ctr2 (V := V_slices_IndexFunc_impl_WldEnd_impl_WldEnd) (tysB_ok tys2_ok) ⟨(CallsL.cons w_impl_WldDead_1 (CallsL.nil _)), (IosL.nil _)⟩ mixed 0 0 Try.func21 rfl (by kernel_rfl)
    (fun c hc => by
      obtain rfl := Option.some.inj hc
      exact ⟨trivial, ⟨⟨trivial, ⟨LoopD.ok2 (V := V_slices_IndexFunc_impl_WldEnd_impl_WldEnd) l_slices_IndexFunc_impl_WldEnd_impl_WldEnd_0 (LoopsM.cons 0 l_slices_IndexFunc_impl_WldEnd_impl_WldEnd_0 LoopsM.nil) 0 _ i_slices_IndexFunc_impl_WldEnd_impl_WldEnd_0 (fun x hx => vS_slices_IndexFunc_impl_WldEnd_impl_WldEnd_0 x.1 x.2.1 x.2.2 hx) (fun x hx n s hi => ⟨_, by kernel_rfl, vL_slices_IndexFunc_impl_WldEnd_impl_WldEnd_0 x.1 x.2.1 x.2.2 s.1 s.2.1 s.2.2 n hx hi⟩), ⟨trivial, ⟨⟨trivial, trivial⟩, ⟨⟨trivial, ⟨trivial, ⟨⟨trivial, trivial⟩, trivial⟩⟩⟩, trivial⟩⟩⟩⟩⟩, ⟨trivial, trivial⟩⟩⟩)
    (fun x K hp hk => ⟨_, by kernel_rfl, vF_slices_IndexFunc_impl_WldEnd_impl_WldEnd x K hp (fun r h => hk r h)⟩)
theorem vF_slices_ContainsFunc_impl_WldEnd_impl_WldEnd (l:List EndN) (K:List Arg→List (List AC)→Prop) (hp:l.length≤LIM) (hk:∀ (r:Bool),(r=l.any deadN)→K ([rB.to r]) ([])):Tt ((l.length≤137438953472)∧(∀ r:Int,((decide (r ≥ (0:Int)))=(List.any l deadN))→Tt (Tt (K [(aB (decide (r ≥ (0:Int))))] [])))) := by
  refine ⟨by trivial, hp, fun r h => ?_⟩
  exact ⟨by trivial, by trivial, hk _ h⟩
theorem w_slices_ContainsFunc_impl_WldEnd_impl_WldEnd : Valid Try.prog 10 c_slices_ContainsFunc_impl_WldEnd_impl_WldEnd :=
  valid_ctr2 (V := V_slices_ContainsFunc_impl_WldEnd_impl_WldEnd) (tysB_ok tys2_ok) ⟨(CallsL.cons w_slices_IndexFunc_impl_WldEnd_impl_WldEnd (CallsL.nil _)), (IosL.nil _)⟩ mixed 0 0 Try.func10 rfl (by kernel_rfl)
    (fun c hc => by
      obtain rfl := Option.some.inj hc
      exact ⟨trivial, ⟨trivial, trivial⟩⟩)
    (fun x K hp hk => ⟨_, by kernel_rfl, vF_slices_ContainsFunc_impl_WldEnd_impl_WldEnd x K hp (fun r h => hk r h)⟩)
theorem vF_impl_WldDead (w:WldN) (K:List Arg→List (List AC)→Prop) (hp:w.ends.length≤LIM) (hk:∀ (r:Bool),(r=w.ends.any deadN)→K ([rB.to r]) ([])):Tt ((w.ends.length≤137438953472)∧(∀ r:Bool,(r=(List.any w.ends deadN))→Tt (Tt (K [(aB r)] [])))) := by
  repeat' first
    | exact rfl
    | exact True.intro
    | with_reducible apply And.intro
    | (with_reducible intro y_ hy_; subst hy_)
    | with_reducible intro y_
    | (refine iteI (fun h => ?_) (fun h => ?_))
  all_goals try simp only [cq1, cq2, cq3, cq4, cq5, cq6, cq7, cq8, cq9, cq10, cq11, cq12, cq13, cq14, cq15, cq16, cq17, cq18, cq19] at *
  all_goals try simp (disch := first | omega | grind []) only [wr] at *
  all_goals first
    | assumption
    | omega
    | exact hk _ (by grind [])
    | (simp only [LIM] at *; omega)
    | grind [LIM]
theorem w_impl_WldDead : Valid Try.prog 5 c_impl_WldDead :=
  valid_ctr2 (V := V_impl_WldDead) (tysB_ok tys2_ok) ⟨(CallsL.cons w_slices_ContainsFunc_impl_WldEnd_impl_WldEnd (CallsL.nil _)), (IosL.nil _)⟩ mixed 0 1 Try.func5 rfl (by kernel_rfl)
    (fun c hc => by
      obtain rfl := Option.some.inj hc
      exact ⟨trivial, ⟨trivial, trivial⟩⟩)
    (fun x K hp hk => ⟨_, by kernel_rfl, vF_impl_WldDead x K hp (fun r h => hk r h)⟩)
theorem vF_spec_WldDead (w:WldN) (K:List Arg→List (List AC)→Prop) (hp:w.ends.length≤LIM) (hk:∀ (r:Bool),(r=w.ends.any deadN)→K ([rB.to r]) ([])):∃ s:(Prod WldN Int),((KS.mk true [(Prod.mk 1 (T.pb 0 1 0)),(Prod.mk 3 (num IntKind.i64 0))] [] [(Box.mk (Min.min 1 1) (some [(mi w.cfg.mode),(mi w.cfg.win),(mi w.cfg.mps),(mi w.cfg.mtu),(mi w.cfg.try_),(Cm.d (D.r RK.hend w.ends)),(Cm.d (D.r RK.hnet w.net)),(mi w.link)])),(Box.mk 0 none)])=(k_3dbdd9 s))∧(((s.fst.ends.length≤137438953472)∧(s.snd=0))∧((∀ r:Unit,((List.any s.fst.ends deadN)=false)→Tt (K [(aB false)] []))∧(∀ r:Unit,((List.any s.fst.ends deadN)=true)→Tt (K [(aB true)] [])))) := by
  refine ⟨(w, 0), rfl, ⟨hp, rfl⟩, ?_, ?_⟩
  · intro u h
    exact ⟨by trivial, hk _ (show _ = w.ends.any deadN from (show w.ends.any deadN = false from h).symm)⟩
  · intro u h
    exact ⟨by trivial, hk _ (show _ = w.ends.any deadN from (show w.ends.any deadN = true from h).symm)⟩
theorem vL_spec_WldDead_0 (w0:WldN) (i0:Int) (w:WldN) (i:Int) (n:Nat) (hp:(fun (w:WldN) (i:Int) => (w.ends.length≤LIM∧i=0)) w0 i0) (hi:w=w0∧w.ends.length≤LIM∧0≤i∧i + n=w.ends.length∧(w.ends.take i.toNat).any deadN=false):if ((decide (i < ((w.ends.length:Nat):Int)))=true) then (((0≤i)∧(i < ((w.ends.length:Nat):Int)))∧(if ((at_hend w.ends i.toNat).tx.dead=true) then (∃ r:Unit,((KS.mk true [(Prod.mk 2 (boo true))] [] [(Box.mk 0 none),(Box.mk 0 none)])=(KS.mk true [(Prod.mk 2 (boo true))] [] [(Box.mk 0 none),(Box.mk 0 none)]))∧((List.any w0.ends deadN)=true)) else (if ((at_hend w.ends i.toNat).rx.dead=true) then (∃ r:Unit,((KS.mk true [(Prod.mk 2 (boo true))] [] [(Box.mk 0 none),(Box.mk 0 none)])=(KS.mk true [(Prod.mk 2 (boo true))] [] [(Box.mk 0 none),(Box.mk 0 none)]))∧((List.any w0.ends deadN)=true)) else (if ((at_hend w.ends i.toNat).ctx.dead=true) then (∃ r:Unit,((KS.mk true [(Prod.mk 2 (boo true))] [] [(Box.mk 0 none),(Box.mk 0 none)])=(KS.mk true [(Prod.mk 2 (boo true))] [] [(Box.mk 0 none),(Box.mk 0 none)]))∧((List.any w0.ends deadN)=true)) else (if ((at_hend w.ends i.toNat).crx.dead=true) then (∃ r:Unit,((KS.mk true [(Prod.mk 2 (boo true))] [] [(Box.mk 0 none),(Box.mk 0 none)])=(KS.mk true [(Prod.mk 2 (boo true))] [] [(Box.mk 0 none),(Box.mk 0 none)]))∧((List.any w0.ends deadN)=true)) else (∃ s:(Prod WldN Int),((KS.mk true [(Prod.mk 1 (T.pb 0 1 0)),(Prod.mk 3 (num IntKind.i64 (IntKind.i64.wrap (i + 1))))] [] [(Box.mk (Min.min 1 1) (some [(mi w.cfg.mode),(mi w.cfg.win),(mi w.cfg.mps),(mi w.cfg.mtu),(mi w.cfg.try_),(Cm.d (D.r RK.hend w.ends)),(Cm.d (D.r RK.hnet w.net)),(mi w.link)])),(Box.mk 0 none)])=(k_3dbdd9 s))∧(∃ m:Nat,(m < n)∧((s.fst=w0)∧((s.fst.ends.length≤137438953472)∧((0≤s.snd)∧(((s.snd + ((m:Nat):Int))=((s.fst.ends.length:Nat):Int))∧((List.any (List.take s.snd.toNat s.fst.ends) deadN)=false)))))))))))) else (∃ r:Unit,((KS.mk true [] [] [(Box.mk 0 none),(Box.mk 0 none)])=(KS.mk true [] [] [(Box.mk 0 none),(Box.mk 0 none)]))∧((List.any w0.ends deadN)=false)) := by
  try dsimp only at hp
  obtain ⟨rfl, h1, h2, h3, h4⟩ := hi
  have hL : w.ends.length ≤ 137438953472 := h1
  obtain ⟨i, rfl⟩ : ∃ k : Nat, i = k := ⟨i.toNat, by omega⟩
  rw [wr (x := (i : Int) + 1) (by omega) (by omega)]
  simp only [Int.toNat_natCast] at h4 ⊢
  refine iteI (fun h => ?_) (fun h => ?_)
  · have hi : i < w.ends.length := by simp at h; omega
    have e : w.ends.take (i + 1) = w.ends.take i ++ [at_hend w.ends i] := take_at .hend w.ends i hi
    repeat' first
      | exact rfl
      | exact True.intro
      | with_reducible apply And.intro
      | omega
      | refine iteI (fun hx => ?_) (fun hx => ?_)
    all_goals first
      | exact ⟨(), by trivial, List.any_eq_true.2 ⟨at_hend w.ends i, at_mem .hend w.ends i hi, show deadN (at_hend w.ends i) = true by simp_all [deadN]⟩⟩
      | (refine ⟨(w, (i : Int) + 1), rfl, n - 1, by omega, rfl, h1, by (try dsimp only); omega, by (try dsimp only); omega, ?_⟩
         show (w.ends.take ((i : Int) + 1).toNat).any deadN = false
         have hx' : deadN (at_hend w.ends i) = false := by simp_all [deadN]
         rw [show ((i : Int) + 1).toNat = i + 1 by omega, e, List.any_append, h4]; simp [hx'])
  · refine ⟨(), by trivial, ?_⟩
    have hi : i = w.ends.length := by simp at h; omega
    subst hi
    rw [List.take_length] at h4
    exact h4
theorem vS_spec_WldDead_0 (w0 : WldN) (i0 : Int) (hp : (fun (w : WldN) (i : Int) => (w.ends.length ≤ LIM ∧ i = 0)) w0 i0) : ∃ n : Nat, (fun (w : WldN) (i : Int) => (w = w0 ∧ w.ends.length ≤ LIM ∧ 0 ≤ i ∧ i + n = w.ends.length ∧ (w.ends.take i.toNat).any deadN = false)) w0 i0 := by
  try dsimp only at hp
  try dsimp only
  obtain ⟨h1, rfl⟩ := hp
  exact ⟨w0.ends.length, rfl, h1, by omega, by omega, rfl⟩
theorem w_spec_WldDead : Valid Try.prog 6 c_spec_WldDead :=
  valid_ctr2 (V := V_spec_WldDead) (tysB_ok tys2_ok) ⟨(CallsL.nil _), (IosL.nil _)⟩ mixed 0 2 Try.func6 rfl (by kernel_rfl)
    (fun c hc => by
      obtain rfl := Option.some.inj hc
      exact ⟨trivial, ⟨⟨trivial, ⟨LoopD.ok2 (V := V_spec_WldDead) l_spec_WldDead_0 (LoopsM.cons 0 l_spec_WldDead_0 LoopsM.nil) 0 _ i_spec_WldDead_0 (fun x hx => vS_spec_WldDead_0 x.1 x.2 hx) (fun x hx n s hi => ⟨_, by kernel_rfl, vL_spec_WldDead_0 x.1 x.2 s.1 s.2 n hx hi⟩), ⟨⟨trivial, ⟨trivial, trivial⟩⟩, ⟨⟨trivial, ⟨trivial, ⟨⟨trivial, trivial⟩, trivial⟩⟩⟩, trivial⟩⟩⟩⟩, ⟨trivial, trivial⟩⟩⟩)
    (fun x K hp hk => ⟨_, by kernel_rfl, vF_spec_WldDead x K hp (fun r h => hk r h)⟩)
theorem vF_laws_liOk (K:List Arg→List (List AC)→Prop) (hp:True) (hk:∀ (r:Bool),(r=true)→K ([rB.to r]) ([])):Tt (True∧(∀ r:Bool,(r=true)→Tt (Tt (K [(aB r)] [])))) := by
  exact ⟨by trivial, trivial, fun r hr => ⟨by trivial, by trivial, hk r hr⟩⟩
theorem w_laws_liOk : Valid Try.prog 7 c_laws_liOk :=
  valid_ctr2 (V := V_laws_liOk) (tysB_ok tys2_ok) ⟨(CallsL.cons w_impl_CfgOk (CallsL.nil _)), (IosL.nil _)⟩ mixed 0 0 Try.func7 rfl (by kernel_rfl)
    (fun c hc => by
      obtain rfl := Option.some.inj hc
      exact ⟨trivial, ⟨trivial, trivial⟩⟩)
    (fun x K hp hk => ⟨_, by kernel_rfl, vF_laws_liOk  K hp (fun r h => hk r h)⟩)
end Go.Proofs.YtjjcjpmfkbfdfaaE
