/- A part of the proof of laws of the program: what calls of the program answer. Conditions: none. -/
import Derived.Test.YtdahhphhblbfdaaM86bb23f2
set_option linter.unusedVariables false
set_option linter.unusedSimpArgs false
set_option linter.unusedSectionVars false
/- Contracts: XS. Conditions: none. -/
set_option linter.unusedVariables false
set_option maxHeartbeats 1600000
namespace Go.Proofs.YtdahhphhblbfdaaE
open Go
/-- Marks: how many a list takes; the list, numbered on from k; the first i numbered. -/
def cntG {α : Type} (c : α → Nat) : List α → Int
  | [] => 0
  | x :: l => c x + cntG c l
def markG {α : Type} (m : α → Int → α) (c : α → Nat) : List α → Int → List α
  | [], _ => []
  | x :: l, k => m x k :: markG m c l (k + c x)
def mkToG {α : Type} (m : α → Int → α) (c : α → Nat) (l : List α) (k : Int) (i : Nat) : List α := markG m c (l.take i) k ++ l.drop i
section
variable {α : Type} {m : α → Int → α} {c : α → Nat} {z : α}
theorem cntG_nonneg : ∀ l : List α, 0 ≤ cntG c l
  | [] => Int.le_refl 0
  | x :: l => by
    have := cntG_nonneg l
    show 0 ≤ (c x : Int) + cntG c l
    omega
theorem cntG_app : ∀ l l' : List α, cntG c (l ++ l') = cntG c l + cntG c l'
  | [], l' => by show cntG c l' = 0 + cntG c l'; omega
  | x :: l, l' => by
    have := cntG_app l l'
    show (c x : Int) + cntG c (l ++ l') = (c x : Int) + cntG c l + cntG c l'
    omega
theorem markG_len : ∀ (l : List α) (k : Int), (markG m c l k).length = l.length
  | [], _ => rfl
  | x :: l, k => congrArg Nat.succ (markG_len l _)
theorem markG_idem (hm : ∀ x k, m (m x k) k = m x k) (hc : ∀ x k, c (m x k) = c x) : ∀ (l : List α) (k : Int), markG m c (markG m c l k) k = markG m c l k
  | [], _ => rfl
  | x :: l, k => by
    have ih := markG_idem hm hc l (k + c x)
    show m (m x k) k :: markG m c (markG m c l (k + c x)) (k + c (m x k)) = m x k :: markG m c l (k + c x)
    rw [hm, hc, ih]
theorem cntG_mark (hc : ∀ x k, c (m x k) = c x) : ∀ (l : List α) (k : Int), cntG c (markG m c l k) = cntG c l
  | [], _ => rfl
  | x :: l, k => by
    have ih := cntG_mark hc l (k + c x)
    show (c (m x k) : Int) + cntG c (markG m c l (k + c x)) = (c x : Int) + cntG c l
    rw [hc, ih]
theorem markG_mem (P : α → Prop) (hP : ∀ x k, P x → P (m x k)) : ∀ (l : List α) (k : Int), (∀ x ∈ l, P x) → ∀ x ∈ markG m c l k, P x
  | [], _, _, x, hx => by cases hx
  | y :: l, k, h, x, hx => by
    rcases List.mem_cons.1 hx with rfl | hx
    · exact hP y k (h y List.mem_cons_self)
    · exact markG_mem P hP l _ (fun x hx => h x (List.mem_cons_of_mem _ hx)) x hx
theorem mkToG_zero (l : List α) (k : Int) : mkToG m c l k 0 = l := by unfold mkToG; rw [List.take_zero, List.drop_zero]; rfl
theorem mkToG_all (l : List α) (k : Int) : mkToG m c l k l.length = markG m c l k := by unfold mkToG; rw [List.take_length, List.drop_length, List.append_nil]
theorem mkToG_len (l : List α) (k : Int) (i : Nat) : (mkToG m c l k i).length = l.length := by
  unfold mkToG
  rw [List.length_append, markG_len, List.length_take, List.length_drop]; omega
theorem mkToG_at : ∀ (l : List α) (k : Int) (i : Nat), i < l.length → (mkToG m c l k i).getD i z = l.getD i z
  | [], _, _, h => by simp at h
  | a :: l, k, 0, h => by rw [mkToG_zero]
  | a :: l, k, i + 1, h => mkToG_at l (k + c a) i (by simpa using h)
theorem mkToG_step : ∀ (l : List α) (k : Int) (i : Nat), i < l.length → (mkToG m c l k i).set i (m (l.getD i z) (k + cntG c (l.take i))) = mkToG m c l k (i + 1)
  | [], _, _, h => by simp at h
  | a :: l, k, 0, h => by
    rw [mkToG_zero]
    show m a (k + 0) :: l = m a k :: (markG m c (l.take 0) (k + c a) ++ l.drop 0)
    rw [List.take_zero, List.drop_zero, Int.add_zero]; rfl
  | a :: l, k, i + 1, h => by
    have ih := mkToG_step l (k + c a) i (by simpa using h)
    show m a k :: (mkToG m c l (k + c a) i).set i (m (l.getD i z) (k + ((c a : Int) + cntG c (l.take i)))) = m a k :: mkToG m c l (k + c a) (i + 1)
    rw [← ih, show k + ((c a : Int) + cntG c (l.take i)) = k + (c a : Int) + cntG c (l.take i) by omega]
theorem cntG_take_succ : ∀ (l : List α) (i : Nat), i < l.length → cntG c (l.take (i + 1)) = cntG c (l.take i) + c (l.getD i z)
  | [], _, h => by simp at h
  | a :: l, 0, h => by
    show (c a : Int) + cntG c (l.take 0) = 0 + (c a : Int)
    rw [List.take_zero]; show (c a : Int) + 0 = _; omega
  | a :: l, i + 1, h => by
    have ih := cntG_take_succ l i (by simpa using h)
    show (c a : Int) + cntG c (l.take (i + 1)) = (c a : Int) + cntG c (l.take i) + (c (l.getD i z) : Int)
    omega
theorem cntG_take_le (l : List α) (i : Nat) : cntG c (l.take i) ≤ cntG c l := by
  have h := cntG_app (c := c) (l.take i) (l.drop i)
  rw [List.take_append_drop] at h
  have := cntG_nonneg (c := c) (l.drop i)
  omega
theorem markG_at : ∀ (l : List α) (k : Int) (i : Nat), i < l.length → (markG m c l k).getD i z = m (l.getD i z) (k + cntG c (l.take i))
  | [], _, _, h => by simp at h
  | a :: l, k, 0, h => by
    show m a k = m a (k + 0)
    rw [Int.add_zero]
  | a :: l, k, i + 1, h => by
    have ih := markG_at l (k + c a) i (by simpa using h)
    show (markG m c l (k + c a)).getD i z = m (l.getD i z) (k + ((c a : Int) + cntG c (l.take i)))
    rw [ih, show k + ((c a : Int) + cntG c (l.take i)) = k + (c a : Int) + cntG c (l.take i) by omega]
theorem getD_set_same (l : List α) (i : Nat) (x : α) (h : i < l.length) : (l.set i x).getD i z = x := by
  rw [List.getD_eq_getElem?_getD, List.getElem?_set_self h]; rfl
theorem set_take_g {o : List α} {i : Nat} {x : α} (h : i < o.length) : (o.set i x).take (i + 1) = o.take i ++ [x] := by
  rw [List.take_add_one, List.take_set, List.getElem?_set_self h, List.set_eq_of_length_le (by rw [List.length_take]; omega)]
  rfl
end

/-- Rows of bytes, numbered. -/
abbrev cntB (l : List (List Int)) : Int := cntG List.length l
abbrev markBB (l : List (List Int)) (k : Int) : List (List Int) := markG markB List.length l k
abbrev mkToBB (l : List (List Int)) (k : Int) (i : Nat) : List (List Int) := mkToG markB List.length l k i
theorem markBB_idem (l : List (List Int)) (k : Int) : markBB (markBB l k) k = markBB l k := markG_idem markB_idem markB_len l k
theorem mkBB_self {l x : List (List Int)} {k : Int} (h : l = markBB x k) : l = markBB l k := by rw [h, markBB_idem]
structure MarkBB (a : List (List Int)) (k : Int) (o : List (List Int)) : Prop where
  self : o = markBB o k
  dat : ∀ x ∈ o, x.length ≤ 1048576
theorem MarkBB.of {a o : List (List Int)} {k : Int} (ha : ∀ p ∈ a, p.length ≤ 1048576) (h : o = markBB a k) : o.length = a.length ∧ cntB o = cntB a ∧ MarkBB a k o := by
  subst h
  exact ⟨markG_len a k, cntG_mark markB_len a k, (markBB_idem a k).symm, markG_mem (fun x => x.length ≤ 1048576) (fun x k h => by rw [markB_len]; exact h) a k ha⟩
theorem MarkBB.to {a o : List (List Int)} {k k' : Int} (h : MarkBB a k o) (hk : k' = k) : o = markBB o k' := by rw [hk]; exact h.self
theorem MarkBB.le {y : List Int} {a o : List (List Int)} {k : Int} (hy : List.Mem y o) (h : MarkBB a k o) : y.length ≤ 1048576 := h.dat y hy

/-! laws.eqByteSS -/
def c_laws_eqByteSS : Ent := ctr (α := (List (List Int)) × (List (List Int))) (ρ := (Bool)) [] [] (rs (rR .byr) (rs1 (rR .byr))) (fun x_ => (fun (a : List (List Int)) (b : List (List Int)) => (a.length ≤ LIM ∧ ∀ y ∈ a, y.length ≤ LIM)) x_.1 x_.2) (fun x_ r_ => (fun x_ => (fun (a : List (List Int)) (b : List (List Int)) => ((fun r_ => (fun (r : Bool) => (r = decide (a = b))) r_))) x_.1 x_.2) x_ r_) (fun r_ => (fun (r : Bool) => ([rB.to r])) r_) (fun r_ => (fun (r : Bool) => ([])) r_)
def l_laws_eqByteSS_0 : LoopD ((List (List Int)) × (List (List Int)) × (Int)) ((Unit)) ((Unit)) where
  n := 27
  head := ⟨[0, 1, 5], [], []⟩
  st := fun x_ => (fun (a : List (List Int)) (b : List (List Int)) (i : Int) => (⟨true, [(0, .v false [.d (.r .byr a)]), (1, .v false [.d (.r .byr b)]), (5, num .i64 i)], [], []⟩)) x_.1 x_.2.1 x_.2.2
  pre := fun x_ => (fun (a : List (List Int)) (b : List (List Int)) (i : Int) => (a.length = b.length ∧ i = 0 ∧ a.length ≤ LIM ∧ ∀ y ∈ a, y.length ≤ LIM)) x_.1 x_.2.1 x_.2.2
  nk := ⟨[], [], []⟩
  nst := fun r_ => (fun (u : Unit) => (⟨true, [], [], []⟩)) r_
  npost := fun x_ r_ => (fun x_ => (fun (a0 : List (List Int)) (b0 : List (List Int)) (i0 : Int) => ((fun r_ => (fun (u : Unit) => (a0 = b0)) r_))) x_.1 x_.2.1 x_.2.2) x_ r_
  rk := ⟨[4], [], []⟩
  rst := fun r_ => (fun (u : Unit) => (⟨true, [(4, boo false)], [], []⟩)) r_
  rpost := fun x_ r_ => (fun x_ => (fun (a0 : List (List Int)) (b0 : List (List Int)) (i0 : Int) => ((fun r_ => (fun (u : Unit) => (a0 ≠ b0)) r_))) x_.1 x_.2.1 x_.2.2) x_ r_
def i_laws_eqByteSS_0 (x : (List (List Int)) × (List (List Int)) × (Int)) (n : Nat) (s : (List (List Int)) × (List (List Int)) × (Int)) : Prop := (fun x_ => (fun (a0 : List (List Int)) (b0 : List (List Int)) (i0 : Int) => ((fun s_ => (fun (a : List (List Int)) (b : List (List Int)) (i : Int) => (a = a0 ∧ b = b0 ∧ a.length = b.length ∧ a.length ≤ LIM ∧ (∀ y ∈ a, y.length ≤ LIM) ∧ 0 ≤ i ∧ i + n = a.length ∧ a.take i.toNat = b.take i.toNat)) s_.1 s_.2.1 s_.2.2))) x_.1 x_.2.1 x_.2.2) x s
def V_laws_eqByteSS : Env := ⟨tys, [(29, c_laws_eqByteS)], [], [], [], [(0, l_laws_eqByteSS_0.L)], [], [], [(6, [(0, false), (1, false), (2, false), (3, false), (4, false), (5, false), (6, false), (7, false), (8, true), (9, false)])]⟩
/-! laws.markByteSS -/
def c_laws_markByteSS : EntI := ctrI (α := (List (List Int)) × (Int)) (ρ := (Int) × (List (List Int))) [(0, 0)] (rs (rOd 22 .byr) (rs1 rInt)) (fun x_ => (fun (a : List (List Int)) (k : Int) => ((a.length ≤ 1048576 ∧ ∀ x ∈ a, x.length ≤ 1048576) ∧ 0 ≤ k ∧ k + cntB a ≤ 1099511627776)) x_.1 x_.2) (fun x_ r_ => (fun x_ => (fun (a : List (List Int)) (k : Int) => ((fun r_ => (fun (r : Int) (o : List (List Int)) => (r = k + cntB a ∧ o = markBB a k ∧ o.length = a.length ∧ cntB o = cntB a ∧ MarkBB a k o)) r_.1 r_.2))) x_.1 x_.2) x_ r_) (fun r_ => (fun (r : Int) (o : List (List Int)) => ([rInt.to r])) r_.1 r_.2) (fun r_ => (fun (r : Int) (o : List (List Int)) => ([⟨22, .byr, o, mD o.length⟩])) r_.1 r_.2)
def l_laws_markByteSS_0 : LoopD ((List (List Int)) × (Int) × (List (List Int)) × (Nat) × (Int) × (Int)) ((List (List Int)) × (Int) × (Nat)) ((Empty)) where
  n := 19
  head := ⟨[0, 1, 5], [], [0]⟩
  st := fun x_ => (fun (l : List (List Int)) (s : Int) (o : List (List Int)) (q : Nat) (k : Int) (i : Int) => (⟨true, [(0, .v false [.ref 0 0]), (1, num .i64 k), (5, num .i64 i)], [⟨0, some ⟨22, .byr, o, ⟨some q, true, 0, false⟩⟩⟩], []⟩)) x_.1 x_.2.1 x_.2.2.1 x_.2.2.2.1 x_.2.2.2.2.1 x_.2.2.2.2.2
  pre := fun x_ => (fun (l : List (List Int)) (s : Int) (o : List (List Int)) (q : Nat) (k : Int) (i : Int) => (o = l ∧ s = k ∧ i = 0 ∧ q = l.length ∧ (l.length ≤ 1048576 ∧ ∀ x ∈ l, x.length ≤ 1048576) ∧ 0 ≤ k ∧ k + cntB l ≤ 1099511627776)) x_.1 x_.2.1 x_.2.2.1 x_.2.2.2.1 x_.2.2.2.2.1 x_.2.2.2.2.2
  nk := ⟨[1], [], [0]⟩
  nst := fun r_ => (fun (l : List (List Int)) (s : Int) (q : Nat) => (⟨true, [(1, num .i64 (s + cntB l))], [⟨0, some ⟨22, .byr, markBB l s, ⟨some q, true, 0, false⟩⟩⟩], []⟩)) r_.1 r_.2.1 r_.2.2
  npost := fun x_ r_ => (fun x_ => (fun (l0 : List (List Int)) (s0 : Int) (o0 : List (List Int)) (q0 : Nat) (k0 : Int) (i0 : Int) => ((fun r_ => (fun (l : List (List Int)) (s : Int) (q : Nat) => (l = l0 ∧ s = s0 ∧ q = (markBB l s).length)) r_.1 r_.2.1 r_.2.2))) x_.1 x_.2.1 x_.2.2.1 x_.2.2.2.1 x_.2.2.2.2.1 x_.2.2.2.2.2) x_ r_
  rk := ⟨[], [], []⟩
  rst := fun _ => ⟨true, [], [], []⟩
  rpost := fun _ _ => False
def i_laws_markByteSS_0 (x : (List (List Int)) × (Int) × (List (List Int)) × (Nat) × (Int) × (Int)) (n : Nat) (s : (List (List Int)) × (Int) × (List (List Int)) × (Nat) × (Int) × (Int)) : Prop := (fun x_ => (fun (l0 : List (List Int)) (s0 : Int) (o0 : List (List Int)) (q0 : Nat) (k0 : Int) (i0 : Int) => ((fun s_ => (fun (l : List (List Int)) (s : Int) (o : List (List Int)) (q : Nat) (k : Int) (i : Int) => (l = l0 ∧ s = s0 ∧ o = mkToBB l s i.toNat ∧ q = l.length ∧ k = s + cntB (l.take i.toNat) ∧ 0 ≤ i ∧ i + n = l.length)) s_.1 s_.2.1 s_.2.2.1 s_.2.2.2.1 s_.2.2.2.2.1 s_.2.2.2.2.2))) x_.1 x_.2.1 x_.2.2.1 x_.2.2.2.1 x_.2.2.2.2.1 x_.2.2.2.2.2) x s
def V_laws_markByteSS : Env := ⟨tys, [], [], [], [], [(0, l_laws_markByteSS_0.L)], [], [(30, c_laws_markByteS)], []⟩
/-! laws.heldByteSS -/
def c_laws_heldByteSS : Ent := ctr (α := (List (List Int)) × (Int)) (ρ := (Int)) [] [] (rs (rR .byr) (rs1 rInt)) (fun x_ => (fun (a : List (List Int)) (k : Int) => ((a.length ≤ 1048576 ∧ ∀ x ∈ a, x.length ≤ 1048576) ∧ 0 ≤ k ∧ k + cntB a ≤ 1099511627776 ∧ a = markBB a k)) x_.1 x_.2) (fun x_ r_ => (fun x_ => (fun (a : List (List Int)) (k : Int) => ((fun r_ => (fun (r : Int) => (r = k + cntB a)) r_))) x_.1 x_.2) x_ r_) (fun r_ => (fun (r : Int) => ([rInt.to r])) r_) (fun r_ => (fun (r : Int) => ([])) r_)
def l_laws_heldByteSS_0 : LoopD ((List (List Int)) × (Int) × (Int)) ((Int)) ((Empty)) where
  n := 21
  head := ⟨[0, 1, 5], [], []⟩
  st := fun x_ => (fun (a : List (List Int)) (k : Int) (i : Int) => (⟨true, [(0, .v false [.d (.r .byr a)]), (1, num .i64 k), (5, num .i64 i)], [], []⟩)) x_.1 x_.2.1 x_.2.2
  pre := fun x_ => (fun (a : List (List Int)) (k : Int) (i : Int) => (i = 0 ∧ (a.length ≤ 1048576 ∧ ∀ x ∈ a, x.length ≤ 1048576) ∧ 0 ≤ k ∧ k + cntB a ≤ 1099511627776 ∧ a = markBB a k)) x_.1 x_.2.1 x_.2.2
  nk := ⟨[1], [], []⟩
  nst := fun r_ => (fun (r : Int) => (⟨true, [(1, num .i64 r)], [], []⟩)) r_
  npost := fun x_ r_ => (fun x_ => (fun (a0 : List (List Int)) (k0 : Int) (i0 : Int) => ((fun r_ => (fun (r : Int) => (r = k0 + cntB a0)) r_))) x_.1 x_.2.1 x_.2.2) x_ r_
  rk := ⟨[], [], []⟩
  rst := fun _ => ⟨true, [], [], []⟩
  rpost := fun _ _ => False
def i_laws_heldByteSS_0 (x : (List (List Int)) × (Int) × (Int)) (n : Nat) (s : (List (List Int)) × (Int) × (Int)) : Prop := (fun x_ => (fun (a0 : List (List Int)) (k0 : Int) (i0 : Int) => ((fun s_ => (fun (a : List (List Int)) (k : Int) (i : Int) => (a = a0 ∧ k = k0 + cntB (a.take i.toNat) ∧ 0 ≤ i ∧ i + n = a.length)) s_.1 s_.2.1 s_.2.2))) x_.1 x_.2.1 x_.2.2) x s
def V_laws_heldByteSS : Env := ⟨tys, [(49, c_laws_heldByteS)], [], [], [], [(0, l_laws_heldByteSS_0.L)], [], [], []⟩
end Go.Proofs.YtdahhphhblbfdaaE

/- Calls answer what is promised: XS. Conditions: none. -/
set_option linter.unusedVariables false
set_option maxHeartbeats 1600000
namespace Go.Proofs.YtdahhphhblbfdaaE
open Go
theorem vF_laws_eqByteSS (a:List (List Int)) (b:List (List Int)) (K:List Arg→List (List AC)→Prop) (hp:a.length≤LIM∧∀ y ∈ a,y.length≤LIM) (hk:∀ (r:Bool),(r=decide (a=b))→K ([rB.to r]) ([])):if (((((List.length a):Nat):Int) != (((List.length b):Nat):Int))=true) then ((true=true)∧(K [(aB false)] [])) else (∃ s:(Prod (List (List Int)) (Prod (List (List Int)) Int)),((KS.mk true [(Prod.mk (0:Nat) (T.v false [(Cm.d (D.r RK.byr a))])),(Prod.mk (1:Nat) (T.v false [(Cm.d (D.r RK.byr b))])),(Prod.mk (5:Nat) (num IntKind.i64 (0:Int)))] [] [])=(KS.mk true [(Prod.mk (0:Nat) (T.v false [(Cm.d (D.r RK.byr s.fst))])),(Prod.mk (1:Nat) (T.v false [(Cm.d (D.r RK.byr s.snd.fst))])),(Prod.mk (5:Nat) (num IntKind.i64 s.snd.snd))] [] []))∧((((List.length s.fst)=(List.length s.snd.fst))∧((s.snd.snd=(0:Int))∧(((List.length s.fst)≤(137438953472:Nat))∧(∀ y:(List Int),(List.Mem y s.fst)→((List.length y)≤(137438953472:Nat))))))∧((∀ r:Unit,(s.fst=s.snd.fst)→(true=true)∧(K [(aB true)] []))∧(∀ r:Unit,(s.fst ≠ s.snd.fst)→(true=true)∧(K [(aB false)] []))))) := by
  refine iteI (fun h => ?_) (fun h => ?_)
  · refine ⟨by trivial, hk false ?_⟩
    symm; rw [decide_eq_false_iff_not]; rintro rfl; simp at h
  · have h1 : a.length = b.length := by simp at h; omega
    refine ⟨(a, b, 0), rfl, ⟨h1, rfl, hp.1, hp.2⟩, fun _ hr => ⟨by trivial, hk true (by simp; exact hr)⟩, fun _ hr => ⟨by trivial, hk false (by simp; exact hr)⟩⟩
theorem vL_laws_eqByteSS_0 (a0:List (List Int)) (b0:List (List Int)) (i0:Int) (a:List (List Int)) (b:List (List Int)) (i:Int) (n:Nat) (hp:(fun (a:List (List Int)) (b:List (List Int)) (i:Int) => (a.length=b.length∧i=0∧a.length≤LIM∧∀ y ∈ a,y.length≤LIM)) a0 b0 i0) (hi:a=a0∧b=b0∧a.length=b.length∧a.length≤LIM∧(∀ y ∈ a,y.length≤LIM)∧0≤i∧i + n=a.length∧a.take i.toNat=b.take i.toNat):if ((decide (i < (((List.length a):Nat):Int)))=true) then ((((0:Int)≤i)∧(i < (((List.length a):Nat):Int)))∧((((0:Int)≤i)∧(i < (((List.length b):Nat):Int)))∧((true=true)∧((((List.length (at_byr a (Int.toNat i)))≤(137438953472:Nat))∧True)∧(∀ r:Bool,(r=(decide ((at_byr a (Int.toNat i))=(at_byr b (Int.toNat i)))))→(true=true)∧((true=true)∧(if ((!r)=true) then (∃ r1:Unit,((KS.mk true [(Prod.mk (4:Nat) (boo false))] [] [])=(KS.mk true [(Prod.mk (4:Nat) (boo false))] [] []))∧(a0 ≠ b0)) else (∃ s:(Prod (List (List Int)) (Prod (List (List Int)) Int)),((KS.mk true [(Prod.mk (0:Nat) (T.v false [(Cm.d (D.r RK.byr a))])),(Prod.mk (1:Nat) (T.v false [(Cm.d (D.r RK.byr b))])),(Prod.mk (5:Nat) (num IntKind.i64 (IntKind.wrap IntKind.i64 (i + (1:Int)))))] [] [])=(KS.mk true [(Prod.mk (0:Nat) (T.v false [(Cm.d (D.r RK.byr s.fst))])),(Prod.mk (1:Nat) (T.v false [(Cm.d (D.r RK.byr s.snd.fst))])),(Prod.mk (5:Nat) (num IntKind.i64 s.snd.snd))] [] []))∧(∃ m:Nat,(m < n)∧((s.fst=a0)∧((s.snd.fst=b0)∧(((List.length s.fst)=(List.length s.snd.fst))∧(((List.length s.fst)≤(137438953472:Nat))∧((∀ y:(List Int),(List.Mem y s.fst)→((List.length y)≤(137438953472:Nat)))∧(((0:Int)≤s.snd.snd)∧(((s.snd.snd + ((m:Nat):Int))=(((List.length s.fst):Nat):Int))∧((List.take (Int.toNat s.snd.snd) s.fst)=(List.take (Int.toNat s.snd.snd) s.snd.fst)))))))))))))))))) else (∃ r:Unit,((KS.mk true [] [] [])=(KS.mk true [] [] []))∧(a0=b0)) := by
  try dsimp only at hp
  obtain ⟨rfl, rfl, h1, h2, hw, h3, h4, h5⟩ := hi
  have hL : a.length ≤ 137438953472 := h2
  obtain ⟨i, rfl⟩ : ∃ m : Nat, i = m := ⟨i.toNat, by omega⟩
  rw [wr (x := (i : Int) + 1) (by omega) (by omega)]
  simp only [Int.toNat_natCast] at h5 ⊢
  refine iteI (fun h => ?_) (fun h => ?_)
  · have hi : i < a.length := by simp at h; omega
    refine ⟨⟨by omega, by omega⟩, ⟨by omega, by omega⟩, by trivial, ?_⟩
    have ea : a.take (i + 1) = a.take i ++ [at_byr a i] := take_at .byr a i hi
    have eb : b.take (i + 1) = b.take i ++ [at_byr b i] := take_at .byr b i (show i < b.length by omega)
    refine ⟨⟨hw _ (at_mem .byr a i hi), trivial⟩, fun r hr => ?_⟩
    subst hr
    repeat refine ⟨by trivial, ?_⟩
    refine iteI (fun hx => ?_) (fun hx => ?_)
    · refine ⟨(), by trivial, fun he => ?_⟩
      simp [he] at hx
    · refine ⟨(a, b, (i : Int) + 1), rfl, n - 1, by omega, rfl, rfl, h1, h2, hw, by dsimp only; omega, by dsimp only; omega, ?_⟩
      dsimp only
      rw [show ((i : Int) + 1).toNat = i + 1 by omega, ea, eb, h5]
      simp at hx
      exact congrArg (fun z => List.take i b ++ [z]) hx
  · have hi : i = a.length := by simp at h; omega
    subst hi
    refine ⟨(), by trivial, ?_⟩
    rw [List.take_length, h1, List.take_length] at h5
    exact h5
theorem vS_laws_eqByteSS_0 (a0 : List (List Int)) (b0 : List (List Int)) (i0 : Int) (hp : (fun (a : List (List Int)) (b : List (List Int)) (i : Int) => (a.length = b.length ∧ i = 0 ∧ a.length ≤ LIM ∧ ∀ y ∈ a, y.length ≤ LIM)) a0 b0 i0) : ∃ n : Nat, (fun (a : List (List Int)) (b : List (List Int)) (i : Int) => (a = a0 ∧ b = b0 ∧ a.length = b.length ∧ a.length ≤ LIM ∧ (∀ y ∈ a, y.length ≤ LIM) ∧ 0 ≤ i ∧ i + n = a.length ∧ a.take i.toNat = b.take i.toNat)) a0 b0 i0 := by
  try dsimp only at hp
  try dsimp only
  obtain ⟨h1, h2, h3, hw⟩ := hp
  exact ⟨a0.length, rfl, rfl, h1, h3, hw, by omega, by omega, by subst h2; simp⟩
theorem w_laws_eqByteSS : Valid Try.prog 37 c_laws_eqByteSS :=
  valid_ctr2 (V := V_laws_eqByteSS) (tysB_ok tys_ok) ⟨(CallsL.cons w_laws_eqByteS (CallsL.nil _)), (IosL.nil _)⟩ mixed 0 0 Try.func37 rfl (by kernel_rfl)
    (fun c hc => by
      obtain rfl := Option.some.inj hc
      exact ⟨trivial, ⟨⟨trivial, ⟨⟨trivial, trivial⟩, trivial⟩⟩, ⟨⟨trivial, ⟨LoopD.ok2 (V := V_laws_eqByteSS) l_laws_eqByteSS_0 (LoopsM.cons 0 l_laws_eqByteSS_0 LoopsM.nil) 0 _ i_laws_eqByteSS_0 (fun x hx => vS_laws_eqByteSS_0 x.1 x.2.1 x.2.2 hx) (fun x hx n s hi => ⟨_, by kernel_rfl, vL_laws_eqByteSS_0 x.1 x.2.1 x.2.2 s.1 s.2.1 s.2.2 n hx hi⟩), ⟨⟨trivial, ⟨trivial, trivial⟩⟩, ⟨⟨trivial, ⟨⟨trivial, trivial⟩, trivial⟩⟩, trivial⟩⟩⟩⟩, ⟨trivial, trivial⟩⟩⟩⟩)
    (fun x K hp hk => ⟨_, by kernel_rfl, vF_laws_eqByteSS x.1 x.2 K hp (fun r h => hk r h)⟩)
theorem vF_laws_markByteSS (a:List (List Int)) (k:Int) (K:List Arg→List RC→Prop) (hp:(a.length≤1048576∧∀ x ∈ a,x.length≤1048576)∧0≤k∧k + cntB a≤1099511627776) (hk:∀ (r:Int) (o:List (List Int)),(r=k + cntB a∧o=markBB a k∧o.length=a.length∧cntB o=cntB a∧MarkBB a k o)→K ([rInt.to r]) ([⟨22,.byr,o,mD o.length⟩])):∃ s:(Prod (List (List Int)) (Prod Int (Prod (List (List Int)) (Prod Nat (Prod Int Int))))),((KS.mk true [(Prod.mk (0:Nat) (T.v false [(Cm.ref (0:Nat) (0:Nat))])),(Prod.mk (1:Nat) (num IntKind.i64 k)),(Prod.mk (5:Nat) (num IntKind.i64 (0:Int)))] [(Row.mk (0:Nat) (Option.some (RC.mk (22:Nat) RK.byr a (RM.mk (Option.some (List.length a)) true (0:Nat) false))))] [])=(KS.mk true [(Prod.mk (0:Nat) (T.v false [(Cm.ref (0:Nat) (0:Nat))])),(Prod.mk (1:Nat) (num IntKind.i64 s.snd.snd.snd.snd.fst)),(Prod.mk (5:Nat) (num IntKind.i64 s.snd.snd.snd.snd.snd))] [(Row.mk (0:Nat) (Option.some (RC.mk (22:Nat) RK.byr s.snd.snd.fst (RM.mk (Option.some s.snd.snd.snd.fst) true (0:Nat) false))))] []))∧(((s.snd.snd.fst=s.fst)∧((s.snd.fst=s.snd.snd.snd.snd.fst)∧((s.snd.snd.snd.snd.snd=(0:Int))∧((s.snd.snd.snd.fst=(List.length s.fst))∧((((List.length s.fst)≤(1048576:Nat))∧(∀ x:(List Int),(List.Mem x s.fst)→((List.length x)≤(1048576:Nat))))∧(((0:Int)≤s.snd.snd.snd.snd.fst)∧((s.snd.snd.snd.snd.fst + (cntB s.fst))≤(1099511627776:Int))))))))∧((∀ r:(Prod (List (List Int)) (Prod Int Nat)),((r.fst=s.fst)∧((r.snd.fst=s.snd.fst)∧(r.snd.snd=(List.length (markBB r.fst r.snd.fst)))))→(K [(aI IntKind.i64 (r.snd.fst + (cntB r.fst)))] [(RC.mk (22:Nat) RK.byr (markBB r.fst r.snd.fst) (RM.mk (dpM false (Option.some r.snd.snd)) false (0:Nat) false))]))∧(∀ r:Empty,False→False))) := by
  obtain ⟨⟨h1, h4⟩, h2, h3⟩ := hp
  exact ⟨(a, k, a, a.length, k, 0), rfl, ⟨rfl, rfl, rfl, rfl, ⟨h1, h4⟩, h2, h3⟩, fun r hr => by
    obtain ⟨a1, k1, q1⟩ := r
    obtain ⟨e1, e2, e3⟩ := hr
    dsimp only at e1 e2 e3
    subst e1
    subst e2
    subst e3
    exact hk _ _ ⟨rfl, rfl, MarkBB.of h4 rfl⟩, fun r h => h⟩
theorem vL_laws_markByteSS_0 (l0:List (List Int)) (s0:Int) (o0:List (List Int)) (q0:Nat) (k0:Int) (i0:Int) (l:List (List Int)) (s:Int) (o:List (List Int)) (q:Nat) (k:Int) (i:Int) (n:Nat) (hp:(fun (l:List (List Int)) (s:Int) (o:List (List Int)) (q:Nat) (k:Int) (i:Int) => (o=l∧s=k∧i=0∧q=l.length∧(l.length≤1048576∧∀ x ∈ l,x.length≤1048576)∧0≤k∧k + cntB l≤1099511627776)) l0 s0 o0 q0 k0 i0) (hi:l=l0∧s=s0∧o=mkToBB l s i.toNat∧q=l.length∧k=s + cntB (l.take i.toNat)∧0≤i∧i + n=l.length):if ((decide (i < (((List.length o):Nat):Int)))=true) then ((((0:Int)≤i)∧(i < (((List.length o):Nat):Int)))∧(((Int.toNat i) < q)∧((true=true)∧((((List.length (at_byr o (Int.toNat i)))≤(137438953472:Nat))∧(((0:Int)≤k)∧(k≤(1099511627776:Int))))∧(∀ r:(Prod Int (List Int)),((r.fst=(k + (((List.length (at_byr o (Int.toNat i))):Nat):Int)))∧((r.snd=(markB (at_byr o (Int.toNat i)) k))∧(((List.length r.snd)=(List.length (at_byr o (Int.toNat i))))∧(MarkB (at_byr o (Int.toNat i)) k r.snd))))→(true=true)∧(∃ s1:(Prod (List (List Int)) (Prod Int (Prod (List (List Int)) (Prod Nat (Prod Int Int))))),((KS.mk true [(Prod.mk (0:Nat) (T.v false [(Cm.ref (0:Nat) (0:Nat))])),(Prod.mk (1:Nat) (num IntKind.i64 r.fst)),(Prod.mk (5:Nat) (num IntKind.i64 (IntKind.wrap IntKind.i64 (i + (1:Int)))))] [(Row.mk (0:Nat) (Option.some (RC.mk (22:Nat) RK.byr (List.set o (Int.toNat i) r.snd) (RM.mk (Option.some q) true (0:Nat) false))))] [])=(KS.mk true [(Prod.mk (0:Nat) (T.v false [(Cm.ref (0:Nat) (0:Nat))])),(Prod.mk (1:Nat) (num IntKind.i64 s1.snd.snd.snd.snd.fst)),(Prod.mk (5:Nat) (num IntKind.i64 s1.snd.snd.snd.snd.snd))] [(Row.mk (0:Nat) (Option.some (RC.mk (22:Nat) RK.byr s1.snd.snd.fst (RM.mk (Option.some s1.snd.snd.snd.fst) true (0:Nat) false))))] []))∧(∃ m:Nat,(m < n)∧((s1.fst=l0)∧((s1.snd.fst=s0)∧((s1.snd.snd.fst=(mkToBB s1.fst s1.snd.fst (Int.toNat s1.snd.snd.snd.snd.snd)))∧((s1.snd.snd.snd.fst=(List.length s1.fst))∧((s1.snd.snd.snd.snd.fst=(s1.snd.fst + (cntB (List.take (Int.toNat s1.snd.snd.snd.snd.snd) s1.fst))))∧(((0:Int)≤s1.snd.snd.snd.snd.snd)∧((s1.snd.snd.snd.snd.snd + ((m:Nat):Int))=(((List.length s1.fst):Nat):Int))))))))))))))) else (∃ r:(Prod (List (List Int)) (Prod Int Nat)),((KS.mk true [(Prod.mk (1:Nat) (num IntKind.i64 k))] [(Row.mk (0:Nat) (Option.some (RC.mk (22:Nat) RK.byr o (RM.mk (Option.some q) true (0:Nat) false))))] [])=(KS.mk true [(Prod.mk (1:Nat) (num IntKind.i64 (r.snd.fst + (cntB r.fst))))] [(Row.mk (0:Nat) (Option.some (RC.mk (22:Nat) RK.byr (markBB r.fst r.snd.fst) (RM.mk (Option.some r.snd.snd) true (0:Nat) false))))] []))∧((r.fst=l0)∧((r.snd.fst=s0)∧(r.snd.snd=(List.length (markBB r.fst r.snd.fst)))))) := by
  try dsimp only at hp
  obtain ⟨_, _, _, _, ⟨p1, p2⟩, p3, p4⟩ := hp
  obtain ⟨rfl, rfl, rfl, rfl, rfl, h2, h3⟩ := hi
  obtain ⟨i, rfl⟩ : ∃ q : Nat, i = q := ⟨i.toNat, by omega⟩
  simp only [Int.toNat_natCast]
  have hlen : (mkToBB l s i).length = l.length := mkToG_len l s i
  have hc1 : cntB (l.take i) ≤ cntB l := cntG_take_le l i
  have hc0 : 0 ≤ cntB (l.take i) := cntG_nonneg (l.take i)
  have hs : 0 ≤ s := by omega
  have hs4 : s + cntB l ≤ 1099511627776 := by omega
  cases n with
  | zero =>
    rw [if_neg (by simp; omega)]
    have hi : i = l.length := by omega
    subst hi
    have e : mkToBB l s l.length = markBB l s := mkToG_all l s
    rw [e, List.take_length]
    exact ⟨(l, s, l.length), rfl, rfl, rfl, (markG_len l s).symm⟩
  | succ n =>
    have hi : i < l.length := by omega
    have hi2 : i < (mkToBB l s i).length := by omega
    have hm : at_byr (mkToBB l s i) i = at_byr l i := mkToG_at (z := []) l s i hi
    have hd : (at_byr l i).length ≤ 1048576 := p2 _ (at_mem .byr l i hi)
    have hcs : cntB (l.take (i + 1)) = cntB (l.take i) + (at_byr l i).length := cntG_take_succ (z := []) l i hi
    have hc2 : cntB (l.take (i + 1)) ≤ cntB l := cntG_take_le l (i + 1)
    rw [wr (x := (i : Int) + 1) (by omega) (by omega)]
    rw [if_pos (by simp; omega)]
    simp only [hm]
    refine ⟨⟨by omega, by omega⟩, hi, by trivial, ⟨by omega, by omega, by omega⟩, fun r hr => ⟨by trivial, ?_⟩⟩
    obtain ⟨r1, r2⟩ := r
    obtain ⟨e1, e2, _⟩ := hr
    dsimp only at e1 e2 ⊢
    subst e1
    subst e2
    refine ⟨(l, s, _, l.length, _, (i : Int) + 1), rfl, n, by omega, rfl, rfl, ?_, rfl, ?_, by dsimp only; omega, by dsimp only; omega⟩
    · show List.set (mkToBB l s i) i (markB (at_byr l i) (s + cntB (l.take i))) = mkToBB l s ((i : Int) + 1).toNat
      rw [show ((i : Int) + 1).toNat = i + 1 by omega]
      exact mkToG_step (z := []) l s i hi
    · show s + cntB (l.take i) + ((at_byr l i).length : Int) = s + cntB (l.take ((i : Int) + 1).toNat)
      rw [show ((i : Int) + 1).toNat = i + 1 by omega, hcs]
      omega
theorem vS_laws_markByteSS_0 (l0 : List (List Int)) (s0 : Int) (o0 : List (List Int)) (q0 : Nat) (k0 : Int) (i0 : Int) (hp : (fun (l : List (List Int)) (s : Int) (o : List (List Int)) (q : Nat) (k : Int) (i : Int) => (o = l ∧ s = k ∧ i = 0 ∧ q = l.length ∧ (l.length ≤ 1048576 ∧ ∀ x ∈ l, x.length ≤ 1048576) ∧ 0 ≤ k ∧ k + cntB l ≤ 1099511627776)) l0 s0 o0 q0 k0 i0) : ∃ n : Nat, (fun (l : List (List Int)) (s : Int) (o : List (List Int)) (q : Nat) (k : Int) (i : Int) => (l = l0 ∧ s = s0 ∧ o = mkToBB l s i.toNat ∧ q = l.length ∧ k = s + cntB (l.take i.toNat) ∧ 0 ≤ i ∧ i + n = l.length)) l0 s0 o0 q0 k0 i0 := by
  try dsimp only at hp
  try dsimp only
  obtain ⟨rfl, rfl, rfl, rfl, h1, h2, h3⟩ := hp
  exact ⟨o0.length, rfl, rfl, (mkToG_zero _ _).symm, rfl, by (show s0 = s0 + cntB (o0.take 0); rw [List.take_zero]; show s0 = s0 + 0; omega), by omega, by omega⟩
theorem w_laws_markByteSS : ValidI Try.prog 38 c_laws_markByteSS :=
  valid_ctrI (V := V_laws_markByteSS) (tysB_ok tys_ok) ⟨(CallsL.nil _), (IosL.cons w_laws_markByteS (IosL.nil _))⟩ mixed 0 0 Try.func38 rfl (by kernel_rfl)
    (fun c hc => by
      obtain rfl := Option.some.inj hc
      exact ⟨trivial, ⟨⟨trivial, ⟨LoopD.ok2 (V := V_laws_markByteSS) l_laws_markByteSS_0 (LoopsM.cons 0 l_laws_markByteSS_0 LoopsM.nil) 0 _ i_laws_markByteSS_0 (fun x hx => vS_laws_markByteSS_0 x.1 x.2.1 x.2.2.1 x.2.2.2.1 x.2.2.2.2.1 x.2.2.2.2.2 hx) (fun x hx n s hi => ⟨_, by kernel_rfl, vL_laws_markByteSS_0 x.1 x.2.1 x.2.2.1 x.2.2.2.1 x.2.2.2.2.1 x.2.2.2.2.2 s.1 s.2.1 s.2.2.1 s.2.2.2.1 s.2.2.2.2.1 s.2.2.2.2.2 n hx hi⟩), ⟨⟨trivial, ⟨trivial, trivial⟩⟩, ⟨trivial, trivial⟩⟩⟩⟩, ⟨trivial, trivial⟩⟩⟩)
    (fun x K hp hk => ⟨_, by kernel_rfl, vF_laws_markByteSS x.1 x.2 K hp (fun r o h => hk (r, o) h)⟩)
theorem vF_laws_heldByteSS (a:List (List Int)) (k:Int) (K:List Arg→List (List AC)→Prop) (hp:(a.length≤1048576∧∀ x ∈ a,x.length≤1048576)∧0≤k∧k + cntB a≤1099511627776∧a=markBB a k) (hk:∀ (r:Int),(r=k + cntB a)→K ([rInt.to r]) ([])):∃ s:(Prod (List (List Int)) (Prod Int Int)),((KS.mk true [(Prod.mk (0:Nat) (T.v false [(Cm.d (D.r RK.byr a))])),(Prod.mk (1:Nat) (num IntKind.i64 k)),(Prod.mk (5:Nat) (num IntKind.i64 (0:Int)))] [] [])=(KS.mk true [(Prod.mk (0:Nat) (T.v false [(Cm.d (D.r RK.byr s.fst))])),(Prod.mk (1:Nat) (num IntKind.i64 s.snd.fst)),(Prod.mk (5:Nat) (num IntKind.i64 s.snd.snd))] [] []))∧(((s.snd.snd=(0:Int))∧((((List.length s.fst)≤(1048576:Nat))∧(∀ x:(List Int),(List.Mem x s.fst)→((List.length x)≤(1048576:Nat))))∧(((0:Int)≤s.snd.fst)∧(((s.snd.fst + (cntB s.fst))≤(1099511627776:Int))∧(s.fst=(markBB s.fst s.snd.fst))))))∧((∀ r:Int,(r=(s.snd.fst + (cntB s.fst)))→(true=true)∧(K [(aI IntKind.i64 r)] []))∧(∀ r:Empty,False→False))) := by
  obtain ⟨⟨h1, h4⟩, h2, h3, h5⟩ := hp
  exact ⟨(a, k, 0), rfl, ⟨rfl, ⟨h1, h4⟩, h2, h3, h5⟩, fun r hr => ⟨rfl, hk r hr⟩, fun r h => h⟩
theorem vL_laws_heldByteSS_0 (a0:List (List Int)) (k0:Int) (i0:Int) (a:List (List Int)) (k:Int) (i:Int) (n:Nat) (hp:(fun (a:List (List Int)) (k:Int) (i:Int) => (i=0∧(a.length≤1048576∧∀ x ∈ a,x.length≤1048576)∧0≤k∧k + cntB a≤1099511627776∧a=markBB a k)) a0 k0 i0) (hi:a=a0∧k=k0 + cntB (a.take i.toNat)∧0≤i∧i + n=a.length):if ((decide (i < (((List.length a):Nat):Int)))=true) then ((((0:Int)≤i)∧(i < (((List.length a):Nat):Int)))∧((true=true)∧((((List.length (at_byr a (Int.toNat i)))≤(137438953472:Nat))∧(((0:Int)≤k)∧((k≤(1099511627776:Int))∧((at_byr a (Int.toNat i))=(markB (at_byr a (Int.toNat i)) k)))))∧(∀ r:Int,(r=(k + (((List.length (at_byr a (Int.toNat i))):Nat):Int)))→(true=true)∧(if ((decide (r < (0:Int)))=true) then (∃ r1:Empty,((KS.mk true [] [] [])=(KS.mk true [] [] []))∧False) else (∃ s:(Prod (List (List Int)) (Prod Int Int)),((KS.mk true [(Prod.mk (0:Nat) (T.v false [(Cm.d (D.r RK.byr a))])),(Prod.mk (1:Nat) (num IntKind.i64 r)),(Prod.mk (5:Nat) (num IntKind.i64 (IntKind.wrap IntKind.i64 (i + (1:Int)))))] [] [])=(KS.mk true [(Prod.mk (0:Nat) (T.v false [(Cm.d (D.r RK.byr s.fst))])),(Prod.mk (1:Nat) (num IntKind.i64 s.snd.fst)),(Prod.mk (5:Nat) (num IntKind.i64 s.snd.snd))] [] []))∧(∃ m:Nat,(m < n)∧((s.fst=a0)∧((s.snd.fst=(k0 + (cntB (List.take (Int.toNat s.snd.snd) s.fst))))∧(((0:Int)≤s.snd.snd)∧((s.snd.snd + ((m:Nat):Int))=(((List.length s.fst):Nat):Int)))))))))))) else (∃ r:Int,((KS.mk true [(Prod.mk (1:Nat) (num IntKind.i64 k))] [] [])=(KS.mk true [(Prod.mk (1:Nat) (num IntKind.i64 r))] [] []))∧(r=(k0 + (cntB a0)))) := by
  try dsimp only at hp
  obtain ⟨_, ⟨p1, p2⟩, p3, p4, p5⟩ := hp
  obtain ⟨rfl, rfl, h2, h3⟩ := hi
  obtain ⟨i, rfl⟩ : ∃ q : Nat, i = q := ⟨i.toNat, by omega⟩
  simp only [Int.toNat_natCast]
  have hc1 : cntB (a.take i) ≤ cntB a := cntG_take_le a i
  have hc0 : 0 ≤ cntB (a.take i) := cntG_nonneg (a.take i)
  rw [wr (x := (i : Int) + 1) (by omega) (by omega)]
  cases n with
  | zero =>
    rw [if_neg (by simp; omega)]
    have hi : i = a.length := by omega
    subst hi
    rw [List.take_length]
    exact ⟨_, rfl, rfl⟩
  | succ n =>
    have hi : i < a.length := by omega
    have hd : (at_byr a i).length ≤ 1048576 := p2 _ (at_mem .byr a i hi)
    have hcs : cntB (a.take (i + 1)) = cntB (a.take i) + (at_byr a i).length := cntG_take_succ (z := []) a i hi
    have hc2 : cntB (a.take (i + 1)) ≤ cntB a := cntG_take_le a (i + 1)
    have hx : at_byr a i = markB (at_byr a i) (k0 + cntB (a.take i)) := by
      have h9 : at_byr (markBB a k0) i = markB (at_byr a i) (k0 + cntB (a.take i)) := markG_at (z := []) a k0 i hi
      rwa [← p5] at h9
    rw [if_pos (by simp; omega)]
    refine ⟨⟨by omega, by omega⟩, by trivial, ⟨by omega, by omega, by omega, hx⟩, fun r hr => ⟨by trivial, ?_⟩⟩
    subst hr
    rw [if_neg (by simp; omega)]
    refine ⟨(a, _, (i : Int) + 1), rfl, n, by omega, rfl, ?_, by dsimp only; omega, by dsimp only; omega⟩
    show k0 + cntB (a.take i) + ((at_byr a i).length : Int) = k0 + cntB (a.take ((i : Int) + 1).toNat)
    rw [show ((i : Int) + 1).toNat = i + 1 by omega, hcs]
    omega
theorem vS_laws_heldByteSS_0 (a0 : List (List Int)) (k0 : Int) (i0 : Int) (hp : (fun (a : List (List Int)) (k : Int) (i : Int) => (i = 0 ∧ (a.length ≤ 1048576 ∧ ∀ x ∈ a, x.length ≤ 1048576) ∧ 0 ≤ k ∧ k + cntB a ≤ 1099511627776 ∧ a = markBB a k)) a0 k0 i0) : ∃ n : Nat, (fun (a : List (List Int)) (k : Int) (i : Int) => (a = a0 ∧ k = k0 + cntB (a.take i.toNat) ∧ 0 ≤ i ∧ i + n = a.length)) a0 k0 i0 := by
  try dsimp only at hp
  try dsimp only
  obtain ⟨rfl, h1, h2, h3, h4⟩ := hp
  exact ⟨a0.length, rfl, by (show k0 = k0 + cntB (a0.take 0); rw [List.take_zero]; show k0 = k0 + 0; omega), by omega, by omega⟩
theorem w_laws_heldByteSS : Valid Try.prog 39 c_laws_heldByteSS :=
  valid_ctr2 (V := V_laws_heldByteSS) (tysB_ok tys_ok) ⟨(CallsL.cons w_laws_heldByteS (CallsL.nil _)), (IosL.nil _)⟩ mixed 0 0 Try.func39 rfl (by kernel_rfl)
    (fun c hc => by
      obtain rfl := Option.some.inj hc
      exact ⟨trivial, ⟨⟨trivial, ⟨LoopD.ok2 (V := V_laws_heldByteSS) l_laws_heldByteSS_0 (LoopsM.cons 0 l_laws_heldByteSS_0 LoopsM.nil) 0 _ i_laws_heldByteSS_0 (fun x hx => vS_laws_heldByteSS_0 x.1 x.2.1 x.2.2 hx) (fun x hx n s hi => ⟨_, by kernel_rfl, vL_laws_heldByteSS_0 x.1 x.2.1 x.2.2 s.1 s.2.1 s.2.2 n hx hi⟩), ⟨⟨trivial, ⟨trivial, trivial⟩⟩, ⟨⟨trivial, ⟨trivial, ⟨⟨trivial, trivial⟩, trivial⟩⟩⟩, trivial⟩⟩⟩⟩, ⟨trivial, trivial⟩⟩⟩)
    (fun x K hp hk => ⟨_, by kernel_rfl, vF_laws_heldByteSS x.1 x.2 K hp (fun r h => hk r h)⟩)
end Go.Proofs.YtdahhphhblbfdaaE
