/- A part of the proof of laws of the program: what calls of the program answer. Conditions: none. -/
import Derived.Test.YtkencmgcibbfaaaM6241f4d9
set_option linter.unusedVariables false
set_option linter.unusedSimpArgs false
set_option linter.unusedSectionVars false
/- Contracts: X1. Conditions: none. -/
set_option linter.unusedVariables false
set_option maxHeartbeats 1600000
namespace Go.Proofs.YtkencmgcibbfaaaE
open Go
/-- Bytes, numbered on from k. -/
def markB : List Int → Int → List Int
  | [], _ => []
  | _ :: l, k => IntKind.wrap .u8 k :: markB l (k + 1)
theorem markB_len : ∀ (l : List Int) (k : Int), (markB l k).length = l.length
  | [], _ => rfl
  | _ :: l, k => congrArg Nat.succ (markB_len l (k + 1))
theorem markB_idem : ∀ (l : List Int) (k : Int), markB (markB l k) k = markB l k
  | [], _ => rfl
  | _ :: l, k => congrArg (IntKind.wrap .u8 k :: ·) (markB_idem l (k + 1))
theorem wr8_rng (x : Int) : 0 ≤ IntKind.wrap .u8 x ∧ IntKind.wrap .u8 x ≤ 255 := by rw [wr8m]; omega
theorem markB_bytes : ∀ (l : List Int) (k : Int), Bytes (markB l k)
  | [], _ => .nil
  | _ :: l, k => .cons (wr8_rng k).1 (wr8_rng k).2 (markB_bytes l (k + 1))
/-- The first i are numbered. -/
def mkTo (l : List Int) (k : Int) (i : Nat) : List Int := markB (l.take i) k ++ l.drop i
theorem mkTo_zero (l : List Int) (k : Int) : mkTo l k 0 = l := by unfold mkTo; rw [List.take_zero, List.drop_zero]; rfl
theorem mkTo_all (l : List Int) (k : Int) : mkTo l k l.length = markB l k := by unfold mkTo; rw [List.take_length, List.drop_length, List.append_nil]
theorem mkTo_len (l : List Int) (k : Int) (i : Nat) : (mkTo l k i).length = l.length := by
  unfold mkTo
  rw [List.length_append, markB_len, List.length_take, List.length_drop]; omega
theorem mkTo_step : ∀ (l : List Int) (k : Int) (i : Nat), i < l.length → (mkTo l k i).set i (IntKind.wrap .u8 (k + i)) = mkTo l k (i + 1)
  | [], _, _, h => by simp at h
  | a :: l, k, 0, h => by
    rw [mkTo_zero]
    show IntKind.wrap .u8 (k + ((0 : Nat) : Int)) :: l = IntKind.wrap .u8 k :: (markB (l.take 0) (k + 1) ++ l.drop 0)
    rw [List.take_zero, List.drop_zero, Int.natCast_zero, Int.add_zero]; rfl
  | a :: l, k, i + 1, h => by
    have ih := mkTo_step l (k + 1) i (by simpa using h)
    show IntKind.wrap .u8 k :: (mkTo l (k + 1) i).set i (IntKind.wrap .u8 (k + ((i + 1 : Nat) : Int))) = IntKind.wrap .u8 k :: mkTo l (k + 1) (i + 1)
    rw [← ih, show k + ((i + 1 : Nat) : Int) = k + 1 + (i : Int) by omega]
theorem markB_at : ∀ (l : List Int) (k : Int) (i : Nat), i < l.length → at_u8 (markB l k) i = IntKind.wrap .u8 (k + i)
  | [], _, _, h => by simp at h
  | a :: l, k, 0, h => by
    show IntKind.wrap .u8 k = _
    rw [Int.natCast_zero, Int.add_zero]
  | a :: l, k, i + 1, h => by
    have ih := markB_at l (k + 1) i (by simpa using h)
    show at_u8 (markB l (k + 1)) i = _
    rw [ih, show k + ((i + 1 : Nat) : Int) = k + 1 + (i : Int) by omega]
structure MarkB (a : List Int) (k : Int) (o : List Int) : Prop where
  self : o = markB o k
theorem MarkB.of {a o : List Int} {k : Int} (h : o = markB a k) : MarkB a k o := ⟨by rw [h, markB_idem]⟩
theorem MarkB.to {a o : List Int} {k k' : Int} (h : MarkB a k o) (hk : k' = k) : o = markB o k' := by rw [hk]; exact h.self
theorem set_take {o : List Int} {i : Nat} {x : Int} (h : i < o.length) : (o.set i x).take (i + 1) = o.take i ++ [x] := by
  rw [List.take_add_one, List.take_set, List.getElem?_set_self h, List.set_eq_of_length_le (by rw [List.length_take]; omega)]
  rfl

/-! laws.eqByteS -/
def c_laws_eqByteS : Ent := ctr (α := (List Int) × (List Int)) (ρ := (Bool)) [] [] (rs (rR .u8) (rs1 (rR .u8))) (fun x_ => (fun (a : List Int) (b : List Int) => (a.length ≤ LIM ∧ True)) x_.1 x_.2) (fun x_ r_ => (fun x_ => (fun (a : List Int) (b : List Int) => ((fun r_ => (fun (r : Bool) => (r = decide (a = b))) r_))) x_.1 x_.2) x_ r_) (fun r_ => (fun (r : Bool) => ([rB.to r])) r_) (fun r_ => (fun (r : Bool) => ([])) r_)
def l_laws_eqByteS_0 : LoopD ((List Int) × (List Int) × (Int)) ((Unit)) ((Unit)) where
  n := 26
  head := ⟨[0, 1, 5], [], []⟩
  st := fun x_ => (fun (a : List Int) (b : List Int) (i : Int) => (⟨true, [(0, .v false [.d (.r .u8 a)]), (1, .v false [.d (.r .u8 b)]), (5, num .i64 i)], [], []⟩)) x_.1 x_.2.1 x_.2.2
  pre := fun x_ => (fun (a : List Int) (b : List Int) (i : Int) => (a.length = b.length ∧ i = 0 ∧ a.length ≤ LIM ∧ True)) x_.1 x_.2.1 x_.2.2
  nk := ⟨[], [], []⟩
  nst := fun r_ => (fun (u : Unit) => (⟨true, [], [], []⟩)) r_
  npost := fun x_ r_ => (fun x_ => (fun (a0 : List Int) (b0 : List Int) (i0 : Int) => ((fun r_ => (fun (u : Unit) => (a0 = b0)) r_))) x_.1 x_.2.1 x_.2.2) x_ r_
  rk := ⟨[4], [], []⟩
  rst := fun r_ => (fun (u : Unit) => (⟨true, [(4, boo false)], [], []⟩)) r_
  rpost := fun x_ r_ => (fun x_ => (fun (a0 : List Int) (b0 : List Int) (i0 : Int) => ((fun r_ => (fun (u : Unit) => (a0 ≠ b0)) r_))) x_.1 x_.2.1 x_.2.2) x_ r_
def i_laws_eqByteS_0 (x : (List Int) × (List Int) × (Int)) (n : Nat) (s : (List Int) × (List Int) × (Int)) : Prop := (fun x_ => (fun (a0 : List Int) (b0 : List Int) (i0 : Int) => ((fun s_ => (fun (a : List Int) (b : List Int) (i : Int) => (a = a0 ∧ b = b0 ∧ a.length = b.length ∧ a.length ≤ LIM ∧ (True) ∧ 0 ≤ i ∧ i + n = a.length ∧ a.take i.toNat = b.take i.toNat)) s_.1 s_.2.1 s_.2.2))) x_.1 x_.2.1 x_.2.2) x s
def V_laws_eqByteS : Env := ⟨tys, [], [], [], [], [(0, l_laws_eqByteS_0.L)], [], [], [(6, [(0, false), (1, false), (2, false), (3, false), (4, false), (5, false), (6, false), (7, false), (8, false)])]⟩
/-! laws.markByteS -/
def c_laws_markByteS : EntI := ctrI (α := (List Int) × (Int)) (ρ := (Int) × (List Int)) [(0, 0)] (rs (rO 5 .u8) (rs1 rInt)) (fun x_ => (fun (a : List Int) (k : Int) => (a.length ≤ LIM ∧ 0 ≤ k ∧ k ≤ 1099511627776)) x_.1 x_.2) (fun x_ r_ => (fun x_ => (fun (a : List Int) (k : Int) => ((fun r_ => (fun (r : Int) (o : List Int) => (r = k + a.length ∧ o = markB a k ∧ o.length = a.length ∧ MarkB a k o)) r_.1 r_.2))) x_.1 x_.2) x_ r_) (fun r_ => (fun (r : Int) (o : List Int) => ([rInt.to r])) r_.1 r_.2) (fun r_ => (fun (r : Int) (o : List Int) => ([⟨5, .u8, o, m0⟩])) r_.1 r_.2)
def l_laws_markByteS_0 : LoopD ((List Int) × (Int) × (List Int) × (Int) × (Int)) ((List Int) × (Int)) ((Empty)) where
  n := 20
  head := ⟨[0, 1, 5], [], [0]⟩
  st := fun x_ => (fun (l : List Int) (s : Int) (o : List Int) (k : Int) (i : Int) => (⟨true, [(0, .v false [.ref 0 0]), (1, num .i64 k), (5, num .i64 i)], [⟨0, some ⟨5, .u8, o, ⟨none, true, 0, false⟩⟩⟩], []⟩)) x_.1 x_.2.1 x_.2.2.1 x_.2.2.2.1 x_.2.2.2.2
  pre := fun x_ => (fun (l : List Int) (s : Int) (o : List Int) (k : Int) (i : Int) => (o = l ∧ s = k ∧ i = 0 ∧ l.length ≤ LIM ∧ 0 ≤ k ∧ k ≤ 1099511627776)) x_.1 x_.2.1 x_.2.2.1 x_.2.2.2.1 x_.2.2.2.2
  nk := ⟨[1], [], [0]⟩
  nst := fun r_ => (fun (l : List Int) (s : Int) => (⟨true, [(1, num .i64 (s + l.length))], [⟨0, some ⟨5, .u8, markB l s, ⟨none, true, 0, false⟩⟩⟩], []⟩)) r_.1 r_.2
  npost := fun x_ r_ => (fun x_ => (fun (l0 : List Int) (s0 : Int) (o0 : List Int) (k0 : Int) (i0 : Int) => ((fun r_ => (fun (l : List Int) (s : Int) => (l = l0 ∧ s = s0)) r_.1 r_.2))) x_.1 x_.2.1 x_.2.2.1 x_.2.2.2.1 x_.2.2.2.2) x_ r_
  rk := ⟨[], [], []⟩
  rst := fun _ => ⟨true, [], [], []⟩
  rpost := fun _ _ => False
def i_laws_markByteS_0 (x : (List Int) × (Int) × (List Int) × (Int) × (Int)) (n : Nat) (s : (List Int) × (Int) × (List Int) × (Int) × (Int)) : Prop := (fun x_ => (fun (l0 : List Int) (s0 : Int) (o0 : List Int) (k0 : Int) (i0 : Int) => ((fun s_ => (fun (l : List Int) (s : Int) (o : List Int) (k : Int) (i : Int) => (l = l0 ∧ s = s0 ∧ o = mkTo l s i.toNat ∧ k = s + i ∧ 0 ≤ i ∧ i + n = l.length ∧ l.length ≤ LIM ∧ 0 ≤ s ∧ s ≤ 1099511627776)) s_.1 s_.2.1 s_.2.2.1 s_.2.2.2.1 s_.2.2.2.2))) x_.1 x_.2.1 x_.2.2.1 x_.2.2.2.1 x_.2.2.2.2) x s
def V_laws_markByteS : Env := ⟨tys, [], [], [], [], [(0, l_laws_markByteS_0.L)], [], [], []⟩
/-! laws.heldByteS -/
def c_laws_heldByteS : Ent := ctr (α := (List Int) × (Int)) (ρ := (Int)) [] [] (rs rBytes (rs1 rInt)) (fun x_ => (fun (a : List Int) (k : Int) => (a.length ≤ LIM ∧ 0 ≤ k ∧ k ≤ 1099511627776 ∧ a = markB a k)) x_.1 x_.2) (fun x_ r_ => (fun x_ => (fun (a : List Int) (k : Int) => ((fun r_ => (fun (r : Int) => (r = k + a.length)) r_))) x_.1 x_.2) x_ r_) (fun r_ => (fun (r : Int) => ([rInt.to r])) r_) (fun r_ => (fun (r : Int) => ([])) r_)
def l_laws_heldByteS_0 : LoopD ((List Int) × (Int) × (Int)) ((Int)) ((Empty)) where
  n := 22
  head := ⟨[0, 1, 5], [], []⟩
  st := fun x_ => (fun (a : List Int) (k : Int) (i : Int) => (⟨true, [(0, .v false [.d (.r .u8 a)]), (1, num .i64 k), (5, num .i64 i)], [], []⟩)) x_.1 x_.2.1 x_.2.2
  pre := fun x_ => (fun (a : List Int) (k : Int) (i : Int) => (i = 0 ∧ a.length ≤ LIM ∧ 0 ≤ k ∧ k ≤ 1099511627776 ∧ a = markB a k)) x_.1 x_.2.1 x_.2.2
  nk := ⟨[1], [], []⟩
  nst := fun r_ => (fun (r : Int) => (⟨true, [(1, num .i64 r)], [], []⟩)) r_
  npost := fun x_ r_ => (fun x_ => (fun (a0 : List Int) (k0 : Int) (i0 : Int) => ((fun r_ => (fun (r : Int) => (r = k0 + a0.length)) r_))) x_.1 x_.2.1 x_.2.2) x_ r_
  rk := ⟨[], [], []⟩
  rst := fun _ => ⟨true, [], [], []⟩
  rpost := fun _ _ => False
def i_laws_heldByteS_0 (x : (List Int) × (Int) × (Int)) (n : Nat) (s : (List Int) × (Int) × (Int)) : Prop := (fun x_ => (fun (a0 : List Int) (k0 : Int) (i0 : Int) => ((fun s_ => (fun (a : List Int) (k : Int) (i : Int) => (a = a0 ∧ k = k0 + i ∧ 0 ≤ i ∧ i + n = a.length)) s_.1 s_.2.1 s_.2.2))) x_.1 x_.2.1 x_.2.2) x s
def V_laws_heldByteS : Env := ⟨tys, [], [], [], [], [(0, l_laws_heldByteS_0.L)], [], [], []⟩
end Go.Proofs.YtkencmgcibbfaaaE

/- Calls answer what is promised: X1. Conditions: none. -/
set_option linter.unusedVariables false
set_option maxHeartbeats 1600000
namespace Go.Proofs.YtkencmgcibbfaaaE
open Go
theorem vF_laws_eqByteS (a:List Int) (b:List Int) (K:List Arg→List (List AC)→Prop) (hp:a.length≤LIM∧True) (hk:∀ (r:Bool),(r=decide (a=b))→K ([rB.to r]) ([])):if (((((List.length a):Nat):Int) != (((List.length b):Nat):Int))=true) then ((true=true)∧(K [(aB false)] [])) else (∃ s:(Prod (List Int) (Prod (List Int) Int)),((KS.mk true [(Prod.mk (0:Nat) (T.v false [(Cm.d (D.r RK.u8 a))])),(Prod.mk (1:Nat) (T.v false [(Cm.d (D.r RK.u8 b))])),(Prod.mk (5:Nat) (num IntKind.i64 (0:Int)))] [] [])=(KS.mk true [(Prod.mk (0:Nat) (T.v false [(Cm.d (D.r RK.u8 s.fst))])),(Prod.mk (1:Nat) (T.v false [(Cm.d (D.r RK.u8 s.snd.fst))])),(Prod.mk (5:Nat) (num IntKind.i64 s.snd.snd))] [] []))∧((((List.length s.fst)=(List.length s.snd.fst))∧((s.snd.snd=(0:Int))∧(((List.length s.fst)≤(137438953472:Nat))∧True)))∧((∀ r:Unit,(s.fst=s.snd.fst)→(true=true)∧(K [(aB true)] []))∧(∀ r:Unit,(s.fst ≠ s.snd.fst)→(true=true)∧(K [(aB false)] []))))) := by
  refine iteI (fun h => ?_) (fun h => ?_)
  · refine ⟨by trivial, hk false ?_⟩
    symm; rw [decide_eq_false_iff_not]; rintro rfl; simp at h
  · have h1 : a.length = b.length := by simp at h; omega
    refine ⟨(a, b, 0), rfl, ⟨h1, rfl, hp.1, hp.2⟩, fun _ hr => ⟨by trivial, hk true (by simp; exact hr)⟩, fun _ hr => ⟨by trivial, hk false (by simp; exact hr)⟩⟩
theorem vL_laws_eqByteS_0 (a0:List Int) (b0:List Int) (i0:Int) (a:List Int) (b:List Int) (i:Int) (n:Nat) (hp:(fun (a:List Int) (b:List Int) (i:Int) => (a.length=b.length∧i=0∧a.length≤LIM∧True)) a0 b0 i0) (hi:a=a0∧b=b0∧a.length=b.length∧a.length≤LIM∧(True)∧0≤i∧i + n=a.length∧a.take i.toNat=b.take i.toNat):if ((decide (i < (((List.length a):Nat):Int)))=true) then ((((0:Int)≤i)∧(i < (((List.length a):Nat):Int)))∧((((0:Int)≤i)∧(i < (((List.length b):Nat):Int)))∧(if (((at_u8 a (Int.toNat i)) != (at_u8 b (Int.toNat i)))=true) then (∃ r:Unit,((KS.mk true [(Prod.mk (4:Nat) (boo false))] [] [])=(KS.mk true [(Prod.mk (4:Nat) (boo false))] [] []))∧(a0 ≠ b0)) else (∃ s:(Prod (List Int) (Prod (List Int) Int)),((KS.mk true [(Prod.mk (0:Nat) (T.v false [(Cm.d (D.r RK.u8 a))])),(Prod.mk (1:Nat) (T.v false [(Cm.d (D.r RK.u8 b))])),(Prod.mk (5:Nat) (num IntKind.i64 (IntKind.wrap IntKind.i64 (i + (1:Int)))))] [] [])=(KS.mk true [(Prod.mk (0:Nat) (T.v false [(Cm.d (D.r RK.u8 s.fst))])),(Prod.mk (1:Nat) (T.v false [(Cm.d (D.r RK.u8 s.snd.fst))])),(Prod.mk (5:Nat) (num IntKind.i64 s.snd.snd))] [] []))∧(∃ m:Nat,(m < n)∧((s.fst=a0)∧((s.snd.fst=b0)∧(((List.length s.fst)=(List.length s.snd.fst))∧(((List.length s.fst)≤(137438953472:Nat))∧(True∧(((0:Int)≤s.snd.snd)∧(((s.snd.snd + ((m:Nat):Int))=(((List.length s.fst):Nat):Int))∧((List.take (Int.toNat s.snd.snd) s.fst)=(List.take (Int.toNat s.snd.snd) s.snd.fst)))))))))))))) else (∃ r:Unit,((KS.mk true [] [] [])=(KS.mk true [] [] []))∧(a0=b0)) := by
  try dsimp only at hp
  obtain ⟨rfl, rfl, h1, h2, hw, h3, h4, h5⟩ := hi
  have hL : a.length ≤ 137438953472 := h2
  obtain ⟨i, rfl⟩ : ∃ m : Nat, i = m := ⟨i.toNat, by omega⟩
  rw [wr (x := (i : Int) + 1) (by omega) (by omega)]
  simp only [Int.toNat_natCast] at h5 ⊢
  refine iteI (fun h => ?_) (fun h => ?_)
  · have hi : i < a.length := by simp at h; omega
    refine ⟨⟨by omega, by omega⟩, ⟨by omega, by omega⟩, ?_⟩
    have ea : a.take (i + 1) = a.take i ++ [at_u8 a i] := take_at .u8 a i hi
    have eb : b.take (i + 1) = b.take i ++ [at_u8 b i] := take_at .u8 b i (show i < b.length by omega)
    
    refine iteI (fun hx => ?_) (fun hx => ?_)
    · refine ⟨(), by trivial, fun he => ?_⟩
      simp [he] at hx
    · refine ⟨(a, b, (i : Int) + 1), rfl, n - 1, by omega, rfl, rfl, h1, h2, hw, by dsimp only; omega, by dsimp only; omega, ?_⟩
      dsimp only
      rw [show ((i : Int) + 1).toNat = i + 1 by omega, ea, eb, h5]
      simp at hx
      exact congrArg (fun z => List.take i b ++ [z]) hx
  · have hi : i = a.length := by simp at h; omega
    subst hi
    refine ⟨(), by trivial, ?_⟩
    rw [List.take_length, h1, List.take_length] at h5
    exact h5
theorem vS_laws_eqByteS_0 (a0 : List Int) (b0 : List Int) (i0 : Int) (hp : (fun (a : List Int) (b : List Int) (i : Int) => (a.length = b.length ∧ i = 0 ∧ a.length ≤ LIM ∧ True)) a0 b0 i0) : ∃ n : Nat, (fun (a : List Int) (b : List Int) (i : Int) => (a = a0 ∧ b = b0 ∧ a.length = b.length ∧ a.length ≤ LIM ∧ (True) ∧ 0 ≤ i ∧ i + n = a.length ∧ a.take i.toNat = b.take i.toNat)) a0 b0 i0 := by
  try dsimp only at hp
  try dsimp only
  obtain ⟨h1, h2, h3, hw⟩ := hp
  exact ⟨a0.length, rfl, rfl, h1, h3, hw, by omega, by omega, by subst h2; simp⟩
theorem w_laws_eqByteS : Valid Try.prog 84 c_laws_eqByteS :=
  valid_ctr2 (V := V_laws_eqByteS) (tysB_ok tys_ok) ⟨(CallsL.nil _), (IosL.nil _)⟩ mixed 0 0 Try.func84 rfl (by kernel_rfl)
    (fun c hc => by
      obtain rfl := Option.some.inj hc
      exact ⟨trivial, ⟨⟨trivial, ⟨⟨trivial, trivial⟩, trivial⟩⟩, ⟨⟨trivial, ⟨LoopD.ok2 (V := V_laws_eqByteS) l_laws_eqByteS_0 (LoopsM.cons 0 l_laws_eqByteS_0 LoopsM.nil) 0 _ i_laws_eqByteS_0 (fun x hx => vS_laws_eqByteS_0 x.1 x.2.1 x.2.2 hx) (fun x hx n s hi => ⟨_, by kernel_rfl, vL_laws_eqByteS_0 x.1 x.2.1 x.2.2 s.1 s.2.1 s.2.2 n hx hi⟩), ⟨⟨trivial, ⟨trivial, trivial⟩⟩, ⟨⟨trivial, ⟨⟨trivial, trivial⟩, trivial⟩⟩, trivial⟩⟩⟩⟩, ⟨trivial, trivial⟩⟩⟩⟩)
    (fun x K hp hk => ⟨_, by kernel_rfl, vF_laws_eqByteS x.1 x.2 K hp (fun r h => hk r h)⟩)
theorem vF_laws_markByteS (a:List Int) (k:Int) (K:List Arg→List RC→Prop) (hp:a.length≤LIM∧0≤k∧k≤1099511627776) (hk:∀ (r:Int) (o:List Int),(r=k + a.length∧o=markB a k∧o.length=a.length∧MarkB a k o)→K ([rInt.to r]) ([⟨5,.u8,o,m0⟩])):∃ s:(Prod (List Int) (Prod Int (Prod (List Int) (Prod Int Int)))),((KS.mk true [(Prod.mk (0:Nat) (T.v false [(Cm.ref (0:Nat) (0:Nat))])),(Prod.mk (1:Nat) (num IntKind.i64 k)),(Prod.mk (5:Nat) (num IntKind.i64 (0:Int)))] [(Row.mk (0:Nat) (Option.some (RC.mk (5:Nat) RK.u8 a (RM.mk (Option.none) true (0:Nat) false))))] [])=(KS.mk true [(Prod.mk (0:Nat) (T.v false [(Cm.ref (0:Nat) (0:Nat))])),(Prod.mk (1:Nat) (num IntKind.i64 s.snd.snd.snd.fst)),(Prod.mk (5:Nat) (num IntKind.i64 s.snd.snd.snd.snd))] [(Row.mk (0:Nat) (Option.some (RC.mk (5:Nat) RK.u8 s.snd.snd.fst (RM.mk (Option.none) true (0:Nat) false))))] []))∧(((s.snd.snd.fst=s.fst)∧((s.snd.fst=s.snd.snd.snd.fst)∧((s.snd.snd.snd.snd=(0:Int))∧(((List.length s.fst)≤(137438953472:Nat))∧(((0:Int)≤s.snd.snd.snd.fst)∧(s.snd.snd.snd.fst≤(1099511627776:Int)))))))∧((∀ r:(Prod (List Int) Int),((r.fst=s.fst)∧(r.snd=s.snd.fst))→(K [(aI IntKind.i64 (r.snd + (((List.length r.fst):Nat):Int)))] [(RC.mk (5:Nat) RK.u8 (markB r.fst r.snd) (RM.mk (dpM false (Option.none)) false (0:Nat) false))]))∧(∀ r:Empty,False→False))) := by
  obtain ⟨h1, h2, h3⟩ := hp
  exact ⟨(a, k, a, k, 0), rfl, ⟨rfl, rfl, rfl, h1, h2, h3⟩, fun r hr => by
    obtain ⟨a1, k1⟩ := r
    obtain ⟨rfl, rfl⟩ := hr
    exact hk _ _ ⟨rfl, rfl, markB_len _ _, .of rfl⟩, fun r h => h⟩
theorem vL_laws_markByteS_0 (l0:List Int) (s0:Int) (o0:List Int) (k0:Int) (i0:Int) (l:List Int) (s:Int) (o:List Int) (k:Int) (i:Int) (n:Nat) (hp:(fun (l:List Int) (s:Int) (o:List Int) (k:Int) (i:Int) => (o=l∧s=k∧i=0∧l.length≤LIM∧0≤k∧k≤1099511627776)) l0 s0 o0 k0 i0) (hi:l=l0∧s=s0∧o=mkTo l s i.toNat∧k=s + i∧0≤i∧i + n=l.length∧l.length≤LIM∧0≤s∧s≤1099511627776):if ((decide (i < (((List.length o):Nat):Int)))=true) then ((((0:Int)≤i)∧(i < (((List.length o):Nat):Int)))∧(∃ s1:(Prod (List Int) (Prod Int (Prod (List Int) (Prod Int Int)))),((KS.mk true [(Prod.mk (0:Nat) (T.v false [(Cm.ref (0:Nat) (0:Nat))])),(Prod.mk (1:Nat) (num IntKind.i64 (IntKind.wrap IntKind.i64 (k + (1:Int))))),(Prod.mk (5:Nat) (num IntKind.i64 (IntKind.wrap IntKind.i64 (i + (1:Int)))))] [(Row.mk (0:Nat) (Option.some (RC.mk (5:Nat) RK.u8 (List.set o (Int.toNat i) (IntKind.wrap IntKind.u8 k)) (RM.mk (Option.none) true (0:Nat) false))))] [])=(KS.mk true [(Prod.mk (0:Nat) (T.v false [(Cm.ref (0:Nat) (0:Nat))])),(Prod.mk (1:Nat) (num IntKind.i64 s1.snd.snd.snd.fst)),(Prod.mk (5:Nat) (num IntKind.i64 s1.snd.snd.snd.snd))] [(Row.mk (0:Nat) (Option.some (RC.mk (5:Nat) RK.u8 s1.snd.snd.fst (RM.mk (Option.none) true (0:Nat) false))))] []))∧(∃ m:Nat,(m < n)∧((s1.fst=l0)∧((s1.snd.fst=s0)∧((s1.snd.snd.fst=(mkTo s1.fst s1.snd.fst (Int.toNat s1.snd.snd.snd.snd)))∧((s1.snd.snd.snd.fst=(s1.snd.fst + s1.snd.snd.snd.snd))∧(((0:Int)≤s1.snd.snd.snd.snd)∧(((s1.snd.snd.snd.snd + ((m:Nat):Int))=(((List.length s1.fst):Nat):Int))∧(((List.length s1.fst)≤(137438953472:Nat))∧(((0:Int)≤s1.snd.fst)∧(s1.snd.fst≤(1099511627776:Int))))))))))))) else (∃ r:(Prod (List Int) Int),((KS.mk true [(Prod.mk (1:Nat) (num IntKind.i64 k))] [(Row.mk (0:Nat) (Option.some (RC.mk (5:Nat) RK.u8 o (RM.mk (Option.none) true (0:Nat) false))))] [])=(KS.mk true [(Prod.mk (1:Nat) (num IntKind.i64 (r.snd + (((List.length r.fst):Nat):Int))))] [(Row.mk (0:Nat) (Option.some (RC.mk (5:Nat) RK.u8 (markB r.fst r.snd) (RM.mk (Option.none) true (0:Nat) false))))] []))∧((r.fst=l0)∧(r.snd=s0))) := by
  try dsimp only at hp
  obtain ⟨rfl, rfl, rfl, rfl, h2, h3, h4, h5, h6⟩ := hi
  have hL : l.length ≤ 137438953472 := h4
  obtain ⟨i, rfl⟩ : ∃ q : Nat, i = q := ⟨i.toNat, by omega⟩
  simp only [Int.toNat_natCast, mkTo_len]
  rw [wr (x := s + (i : Int) + 1) (by omega) (by omega), wr (x := (i : Int) + 1) (by omega) (by omega)]
  cases n with
  | zero =>
    rw [if_neg (by simp; omega)]
    have hi : i = l.length := by omega
    subst hi
    rw [mkTo_all]
    exact ⟨(l, s), rfl, rfl, rfl⟩
  | succ n =>
    rw [if_pos (by simp; omega)]
    refine ⟨⟨by omega, by omega⟩, (l, s, (mkTo l s i).set i (IntKind.wrap .u8 (s + (i : Int))), s + (i : Int) + 1, (i : Int) + 1), rfl, n, by omega, rfl, rfl, ?_, by dsimp only; omega, by dsimp only; omega, by dsimp only; omega, h4, h5, h6⟩
    show (mkTo l s i).set i (IntKind.wrap .u8 (s + (i : Int))) = mkTo l s ((i : Int) + 1).toNat
    rw [show ((i : Int) + 1).toNat = i + 1 by omega]
    exact mkTo_step l s i (by omega)
theorem vS_laws_markByteS_0 (l0 : List Int) (s0 : Int) (o0 : List Int) (k0 : Int) (i0 : Int) (hp : (fun (l : List Int) (s : Int) (o : List Int) (k : Int) (i : Int) => (o = l ∧ s = k ∧ i = 0 ∧ l.length ≤ LIM ∧ 0 ≤ k ∧ k ≤ 1099511627776)) l0 s0 o0 k0 i0) : ∃ n : Nat, (fun (l : List Int) (s : Int) (o : List Int) (k : Int) (i : Int) => (l = l0 ∧ s = s0 ∧ o = mkTo l s i.toNat ∧ k = s + i ∧ 0 ≤ i ∧ i + n = l.length ∧ l.length ≤ LIM ∧ 0 ≤ s ∧ s ≤ 1099511627776)) l0 s0 o0 k0 i0 := by
  try dsimp only at hp
  try dsimp only
  obtain ⟨rfl, rfl, rfl, h1, h2, h3⟩ := hp
  exact ⟨o0.length, rfl, rfl, (mkTo_zero _ _).symm, by omega, by omega, by omega, h1, h2, h3⟩
theorem w_laws_markByteS : ValidI Try.prog 62 c_laws_markByteS :=
  valid_ctrI (V := V_laws_markByteS) (tysB_ok tys_ok) ⟨(CallsL.nil _), (IosL.nil _)⟩ mixed 0 0 Try.func62 rfl (by kernel_rfl)
    (fun c hc => by
      obtain rfl := Option.some.inj hc
      exact ⟨trivial, ⟨⟨trivial, ⟨LoopD.ok2 (V := V_laws_markByteS) l_laws_markByteS_0 (LoopsM.cons 0 l_laws_markByteS_0 LoopsM.nil) 0 _ i_laws_markByteS_0 (fun x hx => vS_laws_markByteS_0 x.1 x.2.1 x.2.2.1 x.2.2.2.1 x.2.2.2.2 hx) (fun x hx n s hi => ⟨_, by kernel_rfl, vL_laws_markByteS_0 x.1 x.2.1 x.2.2.1 x.2.2.2.1 x.2.2.2.2 s.1 s.2.1 s.2.2.1 s.2.2.2.1 s.2.2.2.2 n hx hi⟩), ⟨⟨trivial, ⟨trivial, trivial⟩⟩, ⟨⟨trivial, trivial⟩, trivial⟩⟩⟩⟩, ⟨trivial, trivial⟩⟩⟩)
    (fun x K hp hk => ⟨_, by kernel_rfl, vF_laws_markByteS x.1 x.2 K hp (fun r o h => hk (r, o) h)⟩)
theorem vF_laws_heldByteS (a:List Int) (k:Int) (K:List Arg→List (List AC)→Prop) (hp:a.length≤LIM∧0≤k∧k≤1099511627776∧a=markB a k) (hk:∀ (r:Int),(r=k + a.length)→K ([rInt.to r]) ([])):∃ s:(Prod (List Int) (Prod Int Int)),((KS.mk true [(Prod.mk (0:Nat) (T.v false [(Cm.d (D.r RK.u8 a))])),(Prod.mk (1:Nat) (num IntKind.i64 k)),(Prod.mk (5:Nat) (num IntKind.i64 (0:Int)))] [] [])=(KS.mk true [(Prod.mk (0:Nat) (T.v false [(Cm.d (D.r RK.u8 s.fst))])),(Prod.mk (1:Nat) (num IntKind.i64 s.snd.fst)),(Prod.mk (5:Nat) (num IntKind.i64 s.snd.snd))] [] []))∧(((s.snd.snd=(0:Int))∧(((List.length s.fst)≤(137438953472:Nat))∧(((0:Int)≤s.snd.fst)∧((s.snd.fst≤(1099511627776:Int))∧(s.fst=(markB s.fst s.snd.fst))))))∧((∀ r:Int,(r=(s.snd.fst + (((List.length s.fst):Nat):Int)))→(true=true)∧(K [(aI IntKind.i64 r)] []))∧(∀ r:Empty,False→False))) := by
  obtain ⟨h1, h2, h3, h4⟩ := hp
  exact ⟨(a, k, 0), rfl, ⟨rfl, h1, h2, h3, h4⟩, fun r hr => ⟨rfl, hk r hr⟩, fun r h => h⟩
theorem vL_laws_heldByteS_0 (a0:List Int) (k0:Int) (i0:Int) (a:List Int) (k:Int) (i:Int) (n:Nat) (hp:(fun (a:List Int) (k:Int) (i:Int) => (i=0∧a.length≤LIM∧0≤k∧k≤1099511627776∧a=markB a k)) a0 k0 i0) (hi:a=a0∧k=k0 + i∧0≤i∧i + n=a.length):if ((decide (i < (((List.length a):Nat):Int)))=true) then ((((0:Int)≤i)∧(i < (((List.length a):Nat):Int)))∧(if (((at_u8 a (Int.toNat i)) != (IntKind.wrap IntKind.u8 k))=true) then (∃ r:Empty,((KS.mk true [] [] [])=(KS.mk true [] [] []))∧False) else (∃ s:(Prod (List Int) (Prod Int Int)),((KS.mk true [(Prod.mk (0:Nat) (T.v false [(Cm.d (D.r RK.u8 a))])),(Prod.mk (1:Nat) (num IntKind.i64 (IntKind.wrap IntKind.i64 (k + (1:Int))))),(Prod.mk (5:Nat) (num IntKind.i64 (IntKind.wrap IntKind.i64 (i + (1:Int)))))] [] [])=(KS.mk true [(Prod.mk (0:Nat) (T.v false [(Cm.d (D.r RK.u8 s.fst))])),(Prod.mk (1:Nat) (num IntKind.i64 s.snd.fst)),(Prod.mk (5:Nat) (num IntKind.i64 s.snd.snd))] [] []))∧(∃ m:Nat,(m < n)∧((s.fst=a0)∧((s.snd.fst=(k0 + s.snd.snd))∧(((0:Int)≤s.snd.snd)∧((s.snd.snd + ((m:Nat):Int))=(((List.length s.fst):Nat):Int))))))))) else (∃ r:Int,((KS.mk true [(Prod.mk (1:Nat) (num IntKind.i64 k))] [] [])=(KS.mk true [(Prod.mk (1:Nat) (num IntKind.i64 r))] [] []))∧(r=(k0 + (((List.length a0):Nat):Int)))) := by
  try dsimp only at hp
  obtain ⟨rfl, p1, p2, p3, p4⟩ := hp
  obtain ⟨rfl, rfl, h2, h3⟩ := hi
  have hL : a.length ≤ 137438953472 := p1
  obtain ⟨i, rfl⟩ : ∃ q : Nat, i = q := ⟨i.toNat, by omega⟩
  simp only [Int.toNat_natCast]
  rw [wr (x := k0 + (i : Int) + 1) (by omega) (by omega), wr (x := (i : Int) + 1) (by omega) (by omega)]
  cases n with
  | zero =>
    rw [if_neg (by simp; omega)]
    exact ⟨_, rfl, by omega⟩
  | succ n =>
    rw [if_pos (by simp; omega)]
    have hx : at_u8 a i = IntKind.wrap .u8 (k0 + i) := by
      have := markB_at a k0 i (by omega)
      rw [← p4] at this
      exact this
    rw [hx]
    refine ⟨⟨by omega, by omega⟩, ?_⟩
    rw [if_neg (by simp)]
    exact ⟨(a, k0 + (i : Int) + 1, (i : Int) + 1), rfl, n, by omega, rfl, by dsimp only; omega, by dsimp only; omega, by dsimp only; omega⟩
theorem vS_laws_heldByteS_0 (a0 : List Int) (k0 : Int) (i0 : Int) (hp : (fun (a : List Int) (k : Int) (i : Int) => (i = 0 ∧ a.length ≤ LIM ∧ 0 ≤ k ∧ k ≤ 1099511627776 ∧ a = markB a k)) a0 k0 i0) : ∃ n : Nat, (fun (a : List Int) (k : Int) (i : Int) => (a = a0 ∧ k = k0 + i ∧ 0 ≤ i ∧ i + n = a.length)) a0 k0 i0 := by
  try dsimp only at hp
  try dsimp only
  obtain ⟨rfl, h1, h2, h3, h4⟩ := hp
  exact ⟨a0.length, rfl, by omega, by omega, by omega⟩
theorem w_laws_heldByteS : Valid Try.prog 66 c_laws_heldByteS :=
  valid_ctr2 (V := V_laws_heldByteS) (tysB_ok tys_ok) ⟨(CallsL.nil _), (IosL.nil _)⟩ mixed 0 0 Try.func66 rfl (by kernel_rfl)
    (fun c hc => by
      obtain rfl := Option.some.inj hc
      exact ⟨trivial, ⟨⟨trivial, ⟨LoopD.ok2 (V := V_laws_heldByteS) l_laws_heldByteS_0 (LoopsM.cons 0 l_laws_heldByteS_0 LoopsM.nil) 0 _ i_laws_heldByteS_0 (fun x hx => vS_laws_heldByteS_0 x.1 x.2.1 x.2.2 hx) (fun x hx n s hi => ⟨_, by kernel_rfl, vL_laws_heldByteS_0 x.1 x.2.1 x.2.2 s.1 s.2.1 s.2.2 n hx hi⟩), ⟨⟨trivial, ⟨trivial, trivial⟩⟩, ⟨⟨⟨trivial, ⟨⟨trivial, trivial⟩, trivial⟩⟩, trivial⟩, trivial⟩⟩⟩⟩, ⟨trivial, trivial⟩⟩⟩)
    (fun x K hp hk => ⟨_, by kernel_rfl, vF_laws_heldByteS x.1 x.2 K hp (fun r h => hk r h)⟩)
end Go.Proofs.YtkencmgcibbfaaaE
