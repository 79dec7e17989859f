/- A part of the proof of laws of the program: what calls of the program answer. Conditions: none. -/
import Derived.Test.YtjjplncopjimdaaMe1dc2117
set_option linter.unusedVariables false
set_option linter.unusedSimpArgs false
set_option linter.unusedSectionVars false
/- Contracts: X1. Conditions: none. -/
set_option linter.unusedVariables false
set_option maxHeartbeats 1600000
namespace Go.Proofs.YtjjplncopjimdaaE
open Go
/-- Bytes, numbered on from k. -/
def markB : List Int → Int → List Int
  | [], _ => []
  | _ :: l, k => IntKind.wrap .u8 k :: markB l (k + 1)
theorem markB_len : ∀ (l : List Int) (k : Int), (markB l k).length = l.length
  | [], _ => rfl
  | _ :: l, k => congrArg Nat.succ (markB_len l (k + 1))
theorem markB_idem : ∀ (l : List Int) (k : Int), markB (markB l k) k = markB l k
  | [], _ => rfl
  | _ :: l, k => congrArg (IntKind.wrap .u8 k :: ·) (markB_idem l (k + 1))
theorem wr8_rng (x : Int) : 0 ≤ IntKind.wrap .u8 x ∧ IntKind.wrap .u8 x ≤ 255 := by rw [wr8m]; omega
theorem markB_bytes : ∀ (l : List Int) (k : Int), Bytes (markB l k)
  | [], _ => .nil
  | _ :: l, k => .cons (wr8_rng k).1 (wr8_rng k).2 (markB_bytes l (k + 1))
/-- The first i are numbered. -/
def mkTo (l : List Int) (k : Int) (i : Nat) : List Int := markB (l.take i) k ++ l.drop i
theorem mkTo_zero (l : List Int) (k : Int) : mkTo l k 0 = l := by unfold mkTo; rw [List.take_zero, List.drop_zero]; rfl
theorem mkTo_all (l : List Int) (k : Int) : mkTo l k l.length = markB l k := by unfold mkTo; rw [List.take_length, List.drop_length, List.append_nil]
theorem mkTo_len (l : List Int) (k : Int) (i : Nat) : (mkTo l k i).length = l.length := by
  unfold mkTo
  rw [List.length_append, markB_len, List.length_take, List.length_drop]; omega
theorem mkTo_step : ∀ (l : List Int) (k : Int) (i : Nat), i < l.length → (mkTo l k i).set i (IntKind.wrap .u8 (k + i)) = mkTo l k (i + 1)
  | [], _, _, h => by simp at h
  | a :: l, k, 0, h => by
    rw [mkTo_zero]
    show IntKind.wrap .u8 (k + ((0 : Nat) : Int)) :: l = IntKind.wrap .u8 k :: (markB (l.take 0) (k + 1) ++ l.drop 0)
    rw [List.take_zero, List.drop_zero, Int.natCast_zero, Int.add_zero]; rfl
  | a :: l, k, i + 1, h => by
    have ih := mkTo_step l (k + 1) i (by simpa using h)
    show IntKind.wrap .u8 k :: (mkTo l (k + 1) i).set i (IntKind.wrap .u8 (k + ((i + 1 : Nat) : Int))) = IntKind.wrap .u8 k :: mkTo l (k + 1) (i + 1)
    rw [← ih, show k + ((i + 1 : Nat) : Int) = k + 1 + (i : Int) by omega]
theorem markB_at : ∀ (l : List Int) (k : Int) (i : Nat), i < l.length → at_u8 (markB l k) i = IntKind.wrap .u8 (k + i)
  | [], _, _, h => by simp at h
  | a :: l, k, 0, h => by
    show IntKind.wrap .u8 k = _
    rw [Int.natCast_zero, Int.add_zero]
  | a :: l, k, i + 1, h => by
    have ih := markB_at l (k + 1) i (by simpa using h)
    show at_u8 (markB l (k + 1)) i = _
    rw [ih, show k + ((i + 1 : Nat) : Int) = k + 1 + (i : Int) by omega]
structure MarkB (a : List Int) (k : Int) (o : List Int) : Prop where
  self : o = markB o k
theorem MarkB.of {a o : List Int} {k : Int} (h : o = markB a k) : MarkB a k o := ⟨by rw [h, markB_idem]⟩
theorem MarkB.to {a o : List Int} {k k' : Int} (h : MarkB a k o) (hk : k' = k) : o = markB o k' := by rw [hk]; exact h.self
theorem set_take {o : List Int} {i : Nat} {x : Int} (h : i < o.length) : (o.set i x).take (i + 1) = o.take i ++ [x] := by
  rw [List.take_add_one, List.take_set, List.getElem?_set_self h, List.set_eq_of_length_le (by rw [List.length_take]; omega)]
  rfl

/-! laws.toByteS -/
def c_laws_toByteS : Ent := ctr (α := (List Int)) (ρ := (List Int)) [] [(0, 0)] (rs1 rBytes) (fun x_ => (fun (a : List Int) => (a.length ≤ LIM)) x_) (fun x_ r_ => (fun x_ => (fun (a : List Int) => ((fun r_ => (fun (r : List Int) => (r = a)) r_))) x_) x_ r_) (fun r_ => (fun (r : List Int) => ([(rO 5 .u8).to r])) r_) (fun r_ => (fun (r : List Int) => ([])) r_)
def l_laws_toByteS_0 : LoopD ((List Int) × (List Int) × (Int)) ((List Int)) ((Empty)) where
  n := 22
  head := ⟨[0, 3, 4], [], [0]⟩
  st := fun x_ => (fun (a : List Int) (o : List Int) (i : Int) => (⟨true, [(0, .v false [.d (.r .u8 a)]), (3, .v false [.ref 0 0]), (4, num .i64 i)], [⟨0, some ⟨5, .u8, o, m0⟩⟩], []⟩)) x_.1 x_.2.1 x_.2.2
  pre := fun x_ => (fun (a : List Int) (o : List Int) (i : Int) => (o.length = a.length ∧ i = 0 ∧ a.length ≤ LIM)) x_.1 x_.2.1 x_.2.2
  nk := ⟨[3], [], [0]⟩
  nst := fun r_ => (fun (r : List Int) => (⟨true, [(3, .v false [.ref 0 0])], [⟨0, some ⟨5, .u8, r, m0⟩⟩], []⟩)) r_
  npost := fun x_ r_ => (fun x_ => (fun (a0 : List Int) (o0 : List Int) (i0 : Int) => ((fun r_ => (fun (r : List Int) => (r = a0)) r_))) x_.1 x_.2.1 x_.2.2) x_ r_
  rk := ⟨[], [], []⟩
  rst := fun _ => ⟨true, [], [], []⟩
  rpost := fun _ _ => False
def i_laws_toByteS_0 (x : (List Int) × (List Int) × (Int)) (n : Nat) (s : (List Int) × (List Int) × (Int)) : Prop := (fun x_ => (fun (a0 : List Int) (o0 : List Int) (i0 : Int) => ((fun s_ => (fun (a : List Int) (o : List Int) (i : Int) => (a = a0 ∧ a.length ≤ LIM ∧ 0 ≤ i ∧ i + n = a.length ∧ o.length = a.length ∧ o.take i.toNat = a.take i.toNat)) s_.1 s_.2.1 s_.2.2))) x_.1 x_.2.1 x_.2.2) x s
def V_laws_toByteS : Env := ⟨tys, [], [(7, [0])], [], [], [(0, l_laws_toByteS_0.L)], [], [], []⟩
/-! laws.eqByteS -/
def c_laws_eqByteS : Ent := ctr (α := (List Int) × (List Int)) (ρ := (Bool)) [] [] (rs (rR .u8) (rs1 (rR .u8))) (fun x_ => (fun (a : List Int) (b : List Int) => (a.length ≤ LIM ∧ True)) x_.1 x_.2) (fun x_ r_ => (fun x_ => (fun (a : List Int) (b : List Int) => ((fun r_ => (fun (r : Bool) => (r = decide (a = b))) r_))) x_.1 x_.2) x_ r_) (fun r_ => (fun (r : Bool) => ([rB.to r])) r_) (fun r_ => (fun (r : Bool) => ([])) r_)
def l_laws_eqByteS_0 : LoopD ((List Int) × (List Int) × (Int)) ((Unit)) ((Unit)) where
  n := 26
  head := ⟨[0, 1, 5], [], []⟩
  st := fun x_ => (fun (a : List Int) (b : List Int) (i : Int) => (⟨true, [(0, .v false [.d (.r .u8 a)]), (1, .v false [.d (.r .u8 b)]), (5, num .i64 i)], [], []⟩)) x_.1 x_.2.1 x_.2.2
  pre := fun x_ => (fun (a : List Int) (b : List Int) (i : Int) => (a.length = b.length ∧ i = 0 ∧ a.length ≤ LIM ∧ True)) x_.1 x_.2.1 x_.2.2
  nk := ⟨[], [], []⟩
  nst := fun r_ => (fun (u : Unit) => (⟨true, [], [], []⟩)) r_
  npost := fun x_ r_ => (fun x_ => (fun (a0 : List Int) (b0 : List Int) (i0 : Int) => ((fun r_ => (fun (u : Unit) => (a0 = b0)) r_))) x_.1 x_.2.1 x_.2.2) x_ r_
  rk := ⟨[4], [], []⟩
  rst := fun r_ => (fun (u : Unit) => (⟨true, [(4, boo false)], [], []⟩)) r_
  rpost := fun x_ r_ => (fun x_ => (fun (a0 : List Int) (b0 : List Int) (i0 : Int) => ((fun r_ => (fun (u : Unit) => (a0 ≠ b0)) r_))) x_.1 x_.2.1 x_.2.2) x_ r_
def i_laws_eqByteS_0 (x : (List Int) × (List Int) × (Int)) (n : Nat) (s : (List Int) × (List Int) × (Int)) : Prop := (fun x_ => (fun (a0 : List Int) (b0 : List Int) (i0 : Int) => ((fun s_ => (fun (a : List Int) (b : List Int) (i : Int) => (a = a0 ∧ b = b0 ∧ a.length = b.length ∧ a.length ≤ LIM ∧ (True) ∧ 0 ≤ i ∧ i + n = a.length ∧ a.take i.toNat = b.take i.toNat)) s_.1 s_.2.1 s_.2.2))) x_.1 x_.2.1 x_.2.2) x s
def V_laws_eqByteS : Env := ⟨tys, [], [], [], [], [(0, l_laws_eqByteS_0.L)], [], [], [(6, [(0, false), (1, false), (2, false), (3, false), (4, false), (5, false), (6, false), (7, false), (8, false)])]⟩
/-! laws.szByteS -/
def c_laws_szByteS : Ent := ctr (α := (List Int) × (Int)) (ρ := (Int)) [] [] (rs rBytes (rs1 rInt)) (fun x_ => (fun (a : List Int) (l : Int) => (a.length ≤ maxLen ∧ 0 ≤ l ∧ l ≤ 1048576)) x_.1 x_.2) (fun x_ r_ => (fun x_ => (fun (a : List Int) (l : Int) => ((fun r_ => (fun (r : Int) => ((r = l - a.length ∧ 0 ≤ r) ∨ (r = -1 ∧ l < a.length))) r_))) x_.1 x_.2) x_ r_) (fun r_ => (fun (r : Int) => ([rInt.to r])) r_) (fun r_ => (fun (r : Int) => ([])) r_)
def V_laws_szByteS : Env := ⟨tys, [], [], [], [], [], [], [], []⟩
end Go.Proofs.YtjjplncopjimdaaE

/- Calls answer what is promised: X1. Conditions: none. -/
set_option linter.unusedVariables false
set_option maxHeartbeats 1600000
namespace Go.Proofs.YtjjplncopjimdaaE
open Go
theorem vF_laws_toByteS (a:List Int) (K:List Arg→List (List AC)→Prop) (hp:a.length≤LIM) (hk:∀ (r:List Int),(r=a)→K ([(rO 5 .u8).to r]) ([])):(((0:Int)≤(((List.length a):Nat):Int))∧(((((List.length a):Nat):Int)=(((List.length a):Nat):Int))∧((Int.toNat (((List.length a):Nat):Int))≤(137438953472:Nat))))∧(∃ s:(Prod (List Int) (Prod (List Int) Int)),((KS.mk true [(Prod.mk (0:Nat) (T.v false [(Cm.d (D.r RK.u8 a))])),(Prod.mk (3:Nat) (T.v false [(Cm.ref (0:Nat) (0:Nat))])),(Prod.mk (4:Nat) (num IntKind.i64 (0:Int)))] [(Row.mk (0:Nat) (Option.some (RC.mk (5:Nat) RK.u8 (List.replicate (Int.toNat (((List.length a):Nat):Int)) (RK.z RK.u8)) (RM.mk (Option.none) false (0:Nat) false))))] [])=(KS.mk true [(Prod.mk (0:Nat) (T.v false [(Cm.d (D.r RK.u8 s.fst))])),(Prod.mk (3:Nat) (T.v false [(Cm.ref (0:Nat) (0:Nat))])),(Prod.mk (4:Nat) (num IntKind.i64 s.snd.snd))] [(Row.mk (0:Nat) (Option.some (RC.mk (5:Nat) RK.u8 s.snd.fst (RM.mk (Option.none) false (0:Nat) false))))] []))∧((((List.length s.snd.fst)=(List.length s.fst))∧((s.snd.snd=(0:Int))∧((List.length s.fst)≤(137438953472:Nat))))∧((∀ r:(List Int),(r=s.fst)→(true=true)∧(K [(Arg.v false [(AC.own (RC.mk (5:Nat) RK.u8 r (RM.mk (dpM false (Option.none)) false (0:Nat) false)))])] []))∧(∀ r:Empty,False→False)))) := by
  have hL : a.length ≤ 137438953472 := hp
  refine ⟨⟨by omega, rfl, by omega⟩, (a, List.replicate (↑a.length : Int).toNat (0 : Int), 0), rfl, ⟨?_, rfl, hp⟩, fun r hr => ⟨rfl, hk r hr⟩, fun r h => h⟩
  show (List.replicate _ (0 : Int)).length = a.length
  rw [List.length_replicate, Int.toNat_natCast]
theorem vL_laws_toByteS_0 (a0:List Int) (o0:List Int) (i0:Int) (a:List Int) (o:List Int) (i:Int) (n:Nat) (hp:(fun (a:List Int) (o:List Int) (i:Int) => (o.length=a.length∧i=0∧a.length≤LIM)) a0 o0 i0) (hi:a=a0∧a.length≤LIM∧0≤i∧i + n=a.length∧o.length=a.length∧o.take i.toNat=a.take i.toNat):if ((decide (i < (((List.length a):Nat):Int)))=true) then ((((0:Int)≤i)∧(i < (((List.length a):Nat):Int)))∧((((0:Int)≤i)∧(i < (((List.length o):Nat):Int)))∧(∃ s:(Prod (List Int) (Prod (List Int) Int)),((KS.mk true [(Prod.mk (0:Nat) (T.v false [(Cm.d (D.r RK.u8 a))])),(Prod.mk (3:Nat) (T.v false [(Cm.ref (0:Nat) (0:Nat))])),(Prod.mk (4:Nat) (num IntKind.i64 (IntKind.wrap IntKind.i64 (i + (1:Int)))))] [(Row.mk (0:Nat) (Option.some (RC.mk (5:Nat) RK.u8 (List.set o (Int.toNat i) (at_u8 a (Int.toNat i))) (RM.mk (Option.none) false (0:Nat) false))))] [])=(KS.mk true [(Prod.mk (0:Nat) (T.v false [(Cm.d (D.r RK.u8 s.fst))])),(Prod.mk (3:Nat) (T.v false [(Cm.ref (0:Nat) (0:Nat))])),(Prod.mk (4:Nat) (num IntKind.i64 s.snd.snd))] [(Row.mk (0:Nat) (Option.some (RC.mk (5:Nat) RK.u8 s.snd.fst (RM.mk (Option.none) false (0:Nat) false))))] []))∧(∃ m:Nat,(m < n)∧((s.fst=a0)∧(((List.length s.fst)≤(137438953472:Nat))∧(((0:Int)≤s.snd.snd)∧(((s.snd.snd + ((m:Nat):Int))=(((List.length s.fst):Nat):Int))∧(((List.length s.snd.fst)=(List.length s.fst))∧((List.take (Int.toNat s.snd.snd) s.snd.fst)=(List.take (Int.toNat s.snd.snd) s.fst))))))))))) else (∃ r:(List Int),((KS.mk true [(Prod.mk (3:Nat) (T.v false [(Cm.ref (0:Nat) (0:Nat))]))] [(Row.mk (0:Nat) (Option.some (RC.mk (5:Nat) RK.u8 o (RM.mk (Option.none) false (0:Nat) false))))] [])=(KS.mk true [(Prod.mk (3:Nat) (T.v false [(Cm.ref (0:Nat) (0:Nat))]))] [(Row.mk (0:Nat) (Option.some (RC.mk (5:Nat) RK.u8 r (RM.mk (Option.none) false (0:Nat) false))))] []))∧(r=a0)) := by
  try dsimp only at hp
  obtain ⟨rfl, h1, h2, h3, h4, h5⟩ := hi
  have hL : a.length ≤ 137438953472 := h1
  obtain ⟨i, rfl⟩ : ∃ q : Nat, i = q := ⟨i.toNat, by omega⟩
  simp only [Int.toNat_natCast] at h5 ⊢
  rw [wr (x := (i : Int) + 1) (by omega) (by omega)]
  cases n with
  | zero =>
    rw [if_neg (by simp; omega)]
    refine ⟨o, rfl, ?_⟩
    have hi : i = a.length := by omega
    subst hi
    rw [List.take_length, ← h4, List.take_length] at h5
    exact h5
  | succ n =>
    rw [if_pos (by simp; omega)]
    refine ⟨⟨by omega, by omega⟩, ⟨by omega, by omega⟩, (a, o.set i (at_u8 a i), (i : Int) + 1), rfl, n, by omega, rfl, h1, by dsimp only; omega, by dsimp only; omega, (by show (o.set i _).length = a.length; rw [List.length_set]; exact h4), ?_⟩
    have ea : a.take (i + 1) = a.take i ++ [at_u8 a i] := take_at .u8 a i (show i < a.length by omega)
    show (o.set i (at_u8 a i)).take ((i : Int) + 1).toNat = a.take ((i : Int) + 1).toNat
    rw [show ((i : Int) + 1).toNat = i + 1 by omega, set_take (by omega), ea, h5]
theorem vS_laws_toByteS_0 (a0 : List Int) (o0 : List Int) (i0 : Int) (hp : (fun (a : List Int) (o : List Int) (i : Int) => (o.length = a.length ∧ i = 0 ∧ a.length ≤ LIM)) a0 o0 i0) : ∃ n : Nat, (fun (a : List Int) (o : List Int) (i : Int) => (a = a0 ∧ a.length ≤ LIM ∧ 0 ≤ i ∧ i + n = a.length ∧ o.length = a.length ∧ o.take i.toNat = a.take i.toNat)) a0 o0 i0 := by
  try dsimp only at hp
  try dsimp only
  obtain ⟨h1, rfl, h3⟩ := hp
  exact ⟨a0.length, rfl, h3, by omega, by omega, h1, rfl⟩
theorem w_laws_toByteS : Valid Try.prog 85 c_laws_toByteS :=
  valid_ctr2 (V := V_laws_toByteS) (tysB_ok tys_ok) ⟨(CallsL.nil _), (IosL.nil _)⟩ mixed 1 0 Try.func85 rfl (by kernel_rfl)
    (fun c hc => by
      obtain rfl := Option.some.inj hc
      exact ⟨trivial, ⟨trivial, ⟨⟨trivial, ⟨LoopD.ok2 (V := V_laws_toByteS) l_laws_toByteS_0 (LoopsM.cons 0 l_laws_toByteS_0 LoopsM.nil) 0 _ i_laws_toByteS_0 (fun x hx => vS_laws_toByteS_0 x.1 x.2.1 x.2.2 hx) (fun x hx n s hi => ⟨_, by kernel_rfl, vL_laws_toByteS_0 x.1 x.2.1 x.2.2 s.1 s.2.1 s.2.2 n hx hi⟩), ⟨⟨trivial, ⟨trivial, trivial⟩⟩, ⟨trivial, trivial⟩⟩⟩⟩, ⟨trivial, trivial⟩⟩⟩⟩)
    (fun x K hp hk => ⟨_, by kernel_rfl, vF_laws_toByteS x K hp (fun r h => hk r h)⟩)
theorem vF_laws_eqByteS (a:List Int) (b:List Int) (K:List Arg→List (List AC)→Prop) (hp:a.length≤LIM∧True) (hk:∀ (r:Bool),(r=decide (a=b))→K ([rB.to r]) ([])):if (((((List.length a):Nat):Int) != (((List.length b):Nat):Int))=true) then ((true=true)∧(K [(aB false)] [])) else (∃ s:(Prod (List Int) (Prod (List Int) Int)),((KS.mk true [(Prod.mk (0:Nat) (T.v false [(Cm.d (D.r RK.u8 a))])),(Prod.mk (1:Nat) (T.v false [(Cm.d (D.r RK.u8 b))])),(Prod.mk (5:Nat) (num IntKind.i64 (0:Int)))] [] [])=(KS.mk true [(Prod.mk (0:Nat) (T.v false [(Cm.d (D.r RK.u8 s.fst))])),(Prod.mk (1:Nat) (T.v false [(Cm.d (D.r RK.u8 s.snd.fst))])),(Prod.mk (5:Nat) (num IntKind.i64 s.snd.snd))] [] []))∧((((List.length s.fst)=(List.length s.snd.fst))∧((s.snd.snd=(0:Int))∧(((List.length s.fst)≤(137438953472:Nat))∧True)))∧((∀ r:Unit,(s.fst=s.snd.fst)→(true=true)∧(K [(aB true)] []))∧(∀ r:Unit,(s.fst ≠ s.snd.fst)→(true=true)∧(K [(aB false)] []))))) := by
  refine iteI (fun h => ?_) (fun h => ?_)
  · refine ⟨by trivial, hk false ?_⟩
    symm; rw [decide_eq_false_iff_not]; rintro rfl; simp at h
  · have h1 : a.length = b.length := by simp at h; omega
    refine ⟨(a, b, 0), rfl, ⟨h1, rfl, hp.1, hp.2⟩, fun _ hr => ⟨by trivial, hk true (by simp; exact hr)⟩, fun _ hr => ⟨by trivial, hk false (by simp; exact hr)⟩⟩
theorem vL_laws_eqByteS_0 (a0:List Int) (b0:List Int) (i0:Int) (a:List Int) (b:List Int) (i:Int) (n:Nat) (hp:(fun (a:List Int) (b:List Int) (i:Int) => (a.length=b.length∧i=0∧a.length≤LIM∧True)) a0 b0 i0) (hi:a=a0∧b=b0∧a.length=b.length∧a.length≤LIM∧(True)∧0≤i∧i + n=a.length∧a.take i.toNat=b.take i.toNat):if ((decide (i < (((List.length a):Nat):Int)))=true) then ((((0:Int)≤i)∧(i < (((List.length a):Nat):Int)))∧((((0:Int)≤i)∧(i < (((List.length b):Nat):Int)))∧(if (((at_u8 a (Int.toNat i)) != (at_u8 b (Int.toNat i)))=true) then (∃ r:Unit,((KS.mk true [(Prod.mk (4:Nat) (boo false))] [] [])=(KS.mk true [(Prod.mk (4:Nat) (boo false))] [] []))∧(a0 ≠ b0)) else (∃ s:(Prod (List Int) (Prod (List Int) Int)),((KS.mk true [(Prod.mk (0:Nat) (T.v false [(Cm.d (D.r RK.u8 a))])),(Prod.mk (1:Nat) (T.v false [(Cm.d (D.r RK.u8 b))])),(Prod.mk (5:Nat) (num IntKind.i64 (IntKind.wrap IntKind.i64 (i + (1:Int)))))] [] [])=(KS.mk true [(Prod.mk (0:Nat) (T.v false [(Cm.d (D.r RK.u8 s.fst))])),(Prod.mk (1:Nat) (T.v false [(Cm.d (D.r RK.u8 s.snd.fst))])),(Prod.mk (5:Nat) (num IntKind.i64 s.snd.snd))] [] []))∧(∃ m:Nat,(m < n)∧((s.fst=a0)∧((s.snd.fst=b0)∧(((List.length s.fst)=(List.length s.snd.fst))∧(((List.length s.fst)≤(137438953472:Nat))∧(True∧(((0:Int)≤s.snd.snd)∧(((s.snd.snd + ((m:Nat):Int))=(((List.length s.fst):Nat):Int))∧((List.take (Int.toNat s.snd.snd) s.fst)=(List.take (Int.toNat s.snd.snd) s.snd.fst)))))))))))))) else (∃ r:Unit,((KS.mk true [] [] [])=(KS.mk true [] [] []))∧(a0=b0)) := by
  try dsimp only at hp
  obtain ⟨rfl, rfl, h1, h2, hw, h3, h4, h5⟩ := hi
  have hL : a.length ≤ 137438953472 := h2
  obtain ⟨i, rfl⟩ : ∃ m : Nat, i = m := ⟨i.toNat, by omega⟩
  rw [wr (x := (i : Int) + 1) (by omega) (by omega)]
  simp only [Int.toNat_natCast] at h5 ⊢
  refine iteI (fun h => ?_) (fun h => ?_)
  · have hi : i < a.length := by simp at h; omega
    refine ⟨⟨by omega, by omega⟩, ⟨by omega, by omega⟩, ?_⟩
    have ea : a.take (i + 1) = a.take i ++ [at_u8 a i] := take_at .u8 a i hi
    have eb : b.take (i + 1) = b.take i ++ [at_u8 b i] := take_at .u8 b i (show i < b.length by omega)
    
    refine iteI (fun hx => ?_) (fun hx => ?_)
    · refine ⟨(), by trivial, fun he => ?_⟩
      simp [he] at hx
    · refine ⟨(a, b, (i : Int) + 1), rfl, n - 1, by omega, rfl, rfl, h1, h2, hw, by dsimp only; omega, by dsimp only; omega, ?_⟩
      dsimp only
      rw [show ((i : Int) + 1).toNat = i + 1 by omega, ea, eb, h5]
      simp at hx
      exact congrArg (fun z => List.take i b ++ [z]) hx
  · have hi : i = a.length := by simp at h; omega
    subst hi
    refine ⟨(), by trivial, ?_⟩
    rw [List.take_length, h1, List.take_length] at h5
    exact h5
theorem vS_laws_eqByteS_0 (a0 : List Int) (b0 : List Int) (i0 : Int) (hp : (fun (a : List Int) (b : List Int) (i : Int) => (a.length = b.length ∧ i = 0 ∧ a.length ≤ LIM ∧ True)) a0 b0 i0) : ∃ n : Nat, (fun (a : List Int) (b : List Int) (i : Int) => (a = a0 ∧ b = b0 ∧ a.length = b.length ∧ a.length ≤ LIM ∧ (True) ∧ 0 ≤ i ∧ i + n = a.length ∧ a.take i.toNat = b.take i.toNat)) a0 b0 i0 := by
  try dsimp only at hp
  try dsimp only
  obtain ⟨h1, h2, h3, hw⟩ := hp
  exact ⟨a0.length, rfl, rfl, h1, h3, hw, by omega, by omega, by subst h2; simp⟩
theorem w_laws_eqByteS : Valid Try.prog 90 c_laws_eqByteS :=
  valid_ctr2 (V := V_laws_eqByteS) (tysB_ok tys_ok) ⟨(CallsL.nil _), (IosL.nil _)⟩ mixed 0 0 Try.func90 rfl (by kernel_rfl)
    (fun c hc => by
      obtain rfl := Option.some.inj hc
      exact ⟨trivial, ⟨⟨trivial, ⟨⟨trivial, trivial⟩, trivial⟩⟩, ⟨⟨trivial, ⟨LoopD.ok2 (V := V_laws_eqByteS) l_laws_eqByteS_0 (LoopsM.cons 0 l_laws_eqByteS_0 LoopsM.nil) 0 _ i_laws_eqByteS_0 (fun x hx => vS_laws_eqByteS_0 x.1 x.2.1 x.2.2 hx) (fun x hx n s hi => ⟨_, by kernel_rfl, vL_laws_eqByteS_0 x.1 x.2.1 x.2.2 s.1 s.2.1 s.2.2 n hx hi⟩), ⟨⟨trivial, ⟨trivial, trivial⟩⟩, ⟨⟨trivial, ⟨⟨trivial, trivial⟩, trivial⟩⟩, trivial⟩⟩⟩⟩, ⟨trivial, trivial⟩⟩⟩⟩)
    (fun x K hp hk => ⟨_, by kernel_rfl, vF_laws_eqByteS x.1 x.2 K hp (fun r h => hk r h)⟩)
theorem vF_laws_szByteS (a:List Int) (l:Int) (K:List Arg→List (List AC)→Prop) (hp:a.length≤maxLen∧0≤l∧l≤1048576) (hk:∀ (r:Int),((r=l - a.length∧0≤r)∨(r=-1∧l < a.length))→K ([rInt.to r]) ([])):if ((decide ((IntKind.wrap IntKind.i64 (l - (((List.length a):Nat):Int))) < (0:Int)))=true) then ((true=true)∧(K [(aI IntKind.i64 (-1:Int))] [])) else ((true=true)∧(K [(aI IntKind.i64 (IntKind.wrap IntKind.i64 (l - (((List.length a):Nat):Int))))] [])) := by
  obtain ⟨h1, h2, h3⟩ := hp
  have h4 : a.length ≤ 9223372036854775807 := h1
  rw [wr (x := l - a.length) (by omega) (by omega)]
  refine iteI (fun h => ?_) (fun h => ?_)
  · exact ⟨rfl, hk _ (.inr ⟨rfl, by simp at h; omega⟩)⟩
  · exact ⟨rfl, hk _ (.inl ⟨rfl, by simp at h; omega⟩)⟩
theorem w_laws_szByteS : Valid Try.prog 81 c_laws_szByteS :=
  valid_ctr2 (V := V_laws_szByteS) (tysB_ok tys_ok) ⟨(CallsL.nil _), (IosL.nil _)⟩ mixed 0 0 Try.func81 rfl (by kernel_rfl)
    (fun c hc => by
      obtain rfl := Option.some.inj hc
      exact ⟨trivial, ⟨trivial, ⟨⟨trivial, ⟨⟨trivial, trivial⟩, trivial⟩⟩, ⟨trivial, trivial⟩⟩⟩⟩)
    (fun x K hp hk => ⟨_, by kernel_rfl, vF_laws_szByteS x.1 x.2 K hp (fun r h => hk r h)⟩)
end Go.Proofs.YtjjplncopjimdaaE
