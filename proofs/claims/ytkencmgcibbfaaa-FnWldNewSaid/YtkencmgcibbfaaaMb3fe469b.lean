/- A part of the proof of laws of the program: what calls of the program answer. Conditions: none. -/
import Derived.Test.YtkencmgcibbfaaaM8b93ca80
set_option linter.unusedVariables false
set_option linter.unusedSimpArgs false
set_option linter.unusedSectionVars false
/- Contracts: H. Conditions: none. -/
set_option linter.unusedVariables false
set_option maxHeartbeats 1600000
namespace Go.Proofs.YtkencmgcibbfaaaE
open Go
/-! laws.liBytes -/
def c_laws_liBytes : Ent := ctr (α := (List Int) × (List Int)) (ρ := (Bool)) [] [] (rs (rR .u8) (rs1 (rR .u8))) (fun x_ => (fun (a : List Int) (b : List Int) => (a.length ≤ LIM ∧ True)) x_.1 x_.2) (fun x_ r_ => (fun x_ => (fun (a : List Int) (b : List Int) => ((fun r_ => (fun (r : Bool) => (r = decide (a = b))) r_))) x_.1 x_.2) x_ r_) (fun r_ => (fun (r : Bool) => ([rB.to r])) r_) (fun r_ => (fun (r : Bool) => ([])) r_)
def l_laws_liBytes_0 : LoopD ((List Int) × (List Int) × (Int)) ((Unit)) ((Unit)) where
  n := 26
  head := ⟨[0, 1, 5], [], []⟩
  st := fun x_ => (fun (a : List Int) (b : List Int) (i : Int) => (⟨true, [(0, .v false [.d (.r .u8 a)]), (1, .v false [.d (.r .u8 b)]), (5, num .i64 i)], [], []⟩)) x_.1 x_.2.1 x_.2.2
  pre := fun x_ => (fun (a : List Int) (b : List Int) (i : Int) => (a.length = b.length ∧ i = 0 ∧ a.length ≤ LIM ∧ True)) x_.1 x_.2.1 x_.2.2
  nk := ⟨[], [], []⟩
  nst := fun r_ => (fun (u : Unit) => (⟨true, [], [], []⟩)) r_
  npost := fun x_ r_ => (fun x_ => (fun (a0 : List Int) (b0 : List Int) (i0 : Int) => ((fun r_ => (fun (u : Unit) => (a0 = b0)) r_))) x_.1 x_.2.1 x_.2.2) x_ r_
  rk := ⟨[4], [], []⟩
  rst := fun r_ => (fun (u : Unit) => (⟨true, [(4, boo false)], [], []⟩)) r_
  rpost := fun x_ r_ => (fun x_ => (fun (a0 : List Int) (b0 : List Int) (i0 : Int) => ((fun r_ => (fun (u : Unit) => (a0 ≠ b0)) r_))) x_.1 x_.2.1 x_.2.2) x_ r_
def i_laws_liBytes_0 (x : (List Int) × (List Int) × (Int)) (n : Nat) (s : (List Int) × (List Int) × (Int)) : Prop := (fun x_ => (fun (a0 : List Int) (b0 : List Int) (i0 : Int) => ((fun s_ => (fun (a : List Int) (b : List Int) (i : Int) => (a = a0 ∧ b = b0 ∧ a.length = b.length ∧ a.length ≤ LIM ∧ (True) ∧ 0 ≤ i ∧ i + n = a.length ∧ a.take i.toNat = b.take i.toNat)) s_.1 s_.2.1 s_.2.2))) x_.1 x_.2.1 x_.2.2) x s
def V_laws_liBytes : Env := ⟨tys, [], [], [], [], [(0, l_laws_liBytes_0.L)], [], [], [(6, [(0, false), (1, false), (2, false), (3, false), (4, false), (5, false), (6, false), (7, false), (8, false)])]⟩
/-! laws.liJoin -/
def c_laws_liJoin : Ent := ctr (α := (JoinS) × (JoinS)) (ρ := (Bool)) [] [] (rs rJoin (rs1 rJoin)) (fun x_ => (fun (a : JoinS) (b : JoinS) => (a.got.length ≤ LIM)) x_.1 x_.2) (fun x_ r_ => (fun x_ => (fun (a : JoinS) (b : JoinS) => ((fun r_ => (fun (r : Bool) => (r = decide (a = b))) r_))) x_.1 x_.2) x_ r_) (fun r_ => (fun (r : Bool) => ([rB.to r])) r_) (fun r_ => (fun (r : Bool) => ([])) r_)
def V_laws_liJoin : Env := ⟨tys, [(47, c_laws_liBytes)], [], [(2, 0), (3, 1)], [], [], [500010], [], []⟩
/-! laws.liRx -/
def c_laws_liRx : Ent := ctr (α := (RxS) × (RxS)) (ρ := (Bool)) [] [] (rs rRx (rs1 rRx)) (fun x_ => (fun (a : RxS) (b : RxS) => (a.join.got.length ≤ LIM)) x_.1 x_.2) (fun x_ r_ => (fun x_ => (fun (a : RxS) (b : RxS) => ((fun r_ => (fun (r : Bool) => (r = decide (a = b))) r_))) x_.1 x_.2) x_ r_) (fun r_ => (fun (r : Bool) => ([rB.to r])) r_) (fun r_ => (fun (r : Bool) => ([])) r_)
def V_laws_liRx : Env := ⟨tys, [(49, c_laws_liJoin)], [], [(2, 0), (3, 1)], [], [], [500010, 500017, 500024, 500031, 500038], [], []⟩
/-! laws.liOk -/
def c_laws_liOk : Ent := ctr (α := Unit) (ρ := (Bool)) [] [] rs0 (fun x_ => (True)) (fun x_ r_ => (fun x_ => ((fun r_ => (fun (r : Bool) => (r = true)) r_))) x_ r_) (fun r_ => (fun (r : Bool) => ([rB.to r])) r_) (fun r_ => (fun (r : Bool) => ([])) r_)
def V_laws_liOk : Env := ⟨tys, [(20, c_impl_CfgOk)], [], [], [], [], [], [], []⟩
end Go.Proofs.YtkencmgcibbfaaaE

/- Calls answer what is promised: H. Conditions: none. -/
set_option linter.unusedVariables false
set_option maxHeartbeats 1600000
namespace Go.Proofs.YtkencmgcibbfaaaE
open Go
theorem vF_laws_liBytes (a:List Int) (b:List Int) (K:List Arg→List (List AC)→Prop) (hp:a.length≤LIM∧True) (hk:∀ (r:Bool),(r=decide (a=b))→K ([rB.to r]) ([])):if (((((List.length a):Nat):Int) != (((List.length b):Nat):Int))=true) then ((true=true)∧(K [(aB false)] [])) else (∃ s:(Prod (List Int) (Prod (List Int) Int)),((KS.mk true [(Prod.mk (0:Nat) (T.v false [(Cm.d (D.r RK.u8 a))])),(Prod.mk (1:Nat) (T.v false [(Cm.d (D.r RK.u8 b))])),(Prod.mk (5:Nat) (num IntKind.i64 (0:Int)))] [] [])=(KS.mk true [(Prod.mk (0:Nat) (T.v false [(Cm.d (D.r RK.u8 s.fst))])),(Prod.mk (1:Nat) (T.v false [(Cm.d (D.r RK.u8 s.snd.fst))])),(Prod.mk (5:Nat) (num IntKind.i64 s.snd.snd))] [] []))∧((((List.length s.fst)=(List.length s.snd.fst))∧((s.snd.snd=(0:Int))∧(((List.length s.fst)≤(137438953472:Nat))∧True)))∧((∀ r:Unit,(s.fst=s.snd.fst)→(true=true)∧(K [(aB true)] []))∧(∀ r:Unit,(s.fst ≠ s.snd.fst)→(true=true)∧(K [(aB false)] []))))) := by
  refine iteI (fun h => ?_) (fun h => ?_)
  · refine ⟨by trivial, hk false ?_⟩
    symm; rw [decide_eq_false_iff_not]; rintro rfl; simp at h
  · have h1 : a.length = b.length := by simp at h; omega
    refine ⟨(a, b, 0), rfl, ⟨h1, rfl, hp.1, hp.2⟩, fun _ hr => ⟨by trivial, hk true (by simp; exact hr)⟩, fun _ hr => ⟨by trivial, hk false (by simp; exact hr)⟩⟩
theorem vL_laws_liBytes_0 (a0:List Int) (b0:List Int) (i0:Int) (a:List Int) (b:List Int) (i:Int) (n:Nat) (hp:(fun (a:List Int) (b:List Int) (i:Int) => (a.length=b.length∧i=0∧a.length≤LIM∧True)) a0 b0 i0) (hi:a=a0∧b=b0∧a.length=b.length∧a.length≤LIM∧(True)∧0≤i∧i + n=a.length∧a.take i.toNat=b.take i.toNat):if ((decide (i < (((List.length a):Nat):Int)))=true) then ((((0:Int)≤i)∧(i < (((List.length a):Nat):Int)))∧((((0:Int)≤i)∧(i < (((List.length b):Nat):Int)))∧(if (((at_u8 a (Int.toNat i)) != (at_u8 b (Int.toNat i)))=true) then (∃ r:Unit,((KS.mk true [(Prod.mk (4:Nat) (boo false))] [] [])=(KS.mk true [(Prod.mk (4:Nat) (boo false))] [] []))∧(a0 ≠ b0)) else (∃ s:(Prod (List Int) (Prod (List Int) Int)),((KS.mk true [(Prod.mk (0:Nat) (T.v false [(Cm.d (D.r RK.u8 a))])),(Prod.mk (1:Nat) (T.v false [(Cm.d (D.r RK.u8 b))])),(Prod.mk (5:Nat) (num IntKind.i64 (IntKind.wrap IntKind.i64 (i + (1:Int)))))] [] [])=(KS.mk true [(Prod.mk (0:Nat) (T.v false [(Cm.d (D.r RK.u8 s.fst))])),(Prod.mk (1:Nat) (T.v false [(Cm.d (D.r RK.u8 s.snd.fst))])),(Prod.mk (5:Nat) (num IntKind.i64 s.snd.snd))] [] []))∧(∃ m:Nat,(m < n)∧((s.fst=a0)∧((s.snd.fst=b0)∧(((List.length s.fst)=(List.length s.snd.fst))∧(((List.length s.fst)≤(137438953472:Nat))∧(True∧(((0:Int)≤s.snd.snd)∧(((s.snd.snd + ((m:Nat):Int))=(((List.length s.fst):Nat):Int))∧((List.take (Int.toNat s.snd.snd) s.fst)=(List.take (Int.toNat s.snd.snd) s.snd.fst)))))))))))))) else (∃ r:Unit,((KS.mk true [] [] [])=(KS.mk true [] [] []))∧(a0=b0)) := by
  try dsimp only at hp
  obtain ⟨rfl, rfl, h1, h2, hw, h3, h4, h5⟩ := hi
  have hL : a.length ≤ 137438953472 := h2
  obtain ⟨i, rfl⟩ : ∃ m : Nat, i = m := ⟨i.toNat, by omega⟩
  rw [wr (x := (i : Int) + 1) (by omega) (by omega)]
  simp only [Int.toNat_natCast] at h5 ⊢
  refine iteI (fun h => ?_) (fun h => ?_)
  · have hi : i < a.length := by simp at h; omega
    refine ⟨⟨by omega, by omega⟩, ⟨by omega, by omega⟩, ?_⟩
    have ea : a.take (i + 1) = a.take i ++ [at_u8 a i] := take_at .u8 a i hi
    have eb : b.take (i + 1) = b.take i ++ [at_u8 b i] := take_at .u8 b i (show i < b.length by omega)
    
    refine iteI (fun hx => ?_) (fun hx => ?_)
    · refine ⟨(), by trivial, fun he => ?_⟩
      simp [he] at hx
    · refine ⟨(a, b, (i : Int) + 1), rfl, n - 1, by omega, rfl, rfl, h1, h2, hw, by dsimp only; omega, by dsimp only; omega, ?_⟩
      dsimp only
      rw [show ((i : Int) + 1).toNat = i + 1 by omega, ea, eb, h5]
      simp at hx
      exact congrArg (fun z => List.take i b ++ [z]) hx
  · have hi : i = a.length := by simp at h; omega
    subst hi
    refine ⟨(), by trivial, ?_⟩
    rw [List.take_length, h1, List.take_length] at h5
    exact h5
theorem vS_laws_liBytes_0 (a0 : List Int) (b0 : List Int) (i0 : Int) (hp : (fun (a : List Int) (b : List Int) (i : Int) => (a.length = b.length ∧ i = 0 ∧ a.length ≤ LIM ∧ True)) a0 b0 i0) : ∃ n : Nat, (fun (a : List Int) (b : List Int) (i : Int) => (a = a0 ∧ b = b0 ∧ a.length = b.length ∧ a.length ≤ LIM ∧ (True) ∧ 0 ≤ i ∧ i + n = a.length ∧ a.take i.toNat = b.take i.toNat)) a0 b0 i0 := by
  try dsimp only at hp
  try dsimp only
  obtain ⟨h1, h2, h3, hw⟩ := hp
  exact ⟨a0.length, rfl, rfl, h1, h3, hw, by omega, by omega, by subst h2; simp⟩
theorem w_laws_liBytes : Valid Try.prog 47 c_laws_liBytes :=
  valid_ctr2 (V := V_laws_liBytes) (tysB_ok tys_ok) ⟨(CallsL.nil _), (IosL.nil _)⟩ mixed 0 0 Try.func47 rfl (by kernel_rfl)
    (fun c hc => by
      obtain rfl := Option.some.inj hc
      exact ⟨trivial, ⟨⟨trivial, ⟨⟨trivial, trivial⟩, trivial⟩⟩, ⟨⟨trivial, ⟨LoopD.ok2 (V := V_laws_liBytes) l_laws_liBytes_0 (LoopsM.cons 0 l_laws_liBytes_0 LoopsM.nil) 0 _ i_laws_liBytes_0 (fun x hx => vS_laws_liBytes_0 x.1 x.2.1 x.2.2 hx) (fun x hx n s hi => ⟨_, by kernel_rfl, vL_laws_liBytes_0 x.1 x.2.1 x.2.2 s.1 s.2.1 s.2.2 n hx hi⟩), ⟨⟨trivial, ⟨trivial, trivial⟩⟩, ⟨⟨trivial, ⟨⟨trivial, trivial⟩, trivial⟩⟩, trivial⟩⟩⟩⟩, ⟨trivial, trivial⟩⟩⟩⟩)
    (fun x K hp hk => ⟨_, by kernel_rfl, vF_laws_liBytes x.1 x.2 K hp (fun r h => hk r h)⟩)
theorem vF_laws_liJoin (a:JoinS) (b:JoinS) (K:List Arg→List (List AC)→Prop) (hp:a.got.length≤LIM) (hk:∀ (r:Bool),(r=decide (a=b))→K ([rB.to r]) ([])):if ((a.len == b.len)=true) then ((true=true)∧((((List.length a.got)≤(137438953472:Nat))∧True)∧(∀ r:Bool,(r=(decide (a.got=b.got)))→(true=true)∧((true=true)∧(K [(aB r)] []))))) else ((true=true)∧(K [(aB false)] [])) := by
  obtain ⟨_, _⟩ := a
  obtain ⟨_, _⟩ := b

  repeat' first
    | exact rfl
    | trivial
    | apply And.intro
    | (intro r hr; subst hr)
    | intro r
    | exact hp
    | (refine iteI (fun h => ?_) (fun h => ?_))
  all_goals first
    | exact ⟨hp, trivial⟩
    | exact hk _ (by grind [IntKind.wrap_i64])
    | omega
    | (simp only [LIM] at *; omega)
    | grind [IntKind.wrap_i64]
theorem w_laws_liJoin : Valid Try.prog 49 c_laws_liJoin :=
  valid_ctr2 (V := V_laws_liJoin) (tysB_ok tys_ok) ⟨(CallsL.cons w_laws_liBytes (CallsL.nil _)), (IosL.nil _)⟩ mixed 0 2 Try.func49 rfl (by kernel_rfl)
    (fun c hc => by
      obtain rfl := Option.some.inj hc
      exact ⟨trivial, ⟨trivial, trivial⟩⟩)
    (fun x K hp hk => ⟨_, by kernel_rfl, vF_laws_liJoin x.1 x.2 K hp (fun r h => hk r h)⟩)
theorem vF_laws_liRx (a:RxS) (b:RxS) (K:List Arg→List (List AC)→Prop) (hp:a.join.got.length≤LIM) (hk:∀ (r:Bool),(r=decide (a=b))→K ([rB.to r]) ([])):if ((a.expect == b.expect)=true) then (if ((a.count == b.count)=true) then ((true=true)∧(((List.length a.join.got)≤(137438953472:Nat))∧(∀ r:Bool,(r=(decide (a.join=b.join)))→(true=true)∧(if (r=true) then (if ((a.again == b.again)=true) then (if ((a.busy == b.busy)=true) then ((true=true)∧(K [(aB (a.dead == b.dead))] [])) else ((true=true)∧(K [(aB false)] []))) else ((true=true)∧(K [(aB false)] []))) else ((true=true)∧(K [(aB false)] [])))))) else ((true=true)∧(K [(aB false)] []))) else ((true=true)∧(K [(aB false)] [])) := by
  obtain ⟨_, _, ⟨_, _⟩, _, _, _⟩ := a
  obtain ⟨_, _, ⟨_, _⟩, _, _, _⟩ := b

  repeat' first
    | exact rfl
    | trivial
    | apply And.intro
    | (intro r hr; subst hr)
    | intro r
    | exact hp
    | (refine iteI (fun h => ?_) (fun h => ?_))
  all_goals first
    | exact hk _ (by grind [IntKind.wrap_i64])
    | omega
    | (simp only [LIM] at *; omega)
    | grind [IntKind.wrap_i64]
theorem w_laws_liRx : Valid Try.prog 24 c_laws_liRx :=
  valid_ctr2 (V := V_laws_liRx) (tysB_ok tys_ok) ⟨(CallsL.cons w_laws_liJoin (CallsL.nil _)), (IosL.nil _)⟩ mixed 0 2 Try.func24 rfl (by kernel_rfl)
    (fun c hc => by
      obtain rfl := Option.some.inj hc
      exact ⟨trivial, ⟨trivial, trivial⟩⟩)
    (fun x K hp hk => ⟨_, by kernel_rfl, vF_laws_liRx x.1 x.2 K hp (fun r h => hk r h)⟩)
theorem vF_laws_liOk (K:List Arg→List (List AC)→Prop) (hp:True) (hk:∀ (r:Bool),(r=true)→K ([rB.to r]) ([])):(true=true)∧(True∧(∀ r:Bool,(r=true)→(true=true)∧((true=true)∧(K [(aB r)] [])))) := by
  exact ⟨by trivial, trivial, fun r hr => ⟨by trivial, by trivial, hk r hr⟩⟩
theorem w_laws_liOk : Valid Try.prog 10 c_laws_liOk :=
  valid_ctr2 (V := V_laws_liOk) (tysB_ok tys_ok) ⟨(CallsL.cons w_impl_CfgOk (CallsL.nil _)), (IosL.nil _)⟩ mixed 0 0 Try.func10 rfl (by kernel_rfl)
    (fun c hc => by
      obtain rfl := Option.some.inj hc
      exact ⟨trivial, ⟨trivial, trivial⟩⟩)
    (fun x K hp hk => ⟨_, by kernel_rfl, vF_laws_liOk  K hp (fun r h => hk r h)⟩)
end Go.Proofs.YtkencmgcibbfaaaE
