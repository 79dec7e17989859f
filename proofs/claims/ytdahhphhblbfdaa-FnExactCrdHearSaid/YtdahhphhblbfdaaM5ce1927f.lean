/- A part of the proof of laws of the program: what calls of the program answer. Conditions: none. -/
import Derived.Test.YtdahhphhblbfdaaM4f2a7aa4
set_option linter.unusedVariables false
set_option linter.unusedSimpArgs false
set_option linter.unusedSectionVars false
/- Contracts: F. Conditions: none. -/
set_option linter.unusedVariables false
set_option maxHeartbeats 1600000
namespace Go.Proofs.YtdahhphhblbfdaaE
open Go
/-! impl.isNumber -/
def c_impl_isNumber : Ent := ctr (α := (Int)) (ρ := (Bool)) [] [] (rs1 rInt) (fun x_ => (fun (n : Int) => (True)) x_) (fun x_ r_ => (fun x_ => (fun (n : Int) => ((fun r_ => (fun (r : Bool) => (r = decide (0 ≤ n ∧ n ≤ 7))) r_))) x_) x_ r_) (fun r_ => (fun (r : Bool) => ([rB.to r])) r_) (fun r_ => (fun (r : Bool) => ([])) r_)
def V_impl_isNumber : Env := ⟨tys, [(56, c_impl_in)], [], [], [], [], [], [], []⟩
/-! slices.Equal[[]byte,byte] -/
def c_slices_Equal_byte_byte : Ent := ctr (α := (List Int) × (List Int)) (ρ := (Bool)) [] [] (rs rBytes (rs1 rBytes)) (fun x_ => (fun (a : List Int) (b : List Int) => (a.length ≤ LIM)) x_.1 x_.2) (fun x_ r_ => (fun x_ => (fun (a : List Int) (b : List Int) => ((fun r_ => (fun (r : Bool) => (r = decide (a = b))) r_))) x_.1 x_.2) x_ r_) (fun r_ => (fun (r : Bool) => ([rB.to r])) r_) (fun r_ => (fun (r : Bool) => ([])) r_)
def l_slices_Equal_byte_byte_0 : LoopD ((List Int) × (List Int) × (Int)) ((Unit)) ((Unit)) where
  n := 26
  head := ⟨[0, 1, 12, 13], [], []⟩
  st := fun x_ => (fun (a : List Int) (b : List Int) (i : Int) => (⟨true, [(0, .v false [.d (.r .u8 a)]), (1, .v false [.d (.r .u8 b)]), (12, num .i64 a.length), (13, num .i64 i)], [], []⟩)) x_.1 x_.2.1 x_.2.2
  pre := fun x_ => (fun (a : List Int) (b : List Int) (i : Int) => (a.length = b.length ∧ i = 0 ∧ a.length ≤ LIM)) x_.1 x_.2.1 x_.2.2
  nk := ⟨[], [], []⟩
  nst := fun r_ => (fun (u : Unit) => (⟨true, [], [], []⟩)) r_
  npost := fun x_ r_ => (fun x_ => (fun (a0 : List Int) (b0 : List Int) (i0 : Int) => ((fun r_ => (fun (u : Unit) => (a0 = b0)) r_))) x_.1 x_.2.1 x_.2.2) x_ r_
  rk := ⟨[4], [], []⟩
  rst := fun r_ => (fun (u : Unit) => (⟨true, [(4, boo false)], [], []⟩)) r_
  rpost := fun x_ r_ => (fun x_ => (fun (a0 : List Int) (b0 : List Int) (i0 : Int) => ((fun r_ => (fun (u : Unit) => (a0 ≠ b0)) r_))) x_.1 x_.2.1 x_.2.2) x_ r_
def i_slices_Equal_byte_byte_0 (x : (List Int) × (List Int) × (Int)) (n : Nat) (s : (List Int) × (List Int) × (Int)) : Prop := (fun x_ => (fun (a0 : List Int) (b0 : List Int) (i0 : Int) => ((fun s_ => (fun (a : List Int) (b : List Int) (i : Int) => (a = a0 ∧ b = b0 ∧ a.length = b.length ∧ a.length ≤ LIM ∧ 0 ≤ i ∧ i + n = a.length ∧ a.take i.toNat = b.take i.toNat)) s_.1 s_.2.1 s_.2.2))) x_.1 x_.2.1 x_.2.2) x s
def V_slices_Equal_byte_byte : Env := ⟨tys, [], [], [], [], [(0, l_slices_Equal_byte_byte_0.L)], [], [], [(6, [(0, false), (1, false), (2, false), (3, false), (4, false), (5, false), (6, false), (7, false), (8, false)])]⟩
/-! impl.CfgOk -/
def c_impl_CfgOk : Ent := ctr (α := (Cfg)) (ρ := (Bool)) [] [] (rs1 rCfg) (fun x_ => (fun (c : Cfg) => (True)) x_) (fun x_ r_ => (fun x_ => (fun (c : Cfg) => ((fun r_ => (fun (r : Bool) => (r = decide (CfgP c))) r_))) x_) x_ r_) (fun r_ => (fun (r : Bool) => ([rB.to r])) r_) (fun r_ => (fun (r : Bool) => ([])) r_)
def V_impl_CfgOk : Env := ⟨tys, [(56, c_impl_in)], [], [(1, 0)], [], [], [500006, 500011, 500016, 500021], [], []⟩
/-! spec.CfgOk -/
def c_spec_CfgOk : Ent := ctr (α := (Cfg)) (ρ := (Bool)) [] [] (rs1 rCfg) (fun x_ => (fun (c : Cfg) => (True)) x_) (fun x_ r_ => (fun x_ => (fun (c : Cfg) => ((fun r_ => (fun (r : Bool) => (r = decide (CfgP c))) r_))) x_) x_ r_) (fun r_ => (fun (r : Bool) => ([rB.to r])) r_) (fun r_ => (fun (r : Bool) => ([])) r_)
def V_spec_CfgOk : Env := ⟨tys, [(52, c_spec_l1In)], [], [(1, 0)], [], [], [500006, 500011, 500016, 500021], [], []⟩
/-! impl.pieceOk -/
def c_impl_pieceOk : Ent := ctr (α := (Int) × (Int) × (List Int)) (ρ := (Bool)) [] [] (rs rInt (rs rInt (rs1 rBytes))) (fun x_ => (fun (s : Int) (n : Int) (d : List Int) => (True)) x_.1 x_.2.1 x_.2.2) (fun x_ r_ => (fun x_ => (fun (s : Int) (n : Int) (d : List Int) => ((fun r_ => (fun (r : Bool) => (r = decide (SegP s n d.length))) r_))) x_.1 x_.2.1 x_.2.2) x_ r_) (fun r_ => (fun (r : Bool) => ([rB.to r])) r_) (fun r_ => (fun (r : Bool) => ([])) r_)
def V_impl_pieceOk : Env := ⟨tys, [(56, c_impl_in)], [], [], [], [], [500015, 500024, 500035], [], []⟩
/-! spec.l2Seg -/
def c_spec_l2Seg : Ent := ctr (α := (Frm)) (ρ := (Bool)) [] [] (rs1 rFrm) (fun x_ => (fun (f : Frm) => (True)) x_) (fun x_ r_ => (fun x_ => (fun (f : Frm) => ((fun r_ => (fun (r : Bool) => (r = decide (SegP f.seg f.len f.data.length))) r_))) x_) x_ r_) (fun r_ => (fun (r : Bool) => ([rB.to r])) r_) (fun r_ => (fun (r : Bool) => ([])) r_)
def V_spec_l2Seg : Env := ⟨tys, [(52, c_spec_l1In)], [], [(1, 0)], [], [], [500007, 500012, 500018, 500043, 500052], [], []⟩
/-! (impl.FrmFrame).same -/
def c_impl_FrmFrame_same : Ent := ctr (α := (Frm) × (Frm)) (ρ := (Bool)) [] [] (rs rFrm (rs1 rFrm)) (fun x_ => (fun (f : Frm) (g : Frm) => (f.data.length ≤ LIM)) x_.1 x_.2) (fun x_ r_ => (fun x_ => (fun (f : Frm) (g : Frm) => ((fun r_ => (fun (r : Bool) => (r = decide (f = g))) r_))) x_.1 x_.2) x_ r_) (fun r_ => (fun (r : Bool) => ([rB.to r])) r_) (fun r_ => (fun (r : Bool) => ([])) r_)
def V_impl_FrmFrame_same : Env := ⟨tys, [(96, c_slices_Equal_byte_byte)], [], [(2, 0), (3, 1)], [], [], [500010, 500017, 500024, 500031, 500038, 500045, 500052, 500059], [], []⟩
/-! impl.FrmOk -/
def c_impl_FrmOk : Ent := ctr (α := (Frm)) (ρ := (Bool)) [] [] (rs1 rFrm) (fun x_ => (fun (f : Frm) => (f.data.length ≤ LIM)) x_) (fun x_ r_ => (fun x_ => (fun (f : Frm) => ((fun r_ => (fun (r : Bool) => (r = decide (FrmP f))) r_))) x_) x_ r_) (fun r_ => (fun (r : Bool) => ([rB.to r])) r_) (fun r_ => (fun (r : Bool) => ([])) r_)
def V_impl_FrmOk : Env := ⟨tys, [(56, c_impl_in), (88, c_impl_isNumber), (89, c_impl_pieceOk), (90, c_impl_FrmFrame_same)], [], [(1, 0), (3, 1)], [(5, ([1], [])), (8, ([1], [])), (11, ([1], []))], [], [500033, 500038, 500064, 500067, 500073, 500105], [], [(5, [(0, false), (1, false), (2, false), (3, false), (4, false), (5, false), (6, false), (7, false), (8, false), (9, false), (10, false), (11, false), (12, true), (13, true), (14, true), (15, true), (16, true), (17, true), (18, true), (19, true), (20, true), (21, true), (22, true), (23, true)]), (8, [(0, false), (1, false), (2, false), (3, false), (4, false), (5, false), (6, false), (7, false), (8, true), (9, true), (10, true), (11, true), (12, true), (13, true), (14, true), (15, true)]), (11, [(0, false), (1, false), (2, false), (3, false), (4, false), (5, false), (6, true), (7, true), (8, true), (9, true), (10, true), (11, true)])]⟩
/-! spec.FrmOk -/
def c_spec_FrmOk : Ent := ctr (α := (Frm)) (ρ := (Bool)) [] [] (rs1 rFrm) (fun x_ => (fun (f : Frm) => (True)) x_) (fun x_ r_ => (fun x_ => (fun (f : Frm) => ((fun r_ => (fun (r : Bool) => (r = decide (FrmP f))) r_))) x_) x_ r_) (fun r_ => (fun (r : Bool) => ([rB.to r])) r_) (fun r_ => (fun (r : Bool) => ([])) r_)
def V_spec_FrmOk : Env := ⟨tys, [(52, c_spec_l1In), (86, c_spec_l2Seg)], [], [(1, 0)], [], [], [500010, 500015, 500020, 500025, 500034, 500039, 500042, 500048, 500053, 500058, 500063, 500074, 500079, 500084, 500089, 500094, 500101, 500106, 500111, 500116, 500121, 500126, 500131, 500136], [], []⟩
end Go.Proofs.YtdahhphhblbfdaaE

/- Calls answer what is promised: F. Conditions: none. -/
set_option linter.unusedVariables false
set_option maxHeartbeats 1600000
namespace Go.Proofs.YtdahhphhblbfdaaE
open Go
theorem vF_impl_isNumber (n:Int) (K:List Arg→List (List AC)→Prop) (hp:True) (hk:∀ (r:Bool),(r=decide (0≤n∧n≤7))→K ([rB.to r]) ([])):(true=true)∧(True∧(∀ r:Bool,(r=(decide (((0:Int)≤n)∧(n≤(7:Int)))))→(true=true)∧((true=true)∧(K [(aB r)] [])))) := by
  exact ⟨rfl, trivial, fun r hr => ⟨rfl, rfl, hk r hr⟩⟩
theorem w_impl_isNumber : Valid Try.prog 88 c_impl_isNumber :=
  valid_ctr2 (V := V_impl_isNumber) (tysB_ok tys_ok) ⟨(CallsL.cons w_impl_in (CallsL.nil _)), (IosL.nil _)⟩ mixed 0 0 Try.func88 rfl (by kernel_rfl)
    (fun c hc => by
      obtain rfl := Option.some.inj hc
      exact ⟨trivial, ⟨trivial, trivial⟩⟩)
    (fun x K hp hk => ⟨_, by kernel_rfl, vF_impl_isNumber x K hp (fun r h => hk r h)⟩)
theorem vF_slices_Equal_byte_byte (a:List Int) (b:List Int) (K:List Arg→List (List AC)→Prop) (hp:a.length≤LIM) (hk:∀ (r:Bool),(r=decide (a=b))→K ([rB.to r]) ([])):if (((((List.length a):Nat):Int) != (((List.length b):Nat):Int))=true) then ((true=true)∧(K [(aB false)] [])) else (∃ s:(Prod (List Int) (Prod (List Int) Int)),((KS.mk true [(Prod.mk (0:Nat) (T.v false [(Cm.d (D.r RK.u8 a))])),(Prod.mk (1:Nat) (T.v false [(Cm.d (D.r RK.u8 b))])),(Prod.mk (12:Nat) (num IntKind.i64 (((List.length a):Nat):Int))),(Prod.mk (13:Nat) (num IntKind.i64 (0:Int)))] [] [])=(KS.mk true [(Prod.mk (0:Nat) (T.v false [(Cm.d (D.r RK.u8 s.fst))])),(Prod.mk (1:Nat) (T.v false [(Cm.d (D.r RK.u8 s.snd.fst))])),(Prod.mk (12:Nat) (num IntKind.i64 (((List.length s.fst):Nat):Int))),(Prod.mk (13:Nat) (num IntKind.i64 s.snd.snd))] [] []))∧((((List.length s.fst)=(List.length s.snd.fst))∧((s.snd.snd=(0:Int))∧((List.length s.fst)≤(137438953472:Nat))))∧((∀ r:Unit,(s.fst=s.snd.fst)→(true=true)∧(K [(aB true)] []))∧(∀ r:Unit,(s.fst ≠ s.snd.fst)→(true=true)∧(K [(aB false)] []))))) := by
  refine iteI (fun h => ?_) (fun h => ?_)
  · refine ⟨by trivial, hk false ?_⟩
    symm; rw [decide_eq_false_iff_not]; rintro rfl; simp at h
  · have h1 : a.length = b.length := by simp at h; omega
    refine ⟨(a, b, 0), rfl, ⟨h1, rfl, hp⟩, fun _ hr => ⟨by trivial, hk true (by simp; exact hr)⟩, fun _ hr => ⟨by trivial, hk false (by simp; exact hr)⟩⟩
theorem vL_slices_Equal_byte_byte_0 (a0:List Int) (b0:List Int) (i0:Int) (a:List Int) (b:List Int) (i:Int) (n:Nat) (hp:(fun (a:List Int) (b:List Int) (i:Int) => (a.length=b.length∧i=0∧a.length≤LIM)) a0 b0 i0) (hi:a=a0∧b=b0∧a.length=b.length∧a.length≤LIM∧0≤i∧i + n=a.length∧a.take i.toNat=b.take i.toNat):if ((decide (i < (((List.length a):Nat):Int)))=true) then ((((0:Int)≤i)∧(i < (((List.length a):Nat):Int)))∧((((0:Int)≤i)∧(i < (((List.length b):Nat):Int)))∧(if (((at_u8 a (Int.toNat i)) != (at_u8 b (Int.toNat i)))=true) then (∃ r:Unit,((KS.mk true [(Prod.mk (4:Nat) (boo false))] [] [])=(KS.mk true [(Prod.mk (4:Nat) (boo false))] [] []))∧(a0 ≠ b0)) else (∃ s:(Prod (List Int) (Prod (List Int) Int)),((KS.mk true [(Prod.mk (0:Nat) (T.v false [(Cm.d (D.r RK.u8 a))])),(Prod.mk (1:Nat) (T.v false [(Cm.d (D.r RK.u8 b))])),(Prod.mk (12:Nat) (num IntKind.i64 (((List.length a):Nat):Int))),(Prod.mk (13:Nat) (num IntKind.i64 (IntKind.wrap IntKind.i64 (i + (1:Int)))))] [] [])=(KS.mk true [(Prod.mk (0:Nat) (T.v false [(Cm.d (D.r RK.u8 s.fst))])),(Prod.mk (1:Nat) (T.v false [(Cm.d (D.r RK.u8 s.snd.fst))])),(Prod.mk (12:Nat) (num IntKind.i64 (((List.length s.fst):Nat):Int))),(Prod.mk (13:Nat) (num IntKind.i64 s.snd.snd))] [] []))∧(∃ m:Nat,(m < n)∧((s.fst=a0)∧((s.snd.fst=b0)∧(((List.length s.fst)=(List.length s.snd.fst))∧(((List.length s.fst)≤(137438953472:Nat))∧(((0:Int)≤s.snd.snd)∧(((s.snd.snd + ((m:Nat):Int))=(((List.length s.fst):Nat):Int))∧((List.take (Int.toNat s.snd.snd) s.fst)=(List.take (Int.toNat s.snd.snd) s.snd.fst))))))))))))) else (∃ r:Unit,((KS.mk true [] [] [])=(KS.mk true [] [] []))∧(a0=b0)) := by
  try dsimp only at hp
  obtain ⟨rfl, rfl, h1, h2, h3, h4, h5⟩ := hi
  have hL : a.length ≤ 137438953472 := h2
  obtain ⟨i, rfl⟩ : ∃ m : Nat, i = m := ⟨i.toNat, by omega⟩
  rw [wr (x := (i : Int) + 1) (by omega) (by omega)]
  simp only [Int.toNat_natCast] at h5 ⊢
  refine iteI (fun h => ?_) (fun h => ?_)
  · have hi : i < a.length := by simp at h; omega
    refine ⟨⟨by omega, by omega⟩, ⟨by omega, by omega⟩, ?_⟩
    have ea : a.take (i + 1) = a.take i ++ [at_u8 a i] := by
      rw [List.take_succ_eq_append_getElem hi]; congr 2; show _ = a.getD i 0; rw [List.getD_eq_getElem?_getD, List.getElem?_eq_getElem hi]; rfl
    have eb : b.take (i + 1) = b.take i ++ [at_u8 b i] := by
      rw [List.take_succ_eq_append_getElem (by omega)]; congr 2; show _ = b.getD i 0; rw [List.getD_eq_getElem?_getD, List.getElem?_eq_getElem (by omega)]; rfl
    refine iteI (fun hx => ?_) (fun hx => ?_)
    · refine ⟨(), by trivial, fun he => ?_⟩
      simp [he] at hx
    · refine ⟨(a, b, (i : Int) + 1), rfl, n - 1, by omega, rfl, rfl, h1, h2, by dsimp only; omega, by dsimp only; omega, ?_⟩
      dsimp only
      rw [show ((i : Int) + 1).toNat = i + 1 by omega, ea, eb, h5]
      simp at hx
      rw [hx]
  · have hi : i = a.length := by simp at h; omega
    subst hi
    refine ⟨(), by trivial, ?_⟩
    rw [List.take_length, h1, List.take_length] at h5
    exact h5
theorem vS_slices_Equal_byte_byte_0 (a0 : List Int) (b0 : List Int) (i0 : Int) (hp : (fun (a : List Int) (b : List Int) (i : Int) => (a.length = b.length ∧ i = 0 ∧ a.length ≤ LIM)) a0 b0 i0) : ∃ n : Nat, (fun (a : List Int) (b : List Int) (i : Int) => (a = a0 ∧ b = b0 ∧ a.length = b.length ∧ a.length ≤ LIM ∧ 0 ≤ i ∧ i + n = a.length ∧ a.take i.toNat = b.take i.toNat)) a0 b0 i0 := by
  try dsimp only at hp
  try dsimp only
  obtain ⟨h1, h2, h3⟩ := hp
  exact ⟨a0.length, rfl, rfl, h1, h3, by omega, by omega, by subst h2; simp⟩
theorem w_slices_Equal_byte_byte : Valid Try.prog 96 c_slices_Equal_byte_byte :=
  valid_ctr2 (V := V_slices_Equal_byte_byte) (tysB_ok tys_ok) ⟨(CallsL.nil _), (IosL.nil _)⟩ mixed 0 0 Try.func96 rfl (by kernel_rfl)
    (fun c hc => by
      obtain rfl := Option.some.inj hc
      exact ⟨trivial, ⟨⟨trivial, ⟨⟨trivial, trivial⟩, trivial⟩⟩, ⟨⟨trivial, ⟨LoopD.ok2 (V := V_slices_Equal_byte_byte) l_slices_Equal_byte_byte_0 (LoopsM.cons 0 l_slices_Equal_byte_byte_0 LoopsM.nil) 0 _ i_slices_Equal_byte_byte_0 (fun x hx => vS_slices_Equal_byte_byte_0 x.1 x.2.1 x.2.2 hx) (fun x hx n s hi => ⟨_, by kernel_rfl, vL_slices_Equal_byte_byte_0 x.1 x.2.1 x.2.2 s.1 s.2.1 s.2.2 n hx hi⟩), ⟨trivial, ⟨⟨trivial, trivial⟩, ⟨⟨trivial, ⟨trivial, ⟨⟨trivial, trivial⟩, trivial⟩⟩⟩, trivial⟩⟩⟩⟩⟩, ⟨trivial, trivial⟩⟩⟩⟩)
    (fun x K hp hk => ⟨_, by kernel_rfl, vF_slices_Equal_byte_byte x.1 x.2 K hp (fun r h => hk r h)⟩)
theorem vF_impl_CfgOk (c:Cfg) (K:List Arg→List (List AC)→Prop) (hp:True) (hk:∀ (r:Bool),(r=decide (CfgP c))→K ([rB.to r]) ([])):(true=true)∧(True∧(∀ r:Bool,(r=(decide (((1:Int)≤c.mode)∧(c.mode≤(2:Int)))))→(true=true)∧(if (r=true) then ((true=true)∧(True∧(∀ r1:Bool,(r1=(decide (((1:Int)≤c.win)∧(c.win≤(4:Int)))))→(true=true)∧(if (r1=true) then ((true=true)∧(True∧(∀ r2:Bool,(r2=(decide (((1:Int)≤c.mps)∧(c.mps≤(8:Int)))))→(true=true)∧(if (r2=true) then ((true=true)∧(True∧(∀ r3:Bool,(r3=(decide (((1:Int)≤c.mtu)∧(c.mtu≤(24:Int)))))→(true=true)∧(if (r3=true) then ((true=true)∧(True∧(∀ r4:Bool,(r4=(decide (((1:Int)≤c.try_)∧(c.try_≤(5:Int)))))→(true=true)∧((true=true)∧(K [(aB r4)] []))))) else ((true=true)∧(K [(aB false)] [])))))) else ((true=true)∧(K [(aB false)] [])))))) else ((true=true)∧(K [(aB false)] [])))))) else ((true=true)∧(K [(aB false)] []))))) := by
  repeat' first
    | exact rfl
    | trivial
    | apply And.intro
    | (intro r hr; subst hr)
    | intro r
    | exact hp
    | (refine iteI (fun h => ?_) (fun h => ?_))
  all_goals first
    | exact hk _ (by grind [CfgP, IntKind.wrap_i64])
    | omega
theorem w_impl_CfgOk : Valid Try.prog 71 c_impl_CfgOk :=
  valid_ctr2 (V := V_impl_CfgOk) (tysB_ok tys_ok) ⟨(CallsL.cons w_impl_in (CallsL.nil _)), (IosL.nil _)⟩ mixed 0 1 Try.func71 rfl (by kernel_rfl)
    (fun c hc => by
      obtain rfl := Option.some.inj hc
      exact ⟨trivial, ⟨trivial, trivial⟩⟩)
    (fun x K hp hk => ⟨_, by kernel_rfl, vF_impl_CfgOk x K hp (fun r h => hk r h)⟩)
theorem vF_spec_CfgOk (c:Cfg) (K:List Arg→List (List AC)→Prop) (hp:True) (hk:∀ (r:Bool),(r=decide (CfgP c))→K ([rB.to r]) ([])):(true=true)∧(True∧(∀ r:Bool,(r=(decide (((1:Int)≤c.mode)∧(c.mode≤(2:Int)))))→(true=true)∧(if (r=true) then ((true=true)∧(True∧(∀ r1:Bool,(r1=(decide (((1:Int)≤c.win)∧(c.win≤(4:Int)))))→(true=true)∧(if (r1=true) then ((true=true)∧(True∧(∀ r2:Bool,(r2=(decide (((1:Int)≤c.mps)∧(c.mps≤(8:Int)))))→(true=true)∧(if (r2=true) then ((true=true)∧(True∧(∀ r3:Bool,(r3=(decide (((1:Int)≤c.mtu)∧(c.mtu≤(24:Int)))))→(true=true)∧(if (r3=true) then ((true=true)∧(True∧(∀ r4:Bool,(r4=(decide (((1:Int)≤c.try_)∧(c.try_≤(5:Int)))))→(true=true)∧((true=true)∧(K [(aB r4)] []))))) else ((true=true)∧(K [(aB false)] [])))))) else ((true=true)∧(K [(aB false)] [])))))) else ((true=true)∧(K [(aB false)] [])))))) else ((true=true)∧(K [(aB false)] []))))) := by
  repeat' first
    | exact rfl
    | trivial
    | apply And.intro
    | (intro r hr; subst hr)
    | intro r
    | exact hp
    | (refine iteI (fun h => ?_) (fun h => ?_))
  all_goals first
    | exact hk _ (by grind [CfgP, IntKind.wrap_i64])
    | omega
theorem w_spec_CfgOk : Valid Try.prog 67 c_spec_CfgOk :=
  valid_ctr2 (V := V_spec_CfgOk) (tysB_ok tys_ok) ⟨(CallsL.cons w_spec_l1In (CallsL.nil _)), (IosL.nil _)⟩ mixed 0 1 Try.func67 rfl (by kernel_rfl)
    (fun c hc => by
      obtain rfl := Option.some.inj hc
      exact ⟨trivial, ⟨trivial, trivial⟩⟩)
    (fun x K hp hk => ⟨_, by kernel_rfl, vF_spec_CfgOk x K hp (fun r h => hk r h)⟩)
theorem vF_impl_pieceOk (s:Int) (n:Int) (d:List Int) (K:List Arg→List (List AC)→Prop) (hp:True) (hk:∀ (r:Bool),(r=decide (SegP s n d.length))→K ([rB.to r]) ([])):if ((s == (0:Int))=true) then (if ((decide ((((List.length d):Nat):Int)≤(8:Int)))=true) then ((true=true)∧(K [(aB (n == (((List.length d):Nat):Int)))] [])) else ((true=true)∧(K [(aB false)] []))) else (if ((s == (1:Int))=true) then ((true=true)∧(True∧(∀ r:Bool,(r=(decide (((1:Int)≤(((List.length d):Nat):Int))∧((((List.length d):Nat):Int)≤(8:Int)))))→(true=true)∧(if (r=true) then ((true=true)∧(True∧(∀ r1:Bool,(r1=(decide (((IntKind.wrap IntKind.i64 ((((List.length d):Nat):Int) + (1:Int)))≤n)∧(n≤(24:Int)))))→(true=true)∧((true=true)∧(K [(aB r1)] []))))) else ((true=true)∧(K [(aB false)] [])))))) else (if ((s == (2:Int))=true) then (if ((s == (2:Int))=true) then ((true=true)∧(True∧(∀ r:Bool,(r=(decide (((1:Int)≤(((List.length d):Nat):Int))∧((((List.length d):Nat):Int)≤(8:Int)))))→(true=true)∧(if (r=true) then ((true=true)∧(K [(aB (n == (0:Int)))] [])) else ((true=true)∧(K [(aB false)] [])))))) else ((true=true)∧(K [(aB false)] []))) else (if ((s == (3:Int))=true) then ((true=true)∧(True∧(∀ r:Bool,(r=(decide (((1:Int)≤(((List.length d):Nat):Int))∧((((List.length d):Nat):Int)≤(8:Int)))))→(true=true)∧(if (r=true) then ((true=true)∧(K [(aB (n == (0:Int)))] [])) else ((true=true)∧(K [(aB false)] [])))))) else ((true=true)∧(K [(aB false)] []))))) := by
  repeat' first
    | exact rfl
    | trivial
    | apply And.intro
    | (intro r hr; subst hr)
    | intro r
    | exact hp
    | (refine iteI (fun h => ?_) (fun h => ?_))
  all_goals first
    | exact hk _ (by grind [SegP, IntKind.wrap_i64])
    | omega
theorem w_impl_pieceOk : Valid Try.prog 89 c_impl_pieceOk :=
  valid_ctr2 (V := V_impl_pieceOk) (tysB_ok tys_ok) ⟨(CallsL.cons w_impl_in (CallsL.nil _)), (IosL.nil _)⟩ mixed 0 0 Try.func89 rfl (by kernel_rfl)
    (fun c hc => by
      obtain rfl := Option.some.inj hc
      exact ⟨trivial, ⟨trivial, ⟨⟨trivial, ⟨trivial, ⟨⟨trivial, trivial⟩, ⟨trivial, ⟨⟨trivial, trivial⟩, ⟨⟨trivial, ⟨trivial, trivial⟩⟩, ⟨⟨trivial, trivial⟩, trivial⟩⟩⟩⟩⟩⟩⟩, ⟨trivial, trivial⟩⟩⟩⟩)
    (fun x K hp hk => ⟨_, by kernel_rfl, vF_impl_pieceOk x.1 x.2.1 x.2.2 K hp (fun r h => hk r h)⟩)
theorem vF_spec_l2Seg (f:Frm) (K:List Arg→List (List AC)→Prop) (hp:True) (hk:∀ (r:Bool),(r=decide (SegP f.seg f.len f.data.length))→K ([rB.to r]) ([])):(true=true)∧(True∧(∀ r:Bool,(r=(decide (((0:Int)≤f.seg)∧(f.seg≤(3:Int)))))→(true=true)∧(if ((!r)=true) then ((true=true)∧(K [(aB false)] [])) else (if (((((List.length f.data):Nat):Int) == (0:Int))=true) then (if ((f.len != (0:Int))=true) then ((true=true)∧(K [(aB false)] [])) else (if ((decide ((((List.length f.data):Nat):Int) > (8:Int)))=true) then ((true=true)∧(K [(aB false)] [])) else (if ((f.seg == (0:Int))=true) then ((true=true)∧(K [(aB (f.len == (((List.length f.data):Nat):Int)))] [])) else (if ((f.seg == (1:Int))=true) then ((true=true)∧(True∧(∀ r1:Bool,(r1=(decide (((IntKind.wrap IntKind.i64 ((((List.length f.data):Nat):Int) + (1:Int)))≤f.len)∧(f.len≤(24:Int)))))→(true=true)∧(if (r1=true) then ((true=true)∧(K [(aB (decide ((((List.length f.data):Nat):Int) > (0:Int))))] [])) else ((true=true)∧(K [(aB false)] [])))))) else (if ((f.len == (0:Int))=true) then ((true=true)∧(K [(aB (decide ((((List.length f.data):Nat):Int) > (0:Int))))] [])) else ((true=true)∧(K [(aB false)] []))))))) else (if ((decide ((((List.length f.data):Nat):Int) > (8:Int)))=true) then ((true=true)∧(K [(aB false)] [])) else (if ((f.seg == (0:Int))=true) then ((true=true)∧(K [(aB (f.len == (((List.length f.data):Nat):Int)))] [])) else (if ((f.seg == (1:Int))=true) then ((true=true)∧(True∧(∀ r1:Bool,(r1=(decide (((IntKind.wrap IntKind.i64 ((((List.length f.data):Nat):Int) + (1:Int)))≤f.len)∧(f.len≤(24:Int)))))→(true=true)∧(if (r1=true) then ((true=true)∧(K [(aB (decide ((((List.length f.data):Nat):Int) > (0:Int))))] [])) else ((true=true)∧(K [(aB false)] [])))))) else (if ((f.len == (0:Int))=true) then ((true=true)∧(K [(aB (decide ((((List.length f.data):Nat):Int) > (0:Int))))] [])) else ((true=true)∧(K [(aB false)] [])))))))))) := by
  repeat' first
    | exact rfl
    | trivial
    | apply And.intro
    | (intro r hr; subst hr)
    | intro r
    | exact hp
    | (refine iteI (fun h => ?_) (fun h => ?_))
  all_goals first
    | exact hk _ (by grind [SegP, IntKind.wrap_i64])
    | omega
theorem w_spec_l2Seg : Valid Try.prog 86 c_spec_l2Seg :=
  valid_ctr2 (V := V_spec_l2Seg) (tysB_ok tys_ok) ⟨(CallsL.cons w_spec_l1In (CallsL.nil _)), (IosL.nil _)⟩ mixed 0 1 Try.func86 rfl (by kernel_rfl)
    (fun c hc => by
      obtain rfl := Option.some.inj hc
      exact ⟨trivial, ⟨⟨trivial, ⟨⟨trivial, trivial⟩, trivial⟩⟩, ⟨⟨trivial, ⟨trivial, ⟨⟨trivial, trivial⟩, ⟨trivial, ⟨⟨trivial, trivial⟩, trivial⟩⟩⟩⟩⟩, ⟨trivial, trivial⟩⟩⟩⟩)
    (fun x K hp hk => ⟨_, by kernel_rfl, vF_spec_l2Seg x K hp (fun r h => hk r h)⟩)
theorem vF_impl_FrmFrame_same (f:Frm) (g:Frm) (K:List Arg→List (List AC)→Prop) (hp:f.data.length≤LIM) (hk:∀ (r:Bool),(r=decide (f=g))→K ([rB.to r]) ([])):if ((f.kind == g.kind)=true) then (if ((f.seq == g.seq)=true) then (if ((f.ack == g.ack)=true) then (if ((f.poll == g.poll)=true) then (if ((f.final == g.final)=true) then (if ((f.say == g.say)=true) then (if ((f.seg == g.seg)=true) then (if ((f.len == g.len)=true) then ((true=true)∧(((List.length f.data)≤(137438953472:Nat))∧(∀ r:Bool,(r=(decide (f.data=g.data)))→(true=true)∧((true=true)∧(K [(aB r)] []))))) else ((true=true)∧(K [(aB false)] []))) else ((true=true)∧(K [(aB false)] []))) else ((true=true)∧(K [(aB false)] []))) else ((true=true)∧(K [(aB false)] []))) else ((true=true)∧(K [(aB false)] []))) else ((true=true)∧(K [(aB false)] []))) else ((true=true)∧(K [(aB false)] []))) else ((true=true)∧(K [(aB false)] [])) := by
  obtain ⟨_, _, _, _, _, _, _, _, _⟩ := f
  obtain ⟨_, _, _, _, _, _, _, _, _⟩ := g

  repeat' first
    | exact rfl
    | trivial
    | apply And.intro
    | (intro r hr; subst hr)
    | intro r
    | exact hp
    | (refine iteI (fun h => ?_) (fun h => ?_))
  all_goals first
    | exact hk _ (by grind [IntKind.wrap_i64])
    | omega
theorem w_impl_FrmFrame_same : Valid Try.prog 90 c_impl_FrmFrame_same :=
  valid_ctr2 (V := V_impl_FrmFrame_same) (tysB_ok tys_ok) ⟨(CallsL.cons w_slices_Equal_byte_byte (CallsL.nil _)), (IosL.nil _)⟩ mixed 0 2 Try.func90 rfl (by kernel_rfl)
    (fun c hc => by
      obtain rfl := Option.some.inj hc
      exact ⟨trivial, ⟨trivial, trivial⟩⟩)
    (fun x K hp hk => ⟨_, by kernel_rfl, vF_impl_FrmFrame_same x.1 x.2 K hp (fun r h => hk r h)⟩)
theorem vF_impl_FrmOk (f:Frm) (K:List Arg→List (List AC)→Prop) (hp:f.data.length≤LIM) (hk:∀ (r:Bool),(r=decide (FrmP f))→K ([rB.to r]) ([])):if ((f.kind == (1:Int))=true) then ((true=true)∧((true=true)∧((true=true)∧((true=true)∧((true=true)∧((true=true)∧((true=true)∧((true=true)∧((true=true)∧((true=true)∧((true=true)∧((true=true)∧((true=true)∧(True∧(∀ r:Bool,(r=(decide (((0:Int)≤f.seq)∧(f.seq≤(7:Int)))))→(true=true)∧(if (r=true) then ((true=true)∧(True∧(∀ r1:Bool,(r1=(decide (((0:Int)≤f.ack)∧(f.ack≤(7:Int)))))→(true=true)∧(if (r1=true) then ((true=true)∧(True∧(∀ r2:Bool,(r2=(decide (SegP f.seg f.len (((List.length f.data):Nat):Int))))→(true=true)∧(if (r2=true) then ((true=true)∧(((List.length f.data)≤(137438953472:Nat))∧(∀ r3:Bool,(r3=(decide ((Frm.mk f.kind f.seq f.ack false f.final (0:Int) f.seg f.len f.data)=f)))→(true=true)∧((true=true)∧(K [(aB r3)] []))))) else ((true=true)∧(K [(aB false)] [])))))) else ((true=true)∧(K [(aB false)] [])))))) else ((true=true)∧(K [(aB false)] [])))))))))))))))))) else (if ((f.kind == (2:Int))=true) then ((true=true)∧((true=true)∧((true=true)∧((true=true)∧((true=true)∧((true=true)∧((true=true)∧((true=true)∧((true=true)∧(True∧(∀ r:Bool,(r=(decide (((0:Int)≤f.ack)∧(f.ack≤(7:Int)))))→(true=true)∧(if (r=true) then (if (f.poll=true) then (if ((!f.final)=true) then ((true=true)∧(True∧(∀ r1:Bool,(r1=(decide (((0:Int)≤f.say)∧(f.say≤(2:Int)))))→(true=true)∧(if (r1=true) then ((true=true)∧(((List.length ([]:(List Int)))≤(137438953472:Nat))∧(∀ r2:Bool,(r2=(decide ((Frm.mk f.kind (0:Int) f.ack f.poll f.final f.say (0:Int) (0:Int) ([]:(List Int)))=f)))→(true=true)∧((true=true)∧(K [(aB r2)] []))))) else ((true=true)∧(K [(aB false)] [])))))) else ((true=true)∧(K [(aB false)] []))) else ((true=true)∧(True∧(∀ r1:Bool,(r1=(decide (((0:Int)≤f.say)∧(f.say≤(2:Int)))))→(true=true)∧(if (r1=true) then ((true=true)∧(((List.length ([]:(List Int)))≤(137438953472:Nat))∧(∀ r2:Bool,(r2=(decide ((Frm.mk f.kind (0:Int) f.ack f.poll f.final f.say (0:Int) (0:Int) ([]:(List Int)))=f)))→(true=true)∧((true=true)∧(K [(aB r2)] []))))) else ((true=true)∧(K [(aB false)] []))))))) else ((true=true)∧(K [(aB false)] [])))))))))))))) else (if ((f.kind == (3:Int))=true) then ((true=true)∧((true=true)∧((true=true)∧((true=true)∧((true=true)∧((true=true)∧((true=true)∧(True∧(∀ r:Bool,(r=(decide (SegP f.seg f.len (((List.length f.data):Nat):Int))))→(true=true)∧(if (r=true) then ((true=true)∧(((List.length f.data)≤(137438953472:Nat))∧(∀ r1:Bool,(r1=(decide ((Frm.mk f.kind (0:Int) (0:Int) false false (0:Int) f.seg f.len f.data)=f)))→(true=true)∧((true=true)∧(K [(aB r1)] []))))) else ((true=true)∧(K [(aB false)] [])))))))))))) else (if ((f.kind == (4:Int))=true) then ((true=true)∧(True∧(∀ r:Bool,(r=(decide (((1:Int)≤f.len)∧(f.len≤(255:Int)))))→(true=true)∧(if (r=true) then ((true=true)∧(((List.length ([]:(List Int)))≤(137438953472:Nat))∧(∀ r1:Bool,(r1=(decide ((Frm.mk f.kind (0:Int) (0:Int) false false (0:Int) (0:Int) f.len ([]:(List Int)))=f)))→(true=true)∧((true=true)∧(K [(aB r1)] []))))) else ((true=true)∧(K [(aB false)] [])))))) else ((true=true)∧(K [(aB false)] []))))) := by
  obtain ⟨_, _, _, _, _, _, _, _, _⟩ := f

  repeat' first
    | exact rfl
    | trivial
    | apply And.intro
    | (intro r hr; subst hr)
    | intro r
    | exact hp
    | (refine iteI (fun h => ?_) (fun h => ?_))
  all_goals first
    | exact hk _ (by grind [FrmP, IntKind.wrap_i64])
    | omega
theorem w_impl_FrmOk : Valid Try.prog 72 c_impl_FrmOk :=
  valid_ctr2 (V := V_impl_FrmOk) (tysB_ok tys_ok) ⟨(CallsL.cons w_impl_in (CallsL.cons w_impl_isNumber (CallsL.cons w_impl_pieceOk (CallsL.cons w_impl_FrmFrame_same (CallsL.nil _))))), (IosL.nil _)⟩ mixed 0 2 Try.func72 rfl (by kernel_rfl)
    (fun c hc => by
      obtain rfl := Option.some.inj hc
      exact ⟨trivial, ⟨trivial, ⟨trivial, ⟨⟨trivial, ⟨trivial, ⟨⟨trivial, trivial⟩, ⟨trivial, ⟨⟨trivial, trivial⟩, ⟨trivial, ⟨⟨trivial, trivial⟩, ⟨trivial, ⟨⟨trivial, trivial⟩, trivial⟩⟩⟩⟩⟩⟩⟩⟩⟩, ⟨trivial, trivial⟩⟩⟩⟩⟩)
    (fun x K hp hk => ⟨_, by kernel_rfl, vF_impl_FrmOk x K hp (fun r h => hk r h)⟩)
theorem vF_spec_FrmOk (f:Frm) (K:List Arg→List (List AC)→Prop) (hp:True) (hk:∀ (r:Bool),(r=decide (FrmP f))→K ([rB.to r]) ([])):if ((f.kind == (1:Int))=true) then ((true=true)∧(True∧(∀ r:Bool,(r=(decide (((0:Int)≤f.seq)∧(f.seq≤(7:Int)))))→(true=true)∧(if (r=true) then ((true=true)∧(True∧(∀ r1:Bool,(r1=(decide (((0:Int)≤f.ack)∧(f.ack≤(7:Int)))))→(true=true)∧(if (r1=true) then (if ((!f.poll)=true) then (if ((f.say == (0:Int))=true) then ((true=true)∧(True∧(∀ r2:Bool,(r2=(decide (SegP f.seg f.len (((List.length f.data):Nat):Int))))→(true=true)∧((true=true)∧(K [(aB r2)] []))))) else ((true=true)∧(K [(aB false)] []))) else ((true=true)∧(K [(aB false)] []))) else ((true=true)∧(K [(aB false)] [])))))) else ((true=true)∧(K [(aB false)] [])))))) else (if ((f.kind == (2:Int))=true) then (if ((f.seq == (0:Int))=true) then ((true=true)∧(True∧(∀ r:Bool,(r=(decide (((0:Int)≤f.ack)∧(f.ack≤(7:Int)))))→(true=true)∧(if (r=true) then (if (f.poll=true) then (if ((!f.final)=true) then ((true=true)∧(True∧(∀ r1:Bool,(r1=(decide (((0:Int)≤f.say)∧(f.say≤(2:Int)))))→(true=true)∧(if (r1=true) then (if ((f.seg == (0:Int))=true) then (if ((f.len == (0:Int))=true) then ((true=true)∧(K [(aB ((((List.length f.data):Nat):Int) == (0:Int)))] [])) else ((true=true)∧(K [(aB false)] []))) else ((true=true)∧(K [(aB false)] []))) else ((true=true)∧(K [(aB false)] [])))))) else ((true=true)∧(K [(aB false)] []))) else ((true=true)∧(True∧(∀ r1:Bool,(r1=(decide (((0:Int)≤f.say)∧(f.say≤(2:Int)))))→(true=true)∧(if (r1=true) then (if ((f.seg == (0:Int))=true) then (if ((f.len == (0:Int))=true) then ((true=true)∧(K [(aB ((((List.length f.data):Nat):Int) == (0:Int)))] [])) else ((true=true)∧(K [(aB false)] []))) else ((true=true)∧(K [(aB false)] []))) else ((true=true)∧(K [(aB false)] []))))))) else ((true=true)∧(K [(aB false)] [])))))) else ((true=true)∧(K [(aB false)] []))) else (if ((f.kind == (3:Int))=true) then (if ((f.seq == (0:Int))=true) then (if ((f.ack == (0:Int))=true) then (if ((!f.poll)=true) then (if ((!f.final)=true) then (if ((f.say == (0:Int))=true) then ((true=true)∧(True∧(∀ r:Bool,(r=(decide (SegP f.seg f.len (((List.length f.data):Nat):Int))))→(true=true)∧((true=true)∧(K [(aB r)] []))))) else ((true=true)∧(K [(aB false)] []))) else ((true=true)∧(K [(aB false)] []))) else ((true=true)∧(K [(aB false)] []))) else ((true=true)∧(K [(aB false)] []))) else ((true=true)∧(K [(aB false)] []))) else (if ((f.kind == (4:Int))=true) then (if ((f.seq == (0:Int))=true) then (if ((f.ack == (0:Int))=true) then (if ((!f.poll)=true) then (if ((!f.final)=true) then (if ((f.say == (0:Int))=true) then (if ((f.seg == (0:Int))=true) then ((true=true)∧(True∧(∀ r:Bool,(r=(decide (((1:Int)≤f.len)∧(f.len≤(255:Int)))))→(true=true)∧(if (r=true) then ((true=true)∧(K [(aB ((((List.length f.data):Nat):Int) == (0:Int)))] [])) else ((true=true)∧(K [(aB false)] [])))))) else ((true=true)∧(K [(aB false)] []))) else ((true=true)∧(K [(aB false)] []))) else ((true=true)∧(K [(aB false)] []))) else ((true=true)∧(K [(aB false)] []))) else ((true=true)∧(K [(aB false)] []))) else ((true=true)∧(K [(aB false)] []))) else ((true=true)∧(K [(aB false)] []))))) := by
  repeat' first
    | exact rfl
    | trivial
    | apply And.intro
    | (intro r hr; subst hr)
    | intro r
    | exact hp
    | (refine iteI (fun h => ?_) (fun h => ?_))
  all_goals first
    | exact hk _ (by grind [FrmP, IntKind.wrap_i64])
    | omega
theorem w_spec_FrmOk : Valid Try.prog 68 c_spec_FrmOk :=
  valid_ctr2 (V := V_spec_FrmOk) (tysB_ok tys_ok) ⟨(CallsL.cons w_spec_l1In (CallsL.cons w_spec_l2Seg (CallsL.nil _))), (IosL.nil _)⟩ mixed 0 1 Try.func68 rfl (by kernel_rfl)
    (fun c hc => by
      obtain rfl := Option.some.inj hc
      exact ⟨trivial, ⟨⟨trivial, ⟨trivial, ⟨⟨trivial, trivial⟩, ⟨trivial, ⟨⟨trivial, trivial⟩, ⟨trivial, ⟨⟨trivial, trivial⟩, trivial⟩⟩⟩⟩⟩⟩⟩, ⟨trivial, trivial⟩⟩⟩)
    (fun x K hp hk => ⟨_, by kernel_rfl, vF_spec_FrmOk x K hp (fun r h => hk r h)⟩)
end Go.Proofs.YtdahhphhblbfdaaE
