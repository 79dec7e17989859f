/- A part of the proof of laws of the program: what calls of the program answer. Conditions: none. -/
import Derived.Test.YtkencmgcibbfaaaMebfc5d26
set_option linter.unusedVariables false
set_option linter.unusedSimpArgs false
set_option linter.unusedSectionVars false
/- Contracts: Y3. Conditions: none. -/
set_option linter.unusedVariables false
set_option maxHeartbeats 1600000
namespace Go.Proofs.YtkencmgcibbfaaaE
open Go
structure EndP (c : Cfg) (e : EndS) : Prop where
  tx : TxP c e.tx
  rx : RxP e.rx
  ct : CtP c e.ctx
  cr : CrP e.crx
  pt : e.put.length ≤ 60 ∧ e.put.any bigB = false
  gt : e.got.length ≤ 60 ∧ e.got.any bigB = false
instance (c : Cfg) (e : EndS) : Decidable (EndP c e) := decidable_of_iff (TxP c e.tx ∧ RxP e.rx ∧ CtP c e.ctx ∧ CrP e.crx ∧ (e.put.length ≤ 60 ∧ e.put.any bigB = false) ∧ (e.got.length ≤ 60 ∧ e.got.any bigB = false)) ⟨fun h => ⟨h.1, h.2.1, h.2.2.1, h.2.2.2.1, h.2.2.2.2.1, h.2.2.2.2.2⟩, fun h => ⟨h.tx, h.rx, h.ct, h.cr, h.pt, h.gt⟩⟩
structure OkAt (w : WldS) (i : Nat) : Prop where
  e : EndP w.cfg (at_wend w.ends i)
  n : (at_nets w.net i).length ≤ 30 ∧ (at_nets w.net i).any bigN = false
instance (w : WldS) (i : Nat) : Decidable (OkAt w i) := decidable_of_iff (EndP w.cfg (at_wend w.ends i) ∧ (at_nets w.net i).length ≤ 30 ∧ (at_nets w.net i).any bigN = false) ⟨fun h => ⟨h.1, h.2⟩, fun h => ⟨h.e, h.n⟩⟩
structure WldP (w : WldS) : Prop where
  cfg : CfgP w.cfg
  el : w.ends.length = 2
  nl : w.net.length = 2
  ln : 0 ≤ w.link ∧ w.link ≤ 1
  ok : OkAt w 0 ∧ OkAt w 1
instance (w : WldS) : Decidable (WldP w) := decidable_of_iff (CfgP w.cfg ∧ w.ends.length = 2 ∧ w.net.length = 2 ∧ (0 ≤ w.link ∧ w.link ≤ 1) ∧ OkAt w 0 ∧ OkAt w 1) ⟨fun h => ⟨h.1, h.2.1, h.2.2.1, h.2.2.2.1, h.2.2.2.2⟩, fun h => ⟨h.cfg, h.el, h.nl, h.ln, h.ok⟩⟩
theorem ok_two {w : WldS} : (∀ j : Nat, j < 2 → OkAt w j) ↔ OkAt w 0 ∧ OkAt w 1 := by
  constructor
  · intro h
    exact ⟨h 0 (by omega), h 1 (by omega)⟩
  · rintro ⟨h0, h1⟩ j hj
    match j with
    | 0 => exact h0
    | 1 => exact h1
    | j + 2 => omega

/-! impl.WldOk$1 -/
def c_impl_WldOk_1 : Ent := ctr (α := (NetS)) (ρ := (Bool)) [] [] (rs1 rNet) (fun x_ => (fun (m : NetS) => (True)) x_) (fun x_ r_ => (fun x_ => (fun (m : NetS) => ((fun r_ => (fun (r : Bool) => (r = bigN m)) r_))) x_) x_ r_) (fun r_ => (fun (r : Bool) => ([rB.to r])) r_) (fun r_ => (fun (r : Bool) => ([])) r_)
def V_impl_WldOk_1 : Env := ⟨tys, [], [], [(1, 0)], [], [], [], [], []⟩
/-! impl.sdusOk$1 -/
def c_impl_sdusOk_1 : Ent := ctr (α := (List Int)) (ρ := (Bool)) [] [] (rs1 rBytes) (fun x_ => (fun (b : List Int) => (True)) x_) (fun x_ r_ => (fun x_ => (fun (b : List Int) => ((fun r_ => (fun (r : Bool) => (r = bigB b)) r_))) x_) x_ r_) (fun r_ => (fun (r : Bool) => ([rB.to r])) r_) (fun r_ => (fun (r : Bool) => ([])) r_)
def V_impl_sdusOk_1 : Env := ⟨tys, [], [], [], [], [], [], [], []⟩
/-! slices.IndexFunc[[]impl.NetMsg,impl.NetMsg] -/
def c_slices_IndexFunc_impl_NetMsg_impl_NetMsg : Ent := ctr (α := (List NetS)) (ρ := (Int)) [] [] (rs1 (rR .netm)) (fun x_ => (fun (l : List NetS) => (l.length ≤ LIM)) x_) (fun x_ r_ => (fun x_ => (fun (l : List NetS) => ((fun r_ => (fun (r : Int) => (decide (r ≥ 0) = l.any bigN)) r_))) x_) x_ r_) (fun r_ => (fun (r : Int) => ([rInt.to r])) r_) (fun r_ => (fun (r : Int) => ([])) r_) (some (35, false))
def l_slices_IndexFunc_impl_NetMsg_impl_NetMsg_0 : LoopD ((List NetS) × (Int) × (Int)) ((Unit)) ((Int)) where
  n := 19
  head := ⟨[0, 1, 7, 8], [], []⟩
  st := fun x_ => (fun (l : List NetS) (m : Int) (i : Int) => (⟨true, [(0, .v false [.d (.r .netm l)]), (1, .fn 35 none), (7, num .i64 m), (8, num .i64 i)], [], []⟩)) x_.1 x_.2.1 x_.2.2
  pre := fun x_ => (fun (l : List NetS) (m : Int) (i : Int) => (l.length ≤ LIM ∧ m = l.length ∧ i = 0)) x_.1 x_.2.1 x_.2.2
  nk := ⟨[], [], []⟩
  nst := fun r_ => (fun (u : Unit) => (⟨true, [], [], []⟩)) r_
  npost := fun x_ r_ => (fun x_ => (fun (l0 : List NetS) (m0 : Int) (i0 : Int) => ((fun r_ => (fun (u : Unit) => (l0.any bigN = false)) r_))) x_.1 x_.2.1 x_.2.2) x_ r_
  rk := ⟨[4], [], []⟩
  rst := fun r_ => (fun (i : Int) => (⟨true, [(4, num .i64 i)], [], []⟩)) r_
  rpost := fun x_ r_ => (fun x_ => (fun (l0 : List NetS) (m0 : Int) (i0 : Int) => ((fun r_ => (fun (i : Int) => (0 ≤ i ∧ l0.any bigN = true)) r_))) x_.1 x_.2.1 x_.2.2) x_ r_
def i_slices_IndexFunc_impl_NetMsg_impl_NetMsg_0 (x : (List NetS) × (Int) × (Int)) (n : Nat) (s : (List NetS) × (Int) × (Int)) : Prop := (fun x_ => (fun (l0 : List NetS) (m0 : Int) (i0 : Int) => ((fun s_ => (fun (l : List NetS) (m : Int) (i : Int) => (l = l0 ∧ m = l.length ∧ l.length ≤ LIM ∧ 0 ≤ i ∧ i + n = l.length ∧ (l.take i.toNat).any bigN = false)) s_.1 s_.2.1 s_.2.2))) x_.1 x_.2.1 x_.2.2) x s
def V_slices_IndexFunc_impl_NetMsg_impl_NetMsg : Env := ⟨tys, [(35, c_impl_WldOk_1)], [], [], [], [(0, l_slices_IndexFunc_impl_NetMsg_impl_NetMsg_0.L)], [], [], []⟩
/-! slices.ContainsFunc[[]impl.NetMsg,impl.NetMsg] -/
def c_slices_ContainsFunc_impl_NetMsg_impl_NetMsg : Ent := ctr (α := (List NetS)) (ρ := (Bool)) [] [] (rs1 (rR .netm)) (fun x_ => (fun (l : List NetS) => (l.length ≤ LIM)) x_) (fun x_ r_ => (fun x_ => (fun (l : List NetS) => ((fun r_ => (fun (r : Bool) => (r = l.any bigN)) r_))) x_) x_ r_) (fun r_ => (fun (r : Bool) => ([rB.to r])) r_) (fun r_ => (fun (r : Bool) => ([])) r_) (some (35, false))
def V_slices_ContainsFunc_impl_NetMsg_impl_NetMsg : Env := ⟨tys, [(57, c_slices_IndexFunc_impl_NetMsg_impl_NetMsg)], [], [], [], [], [], [], []⟩
/-! slices.IndexFunc[[][]byte,[]byte] -/
def c_slices_IndexFunc_byte_byte : Ent := ctr (α := (List (List Int))) (ρ := (Int)) [] [] (rs1 (rR .byr)) (fun x_ => (fun (l : List (List Int)) => (l.length ≤ LIM)) x_) (fun x_ r_ => (fun x_ => (fun (l : List (List Int)) => ((fun r_ => (fun (r : Int) => (decide (r ≥ 0) = l.any bigB)) r_))) x_) x_ r_) (fun r_ => (fun (r : Int) => ([rInt.to r])) r_) (fun r_ => (fun (r : Int) => ([])) r_) (some (56, false))
def l_slices_IndexFunc_byte_byte_0 : LoopD ((List (List Int)) × (Int) × (Int)) ((Unit)) ((Int)) where
  n := 19
  head := ⟨[0, 1, 7, 8], [], []⟩
  st := fun x_ => (fun (l : List (List Int)) (m : Int) (i : Int) => (⟨true, [(0, .v false [.d (.r .byr l)]), (1, .fn 56 none), (7, num .i64 m), (8, num .i64 i)], [], []⟩)) x_.1 x_.2.1 x_.2.2
  pre := fun x_ => (fun (l : List (List Int)) (m : Int) (i : Int) => (l.length ≤ LIM ∧ m = l.length ∧ i = 0)) x_.1 x_.2.1 x_.2.2
  nk := ⟨[], [], []⟩
  nst := fun r_ => (fun (u : Unit) => (⟨true, [], [], []⟩)) r_
  npost := fun x_ r_ => (fun x_ => (fun (l0 : List (List Int)) (m0 : Int) (i0 : Int) => ((fun r_ => (fun (u : Unit) => (l0.any bigB = false)) r_))) x_.1 x_.2.1 x_.2.2) x_ r_
  rk := ⟨[4], [], []⟩
  rst := fun r_ => (fun (i : Int) => (⟨true, [(4, num .i64 i)], [], []⟩)) r_
  rpost := fun x_ r_ => (fun x_ => (fun (l0 : List (List Int)) (m0 : Int) (i0 : Int) => ((fun r_ => (fun (i : Int) => (0 ≤ i ∧ l0.any bigB = true)) r_))) x_.1 x_.2.1 x_.2.2) x_ r_
def i_slices_IndexFunc_byte_byte_0 (x : (List (List Int)) × (Int) × (Int)) (n : Nat) (s : (List (List Int)) × (Int) × (Int)) : Prop := (fun x_ => (fun (l0 : List (List Int)) (m0 : Int) (i0 : Int) => ((fun s_ => (fun (l : List (List Int)) (m : Int) (i : Int) => (l = l0 ∧ m = l.length ∧ l.length ≤ LIM ∧ 0 ≤ i ∧ i + n = l.length ∧ (l.take i.toNat).any bigB = false)) s_.1 s_.2.1 s_.2.2))) x_.1 x_.2.1 x_.2.2) x s
def V_slices_IndexFunc_byte_byte : Env := ⟨tys, [(56, c_impl_sdusOk_1)], [], [], [], [(0, l_slices_IndexFunc_byte_byte_0.L)], [], [], []⟩
/-! slices.ContainsFunc[[][]byte,[]byte] -/
def c_slices_ContainsFunc_byte_byte : Ent := ctr (α := (List (List Int))) (ρ := (Bool)) [] [] (rs1 (rR .byr)) (fun x_ => (fun (l : List (List Int)) => (l.length ≤ LIM)) x_) (fun x_ r_ => (fun x_ => (fun (l : List (List Int)) => ((fun r_ => (fun (r : Bool) => (r = l.any bigB)) r_))) x_) x_ r_) (fun r_ => (fun (r : Bool) => ([rB.to r])) r_) (fun r_ => (fun (r : Bool) => ([])) r_) (some (56, false))
def V_slices_ContainsFunc_byte_byte : Env := ⟨tys, [(73, c_slices_IndexFunc_byte_byte)], [], [], [], [], [], [], []⟩
/-! impl.sdusOk -/
def c_impl_sdusOk : Ent := ctr (α := (List (List Int))) (ρ := (Bool)) [] [] (rs1 (rR .byr)) (fun x_ => (fun (l : List (List Int)) => (l.length ≤ LIM)) x_) (fun x_ r_ => (fun x_ => (fun (l : List (List Int)) => ((fun r_ => (fun (r : Bool) => (r = decide (l.length ≤ 60 ∧ l.any bigB = false))) r_))) x_) x_ r_) (fun r_ => (fun (r : Bool) => ([rB.to r])) r_) (fun r_ => (fun (r : Bool) => ([])) r_)
def V_impl_sdusOk : Env := ⟨tys, [(55, c_slices_ContainsFunc_byte_byte)], [], [], [], [], [500006], [], []⟩
/-! impl.WldOk -/
def c_impl_WldOk : Ent := ctr (α := (WldS)) (ρ := (Bool)) [] [] (rs1 rWld) (fun x_ => (fun (w : WldS) => (WldM 1048576 w)) x_) (fun x_ r_ => (fun x_ => (fun (w : WldS) => ((fun r_ => (fun (r : Bool) => (r = decide (WldP w))) r_))) x_) x_ r_) (fun r_ => (fun (r : Bool) => ([rB.to r])) r_) (fun r_ => (fun (r : Bool) => ([])) r_)
def l_impl_WldOk_0 : LoopD ((WldS) × (Int) × (Int)) ((Unit)) ((Unit)) where
  n := 91
  head := ⟨[1, 28, 29, 30], [0], []⟩
  st := fun x_ => (fun (w : WldS) (m : Int) (i : Int) => (⟨true, [(1, .pb 0 1 0), (28, .v false [.d (.r .wend w.ends)]), (29, num .i64 m), (30, num .i64 i)], [], [⟨1, some ((wldC w).map .d)⟩, ⟨0, none⟩]⟩)) x_.1 x_.2.1 x_.2.2
  pre := fun x_ => (fun (w : WldS) (m : Int) (i : Int) => (WldM 1048576 w ∧ w.ends.length = 2 ∧ w.net.length = 2 ∧ m = 2 ∧ i = 0)) x_.1 x_.2.1 x_.2.2
  nk := ⟨[], [], []⟩
  nst := fun r_ => (fun (u : Unit) => (⟨true, [], [], [⟨0, none⟩, ⟨0, none⟩]⟩)) r_
  npost := fun x_ r_ => (fun x_ => (fun (w0 : WldS) (m0 : Int) (i0 : Int) => ((fun r_ => (fun (u : Unit) => (∀ j : Nat, j < 2 → OkAt w0 j)) r_))) x_.1 x_.2.1 x_.2.2) x_ r_
  rk := ⟨[2], [], []⟩
  rst := fun r_ => (fun (u : Unit) => (⟨true, [(2, boo false)], [], [⟨0, none⟩, ⟨0, none⟩]⟩)) r_
  rpost := fun x_ r_ => (fun x_ => (fun (w0 : WldS) (m0 : Int) (i0 : Int) => ((fun r_ => (fun (u : Unit) => (¬ ∀ j : Nat, j < 2 → OkAt w0 j)) r_))) x_.1 x_.2.1 x_.2.2) x_ r_
def i_impl_WldOk_0 (x : (WldS) × (Int) × (Int)) (n : Nat) (s : (WldS) × (Int) × (Int)) : Prop := (fun x_ => (fun (w0 : WldS) (m0 : Int) (i0 : Int) => ((fun s_ => (fun (w : WldS) (m : Int) (i : Int) => (w = w0 ∧ m = 2 ∧ WldM 1048576 w ∧ w.ends.length = 2 ∧ w.net.length = 2 ∧ 0 ≤ i ∧ i + n = 2 ∧ ∀ j : Nat, j < i.toNat → OkAt w j)) s_.1 s_.2.1 s_.2.2))) x_.1 x_.2.1 x_.2.2) x s
def V_impl_WldOk : Env := ⟨tys, [(20, c_impl_CfgOk), (28, c_impl_in), (29, c_impl_TxOk), (30, c_impl_RxOk), (31, c_impl_CrdTxOk), (32, c_impl_CrdRxOk), (33, c_impl_sdusOk), (34, c_slices_ContainsFunc_impl_NetMsg_impl_NetMsg)], [], [(1, 0), (4, 1)], [], [(0, l_impl_WldOk_0.L)], [500009, 500015, 500021, 500041, 500047, 500055, 500061, 500067, 500073, 500082], [], []⟩
end Go.Proofs.YtkencmgcibbfaaaE

/- Calls answer what is promised: Y3. Conditions: none. -/
set_option linter.unusedVariables false
set_option maxHeartbeats 1600000
namespace Go.Proofs.YtkencmgcibbfaaaE
open Go
theorem vF_impl_WldOk_1 (m:NetS) (K:List Arg→List (List AC)→Prop) (hp:True) (hk:∀ (r:Bool),(r=bigN m)→K ([rB.to r]) ([])):(true=true)∧(K [(aB (decide ((((List.length m.bytes):Nat):Int) > (15:Int))))] []) := by
  repeat' first
    | exact rfl
    | exact True.intro
    | with_reducible apply And.intro
    | (with_reducible intro y_ hy_; subst hy_)
    | with_reducible intro y_
    | (refine iteI (fun h => ?_) (fun h => ?_))
  all_goals try simp only [Bool.not_eq_true', decide_eq_false_iff_not, decide_eq_true_eq, Bool.not_eq_true, bne_iff_ne, beq_iff_eq, ne_eq, Decidable.not_not, Bool.not_eq_false, gt_iff_lt, ge_iff_le, Int.not_le, Int.not_lt, beq_eq_false_iff_ne, bne_eq_false_iff_eq, Bool.and_eq_true, Bool.or_eq_true, Bool.true_eq_false, Bool.false_eq_true] at *
  all_goals try simp (disch := first | omega | grind [bigN]) only [wr] at *
  all_goals first
    | assumption
    | omega
    | exact hk _ (by grind [bigN])
    | (simp only [LIM] at *; omega)
    | grind [bigN, LIM]
theorem w_impl_WldOk_1 : Valid Try.prog 35 c_impl_WldOk_1 :=
  valid_ctr2 (V := V_impl_WldOk_1) (tysB_ok tys_ok) ⟨(CallsL.nil _), (IosL.nil _)⟩ mixed 0 1 Try.func35 rfl (by kernel_rfl)
    (fun c hc => by
      obtain rfl := Option.some.inj hc
      exact ⟨trivial, ⟨trivial, trivial⟩⟩)
    (fun x K hp hk => ⟨_, by kernel_rfl, vF_impl_WldOk_1 x K hp (fun r h => hk r h)⟩)
theorem vF_impl_sdusOk_1 (b:List Int) (K:List Arg→List (List AC)→Prop) (hp:True) (hk:∀ (r:Bool),(r=bigB b)→K ([rB.to r]) ([])):(true=true)∧(K [(aB (decide ((((List.length b):Nat):Int) > (24:Int))))] []) := by
  repeat' first
    | exact rfl
    | exact True.intro
    | with_reducible apply And.intro
    | (with_reducible intro y_ hy_; subst hy_)
    | with_reducible intro y_
    | (refine iteI (fun h => ?_) (fun h => ?_))
  all_goals try simp only [Bool.not_eq_true', decide_eq_false_iff_not, decide_eq_true_eq, Bool.not_eq_true, bne_iff_ne, beq_iff_eq, ne_eq, Decidable.not_not, Bool.not_eq_false, gt_iff_lt, ge_iff_le, Int.not_le, Int.not_lt, beq_eq_false_iff_ne, bne_eq_false_iff_eq, Bool.and_eq_true, Bool.or_eq_true, Bool.true_eq_false, Bool.false_eq_true] at *
  all_goals try simp (disch := first | omega | grind [bigB]) only [wr] at *
  all_goals first
    | assumption
    | omega
    | exact hk _ (by grind [bigB])
    | (simp only [LIM] at *; omega)
    | grind [bigB, LIM]
theorem w_impl_sdusOk_1 : Valid Try.prog 56 c_impl_sdusOk_1 :=
  valid_ctr2 (V := V_impl_sdusOk_1) (tysB_ok tys_ok) ⟨(CallsL.nil _), (IosL.nil _)⟩ mixed 0 0 Try.func56 rfl (by kernel_rfl)
    (fun c hc => by
      obtain rfl := Option.some.inj hc
      exact ⟨trivial, ⟨trivial, trivial⟩⟩)
    (fun x K hp hk => ⟨_, by kernel_rfl, vF_impl_sdusOk_1 x K hp (fun r h => hk r h)⟩)
theorem vF_slices_IndexFunc_impl_NetMsg_impl_NetMsg (l:List NetS) (K:List Arg→List (List AC)→Prop) (hp:l.length≤LIM) (hk:∀ (r:Int),(decide (r ≥ 0)=l.any bigN)→K ([rInt.to r]) ([])):∃ s:(Prod (List NetS) (Prod Int Int)),((KS.mk true [(Prod.mk (0:Nat) (T.v false [(Cm.d (D.r RK.netm l))])),(Prod.mk (1:Nat) (T.fn (35:Nat) (Option.none))),(Prod.mk (7:Nat) (num IntKind.i64 (((List.length l):Nat):Int))),(Prod.mk (8:Nat) (num IntKind.i64 (0:Int)))] [] [])=(KS.mk true [(Prod.mk (0:Nat) (T.v false [(Cm.d (D.r RK.netm s.fst))])),(Prod.mk (1:Nat) (T.fn (35:Nat) (Option.none))),(Prod.mk (7:Nat) (num IntKind.i64 s.snd.fst)),(Prod.mk (8:Nat) (num IntKind.i64 s.snd.snd))] [] []))∧((((List.length s.fst)≤(137438953472:Nat))∧((s.snd.fst=(((List.length s.fst):Nat):Int))∧(s.snd.snd=(0:Int))))∧((∀ r:Unit,((List.any s.fst bigN)=false)→(true=true)∧(K [(aI IntKind.i64 (-1:Int))] []))∧(∀ r:Int,(((0:Int)≤r)∧((List.any s.fst bigN)=true))→(true=true)∧(K [(aI IntKind.i64 r)] [])))) := by
  refine ⟨(l, (l.length : Int), 0), rfl, ⟨hp, rfl, rfl⟩, ?_, ?_⟩
  · intro u h
    exact ⟨by trivial, hk (-1) (by rw [show l.any _ = false from h]; rfl)⟩
  · rintro i ⟨h0, h⟩
    exact ⟨by trivial, hk i (by dsimp only at h h0; rw [h]; simpa using h0)⟩
theorem vL_slices_IndexFunc_impl_NetMsg_impl_NetMsg_0 (l0:List NetS) (m0:Int) (i0:Int) (l:List NetS) (m:Int) (i:Int) (n:Nat) (hp:(fun (l:List NetS) (m:Int) (i:Int) => (l.length≤LIM∧m=l.length∧i=0)) l0 m0 i0) (hi:l=l0∧m=l.length∧l.length≤LIM∧0≤i∧i + n=l.length∧(l.take i.toNat).any bigN=false):if ((decide (i < m))=true) then ((((0:Int)≤i)∧(i < (((List.length l):Nat):Int)))∧((true=true)∧(True∧(∀ r:Bool,(r=(bigN (at_netm l (Int.toNat i))))→(true=true)∧(if (r=true) then (∃ r1:Int,((KS.mk true [(Prod.mk (4:Nat) (num IntKind.i64 i))] [] [])=(KS.mk true [(Prod.mk (4:Nat) (num IntKind.i64 r1))] [] []))∧(((0:Int)≤r1)∧((List.any l0 bigN)=true))) else (∃ s:(Prod (List NetS) (Prod Int Int)),((KS.mk true [(Prod.mk (0:Nat) (T.v false [(Cm.d (D.r RK.netm l))])),(Prod.mk (1:Nat) (T.fn (35:Nat) (Option.none))),(Prod.mk (7:Nat) (num IntKind.i64 m)),(Prod.mk (8:Nat) (num IntKind.i64 (IntKind.wrap IntKind.i64 (i + (1:Int)))))] [] [])=(KS.mk true [(Prod.mk (0:Nat) (T.v false [(Cm.d (D.r RK.netm s.fst))])),(Prod.mk (1:Nat) (T.fn (35:Nat) (Option.none))),(Prod.mk (7:Nat) (num IntKind.i64 s.snd.fst)),(Prod.mk (8:Nat) (num IntKind.i64 s.snd.snd))] [] []))∧(∃ m1:Nat,(m1 < n)∧((s.fst=l0)∧((s.snd.fst=(((List.length s.fst):Nat):Int))∧(((List.length s.fst)≤(137438953472:Nat))∧(((0:Int)≤s.snd.snd)∧(((s.snd.snd + ((m1:Nat):Int))=(((List.length s.fst):Nat):Int))∧((List.any (List.take (Int.toNat s.snd.snd) s.fst) bigN)=false))))))))))))) else (∃ r:Unit,((KS.mk true [] [] [])=(KS.mk true [] [] []))∧((List.any l0 bigN)=false)) := by
  try dsimp only at hp
  obtain ⟨rfl, rfl, h1, h2, h3, h4⟩ := hi
  have hL : l.length ≤ 137438953472 := h1
  obtain ⟨i, rfl⟩ : ∃ k : Nat, i = k := ⟨i.toNat, by omega⟩
  rw [wr (x := (i : Int) + 1) (by omega) (by omega)]
  simp only [Int.toNat_natCast] at h4 ⊢
  refine iteI (fun h => ?_) (fun h => ?_)
  · have hi : i < l.length := by simp at h; omega
    have e : l.take (i + 1) = l.take i ++ [at_netm l i] := take_at .netm l i hi
    repeat' first
      | exact rfl
      | exact True.intro
      | with_reducible apply And.intro
      | (with_reducible intro r hr; subst r)
      | omega
    all_goals first
      | (refine iteI (fun hx => ?_) (fun hx => ?_)
         · exact ⟨(i : Int), rfl, by (try dsimp only); omega, List.any_eq_true.2 ⟨at_netm l i, at_mem .netm l i hi, hx⟩⟩
         · refine ⟨(l, (l.length : Int), (i : Int) + 1), rfl, n - 1, by omega, rfl, rfl, h1, by (try dsimp only); omega, by (try dsimp only); omega, ?_⟩
           show (l.take ((i : Int) + 1).toNat).any bigN = false
           have hx' : bigN (at_netm l i) = false := by simpa using hx
           rw [show ((i : Int) + 1).toNat = i + 1 by omega, e, List.any_append, h4]; simp [hx'])
  · refine ⟨(), by trivial, ?_⟩
    have hi : i = l.length := by simp at h; omega
    subst hi
    rw [List.take_length] at h4
    exact h4
theorem vS_slices_IndexFunc_impl_NetMsg_impl_NetMsg_0 (l0 : List NetS) (m0 : Int) (i0 : Int) (hp : (fun (l : List NetS) (m : Int) (i : Int) => (l.length ≤ LIM ∧ m = l.length ∧ i = 0)) l0 m0 i0) : ∃ n : Nat, (fun (l : List NetS) (m : Int) (i : Int) => (l = l0 ∧ m = l.length ∧ l.length ≤ LIM ∧ 0 ≤ i ∧ i + n = l.length ∧ (l.take i.toNat).any bigN = false)) l0 m0 i0 := by
  try dsimp only at hp
  try dsimp only
  obtain ⟨h1, rfl, rfl⟩ := hp
  exact ⟨l0.length, rfl, rfl, h1, by omega, by omega, rfl⟩
theorem w_slices_IndexFunc_impl_NetMsg_impl_NetMsg : Valid Try.prog 57 c_slices_IndexFunc_impl_NetMsg_impl_NetMsg :=
  valid_ctr2 (V := V_slices_IndexFunc_impl_NetMsg_impl_NetMsg) (tysB_ok tys_ok) ⟨(CallsL.cons w_impl_WldOk_1 (CallsL.nil _)), (IosL.nil _)⟩ mixed 0 0 Try.func57 rfl (by kernel_rfl)
    (fun c hc => by
      obtain rfl := Option.some.inj hc
      exact ⟨trivial, ⟨⟨trivial, ⟨LoopD.ok2 (V := V_slices_IndexFunc_impl_NetMsg_impl_NetMsg) l_slices_IndexFunc_impl_NetMsg_impl_NetMsg_0 (LoopsM.cons 0 l_slices_IndexFunc_impl_NetMsg_impl_NetMsg_0 LoopsM.nil) 0 _ i_slices_IndexFunc_impl_NetMsg_impl_NetMsg_0 (fun x hx => vS_slices_IndexFunc_impl_NetMsg_impl_NetMsg_0 x.1 x.2.1 x.2.2 hx) (fun x hx n s hi => ⟨_, by kernel_rfl, vL_slices_IndexFunc_impl_NetMsg_impl_NetMsg_0 x.1 x.2.1 x.2.2 s.1 s.2.1 s.2.2 n hx hi⟩), ⟨trivial, ⟨⟨trivial, trivial⟩, ⟨⟨trivial, ⟨trivial, ⟨⟨trivial, trivial⟩, trivial⟩⟩⟩, trivial⟩⟩⟩⟩⟩, ⟨trivial, trivial⟩⟩⟩)
    (fun x K hp hk => ⟨_, by kernel_rfl, vF_slices_IndexFunc_impl_NetMsg_impl_NetMsg x K hp (fun r h => hk r h)⟩)
theorem vF_slices_ContainsFunc_impl_NetMsg_impl_NetMsg (l:List NetS) (K:List Arg→List (List AC)→Prop) (hp:l.length≤LIM) (hk:∀ (r:Bool),(r=l.any bigN)→K ([rB.to r]) ([])):(true=true)∧(((List.length l)≤(137438953472:Nat))∧(∀ r:Int,((decide (r ≥ (0:Int)))=(List.any l bigN))→(true=true)∧((true=true)∧(K [(aB (decide (r ≥ (0:Int))))] [])))) := by
  refine ⟨by trivial, hp, fun r h => ?_⟩
  exact ⟨by trivial, by trivial, hk _ h⟩
theorem w_slices_ContainsFunc_impl_NetMsg_impl_NetMsg : Valid Try.prog 34 c_slices_ContainsFunc_impl_NetMsg_impl_NetMsg :=
  valid_ctr2 (V := V_slices_ContainsFunc_impl_NetMsg_impl_NetMsg) (tysB_ok tys_ok) ⟨(CallsL.cons w_slices_IndexFunc_impl_NetMsg_impl_NetMsg (CallsL.nil _)), (IosL.nil _)⟩ mixed 0 0 Try.func34 rfl (by kernel_rfl)
    (fun c hc => by
      obtain rfl := Option.some.inj hc
      exact ⟨trivial, ⟨trivial, trivial⟩⟩)
    (fun x K hp hk => ⟨_, by kernel_rfl, vF_slices_ContainsFunc_impl_NetMsg_impl_NetMsg x K hp (fun r h => hk r h)⟩)
theorem vF_slices_IndexFunc_byte_byte (l:List (List Int)) (K:List Arg→List (List AC)→Prop) (hp:l.length≤LIM) (hk:∀ (r:Int),(decide (r ≥ 0)=l.any bigB)→K ([rInt.to r]) ([])):∃ s:(Prod (List (List Int)) (Prod Int Int)),((KS.mk true [(Prod.mk (0:Nat) (T.v false [(Cm.d (D.r RK.byr l))])),(Prod.mk (1:Nat) (T.fn (56:Nat) (Option.none))),(Prod.mk (7:Nat) (num IntKind.i64 (((List.length l):Nat):Int))),(Prod.mk (8:Nat) (num IntKind.i64 (0:Int)))] [] [])=(KS.mk true [(Prod.mk (0:Nat) (T.v false [(Cm.d (D.r RK.byr s.fst))])),(Prod.mk (1:Nat) (T.fn (56:Nat) (Option.none))),(Prod.mk (7:Nat) (num IntKind.i64 s.snd.fst)),(Prod.mk (8:Nat) (num IntKind.i64 s.snd.snd))] [] []))∧((((List.length s.fst)≤(137438953472:Nat))∧((s.snd.fst=(((List.length s.fst):Nat):Int))∧(s.snd.snd=(0:Int))))∧((∀ r:Unit,((List.any s.fst bigB)=false)→(true=true)∧(K [(aI IntKind.i64 (-1:Int))] []))∧(∀ r:Int,(((0:Int)≤r)∧((List.any s.fst bigB)=true))→(true=true)∧(K [(aI IntKind.i64 r)] [])))) := by
  refine ⟨(l, (l.length : Int), 0), rfl, ⟨hp, rfl, rfl⟩, ?_, ?_⟩
  · intro u h
    exact ⟨by trivial, hk (-1) (by rw [show l.any _ = false from h]; rfl)⟩
  · rintro i ⟨h0, h⟩
    exact ⟨by trivial, hk i (by dsimp only at h h0; rw [h]; simpa using h0)⟩
theorem vL_slices_IndexFunc_byte_byte_0 (l0:List (List Int)) (m0:Int) (i0:Int) (l:List (List Int)) (m:Int) (i:Int) (n:Nat) (hp:(fun (l:List (List Int)) (m:Int) (i:Int) => (l.length≤LIM∧m=l.length∧i=0)) l0 m0 i0) (hi:l=l0∧m=l.length∧l.length≤LIM∧0≤i∧i + n=l.length∧(l.take i.toNat).any bigB=false):if ((decide (i < m))=true) then ((((0:Int)≤i)∧(i < (((List.length l):Nat):Int)))∧((true=true)∧(True∧(∀ r:Bool,(r=(bigB (at_byr l (Int.toNat i))))→(true=true)∧(if (r=true) then (∃ r1:Int,((KS.mk true [(Prod.mk (4:Nat) (num IntKind.i64 i))] [] [])=(KS.mk true [(Prod.mk (4:Nat) (num IntKind.i64 r1))] [] []))∧(((0:Int)≤r1)∧((List.any l0 bigB)=true))) else (∃ s:(Prod (List (List Int)) (Prod Int Int)),((KS.mk true [(Prod.mk (0:Nat) (T.v false [(Cm.d (D.r RK.byr l))])),(Prod.mk (1:Nat) (T.fn (56:Nat) (Option.none))),(Prod.mk (7:Nat) (num IntKind.i64 m)),(Prod.mk (8:Nat) (num IntKind.i64 (IntKind.wrap IntKind.i64 (i + (1:Int)))))] [] [])=(KS.mk true [(Prod.mk (0:Nat) (T.v false [(Cm.d (D.r RK.byr s.fst))])),(Prod.mk (1:Nat) (T.fn (56:Nat) (Option.none))),(Prod.mk (7:Nat) (num IntKind.i64 s.snd.fst)),(Prod.mk (8:Nat) (num IntKind.i64 s.snd.snd))] [] []))∧(∃ m1:Nat,(m1 < n)∧((s.fst=l0)∧((s.snd.fst=(((List.length s.fst):Nat):Int))∧(((List.length s.fst)≤(137438953472:Nat))∧(((0:Int)≤s.snd.snd)∧(((s.snd.snd + ((m1:Nat):Int))=(((List.length s.fst):Nat):Int))∧((List.any (List.take (Int.toNat s.snd.snd) s.fst) bigB)=false))))))))))))) else (∃ r:Unit,((KS.mk true [] [] [])=(KS.mk true [] [] []))∧((List.any l0 bigB)=false)) := by
  try dsimp only at hp
  obtain ⟨rfl, rfl, h1, h2, h3, h4⟩ := hi
  have hL : l.length ≤ 137438953472 := h1
  obtain ⟨i, rfl⟩ : ∃ k : Nat, i = k := ⟨i.toNat, by omega⟩
  rw [wr (x := (i : Int) + 1) (by omega) (by omega)]
  simp only [Int.toNat_natCast] at h4 ⊢
  refine iteI (fun h => ?_) (fun h => ?_)
  · have hi : i < l.length := by simp at h; omega
    have e : l.take (i + 1) = l.take i ++ [at_byr l i] := take_at .byr l i hi
    repeat' first
      | exact rfl
      | exact True.intro
      | with_reducible apply And.intro
      | (with_reducible intro r hr; subst r)
      | omega
    all_goals first
      | (refine iteI (fun hx => ?_) (fun hx => ?_)
         · exact ⟨(i : Int), rfl, by (try dsimp only); omega, List.any_eq_true.2 ⟨at_byr l i, at_mem .byr l i hi, hx⟩⟩
         · refine ⟨(l, (l.length : Int), (i : Int) + 1), rfl, n - 1, by omega, rfl, rfl, h1, by (try dsimp only); omega, by (try dsimp only); omega, ?_⟩
           show (l.take ((i : Int) + 1).toNat).any bigB = false
           have hx' : bigB (at_byr l i) = false := by simpa using hx
           rw [show ((i : Int) + 1).toNat = i + 1 by omega, e, List.any_append, h4]; simp [hx'])
  · refine ⟨(), by trivial, ?_⟩
    have hi : i = l.length := by simp at h; omega
    subst hi
    rw [List.take_length] at h4
    exact h4
theorem vS_slices_IndexFunc_byte_byte_0 (l0 : List (List Int)) (m0 : Int) (i0 : Int) (hp : (fun (l : List (List Int)) (m : Int) (i : Int) => (l.length ≤ LIM ∧ m = l.length ∧ i = 0)) l0 m0 i0) : ∃ n : Nat, (fun (l : List (List Int)) (m : Int) (i : Int) => (l = l0 ∧ m = l.length ∧ l.length ≤ LIM ∧ 0 ≤ i ∧ i + n = l.length ∧ (l.take i.toNat).any bigB = false)) l0 m0 i0 := by
  try dsimp only at hp
  try dsimp only
  obtain ⟨h1, rfl, rfl⟩ := hp
  exact ⟨l0.length, rfl, rfl, h1, by omega, by omega, rfl⟩
theorem w_slices_IndexFunc_byte_byte : Valid Try.prog 73 c_slices_IndexFunc_byte_byte :=
  valid_ctr2 (V := V_slices_IndexFunc_byte_byte) (tysB_ok tys_ok) ⟨(CallsL.cons w_impl_sdusOk_1 (CallsL.nil _)), (IosL.nil _)⟩ mixed 0 0 Try.func73 rfl (by kernel_rfl)
    (fun c hc => by
      obtain rfl := Option.some.inj hc
      exact ⟨trivial, ⟨⟨trivial, ⟨LoopD.ok2 (V := V_slices_IndexFunc_byte_byte) l_slices_IndexFunc_byte_byte_0 (LoopsM.cons 0 l_slices_IndexFunc_byte_byte_0 LoopsM.nil) 0 _ i_slices_IndexFunc_byte_byte_0 (fun x hx => vS_slices_IndexFunc_byte_byte_0 x.1 x.2.1 x.2.2 hx) (fun x hx n s hi => ⟨_, by kernel_rfl, vL_slices_IndexFunc_byte_byte_0 x.1 x.2.1 x.2.2 s.1 s.2.1 s.2.2 n hx hi⟩), ⟨trivial, ⟨⟨trivial, trivial⟩, ⟨⟨trivial, ⟨trivial, ⟨⟨trivial, trivial⟩, trivial⟩⟩⟩, trivial⟩⟩⟩⟩⟩, ⟨trivial, trivial⟩⟩⟩)
    (fun x K hp hk => ⟨_, by kernel_rfl, vF_slices_IndexFunc_byte_byte x K hp (fun r h => hk r h)⟩)
theorem vF_slices_ContainsFunc_byte_byte (l:List (List Int)) (K:List Arg→List (List AC)→Prop) (hp:l.length≤LIM) (hk:∀ (r:Bool),(r=l.any bigB)→K ([rB.to r]) ([])):(true=true)∧(((List.length l)≤(137438953472:Nat))∧(∀ r:Int,((decide (r ≥ (0:Int)))=(List.any l bigB))→(true=true)∧((true=true)∧(K [(aB (decide (r ≥ (0:Int))))] [])))) := by
  refine ⟨by trivial, hp, fun r h => ?_⟩
  exact ⟨by trivial, by trivial, hk _ h⟩
theorem w_slices_ContainsFunc_byte_byte : Valid Try.prog 55 c_slices_ContainsFunc_byte_byte :=
  valid_ctr2 (V := V_slices_ContainsFunc_byte_byte) (tysB_ok tys_ok) ⟨(CallsL.cons w_slices_IndexFunc_byte_byte (CallsL.nil _)), (IosL.nil _)⟩ mixed 0 0 Try.func55 rfl (by kernel_rfl)
    (fun c hc => by
      obtain rfl := Option.some.inj hc
      exact ⟨trivial, ⟨trivial, trivial⟩⟩)
    (fun x K hp hk => ⟨_, by kernel_rfl, vF_slices_ContainsFunc_byte_byte x K hp (fun r h => hk r h)⟩)
theorem vF_impl_sdusOk (l:List (List Int)) (K:List Arg→List (List AC)→Prop) (hp:l.length≤LIM) (hk:∀ (r:Bool),(r=decide (l.length≤60∧l.any bigB=false))→K ([rB.to r]) ([])):if ((decide ((((List.length l):Nat):Int)≤(60:Int)))=true) then ((true=true)∧(((List.length l)≤(137438953472:Nat))∧(∀ r:Bool,(r=(List.any l bigB))→(true=true)∧((true=true)∧(K [(aB (!r))] []))))) else ((true=true)∧(K [(aB false)] [])) := by
  repeat' first
    | exact rfl
    | exact True.intro
    | with_reducible apply And.intro
    | (with_reducible intro y_ hy_; subst hy_)
    | with_reducible intro y_
    | (refine iteI (fun h => ?_) (fun h => ?_))
  all_goals try simp only [Bool.not_eq_true', decide_eq_false_iff_not, decide_eq_true_eq, Bool.not_eq_true, bne_iff_ne, beq_iff_eq, ne_eq, Decidable.not_not, Bool.not_eq_false, gt_iff_lt, ge_iff_le, Int.not_le, Int.not_lt, beq_eq_false_iff_ne, bne_eq_false_iff_eq, Bool.and_eq_true, Bool.or_eq_true, Bool.true_eq_false, Bool.false_eq_true] at *
  all_goals try simp (disch := first | omega | grind []) only [wr] at *
  all_goals first
    | assumption
    | omega
    | exact hk _ (by grind [])
    | (simp only [LIM] at *; omega)
    | grind [LIM]
theorem w_impl_sdusOk : Valid Try.prog 33 c_impl_sdusOk :=
  valid_ctr2 (V := V_impl_sdusOk) (tysB_ok tys_ok) ⟨(CallsL.cons w_slices_ContainsFunc_byte_byte (CallsL.nil _)), (IosL.nil _)⟩ mixed 0 0 Try.func33 rfl (by kernel_rfl)
    (fun c hc => by
      obtain rfl := Option.some.inj hc
      exact ⟨trivial, ⟨trivial, trivial⟩⟩)
    (fun x K hp hk => ⟨_, by kernel_rfl, vF_impl_sdusOk x K hp (fun r h => hk r h)⟩)
theorem vF_impl_WldOk (w:WldS) (K:List Arg→List (List AC)→Prop) (hp:WldM 1048576 w) (hk:∀ (r:Bool),(r=decide (WldP w))→K ([rB.to r]) ([])):(true=true)∧(True∧(∀ r:Bool,(r=(decide (CfgP w.cfg)))→(true=true)∧(if ((!r)=true) then ((true=true)∧(K [(aB false)] [])) else (if (((((List.length w.ends):Nat):Int) != (2:Int))=true) then ((true=true)∧(K [(aB false)] [])) else (if (((((List.length w.net):Nat):Int) != (2:Int))=true) then ((true=true)∧(K [(aB false)] [])) else ((true=true)∧(True∧(∀ r1:Bool,(r1=(decide (((0:Int)≤w.link)∧(w.link≤(1:Int)))))→(true=true)∧(if ((!r1)=true) then ((true=true)∧(K [(aB false)] [])) else (∃ s:(Prod WldS (Prod Int Int)),((KS.mk true [(Prod.mk (1:Nat) (T.pb (0:Nat) (1:Nat) (0:Nat))),(Prod.mk (28:Nat) (T.v false [(Cm.d (D.r RK.wend w.ends))])),(Prod.mk (29:Nat) (num IntKind.i64 (((List.length w.ends):Nat):Int))),(Prod.mk (30:Nat) (num IntKind.i64 (0:Int)))] [] [(Box.mk (Min.min (1:Nat) (1:Nat)) (Option.some [(Cm.d (D.i IntKind.i64 w.cfg.mode)),(Cm.d (D.i IntKind.i64 w.cfg.win)),(Cm.d (D.i IntKind.i64 w.cfg.mps)),(Cm.d (D.i IntKind.i64 w.cfg.mtu)),(Cm.d (D.i IntKind.i64 w.cfg.try_)),(Cm.d (D.r RK.wend w.ends)),(Cm.d (D.r RK.nets w.net)),(Cm.d (D.i IntKind.i64 w.link))])),(Box.mk (0:Nat) Option.none)])=(KS.mk true [(Prod.mk (1:Nat) (T.pb (0:Nat) (1:Nat) (0:Nat))),(Prod.mk (28:Nat) (T.v false [(Cm.d (D.r RK.wend s.fst.ends))])),(Prod.mk (29:Nat) (num IntKind.i64 s.snd.fst)),(Prod.mk (30:Nat) (num IntKind.i64 s.snd.snd))] [] [(Box.mk (1:Nat) (Option.some [(Cm.d (D.i IntKind.i64 s.fst.cfg.mode)),(Cm.d (D.i IntKind.i64 s.fst.cfg.win)),(Cm.d (D.i IntKind.i64 s.fst.cfg.mps)),(Cm.d (D.i IntKind.i64 s.fst.cfg.mtu)),(Cm.d (D.i IntKind.i64 s.fst.cfg.try_)),(Cm.d (D.r RK.wend s.fst.ends)),(Cm.d (D.r RK.nets s.fst.net)),(Cm.d (D.i IntKind.i64 s.fst.link))])),(Box.mk (0:Nat) Option.none)]))∧(((WldM (1048576:Nat) s.fst)∧(((List.length s.fst.ends)=(2:Nat))∧(((List.length s.fst.net)=(2:Nat))∧((s.snd.fst=(2:Int))∧(s.snd.snd=(0:Int))))))∧((∀ r2:Unit,(∀ j:Nat,((j < (2:Nat))→(OkAt s.fst j)))→(true=true)∧(K [(aB true)] []))∧(∀ r2:Unit,(¬ (∀ j:Nat,((j < (2:Nat))→(OkAt s.fst j))))→(true=true)∧(K [(aB false)] [])))))))))))))) := by
  repeat' first
    | exact rfl
    | exact True.intro
    | with_reducible apply And.intro
    | (with_reducible intro r hr; subst r)
    | refine iteI (fun hx => ?_) (fun hx => ?_)
  all_goals try simp only [Bool.not_eq_true', decide_eq_false_iff_not, decide_eq_true_eq, Bool.not_eq_true, bne_iff_ne, beq_iff_eq, ne_eq, Decidable.not_not, Bool.not_eq_false, gt_iff_lt, ge_iff_le, Int.not_le, Int.not_lt, beq_eq_false_iff_ne, bne_eq_false_iff_eq, Bool.and_eq_true, Bool.or_eq_true, Bool.true_eq_false, Bool.false_eq_true] at *
  all_goals first
    | exact hk _ (decide_eq_false (fun hP => by have := hP.cfg; have := hP.el; have := hP.nl; have := hP.ln; first | contradiction | omega | simp_all)).symm
    | (refine ⟨(w, (w.ends.length : Int), 0), rfl, ⟨hp, by (try dsimp only); omega, by (try dsimp only); omega, by (try dsimp only); omega, rfl⟩, ?_, ?_⟩
       · intro u h
         have h' := ok_two.1 h
         exact ⟨by trivial, hk _ (decide_eq_true ⟨by assumption, by omega, by omega, by omega, h'⟩).symm⟩
       · intro u h
         have h' : ¬ (OkAt w 0 ∧ OkAt w 1) := fun hh => h (ok_two.2 hh)
         exact ⟨by trivial, hk _ (decide_eq_false (fun hP => h' hP.ok)).symm⟩)
theorem vL_impl_WldOk_0 (w0:WldS) (m0:Int) (i0:Int) (w:WldS) (m:Int) (i:Int) (n:Nat) (hp:(fun (w:WldS) (m:Int) (i:Int) => (WldM 1048576 w∧w.ends.length=2∧w.net.length=2∧m=2∧i=0)) w0 m0 i0) (hi:w=w0∧m=2∧WldM 1048576 w∧w.ends.length=2∧w.net.length=2∧0≤i∧i + n=2∧∀ j:Nat,j < i.toNat→OkAt w j):if ((decide (i < m))=true) then ((((0:Int)≤i)∧(i < (((List.length w.ends):Nat):Int)))∧((true=true)∧(True∧(∀ r:Bool,(r=(decide (TxP w.cfg (at_wend w.ends (Int.toNat i)).tx)))→(true=true)∧(if ((!r)=true) then (∃ r1:Unit,((KS.mk true [(Prod.mk (2:Nat) (boo false))] [] [(Box.mk (0:Nat) Option.none),(Box.mk (0:Nat) Option.none)])=(KS.mk true [(Prod.mk (2:Nat) (boo false))] [] [(Box.mk (0:Nat) Option.none),(Box.mk (0:Nat) Option.none)]))∧(¬ (∀ j:Nat,((j < (2:Nat))→(OkAt w0 j))))) else ((true=true)∧(True∧(∀ r1:Bool,(r1=(decide (RxP (at_wend w.ends (Int.toNat i)).rx)))→(true=true)∧(if ((!r1)=true) then (∃ r2:Unit,((KS.mk true [(Prod.mk (2:Nat) (boo false))] [] [(Box.mk (0:Nat) Option.none),(Box.mk (0:Nat) Option.none)])=(KS.mk true [(Prod.mk (2:Nat) (boo false))] [] [(Box.mk (0:Nat) Option.none),(Box.mk (0:Nat) Option.none)]))∧(¬ (∀ j:Nat,((j < (2:Nat))→(OkAt w0 j))))) else ((true=true)∧(True∧(∀ r2:Bool,(r2=(decide (CtP w.cfg (at_wend w.ends (Int.toNat i)).ctx)))→(true=true)∧(if ((!r2)=true) then (∃ r3:Unit,((KS.mk true [(Prod.mk (2:Nat) (boo false))] [] [(Box.mk (0:Nat) Option.none),(Box.mk (0:Nat) Option.none)])=(KS.mk true [(Prod.mk (2:Nat) (boo false))] [] [(Box.mk (0:Nat) Option.none),(Box.mk (0:Nat) Option.none)]))∧(¬ (∀ j:Nat,((j < (2:Nat))→(OkAt w0 j))))) else ((true=true)∧(True∧(∀ r3:Bool,(r3=(decide (CrP (at_wend w.ends (Int.toNat i)).crx)))→(true=true)∧(if ((!r3)=true) then (∃ r4:Unit,((KS.mk true [(Prod.mk (2:Nat) (boo false))] [] [(Box.mk (0:Nat) Option.none),(Box.mk (0:Nat) Option.none)])=(KS.mk true [(Prod.mk (2:Nat) (boo false))] [] [(Box.mk (0:Nat) Option.none),(Box.mk (0:Nat) Option.none)]))∧(¬ (∀ j:Nat,((j < (2:Nat))→(OkAt w0 j))))) else ((true=true)∧(((List.length (at_wend w.ends (Int.toNat i)).put)≤(137438953472:Nat))∧(∀ r4:Bool,(r4=(decide (((List.length (at_wend w.ends (Int.toNat i)).put)≤(60:Nat))∧((List.any (at_wend w.ends (Int.toNat i)).put bigB)=false))))→(true=true)∧(if ((!r4)=true) then (∃ r5:Unit,((KS.mk true [(Prod.mk (2:Nat) (boo false))] [] [(Box.mk (0:Nat) Option.none),(Box.mk (0:Nat) Option.none)])=(KS.mk true [(Prod.mk (2:Nat) (boo false))] [] [(Box.mk (0:Nat) Option.none),(Box.mk (0:Nat) Option.none)]))∧(¬ (∀ j:Nat,((j < (2:Nat))→(OkAt w0 j))))) else ((true=true)∧(((List.length (at_wend w.ends (Int.toNat i)).got)≤(137438953472:Nat))∧(∀ r5:Bool,(r5=(decide (((List.length (at_wend w.ends (Int.toNat i)).got)≤(60:Nat))∧((List.any (at_wend w.ends (Int.toNat i)).got bigB)=false))))→(true=true)∧(if ((!r5)=true) then (∃ r6:Unit,((KS.mk true [(Prod.mk (2:Nat) (boo false))] [] [(Box.mk (0:Nat) Option.none),(Box.mk (0:Nat) Option.none)])=(KS.mk true [(Prod.mk (2:Nat) (boo false))] [] [(Box.mk (0:Nat) Option.none),(Box.mk (0:Nat) Option.none)]))∧(¬ (∀ j:Nat,((j < (2:Nat))→(OkAt w0 j))))) else ((((0:Int)≤i)∧(i < (((List.length w.net):Nat):Int)))∧(if ((decide ((((List.length (at_nets w.net (Int.toNat i))):Nat):Int) > (30:Int)))=true) then (∃ r6:Unit,((KS.mk true [(Prod.mk (2:Nat) (boo false))] [] [(Box.mk (0:Nat) Option.none),(Box.mk (0:Nat) Option.none)])=(KS.mk true [(Prod.mk (2:Nat) (boo false))] [] [(Box.mk (0:Nat) Option.none),(Box.mk (0:Nat) Option.none)]))∧(¬ (∀ j:Nat,((j < (2:Nat))→(OkAt w0 j))))) else ((((0:Int)≤i)∧(i < (((List.length w.net):Nat):Int)))∧((true=true)∧(((List.length (at_nets w.net (Int.toNat i)))≤(137438953472:Nat))∧(∀ r6:Bool,(r6=(List.any (at_nets w.net (Int.toNat i)) bigN))→(true=true)∧(if (r6=true) then (∃ r7:Unit,((KS.mk true [(Prod.mk (2:Nat) (boo false))] [] [(Box.mk (0:Nat) Option.none),(Box.mk (0:Nat) Option.none)])=(KS.mk true [(Prod.mk (2:Nat) (boo false))] [] [(Box.mk (0:Nat) Option.none),(Box.mk (0:Nat) Option.none)]))∧(¬ (∀ j:Nat,((j < (2:Nat))→(OkAt w0 j))))) else (∃ s:(Prod WldS (Prod Int Int)),((KS.mk true [(Prod.mk (1:Nat) (T.pb (0:Nat) (1:Nat) (0:Nat))),(Prod.mk (28:Nat) (T.v false [(Cm.d (D.r RK.wend w.ends))])),(Prod.mk (29:Nat) (num IntKind.i64 m)),(Prod.mk (30:Nat) (num IntKind.i64 (IntKind.wrap IntKind.i64 (i + (1:Int)))))] [] [(Box.mk (Min.min (1:Nat) (1:Nat)) (Option.some [(Cm.d (D.i IntKind.i64 w.cfg.mode)),(Cm.d (D.i IntKind.i64 w.cfg.win)),(Cm.d (D.i IntKind.i64 w.cfg.mps)),(Cm.d (D.i IntKind.i64 w.cfg.mtu)),(Cm.d (D.i IntKind.i64 w.cfg.try_)),(Cm.d (D.r RK.wend w.ends)),(Cm.d (D.r RK.nets w.net)),(Cm.d (D.i IntKind.i64 w.link))])),(Box.mk (0:Nat) Option.none)])=(KS.mk true [(Prod.mk (1:Nat) (T.pb (0:Nat) (1:Nat) (0:Nat))),(Prod.mk (28:Nat) (T.v false [(Cm.d (D.r RK.wend s.fst.ends))])),(Prod.mk (29:Nat) (num IntKind.i64 s.snd.fst)),(Prod.mk (30:Nat) (num IntKind.i64 s.snd.snd))] [] [(Box.mk (1:Nat) (Option.some [(Cm.d (D.i IntKind.i64 s.fst.cfg.mode)),(Cm.d (D.i IntKind.i64 s.fst.cfg.win)),(Cm.d (D.i IntKind.i64 s.fst.cfg.mps)),(Cm.d (D.i IntKind.i64 s.fst.cfg.mtu)),(Cm.d (D.i IntKind.i64 s.fst.cfg.try_)),(Cm.d (D.r RK.wend s.fst.ends)),(Cm.d (D.r RK.nets s.fst.net)),(Cm.d (D.i IntKind.i64 s.fst.link))])),(Box.mk (0:Nat) Option.none)]))∧(∃ m1:Nat,(m1 < n)∧((s.fst=w0)∧((s.snd.fst=(2:Int))∧((WldM (1048576:Nat) s.fst)∧(((List.length s.fst.ends)=(2:Nat))∧(((List.length s.fst.net)=(2:Nat))∧(((0:Int)≤s.snd.snd)∧(((s.snd.snd + ((m1:Nat):Int))=(2:Int))∧(∀ j:Nat,(j < (Int.toNat s.snd.snd))→(OkAt s.fst j))))))))))))))))))))))))))))))))))))))))))) else (∃ r:Unit,((KS.mk true [] [] [(Box.mk (0:Nat) Option.none),(Box.mk (0:Nat) Option.none)])=(KS.mk true [] [] [(Box.mk (0:Nat) Option.none),(Box.mk (0:Nat) Option.none)]))∧(∀ j:Nat,(j < (2:Nat))→(OkAt w0 j))) := by
  try dsimp only at hp
  obtain ⟨rfl, rfl, hM, h1, h2, h3, h4, h5⟩ := hi
  obtain ⟨i, rfl⟩ : ∃ k : Nat, i = k := ⟨i.toNat, by omega⟩
  rw [wr (x := (i : Int) + 1) (by omega) (by omega)]
  simp only [Int.toNat_natCast] at h5 ⊢
  refine iteI (fun h => ?_) (fun h => ?_)
  · have hi : i < 2 := by simp at h; omega
    have hE : EndM 1048576 (at_wend w.ends i) := hM.ed _ (at_mem .wend w.ends i (show i < w.ends.length from by omega))
    have hN : NetM 1048576 (at_nets w.net i) := hM.nd _ (at_mem .nets w.net i (show i < w.net.length from by omega))
    have g1 := hE.pl
    have g2 := hE.gl
    have g3 := hN.len
    repeat' first
      | exact rfl
      | exact True.intro
      | with_reducible apply And.intro
      | (with_reducible intro r hr; subst r)
      | omega
      | refine iteI (fun hx => ?_) (fun hx => ?_)
    all_goals simp only [Bool.not_eq_true', decide_eq_false_iff_not, decide_eq_true_eq, Bool.not_eq_true, bne_iff_ne, beq_iff_eq, ne_eq, Decidable.not_not, Bool.not_eq_false, gt_iff_lt, ge_iff_le, Int.not_le, Int.not_lt, beq_eq_false_iff_ne, bne_eq_false_iff_eq, Bool.and_eq_true, Bool.or_eq_true, Bool.true_eq_false, Bool.false_eq_true] at *
    all_goals first
      | omega
      | exact ⟨(), by trivial, fun hA => (‹¬ TxP _ _› : ¬ TxP _ _) (hA i hi).e.tx⟩
      | exact ⟨(), by trivial, fun hA => (‹¬ RxP _› : ¬ RxP _) (hA i hi).e.rx⟩
      | exact ⟨(), by trivial, fun hA => (‹¬ CtP _ _› : ¬ CtP _ _) (hA i hi).e.ct⟩
      | exact ⟨(), by trivial, fun hA => (‹¬ CrP _› : ¬ CrP _) (hA i hi).e.cr⟩
      | exact ⟨(), by trivial, fun hA => (by assumption : ¬ ((at_wend w.ends i).put.length ≤ 60 ∧ (at_wend w.ends i).put.any bigB = false)) (hA i hi).e.pt⟩
      | exact ⟨(), by trivial, fun hA => (by assumption : ¬ ((at_wend w.ends i).got.length ≤ 60 ∧ (at_wend w.ends i).got.any bigB = false)) (hA i hi).e.gt⟩
      | exact ⟨(), by trivial, fun hA => by have := (hA i hi).n.1; omega⟩
      | exact ⟨(), by trivial, fun hA => by have := (hA i hi).n.2; simp_all⟩
      | (refine ⟨(w, 2, (i : Int) + 1), rfl, n - 1, by omega, rfl, rfl, hM, h1, h2, by (try dsimp only); omega, by (try dsimp only); omega, fun j hj => ?_⟩
         dsimp only at hj ⊢
         by_cases hji : j < i
         · exact h5 j hji
         · have e : j = i := by omega
           subst e
           exact ⟨⟨by assumption, by assumption, by assumption, by assumption, by assumption, by assumption⟩, by omega, by assumption⟩)
  · exact ⟨(), by trivial, fun j hj => h5 j (by simp at h; omega)⟩
theorem vS_impl_WldOk_0 (w0 : WldS) (m0 : Int) (i0 : Int) (hp : (fun (w : WldS) (m : Int) (i : Int) => (WldM 1048576 w ∧ w.ends.length = 2 ∧ w.net.length = 2 ∧ m = 2 ∧ i = 0)) w0 m0 i0) : ∃ n : Nat, (fun (w : WldS) (m : Int) (i : Int) => (w = w0 ∧ m = 2 ∧ WldM 1048576 w ∧ w.ends.length = 2 ∧ w.net.length = 2 ∧ 0 ≤ i ∧ i + n = 2 ∧ ∀ j : Nat, j < i.toNat → OkAt w j)) w0 m0 i0 := by
  try dsimp only at hp
  try dsimp only
  obtain ⟨h0, h1, h2, rfl, rfl⟩ := hp
  exact ⟨2, rfl, rfl, h0, h1, h2, by omega, by omega, fun j hj => absurd hj (by simp)⟩
theorem w_impl_WldOk : Valid Try.prog 12 c_impl_WldOk :=
  valid_ctr2 (V := V_impl_WldOk) (tysB_ok tys_ok) ⟨(CallsL.cons w_impl_CfgOk (CallsL.cons w_impl_in (CallsL.cons w_impl_TxOk (CallsL.cons w_impl_RxOk (CallsL.cons w_impl_CrdTxOk (CallsL.cons w_impl_CrdRxOk (CallsL.cons w_impl_sdusOk (CallsL.cons w_slices_ContainsFunc_impl_NetMsg_impl_NetMsg (CallsL.nil _))))))))), (IosL.nil _)⟩ mixed 0 2 Try.func12 rfl (by kernel_rfl)
    (fun c hc => by
      obtain rfl := Option.some.inj hc
      exact ⟨trivial, ⟨⟨trivial, ⟨⟨trivial, trivial⟩, trivial⟩⟩, ⟨⟨trivial, ⟨LoopD.ok2 (V := V_impl_WldOk) l_impl_WldOk_0 (LoopsM.cons 0 l_impl_WldOk_0 LoopsM.nil) 0 _ i_impl_WldOk_0 (fun x hx => vS_impl_WldOk_0 x.1 x.2.1 x.2.2 hx) (fun x hx n s hi => ⟨_, by kernel_rfl, vL_impl_WldOk_0 x.1 x.2.1 x.2.2 s.1 s.2.1 s.2.2 n hx hi⟩), ⟨trivial, ⟨⟨trivial, trivial⟩, ⟨⟨trivial, ⟨trivial, ⟨⟨trivial, trivial⟩, trivial⟩⟩⟩, trivial⟩⟩⟩⟩⟩, ⟨trivial, trivial⟩⟩⟩⟩)
    (fun x K hp hk => ⟨_, by kernel_rfl, vF_impl_WldOk x K hp (fun r h => hk r h)⟩)
end Go.Proofs.YtkencmgcibbfaaaE
