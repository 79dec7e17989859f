/- A part of the proof of laws of the program: what calls of the program answer. Conditions: none. -/
import Derived.Test.YtkencmgcibbfaaaMb3322430
set_option linter.unusedVariables false
set_option linter.unusedSimpArgs false
set_option linter.unusedSectionVars false
/- Contracts: M. Conditions: none. -/
set_option linter.unusedVariables false
set_option maxHeartbeats 1600000
namespace Go.Proofs.YtkencmgcibbfaaaE
open Go
theorem rxHear_got (c : Cfg) (r : RxS) (f : Frm) : (rxHear1 c r f).sdus.length ≤ 1000 := by have := (hear_got c r f).2.1; omega
theorem Bytes.k9 : Bytes [1, 2, 3, 4, 5, 6, 7, 8, 9] := by simp [Bytes]
theorem Bytes.k8 : Bytes [1, 2, 3, 4, 5, 6, 7, 8] := by simp [Bytes]
theorem RxIn.got {c : Cfg} {r : RxS} {f : Frm} (h : RxIn c r f) : r.join.got.length ≤ 24 := by
  have := h.2.1.2.2.2
  unfold JoinP at this
  omega
theorem hear_len {c : Cfg} {r : RxS} {f : Frm} {y : List Int} (h : RxIn c r f) (hf : f.data.length ≤ 1000000000) (hy : List.Mem y (rxHear1 c r f).sdus) : y.length ≤ 137438953472 := by
  have h1 := (hear_got c r f).2.2 y hy
  have h2 := h.got
  omega

theorem at64_bd {lo hi : Int} (h0 : lo ≤ 0) (h1 : 0 ≤ hi) : ∀ (l : List Int) (n : Nat), (∀ x ∈ l, lo ≤ x ∧ x ≤ hi) → lo ≤ at_i64 l n ∧ at_i64 l n ≤ hi := by
  intro l
  induction l with
  | nil => intro n _; exact ⟨h0, h1⟩
  | cons a l ih =>
    intro n h
    cases n with
    | zero => exact h a List.mem_cons_self
    | succ n => exact ih n fun x hx => h x (List.mem_cons_of_mem _ hx)
theorem at64_2 {a b lo hi : Int} (n : Nat) (h0 : lo ≤ 0) (h1 : 0 ≤ hi) (ha : lo ≤ a ∧ a ≤ hi) (hb : lo ≤ b ∧ b ≤ hi) : lo ≤ at_i64 [a, b] n ∧ at_i64 [a, b] n ≤ hi :=
  at64_bd h0 h1 _ n (by intro x hx; simp at hx; rcases hx with rfl | rfl <;> assumption)

/-! spec.l20Cfg -/
def c_spec_l20Cfg : Ent := ctr (α := (RdS) × (Int)) (ρ := (Cfg) × (RdS)) [] [] (rs rRd (rs1 rInt)) (fun x_ => (fun (r : RdS) (n : Int) => (RdOk r 40000000 ∧ n ≤ 1000)) x_.1 x_.2) (fun x_ r_ => (fun x_ => (fun (r : RdS) (n : Int) => ((fun r_ => (fun (c : Cfg) (q : RdS) => (RdOn r q 20 ∧ 0 ≤ c.mtu ∧ c.mtu ≤ 25)) r_.1 r_.2))) x_.1 x_.2) x_ r_) (fun r_ => (fun (c : Cfg) (q : RdS) => ([rCfg.to c])) r_.1 r_.2) (fun r_ => (fun (c : Cfg) (q : RdS) => ([(rdC q).map .d])) r_.1 r_.2)
def V_spec_l20Cfg : Env := ⟨tys, [(45, c_spec_l20Rd_pick), (46, c_spec_l20Rd_odd)], [], [(4, 1), (5, 2)], [(1, ([0], []))], [], [], [], [(1, [(0, false), (3, false), (6, false), (10, false), (14, false), (18, false), (22, false), (26, false), (1, true), (2, false), (4, true), (5, false), (7, true), (8, false), (9, false), (11, true), (12, false), (13, false), (15, true), (16, false), (17, false), (19, true), (20, false), (21, false), (23, true), (24, false), (25, false), (27, true)])]⟩
/-! laws.liSdus -/
def c_laws_liSdus : Ent := ctr (α := (List (List Int)) × (List (List Int))) (ρ := (Bool)) [] [] (rs (rR .byr) (rs1 (rR .byr))) (fun x_ => (fun (a : List (List Int)) (b : List (List Int)) => (a.length ≤ LIM ∧ ∀ y ∈ a, y.length ≤ LIM)) x_.1 x_.2) (fun x_ r_ => (fun x_ => (fun (a : List (List Int)) (b : List (List Int)) => ((fun r_ => (fun (r : Bool) => (r = decide (a = b))) r_))) x_.1 x_.2) x_ r_) (fun r_ => (fun (r : Bool) => ([rB.to r])) r_) (fun r_ => (fun (r : Bool) => ([])) r_)
def l_laws_liSdus_0 : LoopD ((List (List Int)) × (List (List Int)) × (Int)) ((Unit)) ((Unit)) where
  n := 27
  head := ⟨[0, 1, 5], [], []⟩
  st := fun x_ => (fun (a : List (List Int)) (b : List (List Int)) (i : Int) => (⟨true, [(0, .v false [.d (.r .byr a)]), (1, .v false [.d (.r .byr b)]), (5, num .i64 i)], [], []⟩)) x_.1 x_.2.1 x_.2.2
  pre := fun x_ => (fun (a : List (List Int)) (b : List (List Int)) (i : Int) => (a.length = b.length ∧ i = 0 ∧ a.length ≤ LIM ∧ ∀ y ∈ a, y.length ≤ LIM)) x_.1 x_.2.1 x_.2.2
  nk := ⟨[], [], []⟩
  nst := fun r_ => (fun (u : Unit) => (⟨true, [], [], []⟩)) r_
  npost := fun x_ r_ => (fun x_ => (fun (a0 : List (List Int)) (b0 : List (List Int)) (i0 : Int) => ((fun r_ => (fun (u : Unit) => (a0 = b0)) r_))) x_.1 x_.2.1 x_.2.2) x_ r_
  rk := ⟨[4], [], []⟩
  rst := fun r_ => (fun (u : Unit) => (⟨true, [(4, boo false)], [], []⟩)) r_
  rpost := fun x_ r_ => (fun x_ => (fun (a0 : List (List Int)) (b0 : List (List Int)) (i0 : Int) => ((fun r_ => (fun (u : Unit) => (a0 ≠ b0)) r_))) x_.1 x_.2.1 x_.2.2) x_ r_
def i_laws_liSdus_0 (x : (List (List Int)) × (List (List Int)) × (Int)) (n : Nat) (s : (List (List Int)) × (List (List Int)) × (Int)) : Prop := (fun x_ => (fun (a0 : List (List Int)) (b0 : List (List Int)) (i0 : Int) => ((fun s_ => (fun (a : List (List Int)) (b : List (List Int)) (i : Int) => (a = a0 ∧ b = b0 ∧ a.length = b.length ∧ a.length ≤ LIM ∧ (∀ y ∈ a, y.length ≤ LIM) ∧ 0 ≤ i ∧ i + n = a.length ∧ a.take i.toNat = b.take i.toNat)) s_.1 s_.2.1 s_.2.2))) x_.1 x_.2.1 x_.2.2) x s
def V_laws_liSdus : Env := ⟨tys, [(47, c_laws_liBytes)], [], [], [], [(0, l_laws_liSdus_0.L)], [], [], [(6, [(0, false), (1, false), (2, false), (3, false), (4, false), (5, false), (6, false), (7, false), (8, true), (9, false)])]⟩
def segPut2 (j : JoinS) (p : Part) : PutR := if JoinP j ∧ PartP p then segPut j p else ⟨zJoin, [], 0⟩

end Go.Proofs.YtkencmgcibbfaaaE

/- Calls answer what is promised: M. Conditions: none. -/
set_option linter.unusedVariables false
set_option maxHeartbeats 1600000
namespace Go.Proofs.YtkencmgcibbfaaaE
open Go
theorem vF_spec_l20Cfg (r:RdS) (n:Int) (K:List Arg→List (List AC)→Prop) (hp:RdOk r 40000000∧n≤1000) (hk:∀ (c:Cfg) (q:RdS),(RdOn r q 20∧0≤c.mtu∧c.mtu≤25)→K ([rCfg.to c]) ([(rdC q).map .d])):(true=true)∧((((Bytes r.b)∧(((List.length r.b)≤(2000:Nat))∧(((0:Int)≤r.p)∧(r.p≤(1000000000:Int)))))∧((2:Int)≤(1000000000:Int)))∧(∀ r1:(Prod Int RdS),((r1.snd=(RdS.mk r.b (r.p + (1:Int))))∧(((0:Int)≤r1.fst)∧((((1:Int)≤(2:Int))→(r1.fst < (2:Int)))∧(((2:Int) < (1:Int))→(r1.fst=(0:Int))))))→(true=true)∧((true=true)∧((true=true)∧((((Bytes r1.snd.b)∧(((List.length r1.snd.b)≤(2000:Nat))∧(((0:Int)≤r1.snd.p)∧(r1.snd.p≤(1000000000:Int)))))∧((4:Int)≤(1000000000:Int)))∧(∀ r2:(Prod Int RdS),((r2.snd=(RdS.mk r1.snd.b (r1.snd.p + (1:Int))))∧(((0:Int)≤r2.fst)∧((((1:Int)≤(4:Int))→(r2.fst < (4:Int)))∧(((4:Int) < (1:Int))→(r2.fst=(0:Int))))))→(true=true)∧((true=true)∧((true=true)∧((((Bytes r2.snd.b)∧(((List.length r2.snd.b)≤(2000:Nat))∧(((0:Int)≤r2.snd.p)∧(r2.snd.p≤(1000000000:Int)))))∧((8:Int)≤(1000000000:Int)))∧(∀ r3:(Prod Int RdS),((r3.snd=(RdS.mk r2.snd.b (r2.snd.p + (1:Int))))∧(((0:Int)≤r3.fst)∧((((1:Int)≤(8:Int))→(r3.fst < (8:Int)))∧(((8:Int) < (1:Int))→(r3.fst=(0:Int))))))→(true=true)∧((true=true)∧((true=true)∧((((Bytes r3.snd.b)∧(((List.length r3.snd.b)≤(2000:Nat))∧(((0:Int)≤r3.snd.p)∧(r3.snd.p≤(1000000000:Int)))))∧((3:Int)≤(1000000000:Int)))∧(∀ r4:(Prod Int RdS),((r4.snd=(RdS.mk r3.snd.b (r3.snd.p + (1:Int))))∧(((0:Int)≤r4.fst)∧((((1:Int)≤(3:Int))→(r4.fst < (3:Int)))∧(((3:Int) < (1:Int))→(r4.fst=(0:Int))))))→(true=true)∧((true=true)∧((((0:Int)≤r4.fst)∧(r4.fst < (((List.length ((IntKind.wrap IntKind.i64 ((1:Int) + r3.fst)) :: ((3:Int) :: ((8:Int) :: ([]:(List Int)):(List Int)):(List Int)):(List Int))):Nat):Int)))∧((true=true)∧((((Bytes r4.snd.b)∧(((List.length r4.snd.b)≤(2000:Nat))∧(((0:Int)≤r4.snd.p)∧(r4.snd.p≤(1000000000:Int)))))∧((24:Int)≤(1000000000:Int)))∧(∀ r5:(Prod Int RdS),((r5.snd=(RdS.mk r4.snd.b (r4.snd.p + (1:Int))))∧(((0:Int)≤r5.fst)∧((((1:Int)≤(24:Int))→(r5.fst < (24:Int)))∧(((24:Int) < (1:Int))→(r5.fst=(0:Int))))))→(true=true)∧((true=true)∧((true=true)∧((((Bytes r5.snd.b)∧(((List.length r5.snd.b)≤(2000:Nat))∧(((0:Int)≤r5.snd.p)∧(r5.snd.p≤(1000000000:Int)))))∧((2:Int)≤(1000000000:Int)))∧(∀ r6:(Prod Int RdS),((r6.snd=(RdS.mk r5.snd.b (r5.snd.p + (1:Int))))∧(((0:Int)≤r6.fst)∧((((1:Int)≤(2:Int))→(r6.fst < (2:Int)))∧(((2:Int) < (1:Int))→(r6.fst=(0:Int))))))→(true=true)∧((true=true)∧((((0:Int)≤r6.fst)∧(r6.fst < (((List.length ((24:Int) :: ((IntKind.wrap IntKind.i64 ((1:Int) + r5.fst)) :: ([]:(List Int)):(List Int)):(List Int))):Nat):Int)))∧((true=true)∧((((Bytes r6.snd.b)∧(((List.length r6.snd.b)≤(2000:Nat))∧(((0:Int)≤r6.snd.p)∧(r6.snd.p≤(1000000000:Int)))))∧((5:Int)≤(1000000000:Int)))∧(∀ r7:(Prod Int RdS),((r7.snd=(RdS.mk r6.snd.b (r6.snd.p + (1:Int))))∧(((0:Int)≤r7.fst)∧((((1:Int)≤(5:Int))→(r7.fst < (5:Int)))∧(((5:Int) < (1:Int))→(r7.fst=(0:Int))))))→(true=true)∧((true=true)∧((true=true)∧((true=true)∧((((Bytes r7.snd.b)∧(((List.length r7.snd.b)≤(2000:Nat))∧(((0:Int)≤r7.snd.p)∧(r7.snd.p≤(900000000:Int)))))∧(n≤(1000000000:Int)))∧(∀ r8:(Prod Bool RdS),((r8.snd.b=r7.snd.b)∧((r7.snd.p≤r8.snd.p)∧(r8.snd.p≤(r7.snd.p + (1:Int)))))→(true=true)∧(if (r8.fst=true) then ((true=true)∧((((Bytes r8.snd.b)∧(((List.length r8.snd.b)≤(2000:Nat))∧(((0:Int)≤r8.snd.p)∧(r8.snd.p≤(1000000000:Int)))))∧((5:Int)≤(1000000000:Int)))∧(∀ r9:(Prod Int RdS),((r9.snd=(RdS.mk r8.snd.b (r8.snd.p + (1:Int))))∧(((0:Int)≤r9.fst)∧((((1:Int)≤(5:Int))→(r9.fst < (5:Int)))∧(((5:Int) < (1:Int))→(r9.fst=(0:Int))))))→(true=true)∧(if ((r9.fst == (0:Int))=true) then ((true=true)∧((((Bytes r9.snd.b)∧(((List.length r9.snd.b)≤(2000:Nat))∧(((0:Int)≤r9.snd.p)∧(r9.snd.p≤(1000000000:Int)))))∧((2:Int)≤(1000000000:Int)))∧(∀ r10:(Prod Int RdS),((r10.snd=(RdS.mk r9.snd.b (r9.snd.p + (1:Int))))∧(((0:Int)≤r10.fst)∧((((1:Int)≤(2:Int))→(r10.fst < (2:Int)))∧(((2:Int) < (1:Int))→(r10.fst=(0:Int))))))→(true=true)∧((((0:Int)≤r10.fst)∧(r10.fst < (2:Int)))∧((true=true)∧(K [(Arg.v true [(AC.d (D.i IntKind.i64 (at_i64 ((0:Int) :: ((3:Int) :: ([]:(List Int)):(List Int)):(List Int)) (Int.toNat r10.fst)))),(AC.d (D.i IntKind.i64 (IntKind.wrap IntKind.i64 ((1:Int) + r2.fst)))),(AC.d (D.i IntKind.i64 (at_i64 ((IntKind.wrap IntKind.i64 ((1:Int) + r3.fst)) :: ((3:Int) :: ((8:Int) :: ([]:(List Int)):(List Int)):(List Int)):(List Int)) (Int.toNat r4.fst)))),(AC.d (D.i IntKind.i64 (at_i64 ((24:Int) :: ((IntKind.wrap IntKind.i64 ((1:Int) + r5.fst)) :: ([]:(List Int)):(List Int)):(List Int)) (Int.toNat r6.fst)))),(AC.d (D.i IntKind.i64 (IntKind.wrap IntKind.i64 ((1:Int) + r7.fst))))])] [[(AC.d (D.r RK.u8 r10.snd.b)),(AC.d (D.i IntKind.i64 r10.snd.p))]])))))) else (if ((r9.fst == (1:Int))=true) then ((true=true)∧((((Bytes r9.snd.b)∧(((List.length r9.snd.b)≤(2000:Nat))∧(((0:Int)≤r9.snd.p)∧(r9.snd.p≤(1000000000:Int)))))∧((2:Int)≤(1000000000:Int)))∧(∀ r10:(Prod Int RdS),((r10.snd=(RdS.mk r9.snd.b (r9.snd.p + (1:Int))))∧(((0:Int)≤r10.fst)∧((((1:Int)≤(2:Int))→(r10.fst < (2:Int)))∧(((2:Int) < (1:Int))→(r10.fst=(0:Int))))))→(true=true)∧((((0:Int)≤r10.fst)∧(r10.fst < (2:Int)))∧((true=true)∧(K [(Arg.v true [(AC.d (D.i IntKind.i64 (IntKind.wrap IntKind.i64 ((1:Int) + r1.fst)))),(AC.d (D.i IntKind.i64 (at_i64 ((0:Int) :: ((5:Int) :: ([]:(List Int)):(List Int)):(List Int)) (Int.toNat r10.fst)))),(AC.d (D.i IntKind.i64 (at_i64 ((IntKind.wrap IntKind.i64 ((1:Int) + r3.fst)) :: ((3:Int) :: ((8:Int) :: ([]:(List Int)):(List Int)):(List Int)):(List Int)) (Int.toNat r4.fst)))),(AC.d (D.i IntKind.i64 (at_i64 ((24:Int) :: ((IntKind.wrap IntKind.i64 ((1:Int) + r5.fst)) :: ([]:(List Int)):(List Int)):(List Int)) (Int.toNat r6.fst)))),(AC.d (D.i IntKind.i64 (IntKind.wrap IntKind.i64 ((1:Int) + r7.fst))))])] [[(AC.d (D.r RK.u8 r10.snd.b)),(AC.d (D.i IntKind.i64 r10.snd.p))]])))))) else (if ((r9.fst == (2:Int))=true) then ((true=true)∧((((Bytes r9.snd.b)∧(((List.length r9.snd.b)≤(2000:Nat))∧(((0:Int)≤r9.snd.p)∧(r9.snd.p≤(1000000000:Int)))))∧((2:Int)≤(1000000000:Int)))∧(∀ r10:(Prod Int RdS),((r10.snd=(RdS.mk r9.snd.b (r9.snd.p + (1:Int))))∧(((0:Int)≤r10.fst)∧((((1:Int)≤(2:Int))→(r10.fst < (2:Int)))∧(((2:Int) < (1:Int))→(r10.fst=(0:Int))))))→(true=true)∧((((0:Int)≤r10.fst)∧(r10.fst < (2:Int)))∧((true=true)∧(K [(Arg.v true [(AC.d (D.i IntKind.i64 (IntKind.wrap IntKind.i64 ((1:Int) + r1.fst)))),(AC.d (D.i IntKind.i64 (IntKind.wrap IntKind.i64 ((1:Int) + r2.fst)))),(AC.d (D.i IntKind.i64 (at_i64 ((0:Int) :: ((9:Int) :: ([]:(List Int)):(List Int)):(List Int)) (Int.toNat r10.fst)))),(AC.d (D.i IntKind.i64 (at_i64 ((24:Int) :: ((IntKind.wrap IntKind.i64 ((1:Int) + r5.fst)) :: ([]:(List Int)):(List Int)):(List Int)) (Int.toNat r6.fst)))),(AC.d (D.i IntKind.i64 (IntKind.wrap IntKind.i64 ((1:Int) + r7.fst))))])] [[(AC.d (D.r RK.u8 r10.snd.b)),(AC.d (D.i IntKind.i64 r10.snd.p))]])))))) else (if ((r9.fst == (3:Int))=true) then ((true=true)∧((((Bytes r9.snd.b)∧(((List.length r9.snd.b)≤(2000:Nat))∧(((0:Int)≤r9.snd.p)∧(r9.snd.p≤(1000000000:Int)))))∧((2:Int)≤(1000000000:Int)))∧(∀ r10:(Prod Int RdS),((r10.snd=(RdS.mk r9.snd.b (r9.snd.p + (1:Int))))∧(((0:Int)≤r10.fst)∧((((1:Int)≤(2:Int))→(r10.fst < (2:Int)))∧(((2:Int) < (1:Int))→(r10.fst=(0:Int))))))→(true=true)∧((((0:Int)≤r10.fst)∧(r10.fst < (2:Int)))∧((true=true)∧(K [(Arg.v true [(AC.d (D.i IntKind.i64 (IntKind.wrap IntKind.i64 ((1:Int) + r1.fst)))),(AC.d (D.i IntKind.i64 (IntKind.wrap IntKind.i64 ((1:Int) + r2.fst)))),(AC.d (D.i IntKind.i64 (at_i64 ((IntKind.wrap IntKind.i64 ((1:Int) + r3.fst)) :: ((3:Int) :: ((8:Int) :: ([]:(List Int)):(List Int)):(List Int)):(List Int)) (Int.toNat r4.fst)))),(AC.d (D.i IntKind.i64 (at_i64 ((0:Int) :: ((25:Int) :: ([]:(List Int)):(List Int)):(List Int)) (Int.toNat r10.fst)))),(AC.d (D.i IntKind.i64 (IntKind.wrap IntKind.i64 ((1:Int) + r7.fst))))])] [[(AC.d (D.r RK.u8 r10.snd.b)),(AC.d (D.i IntKind.i64 r10.snd.p))]])))))) else ((true=true)∧((((Bytes r9.snd.b)∧(((List.length r9.snd.b)≤(2000:Nat))∧(((0:Int)≤r9.snd.p)∧(r9.snd.p≤(1000000000:Int)))))∧((2:Int)≤(1000000000:Int)))∧(∀ r10:(Prod Int RdS),((r10.snd=(RdS.mk r9.snd.b (r9.snd.p + (1:Int))))∧(((0:Int)≤r10.fst)∧((((1:Int)≤(2:Int))→(r10.fst < (2:Int)))∧(((2:Int) < (1:Int))→(r10.fst=(0:Int))))))→(true=true)∧((((0:Int)≤r10.fst)∧(r10.fst < (2:Int)))∧((true=true)∧(K [(Arg.v true [(AC.d (D.i IntKind.i64 (IntKind.wrap IntKind.i64 ((1:Int) + r1.fst)))),(AC.d (D.i IntKind.i64 (IntKind.wrap IntKind.i64 ((1:Int) + r2.fst)))),(AC.d (D.i IntKind.i64 (at_i64 ((IntKind.wrap IntKind.i64 ((1:Int) + r3.fst)) :: ((3:Int) :: ((8:Int) :: ([]:(List Int)):(List Int)):(List Int)):(List Int)) (Int.toNat r4.fst)))),(AC.d (D.i IntKind.i64 (at_i64 ((24:Int) :: ((IntKind.wrap IntKind.i64 ((1:Int) + r5.fst)) :: ([]:(List Int)):(List Int)):(List Int)) (Int.toNat r6.fst)))),(AC.d (D.i IntKind.i64 (at_i64 ((0:Int) :: ((6:Int) :: ([]:(List Int)):(List Int)):(List Int)) (Int.toNat r10.fst))))])] [[(AC.d (D.r RK.u8 r10.snd.b)),(AC.d (D.i IntKind.i64 r10.snd.p))]]))))))))))))) else ((true=true)∧(K [(Arg.v true [(AC.d (D.i IntKind.i64 (IntKind.wrap IntKind.i64 ((1:Int) + r1.fst)))),(AC.d (D.i IntKind.i64 (IntKind.wrap IntKind.i64 ((1:Int) + r2.fst)))),(AC.d (D.i IntKind.i64 (at_i64 ((IntKind.wrap IntKind.i64 ((1:Int) + r3.fst)) :: ((3:Int) :: ((8:Int) :: ([]:(List Int)):(List Int)):(List Int)):(List Int)) (Int.toNat r4.fst)))),(AC.d (D.i IntKind.i64 (at_i64 ((24:Int) :: ((IntKind.wrap IntKind.i64 ((1:Int) + r5.fst)) :: ([]:(List Int)):(List Int)):(List Int)) (Int.toNat r6.fst)))),(AC.d (D.i IntKind.i64 (IntKind.wrap IntKind.i64 ((1:Int) + r7.fst))))])] [[(AC.d (D.r RK.u8 r8.snd.b)),(AC.d (D.i IntKind.i64 r8.snd.p))]])))))))))))))))))))))))))))))))))))) := by
  repeat' first
    | exact rfl
    | exact True.intro
    | with_reducible apply And.intro
    | (with_reducible intro r hr; subst hr)
    | with_reducible intro r
    | (refine iteI (fun h => ?_) (fun h => ?_))
  all_goals try simp (disch := omega) only [wr] at *
  all_goals first
    | assumption
    | exact hk ⟨_, _, _, _, _⟩ ⟨_, _⟩ (by (try dsimp only); refine ⟨by grind [RdOk, RdOn], ?_⟩; exact at64_2 _ (by decide) (by decide) ⟨by omega, by omega⟩ ⟨by omega, by omega⟩)
    | omega
    | exact hk ⟨_, _, _, _, _⟩ ⟨_, _⟩ (by (try dsimp only); grind [RdOk, RdOn, Bytes.cons, Bytes.nil, Bytes.take])
    | grind [RdOk, RdOn, Bytes.cons, Bytes.nil, Bytes.take]
    | exact hk ⟨_, _, _, _, _⟩ ⟨_, _⟩ (by (try dsimp only); refine ⟨?_, ?_, ?_⟩; all_goals first | (grind [RdOk, RdOn, Bytes.cons, Bytes.nil, Bytes.take]; done) | (simp; done) | (simp; omega))
theorem w_spec_l20Cfg : Valid Try.prog 18 c_spec_l20Cfg :=
  valid_ctr2 (V := V_spec_l20Cfg) (tysB_ok tys_ok) ⟨(CallsL.cons w_spec_l20Rd_pick (CallsL.cons w_spec_l20Rd_odd (CallsL.nil _))), (IosL.nil _)⟩ mixed 0 2 Try.func18 rfl (by kernel_rfl)
    (fun c hc => by
      obtain rfl := Option.some.inj hc
      exact ⟨trivial, ⟨trivial, ⟨⟨trivial, ⟨⟨trivial, ⟨trivial, ⟨trivial, ⟨trivial, ⟨trivial, ⟨trivial, ⟨trivial, ⟨trivial, ⟨trivial, trivial⟩⟩⟩⟩⟩⟩⟩⟩⟩, trivial⟩⟩, ⟨trivial, trivial⟩⟩⟩⟩)
    (fun x K hp hk => ⟨_, by kernel_rfl, vF_spec_l20Cfg x.1 x.2 K hp (fun c q h => hk (c, q) h)⟩)
theorem vF_laws_liSdus (a:List (List Int)) (b:List (List Int)) (K:List Arg→List (List AC)→Prop) (hp:a.length≤LIM∧∀ y ∈ a,y.length≤LIM) (hk:∀ (r:Bool),(r=decide (a=b))→K ([rB.to r]) ([])):if (((((List.length a):Nat):Int) != (((List.length b):Nat):Int))=true) then ((true=true)∧(K [(aB false)] [])) else (∃ s:(Prod (List (List Int)) (Prod (List (List Int)) Int)),((KS.mk true [(Prod.mk (0:Nat) (T.v false [(Cm.d (D.r RK.byr a))])),(Prod.mk (1:Nat) (T.v false [(Cm.d (D.r RK.byr b))])),(Prod.mk (5:Nat) (num IntKind.i64 (0:Int)))] [] [])=(KS.mk true [(Prod.mk (0:Nat) (T.v false [(Cm.d (D.r RK.byr s.fst))])),(Prod.mk (1:Nat) (T.v false [(Cm.d (D.r RK.byr s.snd.fst))])),(Prod.mk (5:Nat) (num IntKind.i64 s.snd.snd))] [] []))∧((((List.length s.fst)=(List.length s.snd.fst))∧((s.snd.snd=(0:Int))∧(((List.length s.fst)≤(137438953472:Nat))∧(∀ y:(List Int),(List.Mem y s.fst)→((List.length y)≤(137438953472:Nat))))))∧((∀ r:Unit,(s.fst=s.snd.fst)→(true=true)∧(K [(aB true)] []))∧(∀ r:Unit,(s.fst ≠ s.snd.fst)→(true=true)∧(K [(aB false)] []))))) := by
  refine iteI (fun h => ?_) (fun h => ?_)
  · refine ⟨by trivial, hk false ?_⟩
    symm; rw [decide_eq_false_iff_not]; rintro rfl; simp at h
  · have h1 : a.length = b.length := by simp at h; omega
    refine ⟨(a, b, 0), rfl, ⟨h1, rfl, hp.1, hp.2⟩, fun _ hr => ⟨by trivial, hk true (by simp; exact hr)⟩, fun _ hr => ⟨by trivial, hk false (by simp; exact hr)⟩⟩
theorem vL_laws_liSdus_0 (a0:List (List Int)) (b0:List (List Int)) (i0:Int) (a:List (List Int)) (b:List (List Int)) (i:Int) (n:Nat) (hp:(fun (a:List (List Int)) (b:List (List Int)) (i:Int) => (a.length=b.length∧i=0∧a.length≤LIM∧∀ y ∈ a,y.length≤LIM)) a0 b0 i0) (hi:a=a0∧b=b0∧a.length=b.length∧a.length≤LIM∧(∀ y ∈ a,y.length≤LIM)∧0≤i∧i + n=a.length∧a.take i.toNat=b.take i.toNat):if ((decide (i < (((List.length a):Nat):Int)))=true) then ((((0:Int)≤i)∧(i < (((List.length a):Nat):Int)))∧((((0:Int)≤i)∧(i < (((List.length b):Nat):Int)))∧((true=true)∧((((List.length (at_byr a (Int.toNat i)))≤(137438953472:Nat))∧True)∧(∀ r:Bool,(r=(decide ((at_byr a (Int.toNat i))=(at_byr b (Int.toNat i)))))→(true=true)∧((true=true)∧(if ((!r)=true) then (∃ r1:Unit,((KS.mk true [(Prod.mk (4:Nat) (boo false))] [] [])=(KS.mk true [(Prod.mk (4:Nat) (boo false))] [] []))∧(a0 ≠ b0)) else (∃ s:(Prod (List (List Int)) (Prod (List (List Int)) Int)),((KS.mk true [(Prod.mk (0:Nat) (T.v false [(Cm.d (D.r RK.byr a))])),(Prod.mk (1:Nat) (T.v false [(Cm.d (D.r RK.byr b))])),(Prod.mk (5:Nat) (num IntKind.i64 (IntKind.wrap IntKind.i64 (i + (1:Int)))))] [] [])=(KS.mk true [(Prod.mk (0:Nat) (T.v false [(Cm.d (D.r RK.byr s.fst))])),(Prod.mk (1:Nat) (T.v false [(Cm.d (D.r RK.byr s.snd.fst))])),(Prod.mk (5:Nat) (num IntKind.i64 s.snd.snd))] [] []))∧(∃ m:Nat,(m < n)∧((s.fst=a0)∧((s.snd.fst=b0)∧(((List.length s.fst)=(List.length s.snd.fst))∧(((List.length s.fst)≤(137438953472:Nat))∧((∀ y:(List Int),(List.Mem y s.fst)→((List.length y)≤(137438953472:Nat)))∧(((0:Int)≤s.snd.snd)∧(((s.snd.snd + ((m:Nat):Int))=(((List.length s.fst):Nat):Int))∧((List.take (Int.toNat s.snd.snd) s.fst)=(List.take (Int.toNat s.snd.snd) s.snd.fst)))))))))))))))))) else (∃ r:Unit,((KS.mk true [] [] [])=(KS.mk true [] [] []))∧(a0=b0)) := by
  try dsimp only at hp
  obtain ⟨rfl, rfl, h1, h2, hw, h3, h4, h5⟩ := hi
  have hL : a.length ≤ 137438953472 := h2
  obtain ⟨i, rfl⟩ : ∃ m : Nat, i = m := ⟨i.toNat, by omega⟩
  rw [wr (x := (i : Int) + 1) (by omega) (by omega)]
  simp only [Int.toNat_natCast] at h5 ⊢
  refine iteI (fun h => ?_) (fun h => ?_)
  · have hi : i < a.length := by simp at h; omega
    refine ⟨⟨by omega, by omega⟩, ⟨by omega, by omega⟩, by trivial, ?_⟩
    have ea : a.take (i + 1) = a.take i ++ [at_byr a i] := take_at .byr a i hi
    have eb : b.take (i + 1) = b.take i ++ [at_byr b i] := take_at .byr b i (show i < b.length by omega)
    refine ⟨⟨hw _ (at_mem .byr a i hi), trivial⟩, fun r hr => ?_⟩
    subst hr
    repeat refine ⟨by trivial, ?_⟩
    refine iteI (fun hx => ?_) (fun hx => ?_)
    · refine ⟨(), by trivial, fun he => ?_⟩
      simp [he] at hx
    · refine ⟨(a, b, (i : Int) + 1), rfl, n - 1, by omega, rfl, rfl, h1, h2, hw, by dsimp only; omega, by dsimp only; omega, ?_⟩
      dsimp only
      rw [show ((i : Int) + 1).toNat = i + 1 by omega, ea, eb, h5]
      simp at hx
      exact congrArg (fun z => List.take i b ++ [z]) hx
  · have hi : i = a.length := by simp at h; omega
    subst hi
    refine ⟨(), by trivial, ?_⟩
    rw [List.take_length, h1, List.take_length] at h5
    exact h5
theorem vS_laws_liSdus_0 (a0 : List (List Int)) (b0 : List (List Int)) (i0 : Int) (hp : (fun (a : List (List Int)) (b : List (List Int)) (i : Int) => (a.length = b.length ∧ i = 0 ∧ a.length ≤ LIM ∧ ∀ y ∈ a, y.length ≤ LIM)) a0 b0 i0) : ∃ n : Nat, (fun (a : List (List Int)) (b : List (List Int)) (i : Int) => (a = a0 ∧ b = b0 ∧ a.length = b.length ∧ a.length ≤ LIM ∧ (∀ y ∈ a, y.length ≤ LIM) ∧ 0 ≤ i ∧ i + n = a.length ∧ a.take i.toNat = b.take i.toNat)) a0 b0 i0 := by
  try dsimp only at hp
  try dsimp only
  obtain ⟨h1, h2, h3, hw⟩ := hp
  exact ⟨a0.length, rfl, rfl, h1, h3, hw, by omega, by omega, by subst h2; simp⟩
theorem w_laws_liSdus : Valid Try.prog 27 c_laws_liSdus :=
  valid_ctr2 (V := V_laws_liSdus) (tysB_ok tys_ok) ⟨(CallsL.cons w_laws_liBytes (CallsL.nil _)), (IosL.nil _)⟩ mixed 0 0 Try.func27 rfl (by kernel_rfl)
    (fun c hc => by
      obtain rfl := Option.some.inj hc
      exact ⟨trivial, ⟨⟨trivial, ⟨⟨trivial, trivial⟩, trivial⟩⟩, ⟨⟨trivial, ⟨LoopD.ok2 (V := V_laws_liSdus) l_laws_liSdus_0 (LoopsM.cons 0 l_laws_liSdus_0 LoopsM.nil) 0 _ i_laws_liSdus_0 (fun x hx => vS_laws_liSdus_0 x.1 x.2.1 x.2.2 hx) (fun x hx n s hi => ⟨_, by kernel_rfl, vL_laws_liSdus_0 x.1 x.2.1 x.2.2 s.1 s.2.1 s.2.2 n hx hi⟩), ⟨⟨trivial, ⟨trivial, trivial⟩⟩, ⟨⟨trivial, ⟨⟨trivial, trivial⟩, trivial⟩⟩, trivial⟩⟩⟩⟩, ⟨trivial, trivial⟩⟩⟩⟩)
    (fun x K hp hk => ⟨_, by kernel_rfl, vF_laws_liSdus x.1 x.2 K hp (fun r h => hk r h)⟩)
end Go.Proofs.YtkencmgcibbfaaaE
