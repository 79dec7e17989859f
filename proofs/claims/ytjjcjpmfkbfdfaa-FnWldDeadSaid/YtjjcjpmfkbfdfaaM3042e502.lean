/- A part of the proof of laws of the program: what calls of the program answer. Conditions: none. -/
import Derived.Test.YtjjcjpmfkbfdfaaM54749ae5
set_option linter.unusedVariables false
set_option linter.unusedSimpArgs false
set_option linter.unusedSectionVars false

/- Contracts: N1. Conditions: none. -/
set_option linter.unusedVariables false
set_option maxHeartbeats 1600000
namespace Go.Proofs.YtjjcjpmfkbfdfaaE
open Go
structure PartN where
  seg : Int
  len : Int
  data : Nat
structure FrmN where
  kind : Int
  seq : Int
  ack : Int
  poll : Bool
  final : Bool
  say : Int
  seg : Int
  len : Int
  data : Nat
structure JoinN where
  len : Int
  got : Nat
structure NetN where
  bent : Bool
  bytes : Nat
structure EvN where
  kind : Int
  who : Int
  at_ : Int
  v : Int
  data : Nat
def partNC (p : PartN) : List D := [.i .i64 p.seg, .i .i64 p.len, .h .u8 p.data]
def mkPartN : List D → Option PartN
  | [.i .i64 a, .i .i64 b, .h .u8 l] => some ⟨a, b, l⟩
  | _ => none
theorem mkPartN_cells (ds : List D) (e : PartN) (h : mkPartN ds = some e) : partNC e = ds := by unfold mkPartN at h; split at h <;> first | (cases h; rfl) | simp at h
def frmNC (f : FrmN) : List D := [.i .i64 f.kind, .i .i64 f.seq, .i .i64 f.ack, .b f.poll, .b f.final, .i .i64 f.say, .i .i64 f.seg, .i .i64 f.len, .h .u8 f.data]
def mkFrmN : List D → Option FrmN
  | [.i .i64 a, .i .i64 b, .i .i64 c, .b d, .b e, .i .i64 f, .i .i64 g, .i .i64 h, .h .u8 l] => some ⟨a, b, c, d, e, f, g, h, l⟩
  | _ => none
theorem mkFrmN_cells (ds : List D) (e : FrmN) (h : mkFrmN ds = some e) : frmNC e = ds := by unfold mkFrmN at h; split at h <;> first | (cases h; rfl) | simp at h
def joinNC (j : JoinN) : List D := [.i .i64 j.len, .h .u8 j.got]
def mkJoinN : List D → Option JoinN
  | [.i .i64 a, .h .u8 b] => some ⟨a, b⟩
  | _ => none
theorem mkJoinN_cells (ds : List D) (e : JoinN) (h : mkJoinN ds = some e) : joinNC e = ds := by unfold mkJoinN at h; split at h <;> first | (cases h; rfl) | simp at h
def netNC (m : NetN) : List D := [.b m.bent, .h .u8 m.bytes]
def mkNetN : List D → Option NetN
  | [.b a, .h .u8 b] => some ⟨a, b⟩
  | _ => none
theorem mkNetN_cells (ds : List D) (e : NetN) (h : mkNetN ds = some e) : netNC e = ds := by unfold mkNetN at h; split at h <;> first | (cases h; rfl) | simp at h
def evNC (e : EvN) : List D := [.i .i64 e.kind, .i .i64 e.who, .i .i64 e.at_, .i .i64 e.v, .h .u8 e.data]
def mkEvN : List D → Option EvN
  | [.i .i64 a0, .i .i64 a1, .i .i64 a2, .i .i64 a3, .h .u8 a4] => some ⟨a0, a1, a2, a3, a4⟩
  | _ => none
theorem mkEvN_cells (ds : List D) (e : EvN) (h : mkEvN ds = some e) : evNC e = ds := by unfold mkEvN at h; split at h <;> first | (cases h; rfl) | simp at h
def oH (k : RK) (a : Arg) : Option Nat := match val1 a with
  | some (.h k' n) => if k = k' then some n else none
  | _ => none
def rH (k : RK) : Rep Nat where
  to n := .v false [.d (.h k n)]
  of := oH k
  inv a x h _ := by
    unfold oH at h
    split at h
    · rename_i k' n hv
      split at h
      · rename_i hk; cases h; subst hk; exact val1_spec hv
      · simp at h
    · simp at h
def rPartN : Rep PartN := rS partNC mkPartN mkPartN_cells
def rFrmN : Rep FrmN := rS frmNC mkFrmN mkFrmN_cells
def rJoinN : Rep JoinN := rS joinNC mkJoinN mkJoinN_cells
def rNetN : Rep NetN := rS netNC mkNetN mkNetN_cells
def rEvN : Rep EvN := rS evNC mkEvN mkEvN_cells
def rTxN : Rep TxN := rS txNC mkTxN fun _ _ h => mkTxN_cells h
def rRxN : Rep RxN := rS rxNC mkRxN fun _ _ h => mkRxN_cells h
def rCtN : Rep CtN := rS ctNC mkCtN fun _ _ h => mkCtN_cells h
def rCrN : Rep CrN := rS crNC mkCrN fun _ _ h => mkCrN_cells h
def rEndN : Rep EndN := rS (RK.cells .hend) (RK.mk .hend) (mk_cells .hend)
def FrmPN (f : FrmN) : Prop :=
  (f.kind = 1 ∧ (0 ≤ f.seq ∧ f.seq ≤ 7) ∧ (0 ≤ f.ack ∧ f.ack ≤ 7) ∧ f.poll = false ∧ f.say = 0 ∧ SegP f.seg f.len f.data) ∨
  (f.kind = 2 ∧ f.seq = 0 ∧ (0 ≤ f.ack ∧ f.ack ≤ 7) ∧ (f.poll && f.final) = false ∧ (0 ≤ f.say ∧ f.say ≤ 2) ∧ f.seg = 0 ∧ f.len = 0 ∧ f.data = 0) ∨
  (f.kind = 3 ∧ f.seq = 0 ∧ f.ack = 0 ∧ f.poll = false ∧ f.final = false ∧ f.say = 0 ∧ SegP f.seg f.len f.data) ∨
  (f.kind = 4 ∧ f.seq = 0 ∧ f.ack = 0 ∧ f.poll = false ∧ f.final = false ∧ f.say = 0 ∧ f.seg = 0 ∧ (1 ≤ f.len ∧ f.len ≤ 255) ∧ f.data = 0)
instance (f : FrmN) : Decidable (FrmPN f) := by unfold FrmPN; infer_instance
theorem wr8_in (x : Int) : 0 ≤ IntKind.u8.wrap x ∧ IntKind.u8.wrap x ≤ 255 := by rw [wr8m]; omega

/-! spec.CrcOf -/
def c_spec_CrcOf : Ent := ctr (α := (Nat)) (ρ := (Int)) [] [] (rs1 (rH .u8)) (fun x_ => (fun (m : Nat) => (m ≤ 1000)) x_) (fun x_ r_ => (fun x_ => (fun (m : Nat) => ((fun r_ => (fun (r : Int) => (True)) r_))) x_) x_ r_) (fun r_ => (fun (r : Int) => ([rInt.to r])) r_) (fun r_ => (fun (r : Int) => ([])) r_)
def l_spec_CrcOf_0 : LoopD ((Nat) × (Int) × (Int)) ((Int)) ((Empty)) where
  n := 18
  head := ⟨[0, 3, 4], [], []⟩
  st := fun x_ => (fun (m : Nat) (s : Int) (i : Int) => (⟨true, [(0, .v false [.d (.h .u8 m)]), (3, num .i64 s), (4, num .i64 i)], [], []⟩)) x_.1 x_.2.1 x_.2.2
  pre := fun x_ => (fun (m : Nat) (s : Int) (i : Int) => (m ≤ 1000 ∧ i = 0)) x_.1 x_.2.1 x_.2.2
  nk := ⟨[3], [], []⟩
  nst := fun r_ => (fun (r : Int) => (⟨true, [(3, num .i64 r)], [], []⟩)) r_
  npost := fun x_ r_ => (fun x_ => (fun (m0 : Nat) (s0 : Int) (i0 : Int) => ((fun r_ => (fun (r : Int) => (True)) r_))) x_.1 x_.2.1 x_.2.2) x_ r_
  rk := ⟨[], [], []⟩
  rst := fun _ => ⟨true, [], [], []⟩
  rpost := fun _ _ => False
def i_spec_CrcOf_0 (x : (Nat) × (Int) × (Int)) (n : Nat) (s : (Nat) × (Int) × (Int)) : Prop := (fun x_ => (fun (m0 : Nat) (s0 : Int) (i0 : Int) => ((fun s_ => (fun (m : Nat) (s : Int) (i : Int) => (m = m0 ∧ m ≤ 1000 ∧ 0 ≤ i ∧ i + n = m)) s_.1 s_.2.1 s_.2.2))) x_.1 x_.2.1 x_.2.2) x s
def V_spec_CrcOf : Env := ⟨tys2, [(86, c_spec_CrcStep)], [], [], [], [(0, l_spec_CrcOf_0.L)], [], [], []⟩
/-! spec.CrcPut -/
def c_spec_CrcPut : Ent := ctr (α := (Nat)) (ρ := (Nat)) [] [] (rs1 (rH .u8)) (fun x_ => (fun (m : Nat) => (m ≤ 1000)) x_) (fun x_ r_ => (fun x_ => (fun (m : Nat) => ((fun r_ => (fun (r : Nat) => (r = m + 2)) r_))) x_) x_ r_) (fun r_ => (fun (r : Nat) => ([(rH .u8).to r])) r_) (fun r_ => (fun (r : Nat) => ([])) r_)
def V_spec_CrcPut : Env := ⟨tys2, [(78, c_spec_CrcOf)], [], [], [], [], [], [], []⟩
/-! spec.CrcCut -/
def c_spec_CrcCut : Ent := ctr (α := (Nat)) (ρ := (Nat) × (Bool)) [] [] (rs1 (rH .u8)) (fun x_ => (fun (m : Nat) => (m ≤ 1000)) x_) (fun x_ r_ => (fun x_ => (fun (m : Nat) => ((fun r_ => (fun (r : Nat) (b : Bool) => (b = true → r + 2 = m)) r_.1 r_.2))) x_) x_ r_) (fun r_ => (fun (r : Nat) (b : Bool) => ([(rH .u8).to r, rB.to b])) r_.1 r_.2) (fun r_ => (fun (r : Nat) (b : Bool) => ([])) r_.1 r_.2)
def V_spec_CrcCut : Env := ⟨tys2, [(78, c_spec_CrcOf)], [], [], [], [], [500010], [], []⟩
/-! spec.l2Bit -/
def c_spec_l2Bit : Ent := ctr (α := (Bool)) (ρ := (Int)) [] [] (rs1 rB) (fun x_ => (fun (b : Bool) => (True)) x_) (fun x_ r_ => (fun x_ => (fun (b : Bool) => ((fun r_ => (fun (r : Int) => (r = if b = true then 1 else 0)) r_))) x_) x_ r_) (fun r_ => (fun (r : Int) => ([rInt.to r])) r_) (fun r_ => (fun (r : Int) => ([])) r_)
def V_spec_l2Bit : Env := ⟨tys2, [], [], [], [], [], [], [], []⟩
/-! spec.l2Seg -/
def c_spec_l2Seg : Ent := ctr (α := (FrmN)) (ρ := (Bool)) [] [] (rs1 rFrmN) (fun x_ => (fun (f : FrmN) => (True)) x_) (fun x_ r_ => (fun x_ => (fun (f : FrmN) => ((fun r_ => (fun (r : Bool) => (r = decide (SegP f.seg f.len f.data))) r_))) x_) x_ r_) (fun r_ => (fun (r : Bool) => ([rB.to r])) r_) (fun r_ => (fun (r : Bool) => ([])) r_)
def V_spec_l2Seg : Env := ⟨tys2, [(42, c_spec_l1In)], [], [(1, 0)], [], [], [500007, 500012, 500018, 500043, 500052], [], []⟩
/-! spec.FrmOk -/
def c_spec_FrmOk : Ent := ctr (α := (FrmN)) (ρ := (Bool)) [] [] (rs1 rFrmN) (fun x_ => (fun (f : FrmN) => (True)) x_) (fun x_ r_ => (fun x_ => (fun (f : FrmN) => ((fun r_ => (fun (r : Bool) => (r = decide (FrmPN f))) r_))) x_) x_ r_) (fun r_ => (fun (r : Bool) => ([rB.to r])) r_) (fun r_ => (fun (r : Bool) => ([])) r_)
def V_spec_FrmOk : Env := ⟨tys2, [(42, c_spec_l1In), (76, c_spec_l2Seg)], [], [(1, 0)], [], [], [500010, 500015, 500020, 500025, 500034, 500039, 500042, 500048, 500053, 500058, 500063, 500074, 500079, 500084, 500089, 500094, 500101, 500106, 500111, 500116, 500121, 500126, 500131, 500136], [], []⟩
/-! spec.FrmBytes -/
def c_spec_FrmBytes : Ent := ctr (α := (FrmN)) (ρ := (Nat)) [] [] (rs1 rFrmN) (fun x_ => (fun (f : FrmN) => (f.data ≤ 1000)) x_) (fun x_ r_ => (fun x_ => (fun (f : FrmN) => ((fun r_ => (fun (r : Nat) => (r ≤ 15)) r_))) x_) x_ r_) (fun r_ => (fun (r : Nat) => ([(rH .u8).to r])) r_) (fun r_ => (fun (r : Nat) => ([])) r_)
def V_spec_FrmBytes : Env := ⟨tys2, [(56, c_spec_FrmOk), (62, c_spec_l2Bit), (63, c_spec_CrcPut)], [], [(1, 0)], [], [], [], [], [(3, [(0, false), (1, false), (2, false), (3, false), (4, false), (5, false), (6, false), (7, false), (8, false), (9, false), (10, false), (11, false), (13, false), (14, false), (18, false), (19, false), (20, false), (22, false), (23, false), (24, false), (27, false), (28, false), (29, false), (30, false), (31, false), (32, false), (33, false), (12, true), (15, true), (16, false), (17, false), (21, false), (25, false), (26, false), (34, true), (35, false)])]⟩
/-! spec.FrmRead -/
def c_spec_FrmRead : Ent := ctr (α := (Nat)) (ρ := (FrmN) × (Bool)) [] [] (rs1 (rH .u8)) (fun x_ => (fun (m : Nat) => (m ≤ 1000)) x_) (fun x_ r_ => (fun x_ => (fun (m : Nat) => ((fun r_ => (fun (f : FrmN) (b : Bool) => (b = true → FrmPN f)) r_.1 r_.2))) x_) x_ r_) (fun r_ => (fun (f : FrmN) (b : Bool) => ([rFrmN.to f, rB.to b])) r_.1 r_.2) (fun r_ => (fun (f : FrmN) (b : Bool) => ([])) r_.1 r_.2)
def V_spec_FrmRead : Env := ⟨tys2, [(56, c_spec_FrmOk), (81, c_spec_CrcCut)], [], [(2, 0), (6, 1)], [], [], [500014, 500019, 500029], [], [(4, [(0, false), (1, false), (2, false), (3, false), (4, false), (5, false), (6, false), (7, false), (8, false), (9, false), (10, false), (11, false), (12, false), (13, false), (14, false), (15, false), (16, false), (17, false), (18, false), (19, false), (20, false), (21, false), (22, false), (23, false), (24, false), (25, false), (26, false), (27, false), (28, false), (29, false), (30, false), (31, false), (32, false), (33, false), (34, false), (35, false), (36, false), (37, false), (38, false), (39, false), (41, false), (42, false), (45, false), (40, true), (43, true), (44, false), (46, true)])]⟩
/-! spec.NumNext -/
def c_spec_NumNext : Ent := ctr (α := (Int)) (ρ := (Int)) [] [] (rs1 rInt) (fun x_ => (fun (n : Int) => (True)) x_) (fun x_ r_ => (fun x_ => (fun (n : Int) => ((fun r_ => (fun (r : Int) => (True)) r_))) x_) x_ r_) (fun r_ => (fun (r : Int) => ([rInt.to r])) r_) (fun r_ => (fun (r : Int) => ([])) r_)
def V_spec_NumNext : Env := ⟨tys2, [], [], [], [], [], [], [], []⟩
/-! spec.NumOf -/
def c_spec_NumOf : Ent := ctr (α := (Int)) (ρ := (Int)) [] [] (rs1 rInt) (fun x_ => (fun (n : Int) => (True)) x_) (fun x_ r_ => (fun x_ => (fun (n : Int) => ((fun r_ => (fun (r : Int) => (True)) r_))) x_) x_ r_) (fun r_ => (fun (r : Int) => ([rInt.to r])) r_) (fun r_ => (fun (r : Int) => ([])) r_)
def V_spec_NumOf : Env := ⟨tys2, [], [], [], [], [], [], [], []⟩
/-! spec.NumFar -/
def c_spec_NumFar : Ent := ctr (α := (Int) × (Int)) (ρ := (Int)) [] [] (rs rInt (rs1 rInt)) (fun x_ => (fun (a : Int) (b : Int) => (True)) x_.1 x_.2) (fun x_ r_ => (fun x_ => (fun (a : Int) (b : Int) => ((fun r_ => (fun (r : Int) => ((0 ≤ a ∧ a ≤ 7 ∧ 0 ≤ b ∧ b ≤ 7) → 0 ≤ r ∧ r ≤ 7)) r_))) x_.1 x_.2) x_ r_) (fun r_ => (fun (r : Int) => ([rInt.to r])) r_) (fun r_ => (fun (r : Int) => ([])) r_)
def V_spec_NumFar : Env := ⟨tys2, [(42, c_spec_l1In)], [], [], [], [], [500008], [], []⟩
end Go.Proofs.YtjjcjpmfkbfdfaaE


/- Calls answer what is promised: N1. Conditions: none. -/
set_option linter.unusedVariables false
set_option maxHeartbeats 1600000
namespace Go.Proofs.YtjjcjpmfkbfdfaaE
open Go
def k_bc6390 (s_:(Prod Nat (Prod Int Int))) : KS := (KS.mk true [(Prod.mk 0 (T.v false [(Cm.d (D.h RK.u8 s_.fst))])),(Prod.mk 3 (num IntKind.i64 s_.snd.fst)),(Prod.mk 4 (num IntKind.i64 s_.snd.snd))] [] [])
theorem vF_spec_CrcOf (m:Nat) (K:List Arg→List (List AC)→Prop) (hp:m≤1000) (hk:∀ (r:Int),(True)→K ([rInt.to r]) ([])):∃ s:(Prod Nat (Prod Int Int)),((KS.mk true [(Prod.mk 0 (T.v false [(Cm.d (D.h RK.u8 m))])),(Prod.mk 3 (num IntKind.i64 0)),(Prod.mk 4 (num IntKind.i64 0))] [] [])=(k_bc6390 s))∧(((s.fst≤1000)∧(s.snd.snd=0))∧((∀ r:Int,True→Tt (K [(aI IntKind.i64 r)] []))∧(∀ r:Empty,False→False))) := by
  try simp (disch := omega) only [wr]
  repeat' first
    | exact rfl
    | exact True.intro
    | with_reducible apply And.intro
    | (with_reducible intro y_ hy_; subst hy_)
    | with_reducible intro y_
    | (refine iteI (fun h => ?_) (fun h => ?_))
    | refine ⟨(_, _, _), rfl, ?_⟩
    | refine ⟨n - 1, ?_⟩
    | fail
  all_goals try simp only [cq1, cq2, cq3, cq4, cq5, cq6, cq7, cq8, cq9, cq10, cq11, cq12, cq13, cq14, cq15, cq16, cq17, cq18, cq19] at *
  all_goals try simp (disch := omega) only [wr] at *
  all_goals first
    | assumption
    | omega
    | exact (wr8_in _).1
    | exact (wr8_in _).2
    | (refine hk _ ?_
       (try dsimp only)
       first | done | exact True.intro | assumption | exact fun _ => by assumption | omega | grind [])
    | (simp only [LIM, HL] at *; omega)
    | grind [LIM, HL]
theorem vL_spec_CrcOf_0 (m0:Nat) (s0:Int) (i0:Int) (m:Nat) (s:Int) (i:Int) (n:Nat) (hp:(fun (m:Nat) (s:Int) (i:Int) => (m≤1000∧i=0)) m0 s0 i0) (hi:m=m0∧m≤1000∧0≤i∧i + n=m):if ((decide (i < ((m:Nat):Int)))=true) then (((0≤i)∧(i < ((m:Nat):Int)))∧(∀ x:Int,(0≤x)→(x≤255)→Tt (((0≤x)∧(x≤255))∧(∀ r:Int,(r=(if ((0≤s)∧(s≤65535)) then (((stp s.toNat x.toNat):Nat):Int) else (-1:Int)))→Tt (∃ s1:(Prod Nat (Prod Int Int)),((KS.mk true [(Prod.mk 0 (T.v false [(Cm.d (D.h RK.u8 m))])),(Prod.mk 3 (num IntKind.i64 r)),(Prod.mk 4 (num IntKind.i64 (IntKind.i64.wrap (i + 1))))] [] [])=(k_bc6390 s1))∧(∃ m1:Nat,(m1 < n)∧((s1.fst=m0)∧((s1.fst≤1000)∧((0≤s1.snd.snd)∧((s1.snd.snd + ((m1:Nat):Int))=((s1.fst:Nat):Int))))))))))) else (∃ r:Int,((KS.mk true [(Prod.mk 3 (num IntKind.i64 s))] [] [])=(KS.mk true [(Prod.mk 3 (num IntKind.i64 r))] [] []))∧True) := by
  try dsimp only at hp
  try simp (disch := omega) only [wr]
  repeat' first
    | exact rfl
    | exact True.intro
    | with_reducible apply And.intro
    | (with_reducible intro y_ hy_; subst hy_)
    | with_reducible intro y_
    | (refine iteI (fun h => ?_) (fun h => ?_))
    | refine ⟨(_, _, _), rfl, ?_⟩
    | refine ⟨_, rfl, ?_⟩
    | refine ⟨n - 1, ?_⟩
    | fail
  all_goals try simp only [cq1, cq2, cq3, cq4, cq5, cq6, cq7, cq8, cq9, cq10, cq11, cq12, cq13, cq14, cq15, cq16, cq17, cq18, cq19] at *
  all_goals try simp (disch := omega) only [wr] at *
  all_goals first
    | assumption
    | omega
    | exact (wr8_in _).1
    | exact (wr8_in _).2
    | (refine hk _ ?_
       (try dsimp only)
       first | done | exact True.intro | assumption | exact fun _ => by assumption | omega | grind [])
    | (simp only [LIM, HL] at *; omega)
    | grind [LIM, HL]
theorem vS_spec_CrcOf_0 (m0 : Nat) (s0 : Int) (i0 : Int) (hp : (fun (m : Nat) (s : Int) (i : Int) => (m ≤ 1000 ∧ i = 0)) m0 s0 i0) : ∃ n : Nat, (fun (m : Nat) (s : Int) (i : Int) => (m = m0 ∧ m ≤ 1000 ∧ 0 ≤ i ∧ i + n = m)) m0 s0 i0 := by
  try dsimp only at hp
  try dsimp only
  exact ⟨m0, rfl, hp.1, by omega, by omega⟩
theorem w_spec_CrcOf : Valid Try.prog 78 c_spec_CrcOf :=
  valid_ctr2 (V := V_spec_CrcOf) (tysB_ok tys2_ok) ⟨(CallsL.cons w_spec_CrcStep (CallsL.nil _)), (IosL.nil _)⟩ mixed 0 0 Try.func78 rfl (by kernel_rfl)
    (fun c hc => by
      obtain rfl := Option.some.inj hc
      exact ⟨trivial, ⟨trivial, ⟨⟨trivial, ⟨LoopD.ok2 (V := V_spec_CrcOf) l_spec_CrcOf_0 (LoopsM.cons 0 l_spec_CrcOf_0 LoopsM.nil) 0 _ i_spec_CrcOf_0 (fun x hx => vS_spec_CrcOf_0 x.1 x.2.1 x.2.2 hx) (fun x hx n s hi => ⟨_, by kernel_rfl, vL_spec_CrcOf_0 x.1 x.2.1 x.2.2 s.1 s.2.1 s.2.2 n hx hi⟩), ⟨⟨trivial, ⟨trivial, trivial⟩⟩, ⟨trivial, trivial⟩⟩⟩⟩, ⟨trivial, trivial⟩⟩⟩⟩)
    (fun x K hp hk => ⟨_, by kernel_rfl, vF_spec_CrcOf x K hp (fun r h => hk r h)⟩)
theorem vF_spec_CrcPut (m:Nat) (K:List Arg→List (List AC)→Prop) (hp:m≤1000) (hk:∀ (r:Nat),(r=m + 2)→K ([(rH .u8).to r]) ([])):Tt ((m≤1000)∧(∀ r:Int,True→Tt (True∧(((0 + m)≤137438953472)∧(((256:Int) ≠ (0:Int))∧(((256:Int) ≠ (0:Int))∧((((((0:Int)≤(IntKind.u8.wrap (Int.tmod r (256:Int))))∧((IntKind.u8.wrap (Int.tmod r (256:Int)))≤(255:Int)))∧True)∧(((((0:Int)≤(IntKind.u8.wrap (IntKind.i64.wrap (Int.tdiv r (256:Int)))))∧((IntKind.u8.wrap (IntKind.i64.wrap (Int.tdiv r (256:Int))))≤(255:Int)))∧True)∧True))∧((((0 + m) + 2)≤137438953472)∧(Tt (K [(Arg.v false [(AC.d (D.h RK.u8 ((0 + m) + 2)))])] [])))))))))) := by
  try simp (disch := omega) only [wr]
  repeat' first
    | exact rfl
    | exact True.intro
    | with_reducible apply And.intro
    | (with_reducible intro y_ hy_; subst hy_)
    | with_reducible intro y_
    | (refine iteI (fun h => ?_) (fun h => ?_))
    | fail
  all_goals try simp only [cq1, cq2, cq3, cq4, cq5, cq6, cq7, cq8, cq9, cq10, cq11, cq12, cq13, cq14, cq15, cq16, cq17, cq18, cq19] at *
  all_goals try simp (disch := omega) only [wr] at *
  all_goals first
    | assumption
    | omega
    | exact (wr8_in _).1
    | exact (wr8_in _).2
    | (refine hk _ ?_
       (try dsimp only)
       first | done | exact True.intro | assumption | exact fun _ => by assumption | omega | grind [])
    | (simp only [LIM, HL] at *; omega)
    | grind [LIM, HL]
theorem w_spec_CrcPut : Valid Try.prog 63 c_spec_CrcPut :=
  valid_ctr2 (V := V_spec_CrcPut) (tysB_ok tys2_ok) ⟨(CallsL.cons w_spec_CrcOf (CallsL.nil _)), (IosL.nil _)⟩ mixed 0 0 Try.func63 rfl (by kernel_rfl)
    (fun c hc => by
      obtain rfl := Option.some.inj hc
      exact ⟨trivial, ⟨trivial, ⟨trivial, trivial⟩⟩⟩)
    (fun x K hp hk => ⟨_, by kernel_rfl, vF_spec_CrcPut x K hp (fun r h => hk r h)⟩)
theorem vF_spec_CrcCut (m:Nat) (K:List Arg→List (List AC)→Prop) (hp:m≤1000) (hk:∀ (r:Nat) (b:Bool),(b=true→r + 2=m)→K ([(rH .u8).to r,rB.to b]) ([])):if ((decide ((IntKind.i64.wrap (((m:Nat):Int) - (2:Int))) < (0:Int)))=true) then (True∧(Tt (K [(Arg.v false [(AC.d (D.h RK.u8 0))]),(aB false)] []))) else ((((0:Int)≤(0:Int))∧(((0:Int)≤(IntKind.i64.wrap (((m:Nat):Int) - (2:Int))))∧((IntKind.i64.wrap (((m:Nat):Int) - (2:Int)))≤((m:Nat):Int))))∧((((0:Int)≤(IntKind.i64.wrap (((m:Nat):Int) - (2:Int))))∧((IntKind.i64.wrap (((m:Nat):Int) - (2:Int))) < ((m:Nat):Int)))∧((((0:Int)≤(IntKind.i64.wrap ((IntKind.i64.wrap (((m:Nat):Int) - (2:Int))) + (1:Int))))∧((IntKind.i64.wrap ((IntKind.i64.wrap (((m:Nat):Int) - (2:Int))) + (1:Int))) < ((m:Nat):Int)))∧((Tt ((((Int.toNat (IntKind.i64.wrap (((m:Nat):Int) - (2:Int)))) - 0)≤1000)∧(∀ r:Int,True→Tt (Tt ((∀ x:Int,(0≤x)→(x≤255)→Tt (∀ x1:Int,(0≤x1)→(x1≤255)→Tt (if ((r != (IntKind.i64.wrap ((IntKind.i64.wrap x) + (IntKind.i64.wrap ((IntKind.i64.wrap x1) * (256:Int))))))=true) then (True∧(Tt (K [(Arg.v false [(AC.d (D.h RK.u8 0))]),(aB false)] []))) else (True∧((((0:Int)≤(0:Int))∧(((0:Int)≤(IntKind.i64.wrap (((m:Nat):Int) - (2:Int))))∧((IntKind.i64.wrap (((m:Nat):Int) - (2:Int)))≤((m:Nat):Int))))∧(((0 + ((Int.toNat (IntKind.i64.wrap (((m:Nat):Int) - (2:Int)))) - 0))≤137438953472)∧(Tt (K [(Arg.v false [(AC.d (D.h RK.u8 (0 + ((Int.toNat (IntKind.i64.wrap (((m:Nat):Int) - (2:Int)))) - 0))))]),(aB true)] []))))))))∧(∀ x:Int,(0≤x)→(x≤255)→Tt (∀ x1:Int,(0≤x1)→(x1≤255)→Tt (if ((r != (IntKind.i64.wrap ((IntKind.i64.wrap x1) + (IntKind.i64.wrap ((IntKind.i64.wrap x) * (256:Int))))))=true) then (True∧(Tt (K [(Arg.v false [(AC.d (D.h RK.u8 0))]),(aB false)] []))) else (True∧((((0:Int)≤(0:Int))∧(((0:Int)≤(IntKind.i64.wrap (((m:Nat):Int) - (2:Int))))∧((IntKind.i64.wrap (((m:Nat):Int) - (2:Int)))≤((m:Nat):Int))))∧(((0 + ((Int.toNat (IntKind.i64.wrap (((m:Nat):Int) - (2:Int)))) - 0))≤137438953472)∧(Tt (K [(Arg.v false [(AC.d (D.h RK.u8 (0 + ((Int.toNat (IntKind.i64.wrap (((m:Nat):Int) - (2:Int)))) - 0))))]),(aB true)] [])))))))))))))∧((∀ x:Int,(0≤x)→(x≤255)→Tt ((Tt ((((Int.toNat (IntKind.i64.wrap (((m:Nat):Int) - (2:Int)))) - 0)≤1000)∧(∀ r:Int,True→Tt (Tt (∀ x1:Int,(0≤x1)→(x1≤255)→Tt (if ((r != (IntKind.i64.wrap ((IntKind.i64.wrap x) + (IntKind.i64.wrap ((IntKind.i64.wrap x1) * (256:Int))))))=true) then (True∧(Tt (K [(Arg.v false [(AC.d (D.h RK.u8 0))]),(aB false)] []))) else (True∧((((0:Int)≤(0:Int))∧(((0:Int)≤(IntKind.i64.wrap (((m:Nat):Int) - (2:Int))))∧((IntKind.i64.wrap (((m:Nat):Int) - (2:Int)))≤((m:Nat):Int))))∧(((0 + ((Int.toNat (IntKind.i64.wrap (((m:Nat):Int) - (2:Int)))) - 0))≤137438953472)∧(Tt (K [(Arg.v false [(AC.d (D.h RK.u8 (0 + ((Int.toNat (IntKind.i64.wrap (((m:Nat):Int) - (2:Int)))) - 0))))]),(aB true)] [])))))))))))∧(∀ x1:Int,(0≤x1)→(x1≤255)→Tt (Tt ((((Int.toNat (IntKind.i64.wrap (((m:Nat):Int) - (2:Int)))) - 0)≤1000)∧(∀ r:Int,True→Tt (Tt (if ((r != (IntKind.i64.wrap ((IntKind.i64.wrap x) + (IntKind.i64.wrap ((IntKind.i64.wrap x1) * (256:Int))))))=true) then (True∧(Tt (K [(Arg.v false [(AC.d (D.h RK.u8 0))]),(aB false)] []))) else (True∧((((0:Int)≤(0:Int))∧(((0:Int)≤(IntKind.i64.wrap (((m:Nat):Int) - (2:Int))))∧((IntKind.i64.wrap (((m:Nat):Int) - (2:Int)))≤((m:Nat):Int))))∧(((0 + ((Int.toNat (IntKind.i64.wrap (((m:Nat):Int) - (2:Int)))) - 0))≤137438953472)∧(Tt (K [(Arg.v false [(AC.d (D.h RK.u8 (0 + ((Int.toNat (IntKind.i64.wrap (((m:Nat):Int) - (2:Int)))) - 0))))]),(aB true)] [])))))))))))))∧(∀ x:Int,(0≤x)→(x≤255)→Tt ((Tt ((((Int.toNat (IntKind.i64.wrap (((m:Nat):Int) - (2:Int)))) - 0)≤1000)∧(∀ r:Int,True→Tt (Tt (∀ x1:Int,(0≤x1)→(x1≤255)→Tt (if ((r != (IntKind.i64.wrap ((IntKind.i64.wrap x1) + (IntKind.i64.wrap ((IntKind.i64.wrap x) * (256:Int))))))=true) then (True∧(Tt (K [(Arg.v false [(AC.d (D.h RK.u8 0))]),(aB false)] []))) else (True∧((((0:Int)≤(0:Int))∧(((0:Int)≤(IntKind.i64.wrap (((m:Nat):Int) - (2:Int))))∧((IntKind.i64.wrap (((m:Nat):Int) - (2:Int)))≤((m:Nat):Int))))∧(((0 + ((Int.toNat (IntKind.i64.wrap (((m:Nat):Int) - (2:Int)))) - 0))≤137438953472)∧(Tt (K [(Arg.v false [(AC.d (D.h RK.u8 (0 + ((Int.toNat (IntKind.i64.wrap (((m:Nat):Int) - (2:Int)))) - 0))))]),(aB true)] [])))))))))))∧(∀ x1:Int,(0≤x1)→(x1≤255)→Tt (Tt ((((Int.toNat (IntKind.i64.wrap (((m:Nat):Int) - (2:Int)))) - 0)≤1000)∧(∀ r:Int,True→Tt (Tt (if ((r != (IntKind.i64.wrap ((IntKind.i64.wrap x1) + (IntKind.i64.wrap ((IntKind.i64.wrap x) * (256:Int))))))=true) then (True∧(Tt (K [(Arg.v false [(AC.d (D.h RK.u8 0))]),(aB false)] []))) else (True∧((((0:Int)≤(0:Int))∧(((0:Int)≤(IntKind.i64.wrap (((m:Nat):Int) - (2:Int))))∧((IntKind.i64.wrap (((m:Nat):Int) - (2:Int)))≤((m:Nat):Int))))∧(((0 + ((Int.toNat (IntKind.i64.wrap (((m:Nat):Int) - (2:Int)))) - 0))≤137438953472)∧(Tt (K [(Arg.v false [(AC.d (D.h RK.u8 (0 + ((Int.toNat (IntKind.i64.wrap (((m:Nat):Int) - (2:Int)))) - 0))))]),(aB true)] [])))))))))))))))))) := by
  try simp (disch := omega) only [wr]
  repeat' first
    | exact rfl
    | exact True.intro
    | with_reducible apply And.intro
    | (with_reducible intro y_ hy_; subst hy_)
    | with_reducible intro y_
    | (refine iteI (fun h => ?_) (fun h => ?_))
    | fail
  all_goals try simp only [cq1, cq2, cq3, cq4, cq5, cq6, cq7, cq8, cq9, cq10, cq11, cq12, cq13, cq14, cq15, cq16, cq17, cq18, cq19] at *
  all_goals try simp (disch := omega) only [wr] at *
  all_goals first
    | assumption
    | omega
    | exact (wr8_in _).1
    | exact (wr8_in _).2
    | (refine hk _ _ ?_
       (try dsimp only)
       first | done | exact True.intro | assumption | exact fun _ => by assumption | omega | grind [])
    | (simp only [LIM, HL] at *; omega)
    | grind [LIM, HL]
theorem w_spec_CrcCut : Valid Try.prog 81 c_spec_CrcCut :=
  valid_ctr2 (V := V_spec_CrcCut) (tysB_ok tys2_ok) ⟨(CallsL.cons w_spec_CrcOf (CallsL.nil _)), (IosL.nil _)⟩ mixed 0 0 Try.func81 rfl (by kernel_rfl)
    (fun c hc => by
      obtain rfl := Option.some.inj hc
      exact ⟨trivial, ⟨trivial, ⟨⟨trivial, ⟨⟨trivial, trivial⟩, trivial⟩⟩, ⟨trivial, trivial⟩⟩⟩⟩)
    (fun x K hp hk => ⟨_, by kernel_rfl, vF_spec_CrcCut x K hp (fun r b h => hk (r, b) h)⟩)
theorem vF_spec_l2Bit (b:Bool) (K:List Arg→List (List AC)→Prop) (hp:True) (hk:∀ (r:Int),(r=if b=true then 1 else 0)→K ([rInt.to r]) ([])):if (b=true) then (Tt (K [(aI IntKind.i64 (1:Int))] [])) else (Tt (K [(aI IntKind.i64 (0:Int))] [])) := by
  try simp (disch := omega) only [wr]
  repeat' first
    | exact rfl
    | exact True.intro
    | with_reducible apply And.intro
    | (with_reducible intro y_ hy_; subst hy_)
    | with_reducible intro y_
    | (refine iteI (fun h => ?_) (fun h => ?_))
    | fail
  all_goals try simp only [cq1, cq2, cq3, cq4, cq5, cq6, cq7, cq8, cq9, cq10, cq11, cq12, cq13, cq14, cq15, cq16, cq17, cq18, cq19] at *
  all_goals try simp (disch := omega) only [wr] at *
  all_goals first
    | assumption
    | omega
    | exact (wr8_in _).1
    | exact (wr8_in _).2
    | (refine hk _ ?_
       (try dsimp only)
       first | done | exact True.intro | assumption | exact fun _ => by assumption | omega | grind [])
    | (simp only [LIM, HL] at *; omega)
    | grind [LIM, HL]
theorem w_spec_l2Bit : Valid Try.prog 62 c_spec_l2Bit :=
  valid_ctr2 (V := V_spec_l2Bit) (tysB_ok tys2_ok) ⟨(CallsL.nil _), (IosL.nil _)⟩ mixed 0 0 Try.func62 rfl (by kernel_rfl)
    (fun c hc => by
      obtain rfl := Option.some.inj hc
      exact ⟨trivial, ⟨⟨trivial, ⟨⟨trivial, trivial⟩, trivial⟩⟩, ⟨trivial, trivial⟩⟩⟩)
    (fun x K hp hk => ⟨_, by kernel_rfl, vF_spec_l2Bit x K hp (fun r h => hk r h)⟩)
theorem vF_spec_l2Seg (f:FrmN) (K:List Arg→List (List AC)→Prop) (hp:True) (hk:∀ (r:Bool),(r=decide (SegP f.seg f.len f.data))→K ([rB.to r]) ([])):Tt (True∧(∀ r:Bool,(r=(decide ((0≤f.seg)∧(f.seg≤3))))→Tt (if ((!r)=true) then (Tt (K [(aB false)] [])) else (if ((((f.data:Nat):Int) == (0:Int))=true) then (if ((f.len != (0:Int))=true) then (Tt (K [(aB false)] [])) else (if ((decide (((f.data:Nat):Int) > (8:Int)))=true) then (Tt (K [(aB false)] [])) else (if ((f.seg == 0)=true) then (Tt (K [(aB (f.len == ((f.data:Nat):Int)))] [])) else (if ((f.seg == 1)=true) then (Tt (True∧(∀ r1:Bool,(r1=(decide (((IntKind.i64.wrap (((f.data:Nat):Int) + (1:Int)))≤f.len)∧(f.len≤24))))→Tt (if (r1=true) then (Tt (K [(aB (decide (((f.data:Nat):Int) > (0:Int))))] [])) else (Tt (K [(aB false)] [])))))) else (if ((f.len == 0)=true) then (Tt (K [(aB (decide (((f.data:Nat):Int) > (0:Int))))] [])) else (Tt (K [(aB false)] []))))))) else (if ((decide (((f.data:Nat):Int) > (8:Int)))=true) then (Tt (K [(aB false)] [])) else (if ((f.seg == 0)=true) then (Tt (K [(aB (f.len == ((f.data:Nat):Int)))] [])) else (if ((f.seg == 1)=true) then (Tt (True∧(∀ r1:Bool,(r1=(decide (((IntKind.i64.wrap (((f.data:Nat):Int) + (1:Int)))≤f.len)∧(f.len≤24))))→Tt (if (r1=true) then (Tt (K [(aB (decide (((f.data:Nat):Int) > (0:Int))))] [])) else (Tt (K [(aB false)] [])))))) else (if ((f.len == 0)=true) then (Tt (K [(aB (decide (((f.data:Nat):Int) > (0:Int))))] [])) else (Tt (K [(aB false)] [])))))))))) := by
  try simp (disch := omega) only [wr]
  repeat' first
    | exact rfl
    | exact True.intro
    | with_reducible apply And.intro
    | (with_reducible intro y_ hy_; subst hy_)
    | with_reducible intro y_
    | (refine iteI (fun h => ?_) (fun h => ?_))
    | fail
  all_goals try simp only [cq1, cq2, cq3, cq4, cq5, cq6, cq7, cq8, cq9, cq10, cq11, cq12, cq13, cq14, cq15, cq16, cq17, cq18, cq19, SegP] at *
  all_goals try simp (disch := omega) only [wr] at *
  all_goals first
    | assumption
    | omega
    | exact (wr8_in _).1
    | exact (wr8_in _).2
    | (refine hk _ ?_
       (try dsimp only)
       first | done | exact True.intro | assumption | exact fun _ => by assumption | omega | grind [SegP])
    | (simp only [LIM, HL] at *; omega)
    | grind [SegP, LIM, HL]
theorem w_spec_l2Seg : Valid Try.prog 76 c_spec_l2Seg :=
  valid_ctr2 (V := V_spec_l2Seg) (tysB_ok tys2_ok) ⟨(CallsL.cons w_spec_l1In (CallsL.nil _)), (IosL.nil _)⟩ mixed 0 1 Try.func76 rfl (by kernel_rfl)
    (fun c hc => by
      obtain rfl := Option.some.inj hc
      exact ⟨trivial, ⟨⟨trivial, ⟨⟨trivial, trivial⟩, trivial⟩⟩, ⟨⟨trivial, ⟨trivial, ⟨⟨trivial, trivial⟩, ⟨trivial, ⟨⟨trivial, trivial⟩, trivial⟩⟩⟩⟩⟩, ⟨trivial, trivial⟩⟩⟩⟩)
    (fun x K hp hk => ⟨_, by kernel_rfl, vF_spec_l2Seg x K hp (fun r h => hk r h)⟩)
theorem vF_spec_FrmOk (f:FrmN) (K:List Arg→List (List AC)→Prop) (hp:True) (hk:∀ (r:Bool),(r=decide (FrmPN f))→K ([rB.to r]) ([])):if ((f.kind == 1)=true) then (Tt (True∧(∀ r:Bool,(r=(decide ((0≤f.seq)∧(f.seq≤7))))→Tt (if (r=true) then (Tt (True∧(∀ r1:Bool,(r1=(decide ((0≤f.ack)∧(f.ack≤7))))→Tt (if (r1=true) then (if ((!f.poll)=true) then (if ((f.say == 0)=true) then (Tt (True∧(∀ r2:Bool,(r2=(decide (SegP f.seg f.len ((f.data:Nat):Int))))→Tt (Tt (K [(aB r2)] []))))) else (Tt (K [(aB false)] []))) else (Tt (K [(aB false)] []))) else (Tt (K [(aB false)] [])))))) else (Tt (K [(aB false)] [])))))) else (if ((f.kind == 2)=true) then (if ((f.seq == 0)=true) then (Tt (True∧(∀ r:Bool,(r=(decide ((0≤f.ack)∧(f.ack≤7))))→Tt (if (r=true) then (if (f.poll=true) then (if ((!f.final)=true) then (Tt (True∧(∀ r1:Bool,(r1=(decide ((0≤f.say)∧(f.say≤2))))→Tt (if (r1=true) then (if ((f.seg == 0)=true) then (if ((f.len == 0)=true) then (Tt (K [(aB (((f.data:Nat):Int) == (0:Int)))] [])) else (Tt (K [(aB false)] []))) else (Tt (K [(aB false)] []))) else (Tt (K [(aB false)] [])))))) else (Tt (K [(aB false)] []))) else (Tt (True∧(∀ r1:Bool,(r1=(decide ((0≤f.say)∧(f.say≤2))))→Tt (if (r1=true) then (if ((f.seg == 0)=true) then (if ((f.len == 0)=true) then (Tt (K [(aB (((f.data:Nat):Int) == (0:Int)))] [])) else (Tt (K [(aB false)] []))) else (Tt (K [(aB false)] []))) else (Tt (K [(aB false)] []))))))) else (Tt (K [(aB false)] [])))))) else (Tt (K [(aB false)] []))) else (if ((f.kind == 3)=true) then (if ((f.seq == 0)=true) then (if ((f.ack == 0)=true) then (if ((!f.poll)=true) then (if ((!f.final)=true) then (if ((f.say == 0)=true) then (Tt (True∧(∀ r:Bool,(r=(decide (SegP f.seg f.len ((f.data:Nat):Int))))→Tt (Tt (K [(aB r)] []))))) else (Tt (K [(aB false)] []))) else (Tt (K [(aB false)] []))) else (Tt (K [(aB false)] []))) else (Tt (K [(aB false)] []))) else (Tt (K [(aB false)] []))) else (if ((f.kind == 4)=true) then (if ((f.seq == 0)=true) then (if ((f.ack == 0)=true) then (if ((!f.poll)=true) then (if ((!f.final)=true) then (if ((f.say == 0)=true) then (if ((f.seg == 0)=true) then (Tt (True∧(∀ r:Bool,(r=(decide ((1≤f.len)∧(f.len≤255))))→Tt (if (r=true) then (Tt (K [(aB (((f.data:Nat):Int) == (0:Int)))] [])) else (Tt (K [(aB false)] [])))))) else (Tt (K [(aB false)] []))) else (Tt (K [(aB false)] []))) else (Tt (K [(aB false)] []))) else (Tt (K [(aB false)] []))) else (Tt (K [(aB false)] []))) else (Tt (K [(aB false)] []))) else (Tt (K [(aB false)] []))))) := by
  try simp (disch := omega) only [wr]
  repeat' first
    | exact rfl
    | exact True.intro
    | with_reducible apply And.intro
    | (with_reducible intro y_ hy_; subst hy_)
    | with_reducible intro y_
    | (refine iteI (fun h => ?_) (fun h => ?_))
    | fail
  all_goals try simp only [cq1, cq2, cq3, cq4, cq5, cq6, cq7, cq8, cq9, cq10, cq11, cq12, cq13, cq14, cq15, cq16, cq17, cq18, cq19, FrmPN] at *
  all_goals try simp (disch := omega) only [wr] at *
  all_goals first
    | assumption
    | omega
    | exact (wr8_in _).1
    | exact (wr8_in _).2
    | (refine hk _ ?_
       (try dsimp only)
       first | done | exact True.intro | assumption | exact fun _ => by assumption | omega | grind [FrmPN])
    | (simp only [LIM, HL] at *; omega)
    | grind [FrmPN, LIM, HL]
theorem w_spec_FrmOk : Valid Try.prog 56 c_spec_FrmOk :=
  valid_ctr2 (V := V_spec_FrmOk) (tysB_ok tys2_ok) ⟨(CallsL.cons w_spec_l1In (CallsL.cons w_spec_l2Seg (CallsL.nil _))), (IosL.nil _)⟩ mixed 0 1 Try.func56 rfl (by kernel_rfl)
    (fun c hc => by
      obtain rfl := Option.some.inj hc
      exact ⟨trivial, ⟨⟨trivial, ⟨trivial, ⟨⟨trivial, trivial⟩, ⟨trivial, ⟨⟨trivial, trivial⟩, ⟨trivial, ⟨⟨trivial, trivial⟩, trivial⟩⟩⟩⟩⟩⟩⟩, ⟨trivial, trivial⟩⟩⟩)
    (fun x K hp hk => ⟨_, by kernel_rfl, vF_spec_FrmOk x K hp (fun r h => hk r h)⟩)
theorem vF_spec_FrmBytes (f:FrmN) (K:List Arg→List (List AC)→Prop) (hp:f.data≤1000) (hk:∀ (r:Nat),(r≤15)→K ([(rH .u8).to r]) ([])):Tt (True∧(∀ r:Bool,(r=(decide (FrmPN f)))→Tt (if ((!r)=true) then (True∧(Tt (K [(Arg.v false [(AC.d (D.h RK.u8 0))])] []))) else (Tt (True∧(∀ r1:Int,(r1=(if (f.poll=true) then (1:Int) else (0:Int)))→Tt (Tt (Tt (True∧(∀ r2:Int,(r2=(if (f.final=true) then (1:Int) else (0:Int)))→Tt (Tt ((((((0:Int)≤(IntKind.u8.wrap f.kind))∧((IntKind.u8.wrap f.kind)≤(255:Int)))∧True)∧(((((0:Int)≤(IntKind.u8.wrap (IntKind.i64.wrap ((IntKind.i64.wrap (f.seq * (16:Int))) + f.ack))))∧((IntKind.u8.wrap (IntKind.i64.wrap ((IntKind.i64.wrap (f.seq * (16:Int))) + f.ack)))≤(255:Int)))∧True)∧(((((0:Int)≤(IntKind.u8.wrap (IntKind.i64.wrap ((IntKind.i64.wrap ((IntKind.i64.wrap (r1 + (IntKind.i64.wrap ((2:Int) * r2)))) + (IntKind.i64.wrap ((4:Int) * f.say)))) + (IntKind.i64.wrap ((16:Int) * f.seg))))))∧((IntKind.u8.wrap (IntKind.i64.wrap ((IntKind.i64.wrap ((IntKind.i64.wrap (r1 + (IntKind.i64.wrap ((2:Int) * r2)))) + (IntKind.i64.wrap ((4:Int) * f.say)))) + (IntKind.i64.wrap ((16:Int) * f.seg)))))≤(255:Int)))∧True)∧(((((0:Int)≤(IntKind.u8.wrap f.len))∧((IntKind.u8.wrap f.len)≤(255:Int)))∧True)∧(((((0:Int)≤(IntKind.u8.wrap ((f.data:Nat):Int)))∧((IntKind.u8.wrap ((f.data:Nat):Int))≤(255:Int)))∧True)∧True)))))∧(Tt (((5 + f.data)≤137438953472)∧(Tt (((5 + f.data)≤1000)∧(∀ r3:Nat,(r3=((5 + f.data) + 2))→Tt (Tt (K [(Arg.v false [(AC.d (D.h RK.u8 r3))])] []))))))))))))))))))) := by
  try simp (disch := omega) only [wr]
  repeat' first
    | exact rfl
    | exact True.intro
    | with_reducible apply And.intro
    | (with_reducible intro y_ hy_; subst hy_)
    | with_reducible intro y_
    | (refine iteI (fun h => ?_) (fun h => ?_))
    | fail
  all_goals try simp only [cq1, cq2, cq3, cq4, cq5, cq6, cq7, cq8, cq9, cq10, cq11, cq12, cq13, cq14, cq15, cq16, cq17, cq18, cq19, FrmPN, SegP] at *
  all_goals try simp (disch := omega) only [wr] at *
  all_goals first
    | assumption
    | omega
    | exact (wr8_in _).1
    | exact (wr8_in _).2
    | (refine hk _ ?_
       (try dsimp only)
       first | done | exact True.intro | assumption | exact fun _ => by assumption | omega | grind [FrmPN, SegP])
    | (simp only [LIM, HL] at *; omega)
    | grind [FrmPN, SegP, LIM, HL]
theorem w_spec_FrmBytes : Valid Try.prog 40 c_spec_FrmBytes :=
  valid_ctr2 (V := V_spec_FrmBytes) (tysB_ok tys2_ok) ⟨(CallsL.cons w_spec_FrmOk (CallsL.cons w_spec_l2Bit (CallsL.cons w_spec_CrcPut (CallsL.nil _)))), (IosL.nil _)⟩ mixed 0 1 Try.func40 rfl (by kernel_rfl)
    (fun c hc => by
      obtain rfl := Option.some.inj hc
      exact ⟨trivial, ⟨⟨trivial, ⟨⟨trivial, trivial⟩, trivial⟩⟩, ⟨trivial, ⟨trivial, trivial⟩⟩⟩⟩)
    (fun x K hp hk => ⟨_, by kernel_rfl, vF_spec_FrmBytes x K hp (fun r h => hk r h)⟩)
theorem vF_spec_FrmRead (m:Nat) (K:List Arg→List (List AC)→Prop) (hp:m≤1000) (hk:∀ (f:FrmN) (b:Bool),(b=true→FrmPN f)→K ([rFrmN.to f,rB.to b]) ([])):Tt ((m≤1000)∧(∀ r:(Prod Nat Bool),((r.snd=true)→((r.fst + 2)=m))→Tt (if ((!r.snd)=true) then (Tt (K [(Arg.v true [(ai 0),(ai 0),(ai 0),(AC.d (D.b false)),(AC.d (D.b false)),(ai 0),(ai 0),(ai 0),(AC.d (D.h RK.u8 0))]),(aB false)] [])) else (if ((decide (((r.fst:Nat):Int) < (5:Int)))=true) then (Tt (K [(Arg.v true [(ai 0),(ai 0),(ai 0),(AC.d (D.b false)),(AC.d (D.b false)),(ai 0),(ai 0),(ai 0),(AC.d (D.h RK.u8 0))]),(aB false)] [])) else ((((0:Int)≤(4:Int))∧((4:Int) < ((r.fst:Nat):Int)))∧(∀ x:Int,(0≤x)→(x≤255)→if (((IntKind.i64.wrap x) != (IntKind.i64.wrap (((r.fst:Nat):Int) - (5:Int))))=true) then (Tt (K [(Arg.v true [(ai 0),(ai 0),(ai 0),(AC.d (D.b false)),(AC.d (D.b false)),(ai 0),(ai 0),(ai 0),(AC.d (D.h RK.u8 0))]),(aB false)] [])) else (if ((decide (((r.fst:Nat):Int) > (13:Int)))=true) then (Tt (K [(Arg.v true [(ai 0),(ai 0),(ai 0),(AC.d (D.b false)),(AC.d (D.b false)),(ai 0),(ai 0),(ai 0),(AC.d (D.h RK.u8 0))]),(aB false)] [])) else ((((0:Int)≤(0:Int))∧((0:Int) < ((r.fst:Nat):Int)))∧(∀ x1:Int,(0≤x1)→(x1≤255)→(((0:Int)≤(1:Int))∧((1:Int) < ((r.fst:Nat):Int)))∧(∀ x2:Int,(0≤x2)→(x2≤255)→((16:Int) ≠ (0:Int))∧((((0:Int)≤(1:Int))∧((1:Int) < ((r.fst:Nat):Int)))∧(∀ x3:Int,(0≤x3)→(x3≤255)→((16:Int) ≠ (0:Int))∧((((0:Int)≤(2:Int))∧((2:Int) < ((r.fst:Nat):Int)))∧(∀ x4:Int,(0≤x4)→(x4≤255)→((2:Int) ≠ (0:Int))∧((((0:Int)≤(2:Int))∧((2:Int) < ((r.fst:Nat):Int)))∧(∀ x5:Int,(0≤x5)→(x5≤255)→((2:Int) ≠ (0:Int))∧(((2:Int) ≠ (0:Int))∧((((0:Int)≤(2:Int))∧((2:Int) < ((r.fst:Nat):Int)))∧(∀ x6:Int,(0≤x6)→(x6≤255)→((4:Int) ≠ (0:Int))∧(((4:Int) ≠ (0:Int))∧((((0:Int)≤(2:Int))∧((2:Int) < ((r.fst:Nat):Int)))∧(∀ x7:Int,(0≤x7)→(x7≤255)→((16:Int) ≠ (0:Int))∧((((0:Int)≤(3:Int))∧((3:Int) < ((r.fst:Nat):Int)))∧(∀ x8:Int,(0≤x8)→(x8≤255)→(((0:Int)≤(5:Int))∧(((5:Int)≤((r.fst:Nat):Int))∧(((r.fst:Nat):Int)≤((r.fst:Nat):Int))))∧(True∧(Tt (((0 + ((Int.toNat ((r.fst:Nat):Int)) - 5))≤137438953472)∧(Tt (Tt (Tt (True∧(∀ r1:Bool,(r1=(decide (FrmPN (FrmN.mk (IntKind.i64.wrap x1) (IntKind.i64.wrap (IntKind.u8.wrap (Int.tdiv x2 (16:Int)))) (IntKind.i64.wrap (Int.tmod x3 (16:Int))) ((Int.tmod x4 (2:Int)) == (1:Int)) ((Int.tmod (IntKind.u8.wrap (Int.tdiv x5 (2:Int))) (2:Int)) == (1:Int)) (IntKind.i64.wrap (Int.tmod (IntKind.u8.wrap (Int.tdiv x6 (4:Int))) (4:Int))) (IntKind.i64.wrap (IntKind.u8.wrap (Int.tdiv x7 (16:Int)))) (IntKind.i64.wrap x8) (0 + ((Int.toNat ((r.fst:Nat):Int)) - 5))))))→Tt (if ((!r1)=true) then (Tt (K [(Arg.v true [(ai 0),(ai 0),(ai 0),(AC.d (D.b false)),(AC.d (D.b false)),(ai 0),(ai 0),(ai 0),(AC.d (D.h RK.u8 0))]),(aB false)] [])) else (Tt (K [(Arg.v true [(ai (IntKind.i64.wrap x1)),(ai (IntKind.i64.wrap (IntKind.u8.wrap (Int.tdiv x2 (16:Int))))),(ai (IntKind.i64.wrap (Int.tmod x3 (16:Int)))),(AC.d (D.b ((Int.tmod x4 (2:Int)) == (1:Int)))),(AC.d (D.b ((Int.tmod (IntKind.u8.wrap (Int.tdiv x5 (2:Int))) (2:Int)) == (1:Int)))),(ai (IntKind.i64.wrap (Int.tmod (IntKind.u8.wrap (Int.tdiv x6 (4:Int))) (4:Int)))),(ai (IntKind.i64.wrap (IntKind.u8.wrap (Int.tdiv x7 (16:Int))))),(ai (IntKind.i64.wrap x8)),(AC.d (D.h RK.u8 (0 + ((Int.toNat ((r.fst:Nat):Int)) - 5))))]),(aB true)] []))))))))))))))))))))))))))))))))))) := by
  have hkk := fun a1_ a2_ a3_ a4_ a5_ a6_ a7_ a8_ a9_ a10_ h_ => hk ⟨a1_, a2_, a3_, a4_, a5_, a6_, a7_, a8_, a9_⟩ a10_ h_
  dsimp only [rFrmN, rS, frmNC, List.map] at hkk
  try simp (disch := omega) only [wr]
  repeat' first
    | exact rfl
    | exact True.intro
    | with_reducible apply And.intro
    | (with_reducible intro y_ hy_; subst hy_)
    | with_reducible intro y_
    | (refine iteI (fun h => ?_) (fun h => ?_))
    | fail
  all_goals try simp only [cq1, cq2, cq3, cq4, cq5, cq6, cq7, cq8, cq9, cq10, cq11, cq12, cq13, cq14, cq15, cq16, cq17, cq18, cq19] at *
  all_goals try simp (disch := omega) only [wr] at *
  all_goals first
    | assumption
    | omega
    | exact (wr8_in _).1
    | exact (wr8_in _).2
    | (refine hkk _ _ _ _ _ _ _ _ _ _ ?_
       (try dsimp only)
       first | done | exact True.intro | assumption | exact fun _ => by assumption | omega | grind [])
    | (simp only [LIM, HL] at *; omega)
    | grind [LIM, HL]
theorem w_spec_FrmRead : Valid Try.prog 70 c_spec_FrmRead :=
  valid_ctr2 (V := V_spec_FrmRead) (tysB_ok tys2_ok) ⟨(CallsL.cons w_spec_FrmOk (CallsL.cons w_spec_CrcCut (CallsL.nil _))), (IosL.nil _)⟩ mixed 0 2 Try.func70 rfl (by kernel_rfl)
    (fun c hc => by
      obtain rfl := Option.some.inj hc
      exact ⟨trivial, ⟨trivial, ⟨⟨trivial, ⟨⟨trivial, trivial⟩, trivial⟩⟩, ⟨trivial, ⟨⟨trivial, ⟨⟨trivial, trivial⟩, trivial⟩⟩, ⟨trivial, trivial⟩⟩⟩⟩⟩⟩)
    (fun x K hp hk => ⟨_, by kernel_rfl, vF_spec_FrmRead x K hp (fun f b h => hk (f, b) h)⟩)
theorem vF_spec_NumNext (n:Int) (K:List Arg→List (List AC)→Prop) (hp:True) (hk:∀ (r:Int),(True)→K ([rInt.to r]) ([])):((8:Int) ≠ (0:Int))∧(Tt (K [(aI IntKind.i64 (Int.tmod (IntKind.i64.wrap (n + 1)) (8:Int)))] [])) := by
  try simp (disch := omega) only [wr]
  repeat' first
    | exact rfl
    | exact True.intro
    | with_reducible apply And.intro
    | (with_reducible intro y_ hy_; subst hy_)
    | with_reducible intro y_
    | (refine iteI (fun h => ?_) (fun h => ?_))
    | fail
  all_goals try simp only [cq1, cq2, cq3, cq4, cq5, cq6, cq7, cq8, cq9, cq10, cq11, cq12, cq13, cq14, cq15, cq16, cq17, cq18, cq19] at *
  all_goals try simp (disch := omega) only [wr] at *
  all_goals first
    | assumption
    | omega
    | exact (wr8_in _).1
    | exact (wr8_in _).2
    | (refine hk _ ?_
       (try dsimp only)
       first | done | exact True.intro | assumption | exact fun _ => by assumption | omega | grind [])
    | (simp only [LIM, HL] at *; omega)
    | grind [LIM, HL]
theorem w_spec_NumNext : Valid Try.prog 32 c_spec_NumNext :=
  valid_ctr2 (V := V_spec_NumNext) (tysB_ok tys2_ok) ⟨(CallsL.nil _), (IosL.nil _)⟩ mixed 0 0 Try.func32 rfl (by kernel_rfl)
    (fun c hc => by
      obtain rfl := Option.some.inj hc
      exact ⟨trivial, ⟨trivial, trivial⟩⟩)
    (fun x K hp hk => ⟨_, by kernel_rfl, vF_spec_NumNext x K hp (fun r h => hk r h)⟩)
theorem vF_spec_NumOf (n:Int) (K:List Arg→List (List AC)→Prop) (hp:True) (hk:∀ (r:Int),(True)→K ([rInt.to r]) ([])):if ((decide (n < 0))=true) then (Tt (K [(aI IntKind.i64 (-1:Int))] [])) else (((8:Int) ≠ (0:Int))∧(Tt (K [(aI IntKind.i64 (Int.tmod n (8:Int)))] []))) := by
  try simp (disch := omega) only [wr]
  repeat' first
    | exact rfl
    | exact True.intro
    | with_reducible apply And.intro
    | (with_reducible intro y_ hy_; subst hy_)
    | with_reducible intro y_
    | (refine iteI (fun h => ?_) (fun h => ?_))
    | fail
  all_goals try simp only [cq1, cq2, cq3, cq4, cq5, cq6, cq7, cq8, cq9, cq10, cq11, cq12, cq13, cq14, cq15, cq16, cq17, cq18, cq19] at *
  all_goals try simp (disch := omega) only [wr] at *
  all_goals first
    | assumption
    | omega
    | exact (wr8_in _).1
    | exact (wr8_in _).2
    | (refine hk _ ?_
       (try dsimp only)
       first | done | exact True.intro | assumption | exact fun _ => by assumption | omega | grind [])
    | (simp only [LIM, HL] at *; omega)
    | grind [LIM, HL]
theorem w_spec_NumOf : Valid Try.prog 73 c_spec_NumOf :=
  valid_ctr2 (V := V_spec_NumOf) (tysB_ok tys2_ok) ⟨(CallsL.nil _), (IosL.nil _)⟩ mixed 0 0 Try.func73 rfl (by kernel_rfl)
    (fun c hc => by
      obtain rfl := Option.some.inj hc
      exact ⟨trivial, ⟨⟨trivial, ⟨⟨trivial, trivial⟩, trivial⟩⟩, ⟨trivial, trivial⟩⟩⟩)
    (fun x K hp hk => ⟨_, by kernel_rfl, vF_spec_NumOf x K hp (fun r h => hk r h)⟩)
theorem vF_spec_NumFar (a:Int) (b:Int) (K:List Arg→List (List AC)→Prop) (hp:True) (hk:∀ (r:Int),((0≤a∧a≤7∧0≤b∧b≤7)→0≤r∧r≤7)→K ([rInt.to r]) ([])):Tt (True∧(∀ r:Bool,(r=(decide ((0≤a)∧(a≤7))))→Tt (if ((!r)=true) then (Tt (K [(aI IntKind.i64 (-1:Int))] [])) else (Tt (True∧(∀ r1:Bool,(r1=(decide ((0≤b)∧(b≤7))))→Tt (if ((!r1)=true) then (Tt (K [(aI IntKind.i64 (-1:Int))] [])) else (((8:Int) ≠ (0:Int))∧(Tt (K [(aI IntKind.i64 (Int.tmod (IntKind.i64.wrap ((IntKind.i64.wrap (b - a)) + (8:Int))) (8:Int)))] [])))))))))) := by
  try simp (disch := omega) only [wr]
  repeat' first
    | exact rfl
    | exact True.intro
    | with_reducible apply And.intro
    | (with_reducible intro y_ hy_; subst hy_)
    | with_reducible intro y_
    | (refine iteI (fun h => ?_) (fun h => ?_))
    | fail
  all_goals try simp only [cq1, cq2, cq3, cq4, cq5, cq6, cq7, cq8, cq9, cq10, cq11, cq12, cq13, cq14, cq15, cq16, cq17, cq18, cq19] at *
  all_goals try simp (disch := omega) only [wr] at *
  all_goals first
    | assumption
    | omega
    | exact (wr8_in _).1
    | exact (wr8_in _).2
    | (refine hk _ ?_
       (try dsimp only)
       first | done | exact True.intro | assumption | exact fun _ => by assumption | omega | grind [])
    | (simp only [LIM, HL] at *; omega)
    | grind [LIM, HL]
theorem w_spec_NumFar : Valid Try.prog 72 c_spec_NumFar :=
  valid_ctr2 (V := V_spec_NumFar) (tysB_ok tys2_ok) ⟨(CallsL.cons w_spec_l1In (CallsL.nil _)), (IosL.nil _)⟩ mixed 0 0 Try.func72 rfl (by kernel_rfl)
    (fun c hc => by
      obtain rfl := Option.some.inj hc
      exact ⟨trivial, ⟨⟨trivial, ⟨⟨trivial, trivial⟩, trivial⟩⟩, ⟨trivial, trivial⟩⟩⟩)
    (fun x K hp hk => ⟨_, by kernel_rfl, vF_spec_NumFar x.1 x.2 K hp (fun r h => hk r h)⟩)
end Go.Proofs.YtjjcjpmfkbfdfaaE
