/- A part of the proof of laws of the program: what calls of the program answer. Conditions: none. -/
import Derived.Orders
import Derived.RowKit
import Derived.KernelRfl
import Derived.Below
import Derived.ArgAppend
import Derived.Laws.MakeOwn
import Derived.Laws.IdiomCopy
import Derived.Laws.Tables
import Derived.WalkKit
import Derived.Laws.StructEq
import Derived.WalkSpells
set_option linter.unusedVariables false
set_option linter.unusedSimpArgs false
set_option linter.unusedSectionVars false

/- An evaluator of Go's operations over plain data: numbers, bools, rows. Definitions alone. Conditions: none. -/
set_option linter.unusedVariables false
namespace Go.Proofs.YtjjcjpmfkbfdfaaE
open Go Go.RowKit
/-! ### the program's data -/
structure Cfg where
  mode : Int
  win : Int
  mps : Int
  mtu : Int
  try_ : Int
  deriving DecidableEq
structure Part where
  seg : Int
  len : Int
  data : List Int
  deriving DecidableEq
structure Frm where
  kind : Int
  seq : Int
  ack : Int
  poll : Bool
  final : Bool
  say : Int
  seg : Int
  len : Int
  data : List Int
  deriving DecidableEq
structure TxS where
  next : Int
  acked : Int
  flight : List Part
  sent : Int
  queue : List Part
  asks : Bool
  tries : Int
  held : Bool
  count : Int
  dead : Bool
  deriving DecidableEq
structure JoinS where
  len : Int
  got : List Int
  deriving DecidableEq
structure RxS where
  expect : Int
  count : Int
  join : JoinS
  again : Bool
  busy : Bool
  dead : Bool
  deriving DecidableEq
structure CtS where
  have_ : Int
  queue : List Part
  granted : Int
  sent : Int
  dead : Bool
  deriving DecidableEq
structure CrS where
  out : Int
  join : JoinS
  dead : Bool
  deriving DecidableEq
structure EndS where
  tx : TxS
  rx : RxS
  ctx : CtS
  crx : CrS
  put : List (List Int)
  got : List (List Int)
  deriving DecidableEq
structure NetS where
  bent : Bool
  bytes : List Int
  deriving DecidableEq
structure EvS where
  kind : Int
  who : Int
  at_ : Int
  v : Int
  data : List Int
/-! ### the same, of rows that are shared only their lengths -/
structure TxN where
  next : Int
  acked : Int
  flight : Nat
  sent : Int
  queue : Nat
  asks : Bool
  tries : Int
  held : Bool
  count : Int
  dead : Bool
structure RxN where
  expect : Int
  count : Int
  len : Int
  got : Nat
  again : Bool
  busy : Bool
  dead : Bool
structure CtN where
  have_ : Int
  queue : Nat
  granted : Int
  sent : Int
  dead : Bool
structure CrN where
  out : Int
  len : Int
  got : Nat
  dead : Bool
structure EndN where
  tx : TxN
  rx : RxN
  ctx : CtN
  crx : CrN
  put : Nat
  got : Nat
inductive RK where
  | u8 | i64 | byr | part | frm | wend | netm | nets | hend | hnet | ev
  deriving DecidableEq
def hE : RK → Nat
  | .u8 => 5
  | .i64 => 3
  | .byr => 22
  | .part => 87
  | .frm => 81
  | .netm => 66
  | .ev => 73
  | _ => 0
def RK.El : RK → Type
  | .u8 | .i64 => Int
  | .byr => List Int
  | .part => Part
  | .frm => Frm
  | .wend => EndS
  | .netm => NetS
  | .nets => List NetS
  | .hend => EndN
  | .hnet => Nat
  | .ev => EvS
inductive D where
  | i (k : IntKind) (x : Int)
  | b (x : Bool)
  | r (k : RK) (l : List k.El)
  | h (k : RK) (n : Nat)
def txNC (t : TxN) : List D := [.i .i64 t.next, .i .i64 t.acked, .h .part t.flight, .i .i64 t.sent, .h .part t.queue, .b t.asks, .i .i64 t.tries, .b t.held, .i .i64 t.count, .b t.dead]
def rxNC (r : RxN) : List D := [.i .i64 r.expect, .i .i64 r.count, .i .i64 r.len, .h .u8 r.got, .b r.again, .b r.busy, .b r.dead]
def ctNC (t : CtN) : List D := [.i .i64 t.have_, .h .part t.queue, .i .i64 t.granted, .i .i64 t.sent, .b t.dead]
def crNC (r : CrN) : List D := [.i .i64 r.out, .i .i64 r.len, .h .u8 r.got, .b r.dead]
def txC (t : TxS) : List D := [.i .i64 t.next, .i .i64 t.acked, .r .part t.flight, .i .i64 t.sent, .r .part t.queue, .b t.asks, .i .i64 t.tries, .b t.held, .i .i64 t.count, .b t.dead]
def rxC (r : RxS) : List D := [.i .i64 r.expect, .i .i64 r.count, .i .i64 r.join.len, .r .u8 r.join.got, .b r.again, .b r.busy, .b r.dead]
def ctC (t : CtS) : List D := [.i .i64 t.have_, .r .part t.queue, .i .i64 t.granted, .i .i64 t.sent, .b t.dead]
def crC (r : CrS) : List D := [.i .i64 r.out, .i .i64 r.join.len, .r .u8 r.join.got, .b r.dead]
def RK.cells : (k : RK) → k.El → List D
  | .u8, x => [.i .u8 x]
  | .i64, x => [.i .i64 x]
  | .byr, l => [.r .u8 l]
  | .part, p => [.i .i64 p.seg, .i .i64 p.len, .r .u8 p.data]
  | .frm, f => [.i .i64 f.kind, .i .i64 f.seq, .i .i64 f.ack, .b f.poll, .b f.final, .i .i64 f.say, .i .i64 f.seg, .i .i64 f.len, .r .u8 f.data]
  | .wend, e => txC e.tx ++ (rxC e.rx ++ (ctC e.ctx ++ (crC e.crx ++ [.r .byr e.put, .r .byr e.got])))
  | .netm, n => [.b n.bent, .r .u8 n.bytes]
  | .nets, l => [.r .netm l]
  | .hend, e => txNC e.tx ++ (rxNC e.rx ++ (ctNC e.ctx ++ (crNC e.crx ++ [.h .byr e.put, .h .byr e.got])))
  | .hnet, n => [.h .netm n]
  | .ev, e => [.i .i64 e.kind, .i .i64 e.who, .i .i64 e.at_, .i .i64 e.v, .r .u8 e.data]
def RK.size : RK → Nat
  | .u8 | .i64 | .byr | .nets | .hnet => 1
  | .part => 3
  | .ev => 5
  | .frm => 9
  | .wend | .hend => 28
  | .netm => 2
def mkU8 : List D → Option Int
  | [.i .u8 x] => some x
  | _ => none
def mkI64 : List D → Option Int
  | [.i .i64 x] => some x
  | _ => none
def mkByr : List D → Option (List Int)
  | [.r .u8 l] => some l
  | _ => none
def mkPart : List D → Option Part
  | [.i .i64 a, .i .i64 b, .r .u8 l] => some ⟨a, b, l⟩
  | _ => none
def mkFrm : List D → Option Frm
  | [.i .i64 a, .i .i64 b, .i .i64 c, .b d, .b e, .i .i64 f, .i .i64 g, .i .i64 h, .r .u8 l] => some ⟨a, b, c, d, e, f, g, h, l⟩
  | _ => none
def mkTx : List D → Option TxS
  | [.i .i64 a0, .i .i64 a1, .r .part a2, .i .i64 a3, .r .part a4, .b a5, .i .i64 a6, .b a7, .i .i64 a8, .b a9] => some ⟨a0, a1, a2, a3, a4, a5, a6, a7, a8, a9⟩
  | _ => none
def mkRx : List D → Option RxS
  | [.i .i64 b0, .i .i64 b1, .i .i64 b2, .r .u8 b3, .b b4, .b b5, .b b6] => some ⟨b0, b1, ⟨b2, b3⟩, b4, b5, b6⟩
  | _ => none
def mkCt : List D → Option CtS
  | [.i .i64 c0, .r .part c1, .i .i64 c2, .i .i64 c3, .b c4] => some ⟨c0, c1, c2, c3, c4⟩
  | _ => none
def mkCr : List D → Option CrS
  | [.i .i64 d0, .i .i64 d1, .r .u8 d2, .b d3] => some ⟨d0, ⟨d1, d2⟩, d3⟩
  | _ => none
def mkPG : List D → Option (List (List Int) × List (List Int))
  | [.r .byr p, .r .byr g] => some (p, g)
  | _ => none
def mkEnd (ds : List D) : Option EndS := match mkTx (ds.take 10), mkRx ((ds.drop 10).take 7), mkCt ((ds.drop 17).take 5), mkCr ((ds.drop 22).take 4), mkPG (ds.drop 26) with
  | some a, some b, some c, some d, some (p, g) => some ⟨a, b, c, d, p, g⟩
  | _, _, _, _, _ => none
def mkNet : List D → Option NetS
  | [.b b, .r .u8 l] => some ⟨b, l⟩
  | _ => none
def mkNets : List D → Option (List NetS)
  | [.r .netm l] => some l
  | _ => none
def mkTxN : List D → Option TxN
  | [.i .i64 a0, .i .i64 a1, .h .part a2, .i .i64 a3, .h .part a4, .b a5, .i .i64 a6, .b a7, .i .i64 a8, .b a9] => some ⟨a0, a1, a2, a3, a4, a5, a6, a7, a8, a9⟩
  | _ => none
def mkRxN : List D → Option RxN
  | [.i .i64 b0, .i .i64 b1, .i .i64 b2, .h .u8 b3, .b b4, .b b5, .b b6] => some ⟨b0, b1, b2, b3, b4, b5, b6⟩
  | _ => none
def mkCtN : List D → Option CtN
  | [.i .i64 c0, .h .part c1, .i .i64 c2, .i .i64 c3, .b c4] => some ⟨c0, c1, c2, c3, c4⟩
  | _ => none
def mkCrN : List D → Option CrN
  | [.i .i64 d0, .i .i64 d1, .h .u8 d2, .b d3] => some ⟨d0, d1, d2, d3⟩
  | _ => none
def mkPGN : List D → Option (Nat × Nat)
  | [.h .byr p, .h .byr g] => some (p, g)
  | _ => none
def mkEndN (ds : List D) : Option EndN := match mkTxN (ds.take 10), mkRxN ((ds.drop 10).take 7), mkCtN ((ds.drop 17).take 5), mkCrN ((ds.drop 22).take 4), mkPGN (ds.drop 26) with
  | some a, some b, some c, some d, some (p, g) => some ⟨a, b, c, d, p, g⟩
  | _, _, _, _, _ => none
def mkEv : List D → Option EvS
  | [.i .i64 a0, .i .i64 a1, .i .i64 a2, .i .i64 a3, .r .u8 a4] => some ⟨a0, a1, a2, a3, a4⟩
  | _ => none
def mkHnet : List D → Option Nat
  | [.h .netm n] => some n
  | _ => none
def RK.mk : (k : RK) → List D → Option k.El
  | .u8, ds => mkU8 ds
  | .i64, ds => mkI64 ds
  | .byr, ds => mkByr ds
  | .part, ds => mkPart ds
  | .frm, ds => mkFrm ds
  | .wend, ds => mkEnd ds
  | .netm, ds => mkNet ds
  | .nets, ds => mkNets ds
  | .hend, ds => mkEndN ds
  | .hnet, ds => mkHnet ds
  | .ev, ds => mkEv ds
def RK.z : (k : RK) → k.El
  | .u8 => (0 : Int)
  | .i64 => (0 : Int)
  | .byr => ([] : List Int)
  | .part => (⟨0, 0, []⟩ : Part)
  | .frm => (⟨0, 0, 0, false, false, 0, 0, 0, []⟩ : Frm)
  | .wend => (⟨⟨0, 0, [], 0, [], false, 0, false, 0, false⟩, ⟨0, 0, ⟨0, []⟩, false, false, false⟩, ⟨0, [], 0, 0, false⟩, ⟨0, ⟨0, []⟩, false⟩, [], []⟩ : EndS)
  | .netm => (⟨false, []⟩ : NetS)
  | .nets => ([] : List NetS)
  | .hend => (⟨⟨0, 0, 0, 0, 0, false, 0, false, 0, false⟩, ⟨0, 0, 0, 0, false, false, false⟩, ⟨0, 0, 0, 0, false⟩, ⟨0, 0, 0, false⟩, 0, 0⟩ : EndN)
  | .hnet => (0 : Nat)
  | .ev => (⟨0, 0, 0, 0, []⟩ : EvS)
def hsh : RK → List D
  | .u8 => [.i .u8 0]
  | .i64 => [.i .i64 0]
  | .byr => [.h .u8 0]
  | .part => [.i .i64 0, .i .i64 0, .h .u8 0]
  | .frm => [.i .i64 0, .i .i64 0, .i .i64 0, .b false, .b false, .i .i64 0, .i .i64 0, .i .i64 0, .h .u8 0]
  | .netm => [.b false, .h .u8 0]
  | .ev => [.i .i64 0, .i .i64 0, .i .i64 0, .i .i64 0, .h .u8 0]
  | _ => []
def hk : RK → Bool
  | .u8 | .i64 | .byr | .part | .frm | .netm | .ev => true
  | _ => false
def HL : Nat := 1000
def hfit : List D → List D → Prop
  | _, [] => True
  | .i .u8 _ :: s, .i .u8 x :: l => (0 ≤ x ∧ x ≤ 255) ∧ hfit s l
  | .i .i64 _ :: s, .i .i64 _ :: l => hfit s l
  | .b _ :: s, .b _ :: l => hfit s l
  | .h k _ :: s, .h k' n :: l => (k = k' ∧ n ≤ HL) ∧ hfit s l
  | _, _ => False
def hany : List D → (List D → Prop) → Prop
  | [], K => K []
  | .i .u8 _ :: s, K => ∀ x : Int, 0 ≤ x → x ≤ 255 → hany s fun l => K (.i .u8 x :: l)
  | .i k _ :: s, K => ∀ x : Int, hany s fun l => K (.i k x :: l)
  | .b _ :: s, K => ∀ x : Bool, hany s fun l => K (.b x :: l)
  | .h k _ :: s, K => ∀ n : Nat, n ≤ HL → hany s fun l => K (.h k n :: l)
  | .r _ _ :: _, _ => False
def RK.at (k : RK) (l : List k.El) (i : Nat) : k.El := l.getD i k.z
def LIM : Nat := 137438953472
/-! ### a function's state -/
inductive Cm where
  | d (x : D)
  | ref (id ep : Nat)
  | dead
inductive T where
  | un
  | und
  | v (agg : Bool) (cs : List Cm)
  | pb (b ep off : Nat)
  | pr (id ep i off : Nat)
  | pp (k : RK) (l : List k.El) (i off : Nat)
  | hp (k : RK) (off : Nat)
  | sub (id ep v i off : Nat)
  | tup (l : List (Bool × List Cm))
  | fn (f : Nat) (cb : Option (Nat × Nat))
structure RM where
  d : Option Nat
  h : Bool
  v : Nat
  p : Bool
def m0 : RM := ⟨none, false, 0, false⟩
structure RC where
  e : Nat
  k : RK
  l : List k.El
  m : RM
def dpM : Bool → Option Nat → Option Nat
  | true, none => some 0
  | _, d => d
def RC.nh (c : RC) (dp : Bool) : RC := ⟨c.e, c.k, c.l, ⟨dpM dp c.m.d, false, 0, c.m.p⟩⟩
def RC.dn (c : RC) : Nat := c.m.d.getD 0 * c.k.size
structure Row where
  ep : Nat
  c : Option RC
structure Box where
  ep : Nat
  c : Option (List Cm)
structure St where
  slots : List T
  rows : List Row
  boxes : List Box
structure TyI where
  agg : Bool
  zc : List D
  el : Option (RK × Nat)
  zo : List Nat
  fs : List (Nat × Nat)
inductive AC where
  | d (x : D)
  | own (c : RC)
  | xx
inductive Arg where
  | v (agg : Bool) (cs : List AC)
  | p (cs : List AC)
structure Ent where
  own : List (Nat × Nat)
  res : List (Nat × Nat)
  F : List Arg → (List Arg → List (List AC) → Prop) → Prop
  clo : Option (Nat × Bool) := none
  skip : List (Nat × Nat) := []
  mono : ∀ as (K K' : List Arg → List (List AC) → Prop), (∀ rs bs, K rs bs → K' rs bs) → F as K → F as K'
structure EntI where
  io : List (Nat × Nat)
  F : List Arg → (List Arg → List RC → Prop) → Prop
  mono : ∀ as (K K' : List Arg → List RC → Prop), (∀ rs cs, K rs cs → K' rs cs) → F as K → F as K'
inductive Ex where
  | normal
  | exit (id : Nat)
  | ret
structure Env where
  tys : List (Nat × TyI)
  calls : List (Nat × Ent)
  own : List (Nat × List Nat)               -- destination: the rows that it makes
  bx : List (Nat × Nat)                     -- destination: the variable that it makes
  unst : List (Nat × (List Nat × List Nat)) -- a region that draws: variables and rows that may turn in it
  loops : List (Nat × (St → (Ex → St → Prop) → Prop))
  fz : List Nat                             -- appends whose row is given up, as data
  ioc : List (Nat × EntI)
  pls : List (Nat × List (Nat × Bool))      -- a region that draws: an order, and whether nothing else is ready there
noncomputable def look {β : Type} (a : Nat) (l : List (Nat × β)) : Option β := List.rec (motive := fun _ => Option β) none (fun p _ ih => Bool.rec (motive := fun _ => Option β) ih (some p.2) (Nat.beq a p.1)) l
theorem look_cons {β : Type} (a x : Nat) (y : β) (r : List (Nat × β)) : look a ((x, y) :: r) = if a = x then some y else look a r := by
  show Bool.rec (motive := fun _ => Option β) (look a r) (some y) (Nat.beq a x) = _
  by_cases h : a = x
  · rw [if_pos h, show Nat.beq a x = true by rw [h]; exact Nat.beq_refl x]
  · rw [if_neg h]
    cases hb : Nat.beq a x with
    | true => exact absurd (Nat.eq_of_beq_eq_true hb) h
    | false => rfl
noncomputable def fget {α : Type} (l : List α) : Nat → Option α := List.rec (motive := fun _ => Nat → Option α) (fun _ => none) (fun x _ ih n => Nat.rec (motive := fun _ => Option α) (some x) (fun m _ => ih m) n) l
theorem fget_eq {α : Type} : ∀ (l : List α) (n : Nat), fget l n = l[n]?
  | [], n => by simp; rfl
  | x :: l, 0 => rfl
  | x :: l, n + 1 => by rw [List.getElem?_cons_succ, ← fget_eq l n]; rfl
noncomputable def hasN (a : Nat) (l : List Nat) : Bool := List.rec (motive := fun _ => Bool) false (fun x _ ih => Bool.rec (motive := fun _ => Bool) ih true (Nat.beq a x)) l
noncomputable def fsetK {α β : Type} (l : List α) : Nat → α → (List α → β) → β := List.rec (motive := fun _ => Nat → α → (List α → β) → β) (fun _ _ k => k []) (fun y ys ih n x k => Nat.rec (motive := fun _ => β) (k (x :: ys)) (fun m _ => ih m x fun r => k (y :: r)) n) l
theorem fsetK_eq {α β : Type} : ∀ (l : List α) (n : Nat) (x : α) (k : List α → β), fsetK l n x k = k (l.set n x)
  | [], n, x, k => rfl
  | y :: l, 0, x, k => rfl
  | y :: l, n + 1, x, k => fsetK_eq l n x fun r => k (y :: r)
/-! ### looking -/
def num (k : IntKind) (x : Int) : T := .v false [.d (.i k x)]
def boo (x : Bool) : T := .v false [.d (.b x)]
def dat (agg : Bool) (ds : List D) : T := .v agg (ds.map .d)
noncomputable def opC (V : Env) (ty : Nat) : Operand → Option T
  | .const (.int k n) => some (num k n)
  | .const (.bool b) => some (boo b)
  | .const (.slice none 0 0) => match look ty V.tys with
    | some ⟨false, _, some (k, _), _, _⟩ => some (.v false [.d (.r k [])])
    | some ⟨false, [.h k _], none, _, _⟩ => some (.v false [.d (.h k 0)])
    | _ => none
  | .const (.pointer none) => some .un
  | .func f => some (.fn f none)
  | _ => none
noncomputable def St.opnd (V : Env) (S : St) (ty : Nat) : Operand → Option T
  | .tmp t => fget S.slots t
  | .const v => opC V ty (.const v)
  | .func f => opC V ty (.func f)
  | .global g => none
theorem opnd_tmp {V : Env} {S : St} {ty t : Nat} : S.opnd V ty (.tmp t) = S.slots[t]? := fget_eq _ _
def isRow : D → Bool
  | .r _ _ => true
  | _ => false
def St.live (S : St) (id ep : Nat) : Option RC := match S.rows[id]? with
  | some r => if ep = r.ep then r.c else none
  | none => none
def St.box (S : St) (b ep : Nat) : Option (List Cm) := match S.boxes[b]? with
  | some B => if ep = B.ep then B.c else none
  | none => none
def St.elems (S : St) : T → Option ((k : RK) × List k.El)
  | .v false [.d (.r k l)] => some ⟨k, l⟩
  | .v false [.ref id ep] => match S.live id ep with
    | some c => some ⟨c.k, c.l⟩
    | none => none
  | _ => none
def Cm.plain (S : St) : Cm → Option D
  | .d x => some x
  | .ref id ep => match S.live id ep with
    | some c => some (.r c.k c.l)
    | none => none
  | .dead => none
def datas : List Cm → Option (List D)
  | [] => some []
  | .d x :: cs => match datas cs with
    | some xs => some (x :: xs)
    | none => none
  | _ :: _ => none
structure Outc where
  t : T
  rows : List (Nat × Row)
  boxes : List (Nat × Box)
def setD {α : Type} (d : Option Nat) (x : α) (l : List α) : List α := match d with
  | some i => l.set i x
  | none => l
def St.app (S : St) (d : Option Nat) (o : Outc) : St :=
  { slots := setD d o.t S.slots
    rows := o.rows.foldl (fun r p => r.set p.1 p.2) S.rows
    boxes := o.boxes.foldl (fun r p => r.set p.1 p.2) S.boxes }
noncomputable def St.appK (S : St) (d : Option Nat) (o : Outc) (k : St → Prop) : Prop := match d with
  | some i => fsetK S.slots i o.t fun s => k ⟨s, o.rows.foldl (fun r p => r.set p.1 p.2) S.rows, o.boxes.foldl (fun r p => r.set p.1 p.2) S.boxes⟩
  | none => k ⟨S.slots, o.rows.foldl (fun r p => r.set p.1 p.2) S.rows, o.boxes.foldl (fun r p => r.set p.1 p.2) S.boxes⟩
theorem St.appK_eq (S : St) (d : Option Nat) (o : Outc) (k : St → Prop) : S.appK d o k = k (S.app d o) := by
  cases d with
  | none => rfl
  | some i => exact fsetK_eq _ _ _ _
def val (t : T) : Outc := ⟨t, [], []⟩
/-! ### operations on numbers -/
def intOp (k : IntKind) (x y : Int) : BinOp → Option (Option Prop × T)
  | .add => some (none, num k (k.wrap (x + y)))
  | .sub => some (none, num k (k.wrap (x - y)))
  | .mul => some (none, num k (k.wrap (x * y)))
  | .quo => some (some (y ≠ 0), num k (k.wrap (x.tdiv y)))
  | .rem => some (some (y ≠ 0), num k (x.tmod y))
  | .and => some (none, num k (Go.bits .and k x y))
  | .or => some (none, num k (Go.bits .or k x y))
  | .xor => some (none, num k (Go.bits .xor k x y))
  | .eql => some (none, boo (x == y))
  | .neq => some (none, boo (x != y))
  | .lss => some (none, boo (decide (x < y)))
  | .leq => some (none, boo (decide (x ≤ y)))
  | .gtr => some (none, boo (decide (x > y)))
  | .geq => some (none, boo (decide (x ≥ y)))
  | _ => none
def shiftOp (k : IntKind) (x y : Int) : BinOp → Option (Option Prop × T)
  | .shr => some (some (0 ≤ y), num k (x.fdiv (2 ^ (min y.toNat k.bits))))
  | .shl => some (some (0 ≤ y), num k (k.wrap (x * 2 ^ (min y.toNat k.bits))))
  | _ => none
def binT (tb : Bool) (op : BinOp) : T → T → Option (Option Prop × T)
  | .v false [.d (.i k x)], .v false [.d (.i k' y)] => match op with
    | .shr => shiftOp k x y .shr
    | .shl => shiftOp k x y .shl
    | op => if k = k' then intOp k x y op else none
  | .v false [.d (.b x)], .v false [.d (.b y)] => match tb, op with
    | true, .eql => some (none, boo (x == y))
    | true, .neq => some (none, boo (x != y))
    | _, _ => none
  | _, _ => none
def cutC {α : Type} (l : List α) (off n : Nat) : List α := (l.drop off).take n
def putC {α : Type} (l : List α) (off : Nat) (xs : List α) : List α := l.take off ++ xs ++ l.drop (off + xs.length)
def T.cells : T → Option (Bool × List Cm)
  | .v g cs => some (g, cs)
  | _ => none
section
variable (V : Env)
noncomputable def Env.ty (t : Nat) : Option TyI := look t V.tys
noncomputable def boolTy (t : Nat) : Bool := match look t V.tys with
  | some ⟨false, [.b _], _, _, _⟩ => true
  | _ => false
def eqCs : List D → List Cm → List Cm → Option (Option Bool)
  | [], [], [] => some none
  | .i _ _ :: z, .d (.i k x) :: l, .d (.i k' y) :: m => if k = k' then (match eqCs z l m with
    | some (some r) => some (some ((x == y) && r))
    | some none => some (some (x == y))
    | none => none) else none
  | .b _ :: z, .d (.b x) :: l, .d (.b y) :: m => match eqCs z l m with
    | some (some r) => some (some ((x == y) && r))
    | some none => some (some (x == y))
    | none => none
  | _, _, _ => none
def flatD : List D → Bool
  | [] => true
  | .r _ _ :: _ => false
  | .h _ _ :: _ => false
  | _ :: l => flatD l
def flatTy (I : TyI) : Bool := match I.agg with
  | true => flatD I.zc
  | false => false
def eqOp : BinOp → Option (Option Bool) → Option Bool
  | .eql, some (some r) => some r
  | .neq, some (some r) => some (!r)
  | _, _ => none
noncomputable def structEq (t : Nat) (op : BinOp) : T → T → Option Bool
  | .v true xs, .v true ys => match look t V.tys with
    | some I => match flatTy I with
      | true => eqOp op (eqCs I.zc xs ys)
      | false => none
    | none => none
  | _, _ => none
noncomputable def buildT (S : St) (fs : List (Nat × Nat)) : List (Nat × Operand) → List Cm → Option (List Cm)
  | [], cs => some cs
  | (f, x) :: r, cs => match fs[f]? with
    | some (off, ft) => match V.ty ft, S.opnd V ft x with
      | some I, some (.v _ xs) => if xs.length = I.zc.length ∧ off + xs.length ≤ cs.length then buildT S fs r (putC cs off xs) else none
      | _, _ => none
    | none => none
noncomputable def elemsT (S : St) (k : RK) (et : Nat) : Nat → List (Nat × Operand) → Option (List k.El)
  | _, [] => some []
  | j, (i, x) :: r => if i = j then match S.opnd V et x with
      | some (.v _ cs) => match datas cs with
        | some ds => match k.mk ds, elemsT S k et (j + 1) r with
          | some e, some es => some (e :: es)
          | _, _ => none
        | none => none
      | _ => none
    else none
def loadT (S : St) (g : Bool) (n : Nat) : T → Option (Option Prop × T)
  | .pb b ep off => match S.box b ep with
    | some cs => if off + n ≤ cs.length then some (none, .v g (cutC cs off n)) else none
    | none => none
  | .pp k l i off => if off + n ≤ k.size then some (none, dat g (cutC (k.cells (k.at l i)) off n)) else none
  | .pr id ep i off => match S.live id ep with
    | some c => if off + n ≤ c.k.size then (match c.m.d with
      | none => some (none, dat g (cutC (c.k.cells (c.k.at c.l i)) off n))
      | some q => match (cutC (c.k.cells (c.k.at c.l i)) off n).any isRow with
        | false => some (none, dat g (cutC (c.k.cells (c.k.at c.l i)) off n))
        | true => match g, n with
          | false, 1 => some (some (i < q), .sub id ep c.m.v i off)
          | _, _ => some (some (q ≤ i), dat g (cutC (c.k.cells (c.k.at c.l i)) off n))) else none
    | none => none
  | _ => none
def fieldT (S : St) (off : Nat) : T → Option T
  | .pb b ep o => match S.box b ep with
    | some _ => some (.pb b ep (o + off))
    | none => none
  | .pp k l i o => some (.pp k l i (o + off))
  | .hp k o => some (.hp k (o + off))
  | .pr id ep i o => match S.live id ep with
    | some _ => some (.pr id ep i (o + off))
    | none => none
  | _ => none
def indexT (S : St) (x : T) (i : Int) : Option (Option Prop × T) := match x with
  | .v false [.d (.r k l)] => some (some (0 ≤ i ∧ i < l.length), .pp k l i.toNat 0)
  | .v false [.ref id ep] => match S.live id ep with
    | some c => match c.m.p with
      | false => some (some (0 ≤ i ∧ i < c.l.length), .pr id ep i.toNat 0)
      | true => none
    | none => none
  | _ => none
def intT : T → Option Int
  | .v false [.d (.i _ x)] => some x
  | _ => none
def endT (d : Int) : Option (Option T) → Option Int
  | none => some d
  | some t => t.bind intT
def sliceT (k : RK) (l : List k.El) (lo hi mx : Option (Option T)) : Option (Option Prop × T) :=
  match endT 0 lo, endT l.length hi with
  | some a, some b => match mx with
    | none => some (some (0 ≤ a ∧ a ≤ b ∧ b ≤ l.length), .v false [.d (.r k ((l.drop a.toNat).take (b.toNat - a.toNat)))])
    | some t => match hi, t.bind intT with
      | some _, some m => some (some (0 ≤ a ∧ a ≤ b ∧ b ≤ m ∧ m ≤ l.length), .v false [.d (.r k ((l.drop a.toNat).take (b.toNat - a.toNat)))])
      | _, _ => none
  | _, _ => none
def sliceH (k : RK) (n : Nat) (lo hi : Option (Option T)) : Option (Option Prop × T) :=
  match endT 0 lo, endT n hi with
  | some a, some b => some (some (0 ≤ a ∧ a ≤ b ∧ b ≤ n), .v false [.d (.h k (b.toNat - a.toNat))])
  | _, _ => none
def pickT (c : Bool) (x y : Option T) : Option T := match x, y with
  | some (.v false [.d (.b p)]), some (.v false [.d (.b q)]) => some (boo (bif c then p else q))
  | x, y => bif c then x else y
def minMax (x y : T) (f : Int → Int → Int) : Option (Option Prop × T) := match x, y with
  | .v false [.d (.i k a)], .v false [.d (.i k' b)] => if k = k' then some (none, num k (f a b)) else none
  | _, _ => none
def one (x : Option (Option Prop × T)) : Option (Option Prop × Outc) := match x with
  | some (p, t) => some (p, val t)
  | none => none
noncomputable def eagB (S : St) : Builtin → List Operand → List Nat → Option (Option Prop × Outc)
  | .len, [x], [t] => match V.ty t, (S.opnd V t x).bind S.elems with
    | some ⟨_, _, some _, _, _⟩, some ⟨_, l⟩ => one (some (none, num .i64 l.length))
    | some ⟨_, [.h _ _], none, _, _⟩, none => match S.opnd V t x with
      | some (.v false [.d (.h _ n)]) => one (some (none, num .i64 n))
      | _ => none
    | _, _ => none
  | .min, [x, y], [t, u] => match S.opnd V t x, S.opnd V u y with
    | some a, some b => one (minMax a b fun a b => if b < a then b else a)
    | _, _ => none
  | .max, [x, y], [t, u] => match S.opnd V t x, S.opnd V u y with
    | some a, some b => one (minMax a b fun a b => if b > a then b else a)
    | _, _ => none
  | _, _, _ => none
def isNil : Operand → Bool
  | .const (.slice none 0 0) => true
  | _ => false
noncomputable def ownNil (d : Option Nat) (x : Operand) : Bool := match d.bind (look · V.own) with
  | none => false
  | some _ => isNil x
noncomputable def eag (S : St) (o : Oper) : Option (Option Prop × Outc) :=
  match o.op with
  | .move x => one ((S.opnd V o.type x).map (none, ·))
  | .assign x => match ownNil V o.dst x with
    | false => one ((S.opnd V o.type x).map (none, ·))
    | true => none
  | .pick c x y => match S.opnd V o.type c with
    | some (.v false [.d (.b t)]) => one ((pickT t (S.opnd V o.type x) (S.opnd V o.type y)).map (none, ·))
    | _ => none
  | .nilCheck x => one (((S.opnd V 0 x).bind (fieldT S 0)).map (none, ·))
  | .fieldAddr s x f => match V.ty s, S.opnd V 0 x with
    | some I, some t => match I.fs[f]? with
      | some (off, ft) => match V.ty ft with
        | some J => if J.zc.length = 0 then none else one ((fieldT S off t).map (none, ·))
        | none => none
      | none => none
    | _, _ => none
  | .load t x => match V.ty t, S.opnd V 0 x with
    | some I, some p => if I.agg = false ∧ I.zc.length ≠ 1 then none else one (loadT S I.agg I.zc.length p)
    | _, _ => none
  | .binOp op t x y u => match S.opnd V t x, S.opnd V u y with
    | some a, some b => match structEq V t op a b with
      | some r => one (some (none, boo r))
      | none => one (binT (boolTy V t) op a b)
    | _, _ => none
  | .unOp op t x => match op, S.opnd V t x with
    | .not, some (.v false [.d (.b b)]) => one (some (none, boo (!b)))
    | .neg, some (.v false [.d (.i k n)]) => one (some (none, num k (k.wrap (0 - n))))
    | _, _ => none
  | .convert s t x => match V.ty s, V.ty t, S.opnd V s x with
    | some _, some ⟨false, [.i k _], _, _, _⟩, some (.v false [.d (.i _ n)]) => one (some (none, num k (k.wrap n)))
    | _, _, _ => none
  | .extract x i => match S.opnd V 0 x with
    | some (.tup l) => match l[i]? with
      | some (g, cs) => one (some (none, .v g cs))
      | none => none
    | _ => none
  | .build t ps => match o.dst.bind (look · V.own), V.ty t with
    | none, some I => if I.agg then match buildT V S I.fs ps.toList (I.zc.map .d) with
        | some cs => one (some (none, .v true cs))
        | none => none else none
    | _, _ => none
  | .buildSlice t n ps => match o.dst.bind (look · V.own), V.ty t with
    | none, some ⟨_, _, some (k, e), _, _⟩ => match elemsT V S k e 0 ps.toList with
      | some l => if l.length = n ∧ n ≤ 1024 then one (some (none, .v false [.d (.r k l)])) else none
      | none => none
    | _, _ => none
  | .makeSlice t n c => match o.dst.bind (look · V.own), V.ty t, S.opnd V 0 n, S.opnd V 0 c with
    | none, some ⟨_, _, some (k, e), _, _⟩, some (.v false [.d (.i .i64 a)]), some (.v false [.d (.i .i64 b)]) =>
      one (some (some (0 ≤ a ∧ a = b ∧ a.toNat ≤ LIM), .v false [.d (.r k (List.replicate a.toNat k.z))]))
    | _, _, _, _ => none
  | .indexAddr t x i => match V.ty t, S.opnd V t x, S.opnd V 0 i with
    | some ⟨_, _, some (k, _), _, _⟩, some a, some (.v false [.d (.i _ n)]) => match S.elems a with
      | some ⟨k', _⟩ => if k' = k then one (indexT S a n) else none
      | none => none
    | some ⟨_, [.h k _], none, _, _⟩, some (.v false [.d (.h k' m)]), some (.v false [.d (.i _ n)]) => if k' = k then one (some (some (0 ≤ n ∧ n < m), .hp k 0)) else none
    | _, _, _ => none
  | .slice t x lo hi mx => match o.dst.bind (look · V.own), V.ty t, S.opnd V t x with
    | none, some ⟨_, _, some (k', _), _, _⟩, some (.v false [.d (.r k l)]) => if k = k' then one (sliceT k l (lo.map (S.opnd V 0)) (hi.map (S.opnd V 0)) (mx.map (S.opnd V 0))) else none
    | none, some ⟨_, [.h k' _], none, _, _⟩, some (.v false [.d (.h k n)]) => if k = k' ∧ mx.isNone = true then one (sliceH k n (lo.map (S.opnd V 0)) (hi.map (S.opnd V 0))) else none
    | _, _, _ => none
  | .call ⟨.builtin b, args, tys⟩ => eagB V S b args.toList tys.toList
  | .box t x => match o.dst.bind (look · V.bx), V.ty t, S.opnd V t x with
    | some b, some I, some (.v _ cs) => match S.boxes[b]? with
      | some B => if cs.length = I.zc.length then some (none, ⟨.pb b (B.ep + 1) 0, [], [(b, ⟨B.ep + 1, some cs⟩)]⟩) else none
      | _ => none
    | _, _, _ => none
  | .alloc t => match o.dst.bind (look · V.bx), V.ty t with
    | some b, some I => match S.boxes[b]? with
      | some B => some (none, ⟨.pb b (B.ep + 1) 0, [], [(b, ⟨B.ep + 1, some (I.zc.map .d)⟩)]⟩)
      | _ => none
    | _, _ => none
  | _ => none
/-! ### what turns something, or is answered by somebody else -/
def rowNew (S : St) (id : Nat) (c : RC) (K : Outc → Prop) : Prop := match S.rows[id]? with
  | some r => K ⟨.v false [.ref id (r.ep + 1)], [(id, ⟨r.ep + 1, some c⟩)], []⟩
  | none => False
noncomputable def isDp (d : Option Nat) : Bool := match d with
  | some i => V.fz.contains (700000 + i)
  | none => false
noncomputable def newM (d : Option Nat) : RM := ⟨dpM (isDp V d) none, false, 0, false⟩
def acCm (a : AC) : Cm := match a with
  | .d y => .d y
  | .own c => .d (.r c.k c.l)
  | .xx => .dead
def ownCells (S : St) (dp : Bool) : List Nat → List AC → (List Cm → List (Nat × Row) → List Nat → Prop) → Prop
  | ids, [], K => K [] [] ids
  | id :: ids, .own c :: as, K => match S.rows[id]? with
    | some r => ownCells S dp ids as fun cs rs is => K (.ref id (r.ep + 1) :: cs) ((id, ⟨r.ep + 1, some (c.nh dp)⟩) :: rs) is
    | none => False
  | ids, a :: as, K => ownCells S dp ids as fun cs rs is => K (acCm a :: cs) rs is
def zeroAC : List D → List Nat → List AC
  | [], _ => []
  | .r k l :: ds, es => match es with
    | e :: es => .own ⟨e, k, [], m0⟩ :: zeroAC ds es
    | [] => .d (.r k l) :: zeroAC ds []
  | d :: ds, es => .d d :: zeroAC ds es
def argCells (S : St) (own sk : List (Nat × Nat)) (j : Nat) : Nat → List Cm → Option (List AC × List Nat × List Nat)
  | _, [] => some ([], [], [])
  | i, c :: cs => match argCells S own sk j (i + 1) cs with
    | none => none
    | some (as, ls, gs) => match sk.contains (j, i) with
    | true => some (.xx :: as, ls, gs)
    | false => match c with
      | .d x => if own.contains (j, i) then none else some (.d x :: as, ls, gs)
      | .ref id ep => match S.live id ep with
        | some c => if own.contains (j, i) then some (.own (c.nh false) :: as, ls, id :: gs) else some (.d (.r c.k c.l) :: as, id :: ls, gs)
        | none => none
      | .dead => none
def argsT (S : St) (own sk : List (Nat × Nat)) : Nat → List T → Option (List Arg × List Nat × List Nat × List (Nat × Nat))
  | _, [] => some ([], [], [], [])
  | j, t :: ts => match argsT S own sk (j + 1) ts with
    | none => none
    | some (as, ls, gs, bs) => match t with
      | .v g cs => match argCells S own sk j 0 cs with
        | some (a, l, m) => some (.v g a :: as, l ++ ls, m ++ gs, bs)
        | none => none
      | .pb b ep 0 => match S.box b ep with
        | some cs => match argCells S own sk j 0 cs with
          | some (a, l, m) => some (.p a :: as, l ++ ls, m ++ gs, (b, ep) :: bs)
          | none => none
        | none => none
      | _ => none
noncomputable def opnds (S : St) : List Operand → List Nat → Option (List T)
  | [], _ => some []
  | x :: xs, ty :: tys => match S.opnd V ty x, opnds S xs tys with
    | some t, some ts => some (t :: ts)
    | _, _ => none
  | _ :: _, [] => none
def flatAC (cs : List AC) : Bool := cs.all fun | .d (.r _ _) => false | .own _ => false | .xx => false | _ => true
def flatRes (rs : List Arg) (bs : List (List AC)) : Bool := rs.all (fun | .v _ cs => flatAC cs | .p cs => flatAC cs) && bs.all flatAC
def ownFree (c : RC) : Bool := match c.m.p, c.k, c.m.d with
  | false, .u8, _ => true
  | false, .i64, _ => true
  | false, .part, some _ => true
  | false, .frm, some _ => true
  | false, .byr, some _ => true
  | false, .netm, some _ => true
  | _, _, _ => false
def freeAC (cs : List AC) : Bool := cs.all fun | .d (.r _ _) => false | .own c => ownFree c | .xx => false | _ => true
def freeRes (rs : List Arg) (bs : List (List AC)) : Bool := rs.all (fun | .v _ cs => freeAC cs | .p cs => freeAC cs) && bs.all freeAC
def ownQ (c : RC) (K : Prop) : Prop := match c.m.d with
  | some d => d = c.l.length ∧ K
  | none => K
def acsQ : List AC → Prop → Prop
  | [], K => K
  | .own c :: cs, K => ownQ c (acsQ cs K)
  | .d _ :: cs, K => acsQ cs K
  | .xx :: cs, K => acsQ cs K
def argsQ : List Arg → Prop → Prop
  | [], K => K
  | .v _ cs :: r, K => acsQ cs (argsQ r K)
  | .p cs :: r, K => acsQ cs (argsQ r K)
def listQ : List (List AC) → Prop → Prop
  | [], K => K
  | cs :: r, K => acsQ cs (listQ r K)
def freeQ (rs : List Arg) (bs : List (List AC)) (K : Prop) : Prop := match freeRes rs bs with
  | true => argsQ rs (listQ bs K)
  | false => K
def deads (S : St) : List Nat → List (Nat × Row)
  | [] => []
  | id :: ids => match S.rows[id]? with
    | some r => (id, ⟨r.ep + 1, none⟩) :: deads S ids
    | none => deads S ids
def nodupB : List Nat → Bool
  | [] => true
  | x :: xs => !(xs.any (· == x)) && nodupB xs
def resT (S : St) (dp : Bool) : List Nat → List Arg → (List (Bool × List Cm) → List (Nat × Row) → Prop) → Prop
  | _, [], K => K [] []
  | ids, .v g cs :: rs, K => ownCells S dp ids cs fun ms rows is => resT S dp is rs fun l rows' => K ((g, ms) :: l) (rows ++ rows')
  | _, _, _ => False
def datCells (cs : List AC) : List Cm := cs.map acCm
def boxesT : List (Nat × Nat) → List (List AC) → Option (List (Nat × Box))
  | [], [] => some []
  | (b, ep) :: bs, cs :: css => match boxesT bs css with
    | some r => some ((b, ⟨ep, some (datCells cs)⟩) :: r)
    | none => none
  | _, _ => none
def tupT : List (Bool × List Cm) → T
  | [(g, cs)] => .v g cs
  | l => .tup l
noncomputable def callC (S : St) (dst : Option Nat) (E : Ent) (ts : List T) (K : Outc → Prop) : Prop :=
  match argsT S E.own E.skip 0 ts with
  | some (as, ls, gs, bs) => (nodupB (ls ++ gs) && nodupB (bs.map (·.1))) = true ∧ E.F as fun rs cs =>
    freeQ rs cs (match boxesT bs cs with
    | some bx =>
      let dd := deads S (bif freeRes rs cs then gs else ls ++ gs)
      match rs with
      | [.p c] => match dst.bind (look · V.bx) with
        | some b => match S.boxes[b]? with
          | some B => (bs.map (·.1)).all (· != b) = true ∧ K ⟨.pb b (B.ep + 1) 0, dd, bx ++ [(b, ⟨B.ep + 1, some (datCells c)⟩)]⟩
          | none => False
        | none => False
      | rs => resT S (isDp V dst) ((dst.bind (look · V.own)).getD []) rs fun l rows => nodupB (rows.map (·.1)) = true ∧ K ⟨tupT l, dd ++ rows, bx⟩
    | none => False)
  | none => False
def uncl (S : St) : Option (Nat × Bool) → List T → Option (List T)
  | none, ts => some ts
  | some _, [] => none
  | some (f, true), [.fn f' (some (b, ep))] => match S.box b ep with
    | some _ => if f' = f then some [.pb b ep 0] else none
    | none => none
  | some (f, false), [.fn f' none] => if f' = f then some [] else none
  | some p, t :: ts => match uncl S (some p) ts with
    | some r => some (t :: r)
    | none => none
noncomputable def callT (S : St) (dst : Option Nat) (E : Ent) (ts : List T) (K : Outc → Prop) : Prop := match uncl S E.clo ts with
  | some ts => callC V S dst E ts K
  | none => False
def cbT : Option (Nat × Nat) → List T
  | none => []
  | some (b, ep) => [.pb b ep 0]
def cbLive (S : St) : Option (Nat × Nat) → Bool
  | none => true
  | some (b, ep) => (S.box b ep).isSome
def castL {k k' : RK} (h : k = k') (l : List k.El) : List k'.El := h ▸ l
def isZ : Option Operand → Bool
  | some (.const (.int _ n)) => n == 0
  | _ => false
def appO (fz : Bool) (id ep : Nat) (c : RC) : Outc := match fz with
  | false => ⟨.v false [.ref id ep], [(id, ⟨ep, some c⟩)], []⟩
  | true => ⟨.v false [.d (.r c.k c.l)], [(id, ⟨ep, none⟩)], []⟩
def deepX (S : St) : T → Option (Nat × RC × Nat)
  | .v false [.ref id ep] => match S.live id ep with
    | some c => match c.m.d with
      | some q => some (id, c, q)
      | none => none
    | none => none
  | _ => none
noncomputable def effB (S : St) (fz : Bool) : Builtin → List Operand → List Nat → (Outc → Prop) → Prop
  | .append, [s, x], [t, u], K => match V.ty t, S.opnd V t s, S.opnd V u x with
    | some ⟨_, [.h k _], none, _, _⟩, some (.v false [.d (.h k1 n)]), some (.v false [.d (.h k2 m)]) => if (k1 = k ∧ k2 = k) ∧ t = u then n + m ≤ LIM ∧ K (val (.v false [.d (.h k (n + m))])) else False
    | some ⟨_, _, some (k, e), _, _⟩, some (.v false [.ref id ep]), some X => match S.live id ep with
      | some c => match c.m.p with
        | true => False
        | false => match deepX S X with
        | none => match S.elems X with
          | some ⟨k', l'⟩ => if h : k' = c.k then if c.e = e ∧ c.k = k ∧ t = u then
            c.l.length + l'.length ≤ LIM ∧ K (appO fz id (ep + 1) ⟨c.e, c.k, c.l ++ castL h l', ⟨c.m.d, false, 0, false⟩⟩) else False else False
          | none => False
        | some (id2, c2, q2) => match c.m.d with
          | some q => if h : c2.k = c.k then if c.e = e ∧ c.k = k ∧ t = u ∧ c2.e = c.e ∧ id2 ≠ id ∧ fz = false then
            (q = c.l.length ∧ q2 = c2.l.length ∧ c.l.length + c2.l.length ≤ LIM) ∧ K ⟨.v false [.ref id (ep + 1)], deads S [id2] ++ [(id, ⟨ep + 1, some ⟨c.e, c.k, c.l ++ castL h c2.l, ⟨some (q + q2), false, 0, false⟩⟩⟩)], []⟩ else False else False
          | none => False
      | none => False
    | _, _, _ => False
  | _, _, _, _ => False
noncomputable def isFz (d : Option Nat) : Bool := match d with
  | some i => V.fz.contains i
  | none => false
noncomputable def isPool (d : Option Nat) : Bool := match d with
  | some i => V.fz.contains (600000 + i)
  | none => false
def nameL {α : Type} (b : Bool) (l : α) (K : α → Prop) : Prop := match b with
  | true => ∀ l' : α, l' = l → K l'
  | false => K l
noncomputable def isNm : Bool := V.fz.contains 400000
def dGuard (d : Option Nat) (b : Bool) (i : Nat) (p : Prop) : Prop := match d, b with
  | some q, true => q ≤ i ∧ p
  | _, _ => p
noncomputable def giveCells (S : St) : List Cm → Option (List D × List Nat)
  | [] => some ([], [])
  | .d x :: cs => match isRow x, giveCells S cs with
    | false, some (ds, gs) => some (x :: ds, gs)
    | _, _ => none
  | .ref id ep :: cs => match S.live id ep, giveCells S cs with
    | some ⟨e, .u8, l, ⟨none, _, _, false⟩⟩, some (ds, gs) => if e = 5 then some (.r .u8 l :: ds, id :: gs) else none
    | _, _ => none
  | .dead :: _ => none
noncomputable def elemsO (S : St) (k : RK) (et : Nat) : Nat → List (Nat × Operand) → Option (List k.El × List Nat)
  | _, [] => some ([], [])
  | j, (i, x) :: r => if i = j then match S.opnd V et x with
      | some (.v _ cs) => match giveCells S cs with
        | some (ds, gs) => match k.mk ds, elemsO S k et (j + 1) r with
          | some e, some (es, gs') => some (e :: es, gs ++ gs')
          | _, _ => none
        | none => none
      | _ => none
    else none
structure IoR where
  id : Nat
  ep : Nat
  at_ : Option (Nat × Nat)
def ioCells (S : St) (io : List (Nat × Nat)) (j : Nat) : Nat → List Cm → Option (List AC × List IoR)
  | _, [] => some ([], [])
  | i, c :: cs => match ioCells S io j (i + 1) cs with
    | none => none
    | some (as, ts) => match c with
      | .d x => if io.contains (j, i) then none else some (.d x :: as, ts)
      | .ref id ep => match S.live id ep with
        | some c => if io.contains (j, i) then some (.own (c.nh false) :: as, ⟨id, ep, none⟩ :: ts) else none
        | none => none
      | .dead => none
def ioT (S : St) (io : List (Nat × Nat)) : Nat → List T → Option (List Arg × List IoR)
  | _, [] => some ([], [])
  | j, t :: ts => match ioT S io (j + 1) ts with
    | none => none
    | some (as, rs) => match t with
      | .v g cs => match ioCells S io j 0 cs with
        | some (a, r) => some (.v g a :: as, r ++ rs)
        | none => none
      | .sub id ep v i off => match S.live id ep with
        | some c => match (c.k.cells (c.k.at c.l i))[off]?, io.contains (j, 0) with
          | some (.r .u8 l), true => if v = c.m.v then some (.v false [.own ⟨5, .u8, l, m0⟩] :: as, ⟨id, ep, some (i, off)⟩ :: rs) else none
          | _, _ => none
        | none => none
      | _ => none
def ioRows (S : St) : List IoR → List RC → Option (List (Nat × Row))
  | [], [] => some []
  | ⟨id, ep, none⟩ :: ts, c' :: cs => match S.live id ep, ioRows S ts cs with
    | some c, some rs => if c'.e = c.e ∧ c'.k = c.k ∧ c'.m.p = false ∧ c.m.p = false then some ((id, ⟨ep, some ⟨c'.e, c'.k, c'.l, ⟨c'.m.d, c.m.h, c.m.v + 1, c.m.p⟩⟩⟩) :: rs) else none
    | _, _ => none
  | ⟨id, ep, some (i, off)⟩ :: ts, ⟨e', .u8, l', ⟨none, _, _, false⟩⟩ :: cs => match S.live id ep, ioRows S ts cs with
    | some c, some rs => if e' = 5 ∧ off < c.k.size then match c.k.mk (putC (c.k.cells (c.k.at c.l i)) off [.r .u8 l']) with
      | some e => some ((id, ⟨ep, some ⟨c.e, c.k, c.l.set i e, c.m⟩⟩) :: rs)
      | none => none else none
    | _, _ => none
  | _, _ => none
def flatT : List Arg → List (Bool × List Cm)
  | [] => []
  | .v g cs :: as => (g, datCells cs) :: flatT as
  | .p _ :: as => flatT as
def callIo (S : St) (E : EntI) (ts : List T) (K : Outc → Prop) : Prop := match ioT S E.io 0 ts with
  | some (as, tg) => nodupB (tg.map (·.id)) = true ∧ E.F as fun rs cs => match ioRows S tg cs with
    | some rows => flatRes rs [] = true ∧ K ⟨tupT (flatT rs), rows, []⟩
    | none => False
  | none => False
noncomputable def elemsH (S : St) (k : RK) : Nat → List (Nat × Operand) → Option Prop
  | _, [] => some True
  | j, (i, x) :: r => if i = j then match S.opnd V (hE k) x with
      | some (.v _ cs) => match datas cs with
        | some ds => if ds.length = (hsh k).length then match elemsH S k (j + 1) r with
          | some p => some (hfit (hsh k) ds ∧ p)
          | none => none else none
        | none => none
      | _ => none
    else none
noncomputable def eff (S : St) (o : Oper) (K : Outc → Prop) : Prop := match o.op with
  | .load t x => match V.ty t, S.opnd V 0 x with
    | some I, some (.hp k off) => if (I.agg = false → I.zc.length = 1) ∧ off + I.zc.length ≤ k.size then hany (cutC (hsh k) off I.zc.length) fun ds => K (val (dat I.agg ds)) else False
    | _, _ => False
  | .store t p x => match V.ty t, S.opnd V t p, S.opnd V t x with
    | some I, some (.pb b ep off), some (.v _ xs) => match S.box b ep with
      | some cs => if xs.length = I.zc.length ∧ off + xs.length ≤ cs.length then K ⟨.und, [], [(b, ⟨ep, some (putC cs off xs)⟩)]⟩ else False
      | none => False
    | some I, some (.pr id ep i off), some (.v _ xs) => match S.live id ep with
      | some c => match c.m.p with
        | true => False
        | false => match datas xs with
        | some ds => if ds.length = I.zc.length ∧ off + ds.length ≤ c.k.size then match c.k.mk (putC (c.k.cells (c.k.at c.l i)) off ds) with
          | some e => dGuard c.m.d (ds.any isRow) i (nameL (isNm V) (c.l.set i e) fun l' => K ⟨.und, [(id, ⟨ep, some ⟨c.e, c.k, l', c.m⟩⟩)], []⟩)
          | none => False else False
        | none => match c.m.d, giveCells S xs with
          | some q, some (ds, gs) => if (ds.length = I.zc.length ∧ off + ds.length ≤ c.k.size) ∧ (nodupB (id :: gs) && !((c.k.cells (c.k.at c.l i)).take off).any isRow && !((c.k.cells (c.k.at c.l i)).drop (off + ds.length)).any isRow) = true then match c.k.mk (putC (c.k.cells (c.k.at c.l i)) off ds) with
            | some e => i = q ∧ K ⟨.und, deads S gs ++ [(id, ⟨ep, some ⟨c.e, c.k, c.l.set i e, ⟨some (q + 1), c.m.h, c.m.v, false⟩⟩⟩)], []⟩
            | none => False else False
          | _, _ => False
      | none => False
    | some I, some (.hp k off), some (.v _ xs) => match datas xs with
      | some ds => if ds.length = I.zc.length ∧ off + ds.length ≤ (hsh k).length then hfit ((hsh k).drop off) ds ∧ K ⟨.und, [], []⟩ else False
      | none => False
    | _, _, _ => False
  | .binOp op t x y u => match isNil y, V.ty t, (S.opnd V t x).bind S.elems, op with
    | true, some ⟨_, _, some _, _, _⟩, some ⟨_, l⟩, .eql => ∀ b : Bool, (b = true → l = []) → K (val (boo b))
    | true, some ⟨_, _, some _, _, _⟩, some ⟨_, l⟩, .neq => ∀ b : Bool, (b = true → l = []) → K (val (boo (!b)))
    | _, _, _, _ => False
  | .assign x => match o.dst.bind (look · V.own), V.ty o.type with
    | some [id], some ⟨_, _, some (k, e), _, _⟩ => if isNil x = true then rowNew S id ⟨e, k, [], newM V o.dst⟩ K else False
    | _, _ => False
  | .build t ps => match o.dst.bind (look · V.own), V.ty t with
    | some ids, some I => if I.agg = true ∧ nodupB ids = true then ownCells S (isDp V o.dst) ids (zeroAC I.zc I.zo) fun cs rs is => match buildT V S I.fs ps.toList cs with
      | some cs' => K ⟨.v true cs', rs, []⟩
      | none => False else False
    | _, _ => False
  | .buildSlice t n ps => match o.dst.bind (look · V.own), V.ty t with
    | none, some ⟨_, [.h k _], none, _, _⟩ => match elemsH V S k 0 ps.toList with
      | some p => if ps.toList.length = n ∧ n ≤ 1024 then p ∧ K (val (.v false [.d (.h k n)])) else False
      | none => False
    | some [id], some ⟨_, _, some (k, e), _, _⟩ => match elemsT V S k e 0 ps.toList with
      | some l => if l.length = n ∧ n ≤ 1024 then rowNew S id ⟨e, k, l, newM V o.dst⟩ K else False
      | none => match elemsO V S k e 0 ps.toList, S.rows[id]? with
        | some (l, gs), some r => if (l.length = n ∧ n ≤ 1024) ∧ nodupB (id :: gs) = true then K ⟨.v false [.ref id (r.ep + 1)], deads S gs ++ [(id, ⟨r.ep + 1, some ⟨e, k, l, ⟨some l.length, false, 0, false⟩⟩⟩)], []⟩ else False
        | _, _ => False
    | _, _ => False
  | .makeSlice t n c => match o.dst.bind (look · V.own), V.ty t, S.opnd V 0 n, S.opnd V 0 c with
    | some [id], some ⟨_, _, some (k, e), _, _⟩, some (.v false [.d (.i .i64 a)]), some (.v false [.d (.i .i64 b)]) =>
      (0 ≤ a ∧ a = b ∧ a.toNat ≤ LIM) ∧ rowNew S id ⟨e, k, List.replicate a.toNat k.z, newM V o.dst⟩ K
    | none, some ⟨_, [.h k _], none, _, _⟩, some (.v false [.d (.i .i64 a)]), some (.v false [.d (.i .i64 b)]) =>
      (0 ≤ a ∧ a = b ∧ a.toNat ≤ LIM) ∧ K (val (.v false [.d (.h k a.toNat)]))
    | _, _, _, _ => False
  | .slice t x lo hi mx => match V.ty t, S.opnd V t x with
    | some ⟨_, _, some (k', e'), _, _⟩, some (.v false [.ref id ep]) => match S.live id ep with
      | some c => if c.k = k' ∧ c.e = e' then match o.dst.bind (look · V.own) with
        | none => match isPool V o.dst with
          | true => match sliceT c.k c.l (lo.map (S.opnd V 0)) (hi.map (S.opnd V 0)) (mx.map (S.opnd V 0)), c.m.d with
            | some (some p, .v false [.d (.r k2 l2)]), some q => if h : k2 = c.k then if c.m.p = false then (p ∧ q = c.l.length) ∧ K ⟨.v false [.ref id (ep + 1)], [(id, ⟨ep + 1, some ⟨c.e, c.k, castL h l2, ⟨some l2.length, false, 0, true⟩⟩⟩)], []⟩ else False else False
            | _, _ => False
          | false => match isFz V o.dst with
          | true => match sliceT c.k c.l (lo.map (S.opnd V 0)) (hi.map (S.opnd V 0)) (mx.map (S.opnd V 0)) with
            | some (some p, t) => p ∧ K ⟨t, [(id, ⟨ep, none⟩)], []⟩
            | _ => False
          | false => match lo, hi, mx with
            | none, some hi, some mx => match (S.opnd V 0 hi).bind intT, (S.opnd V 0 mx).bind intT with
              | some a, some b => (a = c.l.length ∧ b = c.l.length) ∧ K ⟨.v false [.ref id (ep + 1)], [(id, ⟨ep + 1, some (c.nh false)⟩)], []⟩
              | _, _ => False
            | _, _, _ => False
        | some [id'] => if (lo.isNone || isZ lo) = true ∧ isZ hi = true ∧ isZ mx = true then rowNew S id' ⟨e', k', [], newM V o.dst⟩ K else False
        | some _ => False
        else False
      | none => False
    | some ⟨_, _, some (k', e'), _, _⟩, some (.v false [.d (.r k l)]) => match o.dst.bind (look · V.own) with
      | some [id] => if k = k' ∧ (lo.isNone || isZ lo) = true ∧ isZ hi = true ∧ isZ mx = true then rowNew S id ⟨e', k', [], newM V o.dst⟩ K else False
      | _ => False
    | _, _ => False
  | .call ⟨.builtin b, args, tys⟩ => effB V S (isFz V o.dst) b args.toList tys.toList K
  | .call ⟨.value (.func f), args, tys⟩ => match look f V.calls, opnds V S args.toList tys.toList with
    | some E, some ts => callT V S o.dst E ts K
    | none, some ts => match look f V.ioc with
      | some E => callIo S E ts K
      | none => False
    | _, _ => False
  | .makeFunc (.func f) first captured => match first.toList, captured.toList with
    | [], [x] => match S.opnd V 0 x with
      | some (.pb b ep 0) => match S.box b ep with
        | some _ => K (val (.fn f (some (b, ep))))
        | none => False
      | _ => False
    | _, _ => False
  | .call ⟨.value (.tmp t), args, tys⟩ => match S.slots[t]? with
    | some (.fn f cb) => match look f V.calls, opnds V S args.toList tys.toList with
      | some E, some ts => if E.clo.isNone = true ∧ cbLive S cb = true then callC V S o.dst E (ts ++ cbT cb) K else False
      | _, _ => False
    | _ => False
  | _ => False
noncomputable def Out (S : St) (o : Oper) (K : Outc → Prop) : Prop := match eag V S o with
  | some (none, out) => K out
  | some (some p, out) => p ∧ K out
  | none => eff V S o K
def gst0 (S : St) (ops : Array Oper) (o : Oper) : Option Bool := match o.guard with
  | none => some true
  | some (g, want) => match (ops[g]?).bind (·.dst) with
    | some t => match S.slots[t]? with
      | some (.v false [.d (.b x)]) => some (x == want)
      | some .und => some false
      | _ => none
    | none => none
noncomputable def gst (S : St) (ops : Array Oper) (o : Oper) : Option Bool := match o.guard with
  | none => some true
  | some (g, want) => match (fget ops.toList g).bind (·.dst) with
    | some t => match fget S.slots t with
      | some (.v false [.d (.b x)]) => some (x == want)
      | some .und => some false
      | _ => none
    | none => none
theorem gst_eq (S : St) (ops : Array Oper) (o : Oper) : gst S ops o = gst0 S ops o := by
  unfold gst gst0
  simp only [fget_eq, Array.getElem?_toList]
noncomputable def isG (d : Option Nat) : Bool := match d with
  | some i => hasN (500000 + i) V.fz
  | none => false
def part0 (g : Bool) (out : Outc) (K : Outc → Prop) : Prop := match out.t, g with
  | .v false [.d (.b x)], true => if x = true then K { out with t := boo true } else K { out with t := boo false }
  | _, _ => K out
inductive IfP (x : Bool) (A B : Prop) : Prop
  | yes (h : x = true) (a : A) : IfP x A B
  | no (h : ¬ x = true) (b : B) : IfP x A B
def part1 (g : Bool) (out : Outc) (K : Outc → Prop) : Prop := match out.t, g with
  | .v false [.d (.b x)], true => IfP x (K { out with t := boo true }) (K { out with t := boo false })
  | _, _ => K out
noncomputable def isShut (d : Option Nat) : Bool := match d with
  | some i => V.fz.contains (900000 + i)
  | none => false
noncomputable def part (d : Option Nat) (g : Bool) (out : Outc) (K : Outc → Prop) : Prop := match isShut V d with
  | false => part0 g out K
  | true => part1 g out K
noncomputable def stepO (S : St) (ops : Array Oper) (o : Oper) (K : Outc → Prop) : Prop := match gst S ops o with
  | some w => match w with
    | true => Out V S o fun out => part V o.dst (isG V o.dst) out K
    | false => K (val .und)
  | none => False
noncomputable def forceL {α β : Type} (l : List α) : (List α → β) → β := List.rec (motive := fun _ => (List α → β) → β) (fun k => k []) (fun x _ ih k => ih fun r => k (x :: r)) l
noncomputable def forceS (S : St) (k : St → Prop) : Prop := forceL S.slots fun s => k ⟨s, S.rows, S.boxes⟩
theorem forceL_eq {α β : Type} : ∀ (l : List α) (k : List α → β), forceL l k = k l
  | [], _ => rfl
  | x :: l, k => forceL_eq l fun r => k (x :: r)
theorem forceS_eq (S : St) (k : St → Prop) : forceS S k = k S := forceL_eq _ _
noncomputable def evOps (ops : Array Oper) (l : List Oper) : St → (St → Prop) → Prop := List.rec (motive := fun _ => St → (St → Prop) → Prop) (fun S K => K S) (fun o _ ih S K => stepO V S ops o fun out => S.appK o.dst out fun S' => ih S' K) l
/-! ### regions that draw their order -/
def cmFix (u : List Nat) : Cm → Bool
  | .ref id _ => !u.contains id
  | _ => true
def T.fix (u : List Nat × List Nat) : T → Bool
  | .pb b _ _ => !u.1.contains b
  | .pr id _ _ _ => !u.2.contains id
  | .sub id _ _ _ _ => !u.2.contains id
  | .v _ cs => cs.all (cmFix u.2)
  | _ => true
noncomputable def fixX (S : St) (u : List Nat × List Nat) : Operand → Bool
  | .tmp t => match S.slots[t]? with
    | some t => t.fix u
    | none => false
  | _ => true
noncomputable def fixO (S : St) (u : List Nat × List Nat) (o : Oper) : Bool := match o.op with
  | .load _ x | .indexAddr _ x _ | .fieldAddr _ x _ | .nilCheck x => fixX S u x
  | .call ⟨.builtin .len, args, _⟩ => args.toList.all (fixX S u)
  | _ => true
def noPb (b : Nat) : T → Bool
  | .pb b' _ _ => b' != b
  | .fn _ (some (b', _)) => b' != b
  | _ => true
def freshB (S : St) (b : Nat) : Bool := S.slots.all (noPb b) && match S.boxes[b]? with
  | some B => B.c.isNone
  | none => false
noncomputable def eager (S : St) (u : List Nat × List Nat) (ops : Array Oper) (listed : Array Bool) (i : Nat) : Bool := match ops[i]? with
  | some o => Region.free .any ops listed i && match gst S ops o with
    | some false => true
    | some true => fixO S u o && match eag V S o with
      | some (_, out) => out.rows.isEmpty && out.boxes.all fun p => freshB S p.1
      | none => false
    | none => false
  | none => false
noncomputable def within (S : St) (u : List Nat × List Nat) (out : Outc) : Bool := out.rows.all (fun p => u.2.contains p.1) && out.boxes.all fun p => match S.boxes[p.1]? with
  | some B => (p.2.ep == B.ep && B.c.isSome && u.1.contains p.1) || B.c.isNone
  | none => false
def conjL : List Nat → (Nat → Prop) → Prop
  | [], _ => True
  | [i], f => f i
  | i :: r, f => f i ∧ conjL r f
noncomputable def evR (u : List Nat × List Nat) (ops : Array Oper) : Nat → Array Bool → St → (St → Prop) → Prop
  | 0, listed, S, K => match Region.ready .any ops listed with
    | [] => K S
    | _ => False
  | n + 1, listed, S, K => match Region.ready .any ops listed with
    | [] => K S
    | rs => match rs.find? (eager V S u ops listed) with
      | some i => match ops[i]? with
        | some o => stepO V S ops o fun out => evR u ops n (listed.setIfInBounds i true) (S.app o.dst out) K
        | none => False
      | none => conjL rs fun i => match ops[i]? with
        | some o => stepO V S ops o fun out => within S u out = true ∧ evR u ops n (listed.setIfInBounds i true) (S.app o.dst out) K
        | none => False
/-! ### regions that draw, whose order is laid out ahead -/
noncomputable def bt (m i : Nat) : Bool := Nat.beq (Nat.land (Nat.shiftRight m i) 1) 1
noncomputable def setB (i m : Nat) : Nat := Nat.lor (Nat.shiftLeft 1 i) m
noncomputable def forceN {β : Type} (x : Nat) (k : Nat → β) : β := Nat.rec (motive := fun _ => β) (k 0) (fun m _ => k (Nat.succ m)) x
noncomputable def amask (l : List Edge) : Nat := List.rec (motive := fun _ => Nat) 0 (fun e _ ih => Bool.rec (motive := fun _ => Nat) ih (setB e.on ih) (Region.binds .any e)) l
noncomputable def tmask (l : List Operand) : Nat := List.rec (motive := fun _ => Nat) 0 (fun x _ ih => match x with
  | .tmp t => setB t ih
  | _ => ih) l
noncomputable def dmask : Option Nat → Nat
  | some d => setB d 0
  | none => 0
noncomputable def lmask (ops : List Oper) (o : Oper) : Nat := match o.guard with
  | some (g, _) => Nat.lor (match fget ops g with
    | some o' => dmask o'.dst
    | none => 0) (tmask o.op.operands.toList)
  | none => tmask o.op.operands.toList
abbrev Rw : Type := Nat × Nat × Nat
noncomputable def rwK {β : Type} (ops : List Oper) (o : Oper) (k : Rw → β) : β := forceN (amask o.after.toList) fun a => forceN (lmask ops o) fun l => forceN (dmask o.dst) fun d => k (a, l, d)
noncomputable def tabK {β : Type} (ops : List Oper) (l : List Oper) : (List Rw → β) → β := List.rec (motive := fun _ => (List Rw → β) → β) (fun k => k []) (fun o _ ih k => rwK ops o fun r => ih fun rs => k (r :: rs)) l
noncomputable def allI (f : Nat → Rw → Bool) (l : List Rw) : Nat → Bool := List.rec (motive := fun _ => Nat → Bool) (fun _ => true) (fun r _ ih j => Bool.rec (motive := fun _ => Bool) false (ih (Nat.succ j)) (f j r)) l
noncomputable def orB (a b : Bool) : Bool := Bool.rec (motive := fun _ => Bool) b true a
noncomputable def andB (a b : Bool) : Bool := Bool.rec (motive := fun _ => Bool) false b a
noncomputable def soleF (D i : Nat) (j : Nat) (r : Rw) : Bool := orB (bt D j) (orB (Nat.beq j i) (Bool.rec (motive := fun _ => Bool) true false (Nat.beq (Nat.land r.1 D) r.1)))
noncomputable def eagF (D i lm dm : Nat) (j : Nat) (r : Rw) : Bool := orB (bt D j) (orB (Nat.beq j i) (orB (bt r.1 i) (andB (Nat.beq (Nat.land dm r.2.1) 0) (andB (Nat.beq (Nat.land dm r.2.2) 0) (Nat.beq (Nat.land r.2.2 lm) 0)))))
noncomputable def planS (tb : List Rw) (pl : List (Nat × Bool)) : Nat → Bool := List.rec (motive := fun _ => Nat → Bool) (fun D => allI (fun j _ => bt D j) tb 0) (fun p _ ih D => match fget tb p.1 with
  | some (a, l, d) => andB (Bool.rec (motive := fun _ => Bool) true false (bt D p.1)) (andB (Nat.beq (Nat.land a D) a) (andB (match p.2 with
    | true => allI (soleF D p.1) tb 0
    | false => allI (eagF D p.1 l d) tb 0) (forceN (setB p.1 D) ih)))
  | none => false) pl
noncomputable def planC (ops : Array Oper) (pl : List (Nat × Bool)) : Bool := andB (Nat.ble pl.length ops.size) (tabK ops.toList ops.toList fun tb => planS tb pl 0)
noncomputable def amask2 (ops : List Oper) (l : List Edge) : Nat := List.rec (motive := fun _ => Nat) 0 (fun e _ ih => Bool.rec (motive := fun _ => Nat) ih (Nat.lor (match fget ops e.on with
  | some o' => amask o'.after.toList
  | none => 0) ih) (Region.binds .any e)) l
noncomputable def lastF (ops : Array Oper) (i : Nat) (o : Oper) : Bool := Nat.beq (Nat.lor (setB i (amask o.after.toList)) (amask2 ops.toList o.after.toList)) (Nat.sub (Nat.pow 2 ops.size) 1)
noncomputable def eagD (S : St) (u : List Nat × List Nat) (ops : Array Oper) (o : Oper) : Bool := match gst S ops o with
  | some w => match w with
    | false => true
    | true => fixO S u o && match eag V S o with
      | some (_, out) => out.rows.isEmpty && out.boxes.all fun p => freshB S p.1
      | none => false
  | none => false
noncomputable def hlO (S : St) (o : Oper) : Option (List D × Bool) := match o.op with
  | .load t x => match V.ty t, S.opnd V 0 x with
    | some I, some (.hp k off) => if ((I.agg = false → I.zc.length = 1) ∧ off + I.zc.length ≤ k.size) ∧ (cutC (hsh k) off I.zc.length).any isRow = false then some (cutC (hsh k) off I.zc.length, I.agg) else none
    | _, _ => none
  | _ => none
noncomputable def cjO (o : Oper) : Bool := match o.op with
  | .load _ _ | .indexAddr _ _ _ | .fieldAddr _ _ _ | .nilCheck _ | .unOp _ _ _ | .convert _ _ _ | .extract _ _ | .move _ | .pick _ _ _ | .binOp _ _ _ _ _ | .alloc _ | .box _ _ => true
  | .slice t _ _ _ _ => match V.ty t with
    | some ⟨_, _, none, _, _⟩ => true
    | _ => false
  | .build _ _ | .buildSlice _ _ _ | .makeSlice _ _ _ => (o.dst.bind (look · V.own)).isNone
  | .call ⟨.builtin _, _, _⟩ => true
  | _ => false
noncomputable def eagH (S : St) (ops : Array Oper) (i : Nat) (o : Oper) : Bool := match gst S ops o with
  | some w => match w with
    | false => false
    | true => (hlO V S o).isSome && ops.toList.all fun o' => orB (cjO V o') (bt (amask o'.after.toList) i)
  | none => false
noncomputable def evP (u : List Nat × List Nat) (ops : Array Oper) (pl : List (Nat × Bool)) : St → (St → Prop) → Prop := List.rec (motive := fun _ => St → (St → Prop) → Prop) (fun S K => K S) (fun p _ ih S K => match fget ops.toList p.1 with
  | some o => match p.2 with
    | true => stepO V S ops o fun out => orB (lastF ops p.1 o) (within S u out) = true ∧ S.appK o.dst out fun S' => ih S' K
    | false => match eagD V S u ops o with
      | true => stepO V S ops o fun out => S.appK o.dst out fun S' => ih S' K
      | false => match eagH V S ops p.1 o with
        | true => stepO V S ops o fun out => S.appK o.dst out fun S' => ih S' K
        | false => False
  | none => False) pl
noncomputable def evD (id : Nat) (ops : Array Oper) (S : St) (K : St → Prop) : Prop := match look id V.pls with
  | some pl => match planC ops pl with
    | true => evP V ((look id V.unst).getD ([], [])) ops pl S K
    | false => False
  | none => evR V ((look id V.unst).getD ([], [])) ops ops.size (Array.replicate ops.size false) S fun S => forceS S K
def inB (id : Nat) (K : Ex → St → Prop) : Ex → St → Prop
  | .exit j, S => if j = id then K .normal S else K (.exit j) S
  | e, S => K e S
noncomputable def evC : Code → St → (Ex → St → Prop) → Prop
  | .skip, S, K => K .normal S
  | .label _, S, K => K .normal S
  | .region id ops d, S, K => match d with
    | false => evOps V ops ops.toList S (K .normal)
    | true => evD V id ops S (K .normal)
  | .seq x y, S, K => evC x S fun e S' => match e with
    | .normal => evC y S' K
    | .exit j => K (.exit j) S'
    | .ret => K .ret S'
  | .cond c x y, S, K => match S.opnd V 0 c with
    | some (.v false [.d (.b t)]) => if t = true then evC x S K else evC y S K
    | _ => False
  | .block id c, S, K => match look id V.loops with
    | some L => L S K
    | none => evC c S (inB id K)
  | .exit id, S, K => K (.exit id) S
  | .ret, S, K => K .ret S
  | _, _, _ => False
/-! ### forgetting, at a loop's head and end -/
def St.cutCm (S : St) (kr : List Nat) : Cm → Cm
  | .d x => .d x
  | .ref id ep => match S.live id ep with
    | some _ => bif kr.contains id then .ref id 0 else .dead
    | none => .dead
  | .dead => .dead
def St.cutT (S : St) (kb kr : List Nat) : T → T
  | .v g cs => .v g (cs.map (S.cutCm kr))
  | .pb b ep off => match S.box b ep with
    | some _ => bif kb.contains b then .pb b (min ep 1) off else .un
    | none => .un
  | .pp k l i off => .pp k l i off
  | .hp k off => .hp k off
  | .und => .und
  | .fn f none => .fn f none
  | .fn f (some (b, ep)) => match S.box b ep with
    | some _ => bif kb.contains b then .fn f (some (b, min ep 1)) else .un
    | none => .un
  | _ => .un
def mapI {α β : Type} (f : Nat → α → β) : Nat → List α → List β
  | _, [] => []
  | i, x :: xs => f i x :: mapI f (i + 1) xs
def St.cut (S : St) (ks kb kr : List Nat) : St :=
  { slots := mapI (fun t x => bif ks.contains t then S.cutT kb kr x else .un) 0 S.slots
    rows := mapI (fun id r => bif kr.contains id then ⟨0, r.c⟩ else ⟨0, none⟩) 0 S.rows
    boxes := mapI (fun b B => bif kb.contains b then ⟨min B.ep 1, B.c.map (·.map (S.cutCm kr))⟩ else ⟨0, none⟩) 0 S.boxes }
def mkSlots (n : Nat) (l : List (Nat × T)) : List T := l.foldl (fun s p => s.set p.1 p.2) (List.replicate n .un)
/-! ### a function -/
def initCells (hh : Bool) : Nat → List AC → List Cm × List Row
  | _, [] => ([], [])
  | id, .d x :: as => let (cs, rs) := initCells hh id as; (.d x :: cs, rs)
  | id, .xx :: as => let (cs, rs) := initCells hh id as; (.dead :: cs, rs)
  | id, .own c :: as => let (cs, rs) := initCells hh (id + 1) as; (.ref id 0 :: cs, ⟨0, some ⟨c.e, c.k, c.l, ⟨c.m.d, hh, 0, c.m.p⟩⟩⟩ :: rs)
def initA (hh : Bool) : Nat → Nat → List Arg → List T × List Row × List Box
  | _, _, [] => ([], [], [])
  | id, b, .v g cs :: as => let (ms, rs) := initCells hh id cs; let (ts, rs', bs) := initA hh (id + rs.length) b as; (.v g ms :: ts, rs ++ rs', bs)
  | id, b, .p cs :: as => let (ms, rs) := initCells hh id cs; let (ts, rs', bs) := initA hh (id + rs.length) (b + 1) as; (.pb b 0 0 :: ts, rs ++ rs', ⟨0, some ms⟩ :: bs)
def inclo : Option (Nat × Bool) → List T → List T
  | none, ts => ts
  | some (f, false), ts => ts ++ [.fn f none]
  | some (_, true), [] => []
  | some (f, true), [.pb b ep 0] => [.fn f (some (b, ep))]
  | some (_, true), [_] => [.un]
  | some (f, true), t :: ts => t :: inclo (some (f, true)) ts
def St.init (hh : Bool) (cl : Option (Nat × Bool)) (n nr nb : Nat) (as : List Arg) : St := match initA hh 0 0 as with
  | (ts0, rs, bs) => let ts := inclo cl ts0; ⟨ts ++ List.replicate (n - ts.length) .und, rs ++ List.replicate nr ⟨0, none⟩, bs ++ List.replicate nb ⟨0, none⟩⟩
noncomputable def resVars (S : St) : List ResultVar → Option (List T)
  | [] => some []
  | .tmp t :: r => match S.slots[t]?, resVars S r with
    | some x, some xs => some (x :: xs)
    | _, _ => none
  | .cell a t :: r => match V.ty t, S.slots[a]?, resVars S r with
    | some I, some (.pb b ep 0), some xs => match S.box b ep with
      | some cs => if cs.length = I.zc.length ∧ (I.agg = true ∨ I.zc.length = 1) then some (.v I.agg cs :: xs) else none
      | none => none
    | _, _, _ => none
def pbs : Nat → Nat → List T
  | _, 0 => []
  | b, n + 1 => .pb b 0 0 :: pbs (b + 1) n
def argP (as : List Arg) : Nat := (as.filter fun | .p _ => true | _ => false).length
def pcells : Arg → List AC
  | .p cs => cs
  | .v _ cs => cs
noncomputable def retT (E : Ent) (rv : List ResultVar) (np : Nat) (S : St) (K : List Arg → List (List AC) → Prop) : Prop := match resVars V S rv with
  | some ts => match argsT S E.res [] 0 ts, argsT S [] [] 0 (pbs 0 np) with
    | some (rs, ls, gs, bs), some (cs, ls', [], bs') => (nodupB gs && nodupB ((bs ++ bs').map (·.1)) && !(ls ++ ls').any gs.contains) = true ∧ K rs (cs.map pcells)
    | _, _ => False
  | none => False
noncomputable def evF (E : Ent) (fn : Func) (nr nb : Nat) (as : List Arg) (K : List Arg → List (List AC) → Prop) : Prop := match fn.body with
  | some c => evC V c (St.init false E.clo fn.ntmps nr nb as) fun e S => match e with
    | .exit _ => False
    | _ => retT V E fn.results.toList (argP as) S K
  | none => False
end
end Go.Proofs.YtjjcjpmfkbfdfaaE


/- Rows of cells and data; what a value reads as; the relation of a function's state and the world. Conditions: none. -/
set_option linter.unusedVariables false
namespace Go.Proofs.YtjjcjpmfkbfdfaaE
open Go Go.RowKit
/-! ### rows of cells -/
def flat (k : RK) (l : List k.El) : List D := l.flatMap k.cells
theorem cells_len (k : RK) (x : k.El) : (k.cells x).length = k.size := by cases k <;> rfl
theorem size_pos (k : RK) : 0 < k.size := by cases k <;> decide
theorem flat_cons (k : RK) (x : k.El) (l : List k.El) : flat k (x :: l) = k.cells x ++ flat k l := rfl
theorem flat_append (k : RK) (l l' : List k.El) : flat k (l ++ l') = flat k l ++ flat k l' := by simp [flat]
theorem flat_len (k : RK) (l : List k.El) : (flat k l).length = l.length * k.size := by
  induction l with
  | nil => simp [flat]
  | cons x l ih => rw [flat_cons, List.length_append, ih, cells_len, List.length_cons, Nat.add_mul]; omega
theorem flat_drop (k : RK) (l : List k.El) (n : Nat) : flat k (l.drop n) = (flat k l).drop (n * k.size) := by
  induction n generalizing l with
  | zero => simp
  | succ n ih => cases l with
    | nil => simp [flat]
    | cons x l =>
      rw [List.drop_succ_cons, ih, flat_cons, Nat.add_mul, Nat.one_mul, Nat.add_comm, List.drop_append, cells_len]
      have h1 : (k.cells x).drop (k.size + n * k.size) = [] := List.drop_eq_nil_of_le (by rw [cells_len]; omega)
      rw [h1, List.nil_append, Nat.add_sub_cancel_left]
theorem flat_take (k : RK) (l : List k.El) (n : Nat) : flat k (l.take n) = (flat k l).take (n * k.size) := by
  induction n generalizing l with
  | zero => simp [flat]
  | succ n ih => cases l with
    | nil => simp [flat]
    | cons x l =>
      rw [List.take_succ_cons, flat_cons, ih, flat_cons, Nat.add_mul, Nat.one_mul, Nat.add_comm, List.take_append, cells_len]
      have h1 : (k.cells x).take (k.size + n * k.size) = k.cells x := List.take_of_length_le (by rw [cells_len]; omega)
      rw [h1, Nat.add_sub_cancel_left]
theorem flat_at (k : RK) (l : List k.El) (i : Nat) (h : i < l.length) : ((flat k l).drop (i * k.size)).take k.size = k.cells (k.at l i) := by
  rw [← flat_drop]
  have h1 : l.drop i = k.at l i :: l.drop (i + 1) := by
    rw [List.drop_eq_getElem_cons h]; simp [RK.at, List.getElem?_eq_getElem h]
  rw [h1, flat_cons, List.take_append, cells_len]
  simp [List.take_of_length_le (Nat.le_of_eq (cells_len k _))]
theorem flat_set (k : RK) (l : List k.El) (i : Nat) (h : i < l.length) (e : k.El) : flat k (l.set i e) = putC (flat k l) (i * k.size) (k.cells e) := by
  have h1 : l.set i e = l.take i ++ e :: l.drop (i + 1) := by rw [List.set_eq_take_append_cons_drop, if_pos h]
  rw [h1, flat_append, flat_cons, flat_take, flat_drop]
  simp only [putC, cells_len, Nat.add_mul, Nat.one_mul, List.append_assoc]
theorem mkTx_cells {ds : List D} {e : TxS} (h : mkTx ds = some e) : txC e = ds := by unfold mkTx at h; split at h <;> first | (cases h; rfl) | simp at h
theorem mkRx_cells {ds : List D} {e : RxS} (h : mkRx ds = some e) : rxC e = ds := by unfold mkRx at h; split at h <;> first | (cases h; rfl) | simp at h
theorem mkCt_cells {ds : List D} {e : CtS} (h : mkCt ds = some e) : ctC e = ds := by unfold mkCt at h; split at h <;> first | (cases h; rfl) | simp at h
theorem mkCr_cells {ds : List D} {e : CrS} (h : mkCr ds = some e) : crC e = ds := by unfold mkCr at h; split at h <;> first | (cases h; rfl) | simp at h
theorem mkTxN_cells {ds : List D} {e : TxN} (h : mkTxN ds = some e) : txNC e = ds := by unfold mkTxN at h; split at h <;> first | (cases h; rfl) | simp at h
theorem mkRxN_cells {ds : List D} {e : RxN} (h : mkRxN ds = some e) : rxNC e = ds := by unfold mkRxN at h; split at h <;> first | (cases h; rfl) | simp at h
theorem mkCtN_cells {ds : List D} {e : CtN} (h : mkCtN ds = some e) : ctNC e = ds := by unfold mkCtN at h; split at h <;> first | (cases h; rfl) | simp at h
theorem mkCrN_cells {ds : List D} {e : CrN} (h : mkCrN ds = some e) : crNC e = ds := by unfold mkCrN at h; split at h <;> first | (cases h; rfl) | simp at h
theorem mk_cells (k : RK) (ds : List D) (e : k.El) (h : k.mk ds = some e) : k.cells e = ds := by
  cases k
  case u8 => change mkU8 ds = some e at h; unfold mkU8 at h; split at h <;> first | (cases h; rfl) | simp at h
  case i64 => change mkI64 ds = some e at h; unfold mkI64 at h; split at h <;> first | (cases h; rfl) | simp at h
  case byr => change mkByr ds = some e at h; unfold mkByr at h; split at h <;> first | (cases h; rfl) | simp at h
  case part => change mkPart ds = some e at h; unfold mkPart at h; split at h <;> first | (cases h; rfl) | simp at h
  case frm => change mkFrm ds = some e at h; unfold mkFrm at h; split at h <;> first | (cases h; rfl) | simp at h
  case netm => change mkNet ds = some e at h; unfold mkNet at h; split at h <;> first | (cases h; rfl) | simp at h
  case nets => change mkNets ds = some e at h; unfold mkNets at h; split at h <;> first | (cases h; rfl) | simp at h
  case hnet => change mkHnet ds = some e at h; unfold mkHnet at h; split at h <;> first | (cases h; rfl) | simp at h
  case ev => change mkEv ds = some e at h; unfold mkEv at h; split at h <;> first | (cases h; rfl) | simp at h
  case hend =>
    change mkEndN ds = some e at h
    unfold mkEndN at h
    split at h
    · rename_i a b c d p g h1 h2 h3 h4 h5
      cases h
      have e5 : [D.h .byr p, D.h .byr g] = ds.drop 26 := by
        unfold mkPGN at h5; split at h5
        · rename_i heq; cases h5; exact heq.symm
        · simp at h5
      show txNC a ++ (rxNC b ++ (ctNC c ++ (crNC d ++ [D.h .byr p, D.h .byr g]))) = ds
      rw [mkTxN_cells h1, mkRxN_cells h2, mkCtN_cells h3, mkCrN_cells h4, e5]
      have a1 : (ds.drop 22).take 4 ++ ds.drop 26 = ds.drop 22 := by have := List.take_append_drop 4 (ds.drop 22); rwa [List.drop_drop] at this
      have a2 : (ds.drop 17).take 5 ++ ds.drop 22 = ds.drop 17 := by have := List.take_append_drop 5 (ds.drop 17); rwa [List.drop_drop] at this
      have a3 : (ds.drop 10).take 7 ++ ds.drop 17 = ds.drop 10 := by have := List.take_append_drop 7 (ds.drop 10); rwa [List.drop_drop] at this
      rw [a1, a2, a3, List.take_append_drop]
    · simp at h
  case wend =>
    change mkEnd ds = some e at h
    unfold mkEnd at h
    split at h
    · rename_i a b c d p g h1 h2 h3 h4 h5
      cases h
      have e5 : [D.r .byr p, D.r .byr g] = ds.drop 26 := by
        unfold mkPG at h5; split at h5
        · rename_i heq; cases h5; exact heq.symm
        · simp at h5
      show txC a ++ (rxC b ++ (ctC c ++ (crC d ++ [D.r .byr p, D.r .byr g]))) = ds
      rw [mkTx_cells h1, mkRx_cells h2, mkCt_cells h3, mkCr_cells h4, e5]
      have a1 : (ds.drop 22).take 4 ++ ds.drop 26 = ds.drop 22 := by have := List.take_append_drop 4 (ds.drop 22); rwa [List.drop_drop] at this
      have a2 : (ds.drop 17).take 5 ++ ds.drop 22 = ds.drop 17 := by have := List.take_append_drop 5 (ds.drop 17); rwa [List.drop_drop] at this
      have a3 : (ds.drop 10).take 7 ++ ds.drop 17 = ds.drop 10 := by have := List.take_append_drop 7 (ds.drop 10); rwa [List.drop_drop] at this
      rw [a1, a2, a3, List.take_append_drop]
    · simp at h
theorem putC_len {α : Type} (l : List α) (o : Nat) (xs : List α) (h : o + xs.length ≤ l.length) : (putC l o xs).length = l.length := by
  simp [putC]; omega
theorem cutC_len {α : Type} (l : List α) (o n : Nat) (h : o + n ≤ l.length) : (cutC l o n).length = n := by simp [cutC]; omega
/-! ### two lists, pairwise -/
inductive F2 {α β : Type} (R : α → β → Prop) : List α → List β → Prop
  | nil : F2 R [] []
  | cons {a b l m} : R a b → F2 R l m → F2 R (a :: l) (b :: m)
namespace F2
variable {α β : Type} {R R' : α → β → Prop}
theorem len {l : List α} {m : List β} (h : F2 R l m) : l.length = m.length := by induction h <;> simp_all
theorem mono {l : List α} {m : List β} (h : F2 R l m) (hr : ∀ a b, R a b → R' a b) : F2 R' l m := by
  induction h with
  | nil => exact .nil
  | cons h _ ih => exact .cons (hr _ _ h) ih
theorem get {l : List α} {m : List β} (h : F2 R l m) : ∀ (i : Nat) (b : β), m[i]? = some b → ∃ a, l[i]? = some a ∧ R a b := by
  induction h with
  | nil => intro i b h; simp at h
  | cons h _ ih => intro i b hb; cases i with
    | zero => simp at hb; subst hb; exact ⟨_, rfl, h⟩
    | succ i => simpa using ih i b (by simpa using hb)
theorem of_get {l : List α} : ∀ {m : List β}, l.length = m.length → (∀ (i : Nat) a b, l[i]? = some a → m[i]? = some b → R a b) → F2 R l m := by
  induction l with
  | nil => intro m h _; cases m with
    | nil => exact .nil
    | cons => simp at h
  | cons a l ih => intro m h hr; cases m with
    | nil => simp at h
    | cons b m => exact .cons (hr 0 a b rfl rfl) (ih (by simpa using h) fun i a b ha hb => hr (i + 1) a b (by simpa using ha) (by simpa using hb))
theorem app {l l' : List α} {m m' : List β} (h : F2 R l m) (h' : F2 R l' m') : F2 R (l ++ l') (m ++ m') := by
  induction h with
  | nil => exact h'
  | cons h _ ih => exact .cons h ih
theorem take {l : List α} {m : List β} (h : F2 R l m) : ∀ n, F2 R (l.take n) (m.take n) := by
  induction h with
  | nil => intro n; simpa using .nil
  | cons h _ ih => intro n; cases n with
    | zero => exact .nil
    | succ n => exact .cons h (ih n)
theorem drop {l : List α} {m : List β} (h : F2 R l m) : ∀ n, F2 R (l.drop n) (m.drop n) := by
  induction h with
  | nil => intro n; simpa using .nil
  | cons h h' ih => intro n; cases n with
    | zero => exact .cons h h'
    | succ n => exact ih n
theorem cut {l : List α} {m : List β} (h : F2 R l m) (o n : Nat) : F2 R (cutC l o n) (cutC m o n) := (h.drop o).take n
theorem put {l l' : List α} {m m' : List β} (h : F2 R l m) (h' : F2 R l' m') (o : Nat) : F2 R (putC l o l') (putC m o m') := by
  unfold putC; rw [h'.len]; exact ((h.take o).app h').app (h.drop _)
theorem set {l : List α} {m : List β} (h : F2 R l m) {a : α} {b : β} (hr : R a b) : ∀ i, F2 R (l.set i a) (m.set i b) := by
  induction h with
  | nil => intro i; simpa using .nil
  | cons h h' ih => intro i; cases i with
    | zero => exact .cons hr h'
    | succ i => exact .cons h (ih i)
theorem map {γ : Type} {f : γ → β} {l : List α} {m : List γ} (h : F2 (fun a c => R a (f c)) l m) : F2 R l (m.map f) := by
  induction h with
  | nil => exact .nil
  | cons h _ ih => exact .cons h ih
theorem all {l : List α} {m : List β} (h : F2 R l m) {p : α → Prop} (hp : ∀ a b, R a b → p a) : ∀ a ∈ l, p a := by
  induction h with
  | nil => intro a h; cases h
  | cons h _ ih => intro a ha; cases ha with
    | head => exact hp _ _ h
    | tail _ ha => exact ih a ha
end F2
/-! ### what a value reads as, out of blocks of F -/
inductive HF where
  | b (n : Nat)
  | h (k : RK) (g s : Nat)
instance : Coe Nat HF := ⟨.b⟩
theorem hsh_len {k : RK} (h : hk k = true) : (hsh k).length = k.size := by cases k <;> first | rfl | cases h
def RdH (F : HF → Prop) (v : Value) (k : RK) (n : Nat) : Prop :=
  ((∃ x, v = .slice x 0 0) ∧ n = 0) ∨ ∃ g i cap s, v = .slice (some ⟨g, i * k.size, none⟩) n cap ∧ F (.h k g s) ∧ n ≤ cap ∧ (i + cap) * k.size ≤ s ∧ cap ≤ maxLen
theorem RdH.mono {F F' : HF → Prop} {v : Value} {k : RK} {n : Nat} (h : RdH F v k n) (hF : ∀ k g s, F (.h k g s) → F' (.h k g s)) : RdH F' v k n := by
  rcases h with h | ⟨g, i, cap, s, h1, h2, h3⟩
  · exact .inl h
  · exact .inr ⟨g, i, cap, s, h1, hF _ _ _ h2, h3⟩
inductive Rd (w : World) (F : HF → Prop) : Value → D → Prop
  | i (k : IntKind) (x : Int) : Rd w F (.int k x) (.i k x)
  | b (x : Bool) : Rd w F (.bool x) (.b x)
  | nil (k : RK) (x : Option Addr) : Rd w F (.slice x 0 0) (.r k [])
  | h (v : Value) (k : RK) (n : Nat) : RdH F v k n → Rd w F v (.h k n)
  | row (k : RK) (l : List k.El) (g off cap : Nat) (vs : Nat → Value) : F (.b g) → l.length ≤ cap →
      (∀ j, j < l.length * k.size → w.cell? ⟨g, off + j, none⟩ = some (vs j)) →
      (∀ j, j < l.length * k.size → Rd w F (vs j) ((flat k l).getD j (.b false))) →
      Rd w F (.slice (some ⟨g, off, none⟩) l.length cap) (.r k l)
theorem Rd.mono {w w' : World} {F F' : HF → Prop} {v : Value} {x : D} (h : Rd w F v x) (hF : ∀ b, F b → F' b) (hw : ∀ b : Nat, F (.b b) → w'.heap[b]? = w.heap[b]?) : Rd w' F' v x := by
  induction h with
  | h v k n h => exact .h v k n (h.mono fun _ _ _ => hF _)
  | i k x => exact .i k x
  | b x => exact .b x
  | nil k x => exact .nil k x
  | row k l g off cap vs hg hc hcell _ ih =>
    exact .row k l g off cap vs (hF _ hg) hc (fun j hj => by rw [World.cell?_of_block (hw g hg)]; exact hcell j hj) ih
theorem RdH.one {F : HF → Prop} {v : Value} {k : RK} {n : Nat} (h : RdH F v k n) : v.oneCell' = true ∧ v.cells = #[v] := by
  rcases h with ⟨⟨x, rfl⟩, _⟩ | ⟨g, i, cap, s, rfl, _⟩ <;> exact ⟨rfl, rfl⟩
theorem Rd.one {w : World} {F : HF → Prop} {v : Value} {x : D} (h : Rd w F v x) : v.oneCell' = true := by
  cases h <;> first | rfl | exact (RdH.one (by assumption)).1
theorem Rd.cells {w : World} {F : HF → Prop} {v : Value} {x : D} (h : Rd w F v x) : v.cells = #[v] := by
  cases h <;> first | rfl | exact (RdH.one (by assumption)).2
theorem Rd.sh {w : World} {F : HF → Prop} {v : Value} {k : RK} {n : Nat} (h : Rd w F v (.h k n)) : RdH F v k n := by cases h; assumption
def HC (F : HF → Prop) (v : Value) : D → Prop
  | .i .u8 _ => ∃ x : Int, v = .int .u8 x ∧ 0 ≤ x ∧ x ≤ 255
  | .i k _ => ∃ x : Int, v = .int k x
  | .b _ => ∃ x : Bool, v = .bool x
  | .h k _ => ∃ n, n ≤ HL ∧ RdH F v k n
  | .r _ _ => False
theorem HC.mono {F F' : HF → Prop} {v : Value} {x : D} (h : HC F v x) (hF : ∀ k g s, F (.h k g s) → F' (.h k g s)) : HC F' v x := by
  unfold HC at h ⊢
  split
  · exact h
  · rename_i k n hk
    split at h <;> first | exact h | (rename_i e; cases e; first | exact (hk _ rfl).elim | exact h) | simp_all
  · exact h
  · obtain ⟨n, h1, h2⟩ := h; exact ⟨n, h1, h2.mono hF⟩
  · exact h
structure ShOk (w : World) (F : HF → Prop) : Prop where
  ok : ∀ k g s, F (.h k g s) → ∃ cur : Array Value, w.heap[g]? = some (.cells cur (hE k) (0, 0)) ∧ cur.size = s ∧ ∀ j v, cur[j]? = some v → ∃ d, (hsh k)[j % k.size]? = some d ∧ HC F v d
  fn : ∀ k g s k' s', F (.h k g s) → F (.h k' g s') → k = k' ∧ s = s'
  df : ∀ k g s, F (.h k g s) → ¬ F (.b g)
def Lies (w : World) (F : HF → Prop) (g off : Nat) (k : RK) (l : List k.El) (xs : List Value) : Prop :=
  (∀ j u, xs[j]? = some u → w.cell? ((⟨g, off, none⟩ : Addr).add j) = some u) ∧ F2 (Rd w F) xs (flat k l)
theorem add_lit (g off j : Nat) : (⟨g, off, none⟩ : Addr).add j = ⟨g, off + j, none⟩ := by unfold Addr.add; split <;> simp_all
theorem Rd.row_lies {w : World} {F : HF → Prop} {v : Value} {k : RK} {l : List k.El} (h : Rd w F v (.r k l)) :
    ((∃ x, v = .slice x 0 0) ∧ l = []) ∨ ∃ g off cap xs, v = .slice (some ⟨g, off, none⟩) l.length cap ∧ F (.b g) ∧ l.length ≤ cap ∧ Lies w F g off k l xs := by
  cases h with
  | nil _ x => exact .inl ⟨⟨x, rfl⟩, rfl⟩
  | row k l g off cap vs hg hc hcell hrd =>
    refine .inr ⟨g, off, cap, (List.range (l.length * k.size)).map vs, rfl, hg, hc, ?_, ?_⟩
    · intro j u hu
      simp only [List.getElem?_map, Option.map_eq_some_iff] at hu
      obtain ⟨i, hi, rfl⟩ := hu
      obtain ⟨hj, he⟩ := List.getElem?_eq_some_iff.1 hi
      simp only [List.getElem_range] at he
      subst he
      rw [add_lit]; exact hcell _ (by simpa using hj)
    · refine F2.of_get (by simp [flat_len]) fun i a b ha hb => ?_
      simp only [List.getElem?_map, Option.map_eq_some_iff] at ha
      obtain ⟨i', hi, rfl⟩ := ha
      obtain ⟨hj, he⟩ := List.getElem?_eq_some_iff.1 hi
      simp only [List.getElem_range] at he
      subst he
      have := hrd _ (by simpa using hj)
      rwa [List.getD_eq_getElem?_getD, hb] at this
theorem Rd.of_lies {w : World} {F : HF → Prop} {k : RK} {l : List k.El} {g off cap : Nat} {xs : List Value} (hg : F (.b g)) (hc : l.length ≤ cap) (h : Lies w F g off k l xs) :
    Rd w F (.slice (some ⟨g, off, none⟩) l.length cap) (.r k l) := by
  have hl := h.2.len
  rw [flat_len] at hl
  refine .row k l g off cap (fun j => xs.getD j undef) hg hc (fun j hj => ?_) fun j hj => ?_
  · have hx : xs[j]? = some (xs.getD j undef) := by rw [List.getD_eq_getElem?_getD, List.getElem?_eq_getElem (by omega)]; rfl
    have := h.1 j _ hx
    rwa [add_lit] at this
  · obtain ⟨a, ha, hr⟩ := h.2.get j ((flat k l).getD j (.b false)) (by rw [List.getD_eq_getElem?_getD, List.getElem?_eq_getElem (by rw [flat_len]; omega)]; rfl)
    rwa [List.getD_eq_getElem?_getD, ha]
theorem Rd.int {w : World} {F : HF → Prop} {v : Value} {k : IntKind} {x : Int} (h : Rd w F v (.i k x)) : v = .int k x := by cases h; rfl
theorem Rd.bool {w : World} {F : HF → Prop} {v : Value} {x : Bool} (h : Rd w F v (.b x)) : v = .bool x := by cases h; rfl
/-! ### what the world keeps -/
structure Kp (p : Nat → Prop) (w w' : World) : Prop where
  os : w'.os = w.os
  tape : w'.tape = w.tape
  output : w'.output = w.output
  size : w.heap.size ≤ w'.heap.size
  block : ∀ b, p b → w'.heap[b]? = w.heap[b]?
theorem Kp.refl (p : Nat → Prop) (w : World) : Kp p w w := ⟨rfl, rfl, rfl, Nat.le_refl _, fun _ _ => rfl⟩
theorem Kp.trans {p p' : Nat → Prop} {a b c : World} (h : Kp p a b) (k : Kp p' b c) (hp : ∀ x, p x → p' x) : Kp p a c :=
  ⟨k.os.trans h.os, k.tape.trans h.tape, k.output.trans h.output, Nat.le_trans h.size k.size, fun i hi => (k.block i (hp i hi)).trans (h.block i hi)⟩
/-! ### the state and the world -/
inductive Tag where
  | fz
  | bx (b : Nat)
  | rw (id : Nat)
  | sh
  | ot
structure Gh where
  who : Nat → Tag
  bk : Nat → Nat
  hd : Nat → Value
  inn : Nat → Nat → Value
  sh : RK → Nat → Nat → Prop
def Gh.F (G : Gh) : HF → Prop
  | .b b => G.who b = .fz
  | .h k g s => G.sh k g s
theorem Gh.F_le {G G' : Gh} (h1 : ∀ b, G.who b = .fz → G'.who b = .fz) (h2 : ∀ k g s, G.sh k g s → G'.sh k g s) : ∀ x, G.F x → G'.F x := fun x hx => by
  cases x with
  | b n => exact h1 n hx
  | h k g s => exact h2 k g s hx
def CR (w : World) (G : Gh) (rows : List Row) (v : Value) : Cm → Prop
  | .d x => Rd w G.F v x
  | .ref id ep => v.oneCell' = true ∧ v.cells = #[v] ∧ ∀ r, rows[id]? = some r → ep ≤ r.ep ∧ (ep = r.ep → r.c.isSome = true → v = G.hd id)
  | .dead => v.oneCell' = true ∧ v.cells = #[v]
def VR (w : World) (G : Gh) (rows : List Row) (v : Value) (g : Bool) (cs : List Cm) : Prop := match g with
  | false => ∃ c, cs = [c] ∧ CR w G rows v c
  | true => ∃ arr : List Value, v = .agg arr.toArray ∧ F2 (CR w G rows) arr cs
def TR (w : World) (G : Gh) (rows : List Row) (boxes : List Box) (v : Value) : T → Prop
  | .un => True
  | .und => v = undef
  | .v g cs => VR w G rows v g cs
  | .pb b ep off => ∀ B, boxes[b]? = some B → ep ≤ B.ep ∧ (ep = B.ep → B.c.isSome = true → v = .pointer (some ⟨G.bk b, off, none⟩))
  | .pr id ep i off => ∀ r, rows[id]? = some r → ep ≤ r.ep ∧ (ep = r.ep → ∀ c, r.c = some c → i < c.l.length ∧ ∃ g n cap, G.hd id = .slice (some ⟨g, 0, none⟩) n cap ∧ v = .pointer (some ⟨g, i * c.k.size + off, none⟩))
  | .sub id ep vv i off => ∀ r, rows[id]? = some r → ep ≤ r.ep ∧ (ep = r.ep → ∀ c, r.c = some c → vv ≤ c.m.v ∧ (vv = c.m.v → i * c.k.size + off < c.dn ∧ v = G.inn id (i * c.k.size + off)))
  | .pp k l i off => i < l.length ∧ ∃ g o n cap, Rd w G.F (.slice (some ⟨g, o, none⟩) n cap) (.r k l) ∧ v = .pointer (some ⟨g, o + i * k.size + off, none⟩)
  | .hp k off => ∃ g i s, G.sh k g s ∧ (i + 1) * k.size ≤ s ∧ v = .pointer (some ⟨g, i * k.size + off, none⟩)
  | .tup l => ∃ arr : List Value, v = .tuple arr.toArray ∧ F2 (fun v (p : Bool × List Cm) => VR w G rows v p.1 p.2) arr l
  | .fn f none => v = .func (.func f) #[] #[]
  | .fn f (some (b, ep)) => ∀ B, boxes[b]? = some B → ep ≤ B.ep ∧ (ep = B.ep → B.c.isSome = true → v = .func (.func f) #[] #[.pointer (some ⟨G.bk b, 0, none⟩)])
def ownB : Value → Option Nat
  | .slice (some a) _ (_ + 1) => some a.block
  | _ => none
theorem ownB_pos {a : Addr} {n c : Nat} (h : 0 < c) : ownB (.slice (some a) n c) = some a.block := by cases c with
  | zero => omega
  | succ => rfl
theorem ownB_zero (x : Option Addr) (n : Nat) : ownB (.slice x n 0) = none := by cases x <;> rfl
def OwnsC (w : World) (base : Nat) (e : TypeId) (size : Nat) (v : Value) (n : Nat) (xs : List Value) : Prop :=
  xs.length = n * size ∧
  (((∃ x, v = .slice x 0 0) ∧ n = 0) ∨
   ∃ g cap cur, v = .slice (some ⟨g, 0, none⟩) n cap ∧ base ≤ g ∧ w.heap[g]? = some (.cells cur e (0, 0)) ∧ n ≤ cap ∧ cap ≤ maxLen ∧ cap * size ≤ cur.size ∧ cur.toList.take (n * size) = xs ∧ 0 < cap)
def PoolC (w : World) (F : HF → Prop) (size : Nat) (v : Value) (n : Nat) (xs : List Value) : Prop :=
  xs.length = n * size ∧ (((∃ x, v = .slice x 0 0) ∧ n = 0) ∨
   ∃ g off cap, v = .slice (some ⟨g, off, none⟩) n cap ∧ F (.b g) ∧ n ≤ cap ∧ ∀ j u, xs[j]? = some u → w.cell? ⟨g, off + j, none⟩ = some u)
def DC (w : World) (F : HF → Prop) (v : Value) (x : D) (B : List Nat) : Prop := match x with
  | .r .u8 l => (∃ ys, OwnsC w 0 5 1 v l.length ys ∧ F2 (Rd w F) ys (flat .u8 l)) ∧ B = (ownB v).toList
  | x => Rd w F v x ∧ B = []
def DCs (w : World) (F : HF → Prop) : Nat → List Value → List D → List Nat → Prop
  | 0, vs, ds, B => F2 (Rd w F) vs ds ∧ B = []
  | n + 1, v :: vs, x :: ds, B => ∃ B1 B2, DC w F v x B1 ∧ DCs w F n vs ds B2 ∧ B = B1 ++ B2
  | _, _, _, _ => False
def outC (w : World) (F : HF → Prop) (v : Value) (c : RC) (xs : List Value) : Prop := match c.m.p with
  | false => OwnsC w 0 c.e c.k.size v c.l.length xs
  | true => PoolC w F c.k.size v c.l.length xs
def obB (c : RC) (v : Value) : List Nat := match c.m.p with
  | false => (ownB v).toList
  | true => []
structure OwnX (w : World) (F : HF → Prop) (v : Value) (c : RC) (xs : List Value) (B : List Nat) : Prop where
  out : outC w F v c xs
  dcs : ∃ Bi, DCs w F c.dn xs (flat c.k c.l) Bi ∧ B = obB c v ++ Bi
def OwnR (w : World) (F : HF → Prop) (v : Value) (c : RC) (B : List Nat) : Prop := ∃ xs, OwnX w F v c xs B
def InnOk (G : Gh) (id : Nat) (c : RC) (xs : List Value) : Prop := ∀ j, j < c.dn → ∀ k l, (flat c.k c.l)[j]? = some (.r k l) → xs[j]? = some (G.inn id j)
def RowR (w : World) (G : Gh) (id : Nat) (r : Row) : Prop := ∀ c, r.c = some c → ∃ xs B, OwnX w G.F (G.hd id) c xs B ∧ B.Nodup ∧ (∀ b ∈ B, G.who b = .rw id) ∧ InnOk G id c xs
def BoxR (w : World) (G : Gh) (rows : List Row) (b : Nat) (cs : List Cm) : Prop :=
  G.who (G.bk b) = .bx b ∧ ∃ (arr : List Value) (ty : TypeId), w.heap[G.bk b]? = some (.cells arr.toArray ty (0, 0)) ∧ F2 (CR w G rows) arr cs
structure Pro where
  p : Nat → Prop
  f : Nat → Prop
  b : List Nat
  h : List Value
  s : RK → Nat → Nat → Prop
structure Inv (w0 : World) (prot : Pro) (S : St) (G : Gh) (a : Act) (w : World) : Prop where
  len : a.tmps.size = S.slots.length
  slot : ∀ t x, S.slots[t]? = some x → TR w G S.rows S.boxes (a.tmps.getD t undef) x
  box : ∀ b B, S.boxes[b]? = some B → ∀ cs, B.c = some cs → BoxR w G S.rows b cs
  row : ∀ id r, S.rows[id]? = some r → RowR w G id r
  lt : ∀ b, G.who b ≠ .ot → b < w.heap.size
  kp : Kp prot.p w0 w
  pr : ∀ b, prot.p b → (G.who b = .fz ∧ prot.f b) ∨ (G.who b = .ot ∧ ¬ prot.f b)
  prl : ∀ b, prot.p b → b < w0.heap.size
  df : a.defers = []
  hb : ∀ j b, prot.b[j]? = some b → ∀ B, S.boxes[j]? = some B → B.ep = 0 → B.c.isSome = true → G.bk j = b
  hr : ∀ j v, prot.h[j]? = some v → ∀ r c, S.rows[j]? = some r → r.c = some c → c.m.h = true → G.hd j = v
  so : ShOk w G.F
  sw : ∀ k g s, G.sh k g s → G.who g = .sh
  ps : ∀ k g s, prot.s k g s → G.sh k g s
  pn : ∀ k g s, G.sh k g s → prot.s k g s ∨ w0.heap.size ≤ g
def ShA (w : World) (G : Gh) : Prop := ShOk w G.F ∧ ∀ k g s, G.sh k g s → G.who g = .sh
theorem Inv.shs {w0 : World} {prot : Pro} {S : St} {G : Gh} {a : Act} {w : World} (h : Inv w0 prot S G a w) : ShA w G := ⟨h.so, h.sw⟩
def ShB (w : World) (G : Gh) (w' : World) (G' : Gh) : Prop := ShA w' G' ∧ ∀ k g s, G'.sh k g s → G.sh k g s ∨ w.heap.size ≤ g
theorem Inv.shb {w0 : World} {prot : Pro} {S : St} {G : Gh} {a : Act} {w : World} (h : Inv w0 prot S G a w) : ShB w G w G := ⟨h.shs, fun _ _ _ hh => .inl hh⟩
theorem ShA.same {w w' : World} {G G' : Gh} (h : ShA w G) (e : G'.sh = G.sh) (hwho : ∀ b, G.who b = .sh → G'.who b = .sh) (hw : ∀ b, G.who b = .sh → w'.heap[b]? = w.heap[b]?) : ShB w G w' G' := by
  have hF : ∀ k g s, G'.F (.h k g s) = G.F (.h k g s) := fun k g s => by show G'.sh k g s = G.sh k g s; rw [e]
  have hsw : ∀ k g s, G'.sh k g s → G'.who g = .sh := fun k g s hh => hwho g (h.2 k g s (by rw [e] at hh; exact hh))
  refine ⟨⟨⟨fun k g s hh => ?_, fun k g s k' s' h1 h2 => h.1.fn k g s k' s' (by rwa [hF] at h1) (by rwa [hF] at h2), fun k g s hh hb => ?_⟩, hsw⟩, fun k g s hh => .inl (by rw [e] at hh; exact hh)⟩
  · rw [hF] at hh
    obtain ⟨cur, h1, h2, h3⟩ := h.1.ok k g s hh
    refine ⟨cur, by rw [hw g (h.2 k g s hh)]; exact h1, h2, fun j v hv => ?_⟩
    obtain ⟨d, h4, h5⟩ := h3 j v hv
    exact ⟨d, h4, h5.mono fun k g s hk => by rw [hF]; exact hk⟩
  · have h1 := hsw k g s hh
    have h2 : G'.who g = .fz := hb
    rw [h1] at h2
    cases h2
structure RowK (G G' : Gh) (id : Nat) (r r' : Row) : Prop where
  le : r.ep ≤ r'.ep
  same : r.ep = r'.ep → ∀ c', r'.c = some c' → G'.hd id = G.hd id ∧ ∃ c, r.c = some c ∧ c.k = c'.k ∧ c.l.length = c'.l.length ∧ c.m.v ≤ c'.m.v ∧ (c.m.v = c'.m.v → c.dn ≤ c'.dn ∧ ∀ j, j < c.dn → G'.inn id j = G.inn id j)
  hs : ∀ c', r'.c = some c' → c'.m.h = true → ∃ c, r.c = some c ∧ c.m.h = true ∧ G'.hd id = G.hd id
theorem RowK.refl {G G' : Gh} {id : Nat} (r : Row) (h1 : G'.hd id = G.hd id) (h2 : ∀ j, G'.inn id j = G.inn id j) : RowK G G' id r r :=
  ⟨Nat.le_refl _, fun _ c' hc => ⟨h1, c', hc, rfl, rfl, Nat.le_refl _, fun _ => ⟨Nat.le_refl _, fun j _ => h2 j⟩⟩, fun c' hc hh => ⟨c', hc, hh, h1⟩⟩
theorem RowK.new {G G' : Gh} {id : Nat} {r r' : Row} (h : r.ep < r'.ep) (hh : ∀ c', r'.c = some c' → c'.m.h = false) : RowK G G' id r r' :=
  ⟨Nat.le_of_lt h, fun e => by omega, fun c' hc h1 => by rw [hh c' hc] at h1; cases h1⟩
theorem RowK.none {G G' : Gh} {id : Nat} {r r' : Row} (h : r.ep ≤ r'.ep) (hh : r'.c = none) : RowK G G' id r r' :=
  ⟨h, fun _ c' hc => by (rw [hh] at hc; cases hc), fun c' hc _ => by (rw [hh] at hc; cases hc)⟩
structure Keeps (w : World) (G : Gh) (rows : List Row) (boxes : List Box) (w' : World) (G' : Gh) (rows' : List Row) (boxes' : List Box) : Prop where
  fz : ∀ b, G.who b = .fz → G'.who b = .fz ∧ w'.heap[b]? = w.heap[b]?
  row : ∀ id r', rows'[id]? = some r' → ∃ r, rows[id]? = some r ∧ RowK G G' id r r'
  box : ∀ b B', boxes'[b]? = some B' → ∃ B, boxes[b]? = some B ∧ B.ep ≤ B'.ep ∧ (B.ep = B'.ep → B'.c.isSome = true → B.c.isSome = true ∧ G'.bk b = G.bk b)
  sh : ∀ k g s, G.sh k g s → G'.sh k g s
theorem Keeps.rd {w w' : World} {G G' : Gh} {rows rows' : List Row} {bs bs' : List Box} (h : Keeps w G rows bs w' G' rows' bs') {v : Value} {x : D} (hr : Rd w G.F v x) : Rd w' G'.F v x :=
  hr.mono (fun b hb => by
    cases b with
    | b n => exact (h.fz n hb).1
    | h k g s => exact h.sh k g s hb) fun b hb => (h.fz b hb).2
theorem Keeps.F {w w' : World} {G G' : Gh} {rows rows' : List Row} {bs bs' : List Box} (h : Keeps w G rows bs w' G' rows' bs') : (∀ x, G.F x → G'.F x) ∧ ∀ b : Nat, G.F (.b b) → w'.heap[b]? = w.heap[b]? :=
  ⟨fun x hx => by
    cases x with
    | b n => exact (h.fz n hx).1
    | h k g s => exact h.sh k g s hx, fun b hb => (h.fz b hb).2⟩
theorem Keeps.cr {w w' : World} {G G' : Gh} {rows rows' : List Row} {bs bs' : List Box} (h : Keeps w G rows bs w' G' rows' bs') {v : Value} {c : Cm} (hr : CR w G rows v c) : CR w' G' rows' v c := by
  cases c with
  | d x => exact h.rd hr
  | dead => exact hr
  | ref id ep =>
    refine ⟨hr.1, hr.2.1, fun r' hr' => ?_⟩
    obtain ⟨r, hr0, hK⟩ := h.row id r' hr'
    have hle := hK.le
    obtain ⟨h1, h2⟩ := hr.2.2 r hr0
    refine ⟨Nat.le_trans h1 hle, fun he hs => ?_⟩
    have her : r.ep = r'.ep := by omega
    obtain ⟨c', hc'⟩ := Option.isSome_iff_exists.1 hs
    obtain ⟨hh, c, hc, _⟩ := hK.same her c' hc'
    rw [hh]
    exact h2 (by omega) (by simp [hc])
theorem Keeps.vr {w w' : World} {G G' : Gh} {rows rows' : List Row} {bs bs' : List Box} (h : Keeps w G rows bs w' G' rows' bs') {v : Value} {g : Bool} {cs : List Cm} (hr : VR w G rows v g cs) : VR w' G' rows' v g cs := by
  cases g with
  | false => obtain ⟨c, h1, h2⟩ := hr; exact ⟨c, h1, h.cr h2⟩
  | true => obtain ⟨arr, h1, h2⟩ := hr; exact ⟨arr, h1, h2.mono fun _ _ hc => h.cr hc⟩
theorem Keeps.tr {w w' : World} {G G' : Gh} {rows rows' : List Row} {bs bs' : List Box} (h : Keeps w G rows bs w' G' rows' bs') {v : Value} {x : T} (hr : TR w G rows bs v x) : TR w' G' rows' bs' v x := by
  cases x with
  | un => trivial
  | und => exact hr
  | v g cs => exact h.vr hr
  | pb b ep off =>
    intro B' hB'
    obtain ⟨B, hB, hle, hsame⟩ := h.box b B' hB'
    obtain ⟨h1, h2⟩ := hr B hB
    refine ⟨Nat.le_trans h1 hle, fun he hs => ?_⟩
    obtain ⟨h3, h4⟩ := hsame (by omega) hs
    rw [h4]
    exact h2 (by omega) h3
  | pr id ep i off =>
    intro r' hr'
    obtain ⟨r, hr0, hK⟩ := h.row id r' hr'
    have hle := hK.le
    obtain ⟨h1, h2⟩ := hr r hr0
    refine ⟨Nat.le_trans h1 hle, fun he c' hc' => ?_⟩
    have her : r.ep = r'.ep := by omega
    obtain ⟨hh, c, hc, hk, hl, _⟩ := hK.same her c' hc'
    obtain ⟨h3, g, n, cap, h4, h5⟩ := h2 (by omega) c hc
    rw [hh]
    exact ⟨by omega, g, n, cap, h4, by rw [← hk]; exact h5⟩
  | sub id ep vv i off =>
    intro r' hr'
    obtain ⟨r, hr0, hK⟩ := h.row id r' hr'
    have hle := hK.le
    obtain ⟨h1, h2⟩ := hr r hr0
    refine ⟨Nat.le_trans h1 hle, fun he c' hc' => ?_⟩
    have her : r.ep = r'.ep := by omega
    obtain ⟨hh, c, hc, hk, hl, hv, hin⟩ := hK.same her c' hc'
    obtain ⟨h3, h4⟩ := h2 (by omega) c hc
    refine ⟨by omega, fun e => ?_⟩
    obtain ⟨h5, h6⟩ := hin (by omega)
    obtain ⟨h7, h8⟩ := h4 (by omega)
    rw [← hk]
    exact ⟨by omega, by rw [h6 _ h7]; exact h8⟩
  | hp k off => obtain ⟨g, i, s, h1, h2, h3⟩ := hr; exact ⟨g, i, s, h.sh _ _ _ h1, h2, h3⟩
  | pp k l i off => obtain ⟨h1, g, o, n, cap, h2, h3⟩ := hr; exact ⟨h1, g, o, n, cap, h.rd h2, h3⟩
  | tup l => obtain ⟨arr, h1, h2⟩ := hr; exact ⟨arr, h1, h2.mono fun _ _ hc => h.vr hc⟩
  | fn f cb =>
    cases cb with
    | none => exact hr
    | some p =>
      obtain ⟨b, ep⟩ := p
      intro B' hB'
      obtain ⟨B, hB, hle, hsame⟩ := h.box b B' hB'
      obtain ⟨h1, h2⟩ := hr B hB
      refine ⟨Nat.le_trans h1 hle, fun he hs => ?_⟩
      obtain ⟨h3, h4⟩ := hsame (by omega) hs
      rw [h4]
      exact h2 (by omega) h3
end Go.Proofs.YtjjcjpmfkbfdfaaE


/- The state's relation is kept: a value laid into a slot, new blocks, rows and variables written. Conditions: none. -/
set_option linter.unusedVariables false
namespace Go.Proofs.YtjjcjpmfkbfdfaaE
open Go Go.RowKit
/-! ### rows whose elements' rows are their own -/
theorem OwnsC.keep {w w' : World} {base : Nat} {e : TypeId} {size : Nat} {v : Value} {n : Nat} {xs : List Value} (h : OwnsC w base e size v n xs) (hw : ∀ b, (ownB v) = some b → w'.heap[b]? = w.heap[b]?) : OwnsC w' base e size v n xs := by
  refine ⟨h.1, ?_⟩
  rcases h.2 with hn | ⟨g, cap, cur, rfl, hb, hg, rest⟩
  · exact .inl hn
  · exact .inr ⟨g, cap, cur, rfl, hb, by rw [hw g (ownB_pos rest.2.2.2.2)]; exact hg, rest⟩
theorem DC.cases {w : World} {F : HF → Prop} {v : Value} {x : D} {B : List Nat} (h : DC w F v x B) : (∃ l : List Int, x = .r .u8 l ∧ (∃ ys, OwnsC w 0 5 1 v l.length ys ∧ F2 (Rd w F) ys (flat .u8 l)) ∧ B = (ownB v).toList) ∨ ((∀ l : List Int, x ≠ .r .u8 l) ∧ Rd w F v x ∧ B = []) := by
  cases x with
  | h k n => exact .inr ⟨fun l e => (by cases e), h⟩
  | i k n => exact .inr ⟨fun l e => (by cases e), h⟩
  | b n => exact .inr ⟨fun l e => (by cases e), h⟩
  | r k l => cases k with
    | u8 => exact .inl ⟨l, rfl, h⟩
    | _ => exact .inr ⟨fun l e => (by cases e), h⟩
theorem DC.own {w : World} {F : HF → Prop} {v : Value} {l : List Int} {ys : List Value} (h : OwnsC w 0 5 1 v l.length ys) (h2 : F2 (Rd w F) ys (flat .u8 l)) : DC w F v (.r .u8 l) (ownB v).toList := ⟨⟨ys, h, h2⟩, rfl⟩
theorem DC.dat {w : World} {F : HF → Prop} {v : Value} {x : D} (hx : ∀ l : List Int, x ≠ .r .u8 l) (h : Rd w F v x) : DC w F v x [] := by
  cases x with
  | h k n => exact ⟨h, rfl⟩
  | i k n => exact ⟨h, rfl⟩
  | b n => exact ⟨h, rfl⟩
  | r k l => cases k with
    | u8 => exact absurd rfl (hx l)
    | _ => exact ⟨h, rfl⟩
theorem DC.not_row {w : World} {F : HF → Prop} {v : Value} {x : D} {B : List Nat} (h : DC w F v x B) (hx : isRow x = false) : Rd w F v x ∧ B = [] := by
  rcases h.cases with ⟨l, rfl, _⟩ | ⟨_, h⟩
  · simp [isRow] at hx
  · exact h
theorem DC.mono {w w' : World} {F F' : HF → Prop} {v : Value} {x : D} {B : List Nat} (h : DC w F v x B) (hF : (∀ x, F x → F' x) ∧ ∀ b : Nat, F (.b b) → w'.heap[b]? = w.heap[b]?) (hB : ∀ b ∈ B, w'.heap[b]? = w.heap[b]?) : DC w' F' v x B := by
  rcases h.cases with ⟨l, rfl, ⟨ys, h1, h2⟩, rfl⟩ | ⟨hx, h1, rfl⟩
  · exact .own (h1.keep fun b hb => hB b (by rw [hb]; simp)) (h2.mono fun _ _ hh => hh.mono hF.1 hF.2)
  · exact .dat hx (h1.mono hF.1 hF.2)
theorem DC.one {w : World} {F : HF → Prop} {v : Value} {x : D} {B : List Nat} (h : DC w F v x B) : v.oneCell' = true ∧ v.cells = #[v] := by
  rcases h.cases with ⟨l, rfl, ⟨ys, h1, h2⟩, rfl⟩ | ⟨hx, h1, rfl⟩
  · rcases h1.2 with ⟨⟨x, rfl⟩, _⟩ | ⟨g, cap, cur, rfl, _⟩ <;> exact ⟨rfl, rfl⟩
  · exact ⟨h1.one, h1.cells⟩
theorem OwnsC.rd {w : World} {F F' : HF → Prop} {e : TypeId} {k : RK} {v : Value} {l : List k.El} {ys : List Value} (h : OwnsC w 0 e k.size v l.length ys) (h2 : F2 (Rd w F) ys (flat k l)) (hF : ∀ b, F b → F' b) (hb : ∀ b, (ownB v) = some b → F' b) : Rd w F' v (.r k l) := by
  rcases h.2 with ⟨⟨x, rfl⟩, hn⟩ | ⟨g, cap, cur, rfl, _, hg, hnc, _, hcs, ht, hpos⟩
  · obtain rfl := List.length_eq_zero_iff.1 hn
    exact .nil _ _
  · refine Rd.of_lies (hb g (ownB_pos hpos)) hnc ⟨fun j u hu => ?_, h2.mono fun _ _ hh => hh.mono hF fun _ _ => rfl⟩
    rw [add_lit, Nat.zero_add, cell_of_row _ _ _ _ _ _ hg, ← Array.getElem?_toList]
    rw [← ht, List.getElem?_take] at hu
    split at hu
    · exact hu
    · simp at hu
theorem DC.data {w : World} {F F' : HF → Prop} {v : Value} {x : D} {B : List Nat} (h : DC w F v x B) (hF : ∀ b, F b → F' b) (hB : ∀ b ∈ B, F' b) : Rd w F' v x := by
  rcases h.cases with ⟨l, rfl, ⟨ys, h1, h2⟩, rfl⟩ | ⟨hx, h1, rfl⟩
  · exact OwnsC.rd (k := .u8) (l := l) h1 h2 hF fun b hb => hB b (by rw [hb]; simp)
  · exact h1.mono hF fun _ _ => rfl
theorem DCs.zero {w : World} {F : HF → Prop} {vs : List Value} {ds : List D} {B : List Nat} : DCs w F 0 vs ds B ↔ F2 (Rd w F) vs ds ∧ B = [] := by
  cases vs <;> cases ds <;> exact Iff.rfl
theorem DCs.mono {w w' : World} {F F' : HF → Prop} (hF : (∀ x, F x → F' x) ∧ ∀ b : Nat, F (.b b) → w'.heap[b]? = w.heap[b]?) : ∀ {n : Nat} {vs : List Value} {ds : List D} {B : List Nat}, DCs w F n vs ds B → (∀ b ∈ B, w'.heap[b]? = w.heap[b]?) → DCs w' F' n vs ds B
  | 0, vs, ds, B, h, _ => by
    rw [DCs.zero] at h ⊢
    exact ⟨h.1.mono fun _ _ hh => hh.mono hF.1 hF.2, h.2⟩
  | n + 1, v :: vs, x :: ds, B, h, hB => by
    obtain ⟨B1, B2, h1, h2, rfl⟩ := h
    exact ⟨B1, B2, h1.mono hF fun b hb => hB b (List.mem_append_left _ hb), DCs.mono hF h2 fun b hb => hB b (List.mem_append_right _ hb), rfl⟩
  | _ + 1, [], _, _, h, _ => by cases ‹List D› <;> exact h.elim
  | _ + 1, _ :: _, [], _, h, _ => h.elim
theorem DCs.len {w : World} {F : HF → Prop} : ∀ {n : Nat} {vs : List Value} {ds : List D} {B : List Nat}, DCs w F n vs ds B → vs.length = ds.length ∧ n ≤ vs.length
  | 0, vs, ds, B, h => by rw [DCs.zero] at h; exact ⟨h.1.len, Nat.zero_le _⟩
  | n + 1, v :: vs, x :: ds, B, h => by
    obtain ⟨B1, B2, h1, h2, rfl⟩ := h
    have := DCs.len h2
    simp only [List.length_cons]
    omega
  | _ + 1, [], _, _, h => by cases ‹List D› <;> exact h.elim
  | _ + 1, _ :: _, [], _, h => h.elim
theorem DCs.data {w : World} {F F' : HF → Prop} (hF : ∀ b, F b → F' b) : ∀ {n : Nat} {vs : List Value} {ds : List D} {B : List Nat}, DCs w F n vs ds B → (∀ b ∈ B, F' b) → F2 (Rd w F') vs ds
  | 0, vs, ds, B, h, _ => by
    rw [DCs.zero] at h
    exact h.1.mono fun _ _ hh => hh.mono hF fun _ _ => rfl
  | n + 1, v :: vs, x :: ds, B, h, hB => by
    obtain ⟨B1, B2, h1, h2, rfl⟩ := h
    exact .cons (h1.data hF fun b hb => hB b (List.mem_append_left _ hb)) (DCs.data hF h2 fun b hb => hB b (List.mem_append_right _ hb))
  | _ + 1, [], _, _, h, _ => by cases ‹List D› <;> exact h.elim
  | _ + 1, _ :: _, [], _, h, _ => h.elim
theorem DCs.one {w : World} {F : HF → Prop} : ∀ {n : Nat} {vs : List Value} {ds : List D} {B : List Nat}, DCs w F n vs ds B → ∀ u ∈ vs, u.oneCell' = true
  | 0, vs, ds, B, h, u, hu => by
    rw [DCs.zero] at h
    exact h.1.all (p := fun u => u.oneCell' = true) (fun _ _ hh => hh.one) u hu
  | n + 1, v :: vs, x :: ds, B, h, u, hu => by
    obtain ⟨B1, B2, h1, h2, rfl⟩ := h
    rcases List.mem_cons.1 hu with rfl | hu
    · exact h1.one.1
    · exact DCs.one h2 u hu
  | _ + 1, [], _, _, h, _, _ => by cases ‹List D› <;> exact h.elim
  | _ + 1, _ :: _, [], _, h, _, _ => h.elim
theorem DCs.get {w : World} {F : HF → Prop} : ∀ {n : Nat} {vs : List Value} {ds : List D} {B : List Nat}, DCs w F n vs ds B → ∀ (j : Nat) (x : D), ds[j]? = some x → ∃ u, vs[j]? = some u ∧ (n ≤ j ∨ isRow x = false → Rd w F u x)
  | 0, vs, ds, B, h, j, x, hx => by
    rw [DCs.zero] at h
    obtain ⟨a, h1, h2⟩ := h.1.get j x hx
    exact ⟨a, h1, fun _ => h2⟩
  | n + 1, v :: vs, y :: ds, B, h, j, x, hx => by
    obtain ⟨B1, B2, h1, h2, rfl⟩ := h
    cases j with
    | zero =>
      simp only [List.getElem?_cons_zero, Option.some.injEq] at hx
      subst hx
      refine ⟨v, rfl, fun hc => ?_⟩
      rcases hc with hc | hc
      · omega
      · exact (h1.not_row hc).1
    | succ j =>
      obtain ⟨u, h3, h4⟩ := DCs.get h2 j x (by simpa using hx)
      exact ⟨u, by simpa using h3, fun hc => h4 (hc.imp (fun h => by omega) id)⟩
  | _ + 1, [], _, _, h, _, _, _ => by cases ‹List D› <;> exact h.elim
  | _ + 1, _ :: _, [], _, h, _, _, _ => h.elim
theorem DCs.cut {w : World} {F : HF → Prop} {n : Nat} {vs : List Value} {ds : List D} {B : List Nat} (h : DCs w F n vs ds B) (o m : Nat) (hc : n ≤ o ∨ (cutC ds o m).any isRow = false) : F2 (Rd w F) (cutC vs o m) (cutC ds o m) := by
  refine F2.of_get (by have := h.len.1; simp [cutC]; omega) fun i a b ha hb => ?_
  have hb' : ds[o + i]? = some b := by
    simp only [cutC, List.getElem?_take, List.getElem?_drop] at hb
    split at hb
    · exact hb
    · simp at hb
  have ha' : vs[o + i]? = some a := by
    simp only [cutC, List.getElem?_take, List.getElem?_drop] at ha
    split at ha
    · exact ha
    · simp at ha
  obtain ⟨u, h1, h2⟩ := h.get (o + i) b hb'
  rw [ha'] at h1
  cases h1
  refine h2 ?_
  rcases hc with hc | hc
  · exact .inl (by omega)
  · refine .inr ?_
    rw [List.any_eq_false] at hc
    have := hc b (List.mem_of_getElem? hb)
    simpa using this
theorem PoolC.keep {w w' : World} {F F' : HF → Prop} {size : Nat} {v : Value} {n : Nat} {xs : List Value} (h : PoolC w F size v n xs) (hF : (∀ x, F x → F' x) ∧ ∀ b : Nat, F (.b b) → w'.heap[b]? = w.heap[b]?) : PoolC w' F' size v n xs := by
  refine ⟨h.1, ?_⟩
  rcases h.2 with hn | ⟨g, off, cap, h1, h2, h3, h4⟩
  · exact .inl hn
  · exact .inr ⟨g, off, cap, h1, hF.1 _ h2, h3, fun j u hu => by rw [World.cell?_of_block (hF.2 _ h2)]; exact h4 j u hu⟩
theorem outC.keep {w w' : World} {F F' : HF → Prop} {v : Value} {c : RC} {xs : List Value} (h : outC w F v c xs) (hF : (∀ x, F x → F' x) ∧ ∀ b : Nat, F (.b b) → w'.heap[b]? = w.heap[b]?) (hB : ∀ b ∈ obB c v, w'.heap[b]? = w.heap[b]?) : outC w' F' v c xs := by
  unfold outC at h ⊢
  unfold obB at hB
  split
  · rename_i hp
    rw [hp] at h hB
    exact OwnsC.keep h fun b hb => hB b (by rw [hb]; simp)
  · rename_i hp
    rw [hp] at h
    exact PoolC.keep h hF
theorem OwnX.mono {w w' : World} {F F' : HF → Prop} {v : Value} {c : RC} {xs : List Value} {B : List Nat} (h : OwnX w F v c xs B) (hF : (∀ x, F x → F' x) ∧ ∀ b : Nat, F (.b b) → w'.heap[b]? = w.heap[b]?) (hB : ∀ b ∈ B, w'.heap[b]? = w.heap[b]?) : OwnX w' F' v c xs B := by
  obtain ⟨h1, Bi, h2, rfl⟩ := h
  exact ⟨h1.keep hF fun b hb => hB b (List.mem_append_left _ hb), Bi, h2.mono hF fun b hb => hB b (List.mem_append_right _ hb), rfl⟩
theorem OwnR.mono {w w' : World} {F F' : HF → Prop} {v : Value} {c : RC} {B : List Nat} (h : OwnR w F v c B) (hF : (∀ x, F x → F' x) ∧ ∀ b : Nat, F (.b b) → w'.heap[b]? = w.heap[b]?) (hB : ∀ b ∈ B, w'.heap[b]? = w.heap[b]?) : OwnR w' F' v c B := by
  obtain ⟨xs, h⟩ := h
  exact ⟨xs, h.mono hF hB⟩
theorem outC.lies {w : World} {F : HF → Prop} {v : Value} {c : RC} {xs : List Value} (h : outC w F v c xs) : xs.length = c.l.length * c.k.size ∧ (((∃ x, v = .slice x 0 0) ∧ c.l = []) ∨
    ∃ g off cap, v = .slice (some ⟨g, off, none⟩) c.l.length cap ∧ c.l.length ≤ cap ∧ ∀ j u, xs[j]? = some u → w.cell? ⟨g, off + j, none⟩ = some u) := by
  unfold outC at h
  split at h
  · refine ⟨h.1, ?_⟩
    rcases h.2 with ⟨hv, hn⟩ | ⟨g, cap, cur, rfl, _, hg, hnc, _, _, ht, _⟩
    · exact .inl ⟨hv, List.length_eq_zero_iff.1 hn⟩
    · refine .inr ⟨g, 0, cap, rfl, hnc, fun j u hu => ?_⟩
      rw [Nat.zero_add, cell_of_row _ _ _ _ _ _ hg, ← Array.getElem?_toList]
      rw [← ht, List.getElem?_take] at hu
      split at hu
      · exact hu
      · simp at hu
  · refine ⟨h.1, ?_⟩
    rcases h.2 with ⟨hv, hn⟩ | ⟨g, off, cap, rfl, _, hnc, hc⟩
    · exact .inl ⟨hv, List.length_eq_zero_iff.1 hn⟩
    · exact .inr ⟨g, off, cap, rfl, hnc, hc⟩
theorem OwnX.one {w : World} {F : HF → Prop} {v : Value} {c : RC} {xs : List Value} {B : List Nat} (h : OwnX w F v c xs B) : v.oneCell' = true ∧ v.cells = #[v] := by
  rcases h.out.lies.2 with ⟨⟨x, rfl⟩, _⟩ | ⟨g, off, cap, rfl, _⟩ <;> exact ⟨rfl, rfl⟩
theorem OwnX.data {w : World} {F F' : HF → Prop} {v : Value} {c : RC} {xs : List Value} {B : List Nat} (h : OwnX w F v c xs B) (hF : ∀ b, F b → F' b) (hB : ∀ b ∈ B, F' b) : Rd w F' v (.r c.k c.l) := by
  obtain ⟨h1, Bi, h2, rfl⟩ := h
  have h3 := h2.data hF fun b hb => hB b (List.mem_append_right _ hb)
  unfold outC at h1
  split at h1
  · rename_i hp
    rcases h1.2 with ⟨⟨x, rfl⟩, hn⟩ | ⟨g, cap, cur, rfl, _, hg, hnc, _, hcs, ht, hpos⟩
    · rw [List.length_eq_zero_iff.1 hn]; exact .nil _ _
    · refine Rd.of_lies (hB g (List.mem_append_left _ ?_)) hnc ⟨fun j u hu => ?_, h3⟩
      · unfold obB; rw [hp]; rw [ownB_pos hpos]; simp
      · rw [add_lit, Nat.zero_add, cell_of_row _ _ _ _ _ _ hg, ← Array.getElem?_toList]
        rw [← ht, List.getElem?_take] at hu
        split at hu
        · exact hu
        · simp at hu
  · rcases h1.2 with ⟨⟨x, rfl⟩, hn⟩ | ⟨g, off, cap, rfl, hg, hnc, hc⟩
    · rw [List.length_eq_zero_iff.1 hn]; exact .nil _ _
    · exact Rd.of_lies (hF g hg) hnc ⟨fun j u hu => by rw [add_lit]; exact hc j u hu, h3⟩
theorem OwnR.data {w : World} {F F' : HF → Prop} {v : Value} {c : RC} {B : List Nat} (h : OwnR w F v c B) (hF : ∀ b, F b → F' b) (hB : ∀ b ∈ B, F' b) : Rd w F' v (.r c.k c.l) := by
  obtain ⟨xs, h⟩ := h
  exact h.data hF hB
theorem OwnX.meta {w : World} {F : HF → Prop} {v : Value} {c c' : RC} {xs : List Value} {B : List Nat} (h : OwnX w F v c xs B) (he : c'.e = c.e) (hk : (⟨c'.k, c'.l⟩ : (k : RK) × List k.El) = ⟨c.k, c.l⟩) (hp : c'.m.p = c.m.p) (hd : c'.m.d.getD 0 = c.m.d.getD 0) : OwnX w F v c' xs B := by
  obtain ⟨e, k, l, m⟩ := c
  obtain ⟨e', k', l', m'⟩ := c'
  simp only [Sigma.mk.injEq] at hk
  obtain ⟨rfl, hk⟩ := hk
  cases hk
  dsimp only at he hp hd
  subst he
  obtain ⟨h1, Bi, h2, rfl⟩ := h
  refine ⟨?_, Bi, ?_, ?_⟩
  · unfold outC at h1 ⊢; dsimp only at h1 ⊢; rw [hp]; exact h1
  · unfold RC.dn at h2 ⊢; dsimp only at h2 ⊢; rw [hd]; exact h2
  · unfold obB; dsimp only; rw [hp]
theorem dpM_getD (b : Bool) (d : Option Nat) : (dpM b d).getD 0 = d.getD 0 := by cases b <;> cases d <;> rfl
theorem OwnX.nh {w : World} {F : HF → Prop} {v : Value} {c : RC} {xs : List Value} {B : List Nat} (h : OwnX w F v c xs B) (dp : Bool) : OwnX w F v (c.nh dp) xs B := h.meta rfl rfl rfl (dpM_getD _ _)
theorem setD_len {α : Type} (d : Option Nat) (x : α) (l : List α) : (setD d x l).length = l.length := by cases d <;> simp [setD]
theorem setD_get {α : Type} {d : Option Nat} {x y : α} {l : List α} {i : Nat} (h : (setD d x l)[i]? = some y) :
    (d = some i ∧ y = x ∧ i < l.length) ∨ (d ≠ some i ∧ l[i]? = some y) := by
  cases d with
  | none => exact .inr ⟨by simp, h⟩
  | some j =>
    simp only [setD, List.getElem?_set] at h
    by_cases hj : j = i
    · subst hj
      rw [if_pos rfl] at h
      split at h
      · exact .inl ⟨rfl, by simpa using h.symm, ‹_›⟩
      · simp at h
    · rw [if_neg hj] at h
      exact .inr ⟨by simpa using hj, h⟩
theorem put_size (a : Act) (d : Option Nat) (v : Value) : (a.put d v).tmps.size = a.tmps.size := by cases d <;> simp [Act.put]
theorem put_same (a : Act) (i : Nat) (v : Value) (h : i < a.tmps.size) : (a.put (some i) v).tmps.getD i undef = v := by simp [Act.put, h]
theorem put_other (a : Act) (d : Option Nat) (i : Nat) (v : Value) (h : d ≠ some i) : (a.put d v).tmps.getD i undef = a.tmps.getD i undef := by
  cases d with
  | none => rfl
  | some j =>
    have hj : j ≠ i := fun e => h (by rw [e])
    simp [Act.put, Array.getElem?_setIfInBounds_ne hj]
theorem put_defers (a : Act) (d : Option Nat) (v : Value) : (a.put d v).defers = a.defers := by cases d <;> rfl
theorem Inv.step {w0 : World} {prot : Pro} {S : St} {G : Gh} {a : Act} {w : World} (h : Inv w0 prot S G a w) {w' : World} {G' : Gh} {rows' : List Row} {boxes' : List Box}
    (hk : Keeps w G S.rows S.boxes w' G' rows' boxes')
    (hbox : ∀ b B, boxes'[b]? = some B → ∀ cs, B.c = some cs → BoxR w' G' rows' b cs) (hrow : ∀ id r, rows'[id]? = some r → RowR w' G' id r)
    (hlt : ∀ b, G'.who b ≠ .ot → b < w'.heap.size) (hkp : Kp prot.p w0 w') (hpr : ∀ b, prot.p b → (G'.who b = .fz ∧ prot.f b) ∨ (G'.who b = .ot ∧ ¬ prot.f b))
    (hsa : ShB w G w' G') {v : Value} {t : T} (ht : TR w' G' rows' boxes' v t) (d : Option Nat) :
    Inv w0 prot ⟨setD d t S.slots, rows', boxes'⟩ G' (a.put d v) w' where
  len := by rw [put_size, h.len, setD_len]
  slot := by
    intro i x hx
    rcases setD_get hx with ⟨hd, rfl, hi⟩ | ⟨hd, hx⟩
    · subst hd
      rw [put_same _ _ _ (by rw [h.len]; exact hi)]
      exact ht
    · rw [put_other _ _ _ _ hd]
      exact hk.tr (h.slot i x hx)
  box := hbox
  row := hrow
  lt := hlt
  kp := hkp
  pr := hpr
  prl := h.prl
  df := by rw [put_defers]; exact h.df
  hb := by
    intro j b hj B' hB' he hs
    obtain ⟨B, hB, hle, hsame⟩ := hk.box j B' hB'
    obtain ⟨h1, h2⟩ := hsame (by omega) hs
    rw [h2]
    exact h.hb j b hj B hB (by omega) h1
  hr := by
    intro j v hj r' c' hr' hc' hh
    obtain ⟨r, hr, hK⟩ := hk.row j r' hr'
    obtain ⟨c, hc, h1, h2⟩ := hK.hs c' hc' hh
    rw [h2]
    exact h.hr j v hj r c hr hc h1
  so := hsa.1.1
  sw := hsa.1.2
  ps := fun k g s hh => hk.sh k g s (h.ps k g s hh)
  pn := fun k g s hh => by
    rcases hsa.2 k g s hh with h1 | h1
    · exact h.pn k g s h1
    · exact .inr (Nat.le_trans h.kp.size h1)
theorem Keeps.refl (w : World) (G : Gh) (rows : List Row) (bs : List Box) : Keeps w G rows bs w G rows bs :=
  ⟨fun b hb => ⟨hb, rfl⟩, fun id r' hr => ⟨r', hr, RowK.refl r' rfl fun _ => rfl⟩, fun b B' hB => ⟨B', hB, Nat.le_refl _, fun _ h => ⟨h, rfl⟩⟩, fun _ _ _ h => h⟩
theorem Inv.put {w0 : World} {prot : Pro} {S : St} {G : Gh} {a : Act} {w : World} (h : Inv w0 prot S G a w) {v : Value} {t : T} (ht : TR w G S.rows S.boxes v t) (d : Option Nat) :
    Inv w0 prot (S.app d (val t)) G (a.put d v) w :=
  h.step (Keeps.refl _ _ _ _) h.box h.row h.lt h.kp h.pr h.shb ht d
/-! ### new blocks -/
def Gh.new (G : Gh) (n : Nat) (t : Tag) : Gh := { G with who := fun b => if b = n then t else G.who b }
theorem Gh.new_same (G : Gh) (n : Nat) (t : Tag) : (G.new n t).who n = t := by simp [Gh.new]
theorem Gh.new_other (G : Gh) {n b : Nat} (t : Tag) (h : b ≠ n) : (G.new n t).who b = G.who b := by simp [Gh.new, h]
theorem alloc_old (w : World) (o : Obj) {b : Nat} (h : b < w.heap.size) : (w.alloc o).heap[b]? = w.heap[b]? := Below.heap_alloc w o b h
theorem alloc_new (w : World) (o : Obj) : (w.alloc o).heap[w.heap.size]? = some o := heap_alloc_new w o
theorem F2.crs {w w' : World} {G G' : Gh} {rows rows' : List Row} {bs bs' : List Box} (h : Keeps w G rows bs w' G' rows' bs') {l : List Value} {m : List Cm} (hf : F2 (CR w G rows) l m) : F2 (CR w' G' rows') l m :=
  hf.mono fun _ _ hc => h.cr hc
theorem F2.rds {w w' : World} {G G' : Gh} {rows rows' : List Row} {bs bs' : List Box} (h : Keeps w G rows bs w' G' rows' bs') {l : List Value} {m : List D} (hf : F2 (Rd w G.F) l m) : F2 (Rd w' G'.F) l m :=
  hf.mono fun _ _ hc => h.rd hc
theorem BoxR.keep {w w' : World} {G G' : Gh} {rows rows' : List Row} {bs bs' : List Box} (h : Keeps w G rows bs w' G' rows' bs') {b : Nat} {cs : List Cm} (hb : BoxR w G rows b cs)
    (h1 : G'.bk b = G.bk b) (h2 : G'.who (G.bk b) = G.who (G.bk b)) (h3 : w'.heap[G.bk b]? = w.heap[G.bk b]?) : BoxR w' G' rows' b cs := by
  obtain ⟨hw, arr, ty, hh, hf⟩ := hb
  exact ⟨by rw [h1, h2]; exact hw, arr, ty, by rw [h1, h3]; exact hh, hf.crs h⟩
theorem RowR.keep {w w' : World} {G G' : Gh} {rows rows' : List Row} {bs bs' : List Box} (h : Keeps w G rows bs w' G' rows' bs') {id : Nat} {r : Row} (hr : RowR w G id r)
    (h1 : G'.hd id = G.hd id) (h2 : ∀ b, G.who b = .rw id → G'.who b = .rw id) (h3 : ∀ b, G.who b = .rw id → w'.heap[b]? = w.heap[b]?) (h4 : ∀ j, G'.inn id j = G.inn id j) : RowR w' G' id r := by
  intro c hc
  obtain ⟨xs, B, ho, hn, hb, hi⟩ := hr c hc
  rw [h1]
  exact ⟨xs, B, ho.mono h.F fun b hb' => h3 b (hb b hb'), hn, fun b hb' => h2 b (hb b hb'), fun j hj k l hkl => by rw [h4]; exact hi j hj k l hkl⟩
section
variable {w0 : World} {prot : Pro} {S : St} {G : Gh} {a : Act} {w : World}
theorem Inv.who_new (h : Inv w0 prot S G a w) {b : Nat} (hb : w.heap.size ≤ b) : G.who b = .ot := by
  cases hh : G.who b with
  | ot => rfl
  | _ => have := h.lt b (by rw [hh]; simp); omega
theorem Inv.grow (h : Inv w0 prot S G a w) {w' : World} {G' : Gh} (hk : Kp (fun b => b < w.heap.size) w w') (hwho : ∀ b, b < w.heap.size → G'.who b = G.who b)
    (hlt : ∀ b, G'.who b ≠ .ot → b < w'.heap.size) (hbk : G'.bk = G.bk) (hhd : G'.hd = G.hd) (hinn : G'.inn = G.inn) (hsh : G'.sh = G.sh) :
    Keeps w G S.rows S.boxes w' G' S.rows S.boxes ∧ Inv w0 prot S G' a w' := by
  have old : ∀ b, G.who b ≠ .ot → G'.who b = G.who b ∧ w'.heap[b]? = w.heap[b]? := fun b hb => ⟨hwho b (h.lt b hb), hk.block b (h.lt b hb)⟩
  have hkeep : Keeps w G S.rows S.boxes w' G' S.rows S.boxes :=
    ⟨fun b hb => by have := old b (by rw [hb]; simp); exact ⟨by rw [this.1, hb], this.2⟩,
     fun id r' hr => ⟨r', hr, RowK.refl r' (by rw [hhd]) fun j => by rw [hinn]⟩, fun b B' hB => ⟨B', hB, Nat.le_refl _, fun _ h => ⟨h, by rw [hbk]⟩⟩, fun _ _ _ h => by rw [hsh]; exact h⟩
  have hsa : ShB w G w' G' := h.shs.same hsh (fun b hb => by have := old b (by rw [hb]; simp); rw [this.1, hb]) fun b hb => (old b (by rw [hb]; simp)).2
  refine ⟨hkeep, h.len, ?_, ?_, ?_, hlt, ?_, ?_, h.prl, h.df, fun j b hj B hB he hs => by rw [hbk]; exact h.hb j b hj B hB he hs, fun j v hj r c hr hc hh => by rw [hhd]; exact h.hr j v hj r c hr hc hh, hsa.1.1, hsa.1.2, fun k g s hh => by rw [hsh]; exact h.ps k g s hh, fun k g s hh => by rw [hsh] at hh; exact h.pn k g s hh⟩
  · intro t x hx; exact hkeep.tr (h.slot t x hx)
  · intro b B hB cs hcs
    have hb := h.box b B hB cs hcs
    have := old (G.bk b) (by rw [hb.1]; simp)
    exact hb.keep hkeep (by rw [hbk]) this.1 this.2
  · intro id r hr
    exact (h.row id r hr).keep hkeep (by rw [hhd]) (fun b hb => by rw [(old b (by rw [hb]; simp)).1, hb]) (fun b hb => (old b (by rw [hb]; simp)).2) fun j => by rw [hinn]
  · exact h.kp.trans hk fun x hx => Nat.lt_of_lt_of_le (h.prl x hx) h.kp.size
  · intro b hb
    have hl := Nat.lt_of_lt_of_le (h.prl b hb) h.kp.size
    rw [hwho b hl]; exact h.pr b hb
theorem Kp.alloc (w : World) (o : Obj) : Kp (fun b => b < w.heap.size) w (w.alloc o) := ⟨rfl, rfl, rfl, by simp, fun b hb => alloc_old w o hb⟩
theorem Inv.alloc (h : Inv w0 prot S G a w) (o : Obj) (t : Tag) :
    Keeps w G S.rows S.boxes (w.alloc o) (G.new w.heap.size t) S.rows S.boxes ∧ Inv w0 prot S (G.new w.heap.size t) a (w.alloc o) := by
  refine h.grow (Kp.alloc w o) (fun b hb => Gh.new_other G t (by omega)) (fun b hb => ?_) rfl rfl rfl rfl
  by_cases e : b = w.heap.size
  · subst e; simp
  · rw [Gh.new_other G t e] at hb; have := h.lt b hb; simp; omega
theorem Inv.drew (h : Inv w0 prot S G a w) : Inv w0 prot S G a w.drew :=
  (h.grow (w' := w.drew) (G' := G) ⟨rfl, rfl, rfl, Nat.le_refl _, fun _ _ => rfl⟩ (fun _ _ => rfl) h.lt rfl rfl rfl rfl).2
theorem Inv.alloc_row (h : Inv w0 prot S G a w) (k : RK) (l : List k.El) (cur : List Value) (e : TypeId) (cap : Nat) (hc : l.length ≤ cap) (hl : F2 (Rd w G.F) (cur.take (l.length * k.size)) (flat k l)) (d : Option Nat) :
    ∃ G', Inv w0 prot (S.app d (val (.v false [.d (.r k l)]))) G' (a.put d (.slice (some ⟨w.heap.size, 0, none⟩) l.length cap)) (w.alloc (.cells cur.toArray e (0, 0))) := by
  obtain ⟨hk, hi⟩ := h.alloc (.cells cur.toArray e (0, 0)) .fz
  refine ⟨_, hi.put (t := .v false [.d (.r k l)]) ⟨_, rfl, ?_⟩ d⟩
  refine Rd.of_lies (Gh.new_same _ _ _) hc (xs := cur.take (l.length * k.size)) ⟨fun j u hu => ?_, hl.rds hk⟩
  rw [add_lit]
  rw [List.getElem?_take] at hu
  split at hu
  · rw [cell_of_row _ _ _ _ _ _ (heap_alloc_new w _)]; simpa using hu
  · simp at hu
theorem Inv.alloc_box (h : Inv w0 prot S G a w) (b : Nat) (B : Box) (cs : List Cm) (arr : List Value) (e : TypeId) (hb : S.boxes[b]? = some B) (hf : F2 (CR w G S.rows) arr cs) (d : Option Nat) :
    ∃ G', Inv w0 prot (S.app d ⟨.pb b (B.ep + 1) 0, [], [(b, ⟨B.ep + 1, some cs⟩)]⟩) G' (a.put d (.pointer (some ⟨w.heap.size, 0, none⟩))) (w.alloc (.cells arr.toArray e (0, 0))) := by
  obtain ⟨hk, hi⟩ := h.alloc (.cells arr.toArray e (0, 0)) (.bx b)
  have hbl : b < S.boxes.length := (List.getElem?_eq_some_iff.1 hb).1
  let G' : Gh := { G.new w.heap.size (.bx b) with bk := fun x => if x = b then w.heap.size else G.bk x }
  have hkeep : Keeps w G S.rows S.boxes (w.alloc (.cells arr.toArray e (0, 0))) G' S.rows (S.boxes.set b ⟨B.ep + 1, some cs⟩) := by
    refine ⟨hk.fz, fun id r' hr' => ?_, fun b' B' hB' => ?_, hk.sh⟩
    · obtain ⟨r, h1, h2⟩ := hk.row id r' hr'
      exact ⟨r, h1, h2.le, h2.same, h2.hs⟩
    rw [List.getElem?_set] at hB'
    by_cases e1 : b = b'
    · subst e1
      rw [if_pos rfl, if_pos hbl] at hB'
      cases hB'
      exact ⟨B, hb, by simp, fun h => by simp at h⟩
    · rw [if_neg e1] at hB'
      refine ⟨B', hB', Nat.le_refl _, fun _ h => ⟨h, ?_⟩⟩
      show (if b' = b then _ else _) = _
      rw [if_neg fun e => e1 e.symm]
  refine ⟨G', h.step hkeep ?_ ?_ hi.lt hi.kp hi.pr (h.shs.same rfl (fun b hb => (Gh.new_other G _ (Nat.ne_of_lt (h.lt b (by rw [hb]; simp)))).trans hb) fun b hb => alloc_old w _ (h.lt b (by rw [hb]; simp))) ?_ d⟩
  · intro b' B' hB' cs' hcs'
    rw [List.getElem?_set] at hB'
    by_cases e1 : b = b'
    · subst e1
      rw [if_pos rfl, if_pos hbl] at hB'
      cases hB'
      cases hcs'
      have hbk : G'.bk b = w.heap.size := by show (if b = b then _ else _) = _; rw [if_pos rfl]
      refine ⟨by rw [hbk]; exact Gh.new_same _ _ _, arr, e, by rw [hbk]; exact alloc_new _ _, hf.crs hkeep⟩
    · rw [if_neg e1] at hB'
      have hb' := h.box b' B' hB' cs' hcs'
      have hlt := h.lt (G.bk b') (by rw [hb'.1]; simp)
      refine hb'.keep hkeep ?_ (Gh.new_other _ _ (by omega)) (alloc_old _ _ hlt)
      show (if b' = b then _ else _) = _
      rw [if_neg fun e => e1 e.symm]
  · intro id r hr
    exact (h.row id r hr).keep hkeep rfl (fun b' hb' => by
      have hlt := h.lt b' (by rw [hb']; simp)
      show (G.new _ _).who b' = _
      rw [Gh.new_other _ _ (by omega), hb']) (fun b' hb' => alloc_old _ _ (h.lt b' (by rw [hb']; simp))) fun _ => rfl
  · intro B' hB'
    rw [List.getElem?_set, if_pos rfl, if_pos hbl] at hB'
    cases hB'
    refine ⟨Nat.le_refl _, fun _ _ => ?_⟩
    show _ = Value.pointer (some ⟨(if b = b then _ else _), 0, none⟩)
    rw [if_pos rfl]
end
end Go.Proofs.YtjjcjpmfkbfdfaaE


/- What Go's operations do, said of the evaluator's tables. Conditions: none. -/
set_option linter.unusedVariables false
namespace Go.Proofs.YtjjcjpmfkbfdfaaE
open Go Go.RowKit
def ZR (v : Value) (x : D) : Prop := ∀ w F, Rd w F v x
def EqF (P : Program) : Nat → List Field → List D → Prop
  | _, [], [] => True
  | o, f :: fs, .i _ _ :: ds => (f.name ≠ "_" ∧ f.offset = o ∧ ∃ k, P.underlying f.type = some (.int k)) ∧ EqF P (o + 1) fs ds
  | o, f :: fs, .b _ :: ds => (f.name ≠ "_" ∧ f.offset = o ∧ P.underlying f.type = some .bool) ∧ EqF P (o + 1) fs ds
  | _, _, _ => False
structure TyOk (P : Program) (V : Env) (t : Nat) (I : TyI) : Prop where
  info : ∃ i z, P.info? t = some i ∧ i.size = I.zc.length ∧ i.bytes ≤ 1024 ∧ i.zero = some z ∧
    ∃ arr : List Value, z.cells = arr.toArray ∧ F2 ZR arr I.zc ∧ (I.agg = true → z = .agg arr.toArray) ∧ (I.agg = false → ∃ c, arr = [c] ∧ z = c)
  ag : I.agg = true → ∃ fs : Array Field, P.underlying t = some (.struct fs) ∧ ∀ f ∈ fs.toList, ∃ i, P.info? f.type = some i
  st : ∀ (f o ft : Nat), I.fs[f]? = some (o, ft) → ∃ (fs : Array Field) (fl : Field), P.underlying t = some (.struct fs) ∧ fs[f]? = some fl ∧ fl.offset = o ∧ fl.type = ft
  sc : I.agg = false → I.zc.length = 1 ∧ ∃ d, P.underlying t = some d ∧ (∀ fs, d ≠ .struct fs) ∧ ∀ n e, d ≠ .array n e
  sl : ∀ k e, I.el = some (k, e) → P.underlying t = some (.slice e) ∧ ∃ J, look e V.tys = some J ∧ J.zc = k.cells k.z
  nu : ∀ k x, I.agg = false → I.zc = [.i k x] → P.underlying t = some (.int k)
  nb : ∀ x, I.agg = false → I.zc = [.b x] → P.underlying t = some .bool
  eq : flatTy I = true → P.stoodInHeld t = false ∧ P.eqGuardType P.depth t = false ∧ ∃ fs : Array Field, P.underlying t = some (.struct fs) ∧ EqF P 0 fs.toList I.zc
  hs : ∀ k n, I.zc = [.h k n] → n = 0 ∧ hk k = true ∧ P.underlying t = some (.slice (hE k)) ∧ ∃ J, look (hE k) V.tys = some J ∧ J.zc = hsh k
def TysOk (P : Program) (V : Env) : Prop := ∀ t I, look t V.tys = some I → TyOk P V t I
section
variable {P : Program} {V : Env} (hV : TysOk P V) {w0 : World} {prot : Pro} {S : St} {G : Gh} {a : Act} {w : World}
include hV
theorem run_size {t : Nat} {I : TyI} (hI : look t V.tys = some I) (w : World) : (Go.sizeOf t).run P w = .ok I.zc.length w := by
  obtain ⟨i, z, h1, h2, _⟩ := (hV t I hI).info
  simp [Go.sizeOf, typeInfo, h1, h2]
theorem run_agg {t : Nat} {I : TyI} (hI : look t V.tys = some I) (w : World) : (isAgg t).run P w = .ok I.agg w := by
  cases hg : I.agg with
  | true =>
    obtain ⟨fs, hf, _⟩ := (hV t I hI).ag hg
    simp [isAgg, run_underlying hf]
  | false =>
    obtain ⟨_, d, hd, h1, h2⟩ := (hV t I hI).sc hg
    simp only [isAgg, Sem.run_bind, run_underlying hd, Result.andThen_ok]
    cases d <;> first | rfl | exact absurd rfl (h1 _) | exact absurd rfl (h2 _ _)
theorem run_fieldAt {s f off ft : Nat} {I J : TyI} (hI : look s V.tys = some I) (hf : I.fs[f]? = some (off, ft)) (hJ : look ft V.tys = some J) (hz : J.zc.length ≠ 0) (g o : Nat) (w : World) :
    (Instr.fieldAt s (.pointer (some ⟨g, o, none⟩)) f).run P w = .ok (.pointer (some ⟨g, o + off, none⟩)) w := by
  obtain ⟨fs, fl, h1, h2, h3, h4⟩ := (hV s I hI).st f off ft hf
  subst h3; subst h4
  simp [Instr.fieldAt, run_underlying h1, h2, Instr.sureAddr, fieldPlace, run_size hV hJ, hz, add_lit]
def mkV (g : Bool) (xs : List Value) : Value := match g with
  | true => .agg xs.toArray
  | false => xs.headD undef
omit hV in
theorem VR.mk {rows : List Row} {g : Bool} {xs : List Value} {cs : List Cm} (h : F2 (CR w G rows) xs cs) (hg : g = false → xs.length = 1) : VR w G rows (mkV g xs) g cs := by
  cases g with
  | true => exact ⟨xs, rfl, h⟩
  | false =>
    have hl := hg rfl
    cases h with
    | nil => simp at hl
    | cons h1 h2 => cases h2 with
      | nil => exact ⟨_, rfl, h1⟩
      | cons => simp at hl
omit hV in
theorem VR.open {rows : List Row} {v : Value} {g : Bool} {cs : List Cm} (h : VR w G rows v g cs) : ∃ xs, v = mkV g xs ∧ F2 (CR w G rows) xs cs ∧ v.cells = xs.toArray ∧ (g = false → xs.length = 1) := by
  cases g with
  | true => obtain ⟨arr, rfl, h2⟩ := h; exact ⟨arr, rfl, h2, rfl, by simp⟩
  | false =>
    obtain ⟨c, rfl, h2⟩ := h
    refine ⟨[v], rfl, .cons h2 .nil, ?_, fun _ => rfl⟩
    cases c with
    | d x => rw [h2.cells]
    | ref id ep => rw [h2.2.1]
    | dead => rw [h2.2]
theorem run_loadAt {t : Nat} {I : TyI} (hI : look t V.tys = some I) (g o : Nat) (xs : List Value) (hl : xs.length = I.zc.length)
    (hx : ∀ j u, xs[j]? = some u → w.cell? ⟨g, o + j, none⟩ = some u) : (Instr.loadAt t (.pointer (some ⟨g, o, none⟩))).run P w = .ok (mkV I.agg xs) w := by
  have hx' : ∀ j u, xs[j]? = some u → w.cell? ((⟨g, o, none⟩ : Addr).add j) = some u := fun j u h => by rw [add_lit]; exact hx j u h
  have hc := run_loadCells_list (P := P) w ⟨g, o, none⟩ xs hx'
  cases hg : I.agg with
  | true =>
    simp [Instr.loadAt, Instr.sureAddr, loadVar, run_agg hV hI, hg, run_size hV hI, ← hl, hc, mkV]
  | false =>
    have h1 := ((hV t I hI).sc hg).1
    rw [h1] at hl
    obtain ⟨v, rfl⟩ : ∃ v, xs = [v] := by
      cases xs with
      | nil => simp at hl
      | cons v l => cases l with
        | nil => exact ⟨v, rfl⟩
        | cons => simp at hl
    have := hx 0 v rfl
    simp only [Nat.add_zero] at this
    simp [Instr.loadAt, Instr.sureAddr, loadVar, run_agg hV hI, hg, load, Sem.run, this, mkV]
theorem opnd_tr (h : Inv w0 prot S G a w) {ty : Nat} {x : Operand} {t : T} (ho : S.opnd V ty x = some t) : TR w G S.rows S.boxes (a.eval x) t := by
  have _ := hV
  have key : ∀ y, opC V ty y = some t → TR w G S.rows S.boxes (a.eval y) t := by
    intro y hy
    unfold opC at hy
    split at hy
    · simp only [Option.some.injEq] at hy; subst hy; exact ⟨_, rfl, Rd.i _ _⟩
    · simp only [Option.some.injEq] at hy; subst hy; exact ⟨_, rfl, Rd.b _⟩
    · split at hy
      · simp only [Option.some.injEq] at hy; subst hy; exact ⟨_, rfl, Rd.nil _ _⟩
      · simp only [Option.some.injEq] at hy; subst hy; exact ⟨_, rfl, .h _ _ _ (.inl ⟨⟨_, rfl⟩, rfl⟩)⟩
      · simp at hy
    · simp only [Option.some.injEq] at hy; subst hy; trivial
    · simp only [Option.some.injEq] at hy; subst hy; rfl
    · simp at hy
  cases x with
  | tmp i => exact h.slot _ _ (by rw [← opnd_tmp (V := V) (ty := ty)]; exact ho)
  | const v => exact key _ ho
  | func f => exact key _ ho
  | global g => simp [St.opnd] at ho
theorem opnd_int (h : Inv w0 prot S G a w) {ty : Nat} {x : Operand} {k : IntKind} {n : Int} (ho : S.opnd V ty x = some (.v false [.d (.i k n)])) : a.eval x = .int k n := by
  obtain ⟨c, hc, hr⟩ := opnd_tr hV h ho
  cases hc
  exact Rd.int hr
theorem opnd_bool (h : Inv w0 prot S G a w) {ty : Nat} {x : Operand} {n : Bool} (ho : S.opnd V ty x = some (.v false [.d (.b n)])) : a.eval x = .bool n := by
  obtain ⟨c, hc, hr⟩ := opnd_tr hV h ho
  cases hc
  exact Rd.bool hr
theorem opnd_row (h : Inv w0 prot S G a w) {ty : Nat} {x : Operand} {k : RK} {l : List k.El} (ho : S.opnd V ty x = some (.v false [.d (.r k l)])) : Rd w G.F (a.eval x) (.r k l) := by
  obtain ⟨c, hc, hr⟩ := opnd_tr hV h ho
  cases hc
  exact hr
theorem opnd_h (h : Inv w0 prot S G a w) {ty : Nat} {x : Operand} {k : RK} {n : Nat} (ho : S.opnd V ty x = some (.v false [.d (.h k n)])) : RdH G.F (a.eval x) k n := by
  obtain ⟨c, hc, hr⟩ := opnd_tr hV h ho
  cases hc
  exact hr.sh
theorem opnd_vr (h : Inv w0 prot S G a w) {ty : Nat} {x : Operand} {g : Bool} {cs : List Cm} (ho : S.opnd V ty x = some (.v g cs)) : VR w G S.rows (a.eval x) g cs := opnd_tr hV h ho
omit hV in
theorem live_spec {id ep : Nat} {c : RC} (h : S.live id ep = some c) : ∃ r, S.rows[id]? = some r ∧ ep = r.ep ∧ r.c = some c := by
  unfold St.live at h
  split at h
  · rename_i r hr
    split at h
    · exact ⟨r, hr, ‹_›, h⟩
    · simp at h
  · simp at h
theorem own_of (h : Inv w0 prot S G a w) {id ep : Nat} {c : RC} (hl : S.live id ep = some c) {v : Value} (hv : CR w G S.rows v (.ref id ep)) :
    v = G.hd id ∧ ∃ xs B, OwnX w G.F v c xs B ∧ B.Nodup ∧ (∀ b ∈ B, G.who b = .rw id) ∧ InnOk G id c xs := by
  have _ := hV
  obtain ⟨r, hr, he, hc⟩ := live_spec hl
  have := (hv.2.2 r hr).2 he (by simp [hc])
  subst this
  exact ⟨rfl, h.row id r hr c hc⟩
omit hV in
theorem OwnX.plain {F : HF → Prop} {v : Value} {c : RC} {xs : List Value} {B : List Nat} (h : OwnX w F v c xs B) (hd : c.m.d.getD 0 = 0) : F2 (Rd w F) xs (flat c.k c.l) ∧ B = obB c v := by
  obtain ⟨_, Bi, h2, rfl⟩ := h
  have : c.dn = 0 := by unfold RC.dn; rw [hd, Nat.zero_mul]
  rw [this, DCs.zero] at h2
  obtain ⟨h2, rfl⟩ := h2
  exact ⟨h2, by simp⟩
theorem elems_shape (h : Inv w0 prot S G a w) {v : Value} {t : T} {k : RK} {l : List k.El} (ht : TR w G S.rows S.boxes v t) (he : S.elems t = some ⟨k, l⟩) :
    ((∃ x, v = .slice x 0 0) ∧ l = []) ∨ ∃ g off cap, v = .slice (some ⟨g, off, none⟩) l.length cap ∧ l.length ≤ cap := by
  unfold St.elems at he
  split at he
  · rename_i k' l'
    cases he
    obtain ⟨c, hc, hr⟩ := ht
    cases hc
    rcases Rd.row_lies hr with h1 | ⟨g, off, cap, xs, h1, h2, h3, h4⟩
    · exact .inl h1
    · exact .inr ⟨g, off, cap, h1, h3⟩
  · rename_i id ep
    split at he
    · rename_i c hc
      cases he
      obtain ⟨c', hc', hr⟩ := ht
      cases hc'
      obtain ⟨_, xs, B, ho, _⟩ := own_of hV h hc hr
      rcases ho.out.lies.2 with h1 | ⟨g, off, cap, h1, h2, _⟩
      · exact .inl h1
      · exact .inr ⟨g, off, cap, h1, h2⟩
    · simp at he
  · simp at he
theorem elems_lies (h : Inv w0 prot S G a w) {v : Value} {t : T} {k : RK} {l : List k.El} (ht : TR w G S.rows S.boxes v t) (he : S.elems t = some ⟨k, l⟩) (hd : deepX S t = none) :
    ((∃ x, v = .slice x 0 0) ∧ l = []) ∨ ∃ g off cap xs, v = .slice (some ⟨g, off, none⟩) l.length cap ∧ l.length ≤ cap ∧ Lies w G.F g off k l xs := by
  unfold St.elems at he
  split at he
  · rename_i k' l'
    cases he
    obtain ⟨c, hc, hr⟩ := ht
    cases hc
    rcases Rd.row_lies hr with h1 | ⟨g, off, cap, xs, h1, h2, h3, h4⟩
    · exact .inl h1
    · exact .inr ⟨g, off, cap, xs, h1, h3, h4⟩
  · rename_i id ep
    split at he
    · rename_i c hc
      cases he
      obtain ⟨c', hc', hr⟩ := ht
      cases hc'
      obtain ⟨_, xs, B, ho, _⟩ := own_of hV h hc hr
      have hdn : c.m.d = none := by
        simp only [deepX, hc] at hd
        split at hd
        · simp at hd
        · assumption
      rcases ho.out.lies.2 with h1 | ⟨g, off, cap, h1, h2, h3⟩
      · exact .inl h1
      · exact .inr ⟨g, off, cap, xs, h1, h2, fun j u hu => by rw [add_lit]; exact h3 j u hu, (ho.plain (by rw [hdn]; rfl)).1⟩
    · simp at he
  · simp at he
theorem elems_val (h : Inv w0 prot S G a w) {v : Value} {t : T} {k : RK} {l : List k.El} (ht : TR w G S.rows S.boxes v t) (he : S.elems t = some ⟨k, l⟩) : ∃ b cap, v = .slice b l.length cap := by
  rcases elems_shape hV h ht he with ⟨⟨x, rfl⟩, rfl⟩ | ⟨g, off, cap, rfl, _⟩
  · exact ⟨_, _, rfl⟩
  · exact ⟨_, _, rfl⟩
end
end Go.Proofs.YtjjcjpmfkbfdfaaE


/- What yields one value: the evaluator's answer is Go's. Conditions: none. -/
set_option linter.unusedVariables false
namespace Go.Proofs.YtjjcjpmfkbfdfaaE
open Go Go.RowKit
theorem one_spec {x : Option (Option Prop × T)} {p : Option Prop} {out : Outc} (h : one x = some (p, out)) : ∃ t, x = some (p, t) ∧ out = val t := by
  unfold one at h
  split at h
  · cases h; exact ⟨_, rfl, rfl⟩
  · simp at h
theorem one_map {x : Option T} {p : Option Prop} {out : Outc} (h : one (x.map (none, ·)) = some (p, out)) : ∃ t, x = some t ∧ out = val t := by
  obtain ⟨t, h1, h2⟩ := one_spec h
  cases x with
  | none => simp at h1
  | some y => simp at h1; exact ⟨t, by rw [h1.2], h2⟩
theorem box_spec {S : St} {b ep : Nat} {cs : List Cm} (h : S.box b ep = some cs) : ∃ B, S.boxes[b]? = some B ∧ ep = B.ep ∧ B.c = some cs := by
  unfold St.box at h
  split at h
  · rename_i B hB
    split at h
    · exact ⟨B, hB, ‹_›, h⟩
    · simp at h
  · simp at h
theorem cut_flat (k : RK) (l : List k.El) (i off n : Nat) (hi : i < l.length) (h : off + n ≤ k.size) : cutC (flat k l) (i * k.size + off) n = cutC (k.cells (k.at l i)) off n := by
  rw [← flat_at k l i hi]
  simp only [cutC, List.drop_take, List.take_take, List.drop_drop]
  rw [Nat.min_eq_left (by omega)]
theorem cut_get {α : Type} {xs : List α} {o n j : Nat} {u : α} (h : (cutC xs o n)[j]? = some u) : xs[o + j]? = some u := by
  simp only [cutC, List.getElem?_take, List.getElem?_drop] at h
  split at h
  · exact h
  · simp at h
theorem idx_le {i n s : Nat} (h : i < n) : i * s + s ≤ n * s := by
  have := Nat.mul_le_mul_right s (Nat.succ_le_of_lt h)
  rwa [Nat.succ_mul] at this
section
variable {P : Program} {V : Env} (hV : TysOk P V) {w0 : World} {prot : Pro} {S : St} {G : Gh} {a : Act} {w : World}
include hV
theorem load_ok (h : Inv w0 prot S G a w) {t : Nat} {I : TyI} (hI : look t V.tys = some I) {v : Value} {q : T} {p : Option Prop} {r : T} (hq : TR w G S.rows S.boxes v q)
    (hl : loadT S I.agg I.zc.length q = some (p, r)) (hp : ∀ z, p = some z → z) : ∃ u, (Instr.loadAt t v).run P w = .ok u w ∧ TR w G S.rows S.boxes u r := by
  have hsc : I.agg = false → I.zc.length = 1 := fun hg => ((hV t I hI).sc hg).1
  unfold loadT at hl
  split at hl
  · rename_i b ep off
    split at hl
    · rename_i cs hcs
      split at hl
      · cases hl
        obtain ⟨B, hB, he, hc⟩ := box_spec hcs
        have hv := (hq B hB).2 he (by simp [hc])
        subst hv
        obtain ⟨_, arr, ty, hh, hf⟩ := h.box b B hB cs hc
        have hlen := hf.len
        have hxl : (cutC arr off I.zc.length).length = I.zc.length := cutC_len _ _ _ (by omega)
        refine ⟨_, run_loadAt hV hI (G.bk b) off (cutC arr off I.zc.length) hxl fun j u hu => ?_, VR.mk (hf.cut off I.zc.length) fun hg => by rw [hxl, hsc hg]⟩
        rw [cell_of_row _ _ _ _ _ _ hh]
        simpa using cut_get hu
      · simp at hl
    · simp at hl
  · rename_i k l i off
    split at hl
    · rename_i hle
      cases hl
      obtain ⟨hi, g, o, n, cap, hr, rfl⟩ := hq
      rcases Rd.row_lies hr with ⟨_, h1⟩ | ⟨g', o', cap', xs, h1, _, _, h4, h5⟩
      · rw [h1] at hi; simp at hi
      · cases h1
        have hlen := h5.len
        rw [flat_len] at hlen
        have hidx := idx_le (s := k.size) hi
        have hxl : (cutC xs (i * k.size + off) I.zc.length).length = I.zc.length := cutC_len _ _ _ (by omega)
        refine ⟨_, run_loadAt hV hI g (o + i * k.size + off) (cutC xs (i * k.size + off) I.zc.length) hxl fun j u hu => ?_, VR.mk ?_ fun hg => by rw [hxl, hsc hg]⟩
        · have := h4 _ _ (cut_get hu)
          rw [add_lit] at this
          rw [← this]; congr 2; omega
        · have := h5.cut (i * k.size + off) I.zc.length
          rw [cut_flat k l i off _ hi hle] at this
          exact F2.map (this.mono fun _ _ hh => hh)
    · simp at hl
  · rename_i id ep i off
    split at hl
    · rename_i c hc
      split at hl
      · rename_i hle
        obtain ⟨r0, hr0, he, hrc⟩ := live_spec hc
        obtain ⟨hi, g, n, cap, hh, rfl⟩ := (hq r0 hr0).2 he c hrc
        obtain ⟨xs, B, hown, hBn, hBt, hin⟩ := h.row id r0 hr0 c hrc
        obtain ⟨Bi, hdc, _⟩ := hown.dcs
        obtain ⟨hxlen, hlies⟩ := hown.out.lies
        rcases hlies with ⟨_, h1⟩ | ⟨g', off', cap', h1, _, h4⟩
        · rw [h1] at hi; simp at hi
        · rw [h1] at hh
          cases hh
          have hidx := idx_le (s := c.k.size) hi
          have hxl : (cutC xs (i * c.k.size + off) I.zc.length).length = I.zc.length := cutC_len _ _ _ (by omega)
          have hrun := run_loadAt (P := P) (w := w) hV hI g (i * c.k.size + off) (cutC xs (i * c.k.size + off) I.zc.length) hxl fun j u hu => by
            have := h4 _ _ (cut_get hu)
            rw [Nat.zero_add] at this
            exact this
          have key : c.dn ≤ i * c.k.size + off ∨ (cutC (c.k.cells (c.k.at c.l i)) off I.zc.length).any isRow = false → ∃ u, (Instr.loadAt t (.pointer (some ⟨g, i * c.k.size + off, none⟩))).run P w = .ok u w ∧ TR w G S.rows S.boxes u (dat I.agg (cutC (c.k.cells (c.k.at c.l i)) off I.zc.length)) := fun hcond => by
            refine ⟨_, hrun, VR.mk ?_ fun hg => by rw [hxl, hsc hg]⟩
            have := hdc.cut (i * c.k.size + off) I.zc.length (hcond.imp (fun h => h) fun h => by rw [cut_flat c.k c.l i off _ hi hle]; exact h)
            rw [cut_flat c.k c.l i off _ hi hle] at this
            exact F2.map (this.mono fun _ _ hh => hh)
          split at hl
          · rename_i hd
            cases hl
            exact key (.inl (by unfold RC.dn; rw [hd]; simp))
          · rename_i q hd
            split at hl
            · rename_i hany
              cases hl
              exact key (.inr hany)
            · rename_i hany
              split at hl
              · rename_i hg1 hn1
                cases hl
                have hiq : i < q := hp _ rfl
                have hoff : off < c.k.size := by omega
                have hdn : i * c.k.size + off < c.dn := by
                  unfold RC.dn
                  rw [hd]
                  have := idx_le (s := c.k.size) hiq
                  simp only [Option.getD_some]
                  omega
                -- the cell is a row
                obtain ⟨k', l', hcell⟩ : ∃ k' l', (c.k.cells (c.k.at c.l i))[off]? = some (.r k' l') := by
                  rw [hn1, List.any_eq_true] at hany
                  obtain ⟨x, hx, hxr⟩ := hany
                  simp only [cutC] at hx
                  obtain ⟨j, hj⟩ := List.mem_iff_getElem?.1 hx
                  rw [List.getElem?_take] at hj
                  split at hj
                  · rw [List.getElem?_drop] at hj
                    have hj0 : j = 0 := by omega
                    subst hj0
                    cases x with
                    | r k' l' => exact ⟨k', l', by simpa using hj⟩
                    | i _ _ => simp [isRow] at hxr
                    | b _ => simp [isRow] at hxr
                    | h _ _ => simp [isRow] at hxr
                  · simp at hj
                have hflat : (flat c.k c.l)[i * c.k.size + off]? = some (.r k' l') := by
                  have h1 := flat_at c.k c.l i hi
                  rw [← h1, List.getElem?_take, if_pos hoff, List.getElem?_drop] at hcell
                  exact hcell
                have hxs := hin _ hdn k' l' hflat
                refine ⟨_, hrun, fun r1 hr1 => ?_⟩
                rw [hr0] at hr1
                cases hr1
                refine ⟨by omega, fun _ c1 hc1 => ?_⟩
                rw [hrc] at hc1
                cases hc1
                refine ⟨Nat.le_refl _, fun _ => ⟨hdn, ?_⟩⟩
                rw [hg1, hn1]
                show (cutC xs (i * c.k.size + off) 1).headD undef = _
                have : (cutC xs (i * c.k.size + off) 1)[0]? = some (G.inn id (i * c.k.size + off)) := by
                  simp only [cutC, List.getElem?_take, List.getElem?_drop]
                  simpa using hxs
                cases hh : cutC xs (i * c.k.size + off) 1 with
                | nil => rw [hh] at this; simp at this
                | cons y ys => rw [hh] at this; simpa using this
              · cases hl
                have hqi : q ≤ i := hp _ rfl
                refine key (.inl ?_)
                unfold RC.dn
                rw [hd]
                have := Nat.mul_le_mul_right c.k.size hqi
                simp only [Option.getD_some]
                omega
      · simp at hl
    · simp at hl
  · simp at hl
theorem index_h (h : Inv w0 prot S G a w) {t : Nat} {I : TyI} {k : RK} {z : Nat} (hI : look t V.tys = some I) (hz : I.zc = [.h k z]) {v : Value} {m : Nat} {kk : IntKind} {i : Int} (hv : RdH G.F v k m) (hp : 0 ≤ i ∧ i < m) :
    ∃ u, (Instr.indexAt t v (.int kk i)).run P w = .ok u w ∧ TR w G S.rows S.boxes u (.hp k 0) := by
  have _ := h
  obtain ⟨_, hk, hu, J, hJ, hzz⟩ := (hV t I hI).hs k z hz
  have hes : P.elem t = hE k := by simp [Program.elem, hu]
  have hsz : J.zc.length = k.size := by rw [hzz, hsh_len hk]
  rcases hv with ⟨⟨xx, rfl⟩, hn⟩ | ⟨g, j, cap, s, rfl, hg, hc, hb, _⟩
  · omega
  · refine ⟨.pointer (some ⟨g, j * k.size + i.toNat * k.size, none⟩), ?_, g, j + i.toNat, s, hg, ?_, by rw [Nat.add_mul]; rfl⟩
    · rw [run_indexAt_slice w t _ m cap kk i (by rw [hes]; exact hu), if_pos hp, hes, run_size hV hJ, hsz]
      simp [add_lit]
    · refine Nat.le_trans (Nat.mul_le_mul_right _ ?_) hb
      omega
theorem index_ok (h : Inv w0 prot S G a w) {t : Nat} {I : TyI} {k : RK} {e : Nat} (hI : look t V.tys = some I) (hel : I.el = some (k, e)) {v : Value} {q : T} {p : Prop} {r : T} {kk : IntKind} {i : Int} (hq : TR w G S.rows S.boxes v q)
    (hkk : ∀ k' l, S.elems q = some ⟨k', l⟩ → k' = k) (hl : indexT S q i = some (some p, r)) (hp : p) : ∃ u, (Instr.indexAt t v (.int kk i)).run P w = .ok u w ∧ TR w G S.rows S.boxes u r := by
  obtain ⟨hu, J, hJ, hz⟩ := (hV t I hI).sl k e hel
  have hes : P.elem t = e := by simp [Program.elem, hu]
  have hsz : J.zc.length = k.size := by rw [hz, cells_len]
  have run : ∀ (g o len cap : Nat), 0 ≤ i ∧ i < len → (Instr.indexAt t (.slice (some ⟨g, o, none⟩) len cap) (.int kk i)).run P w = .ok (.pointer (some ⟨g, o + i.toNat * k.size, none⟩)) w := by
    intro g o len cap hi
    rw [run_indexAt_slice w t _ len cap kk i (by rw [hes]; exact hu), if_pos hi, hes, run_size hV hJ, hsz]
    simp [add_lit]
  unfold indexT at hl
  split at hl
  · rename_i k' l'
    cases hl
    obtain ⟨c, hc, hr⟩ := hq
    cases hc
    have hkq : k' = k := hkk k' l' rfl
    subst hkq
    have hi : i.toNat < l'.length := by omega
    rcases Rd.row_lies hr with ⟨_, rfl⟩ | ⟨g, o, cap, xs, rfl, _⟩
    · simp at hi
    · exact ⟨_, run g o _ _ hp, hi, g, o, _, _, hr, by simp⟩
  · rename_i id ep
    split at hl
    · rename_i c hc
      split at hl
      case h_2 => simp at hl
      rename_i hpo
      cases hl
      obtain ⟨c', hc', hr⟩ := hq
      cases hc'
      have hkq : c.k = k := hkk c.k c.l (by simp [St.elems, hc])
      obtain ⟨hv, xs, B, ho, _⟩ := own_of hV h hc hr
      have hi : i.toNat < c.l.length := by omega
      obtain ⟨r0, hr0, he, hrc⟩ := live_spec hc
      have ho1 := ho.out
      unfold outC at ho1
      rw [hpo] at ho1
      rcases ho1.2 with ⟨_, h2⟩ | ⟨g, cap, cur, h1, _⟩
      · omega
      · subst h1
        refine ⟨_, run g 0 _ _ hp, fun r1 hr1 => ?_⟩
        rw [hr0] at hr1
        cases hr1
        refine ⟨by omega, fun _ c1 hc1 => ?_⟩
        rw [hrc] at hc1
        cases hc1
        exact ⟨hi, g, _, _, hv.symm, by rw [hkq]; simp⟩
    · simp at hl
  · simp at hl
end
end Go.Proofs.YtjjcjpmfkbfdfaaE


/- What yields one value, operation by operation: the evaluator's answer is Go's. Conditions: none. -/
set_option linter.unusedVariables false
namespace Go.Proofs.YtjjcjpmfkbfdfaaE
open Go Go.RowKit
theorem exec_val {P : Program} {ρ : Operand → Value} {o : Oper} {s : Sem Value} {v : Value} {w w' : World} (h : execOp ρ o = (do let x ← s; pure (Next.value x))) (hr : s.run P w = .ok v w') :
    (execOp ρ o).run P w = .ok (.value v) w' := by
  rw [h]; simp [hr]
theorem run_newRow' {P : Program} (e : TypeId) (cells : Array Value) (w : World) : (Go.newRow e cells).run P w = .ok ⟨w.heap.size, 0, none⟩ (w.alloc (.cells cells e (0, 0))) := rfl
theorem foldl_put (off : Nat) : ∀ (l : List Value) (n : Nat) (cs : Array Value), off + n + l.length ≤ cs.size →
    ((l.zipIdx n).foldl (fun (cs : Array Value) (p : Value × Nat) => cs.setIfInBounds (off + p.2) p.1) cs).toList = putC cs.toList (off + n) l
  | [], n, cs, h => by simp [putC]
  | x :: l, n, cs, h => by
    simp only [List.length_cons] at h
    rw [List.zipIdx_cons, List.foldl_cons, foldl_put off l (n + 1) _ (by simp; omega)]
    simp only [putC, Array.toList_setIfInBounds]
    rw [List.set_eq_take_append_cons_drop, if_pos (by simp; omega)]
    have e1 : (cs.toList.take (off + n)).length = off + n := by simp; omega
    have e2 : (cs.toList.take (off + n) ++ x :: cs.toList.drop (off + n + 1)).take (off + (n + 1)) = cs.toList.take (off + n) ++ [x] := by
      rw [show off + (n + 1) = (off + n) + 1 by omega, List.take_append, e1]
      rw [List.take_of_length_le (by omega : (cs.toList.take (off + n)).length ≤ off + n + 1)]; simp
    have e3 : (cs.toList.take (off + n) ++ x :: cs.toList.drop (off + n + 1)).drop (off + (n + 1) + l.length) = cs.toList.drop (off + n + (x :: l).length) := by
      rw [List.drop_append, e1, List.drop_eq_nil_of_le (by omega), List.nil_append]
      rw [show off + (n + 1) + l.length - (off + n) = l.length + 1 by omega, List.drop_succ_cons, List.drop_drop]
      congr 1; simp; omega
    rw [e2, e3]; simp
theorem fill_step (place : Nat → Option (Nat × Nat)) (cells : Array Value) (i off size : Nat) (v : Value) (rest : List (Nat × Value)) (hp : place i = some (off, size)) (hs : v.cells.size = size) (ho : off + size ≤ cells.size) :
    Instr.fill place cells ((i, v) :: rest) = Instr.fill place (putC cells.toList off v.cells.toList).toArray rest := by
  rw [Instr.fill.eq_2, hp]
  have h1 : (decide (v.cells.size ≠ size) || decide (off + v.cells.size > cells.size)) = false := by simp [hs]; omega
  dsimp only
  rw [h1]
  simp only [Bool.false_eq_true, if_false]
  congr 1
  have := foldl_put off v.cells.toList 0 cells (by simp; omega)
  rw [Nat.add_zero] at this
  rw [← this, ← Array.foldl_toList]
  simp
section
variable {P : Program} {V : Env} (hV : TysOk P V) {w0 : World} {prot : Pro} {S : St} {G : Gh} {a : Act} {w : World}
include hV
omit hV in
theorem fill_gen {G' : Gh} {rows' : List Row} (ho : ∀ (ty : Nat) (x : Operand) (g : Bool) (xs : List Cm), S.opnd V ty x = some (.v g xs) → VR w G' rows' (a.eval x) g xs) (fs : List (Nat × Nat)) (place : Nat → Option (Nat × Nat)) (hpl : ∀ (f off ft : Nat) (J : TyI), fs[f]? = some (off, ft) → look ft V.tys = some J → place f = some (off, J.zc.length)) :
    ∀ (ps : List (Nat × Operand)) (cs : List Cm) (arr : List Value) (r : List Cm), F2 (CR w G' rows') arr cs → buildT V S fs ps cs = some r →
      ∃ arr', Instr.fill place arr.toArray (ps.map fun p => (p.1, a.eval p.2)) = some (List.toArray arr') ∧ F2 (CR w G' rows') arr' r
  | [], cs, arr, r, hf, hb => by
    simp only [buildT, Option.some.injEq] at hb
    subst hb
    exact ⟨arr, by simp [Instr.fill.eq_1], hf⟩
  | (f, x) :: ps, cs, arr, r, hf, hb => by
    simp only [buildT] at hb
    split at hb
    · rename_i off ft hfs
      split at hb
      · rename_i J g xs hJ hx
        split at hb
        · rename_i hc
          obtain ⟨ys, hv, hys, hcl, _⟩ := VR.open (ho _ _ _ _ hx)
          have hyl := hys.len
          have hal := hf.len
          obtain ⟨arr', h1, h2⟩ := fill_gen ho fs place hpl ps _ _ r (hf.put hys off) hb
          refine ⟨arr', ?_, h2⟩
          rw [List.map_cons, fill_step place arr.toArray f off J.zc.length (a.eval x) _ (hpl f off ft J hfs hJ) (by rw [hcl]; simp; omega) (by simp; omega), hcl]
          exact h1
        · simp at hb
      · simp at hb
    · simp at hb
theorem build_gen (w : World) {t : Nat} {I : TyI} (hI : look t V.tys = some I) (hg : I.agg = true) (ps : Array (Nat × Operand)) : ∃ arr0 : List Value, F2 ZR arr0 I.zc ∧
    ∀ (G' : Gh) (rows' : List Row) (S : St) (a : Act), (∀ (ty : Nat) (x : Operand) (g : Bool) (xs : List Cm), S.opnd V ty x = some (.v g xs) → VR w G' rows' (a.eval x) g xs) → ∀ (cs r : List Cm), F2 (CR w G' rows') arr0 cs → buildT V S I.fs ps.toList cs = some r →
      ∃ v, (Instr.build t (ps.map fun p => (p.1, a.eval p.2))).run P w = .ok v w ∧ VR w G' rows' v true r := by
  obtain ⟨i, z, h1, h2, h3, h4, arr, h5, h6, h7, _⟩ := (hV t I hI).info
  obtain ⟨fs, hu, hall⟩ := (hV t I hI).ag hg
  have hz := h7 hg
  -- the fields' places
  have hm : ∃ places, fs.toList.mapM (fun f => (P.info? f.type).map fun i => (f.offset, i.size)) = some places ∧ places.length = fs.toList.length ∧ ∀ (j : Nat) (f : Field), fs.toList[j]? = some f → ∀ i, P.info? f.type = some i → places[j]? = some (f.offset, i.size) := by
    generalize fs.toList = l at hall
    induction l with
    | nil => exact ⟨[], rfl, rfl, fun j f h => by simp at h⟩
    | cons f l ih =>
      obtain ⟨i, hi⟩ := hall f (by simp)
      obtain ⟨pl, hp, hl, hg⟩ := ih fun f hf => hall f (by simp [hf])
      refine ⟨(f.offset, i.size) :: pl, by simp [List.mapM_cons, hi, hp], by simp [hl], fun j f' hf' i' hi' => ?_⟩
      cases j with
      | zero => simp at hf'; subst hf'; rw [hi] at hi'; cases hi'; rfl
      | succ j => simpa using hg j f' (by simpa using hf') i' hi'
  obtain ⟨places, hp, hpl, hpg⟩ := hm
  refine ⟨arr, h6, fun G' rows' S a ho cs r hcs hb => ?_⟩
  obtain ⟨arr', h8, h9⟩ := fill_gen ho I.fs (fun f => places.toArray[f]?) (fun f off ft J hf hJ => by
    obtain ⟨fs', fl, hu', hfl, ho, ht⟩ := (hV t I hI).st f off ft hf
    rw [hu] at hu'
    cases hu'
    obtain ⟨i', z', hi', hs', _⟩ := (hV ft J hJ).info
    have := hpg f fl (by simpa using hfl) i' (by rw [ht]; exact hi')
    rw [ho, hs'] at this
    simpa using this) ps.toList cs arr r hcs hb
  refine ⟨_, run_build w t _ arr'.toArray ?_, arr', rfl, h9⟩
  unfold Program.built
  rw [h1, hu]
  simp only [h4, hp, h5]
  rw [Array.toList_map]
  exact h8
theorem build_ok (h : Inv w0 prot S G a w) {t : Nat} {I : TyI} (hI : look t V.tys = some I) (hg : I.agg = true) (ps : Array (Nat × Operand)) (r : List Cm) (hb : buildT V S I.fs ps.toList (I.zc.map .d) = some r) :
    ∃ v, (Instr.build t (ps.map fun p => (p.1, a.eval p.2))).run P w = .ok v w ∧ VR w G S.rows v true r := by
  obtain ⟨arr0, h1, h2⟩ := build_gen hV w hI hg ps
  exact h2 G S.rows S a (fun ty x g xs hx => opnd_vr hV h hx) (I.zc.map .d) r (F2.map (h1.mono fun _ _ hz => hz w G.F)) hb
omit hV in
theorem datas_crs {rows : List Row} {xs : List Value} {cs : List Cm} (h : F2 (CR w G rows) xs cs) : ∀ {ds : List D}, datas cs = some ds → F2 (Rd w G.F) xs ds := by
  induction h with
  | nil => intro ds hd; simp [datas] at hd; subst hd; exact .nil
  | @cons v c l m h1 _ ih =>
    intro ds hd
    cases c with
    | d x =>
      simp only [datas] at hd
      split at hd
      · rename_i ys hys
        cases hd
        exact .cons h1 (ih hys)
      · simp at hd
    | ref id ep => simp [datas] at hd
    | dead => simp [datas] at hd
theorem elems_fill (h : Inv w0 prot S G a w) (k : RK) (et : Nat) : ∀ (ps : List (Nat × Operand)) (j : Nat) (l l0 : List k.El) (arr : List Value), elemsT V S k et j ps = some l → j = l0.length →
    F2 (Rd w G.F) (arr.take (j * k.size)) (flat k l0) → arr.length = (j + l.length) * k.size →
      ∃ arr', Instr.fill (fun i => some (i * k.size, k.size)) arr.toArray (ps.map fun p => (p.1, a.eval p.2)) = some (List.toArray arr') ∧ F2 (Rd w G.F) arr' (flat k (l0 ++ l))
  | [], j, l, l0, arr, he, hj, hf, hl => by
    simp only [elemsT, Option.some.injEq] at he
    subst he
    simp only [List.length_nil, Nat.add_zero] at hl
    rw [List.take_of_length_le (Nat.le_of_eq hl)] at hf
    exact ⟨arr, by simp [Instr.fill.eq_1], by simpa using hf⟩
  | (i, x) :: ps, j, l, l0, arr, he, hj, hf, hl => by
    simp only [elemsT] at he
    split at he
    · rename_i hij
      subst hij
      split at he
      · rename_i g cs hx
        split at he
        · rename_i ds hds
          split at he
          · rename_i e es hmk hes
            cases he
            obtain ⟨ys, hv, hys, hcl, _⟩ := VR.open (opnd_vr hV h hx)
            have hyd := datas_crs hys hds
            rw [← mk_cells k ds e hmk] at hyd
            have hyl := hyd.len
            rw [cells_len] at hyl
            simp only [List.length_cons] at hl
            have hl2 : arr.length = i * k.size + k.size + es.length * k.size := by rw [hl, Nat.add_mul, Nat.add_mul]; omega
            have hpl : (putC arr (i * k.size) ys).length = arr.length := putC_len _ _ _ (by omega)
            obtain ⟨arr', h1, h2⟩ := elems_fill h k et ps (i + 1) es (l0 ++ [e]) (putC arr (i * k.size) ys) hes (by simp [hj]) (by
              have e1 : (putC arr (i * k.size) ys).take ((i + 1) * k.size) = arr.take (i * k.size) ++ ys := by
                have hlen : (arr.take (i * k.size) ++ ys).length = (i + 1) * k.size := by simp [hyl, Nat.add_mul]; omega
                rw [putC, ← hlen, List.take_left]
              rw [e1, flat_append]
              exact hf.app (by simpa [flat] using hyd)) (by rw [hpl, hl2, Nat.add_mul, Nat.add_mul]; omega)
            refine ⟨arr', ?_, by simpa using h2⟩
            rw [List.map_cons, fill_step _ arr.toArray i (i * k.size) k.size (a.eval x) _ rfl (by rw [hcl]; simp [hyl]) (by simp; omega), hcl]
            exact h1
          · simp at he
        · simp at he
      · simp at he
    · simp at he
theorem buildSlice_ok (h : Inv w0 prot S G a w) {t : Nat} {I : TyI} {k : RK} {e : Nat} (hI : look t V.tys = some I) (hel : I.el = some (k, e)) (n : Nat) (ps : Array (Nat × Operand)) (l : List k.El)
    (hb : elemsT V S k e 0 ps.toList = some l) (hl : l.length = n) (hn : n ≤ 1024) :
    ∃ arr : List Value, (Instr.buildSlice t n (ps.map fun p => (p.1, a.eval p.2))).run P w = .ok (.slice (some ⟨w.heap.size, 0, none⟩) n n) (w.alloc (.cells arr.toArray e (0, 0))) ∧ F2 (Rd w G.F) arr (flat k l) := by
  obtain ⟨hu, J, hJ, hz⟩ := (hV t I hI).sl k e hel
  have hsz : J.zc.length = k.size := by rw [hz, cells_len]
  obtain ⟨i, z, h1, h2, h3, h4, zr, h5, h6, _⟩ := (hV e J hJ).info
  have hk28 : k.size ≤ 28 := by cases k <;> decide
  have hns : n * k.size ≤ 1024 * 28 := Nat.mul_le_mul hn hk28
  have key : ∀ zc : Array Value, zc.size = n * k.size → ∃ arr' : List Value, Instr.fill (fun i => some (i * k.size, k.size)) zc (ps.toList.map fun p => (p.1, a.eval p.2)) = some arr'.toArray ∧ F2 (Rd w G.F) arr' (flat k l) := by
    intro zc hzc
    obtain ⟨arr', h8, h9⟩ := elems_fill hV h k e ps.toList 0 l [] zc.toList hb rfl (by simp [flat]; exact F2.nil) (by simp [hzc, hl])
    exact ⟨arr', by simpa using h8, by simpa using h9⟩
  by_cases h0 : n * k.size = 0
  · obtain ⟨arr', h8, h9⟩ := key #[] (by simp [h0])
    refine ⟨arr', ?_, h9⟩
    have hz0 : ∀ f : Nat → Value, Array.map f (Array.range 0) = #[] := fun f => by apply Array.ext' ; simp
    simp only [Instr.buildSlice, Sem.run_bind, run_underlying hu, Result.andThen_ok, run_size hV hJ, hsz, h0]
    simp [hz0, h8, run_newRow']
  · obtain ⟨arr', h8, h9⟩ := key (Array.map (fun x => z.cells[x % z.cells.size]!) (Array.range (n * k.size))) (by simp)
    refine ⟨arr', ?_, h9⟩
    simp only [Instr.buildSlice, Sem.run_bind, run_underlying hu, Result.andThen_ok, run_size hV hJ, hsz]
    simp only [h0, show ¬ n * k.size > 2 ^ 24 by omega, if_false, zeroValue, typeInfo]
    simp [h1, h4, h8, run_newRow']
end
end Go.Proofs.YtjjcjpmfkbfdfaaE


/- What yields one value: the whole. Conditions: none. -/
set_option linter.unusedVariables false
namespace Go.Proofs.YtjjcjpmfkbfdfaaE
open Go Go.RowKit
theorem flat_rep (k : RK) (e : k.El) : ∀ (n j : Nat), j < n * k.size → (flat k (List.replicate n e))[j]? = (k.cells e)[j % k.size]?
  | 0, j, h => by simp at h
  | n + 1, j, h => by
    rw [List.replicate_succ, flat_cons]
    by_cases hj : j < k.size
    · rw [List.getElem?_append_left (by rw [cells_len]; exact hj), Nat.mod_eq_of_lt hj]
    · have h2 : j - k.size < n * k.size := by rw [Nat.add_mul, Nat.one_mul] at h; omega
      rw [List.getElem?_append_right (by rw [cells_len]; omega), cells_len, flat_rep k e n (j - k.size) h2]
      congr 1
      rw [Nat.mod_eq_sub_mod (by omega : j ≥ k.size)]
def LoR (v : Option Value) (x : Option (Option T)) : Prop := match v, x with
  | none, none => True
  | some v, some t => ∀ n, t.bind intT = some n → ∃ k, v = .int k n
  | _, _ => False
theorem mul_take {k : RK} (l : List k.El) (a b : Nat) (xs : List Value) {R : Value → D → Prop} (h : F2 R xs (flat k l)) :
    F2 R ((xs.drop (a * k.size)).take ((b - a) * k.size)) (flat k ((l.drop a).take (b - a))) := by
  rw [flat_take, flat_drop]; exact (h.drop _).take _
section
variable {P : Program} {V : Env} (hV : TysOk P V) {w0 : World} {prot : Pro} {S : St} {G : Gh} {a : Act} {w : World}
include hV
theorem made_ok {e : Nat} {J : TyI} {k : RK} (hJ : look e V.tys = some J) (hz : J.zc = k.cells k.z) (F : HF → Prop) (w : World) (n : Nat) {i : TypeInfo} {z : Value} (hi : P.info? e = some i) (hz0 : i.zero = some z) :
    F2 (Rd w F) (madeCells z.cells (n * k.size)).toList (flat k (List.replicate n k.z)) ∧ (madeCells z.cells (n * k.size)).size = n * k.size := by
  obtain ⟨i', z', h1, h2, h3, h4, arr, h5, h6, _⟩ := (hV e J hJ).info
  rw [hi] at h1; cases h1
  rw [hz0] at h4; cases h4
  have hlen := h6.len
  rw [hz, cells_len] at hlen
  refine ⟨F2.of_get (by simp [madeCells, flat_len]) fun j x y hx hy => ?_, by simp [madeCells]⟩
  have hj : j < n * k.size := by
    have := (List.getElem?_eq_some_iff.1 hx).1
    simpa [madeCells] using this
  rw [flat_rep k _ n j hj, ← hz] at hy
  obtain ⟨u, hu, hr⟩ := h6.get _ _ hy
  have hx' : x = u := by
    simp only [madeCells, h5, Array.toList_map, Array.toList_range, List.getElem?_map] at hx
    rw [List.getElem?_range hj] at hx
    simp only [Option.map_some, Option.some.injEq] at hx
    rw [← hx]
    simp only [List.size_toArray, hlen]
    rw [List.getElem!_toArray, List.getElem!_eq_getElem?_getD, hu]
    rfl
  subst hx'
  exact hr w F
theorem slice_run0 {t : Nat} {k : RK} {e : Nat} (hu : P.underlying t = some (.slice e)) {J : TyI} (hJ : look e V.tys = some J) (hsz : J.zc.length = k.size) (A : Option Addr) (n cap : Nat) (hnc : n ≤ cap) {lo hi mx : Option Value} {lo' hi' mx' : Option (Option T)}
    (h1 : LoR lo lo') (h2 : LoR hi hi') (h3 : LoR mx mx') (l : List k.El) (hn : l.length = n) {p : Prop} {r : T} (hs : sliceT k l lo' hi' mx' = some (some p, r)) (hp : p) :
    ∃ a b m : Nat, a ≤ b ∧ b ≤ n ∧ b ≤ m ∧ m ≤ cap ∧ r = .v false [.d (.r k ((l.drop a).take (b - a)))] ∧ (mx' = none → m = cap) ∧ endT 0 lo' = some (a : Int) ∧ endT l.length hi' = some (b : Int) ∧ (∀ tm, mx' = some tm → tm.bind intT = some (m : Int)) ∧
      (Instr.sliceAt t (.slice A n cap) lo hi mx).run P w = .ok (.slice (if m = a then A else A.map (·.add (a * k.size))) (b - a) (m - a)) w := by
  have hes : P.elem t = e := by simp [Program.elem, hu]
  have hsw : (Go.sizeOf e).run P w = .ok k.size w := by rw [run_size hV hJ, hsz]
  -- from the bounds on
  have fin : ∀ x y m : Nat, (Instr.sliceBounds true n cap lo hi mx).run P w = .ok (x, y, m) w → (Instr.sliceAt t (.slice A n cap) lo hi mx).run P w = .ok (.slice (if m = x then A else A.map (·.add (x * k.size))) (y - x) (m - x)) w := by
    intro x y m hb
    simp only [Instr.sliceAt, Instr.slice, Sem.run_bind, run_underlying hu, Result.andThen_ok, hb, hsw, Sem.run_pure]
  have lows : ∀ (x : Int) (y : Nat), endT 0 lo' = some x → 0 ≤ x → x ≤ y → (lo = none ∧ x = 0) ∨ ∃ v, lo = some v ∧ ∀ c, (Instr.sliceBound v y c).run P w = .ok x.toNat w := by
    intro x y hx h0 hxy
    cases lo' with
    | none => cases lo with
      | none => simp only [endT, Option.some.injEq] at hx; exact .inl ⟨rfl, hx.symm⟩
      | some => exact absurd h1 (by simp [LoR])
    | some tt => cases lo with
      | none => exact absurd h1 (by simp [LoR])
      | some v => obtain ⟨kk, rfl⟩ := h1 x hx; exact .inr ⟨_, rfl, fun c => run_sliceBound w kk x y c h0 hxy⟩
  unfold sliceT at hs
  split at hs
  · rename_i x y hx hy
    cases mx' with
    | none =>
      cases mx with
      | some => exact absurd h3 (by simp [LoR])
      | none =>
        simp only [Option.some.injEq, Prod.mk.injEq] at hs
        obtain ⟨hpe, hr⟩ := hs
        subst hpe
        obtain ⟨q1, q2, q3⟩ := hp
        refine ⟨x.toNat, y.toNat, cap, by omega, by omega, by omega, Nat.le_refl _, hr.symm, fun _ => rfl, by rw [hx]; congr 1; omega, by rw [hy]; congr 1; omega, fun tm h => by simp at h, fin _ _ _ ?_⟩
        have hhi : (hi = none ∧ y.toNat = n) ∨ ∃ v, hi = some v ∧ ∀ c, (Instr.sliceBound v cap c).run P w = .ok y.toNat w := by
          cases hi' with
          | none => cases hi with
            | none => simp only [endT, Option.some.injEq] at hy; exact .inl ⟨rfl, by omega⟩
            | some => exact absurd h2 (by simp [LoR])
          | some tt => cases hi with
            | none => exact absurd h2 (by simp [LoR])
            | some v => obtain ⟨kk, rfl⟩ := h2 y hy; exact .inr ⟨_, rfl, fun c => run_sliceBound w kk y cap c (by omega) (by omega)⟩
        rcases lows x y.toNat hx q1 (by omega) with ⟨rfl, rfl⟩ | ⟨vl, rfl, hlo⟩ <;> rcases hhi with ⟨rfl, rfl⟩ | ⟨vh, rfl, hhi⟩ <;> simp [Instr.sliceBounds, *]
    | some tm =>
      cases mx with
      | none => exact absurd h3 (by simp [LoR])
      | some vm =>
        dsimp only at hs
        split at hs
        · rename_i _ _ hi0 m hm
          simp only [Option.some.injEq, Prod.mk.injEq] at hs
          obtain ⟨hpe, hr⟩ := hs
          subst hpe
          obtain ⟨q1, q2, q3, q4⟩ := hp
          obtain ⟨km, rfl⟩ := h3 m hm
          have hmx : ∀ c, (Instr.sliceBound (.int km m) cap c).run P w = .ok m.toNat w := fun c => run_sliceBound w km m cap c (by omega) (by omega)
          refine ⟨x.toNat, y.toNat, m.toNat, by omega, by omega, by omega, by omega, hr.symm, fun h => by simp at h, by rw [hx]; congr 1; omega, by rw [hy]; congr 1; omega, fun tm' h => by cases h; rw [hm]; congr 1; omega, fin _ _ _ ?_⟩
          cases hi with
          | none => exact absurd h2 (by simp [LoR])
          | some v =>
            obtain ⟨kk, rfl⟩ := h2 y hy
            have hhi : ∀ c, (Instr.sliceBound (.int kk y) m.toNat c).run P w = .ok y.toNat w := fun c => run_sliceBound w kk y m.toNat c (by omega) (by omega)
            rcases lows x y.toNat hx q1 (by omega) with ⟨rfl, rfl⟩ | ⟨vl, rfl, hlo⟩ <;> simp [Instr.sliceBounds, *]
        · simp at hs
  · simp at hs
theorem slice_run {t : Nat} {I : TyI} {k : RK} {e : Nat} (hI : look t V.tys = some I) (hel : I.el = some (k, e)) (A : Option Addr) (n cap : Nat) (hnc : n ≤ cap) {lo hi mx : Option Value} {lo' hi' mx' : Option (Option T)}
    (h1 : LoR lo lo') (h2 : LoR hi hi') (h3 : LoR mx mx') (l : List k.El) (hn : l.length = n) {p : Prop} {r : T} (hs : sliceT k l lo' hi' mx' = some (some p, r)) (hp : p) :
    ∃ a b m : Nat, a ≤ b ∧ b ≤ n ∧ b ≤ m ∧ m ≤ cap ∧ r = .v false [.d (.r k ((l.drop a).take (b - a)))] ∧ (mx' = none → m = cap) ∧ endT 0 lo' = some (a : Int) ∧ endT l.length hi' = some (b : Int) ∧ (∀ tm, mx' = some tm → tm.bind intT = some (m : Int)) ∧
      (Instr.sliceAt t (.slice A n cap) lo hi mx).run P w = .ok (.slice (if m = a then A else A.map (·.add (a * k.size))) (b - a) (m - a)) w := by
  obtain ⟨hu, J, hJ, hz⟩ := (hV t I hI).sl k e hel
  exact slice_run0 hV hu hJ (by rw [hz, cells_len]) A n cap hnc h1 h2 h3 l hn hs hp
omit hV in
theorem lo_r (h : Inv w0 prot S G a w) (hV : TysOk P V) (x : Option Operand) : LoR (x.map a.eval) (x.map (S.opnd V 0)) := by
  cases x with
  | none => trivial
  | some x =>
    intro n hn
    cases ht : S.opnd V 0 x with
    | none => rw [ht] at hn; simp at hn
    | some t =>
      rw [ht] at hn
      simp only [Option.bind_some] at hn
      unfold intT at hn
      split at hn
      · rename_i k y
        cases hn
        exact ⟨k, opnd_int hV h ht⟩
      · simp at hn
theorem slice_h (h : Inv w0 prot S G a w) {t : Nat} {I : TyI} {k : RK} {z : Nat} (hI : look t V.tys = some I) (hz : I.zc = [.h k z]) {v : Value} {n : Nat} (hv : RdH G.F v k n) (lo hi : Option Operand)
    {p : Prop} {r : T} (hs : sliceH k n (lo.map (S.opnd V 0)) (hi.map (S.opnd V 0)) = some (some p, r)) (hp : p) :
    ∃ u, (Instr.sliceAt t v (lo.map a.eval) (hi.map a.eval) none).run P w = .ok u w ∧ TR w G S.rows S.boxes u r := by
  obtain ⟨_, hk, hu, J, hJ, hzz⟩ := (hV t I hI).hs k z hz
  have hsz : J.zc.length = k.size := by rw [hzz, hsh_len hk]
  let l : List k.El := List.replicate n k.z
  have hl : l.length = n := List.length_replicate
  have hs2 : ∃ r', sliceT k l (lo.map (S.opnd V 0)) (hi.map (S.opnd V 0)) none = some (some p, r') ∧ ∀ x y : Nat, endT 0 (lo.map (S.opnd V 0)) = some (x : Int) → endT l.length (hi.map (S.opnd V 0)) = some (y : Int) → r = .v false [.d (.h k (y - x))] := by
    unfold sliceH at hs
    split at hs
    · rename_i a b ha hb
      cases hs
      refine ⟨_, by unfold sliceT; rw [ha, hl, hb], fun x y hx hy => ?_⟩
      rw [ha] at hx
      rw [hl, hb] at hy
      cases hx
      cases hy
      simp
    · simp at hs
  obtain ⟨r', hs2, hr'⟩ := hs2
  rcases hv with ⟨⟨xx, rfl⟩, hn⟩ | ⟨g, i, cap, s, rfl, hg, hc, hb, hm⟩
  · obtain ⟨x, y, m, h1, h2, h3, h4, hr, _, e1, e2, _, hrun⟩ := slice_run0 hV hu hJ hsz xx 0 0 (Nat.le_refl _) (lo_r h hV lo) (lo_r h hV hi) (show LoR none none from trivial) l (by rw [hl, hn]) hs2 hp
    refine ⟨_, hrun, ?_⟩
    rw [hr' x y e1 e2]
    refine ⟨_, rfl, .h _ _ _ (.inl ⟨?_, by omega⟩)⟩
    obtain rfl : m = 0 := by omega
    obtain rfl : x = 0 := by omega
    obtain rfl : y = 0 := by omega
    exact ⟨_, rfl⟩
  · obtain ⟨x, y, m, h1, h2, h3, h4, hr, hmc, e1, e2, _, hrun⟩ := slice_run0 hV hu hJ hsz (some ⟨g, i * k.size, none⟩) n cap hc (lo_r h hV lo) (lo_r h hV hi) (show LoR none none from trivial) l hl hs2 hp
    refine ⟨_, hrun, ?_⟩
    rw [hr' x y e1 e2]
    obtain rfl : m = cap := hmc rfl
    refine ⟨_, rfl, .h _ _ _ ?_⟩
    by_cases hmx : m = x
    · refine .inl ⟨?_, by omega⟩
      rw [if_pos hmx, show y - x = 0 by omega, show m - x = 0 by omega]
      exact ⟨_, rfl⟩
    · refine .inr ⟨g, i + x, m - x, s, ?_, hg, by omega, ?_, by omega⟩
      · rw [if_neg hmx]
        simp only [Option.map_some, add_lit]
        rw [Nat.add_mul]
      · rw [show i + x + (m - x) = i + m by omega]; exact hb
theorem slice_data (h : Inv w0 prot S G a w) {t : Nat} {I : TyI} {k : RK} {e : Nat} (hI : look t V.tys = some I) (hel : I.el = some (k, e)) {v : Value} {l : List k.El} (hv : Rd w G.F v (.r k l)) (lo hi mx : Option Operand)
    {p : Prop} {r : T} (hs : sliceT k l (lo.map (S.opnd V 0)) (hi.map (S.opnd V 0)) (mx.map (S.opnd V 0)) = some (some p, r)) (hp : p) :
    ∃ u, (Instr.sliceAt t v (lo.map a.eval) (hi.map a.eval) (mx.map a.eval)).run P w = .ok u w ∧ TR w G S.rows S.boxes u r := by
  rcases Rd.row_lies hv with ⟨⟨xx, rfl⟩, rfl⟩ | ⟨g, off, cap, xs, rfl, hg, hc, hx⟩
  · obtain ⟨x, y, m, h1, h2, h3, h4, hr, _, _, _, _, hrun⟩ := slice_run hV hI hel xx 0 0 (Nat.le_refl _) (lo_r h hV lo) (lo_r h hV hi) (lo_r h hV mx) [] rfl hs hp
    obtain rfl : m = 0 := by omega
    obtain rfl : y = 0 := by simp at h2; omega
    obtain rfl : x = 0 := by omega
    refine ⟨_, hrun, ?_⟩
    rw [hr]
    exact ⟨_, rfl, by simp; exact Rd.nil k _⟩
  · obtain ⟨x, y, m, h1, h2, h3, h4, hr, _, _, _, _, hrun⟩ := slice_run hV hI hel (some ⟨g, off, none⟩) l.length cap hc (lo_r h hV lo) (lo_r h hV hi) (lo_r h hV mx) l rfl hs hp
    refine ⟨_, hrun, ?_⟩
    rw [hr]
    have hln : ((l.drop x).take (y - x)).length = y - x := by simp; omega
    refine ⟨_, rfl, ?_⟩
    by_cases hm : m = x
    · rw [if_pos hm]
      have h0 : (l.drop x).take (y - x) = [] := List.length_eq_zero_iff.1 (by rw [hln]; omega)
      have := Rd.of_lies (w := w) (F := G.F) (k := k) (l := []) (g := g) (off := off) (cap := m - x) (xs := []) hg (Nat.zero_le _) ⟨fun j u hu => by simp at hu, .nil⟩
      rw [h0, show y - x = 0 by omega]
      exact this
    · rw [if_neg hm]
      simp only [Option.map_some, add_lit]
      have := Rd.of_lies (w := w) (F := G.F) (k := k) (l := (l.drop x).take (y - x)) (g := g) (off := off + x * k.size) (cap := m - x) (xs := (xs.drop (x * k.size)).take ((y - x) * k.size)) hg (by rw [hln]; omega)
        ⟨fun j u hu => ?_, mul_take l x y xs hx.2⟩
      · rwa [hln] at this
      · have hu' : xs[x * k.size + j]? = some u := by
          rw [List.getElem?_take] at hu
          split at hu
          · rwa [List.getElem?_drop] at hu
          · simp at hu
        have := hx.1 _ _ hu'
        rw [add_lit] at this ⊢
        rw [← this]; congr 2; omega
end
end Go.Proofs.YtjjcjpmfkbfdfaaE


/- What yields one value: one theorem. Conditions: none. -/
set_option linter.unusedVariables false
namespace Go.Proofs.YtjjcjpmfkbfdfaaE
open Go Go.RowKit
theorem eval_box_run {P : Program} (t : TypeId) (v : Value) (w : World) : (Instr.box t v).run P w = .ok (.pointer (some ⟨w.heap.size, 0, none⟩)) (w.alloc (.cells v.cells t (0, 0))) := by
  simp [Instr.box, newVar, run_newRow']
theorem pickT_cases {c : Bool} {x y : Option T} {t : T} (h : pickT c x y = some t) : (∃ p q, x = some (boo p) ∧ y = some (boo q) ∧ t = boo (bif c then p else q)) ∨ (bif c then x else y) = some t := by
  unfold pickT at h
  split at h
  · rename_i p q
    cases h
    exact .inl ⟨p, q, rfl, rfl, rfl⟩
  · exact .inr h
section
variable {P : Program} {V : Env} (hV : TysOk P V) {w0 : World} {prot : Pro} {S : St} {G : Gh} {a : Act} {w : World}
include hV
omit hV in
theorem fin_one (h : Inv w0 prot S G a w) {o : Oper} {t : T} {v : Value} (hr : (execOp a.eval o).run P w = .ok (.value v) w) (ht : TR w G S.rows S.boxes v t) :
    ∃ v w' G', (execOp a.eval o).run P w = .ok (.value v) w' ∧ Inv w0 prot (S.app o.dst (val t)) G' (a.put o.dst v) w' := ⟨v, w, G, hr, h.put ht o.dst⟩
omit hV in
theorem field_ok (h : Inv w0 prot S G a w) {v : Value} {t r : T} {off : Nat} (ht : TR w G S.rows S.boxes v t) (hf : fieldT S off t = some r) :
    ∃ g o, v = .pointer (some ⟨g, o, none⟩) ∧ TR w G S.rows S.boxes (.pointer (some ⟨g, o + off, none⟩)) r := by
  unfold fieldT at hf
  split at hf
  · rename_i b ep o
    split at hf
    · rename_i cs hcs
      cases hf
      obtain ⟨B, hB, he, hc⟩ := box_spec hcs
      have hv := (ht B hB).2 he (by simp [hc])
      refine ⟨_, _, hv, fun B' hB' => ?_⟩
      rw [hB] at hB'; cases hB'
      exact ⟨by omega, fun _ _ => by rw [Nat.add_comm o off, Nat.add_comm off o]⟩
    · simp at hf
  · rename_i k l i o
    cases hf
    obtain ⟨h1, g, o', n, cap, h2, h3⟩ := ht
    exact ⟨_, _, h3, h1, g, o', n, cap, h2, by rw [Nat.add_assoc]⟩
  · rename_i k o
    cases hf
    obtain ⟨g, i, s, h1, h2, h3⟩ := ht
    exact ⟨_, _, h3, g, i, s, h1, h2, by rw [Nat.add_assoc]⟩
  · rename_i id ep i o
    split at hf
    · rename_i c hc
      cases hf
      obtain ⟨r0, hr0, he, hrc⟩ := live_spec hc
      obtain ⟨h1, g, n, cap, h2, h3⟩ := (ht r0 hr0).2 he c hrc
      refine ⟨_, _, h3, fun r1 hr1 => ?_⟩
      rw [hr0] at hr1; cases hr1
      refine ⟨by omega, fun _ c1 hc1 => ?_⟩
      rw [hrc] at hc1; cases hc1
      exact ⟨h1, g, n, cap, h2, by rw [Nat.add_assoc]⟩
    · simp at hf
  · simp at hf
theorem intOp_ok {op : BinOp} {k : IntKind} {x y : Int} {p : Option Prop} {t : T} (h : intOp k x y op = some (p, t)) (hp : ∀ q, p = some q → q) (ty : TypeId) (rows : List Row) (bs : List Box) :
    ∃ v, (binOp op ty (.int k x) (.int k y)).run P w = .ok v w ∧ TR w G rows bs v t := by
  have _ := hV
  cases op <;> simp only [intOp] at h
  case add | sub | mul => all_goals (cases h; exact ⟨_, by simp [binOp, Op.intArith], _, rfl, Rd.i _ _⟩)
  case quo | rem => all_goals (cases h; have hy : y ≠ 0 := hp _ rfl; exact ⟨_, by simp [binOp, Op.intDiv, hy], _, rfl, Rd.i _ _⟩)
  case and | or | xor => all_goals (cases h; exact ⟨_, by simp [binOp, Op.intBits, Go.bits], _, rfl, Rd.i _ _⟩)
  case eql | neq | lss | leq | gtr | geq => all_goals (cases h; exact ⟨_, by simp [binOp, Op.intCmp], _, rfl, Rd.b _⟩)
  all_goals simp at h
theorem binT_ok {tb : Bool} {op : BinOp} {u v : Value} {x y t : T} {p : Option Prop} (hu : TR w G S.rows S.boxes u x) (hv : TR w G S.rows S.boxes v y) (h : binT tb op x y = some (p, t)) (hp : ∀ q, p = some q → q) (ty : TypeId) (htb : tb = true → P.underlying ty = some .bool) (ox oy : Operand) :
    (eqGuard op ty ox oy u v).run P w = .ok () w ∧ ∃ r, (binOp op ty u v).run P w = .ok r w ∧ TR w G S.rows S.boxes r t := by
  unfold binT at h
  split at h
  · rename_i k a k' b
    obtain ⟨c, hc, hr⟩ := hu; cases hc
    obtain ⟨c, hc, hr'⟩ := hv; cases hc
    obtain rfl := Rd.int hr
    obtain rfl := Rd.int hr'
    refine ⟨by simp [eqGuard], ?_⟩
    split at h
    · simp only [shiftOp] at h
      cases h
      have h0 : 0 ≤ b := hp _ rfl
      exact ⟨_, by simp [binOp, Op.shift, show ¬ b < 0 by omega], _, rfl, Rd.i _ _⟩
    · simp only [shiftOp] at h
      cases h
      have h0 : 0 ≤ b := hp _ rfl
      exact ⟨_, by simp [binOp, Op.shift, show ¬ b < 0 by omega], _, rfl, Rd.i _ _⟩
    · split at h
      · rename_i e; subst e
        exact intOp_ok hV h hp ty S.rows S.boxes
      · simp at h
  · rename_i a b
    obtain ⟨c, hc, hr⟩ := hu; cases hc
    obtain ⟨c, hc, hr'⟩ := hv; cases hc
    obtain rfl := Rd.bool hr
    obtain rfl := Rd.bool hr'
    refine ⟨by simp [eqGuard], ?_⟩
    split at h
    · cases h; exact ⟨_, run_eql_bool w ty a b (htb rfl), _, rfl, Rd.b _⟩
    · cases h; exact ⟨_, run_neq_bool w ty a b (htb rfl), _, rfl, Rd.b _⟩
    · simp at h
  · simp at h
omit hV in
theorem eqFields_ok {rows : List Row} (d : Nat) : ∀ (z : List D) (fs : List Field) (p q as bs : List Value) (xs ys : List Cm) (r : Option Bool), EqF P p.length fs z → p.length = q.length → F2 (CR w G rows) as xs → F2 (CR w G rows) bs ys → eqCs z xs ys = some r →
    (Op.eqFields (d + 1) (p ++ as).toArray (q ++ bs).toArray fs).run P w = .ok (r.getD true) w := by
  intro z
  induction z with
  | nil =>
    intro fs p q as bs xs ys r hf hl ha hb h
    cases fs with
    | cons f fs => exact hf.elim
    | nil =>
      cases ha with
      | cons => simp [eqCs] at h
      | nil =>
        cases hb with
        | cons => simp [eqCs] at h
        | nil => simp only [eqCs] at h; cases h; rfl
  | cons x0 z ih =>
    intro fs p q as bs xs ys r hf hl ha hb h
    cases fs with
    | nil => cases x0 <;> exact hf.elim
    | cons f fs =>
      have step : ∀ (u v : Value) (as' bs' : List Value) (xs' ys' : List Cm) (r1 : Bool) (r2 : Option Bool), as = u :: as' → bs = v :: bs' → (f.name ≠ "_" ∧ f.offset = p.length ∧ (isAgg f.type).run P w = .ok false w) → EqF P (p.length + 1) fs z →
          (Op.equalIn (d + 1) f.type u v).run P w = .ok r1 w → F2 (CR w G rows) as' xs' → F2 (CR w G rows) bs' ys' → eqCs z xs' ys' = some r2 →
          (Op.eqFields (d + 1) (p ++ as).toArray (q ++ bs).toArray (f :: fs)).run P w = .ok (r1 && r2.getD true) w := by
        intro u v as' bs' xs' ys' r1 r2 e1 e2 h1 h2 h3 h4 h5 h6
        subst e1 e2
        have k1 : (p ++ u :: as').toArray[f.offset]? = some u := by simp [h1.2.1]
        have k2 : (q ++ v :: bs').toArray[f.offset]? = some v := by simp [h1.2.1, hl]
        have hp1 : (Go.part f.type (p ++ u :: as').toArray f.offset).run P w = .ok u w := by
          simp only [Go.part, Sem.run_bind, h1.2.2, Result.andThen_ok, Bool.false_eq_true, if_false, k1, Sem.run_pure]
        have hp2 : (Go.part f.type (q ++ v :: bs').toArray f.offset).run P w = .ok v w := by
          simp only [Go.part, Sem.run_bind, h1.2.2, Result.andThen_ok, Bool.false_eq_true, if_false, k2, Sem.run_pure]
        have hr := ih fs (p ++ [u]) (q ++ [v]) as' bs' xs' ys' r2 (by simpa using h2) (by simp [hl]) h4 h5 h6
        rw [List.append_assoc, List.append_assoc, List.singleton_append, List.singleton_append] at hr
        simp only [Op.eqFields, if_pos h1.1, Sem.run_bind, hp1, hp2, h3, Result.andThen_ok]
        cases r1
        · simp
        · simp only [Bool.not_true, Bool.false_eq_true, if_false, Bool.true_and]
          exact hr
      unfold eqCs at h
      split at h
      · rename_i h0; cases h0
      · rename_i k0 n0 z' k x l k' y m h0
        cases h0
        cases ha with | cons a1 a2 => cases hb with | cons b1 b2 =>
        split at h
        · rename_i e
          subst e
          split at h
          · rename_i r2 hr2
            cases h
            obtain ⟨⟨n1, n2, kk, n3⟩, hf'⟩ := hf
            obtain rfl := Rd.int a1
            obtain rfl := Rd.int b1
            have := step _ _ _ _ _ _ _ _ rfl rfl ⟨n1, n2, by simp [isAgg, run_underlying n3]⟩ hf' (run_equalIn_int w d f.type k kk x y n3) a2 b2 hr2
            simpa using this
          · rename_i hr2
            cases h
            obtain ⟨⟨n1, n2, kk, n3⟩, hf'⟩ := hf
            obtain rfl := Rd.int a1
            obtain rfl := Rd.int b1
            have := step _ _ _ _ _ _ _ _ rfl rfl ⟨n1, n2, by simp [isAgg, run_underlying n3]⟩ hf' (run_equalIn_int w d f.type k kk x y n3) a2 b2 hr2
            simpa using this
          · cases h
        · cases h
      · rename_i n0 z' x l y m h0
        cases h0
        cases ha with | cons a1 a2 => cases hb with | cons b1 b2 =>
        split at h
        · rename_i r2 hr2
          cases h
          obtain ⟨⟨n1, n2, n3⟩, hf'⟩ := hf
          obtain rfl := Rd.bool a1
          obtain rfl := Rd.bool b1
          have := step _ _ _ _ _ _ _ _ rfl rfl ⟨n1, n2, by simp [isAgg, run_underlying n3]⟩ hf' (run_equalIn_bool' w d f.type x y n3) a2 b2 hr2
          simpa using this
        · rename_i hr2
          cases h
          obtain ⟨⟨n1, n2, n3⟩, hf'⟩ := hf
          obtain rfl := Rd.bool a1
          obtain rfl := Rd.bool b1
          have := step _ _ _ _ _ _ _ _ rfl rfl ⟨n1, n2, by simp [isAgg, run_underlying n3]⟩ hf' (run_equalIn_bool' w d f.type x y n3) a2 b2 hr2
          simpa using this
        · cases h
      · cases h
theorem structEq_ok {t : Nat} {op : BinOp} {u v : Value} {x y : T} {r : Bool} (hu : TR w G S.rows S.boxes u x) (hv : TR w G S.rows S.boxes v y) (h : structEq V t op x y = some r) (ox oy : Operand) :
    (eqGuard op t ox oy u v).run P w = .ok () w ∧ (binOp op t u v).run P w = .ok (.bool r) w := by
  unfold structEq at h
  split at h
  · rename_i xs ys
    split at h
    · rename_i I hI
      split at h
      · rename_i hfl
        obtain ⟨arr, rfl, ha⟩ := hu
        obtain ⟨brr, rfl, hb⟩ := hv
        obtain ⟨q1, q2, fs, q3, q4⟩ := (hV t I hI).eq hfl
        have q5 : P.fieldsOf t = fs := by simp [Program.fieldsOf, q3]
        have q6 : P.underlying t = some (.struct (P.fieldsOf t)) := by rw [q5]; exact q3
        refine ⟨run_eqGuard_agg w op t ox oy _ _ q2, ?_⟩
        unfold eqOp at h
        split at h
        · rename_i r' hr
          cases h
          have := eqFields_ok (P := P) (w := w) (G := G) (rows := S.rows) 9998 I.zc fs.toList [] [] arr brr xs ys _ q4 rfl ha hb hr
          rw [run_eql_struct, run_equalIn_struct w 9999 t _ _ q6 q1, q5]
          simp only [List.nil_append] at this
          rw [this]
          rfl
        · rename_i r' hr
          cases h
          have := eqFields_ok (P := P) (w := w) (G := G) (rows := S.rows) 9998 I.zc fs.toList [] [] arr brr xs ys _ q4 rfl ha hb hr
          rw [run_neq_struct, run_equalIn_struct w 9999 t _ _ q6 q1, q5]
          simp only [List.nil_append] at this
          rw [this]
          rfl
        · cases h
      · cases h
    · cases h
  · cases h
theorem boolTy_ok {t : Nat} (h : boolTy V t = true) : P.underlying t = some .bool := by
  unfold boolTy at h
  split at h
  · rename_i x el zo fs hI
    exact (hV t _ hI).nb x rfl rfl
  · simp at h
theorem elem_kind {t : Nat} {I : TyI} {k : RK} {e : Nat} (hI : look t V.tys = some I) (hel : I.el = some (k, e)) : P.underlying t = some (.slice e) ∧ P.elem t = e := by
  obtain ⟨hu, _⟩ := (hV t I hI).sl k e hel
  exact ⟨hu, by simp [Program.elem, hu]⟩
theorem und_some {t : Nat} {I : TyI} (hI : look t V.tys = some I) : (P.underlying t).isSome = true := by
  cases hg : I.agg with
  | true => obtain ⟨fs, h, _⟩ := (hV t I hI).ag hg; simp [h]
  | false => obtain ⟨_, d, h, _⟩ := (hV t I hI).sc hg; simp [h]
theorem eagB_ok (h : Inv w0 prot S G a w) {b : Builtin} {args : Array Operand} {tys : Array Nat} {p : Option Prop} {out : Outc} (ty : Nat) (cs : Array Bool) (he : eagB V S b args.toList tys.toList = some (p, out)) :
    ∃ v t, out = val t ∧ (builtin b tys ty cs (args.map a.eval)).run P w = .ok (.value v) w ∧ TR w G S.rows S.boxes v t := by
  generalize hA : args.toList = A at he
  generalize hT : tys.toList = Ts at he
  unfold eagB at he
  split at he
  · rename_i x t
    obtain rfl : args = #[x] := Array.toList_inj.1 hA
    obtain rfl : tys = #[t] := Array.toList_inj.1 hT
    split at he
    · rename_i g zc kk zo fs k l hI hb
      obtain ⟨s', h1, rfl⟩ := one_spec he
      cases h1
      obtain ⟨hu, hel⟩ := elem_kind hV hI (k := kk.1) (e := kk.2) rfl
      cases hx : S.opnd V t x with
      | none => rw [hx] at hb; simp at hb
      | some q =>
        rw [hx] at hb
        obtain ⟨b, cap, hv⟩ := elems_val hV h (opnd_tr hV h hx) hb
        have := run_len_slice (P := P) w t ty b l.length cap (by rw [hel]; exact hu)
        refine ⟨.int .i64 l.length, _, rfl, ?_, _, rfl, Rd.i _ _⟩
        simp [builtin, hv, this, goInt]
    · rename_i g k z zo fs hI hb
      split at he
      · rename_i k2 n hx
        obtain ⟨s', h1, rfl⟩ := one_spec he
        cases h1
        obtain ⟨_, _, hu, _⟩ := (hV t _ hI).hs k z rfl
        have hv := opnd_h hV h hx
        obtain ⟨b, cap, hv⟩ : ∃ b cap, a.eval x = .slice b n cap := by
          rcases hv with ⟨⟨xx, e⟩, hn⟩ | ⟨g, j, cap, s, e, _⟩
          · exact ⟨_, _, by rw [e, hn]⟩
          · exact ⟨_, _, e⟩
        have := run_len_slice (P := P) w t ty b n cap (by rw [show P.elem t = hE k by simp [Program.elem, hu]]; exact hu)
        refine ⟨.int .i64 n, _, rfl, ?_, _, rfl, Rd.i _ _⟩
        simp [builtin, hv, this, goInt]
      · simp at he
    · simp at he
  · rename_i x y t u
    obtain rfl : args = #[x, y] := Array.toList_inj.1 hA
    split at he
    · rename_i q r hx hy
      obtain ⟨s', h1, rfl⟩ := one_spec he
      unfold minMax at h1
      split at h1
      · rename_i k m k' n
        split at h1
        · rename_i hk; subst hk
          cases h1
          refine ⟨.int k (if n < m then n else m), _, rfl, ?_, _, rfl, Rd.i _ _⟩
          simp [builtin, opnd_int hV h hx, opnd_int hV h hy, run_min_int2]
        · simp at h1
      · simp at h1
    · simp at he
  · rename_i x y t u
    obtain rfl : args = #[x, y] := Array.toList_inj.1 hA
    split at he
    · rename_i q r hx hy
      obtain ⟨s', h1, rfl⟩ := one_spec he
      unfold minMax at h1
      split at h1
      · rename_i k m k' n
        split at h1
        · rename_i hk; subst hk
          cases h1
          refine ⟨.int k (if n > m then n else m), _, rfl, ?_, _, rfl, Rd.i _ _⟩
          simp [builtin, opnd_int hV h hx, opnd_int hV h hy, run_max_int2]
        · simp at h1
      · simp at h1
    · simp at he
  · simp at he
theorem eag_ok (h : Inv w0 prot S G a w) {o : Oper} {p : Option Prop} {out : Outc} (he : eag V S o = some (p, out)) (hp : ∀ q, p = some q → q) :
    ∃ v w' G', (execOp a.eval o).run P w = .ok (.value v) w' ∧ Inv w0 prot (S.app o.dst out) G' (a.put o.dst v) w' := by
  unfold eag at he
  split at he
  case h_1 x hop =>
    obtain ⟨t, h1, rfl⟩ := one_map he
    exact fin_one h (by simp [execOp, hop]) (opnd_tr hV h h1)
  case h_2 x hop =>
    split at he
    · obtain ⟨t, h1, rfl⟩ := one_map he
      exact fin_one h (by simp [execOp, hop]) (opnd_tr hV h h1)
    · simp at he
  case h_3 c x y hop =>
    split at he
    · rename_i t hc
      obtain ⟨r, h1, rfl⟩ := one_map he
      have hcb := opnd_bool hV h hc
      refine fin_one h (v := if t = true then a.eval x else a.eval y) (by simp [execOp, hop, hcb, asBool]) ?_
      rcases pickT_cases h1 with ⟨p', q', hx, hy, rfl⟩ | h2
      · rw [opnd_bool hV h hx, opnd_bool hV h hy]
        cases t <;> exact ⟨_, rfl, Rd.b _⟩
      · cases t <;> exact opnd_tr hV h h2
    · simp at he
  case h_4 x hop =>
    obtain ⟨r, h1, rfl⟩ := one_map he
    cases hx : S.opnd V 0 x with
    | none => rw [hx] at h1; simp at h1
    | some t =>
      rw [hx] at h1
      obtain ⟨g, o', hv, hr⟩ := field_ok h (opnd_tr hV h hx) h1
      exact fin_one h (by simp [execOp, hop, hv]) hr
  case h_5 s x f hop =>
    split at he
    · rename_i I t hI hx
      split at he
      · rename_i off ft hf
        split at he
        · rename_i J hJ
          split at he
          · simp at he
          · rename_i hz
            obtain ⟨r, h1, rfl⟩ := one_map he
            obtain ⟨g, o', hv, hr⟩ := field_ok h (opnd_tr hV h hx) h1
            exact fin_one h (exec_val (s := Instr.fieldAt s (a.eval x) f) (by simp only [execOp, hop]) (by rw [hv]; exact run_fieldAt hV hI hf hJ hz g o' w)) hr
        · simp at he
      · simp at he
    · simp at he
  case h_6 t x hop =>
    split at he
    · rename_i I q hI hx
      split at he
      · simp at he
      · obtain ⟨r, h1, rfl⟩ := one_spec he
        obtain ⟨u, h2, h3⟩ := load_ok hV h hI (opnd_tr hV h hx) h1 hp
        exact fin_one h (exec_val (by simp only [execOp, hop]) h2) h3
    · simp at he
  case h_7 op t x y u hop =>
    split at he
    · rename_i q r hx hy
      split at he
      · rename_i r0 hr0
        obtain ⟨h2, h3⟩ := structEq_ok hV (opnd_tr hV h hx) (opnd_tr hV h hy) hr0 x y
        cases he
        exact fin_one h (by simp [execOp, hop, h2, h3]) ⟨_, rfl, Rd.b _⟩
      obtain ⟨s, h1, rfl⟩ := one_spec he
      obtain ⟨h2, v, h3, h4⟩ := binT_ok hV (opnd_tr hV h hx) (opnd_tr hV h hy) h1 hp t (boolTy_ok hV) x y
      exact fin_one h (by simp [execOp, hop, h2, h3]) h4
    · simp at he
  case h_8 op t x hop =>
    split at he
    · rename_i b hx
      obtain ⟨s, h1, rfl⟩ := one_spec he
      cases h1
      exact fin_one h (by simp [execOp, hop, opnd_bool hV h hx, Op.unary]) ⟨_, rfl, Rd.b _⟩
    · rename_i k n hx
      obtain ⟨s, h1, rfl⟩ := one_spec he
      cases h1
      exact fin_one h (by simp [execOp, hop, opnd_int hV h hx, Op.unary, Op.intArith]) ⟨_, rfl, Rd.i _ _⟩
    · simp at he
  case h_9 s t x hop =>
    split at he
    · rename_i J k x0 el zo fs k' n hJ hI hx
      obtain ⟨s', h1, rfl⟩ := one_spec he
      cases h1
      have hu := (hV t _ hI).nu k x0 rfl rfl
      have hk : P.intKind t = k := by simp [Program.intKind, hu]
      have := run_convert_int (P := P) w s t k' n (und_some hV hJ) (by rw [hk]; exact hu)
      rw [hk] at this
      exact fin_one h (by simp [execOp, hop, opnd_int hV h hx, this]) ⟨_, rfl, Rd.i _ _⟩
    · simp at he
  case h_10 x i hop =>
    split at he
    · rename_i l hx
      split at he
      · rename_i g cs hl
        obtain ⟨s', h1, rfl⟩ := one_spec he
        cases h1
        obtain ⟨arr, hv, hf⟩ := opnd_tr hV h hx
        obtain ⟨u, hu, hr⟩ := hf.get i _ hl
        exact fin_one h (by simp [execOp, hop, hv, Instr.extract, hu]) hr
      · simp at he
    · simp at he
  case h_11 t ps hop =>
    split at he
    · rename_i I hd hI
      split at he
      · rename_i hg
        split at he
        · rename_i cs hb
          obtain ⟨s', h1, rfl⟩ := one_spec he
          cases h1
          obtain ⟨v, h2, h3⟩ := build_ok hV h hI hg ps cs hb
          exact fin_one h (exec_val (by simp only [execOp, hop]) h2) h3
        · simp at he
      · simp at he
    · simp at he
  case h_12 t n ps hop =>
    split at he
    · rename_i g zc k e zo fs hd hI
      split at he
      · rename_i l hl
        split at he
        · rename_i hc
          obtain ⟨s', h1, rfl⟩ := one_spec he
          cases h1
          obtain ⟨arr, h2, h3⟩ := buildSlice_ok hV h hI rfl n ps l hl hc.1 hc.2
          have hal := h3.len
          rw [flat_len] at hal
          obtain ⟨G', h4⟩ := h.alloc_row k l arr e n (by omega) (by rw [List.take_of_length_le (by omega)]; exact h3) o.dst
          rw [hc.1] at h4
          exact ⟨_, _, G', exec_val (by simp only [execOp, hop]) h2, h4⟩
        · simp at he
      · simp at he
    · simp at he
  case h_13 t n c hop =>
    split at he
    · rename_i g zc k e zo fs x y hd hI hx hy
      obtain ⟨s', h1, rfl⟩ := one_spec he
      cases h1
      obtain ⟨q1, q2, q3⟩ : 0 ≤ x ∧ x = y ∧ x.toNat ≤ LIM := hp _ rfl
      subst q2
      obtain ⟨hu, J, hJ, hz⟩ := (hV t _ hI).sl k e rfl
      obtain ⟨i, z, i1, i2, i3, i4, _⟩ := (hV e J hJ).info
      have hsz : i.size = k.size := by rw [i2, hz, cells_len]
      have hL : x.toNat ≤ 137438953472 := q3
      have hbm : (i.bytes : Int) * x ≤ 281474976710656 := by
        have h1024 : (i.bytes : Int) ≤ 1024 := by omega
        calc (i.bytes : Int) * x ≤ 1024 * x := Int.mul_le_mul_of_nonneg_right h1024 q1
          _ ≤ 281474976710656 := by omega
      have hr := run_make (P := P) w t e i z hu i1 i4 .i64 .i64 x x q1 (Int.le_refl _) hbm (by omega)
      rw [hsz] at hr
      obtain ⟨m1, m2⟩ := made_ok hV hJ hz G.F w x.toNat i1 i4
      obtain ⟨G', h4⟩ := h.alloc_row k (List.replicate x.toNat k.z) (madeCells z.cells (x.toNat * k.size)).toList e x.toNat (by simp) (by
        rw [List.take_of_length_le (by simp [m2])]; exact m1) o.dst
      simp only [List.length_replicate, Array.toArray_toList] at h4
      refine ⟨_, _, G', exec_val (s := Instr.makeSlice t (a.eval n) (a.eval c)) (by simp only [execOp, hop]) ?_, h4⟩
      rw [opnd_int hV h hx, opnd_int hV h hy]
      exact hr
    · simp at he
  case h_14 t x i hop =>
    split at he
    · rename_i g zc k e zo fs q kk n hI hx hi
      split at he
      · rename_i k' l' hel
        split at he
        · rename_i hk
          obtain ⟨s', h1, rfl⟩ := one_spec he
          cases p with
          | none => exact absurd h1 (by unfold indexT; split <;> (try split) <;> (try split) <;> simp)
          | some pp =>
            obtain ⟨u, h2, h3⟩ := index_ok hV h hI rfl (kk := kk) (opnd_tr hV h hx) (fun k1 l1 h1 => by rw [hel] at h1; cases h1; exact hk) h1 (hp _ rfl)
            refine fin_one h (exec_val (s := Instr.indexAt t (a.eval x) (a.eval i)) (by simp only [execOp, hop]) ?_) h3
            rw [opnd_int hV h hi]; exact h2
        · simp at he
      · simp at he
    · rename_i g k z zo fs k' m kk n hI hx hi
      split at he
      · rename_i hk
        subst hk
        obtain ⟨s', h1, rfl⟩ := one_spec he
        cases h1
        obtain ⟨u, h2, h3⟩ := index_h hV h hI rfl (kk := kk) (opnd_h hV h hx) (hp _ rfl)
        refine fin_one h (exec_val (s := Instr.indexAt t (a.eval x) (a.eval i)) (by simp only [execOp, hop]) ?_) h3
        rw [opnd_int hV h hi]; exact h2
      · simp at he
    · simp at he
  case h_15 t x lo hi mx hop =>
    split at he
    · rename_i g zc k' e zo fs k l hI hx
      split at he
      · rename_i hk
        subst hk
        obtain ⟨s', h1, rfl⟩ := one_spec he
        cases p with
        | none => exact absurd h1 (by unfold sliceT; split <;> (try split) <;> (try split) <;> simp)
        | some pp =>
          obtain ⟨u, h2, h3⟩ := slice_data hV h hI rfl (opnd_row hV h hx) lo hi mx h1 (hp _ rfl)
          exact fin_one h (exec_val (by simp only [execOp, hop]) h2) h3
      · simp at he
    · rename_i g k' z zo fs k n hd hI hx
      split at he
      · rename_i hk
        obtain ⟨rfl, hmx⟩ := hk
        obtain ⟨s', h1, rfl⟩ := one_spec he
        cases p with
        | none => exact absurd h1 (by unfold sliceH; split <;> simp)
        | some pp =>
          obtain ⟨u, h2, h3⟩ := slice_h hV h hI rfl (opnd_h hV h hx) lo hi h1 (hp _ rfl)
          cases mx with
          | some q => cases hmx
          | none => exact fin_one h (exec_val (by simp only [execOp, hop, Option.map_none]) h2) h3
      · simp at he
    · simp at he
  case h_16 bb args tys hop =>
    obtain ⟨v, t, rfl, hr, ht⟩ := eagB_ok hV h o.type (args.map fun | .const v => true | x => false) he
    refine fin_one h ?_ ht
    simp only [execOp, hop, resolve, Sem.run_bind, Sem.run_pure, Result.andThen_ok, invoke]
    exact hr
  case h_17 t x hop =>
    split at he
    · rename_i b I g cs hb hI hx
      split at he
      · rename_i B hB
        split at he
        · cases he
          obtain ⟨xs, hv, hf, hc, _⟩ := VR.open (opnd_vr hV h hx)
          obtain ⟨G', h4⟩ := h.alloc_box b B cs xs t hB hf o.dst
          refine ⟨_, _, G', exec_val (s := Instr.box t (a.eval x)) (by simp only [execOp, hop]) ?_, h4⟩
          rw [eval_box_run, hc]
        · simp at he
      · simp at he
    · simp at he
  case h_18 t hop =>
    split at he
    · rename_i b I hb hI
      split at he
      · rename_i B hB
        cases he
        obtain ⟨i, z, i1, i2, i3, i4, arr, i5, i6, _⟩ := (hV t I hI).info
        obtain ⟨G', h4⟩ := h.alloc_box b B (I.zc.map .d) arr t hB (F2.map (i6.mono fun _ _ hz => hz w G.F)) o.dst
        refine ⟨_, _, G', exec_val (s := Instr.alloc t true (.tuple #[])) (by simp only [execOp, hop]) ?_, h4⟩
        simp [Instr.alloc, zeroValue, typeInfo, i1, i4, newVar, i5, run_newRow']
      · simp at he
    · simp at he
  case h_19 => simp at he
end
end Go.Proofs.YtjjcjpmfkbfdfaaE


/- Stores, rows of one's own made and grown. Conditions: none. -/
set_option linter.unusedVariables false
namespace Go.Proofs.YtjjcjpmfkbfdfaaE
open Go Go.RowKit
theorem app_row (S : St) (d : Option Nat) (t : T) (id : Nat) (r : Row) : S.app d ⟨t, [(id, r)], []⟩ = ⟨setD d t S.slots, S.rows.set id r, S.boxes⟩ := rfl
theorem app_box (S : St) (d : Option Nat) (t : T) (b : Nat) (B : Box) : S.app d ⟨t, [], [(b, B)]⟩ = ⟨setD d t S.slots, S.rows, S.boxes.set b B⟩ := rfl
theorem set_get {α : Type} {l : List α} {i j : Nat} {x y : α} (h : (l.set i x)[j]? = some y) : (i = j ∧ y = x ∧ i < l.length) ∨ (i ≠ j ∧ l[j]? = some y) := by
  rw [List.getElem?_set] at h
  by_cases e : i = j
  · rw [if_pos e] at h
    split at h
    · exact .inl ⟨e, by simpa using h.symm, ‹_›⟩
    · simp at h
  · rw [if_neg e] at h; exact .inr ⟨e, h⟩
theorem heap_setRow (w : World) (g : Nat) (cs : Array Value) {b : Nat} (h : b ≠ g) : (w.setRow g cs).heap[b]? = w.heap[b]? := setRow_other w g b cs h
theorem fold_len {α : Type} : ∀ (l : List (Nat × α)) (r : List α), (l.foldl (fun r p => r.set p.1 p.2) r).length = r.length
  | [], r => rfl
  | p :: l, r => by rw [List.foldl_cons, fold_len l]; simp
theorem fold_get {α : Type} : ∀ (l : List (Nat × α)) (r : List α) (i : Nat) (y : α), (l.foldl (fun r p => r.set p.1 p.2) r)[i]? = some y → (∃ p ∈ l, p.1 = i ∧ p.2 = y) ∨ ((∀ p ∈ l, p.1 ≠ i) ∧ r[i]? = some y)
  | [], r, i, y, h => .inr ⟨fun p hp => (by cases hp), h⟩
  | p :: l, r, i, y, h => by
    rw [List.foldl_cons] at h
    rcases fold_get l _ i y h with ⟨q, hq, h1, h2⟩ | ⟨h1, h2⟩
    · exact .inl ⟨q, List.mem_cons_of_mem _ hq, h1, h2⟩
    · rcases set_get h2 with ⟨e1, e2, _⟩ | ⟨e1, e2⟩
      · exact .inl ⟨p, by simp, e1, e2.symm⟩
      · refine .inr ⟨fun q hq => ?_, e2⟩
        rcases List.mem_cons.1 hq with rfl | hq
        · exact e1
        · exact h1 q hq
theorem fold_mem {α : Type} : ∀ (l : List (Nat × α)) (r : List α), (l.map (·.1)).Nodup → ∀ p ∈ l, p.1 < r.length → (l.foldl (fun r p => r.set p.1 p.2) r)[p.1]? = some p.2
  | [], r, _, p, hp, _ => by cases hp
  | q :: l, r, hn, p, hp, hl => by
    rw [List.map_cons, List.nodup_cons] at hn
    rw [List.foldl_cons]
    rcases List.mem_cons.1 hp with rfl | hp
    · have key : ∀ (l : List (Nat × α)) (r : List α), p.1 ∉ l.map (·.1) → r[p.1]? = some p.2 → (l.foldl (fun r p => r.set p.1 p.2) r)[p.1]? = some p.2 := by
        intro l
        induction l with
        | nil => intro r _ h; exact h
        | cons x l ih =>
          intro r hx h
          rw [List.map_cons, List.mem_cons, not_or] at hx
          rw [List.foldl_cons]
          exact ih _ hx.2 (by rw [List.getElem?_set_ne (fun e => hx.1 e.symm)]; exact h)
      exact key l _ hn.1 (by rw [List.getElem?_set_self hl])
    · exact fold_mem l _ hn.2 p hp (by simpa using hl)
theorem nodupB_spec : ∀ {l : List Nat}, nodupB l = true → l.Nodup
  | [], _ => List.nodup_nil
  | x :: l, h => by
    simp only [nodupB, Bool.and_eq_true, Bool.not_eq_true', List.any_eq_false, beq_iff_eq] at h
    exact List.nodup_cons.2 ⟨fun hm => h.1 x hm rfl, nodupB_spec h.2⟩
theorem deads_spec {S : St} : ∀ {D : List Nat} {p : Nat × Row}, p ∈ deads S D → p.2.c = none ∧ p.1 ∈ D ∧ ∃ r, S.rows[p.1]? = some r ∧ p.2.ep = r.ep + 1
  | [], p, h => by cases h
  | id :: D, p, h => by
    simp only [deads] at h
    split at h
    · rename_i r hr
      rcases List.mem_cons.1 h with rfl | h
      · exact ⟨rfl, by simp, r, hr, rfl⟩
      · obtain ⟨h1, h2, h3⟩ := deads_spec h; exact ⟨h1, by simp [h2], h3⟩
    · obtain ⟨h1, h2, h3⟩ := deads_spec h; exact ⟨h1, by simp [h2], h3⟩
theorem deads_mem {S : St} : ∀ {D : List Nat} {id : Nat} {r : Row}, id ∈ D → S.rows[id]? = some r → (id, (⟨r.ep + 1, none⟩ : Row)) ∈ deads S D
  | [], _, _, h, _ => by cases h
  | i :: D, id, r, h, hr => by
    simp only [deads]
    rcases List.mem_cons.1 h with rfl | h
    · rw [hr]; simp
    · split
      · exact List.mem_cons_of_mem _ (deads_mem h hr)
      · exact deads_mem h hr
/-! ### cells put in, one behind the other -/
theorem putC_get {α : Type} (l : List α) (o : Nat) (xs : List α) (h : o ≤ l.length) (j : Nat) : (putC l o xs)[j]? = if j < o then l[j]? else if j < o + xs.length then xs[j - o]? else l[j]? := by
  have e1 : (l.take o).length = o := by simp; omega
  unfold putC
  rw [List.append_assoc]
  by_cases h1 : j < o
  · rw [if_pos h1, List.getElem?_append_left (by omega), List.getElem?_take, if_pos h1]
  · rw [if_neg h1, List.getElem?_append_right (by omega), e1]
    by_cases h2 : j < o + xs.length
    · rw [if_pos h2, List.getElem?_append_left (by omega)]
    · rw [if_neg h2, List.getElem?_append_right (by omega), List.getElem?_drop]
      congr 1; omega
theorem isRow_shape (k : RK) (x y : k.El) : (k.cells x).map isRow = (k.cells y).map isRow := by cases k <;> rfl
section
variable {w : World} {F : HF → Prop}
theorem DCs.nil : DCs w F 0 [] [] [] := ⟨.nil, rfl⟩
theorem DCs.app : ∀ {n m : Nat} {vs vs' : List Value} {ds ds' : List D} {B B' : List Nat}, vs.length = n → DCs w F n vs ds B → DCs w F m vs' ds' B' → DCs w F (n + m) (vs ++ vs') (ds ++ ds') (B ++ B')
  | 0, m, vs, vs', ds, ds', B, B', hl, h, h' => by
    rw [DCs.zero] at h
    obtain ⟨h1, rfl⟩ := h
    have : vs = [] := List.length_eq_zero_iff.1 hl
    subst this
    cases h1
    simpa using h'
  | n + 1, m, v :: vs, vs', x :: ds, ds', B, B', hl, h, h' => by
    obtain ⟨B1, B2, h1, h2, rfl⟩ := h
    have := DCs.app (by simpa using hl) h2 h'
    rw [show n + 1 + m = (n + m) + 1 by omega]
    exact ⟨B1, B2 ++ B', h1, this, by simp⟩
  | _ + 1, _, [], _, _, _, _, _, _, h, _ => by cases ‹List D› <;> exact h.elim
  | _ + 1, _, _ :: _, _, [], _, _, _, _, h, _ => h.elim
theorem DCs.split : ∀ {n : Nat} {vs : List Value} {ds : List D} {B : List Nat}, DCs w F n vs ds B → DCs w F n (vs.take n) (ds.take n) B ∧ F2 (Rd w F) (vs.drop n) (ds.drop n)
  | 0, vs, ds, B, h => by
    rw [DCs.zero] at h
    exact ⟨by simp only [List.take_zero]; rw [DCs.zero]; exact ⟨.nil, h.2⟩, by simpa using h.1⟩
  | n + 1, v :: vs, x :: ds, B, h => by
    obtain ⟨B1, B2, h1, h2, rfl⟩ := h
    obtain ⟨h3, h4⟩ := DCs.split h2
    exact ⟨⟨B1, B2, h1, h3, rfl⟩, by simpa using h4⟩
  | _ + 1, [], _, _, h => by cases ‹List D› <;> exact h.elim
  | _ + 1, _ :: _, [], _, h => h.elim
theorem DCs.join {n : Nat} {vs vs' : List Value} {ds ds' : List D} {B : List Nat} (hl : vs.length = n) (h : DCs w F n vs ds B) (h' : F2 (Rd w F) vs' ds') : DCs w F n (vs ++ vs') (ds ++ ds') B := by
  have := DCs.app hl h (DCs.zero.2 ⟨h', rfl⟩)
  simpa using this
theorem DCs.plain : ∀ {vs : List Value} {ds : List D}, F2 (Rd w F) vs ds → ds.any isRow = false → DCs w F vs.length vs ds []
  | [], [], _, _ => DCs.nil
  | v :: vs, x :: ds, h, hr => by
    cases h with
    | cons h1 h2 =>
      simp only [List.any_cons, Bool.or_eq_false_iff] at hr
      refine ⟨[], [], ?_, DCs.plain h2 hr.2, rfl⟩
      unfold DC
      split
      · simp [isRow] at hr
      · exact ⟨h1, rfl⟩
  | [], _ :: _, h, _ => by cases h
  | _ :: _, [], h, _ => by cases h
theorem DCs.put0 : ∀ {n : Nat} {ys : List Value} {es : List D} {vs : List Value} {ds : List D} {B : List Nat}, DCs w F n vs ds B → F2 (Rd w F) ys es → ys.length ≤ vs.length → (∀ j, j < n → j < ys.length → (∀ x, es[j]? = some x → isRow x = false) ∧ ∀ x, ds[j]? = some x → isRow x = false) →
    DCs w F n (ys ++ vs.drop ys.length) (es ++ ds.drop ys.length) B
  | n, [], es, vs, ds, B, h, hy, _, _ => by cases hy; simpa using h
  | 0, y :: ys, es, vs, ds, B, h, hy, hl, _ => by
    rw [DCs.zero] at h ⊢
    exact ⟨hy.app (h.1.drop _), h.2⟩
  | n + 1, y :: ys, e :: es, v :: vs, x :: ds, B, h, hy, hl, hr => by
    cases hy with
    | cons h1 h2 =>
      obtain ⟨B1, B2, h3, h4, rfl⟩ := h
      obtain ⟨r1, r2⟩ := hr 0 (by omega) (by simp)
      have := DCs.put0 h4 h2 (by simpa using hl) fun j hj hj2 => by
        have := hr (j + 1) (by omega) (by simpa using hj2)
        simpa using this
      obtain ⟨_, rfl⟩ := h3.not_row (r2 x rfl)
      refine ⟨[], B2, ?_, by simpa using this, rfl⟩
      unfold DC
      split
      · have := r1 _ rfl; simp [isRow] at this
      · exact ⟨h1, rfl⟩
  | n + 1, y :: ys, e :: es, [], _, _, _, _, hl, _ => by simp at hl
  | n + 1, y :: ys, e :: es, _ :: _, [], _, h, _, _, _ => h.elim
  | n + 1, _ :: _, [], _, _, _, _, hy, _, _ => by cases hy
theorem DCs.put : ∀ (o : Nat) {n : Nat} {ys : List Value} {es : List D} {vs : List Value} {ds : List D} {B : List Nat}, DCs w F n vs ds B → F2 (Rd w F) ys es → o + ys.length ≤ vs.length → (∀ j, o + j < n → j < ys.length → (∀ x, es[j]? = some x → isRow x = false) ∧ ∀ x, ds[o + j]? = some x → isRow x = false) →
    DCs w F n (putC vs o ys) (putC ds o es) B
  | 0, n, ys, es, vs, ds, B, h, hy, hl, hr => by
    have := h.put0 hy (by simpa using hl) fun j hj hj2 => by
      have := hr j (by omega) hj2
      simpa using this
    simp only [putC, List.take_zero, List.nil_append, Nat.zero_add]
    rw [← hy.len]
    exact this
  | o + 1, 0, ys, es, vs, ds, B, h, hy, hl, hr => by
    rw [DCs.zero] at h ⊢
    exact ⟨h.1.put hy _, h.2⟩
  | o + 1, n + 1, ys, es, v :: vs, x :: ds, B, h, hy, hl, hr => by
    obtain ⟨B1, B2, h1, h2, rfl⟩ := h
    have := DCs.put o h2 hy (by simp only [List.length_cons] at hl; omega) fun j hj hj2 => by
      have := hr j (by omega) hj2
      rw [show o + 1 + j = (o + j) + 1 by omega] at this
      simpa using this
    refine ⟨B1, B2, h1, ?_, rfl⟩
    simp only [putC] at this ⊢
    rw [show o + 1 + ys.length = (o + ys.length) + 1 by omega, show o + 1 + es.length = (o + es.length) + 1 by omega]
    simpa using this
  | o + 1, n + 1, ys, es, [], _, _, h, _, _, _ => by cases ‹List D› <;> exact h.elim
  | o + 1, n + 1, ys, es, _ :: _, [], _, h, _, _, _ => h.elim
end
section
variable {P : Program} {V : Env} {w0 : World} {prot : Pro} {S : St} {G : Gh} {a : Act} {w : World}
theorem Inv.own (h : Inv w0 prot S G a w) {id : Nat} {r : Row} (hr : S.rows[id]? = some r) (r' : Row) {w' : World} {G' : Gh}
    (hep : RowK G G' id r r')
    (hold : ∀ b, b < w.heap.size → G.who b ≠ .rw id → G'.who b = G.who b ∧ w'.heap[b]? = w.heap[b]?)
    (hlt : ∀ b, G'.who b ≠ .ot → b < w'.heap.size) (hbk : G'.bk = G.bk) (hsh : G'.sh = G.sh) (hhd : ∀ j, j ≠ id → G'.hd j = G.hd j ∧ ∀ q, G'.inn j q = G.inn j q)
    (hw : w'.os = w.os ∧ w'.tape = w.tape ∧ w'.output = w.output ∧ w.heap.size ≤ w'.heap.size)
    (hrow : RowR w' G' id r') : Keeps w G S.rows S.boxes w' G' (S.rows.set id r') S.boxes ∧
      ∀ v t, TR w' G' (S.rows.set id r') S.boxes v t → ∀ d, Inv w0 prot (S.app d ⟨t, [(id, r')], []⟩) G' (a.put d v) w' := by
  have old : ∀ b, G.who b ≠ .ot → G.who b ≠ .rw id → G'.who b = G.who b ∧ w'.heap[b]? = w.heap[b]? := fun b hb hn => hold b (h.lt b hb) hn
  have hkeep : Keeps w G S.rows S.boxes w' G' (S.rows.set id r') S.boxes := by
    refine ⟨fun b hb => ?_, fun j r1 hr1 => ?_, fun b B hB => ⟨B, hB, Nat.le_refl _, fun _ hc => ⟨hc, by rw [hbk]⟩⟩, fun _ _ _ hh => by rw [hsh]; exact hh⟩
    · have := old b (by rw [hb]; simp) (by rw [hb]; simp)
      exact ⟨by rw [this.1, hb], this.2⟩
    · rcases set_get hr1 with ⟨rfl, rfl, _⟩ | ⟨hne, hr1⟩
      · exact ⟨r, hr, hep⟩
      · exact ⟨r1, hr1, RowK.refl r1 (hhd j fun e => hne e.symm).1 (hhd j fun e => hne e.symm).2⟩
  refine ⟨hkeep, fun v t ht d => ?_⟩
  rw [app_row]
  refine h.step hkeep ?_ ?_ hlt ?_ ?_ (h.shs.same hsh (fun b hb => by have := old b (by rw [hb]; simp) (by rw [hb]; simp); rw [this.1, hb]) fun b hb => (old b (by rw [hb]; simp) (by rw [hb]; simp)).2) ht d
  · intro b B hB cs hcs
    have hb := h.box b B hB cs hcs
    have := old (G.bk b) (by rw [hb.1]; simp) (by rw [hb.1]; simp)
    exact hb.keep hkeep (by rw [hbk]) this.1 this.2
  · intro j r1 hr1
    rcases set_get hr1 with ⟨rfl, rfl, _⟩ | ⟨hne, hr1⟩
    · exact hrow
    · refine (h.row j r1 hr1).keep hkeep (hhd j fun e => hne e.symm).1 (fun b hb => ?_) (fun b hb => ?_) (hhd j fun e => hne e.symm).2
      · have := old b (by rw [hb]; simp) (by rw [hb]; simp; exact fun e => hne e.symm)
        rw [this.1, hb]
      · exact (old b (by rw [hb]; simp) (by rw [hb]; simp; exact fun e => hne e.symm)).2
  · refine h.kp.trans (p' := prot.p) ⟨hw.1, hw.2.1, hw.2.2.1, hw.2.2.2, fun b hb => ?_⟩ fun _ hx => hx
    have hl := Nat.lt_of_lt_of_le (h.prl b hb) h.kp.size
    exact (hold b hl (by rcases h.pr b hb with ⟨e, _⟩ | ⟨e, _⟩ <;> rw [e] <;> simp)).2
  · intro b hb
    have hl := Nat.lt_of_lt_of_le (h.prl b hb) h.kp.size
    rw [(hold b hl (by rcases h.pr b hb with ⟨e, _⟩ | ⟨e, _⟩ <;> rw [e] <;> simp)).1]
    exact h.pr b hb
def Gh.head (G : Gh) (id : Nat) (v : Value) : Gh := { G with hd := fun j => if j = id then v else G.hd j }
theorem Gh.head_same (G : Gh) (id : Nat) (v : Value) : (G.head id v).hd id = v := by simp [Gh.head]
theorem Gh.head_other (G : Gh) (id : Nat) (v : Value) {j : Nat} (h : j ≠ id) : (G.head id v).hd j = G.hd j := by simp [Gh.head, h]
theorem ref_tr {rows : List Row} {bs : List Box} {id ep : Nat} {c : RC} {v : Value} {xs : List Value} {B : List Nat} {F : HF → Prop} (hg : G.hd id = v) (hr : rows[id]? = some ⟨ep, some c⟩) (ho : OwnX w F v c xs B) : TR w G rows bs v (.v false [.ref id ep]) := by
  have h1 := ho.one
  refine ⟨_, rfl, h1.1, h1.2, fun r1 hr1 => ?_⟩
  rw [hr] at hr1
  cases hr1
  exact ⟨Nat.le_refl _, fun _ _ => hg.symm⟩
theorem dn_zero {c : RC} (h : c.m.d.getD 0 = 0) : c.dn = 0 := by unfold RC.dn; rw [h, Nat.zero_mul]
theorem OwnX.mk0 {F : HF → Prop} {v : Value} {c : RC} {xs : List Value} (hp : c.m.p = false) (hd : c.m.d.getD 0 = 0) (h : OwnsC w 0 c.e c.k.size v c.l.length xs) (hf : F2 (Rd w F) xs (flat c.k c.l)) : OwnX w F v c xs (ownB v).toList :=
  ⟨by unfold outC; rw [hp]; exact h, [], by rw [dn_zero hd, DCs.zero]; exact ⟨hf, rfl⟩, by unfold obB; rw [hp]; simp⟩
theorem InnOk.zero {id : Nat} {c : RC} {xs : List Value} (hd : c.m.d.getD 0 = 0) : InnOk G id c xs := fun j hj => by rw [dn_zero hd] at hj; omega
theorem Inv.own_nil (h : Inv w0 prot S G a w) {id : Nat} {r : Row} (hr : S.rows[id]? = some r) (e : Nat) (k : RK) (m : RM) (hm : m.d.getD 0 = 0 ∧ m.h = false ∧ m.p = false) (x : Option Addr) (d : Option Nat) :
    ∃ G', Inv w0 prot (S.app d ⟨.v false [.ref id (r.ep + 1)], [(id, ⟨r.ep + 1, some ⟨e, k, [], m⟩⟩)], []⟩) G' (a.put d (.slice x 0 0)) w := by
  have ho : OwnX w G.F (.slice x 0 0) ⟨e, k, [], m⟩ [] (ownB (.slice x 0 0)).toList := OwnX.mk0 hm.2.2 hm.1 ⟨by simp, .inl ⟨⟨x, rfl⟩, rfl⟩⟩ .nil
  have hid : id < S.rows.length := (List.getElem?_eq_some_iff.1 hr).1
  have := h.own hr ⟨r.ep + 1, some ⟨e, k, [], m⟩⟩ (w' := w) (G' := G.head id (.slice x 0 0)) (RowK.new (by simp) fun c' hc' => by cases hc'; exact hm.2.1) (fun b _ _ => ⟨rfl, rfl⟩) h.lt rfl rfl (fun j hj => ⟨Gh.head_other _ _ _ hj, fun _ => rfl⟩) ⟨rfl, rfl, rfl, Nat.le_refl _⟩
    (by intro c hc; cases hc; rw [Gh.head_same]; exact ⟨_, _, ho, by rw [ownB_zero]; exact List.nodup_nil, fun b hb => (by simp [ownB_zero] at hb), InnOk.zero hm.1⟩)
  exact ⟨_, this.2 _ _ (ref_tr (Gh.head_same _ _ _) (by rw [List.getElem?_set_self hid]) ho) d⟩
def Gh.inns (G : Gh) (id : Nat) (xs : List Value) : Gh := { G with inn := fun i j => if i = id then xs.getD j undef else G.inn i j }
theorem Gh.inns_other (G : Gh) (id : Nat) (xs : List Value) {i : Nat} (h : i ≠ id) (j : Nat) : (G.inns id xs).inn i j = G.inn i j := by simp [Gh.inns, h]
theorem InnOk.self {G : Gh} {id : Nat} {c : RC} {xs : List Value} (h : c.dn ≤ xs.length) : InnOk (G.inns id xs) id c xs := fun j hj k l _ => by
  have : (G.inns id xs).inn id j = xs.getD j undef := by simp [Gh.inns]
  rw [this, List.getD_eq_getElem?_getD, List.getElem?_eq_getElem (by omega)]; rfl
def Gh.innFrom (G : Gh) (id n : Nat) (xs : List Value) : Gh := { G with inn := fun i j => if i = id ∧ n ≤ j then xs.getD j undef else G.inn i j }
theorem Gh.innFrom_other (G : Gh) (id n : Nat) (xs : List Value) {i : Nat} (h : i ≠ id) (j : Nat) : (G.innFrom id n xs).inn i j = G.inn i j := by simp [Gh.innFrom, h]
theorem Gh.innFrom_lt (G : Gh) (id n : Nat) (xs : List Value) {j : Nat} (h : j < n) : (G.innFrom id n xs).inn id j = G.inn id j := by
  show (if id = id ∧ n ≤ j then _ else _) = _
  rw [if_neg (fun hc => by omega)]
theorem Gh.innFrom_ge (G : Gh) (id n : Nat) (xs : List Value) {j : Nat} (h : n ≤ j) (hl : j < xs.length) : xs[j]? = some ((G.innFrom id n xs).inn id j) := by
  have : (G.innFrom id n xs).inn id j = xs.getD j undef := by
    show (if id = id ∧ n ≤ j then _ else _) = _
    rw [if_pos ⟨rfl, h⟩]
  rw [this, List.getD_eq_getElem?_getD, List.getElem?_eq_getElem hl]; rfl
def Gh.retag (G : Gh) (T : List Nat) (id : Nat) : Gh := { G with who := fun b => if b ∈ T then .rw id else G.who b }
theorem Gh.retag_in (G : Gh) {T : List Nat} (id : Nat) {b : Nat} (h : b ∈ T) : (G.retag T id).who b = .rw id := by simp [Gh.retag, h]
theorem Gh.retag_out (G : Gh) {T : List Nat} (id : Nat) {b : Nat} (h : b ∉ T) : (G.retag T id).who b = G.who b := by simp [Gh.retag, h]
theorem Inv.kill (h : Inv w0 prot S G a w) (gs T : List Nat) (id : Nat) (hT : ∀ b ∈ T, ∃ g ∈ gs, G.who b = .rw g) :
    Keeps w G S.rows S.boxes w (G.retag T id) ((deads S gs).foldl (fun r p => r.set p.1 p.2) S.rows) S.boxes ∧ Inv w0 prot ⟨S.slots, (deads S gs).foldl (fun r p => r.set p.1 p.2) S.rows, S.boxes⟩ (G.retag T id) a w := by
  have out : ∀ b, (∀ g ∈ gs, G.who b ≠ .rw g) → (G.retag T id).who b = G.who b := fun b hb => Gh.retag_out G id fun hm => by
    obtain ⟨g, hg, hw⟩ := hT b hm
    exact hb g hg hw
  have hkeep : Keeps w G S.rows S.boxes w (G.retag T id) ((deads S gs).foldl (fun r p => r.set p.1 p.2) S.rows) S.boxes := by
    refine ⟨fun b hb => ⟨by rw [out b fun g _ => by rw [hb]; simp, hb], rfl⟩, fun j r' hr' => ?_, fun b B' hB => ⟨B', hB, Nat.le_refl _, fun _ h => ⟨h, rfl⟩⟩, fun _ _ _ h => h⟩
    rcases fold_get _ _ _ _ hr' with ⟨p, hp, rfl, rfl⟩ | ⟨h1, h2⟩
    · obtain ⟨q1, _, r, q2, q3⟩ := deads_spec hp
      exact ⟨r, q2, RowK.none (by omega) q1⟩
    · exact ⟨r', h2, RowK.refl r' rfl fun _ => rfl⟩
  refine ⟨hkeep, ?_⟩
  have := h.step hkeep (fun b B hB cs hcs => ?_) (fun j r' hr' => ?_) (fun b hb => ?_) h.kp (fun b hb => ?_) (h.shs.same rfl (fun b hb => by rw [out b fun g _ => by rw [hb]; simp]; exact hb) fun _ _ => rfl) (v := undef) (t := .und) rfl none
  · exact this
  · have hbx := h.box b B hB cs hcs
    exact hbx.keep hkeep rfl (out _ fun g _ => by rw [hbx.1]; simp) rfl
  · rcases fold_get _ _ _ _ hr' with ⟨p, hp, rfl, rfl⟩ | ⟨h1, h2⟩
    · obtain ⟨q1, _⟩ := deads_spec hp
      intro c hc; rw [q1] at hc; cases hc
    · refine (h.row j r' h2).keep hkeep rfl (fun b hb => ?_) (fun _ _ => rfl) fun _ => rfl
      rw [out b fun g hg e => ?_, hb]
      rw [hb] at e
      cases e
      exact h1 _ (deads_mem hg h2) rfl
  · by_cases hm : b ∈ T
    · obtain ⟨g, _, hw⟩ := hT b hm
      exact h.lt b (by rw [hw]; simp)
    · rw [Gh.retag_out G id hm] at hb; exact h.lt b hb
  · rw [out b fun g _ => by rcases h.pr b hb with ⟨e, _⟩ | ⟨e, _⟩ <;> (rw [e]; simp)]
    exact h.pr b hb
theorem Inv.own_new (h : Inv w0 prot S G a w) {id : Nat} {r : Row} (hr : S.rows[id]? = some r) (e : Nat) (k : RK) (l : List k.El) (m : RM) (hm : m.h = false ∧ m.p = false) (cur : Array Value) (hc : cur.size = l.length * k.size) (T : List Nat) (hf : DCs w G.F (RC.dn ⟨e, k, l, m⟩) cur.toList (flat k l) T) (hTn : T.Nodup) (hTt : ∀ b ∈ T, G.who b = .rw id) (hl : l.length ≤ maxLen) (d : Option Nat) :
    ∃ G', Inv w0 prot (S.app d ⟨.v false [.ref id (r.ep + 1)], [(id, ⟨r.ep + 1, some ⟨e, k, l, m⟩⟩)], []⟩) G' (a.put d (.slice (some ⟨w.heap.size, 0, none⟩) l.length l.length)) (w.alloc (.cells cur e (0, 0))) := by
  have hid : id < S.rows.length := (List.getElem?_eq_some_iff.1 hr).1
  let v : Value := .slice (some ⟨w.heap.size, 0, none⟩) l.length l.length
  let G1 := G.new w.heap.size (.rw id)
  let G' := (G1.head id v).inns id cur.toList
  have hold : ∀ b, b < w.heap.size → G.who b ≠ .rw id → G'.who b = G.who b ∧ (w.alloc (.cells cur e (0, 0))).heap[b]? = w.heap[b]? := fun b hb _ => ⟨Gh.new_other G _ (by omega), alloc_old w _ hb⟩
  have hlt : ∀ b, G'.who b ≠ .ot → b < (w.alloc (.cells cur e (0, 0))).heap.size := by
    intro b hb
    by_cases e : b = w.heap.size
    · subst e; simp
    · have h1 : G'.who b = G.who b := Gh.new_other G _ e
      rw [h1] at hb; have := h.lt b hb; simp; omega
  have hF : (∀ x, G.F x → G'.F x) ∧ ∀ b : Nat, G.F (.b b) → (w.alloc (.cells cur e (0, 0))).heap[b]? = w.heap[b]? := by
    have key : ∀ b, G.who b = .fz → G'.who b = .fz ∧ (w.alloc (.cells cur e (0, 0))).heap[b]? = w.heap[b]? := fun b hb' => by
      have := hold b (h.lt b (by rw [hb']; simp)) (by rw [hb']; simp)
      exact ⟨by rw [this.1, hb'], this.2⟩
    exact ⟨Gh.F_le (fun b hb => (key b hb).1) fun _ _ _ hh => hh, fun b hb => (key b hb).2⟩
  have hTlt : ∀ b ∈ T, b < w.heap.size := fun b hb => h.lt b (by rw [hTt b hb]; simp)
  have ho : OwnX (w.alloc (.cells cur e (0, 0))) G'.F v ⟨e, k, l, m⟩ cur.toList ((ownB v).toList ++ T) := by
    refine ⟨?_, T, hf.mono hF fun b hb => alloc_old w _ (hTlt b hb), by unfold obB; dsimp only; rw [hm.2]⟩
    unfold outC
    dsimp only
    rw [hm.2]
    exact ⟨by simp [hc], (Nat.eq_zero_or_pos l.length).elim (fun h0 => .inl ⟨⟨some ⟨w.heap.size, 0, none⟩, by show Value.slice _ l.length l.length = _; rw [h0]⟩, h0⟩) fun hpos => .inr ⟨w.heap.size, l.length, cur, rfl, Nat.zero_le _, heap_alloc_new w _, Nat.le_refl _, hl, (by show l.length * k.size ≤ cur.size; omega), by rw [List.take_of_length_le (by simp [hc])], hpos⟩⟩
  have hvb : ∀ b, ownB v = some b → b = w.heap.size := fun b hb => by
    cases hn : l.length with
    | zero => simp only [v, hn, ownB_zero] at hb; cases hb
    | succ n => simp only [v, hn, ownB, Option.some.injEq] at hb; exact hb.symm
  have := h.own hr ⟨r.ep + 1, some ⟨e, k, l, m⟩⟩ (w' := w.alloc (.cells cur e (0, 0))) (G' := G') (RowK.new (by simp) fun c' hc' => by cases hc'; exact hm.1) hold hlt rfl rfl (fun j hj => ⟨Gh.head_other _ _ _ hj, fun q => Gh.inns_other _ _ _ hj q⟩) ⟨rfl, rfl, rfl, by simp⟩
    (by
      intro c hc'; cases hc'
      rw [show G'.hd id = v from Gh.head_same _ _ _]
      refine ⟨_, _, ho, List.nodup_append.2 ⟨by cases ownB v <;> simp, hTn, fun b hb b' hb' e => ?_⟩, fun b hb => ?_, InnOk.self hf.len.2⟩
      · have h1 := hvb b (by simpa using hb)
        have h2 := hTlt b' hb'
        omega
      · rcases List.mem_append.1 hb with hb | hb
        · have := hvb b (by simpa using hb)
          subst this
          exact Gh.new_same _ _ _
        · exact (Gh.new_other G _ (Nat.ne_of_lt (hTlt b hb))).trans (hTt b hb))
  exact ⟨_, this.2 _ _ (ref_tr (Gh.head_same _ _ _) (by rw [List.getElem?_set_self hid]) ho) d⟩
theorem slice_all_one {F : HF → Prop} {xs : List Value} {ds : List D} (h : F2 (Rd w F) xs ds) : ∀ u ∈ xs, u.oneCell' = true := h.all fun _ _ hh => hh.one
theorem cr_all_one {rows : List Row} {xs : List Value} {ds : List Cm} (h : F2 (CR w G rows) xs ds) : ∀ u ∈ xs, u.oneCell' = true := h.all fun v c hh => by
  cases c with
  | d x => exact hh.one
  | ref id ep => exact hh.1
  | dead => exact hh.1
theorem putC_put {α : Type} (l : List α) (o off : Nat) (c xs : List α) (hc : (l.drop o).take c.length = c) (ho : o + c.length ≤ l.length) (hx : off + xs.length ≤ c.length) :
    putC l o (putC c off xs) = putC l (o + off) xs := by
  have hl : (putC c off xs).length = c.length := putC_len _ _ _ hx
  apply List.ext_getElem?
  intro i
  have e1 : (l.take o).length = o := by simp; omega
  have e2 : (l.take (o + off)).length = o + off := by simp; omega
  have e3 : (c.take off).length = off := by simp; omega
  have e4 : (putC c off xs).length = c.length := hl
  have hcl : ∀ j, j < c.length → c[j]? = l[o + j]? := by
    intro j hj
    conv => lhs; rw [← hc]
    rw [List.getElem?_take, if_pos hj, List.getElem?_drop]
  unfold putC at e4 ⊢
  simp only [List.append_assoc]
  by_cases h1 : i < o
  · rw [List.getElem?_append_left (by omega), List.getElem?_append_left (by omega), List.getElem?_take, List.getElem?_take, if_pos h1, if_pos (by omega)]
  · rw [List.getElem?_append_right (by omega), e1]
    by_cases h2 : i < o + off
    · rw [List.getElem?_append_left (by omega), List.getElem?_append_left (by omega), List.getElem?_take, List.getElem?_take, if_pos (by omega), if_pos h2, hcl _ (by omega)]
      congr 1; omega
    · rw [List.getElem?_append_right (l₁ := l.take (o + off)) (by omega), e2]
      rw [List.getElem?_append_right (l₁ := c.take off) (by omega), e3]
      by_cases h3 : i - (o + off) < xs.length
      · rw [List.getElem?_append_left (by omega), List.getElem?_append_left (by omega)]
        congr 1; omega
      · rw [List.getElem?_append_right (l₁ := xs) (l₂ := l.drop _) (by omega), List.getElem?_append_right (l₁ := xs) (by omega)]
        by_cases h4 : i < o + c.length
        · rw [List.getElem?_append_left (by simp; omega), List.getElem?_drop, List.getElem?_drop, hcl _ (by omega)]
          congr 1; omega
        · rw [List.getElem?_append_right (by simp; omega), List.getElem?_drop, List.getElem?_drop]
          congr 1; simp; omega
end
end Go.Proofs.YtjjcjpmfkbfdfaaE
