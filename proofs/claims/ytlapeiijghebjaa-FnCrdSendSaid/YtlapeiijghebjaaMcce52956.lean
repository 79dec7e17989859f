/- A part of the proof of laws of the program: what calls of the program answer. Conditions: none. -/
import Derived.Orders
import Derived.RowKit
import Derived.KernelRfl
import Derived.Below
import Derived.ArgAppend
import Derived.Laws.MakeOwn
import Derived.Laws.IdiomCopy
import Derived.Laws.Tables
import Derived.WalkKit
import Derived.WalkSpells
import Derived.Maps.AppendAt
set_option linter.unusedVariables false
set_option linter.unusedSimpArgs false
set_option linter.unusedSectionVars false
/- An evaluator of Go's operations over plain data: numbers, bools, rows. Definitions alone. Conditions: none. -/
set_option linter.unusedVariables false
namespace Go.Proofs.YtlapeiijghebjaaE
open Go Go.RowKit
/-! ### the program's data -/
structure Cfg where
  mode : Int
  win : Int
  mps : Int
  mtu : Int
  try_ : Int
  deriving DecidableEq
structure Part where
  seg : Int
  len : Int
  data : List Int
  deriving DecidableEq
structure Frm where
  kind : Int
  seq : Int
  ack : Int
  poll : Bool
  final : Bool
  say : Int
  seg : Int
  len : Int
  data : List Int
  deriving DecidableEq
structure TxS where
  next : Int
  acked : Int
  flight : List Part
  sent : Int
  queue : List Part
  asks : Bool
  tries : Int
  held : Bool
  count : Int
  dead : Bool
  deriving DecidableEq
structure JoinS where
  len : Int
  got : List Int
  deriving DecidableEq
structure RxS where
  expect : Int
  count : Int
  join : JoinS
  again : Bool
  busy : Bool
  dead : Bool
  deriving DecidableEq
structure CtS where
  have_ : Int
  queue : List Part
  granted : Int
  sent : Int
  dead : Bool
  deriving DecidableEq
structure CrS where
  out : Int
  join : JoinS
  dead : Bool
  deriving DecidableEq
structure EndS where
  tx : TxS
  rx : RxS
  ctx : CtS
  crx : CrS
  put : List (List Int)
  got : List (List Int)
  deriving DecidableEq
structure NetS where
  bent : Bool
  bytes : List Int
  deriving DecidableEq
/-- What a row's elements are. -/
inductive RK where
  | u8 | i64 | byr | part | frm | wend | netm | nets
  deriving DecidableEq
def RK.El : RK → Type
  | .u8 | .i64 => Int
  | .byr => List Int
  | .part => Part
  | .frm => Frm
  | .wend => EndS
  | .netm => NetS
  | .nets => List NetS
/-- A cell's data. -/
inductive D where
  | i (k : IntKind) (x : Int)
  | b (x : Bool)
  | r (k : RK) (l : List k.El)
def txC (t : TxS) : List D := [.i .i64 t.next, .i .i64 t.acked, .r .part t.flight, .i .i64 t.sent, .r .part t.queue, .b t.asks, .i .i64 t.tries, .b t.held, .i .i64 t.count, .b t.dead]
def rxC (r : RxS) : List D := [.i .i64 r.expect, .i .i64 r.count, .i .i64 r.join.len, .r .u8 r.join.got, .b r.again, .b r.busy, .b r.dead]
def ctC (t : CtS) : List D := [.i .i64 t.have_, .r .part t.queue, .i .i64 t.granted, .i .i64 t.sent, .b t.dead]
def crC (r : CrS) : List D := [.i .i64 r.out, .i .i64 r.join.len, .r .u8 r.join.got, .b r.dead]
def RK.cells : (k : RK) → k.El → List D
  | .u8, x => [.i .u8 x]
  | .i64, x => [.i .i64 x]
  | .byr, l => [.r .u8 l]
  | .part, p => [.i .i64 p.seg, .i .i64 p.len, .r .u8 p.data]
  | .frm, f => [.i .i64 f.kind, .i .i64 f.seq, .i .i64 f.ack, .b f.poll, .b f.final, .i .i64 f.say, .i .i64 f.seg, .i .i64 f.len, .r .u8 f.data]
  | .wend, e => txC e.tx ++ (rxC e.rx ++ (ctC e.ctx ++ (crC e.crx ++ [.r .byr e.put, .r .byr e.got])))
  | .netm, n => [.b n.bent, .r .u8 n.bytes]
  | .nets, l => [.r .netm l]
def RK.size : RK → Nat
  | .u8 | .i64 | .byr | .nets => 1
  | .part => 3
  | .frm => 9
  | .wend => 28
  | .netm => 2
def mkU8 : List D → Option Int
  | [.i .u8 x] => some x
  | _ => none
def mkI64 : List D → Option Int
  | [.i .i64 x] => some x
  | _ => none
def mkByr : List D → Option (List Int)
  | [.r .u8 l] => some l
  | _ => none
def mkPart : List D → Option Part
  | [.i .i64 a, .i .i64 b, .r .u8 l] => some ⟨a, b, l⟩
  | _ => none
def mkFrm : List D → Option Frm
  | [.i .i64 a, .i .i64 b, .i .i64 c, .b d, .b e, .i .i64 f, .i .i64 g, .i .i64 h, .r .u8 l] => some ⟨a, b, c, d, e, f, g, h, l⟩
  | _ => none
def mkTx : List D → Option TxS
  | [.i .i64 a0, .i .i64 a1, .r .part a2, .i .i64 a3, .r .part a4, .b a5, .i .i64 a6, .b a7, .i .i64 a8, .b a9] => some ⟨a0, a1, a2, a3, a4, a5, a6, a7, a8, a9⟩
  | _ => none
def mkRx : List D → Option RxS
  | [.i .i64 b0, .i .i64 b1, .i .i64 b2, .r .u8 b3, .b b4, .b b5, .b b6] => some ⟨b0, b1, ⟨b2, b3⟩, b4, b5, b6⟩
  | _ => none
def mkCt : List D → Option CtS
  | [.i .i64 c0, .r .part c1, .i .i64 c2, .i .i64 c3, .b c4] => some ⟨c0, c1, c2, c3, c4⟩
  | _ => none
def mkCr : List D → Option CrS
  | [.i .i64 d0, .i .i64 d1, .r .u8 d2, .b d3] => some ⟨d0, ⟨d1, d2⟩, d3⟩
  | _ => none
def mkPG : List D → Option (List (List Int) × List (List Int))
  | [.r .byr p, .r .byr g] => some (p, g)
  | _ => none
def mkEnd (ds : List D) : Option EndS := match mkTx (ds.take 10), mkRx ((ds.drop 10).take 7), mkCt ((ds.drop 17).take 5), mkCr ((ds.drop 22).take 4), mkPG (ds.drop 26) with
  | some a, some b, some c, some d, some (p, g) => some ⟨a, b, c, d, p, g⟩
  | _, _, _, _, _ => none
def mkNet : List D → Option NetS
  | [.b b, .r .u8 l] => some ⟨b, l⟩
  | _ => none
def mkNets : List D → Option (List NetS)
  | [.r .netm l] => some l
  | _ => none
def RK.mk : (k : RK) → List D → Option k.El
  | .u8, ds => mkU8 ds
  | .i64, ds => mkI64 ds
  | .byr, ds => mkByr ds
  | .part, ds => mkPart ds
  | .frm, ds => mkFrm ds
  | .wend, ds => mkEnd ds
  | .netm, ds => mkNet ds
  | .nets, ds => mkNets ds
def RK.z : (k : RK) → k.El
  | .u8 => (0 : Int)
  | .i64 => (0 : Int)
  | .byr => ([] : List Int)
  | .part => (⟨0, 0, []⟩ : Part)
  | .frm => (⟨0, 0, 0, false, false, 0, 0, 0, []⟩ : Frm)
  | .wend => (⟨⟨0, 0, [], 0, [], false, 0, false, 0, false⟩, ⟨0, 0, ⟨0, []⟩, false, false, false⟩, ⟨0, [], 0, 0, false⟩, ⟨0, ⟨0, []⟩, false⟩, [], []⟩ : EndS)
  | .netm => (⟨false, []⟩ : NetS)
  | .nets => ([] : List NetS)
/-- Element i. -/
def RK.at (k : RK) (l : List k.El) (i : Nat) : k.El := l.getD i k.z
/-- How many elements a row has at most. -/
def LIM : Nat := 137438953472
/-! ### a function's state -/
inductive Cm where
  | d (x : D)
  | ref (id ep : Nat)
  | dead
inductive T where
  | un
  | und
  | v (agg : Bool) (cs : List Cm)
  | pb (b ep off : Nat)
  | pr (id ep i off : Nat)
  | pp (k : RK) (l : List k.El) (i off : Nat)
  | tup (l : List (Bool × List Cm))
  | fn (f : Nat) (cb : Option (Nat × Nat))
/-- A row's contents: its elements' type, and they. -/
structure RC where
  e : Nat
  k : RK
  l : List k.El
structure Row where
  ep : Nat
  c : Option RC
structure Box where
  ep : Nat
  c : Option (List Cm)
structure St where
  slots : List T
  rows : List Row
  boxes : List Box
/-- What is told of a type: is it a struct; its zero value's cells; a slice's elements; its cells' rows' element types; a struct's fields (where each lies, its type). -/
structure TyI where
  agg : Bool
  zc : List D
  el : Option (RK × Nat)
  zo : List Nat
  fs : List (Nat × Nat)
/-- A cell that is handed over: data, or a row of one's own. -/
inductive AC where
  | d (x : D)
  | own (c : RC)
/-- What is handed over, or comes back: a value; a pointer to a variable of these cells (coming back: to a new one). -/
inductive Arg where
  | v (agg : Bool) (cs : List AC)
  | p (cs : List AC)
/-- A function that is told by its answers: the cells (argument, cell) that it takes for its own; what must hold that it answers within what is asked. -/
structure Ent where
  own : List (Nat × Nat)
  res : List (Nat × Nat)
  F : List Arg → (List Arg → List (List AC) → Prop) → Prop
  clo : Option (Nat × Bool) := none
  mono : ∀ as (K K' : List Arg → List (List AC) → Prop), (∀ rs bs, K rs bs → K' rs bs) → F as K → F as K'
inductive Ex where
  | normal
  | exit (id : Nat)
  | ret
structure Env where
  tys : List (Nat × TyI)
  calls : List (Nat × Ent)
  own : List (Nat × List Nat)               -- destination: the rows that it makes
  bx : List (Nat × Nat)                     -- destination: the variable that it makes
  unst : List (Nat × (List Nat × List Nat)) -- a region that draws: variables and rows that may turn in it
  loops : List (Nat × (St → (Ex → St → Prop) → Prop))
  fz : List Nat                             -- appends whose row is given up, as data
def look {β : Type} (a : Nat) : List (Nat × β) → Option β
  | [] => none
  | (x, y) :: r => if a = x then some y else look a r
/-! ### looking -/
def D.zero? : D → Bool
  | .i _ x => x == 0
  | .b x => !x
  | .r _ l => l.isEmpty
def num (k : IntKind) (x : Int) : T := .v false [.d (.i k x)]
def boo (x : Bool) : T := .v false [.d (.b x)]
def dat (agg : Bool) (ds : List D) : T := .v agg (ds.map .d)
def opC (V : Env) (ty : Nat) : Operand → Option T
  | .const (.int k n) => some (num k n)
  | .const (.bool b) => some (boo b)
  | .const (.slice none 0 0) => match look ty V.tys with
    | some ⟨false, _, some (k, _), _, _⟩ => some (.v false [.d (.r k [])])
    | _ => none
  | .const (.pointer none) => some .un
  | .func f => some (.fn f none)
  | _ => none
def St.opnd (V : Env) (S : St) (ty : Nat) : Operand → Option T
  | .tmp t => S.slots[t]?
  | .const v => opC V ty (.const v)
  | .func f => opC V ty (.func f)
  | .global g => none
/-- The live contents of a row. -/
def St.live (S : St) (id ep : Nat) : Option RC := match S.rows[id]? with
  | some r => if ep = r.ep then r.c else none
  | none => none
def St.box (S : St) (b ep : Nat) : Option (List Cm) := match S.boxes[b]? with
  | some B => if ep = B.ep then B.c else none
  | none => none
/-- A slice's elements. -/
def St.elems (S : St) : T → Option ((k : RK) × List k.El)
  | .v false [.d (.r k l)] => some ⟨k, l⟩
  | .v false [.ref id ep] => match S.live id ep with
    | some c => some ⟨c.k, c.l⟩
    | none => none
  | _ => none
def Cm.plain (S : St) : Cm → Option D
  | .d x => some x
  | .ref id ep => match S.live id ep with
    | some c => some (.r c.k c.l)
    | none => none
  | .dead => none
def plains (S : St) : List Cm → Option (List D)
  | [] => some []
  | c :: cs => match c.plain S, plains S cs with
    | some x, some xs => some (x :: xs)
    | _, _ => none
/-- Cells that are data. -/
def datas : List Cm → Option (List D)
  | [] => some []
  | .d x :: cs => match datas cs with
    | some xs => some (x :: xs)
    | none => none
  | _ :: _ => none
structure Outc where
  t : T
  rows : List (Nat × Row)
  boxes : List (Nat × Box)
def setD {α : Type} (d : Option Nat) (x : α) (l : List α) : List α := match d with
  | some i => l.set i x
  | none => l
def St.app (S : St) (d : Option Nat) (o : Outc) : St :=
  { slots := setD d o.t S.slots
    rows := o.rows.foldl (fun r p => r.set p.1 p.2) S.rows
    boxes := o.boxes.foldl (fun r p => r.set p.1 p.2) S.boxes }
def val (t : T) : Outc := ⟨t, [], []⟩
/-! ### operations on numbers -/
def intOp (k : IntKind) (x y : Int) : BinOp → Option (Option Prop × T)
  | .add => some (none, num k (k.wrap (x + y)))
  | .sub => some (none, num k (k.wrap (x - y)))
  | .mul => some (none, num k (k.wrap (x * y)))
  | .quo => some (some (y ≠ 0), num k (k.wrap (x.tdiv y)))
  | .rem => some (some (y ≠ 0), num k (x.tmod y))
  | .and => some (none, num k (Go.bits .and k x y))
  | .or => some (none, num k (Go.bits .or k x y))
  | .xor => some (none, num k (Go.bits .xor k x y))
  | .eql => some (none, boo (x == y))
  | .neq => some (none, boo (x != y))
  | .lss => some (none, boo (decide (x < y)))
  | .leq => some (none, boo (decide (x ≤ y)))
  | .gtr => some (none, boo (decide (x > y)))
  | .geq => some (none, boo (decide (x ≥ y)))
  | _ => none
def shiftOp (k : IntKind) (x y : Int) : BinOp → Option (Option Prop × T)
  | .shr => some (some (0 ≤ y), num k (x.fdiv (2 ^ (min y.toNat k.bits))))
  | .shl => some (some (0 ≤ y), num k (k.wrap (x * 2 ^ (min y.toNat k.bits))))
  | _ => none
def binT (tb : Bool) (op : BinOp) : T → T → Option (Option Prop × T)
  | .v false [.d (.i k x)], .v false [.d (.i k' y)] => match op with
    | .shr => shiftOp k x y .shr
    | .shl => shiftOp k x y .shl
    | op => if k = k' then intOp k x y op else none
  | .v false [.d (.b x)], .v false [.d (.b y)] => match tb, op with
    | true, .eql => some (none, boo (x == y))
    | true, .neq => some (none, boo (x != y))
    | _, _ => none
  | _, _ => none
/-- A cut of a list of cells, and a list with some put in. -/
def cutC {α : Type} (l : List α) (off n : Nat) : List α := (l.drop off).take n
def putC {α : Type} (l : List α) (off : Nat) (xs : List α) : List α := l.take off ++ xs ++ l.drop (off + xs.length)
def T.cells : T → Option (Bool × List Cm)
  | .v g cs => some (g, cs)
  | _ => none
section
variable (V : Env)
def Env.ty (t : Nat) : Option TyI := look t V.tys
def boolTy (t : Nat) : Bool := match look t V.tys with
  | some ⟨false, [.b _], _, _, _⟩ => true
  | _ => false
/-- The parts of a struct that is built. -/
def buildT (S : St) (fs : List (Nat × Nat)) : List (Nat × Operand) → List Cm → Option (List Cm)
  | [], cs => some cs
  | (f, x) :: r, cs => match fs[f]? with
    | some (off, ft) => match V.ty ft, S.opnd V ft x with
      | some I, some (.v _ xs) => if xs.length = I.zc.length ∧ off + xs.length ≤ cs.length then buildT S fs r (putC cs off xs) else none
      | _, _ => none
    | none => none
/-- The elements of a slice literal, one behind the other. -/
def elemsT (S : St) (k : RK) (et : Nat) : Nat → List (Nat × Operand) → Option (List k.El)
  | _, [] => some []
  | j, (i, x) :: r => if i = j then match S.opnd V et x with
      | some (.v _ cs) => match datas cs with
        | some ds => match k.mk ds, elemsT S k et (j + 1) r with
          | some e, some es => some (e :: es)
          | _, _ => none
        | none => none
      | _ => none
    else none
def loadT (S : St) (g : Bool) (n : Nat) : T → Option (Option Prop × T)
  | .pb b ep off => match S.box b ep with
    | some cs => if off + n ≤ cs.length then some (none, .v g (cutC cs off n)) else none
    | none => none
  | .pp k l i off => if off + n ≤ k.size then some (none, dat g (cutC (k.cells (k.at l i)) off n)) else none
  | .pr id ep i off => match S.live id ep with
    | some c => if off + n ≤ c.k.size then some (none, dat g (cutC (c.k.cells (c.k.at c.l i)) off n)) else none
    | none => none
  | _ => none
def fieldT (S : St) (off : Nat) : T → Option T
  | .pb b ep o => match S.box b ep with
    | some _ => some (.pb b ep (o + off))
    | none => none
  | .pp k l i o => some (.pp k l i (o + off))
  | .pr id ep i o => match S.live id ep with
    | some _ => some (.pr id ep i (o + off))
    | none => none
  | _ => none
def indexT (S : St) (x : T) (i : Int) : Option (Option Prop × T) := match x with
  | .v false [.d (.r k l)] => some (some (0 ≤ i ∧ i < l.length), .pp k l i.toNat 0)
  | .v false [.ref id ep] => match S.live id ep with
    | some c => some (some (0 ≤ i ∧ i < c.l.length), .pr id ep i.toNat 0)
    | none => none
  | _ => none
def intT : T → Option Int
  | .v false [.d (.i _ x)] => some x
  | _ => none
def endT (d : Int) : Option (Option T) → Option Int
  | none => some d
  | some t => t.bind intT
def sliceT (k : RK) (l : List k.El) (lo hi mx : Option (Option T)) : Option (Option Prop × T) :=
  match endT 0 lo, endT l.length hi with
  | some a, some b => match mx with
    | none => some (some (0 ≤ a ∧ a ≤ b ∧ b ≤ l.length), .v false [.d (.r k ((l.drop a.toNat).take (b.toNat - a.toNat)))])
    | some t => match hi, t.bind intT with
      | some _, some m => some (some (0 ≤ a ∧ a ≤ b ∧ b ≤ m ∧ m ≤ l.length), .v false [.d (.r k ((l.drop a.toNat).take (b.toNat - a.toNat)))])
      | _, _ => none
  | _, _ => none
def pickT (c : Bool) (x y : Option T) : Option T := match x, y with
  | some (.v false [.d (.b p)]), some (.v false [.d (.b q)]) => some (boo (bif c then p else q))
  | x, y => bif c then x else y
def minMax (x y : T) (f : Int → Int → Int) : Option (Option Prop × T) := match x, y with
  | .v false [.d (.i k a)], .v false [.d (.i k' b)] => if k = k' then some (none, num k (f a b)) else none
  | _, _ => none
def one (x : Option (Option Prop × T)) : Option (Option Prop × Outc) := match x with
  | some (p, t) => some (p, val t)
  | none => none
/-- len, min, max. -/
def eagB (S : St) : Builtin → List Operand → List Nat → Option (Option Prop × Outc)
  | .len, [x], [t] => match V.ty t, (S.opnd V t x).bind S.elems with
    | some ⟨_, _, some _, _, _⟩, some ⟨_, l⟩ => one (some (none, num .i64 l.length))
    | _, _ => none
  | .min, [x, y], [t, u] => match S.opnd V t x, S.opnd V u y with
    | some a, some b => one (minMax a b fun a b => if b < a then b else a)
    | _, _ => none
  | .max, [x, y], [t, u] => match S.opnd V t x, S.opnd V u y with
    | some a, some b => one (minMax a b fun a b => if b > a then b else a)
    | _, _ => none
  | _, _, _ => none
def isNil : Operand → Bool
  | .const (.slice none 0 0) => true
  | _ => false
/-- Does nil begin a row here? -/
def ownNil (d : Option Nat) (x : Operand) : Bool := match d.bind (look · V.own) with
  | none => false
  | some _ => isNil x
/-- What yields one value, and lets be what is there (variables may be made). -/
def eag (S : St) (o : Oper) : Option (Option Prop × Outc) :=
  match o.op with
  | .move x => one ((S.opnd V o.type x).map (none, ·))
  | .assign x => match ownNil V o.dst x with
    | false => one ((S.opnd V o.type x).map (none, ·))
    | true => none
  | .pick c x y => match S.opnd V o.type c with
    | some (.v false [.d (.b t)]) => one ((pickT t (S.opnd V o.type x) (S.opnd V o.type y)).map (none, ·))
    | _ => none
  | .nilCheck x => one (((S.opnd V 0 x).bind (fieldT S 0)).map (none, ·))
  | .fieldAddr s x f => match V.ty s, S.opnd V 0 x with
    | some I, some t => match I.fs[f]? with
      | some (off, ft) => match V.ty ft with
        | some J => if J.zc.length = 0 then none else one ((fieldT S off t).map (none, ·))
        | none => none
      | none => none
    | _, _ => none
  | .load t x => match V.ty t, S.opnd V 0 x with
    | some I, some p => if I.agg = false ∧ I.zc.length ≠ 1 then none else one (loadT S I.agg I.zc.length p)
    | _, _ => none
  | .binOp op t x y u => match S.opnd V t x, S.opnd V u y with
    | some a, some b => one (binT (boolTy V t) op a b)
    | _, _ => none
  | .unOp op t x => match op, S.opnd V t x with
    | .not, some (.v false [.d (.b b)]) => one (some (none, boo (!b)))
    | .neg, some (.v false [.d (.i k n)]) => one (some (none, num k (k.wrap (0 - n))))
    | _, _ => none
  | .convert s t x => match V.ty s, V.ty t, S.opnd V s x with
    | some _, some ⟨false, [.i k _], _, _, _⟩, some (.v false [.d (.i _ n)]) => one (some (none, num k (k.wrap n)))
    | _, _, _ => none
  | .extract x i => match S.opnd V 0 x with
    | some (.tup l) => match l[i]? with
      | some (g, cs) => one (some (none, .v g cs))
      | none => none
    | _ => none
  | .build t ps => match o.dst.bind (look · V.own), V.ty t with
    | none, some I => if I.agg then match buildT V S I.fs ps.toList (I.zc.map .d) with
        | some cs => one (some (none, .v true cs))
        | none => none else none
    | _, _ => none
  | .buildSlice t n ps => match o.dst.bind (look · V.own), V.ty t with
    | none, some ⟨_, _, some (k, e), _, _⟩ => match elemsT V S k e 0 ps.toList with
      | some l => if l.length = n ∧ n ≤ 1024 then one (some (none, .v false [.d (.r k l)])) else none
      | none => none
    | _, _ => none
  | .makeSlice t n c => match o.dst.bind (look · V.own), V.ty t, S.opnd V 0 n, S.opnd V 0 c with
    | none, some ⟨_, _, some (k, e), _, _⟩, some (.v false [.d (.i .i64 a)]), some (.v false [.d (.i .i64 b)]) =>
      one (some (some (0 ≤ a ∧ a = b ∧ a.toNat ≤ LIM), .v false [.d (.r k (List.replicate a.toNat k.z))]))
    | _, _, _, _ => none
  | .indexAddr t x i => match V.ty t, S.opnd V t x, S.opnd V 0 i with
    | some ⟨_, _, some (k, _), _, _⟩, some a, some (.v false [.d (.i _ n)]) => match S.elems a with
      | some ⟨k', _⟩ => if k' = k then one (indexT S a n) else none
      | none => none
    | _, _, _ => none
  | .slice t x lo hi mx => match o.dst.bind (look · V.own), V.ty t, S.opnd V t x with
    | none, some ⟨_, _, some (k', _), _, _⟩, some (.v false [.d (.r k l)]) => if k = k' then one (sliceT k l (lo.map (S.opnd V 0)) (hi.map (S.opnd V 0)) (mx.map (S.opnd V 0))) else none
    | _, _, _ => none
  | .call ⟨.builtin b, args, tys⟩ => eagB V S b args.toList tys.toList
  | .box t x => match o.dst.bind (look · V.bx), V.ty t, S.opnd V t x with
    | some b, some I, some (.v _ cs) => match S.boxes[b]? with
      | some B => if cs.length = I.zc.length then some (none, ⟨.pb b (B.ep + 1) 0, [], [(b, ⟨B.ep + 1, some cs⟩)]⟩) else none
      | _ => none
    | _, _, _ => none
  | .alloc t => match o.dst.bind (look · V.bx), V.ty t with
    | some b, some I => match S.boxes[b]? with
      | some B => some (none, ⟨.pb b (B.ep + 1) 0, [], [(b, ⟨B.ep + 1, some (I.zc.map .d)⟩)]⟩)
      | _ => none
    | _, _ => none
  | _ => none
/-! ### what turns something, or is answered by somebody else -/
/-- A new row at id. -/
def rowNew (S : St) (id : Nat) (c : RC) (K : Outc → Prop) : Prop := match S.rows[id]? with
  | some r => K ⟨.v false [.ref id (r.ep + 1)], [(id, ⟨r.ep + 1, some c⟩)], []⟩
  | none => False
def AC.data : AC → D
  | .d x => x
  | .own c => .r c.k c.l
/-- Cells of which rows become one's own, as long as there are numbers for them. -/
def ownCells (S : St) : List Nat → List AC → (List Cm → List (Nat × Row) → List Nat → Prop) → Prop
  | ids, [], K => K [] [] ids
  | id :: ids, .own c :: as, K => match S.rows[id]? with
    | some r => ownCells S ids as fun cs rs is => K (.ref id (r.ep + 1) :: cs) ((id, ⟨r.ep + 1, some c⟩) :: rs) is
    | none => False
  | ids, a :: as, K => ownCells S ids as fun cs rs is => K (.d a.data :: cs) rs is
/-- A zero value's cells, its rows as one's own. -/
def zeroAC : List D → List Nat → List AC
  | [], _ => []
  | .r k l :: ds, es => match es with
    | e :: es => .own ⟨e, k, []⟩ :: zeroAC ds es
    | [] => .d (.r k l) :: zeroAC ds []
  | d :: ds, es => .d d :: zeroAC ds es
/-- An argument's cells: is each for one's own?; the rows lent, the rows given. -/
def argCells (S : St) (own : List (Nat × Nat)) (j : Nat) : Nat → List Cm → Option (List AC × List Nat × List Nat)
  | _, [] => some ([], [], [])
  | i, c :: cs => match argCells S own j (i + 1) cs with
    | none => none
    | some (as, ls, gs) => match c with
      | .d x => if own.contains (j, i) then none else some (.d x :: as, ls, gs)
      | .ref id ep => match S.live id ep with
        | some c => if own.contains (j, i) then some (.own c :: as, ls, id :: gs) else some (.d (.r c.k c.l) :: as, id :: ls, gs)
        | none => none
      | .dead => none
/-- Values as they are handed over; rows lent; rows given; variables. -/
def argsT (S : St) (own : List (Nat × Nat)) : Nat → List T → Option (List Arg × List Nat × List Nat × List (Nat × Nat))
  | _, [] => some ([], [], [], [])
  | j, t :: ts => match argsT S own (j + 1) ts with
    | none => none
    | some (as, ls, gs, bs) => match t with
      | .v g cs => match argCells S own j 0 cs with
        | some (a, l, m) => some (.v g a :: as, l ++ ls, m ++ gs, bs)
        | none => none
      | .pb b ep 0 => match S.box b ep with
        | some cs => match argCells S own j 0 cs with
          | some (a, l, m) => some (.p a :: as, l ++ ls, m ++ gs, (b, ep) :: bs)
          | none => none
        | none => none
      | _ => none
def opnds (S : St) : List Operand → List Nat → Option (List T)
  | [], _ => some []
  | x :: xs, ty :: tys => match S.opnd V ty x, opnds S xs tys with
    | some t, some ts => some (t :: ts)
    | _, _ => none
  | _ :: _, [] => none
def flatAC (cs : List AC) : Bool := cs.all fun | .d (.r _ _) => false | .own _ => false | _ => true
def flatRes (rs : List Arg) (bs : List (List AC)) : Bool := rs.all (fun | .v _ cs => flatAC cs | .p cs => flatAC cs) && bs.all flatAC
/-- Rows that are no one's any more. -/
def deads (S : St) : List Nat → List (Nat × Row)
  | [] => []
  | id :: ids => match S.rows[id]? with
    | some r => (id, ⟨r.ep + 1, none⟩) :: deads S ids
    | none => deads S ids
def nodupB : List Nat → Bool
  | [] => true
  | x :: xs => !(xs.any (· == x)) && nodupB xs
/-- Results, one behind the other. -/
def resT (S : St) : List Nat → List Arg → (List (Bool × List Cm) → List (Nat × Row) → Prop) → Prop
  | _, [], K => K [] []
  | ids, .v g cs :: rs, K => ownCells S ids cs fun ms rows is => resT S is rs fun l rows' => K ((g, ms) :: l) (rows ++ rows')
  | _, _, _ => False
def datCells (cs : List AC) : List Cm := cs.map fun c => .d c.data
def boxesT : List (Nat × Nat) → List (List AC) → Option (List (Nat × Box))
  | [], [] => some []
  | (b, ep) :: bs, cs :: css => match boxesT bs css with
    | some r => some ((b, ⟨ep, some (datCells cs)⟩) :: r)
    | none => none
  | _, _ => none
def tupT : List (Bool × List Cm) → T
  | [(g, cs)] => .v g cs
  | l => .tup l
/-- A call of a function that is told by its answers. -/
def callC (S : St) (dst : Option Nat) (E : Ent) (ts : List T) (K : Outc → Prop) : Prop :=
  match argsT S E.own 0 ts with
  | some (as, ls, gs, bs) => (nodupB (ls ++ gs) && nodupB (bs.map (·.1))) = true ∧ E.F as fun rs cs =>
    match boxesT bs cs with
    | some bx =>
      let dd := deads S (bif flatRes rs cs then gs else ls ++ gs)
      match rs with
      | [.p c] => match dst.bind (look · V.bx) with
        | some b => match S.boxes[b]? with
          | some B => (bs.map (·.1)).all (· != b) = true ∧ K ⟨.pb b (B.ep + 1) 0, dd, bx ++ [(b, ⟨B.ep + 1, some (datCells c)⟩)]⟩
          | none => False
        | none => False
      | rs => resT S ((dst.bind (look · V.own)).getD []) rs fun l rows => nodupB (rows.map (·.1)) = true ∧ K ⟨tupT l, dd ++ rows, bx⟩
    | none => False
  | none => False
/-- A function value that is handed over last: the variable that it holds stands for it. -/
def uncl (S : St) : Option (Nat × Bool) → List T → Option (List T)
  | none, ts => some ts
  | some _, [] => none
  | some (f, true), [.fn f' (some (b, ep))] => match S.box b ep with
    | some _ => if f' = f then some [.pb b ep 0] else none
    | none => none
  | some (f, false), [.fn f' none] => if f' = f then some [] else none
  | some p, t :: ts => match uncl S (some p) ts with
    | some r => some (t :: r)
    | none => none
def callT (S : St) (dst : Option Nat) (E : Ent) (ts : List T) (K : Outc → Prop) : Prop := match uncl S E.clo ts with
  | some ts => callC V S dst E ts K
  | none => False
/-- What a function value holds. -/
def cbT : Option (Nat × Nat) → List T
  | none => []
  | some (b, ep) => [.pb b ep 0]
def cbLive (S : St) : Option (Nat × Nat) → Bool
  | none => true
  | some (b, ep) => (S.box b ep).isSome
def castL {k k' : RK} (h : k = k') (l : List k.El) : List k'.El := h ▸ l
def isZ : Option Operand → Bool
  | some (.const (.int _ n)) => n == 0
  | _ => false
/-- What append answers: a row of one's own; or, given up, data. -/
def appO (fz : Bool) (id ep : Nat) (c : RC) : Outc := match fz with
  | false => ⟨.v false [.ref id ep], [(id, ⟨ep, some c⟩)], []⟩
  | true => ⟨.v false [.d (.r c.k c.l)], [(id, ⟨ep, none⟩)], []⟩
/-- append. -/
def effB (S : St) (fz : Bool) : Builtin → List Operand → List Nat → (Outc → Prop) → Prop
  | .append, [s, x], [t, u], K => match V.ty t, S.opnd V t s, (S.opnd V u x).bind S.elems with
    | some ⟨_, _, some (k, e), _, _⟩, some (.v false [.ref id ep]), some ⟨k', l'⟩ => match S.live id ep with
      | some c => if h : k' = c.k then if c.e = e ∧ c.k = k ∧ t = u then
          c.l.length + l'.length ≤ LIM ∧ K (appO fz id (ep + 1) ⟨c.e, c.k, c.l ++ castL h l'⟩) else False else False
      | none => False
    | _, _, _ => False
  | _, _, _, _ => False
def isFz (d : Option Nat) : Bool := match d with
  | some i => V.fz.contains i
  | none => false
def eff (S : St) (o : Oper) (K : Outc → Prop) : Prop := match o.op with
  | .store t p x => match V.ty t, S.opnd V t p, S.opnd V t x with
    | some I, some (.pb b ep off), some (.v _ xs) => match S.box b ep with
      | some cs => if xs.length = I.zc.length ∧ off + xs.length ≤ cs.length then K ⟨.und, [], [(b, ⟨ep, some (putC cs off xs)⟩)]⟩ else False
      | none => False
    | some I, some (.pr id ep i off), some (.v _ xs) => match S.live id ep, datas xs with
      | some c, some ds => if ds.length = I.zc.length ∧ off + ds.length ≤ c.k.size then match c.k.mk (putC (c.k.cells (c.k.at c.l i)) off ds) with
        | some e => K ⟨.und, [(id, ⟨ep, some ⟨c.e, c.k, c.l.set i e⟩⟩)], []⟩
        | none => False else False
      | _, _ => False
    | _, _, _ => False
  | .binOp op t x y u => match isNil y, V.ty t, (S.opnd V t x).bind S.elems, op with
    | true, some ⟨_, _, some _, _, _⟩, some ⟨_, l⟩, .eql => ∀ b : Bool, (b = true → l = []) → K (val (boo b))
    | true, some ⟨_, _, some _, _, _⟩, some ⟨_, l⟩, .neq => ∀ b : Bool, (b = true → l = []) → K (val (boo (!b)))
    | _, _, _, _ => False
  | .assign x => match o.dst.bind (look · V.own), V.ty o.type with
    | some [id], some ⟨_, _, some (k, e), _, _⟩ => if isNil x = true then rowNew S id ⟨e, k, []⟩ K else False
    | _, _ => False
  | .build t ps => match o.dst.bind (look · V.own), V.ty t with
    | some ids, some I => if I.agg = true ∧ nodupB ids = true then ownCells S ids (zeroAC I.zc I.zo) fun cs rs is => match buildT V S I.fs ps.toList cs with
      | some cs' => K ⟨.v true cs', rs, []⟩
      | none => False else False
    | _, _ => False
  | .buildSlice t n ps => match o.dst.bind (look · V.own), V.ty t with
    | some [id], some ⟨_, _, some (k, e), _, _⟩ => match elemsT V S k e 0 ps.toList with
      | some l => if l.length = n ∧ n ≤ 1024 then rowNew S id ⟨e, k, l⟩ K else False
      | none => False
    | _, _ => False
  | .makeSlice t n c => match o.dst.bind (look · V.own), V.ty t, S.opnd V 0 n, S.opnd V 0 c with
    | some [id], some ⟨_, _, some (k, e), _, _⟩, some (.v false [.d (.i .i64 a)]), some (.v false [.d (.i .i64 b)]) =>
      (0 ≤ a ∧ a = b ∧ a.toNat ≤ LIM) ∧ rowNew S id ⟨e, k, List.replicate a.toNat k.z⟩ K
    | _, _, _, _ => False
  | .slice t x lo hi mx => match V.ty t, S.opnd V t x with
    | some ⟨_, _, some (k', e'), _, _⟩, some (.v false [.ref id ep]) => match S.live id ep with
      | some c => if c.k = k' ∧ c.e = e' then match o.dst.bind (look · V.own) with
        | none => match isFz V o.dst with
          | true => match sliceT c.k c.l (lo.map (S.opnd V 0)) (hi.map (S.opnd V 0)) (mx.map (S.opnd V 0)) with
            | some (some p, t) => p ∧ K ⟨t, [(id, ⟨ep, none⟩)], []⟩
            | _ => False
          | false => match lo, hi, mx with
            | none, some hi, some mx => match (S.opnd V 0 hi).bind intT, (S.opnd V 0 mx).bind intT with
              | some a, some b => (a = c.l.length ∧ b = c.l.length) ∧ K ⟨.v false [.ref id (ep + 1)], [(id, ⟨ep + 1, some c⟩)], []⟩
              | _, _ => False
            | _, _, _ => False
        | some _ => False
        else False
      | none => False
    | some ⟨_, _, some (k', e'), _, _⟩, some (.v false [.d (.r k l)]) => match o.dst.bind (look · V.own) with
      | some [id] => if k = k' ∧ (lo.isNone || isZ lo) = true ∧ isZ hi = true ∧ isZ mx = true then rowNew S id ⟨e', k', []⟩ K else False
      | _ => False
    | _, _ => False
  | .call ⟨.builtin b, args, tys⟩ => effB V S (isFz V o.dst) b args.toList tys.toList K
  | .call ⟨.value (.func f), args, tys⟩ => match look f V.calls, opnds V S args.toList tys.toList with
    | some E, some ts => callT V S o.dst E ts K
    | _, _ => False
  | .makeFunc (.func f) first captured => match first.toList, captured.toList with
    | [], [x] => match S.opnd V 0 x with
      | some (.pb b ep 0) => match S.box b ep with
        | some _ => K (val (.fn f (some (b, ep))))
        | none => False
      | _ => False
    | _, _ => False
  | .call ⟨.value (.tmp t), args, tys⟩ => match S.slots[t]? with
    | some (.fn f cb) => match look f V.calls, opnds V S args.toList tys.toList with
      | some E, some ts => if E.clo.isNone = true ∧ cbLive S cb = true then callC V S o.dst E (ts ++ cbT cb) K else False
      | _, _ => False
    | _ => False
  | _ => False
/-- An operation's outcomes. -/
def Out (S : St) (o : Oper) (K : Outc → Prop) : Prop := match eag V S o with
  | some (none, out) => K out
  | some (some p, out) => p ∧ K out
  | none => eff V S o K
/-- Is an operation wanted? -/
def gst (S : St) (ops : Array Oper) (o : Oper) : Option Bool := match o.guard with
  | none => some true
  | some (g, want) => match (ops[g]?).bind (·.dst) with
    | some t => match S.slots[t]? with
      | some (.v false [.d (.b x)]) => some (x == want)
      | some .und => some false
      | _ => none
    | none => none
/-- Is what an operation yields asked by others' guards? -/
def isG (ops : Array Oper) (i : Nat) : Bool := ops.toList.any fun o => match o.guard with
  | some (g, _) => g == i
  | none => false
/-- A bool that others' guards ask is parted. -/
def part (g : Bool) (out : Outc) (K : Outc → Prop) : Prop := match g, out.t with
  | true, .v false [.d (.b x)] => if x = true then K { out with t := boo true } else K { out with t := boo false }
  | _, _ => K out
def stepO (S : St) (ops : Array Oper) (i : Nat) (o : Oper) (K : Outc → Prop) : Prop := match gst S ops o with
  | some w => if w = true then Out V S o fun out => part (isG ops i) out K else K (val .und)
  | none => False
def evOps (ops : Array Oper) : List Nat → St → (St → Prop) → Prop
  | [], S, K => K S
  | i :: r, S, K => match ops[i]? with
    | some o => stepO V S ops i o fun out => evOps ops r (S.app o.dst out) K
    | none => False
/-! ### regions that draw their order -/
def cmFix (u : List Nat) : Cm → Bool
  | .ref id _ => !u.contains id
  | _ => true
/-- Does it look at nothing that may turn? -/
def T.fix (u : List Nat × List Nat) : T → Bool
  | .pb b _ _ => !u.1.contains b
  | .pr id _ _ _ => !u.2.contains id
  | .v _ cs => cs.all (cmFix u.2)
  | _ => true
def fixX (S : St) (u : List Nat × List Nat) : Operand → Bool
  | .tmp t => match S.slots[t]? with
    | some t => t.fix u
    | none => false
  | _ => true
def fixO (S : St) (u : List Nat × List Nat) (o : Oper) : Bool := match o.op with
  | .load _ x | .indexAddr _ x _ | .fieldAddr _ x _ | .nilCheck x => fixX S u x
  | .call ⟨.builtin .len, args, _⟩ => args.toList.all (fixX S u)
  | _ => true
def noPb (b : Nat) : T → Bool
  | .pb b' _ _ => b' != b
  | .fn _ (some (b', _)) => b' != b
  | _ => true
/-- Is nothing there, and no word of it? -/
def freshB (S : St) (b : Nat) : Bool := S.slots.all (noPb b) && match S.boxes[b]? with
  | some B => B.c.isNone
  | none => false
/-- May it be taken first? -/
def eager (S : St) (u : List Nat × List Nat) (ops : Array Oper) (listed : Array Bool) (i : Nat) : Bool := match ops[i]? with
  | some o => Region.free .any ops listed i && match gst S ops o with
    | some false => true
    | some true => fixO S u o && match eag V S o with
      | some (_, out) => out.rows.isEmpty && out.boxes.all fun p => freshB S p.1
      | none => false
    | none => false
  | none => false
def within (S : St) (u : List Nat × List Nat) (out : Outc) : Bool := out.rows.all (fun p => u.2.contains p.1) && out.boxes.all fun p => match S.boxes[p.1]? with
  | some B => (p.2.ep == B.ep && B.c.isSome && u.1.contains p.1) || B.c.isNone
  | none => false
def conjL : List Nat → (Nat → Prop) → Prop
  | [], _ => True
  | [i], f => f i
  | i :: r, f => f i ∧ conjL r f
def evR (u : List Nat × List Nat) (ops : Array Oper) : Nat → Array Bool → St → (St → Prop) → Prop
  | 0, listed, S, K => match Region.ready .any ops listed with
    | [] => K S
    | _ => False
  | n + 1, listed, S, K => match Region.ready .any ops listed with
    | [] => K S
    | rs => match rs.find? (eager V S u ops listed) with
      | some i => match ops[i]? with
        | some o => stepO V S ops i o fun out => evR u ops n (listed.setIfInBounds i true) (S.app o.dst out) K
        | none => False
      | none => conjL rs fun i => match ops[i]? with
        | some o => stepO V S ops i o fun out => within S u out = true ∧ evR u ops n (listed.setIfInBounds i true) (S.app o.dst out) K
        | none => False
def inB (id : Nat) (K : Ex → St → Prop) : Ex → St → Prop
  | .exit j, S => if j = id then K .normal S else K (.exit j) S
  | e, S => K e S
/-- A list laid out cell by cell, ahead of what goes on with it. -/
noncomputable def forceL {α β : Type} (l : List α) : (List α → β) → β := List.rec (motive := fun _ => (List α → β) → β) (fun k => k []) (fun x _ ih k => ih fun r => k (x :: r)) l
noncomputable def forceS (S : St) (k : St → Prop) : Prop := forceL S.slots fun s => k ⟨s, S.rows, S.boxes⟩
theorem forceL_eq {α β : Type} : ∀ (l : List α) (k : List α → β), forceL l k = k l
  | [], _ => rfl
  | x :: l, k => forceL_eq l fun r => k (x :: r)
theorem forceS_eq (S : St) (k : St → Prop) : forceS S k = k S := forceL_eq _ _
noncomputable def evC : Code → St → (Ex → St → Prop) → Prop
  | .skip, S, K => K .normal S
  | .label _, S, K => K .normal S
  | .region id ops d, S, K => match d with
    | false => evOps V ops (List.range ops.size) S fun S => forceS S (K .normal)
    | true => evR V ((look id V.unst).getD ([], [])) ops ops.size (Array.replicate ops.size false) S fun S => forceS S (K .normal)
  | .seq x y, S, K => evC x S fun e S' => match e with
    | .normal => evC y S' K
    | .exit j => K (.exit j) S'
    | .ret => K .ret S'
  | .cond c x y, S, K => match S.opnd V 0 c with
    | some (.v false [.d (.b t)]) => if t = true then evC x S K else evC y S K
    | _ => False
  | .block id c, S, K => match look id V.loops with
    | some L => L S K
    | none => evC c S (inB id K)
  | .exit id, S, K => K (.exit id) S
  | .ret, S, K => K .ret S
  | _, _, _ => False
/-! ### forgetting, at a loop's head and end -/
def St.cutCm (S : St) (kr : List Nat) : Cm → Cm
  | .d x => .d x
  | .ref id ep => match S.live id ep with
    | some _ => bif kr.contains id then .ref id 0 else .dead
    | none => .dead
  | .dead => .dead
def St.cutT (S : St) (kb kr : List Nat) : T → T
  | .v g cs => .v g (cs.map (S.cutCm kr))
  | .pb b ep off => match S.box b ep with
    | some _ => bif kb.contains b then .pb b (min ep 1) off else .un
    | none => .un
  | .pp k l i off => .pp k l i off
  | .und => .und
  | .fn f none => .fn f none
  | .fn f (some (b, ep)) => match S.box b ep with
    | some _ => bif kb.contains b then .fn f (some (b, min ep 1)) else .un
    | none => .un
  | _ => .un
def mapI {α β : Type} (f : Nat → α → β) : Nat → List α → List β
  | _, [] => []
  | i, x :: xs => f i x :: mapI f (i + 1) xs
/-- The slots ks, the variables kb, the rows kr are kept. -/
def St.cut (S : St) (ks kb kr : List Nat) : St :=
  { slots := mapI (fun t x => bif ks.contains t then S.cutT kb kr x else .un) 0 S.slots
    rows := mapI (fun id r => bif kr.contains id then ⟨0, r.c⟩ else ⟨0, none⟩) 0 S.rows
    boxes := mapI (fun b B => bif kb.contains b then ⟨min B.ep 1, B.c.map (·.map (S.cutCm kr))⟩ else ⟨0, none⟩) 0 S.boxes }
/-- Slots written out: the others are unknown. -/
def mkSlots (n : Nat) (l : List (Nat × T)) : List T := l.foldl (fun s p => s.set p.1 p.2) (List.replicate n .un)
/-! ### a function -/
def initCells : Nat → List AC → List Cm × List Row
  | _, [] => ([], [])
  | id, .d x :: as => let (cs, rs) := initCells id as; (.d x :: cs, rs)
  | id, .own c :: as => let (cs, rs) := initCells (id + 1) as; (.ref id 0 :: cs, ⟨0, some c⟩ :: rs)
def initA : Nat → Nat → List Arg → List T × List Row × List Box
  | _, _, [] => ([], [], [])
  | id, b, .v g cs :: as => let (ms, rs) := initCells id cs; let (ts, rs', bs) := initA (id + rs.length) b as; (.v g ms :: ts, rs ++ rs', bs)
  | id, b, .p cs :: as => let (ms, rs) := initCells id cs; let (ts, rs', bs) := initA (id + rs.length) (b + 1) as; (.pb b 0 0 :: ts, rs ++ rs', ⟨0, some ms⟩ :: bs)
/-- A function value that was handed over last. -/
def inclo : Option (Nat × Bool) → List T → List T
  | none, ts => ts
  | some (f, false), ts => ts ++ [.fn f none]
  | some (_, true), [] => []
  | some (f, true), [.pb b ep 0] => [.fn f (some (b, ep))]
  | some (_, true), [_] => [.un]
  | some (f, true), t :: ts => t :: inclo (some (f, true)) ts
def St.init (cl : Option (Nat × Bool)) (n nr nb : Nat) (as : List Arg) : St := match initA 0 0 as with
  | (ts0, rs, bs) => let ts := inclo cl ts0; ⟨ts ++ List.replicate (n - ts.length) .und, rs ++ List.replicate nr ⟨0, none⟩, bs ++ List.replicate nb ⟨0, none⟩⟩
def resVars (S : St) : List ResultVar → Option (List T)
  | [] => some []
  | .tmp t :: r => match S.slots[t]?, resVars S r with
    | some x, some xs => some (x :: xs)
    | _, _ => none
  | .cell a t :: r => match V.ty t, S.slots[a]?, resVars S r with
    | some I, some (.pb b ep 0), some xs => match S.box b ep with
      | some cs => if cs.length = I.zc.length ∧ (I.agg = true ∨ I.zc.length = 1) then some (.v I.agg cs :: xs) else none
      | none => none
    | _, _, _ => none
def pbs : Nat → Nat → List T
  | _, 0 => []
  | b, n + 1 => .pb b 0 0 :: pbs (b + 1) n
def argP (as : List Arg) : Nat := (as.filter fun | .p _ => true | _ => false).length
def pcells : Arg → List AC
  | .p cs => cs
  | .v _ cs => cs
/-- What comes back. -/
def retT (E : Ent) (rv : List ResultVar) (np : Nat) (S : St) (K : List Arg → List (List AC) → Prop) : Prop := match resVars V S rv with
  | some ts => match argsT S E.res 0 ts, argsT S [] 0 (pbs 0 np) with
    | some (rs, ls, gs, bs), some (cs, ls', [], bs') => (nodupB gs && nodupB ((bs ++ bs').map (·.1)) && !(ls ++ ls').any gs.contains) = true ∧ K rs (cs.map pcells)
    | _, _ => False
  | none => False
/-- A function's body, from its arguments on. -/
noncomputable def evF (E : Ent) (fn : Func) (nr nb : Nat) (as : List Arg) (K : List Arg → List (List AC) → Prop) : Prop := match fn.body with
  | some c => evC V c (St.init E.clo fn.ntmps nr nb as) fun e S => match e with
    | .exit _ => False
    | _ => retT V E fn.results.toList (argP as) S K
  | none => False
end
end Go.Proofs.YtlapeiijghebjaaE

/- Rows of cells and data; what a value reads as; the relation of a function's state and the world. Conditions: none. -/
set_option linter.unusedVariables false
namespace Go.Proofs.YtlapeiijghebjaaE
open Go Go.RowKit
/-! ### rows of cells -/
def flat (k : RK) (l : List k.El) : List D := l.flatMap k.cells
theorem cells_len (k : RK) (x : k.El) : (k.cells x).length = k.size := by cases k <;> rfl
theorem size_pos (k : RK) : 0 < k.size := by cases k <;> decide
theorem flat_nil (k : RK) : flat k [] = [] := rfl
theorem flat_cons (k : RK) (x : k.El) (l : List k.El) : flat k (x :: l) = k.cells x ++ flat k l := rfl
theorem flat_append (k : RK) (l l' : List k.El) : flat k (l ++ l') = flat k l ++ flat k l' := by simp [flat]
theorem flat_len (k : RK) (l : List k.El) : (flat k l).length = l.length * k.size := by
  induction l with
  | nil => simp [flat]
  | cons x l ih => rw [flat_cons, List.length_append, ih, cells_len, List.length_cons, Nat.add_mul]; omega
theorem flat_drop (k : RK) (l : List k.El) (n : Nat) : flat k (l.drop n) = (flat k l).drop (n * k.size) := by
  induction n generalizing l with
  | zero => simp
  | succ n ih => cases l with
    | nil => simp [flat]
    | cons x l =>
      rw [List.drop_succ_cons, ih, flat_cons, Nat.add_mul, Nat.one_mul, Nat.add_comm, List.drop_append, cells_len]
      have h1 : (k.cells x).drop (k.size + n * k.size) = [] := List.drop_eq_nil_of_le (by rw [cells_len]; omega)
      rw [h1, List.nil_append, Nat.add_sub_cancel_left]
theorem flat_take (k : RK) (l : List k.El) (n : Nat) : flat k (l.take n) = (flat k l).take (n * k.size) := by
  induction n generalizing l with
  | zero => simp [flat]
  | succ n ih => cases l with
    | nil => simp [flat]
    | cons x l =>
      rw [List.take_succ_cons, flat_cons, ih, flat_cons, Nat.add_mul, Nat.one_mul, Nat.add_comm, List.take_append, cells_len]
      have h1 : (k.cells x).take (k.size + n * k.size) = k.cells x := List.take_of_length_le (by rw [cells_len]; omega)
      rw [h1, Nat.add_sub_cancel_left]
theorem flat_at (k : RK) (l : List k.El) (i : Nat) (h : i < l.length) : ((flat k l).drop (i * k.size)).take k.size = k.cells (k.at l i) := by
  rw [← flat_drop]
  have h1 : l.drop i = k.at l i :: l.drop (i + 1) := by
    rw [List.drop_eq_getElem_cons h]; simp [RK.at, List.getElem?_eq_getElem h]
  rw [h1, flat_cons, List.take_append, cells_len]
  simp [List.take_of_length_le (Nat.le_of_eq (cells_len k _))]
theorem flat_set (k : RK) (l : List k.El) (i : Nat) (h : i < l.length) (e : k.El) : flat k (l.set i e) = putC (flat k l) (i * k.size) (k.cells e) := by
  have h1 : l.set i e = l.take i ++ e :: l.drop (i + 1) := by rw [List.set_eq_take_append_cons_drop, if_pos h]
  rw [h1, flat_append, flat_cons, flat_take, flat_drop]
  simp only [putC, cells_len, Nat.add_mul, Nat.one_mul, List.append_assoc]
theorem mkTx_cells {ds : List D} {e : TxS} (h : mkTx ds = some e) : txC e = ds := by unfold mkTx at h; split at h <;> first | (cases h; rfl) | simp at h
theorem mkRx_cells {ds : List D} {e : RxS} (h : mkRx ds = some e) : rxC e = ds := by unfold mkRx at h; split at h <;> first | (cases h; rfl) | simp at h
theorem mkCt_cells {ds : List D} {e : CtS} (h : mkCt ds = some e) : ctC e = ds := by unfold mkCt at h; split at h <;> first | (cases h; rfl) | simp at h
theorem mkCr_cells {ds : List D} {e : CrS} (h : mkCr ds = some e) : crC e = ds := by unfold mkCr at h; split at h <;> first | (cases h; rfl) | simp at h
theorem mk_cells (k : RK) (ds : List D) (e : k.El) (h : k.mk ds = some e) : k.cells e = ds := by
  cases k
  case u8 => change mkU8 ds = some e at h; unfold mkU8 at h; split at h <;> first | (cases h; rfl) | simp at h
  case i64 => change mkI64 ds = some e at h; unfold mkI64 at h; split at h <;> first | (cases h; rfl) | simp at h
  case byr => change mkByr ds = some e at h; unfold mkByr at h; split at h <;> first | (cases h; rfl) | simp at h
  case part => change mkPart ds = some e at h; unfold mkPart at h; split at h <;> first | (cases h; rfl) | simp at h
  case frm => change mkFrm ds = some e at h; unfold mkFrm at h; split at h <;> first | (cases h; rfl) | simp at h
  case netm => change mkNet ds = some e at h; unfold mkNet at h; split at h <;> first | (cases h; rfl) | simp at h
  case nets => change mkNets ds = some e at h; unfold mkNets at h; split at h <;> first | (cases h; rfl) | simp at h
  case wend =>
    change mkEnd ds = some e at h
    unfold mkEnd at h
    split at h
    · rename_i a b c d p g h1 h2 h3 h4 h5
      cases h
      have e5 : [D.r .byr p, D.r .byr g] = ds.drop 26 := by
        unfold mkPG at h5; split at h5
        · rename_i heq; cases h5; exact heq.symm
        · simp at h5
      show txC a ++ (rxC b ++ (ctC c ++ (crC d ++ [D.r .byr p, D.r .byr g]))) = ds
      rw [mkTx_cells h1, mkRx_cells h2, mkCt_cells h3, mkCr_cells h4, e5]
      have a1 : (ds.drop 22).take 4 ++ ds.drop 26 = ds.drop 22 := by have := List.take_append_drop 4 (ds.drop 22); rwa [List.drop_drop] at this
      have a2 : (ds.drop 17).take 5 ++ ds.drop 22 = ds.drop 17 := by have := List.take_append_drop 5 (ds.drop 17); rwa [List.drop_drop] at this
      have a3 : (ds.drop 10).take 7 ++ ds.drop 17 = ds.drop 10 := by have := List.take_append_drop 7 (ds.drop 10); rwa [List.drop_drop] at this
      rw [a1, a2, a3, List.take_append_drop]
    · simp at h
theorem putC_len {α : Type} (l : List α) (o : Nat) (xs : List α) (h : o + xs.length ≤ l.length) : (putC l o xs).length = l.length := by
  simp [putC]; omega
theorem cutC_len {α : Type} (l : List α) (o n : Nat) (h : o + n ≤ l.length) : (cutC l o n).length = n := by simp [cutC]; omega
/-! ### two lists, pairwise -/
inductive F2 {α β : Type} (R : α → β → Prop) : List α → List β → Prop
  | nil : F2 R [] []
  | cons {a b l m} : R a b → F2 R l m → F2 R (a :: l) (b :: m)
namespace F2
variable {α β : Type} {R R' : α → β → Prop}
theorem len {l : List α} {m : List β} (h : F2 R l m) : l.length = m.length := by induction h <;> simp_all
theorem mono {l : List α} {m : List β} (h : F2 R l m) (hr : ∀ a b, R a b → R' a b) : F2 R' l m := by
  induction h with
  | nil => exact .nil
  | cons h _ ih => exact .cons (hr _ _ h) ih
theorem get {l : List α} {m : List β} (h : F2 R l m) : ∀ (i : Nat) (b : β), m[i]? = some b → ∃ a, l[i]? = some a ∧ R a b := by
  induction h with
  | nil => intro i b h; simp at h
  | cons h _ ih => intro i b hb; cases i with
    | zero => simp at hb; subst hb; exact ⟨_, rfl, h⟩
    | succ i => simpa using ih i b (by simpa using hb)
theorem of_get {l : List α} : ∀ {m : List β}, l.length = m.length → (∀ (i : Nat) a b, l[i]? = some a → m[i]? = some b → R a b) → F2 R l m := by
  induction l with
  | nil => intro m h _; cases m with
    | nil => exact .nil
    | cons => simp at h
  | cons a l ih => intro m h hr; cases m with
    | nil => simp at h
    | cons b m => exact .cons (hr 0 a b rfl rfl) (ih (by simpa using h) fun i a b ha hb => hr (i + 1) a b (by simpa using ha) (by simpa using hb))
theorem app {l l' : List α} {m m' : List β} (h : F2 R l m) (h' : F2 R l' m') : F2 R (l ++ l') (m ++ m') := by
  induction h with
  | nil => exact h'
  | cons h _ ih => exact .cons h ih
theorem take {l : List α} {m : List β} (h : F2 R l m) : ∀ n, F2 R (l.take n) (m.take n) := by
  induction h with
  | nil => intro n; simpa using .nil
  | cons h _ ih => intro n; cases n with
    | zero => exact .nil
    | succ n => exact .cons h (ih n)
theorem drop {l : List α} {m : List β} (h : F2 R l m) : ∀ n, F2 R (l.drop n) (m.drop n) := by
  induction h with
  | nil => intro n; simpa using .nil
  | cons h h' ih => intro n; cases n with
    | zero => exact .cons h h'
    | succ n => exact ih n
theorem cut {l : List α} {m : List β} (h : F2 R l m) (o n : Nat) : F2 R (cutC l o n) (cutC m o n) := (h.drop o).take n
theorem put {l l' : List α} {m m' : List β} (h : F2 R l m) (h' : F2 R l' m') (o : Nat) : F2 R (putC l o l') (putC m o m') := by
  unfold putC; rw [h'.len]; exact ((h.take o).app h').app (h.drop _)
theorem set {l : List α} {m : List β} (h : F2 R l m) {a : α} {b : β} (hr : R a b) : ∀ i, F2 R (l.set i a) (m.set i b) := by
  induction h with
  | nil => intro i; simpa using .nil
  | cons h h' ih => intro i; cases i with
    | zero => exact .cons hr h'
    | succ i => exact .cons h (ih i)
theorem map {γ : Type} {f : γ → β} {l : List α} {m : List γ} (h : F2 (fun a c => R a (f c)) l m) : F2 R l (m.map f) := by
  induction h with
  | nil => exact .nil
  | cons h _ ih => exact .cons h ih
theorem all {l : List α} {m : List β} (h : F2 R l m) {p : α → Prop} (hp : ∀ a b, R a b → p a) : ∀ a ∈ l, p a := by
  induction h with
  | nil => intro a h; cases h
  | cons h _ ih => intro a ha; cases ha with
    | head => exact hp _ _ h
    | tail _ ha => exact ih a ha
theorem rep {a : α} {b : β} (h : R a b) : ∀ n, F2 R (List.replicate n a) (List.replicate n b)
  | 0 => .nil
  | n + 1 => .cons h (rep h n)
end F2
/-! ### what a value reads as, out of blocks of F -/
inductive Rd (w : World) (F : Nat → Prop) : Value → D → Prop
  | i (k : IntKind) (x : Int) : Rd w F (.int k x) (.i k x)
  | b (x : Bool) : Rd w F (.bool x) (.b x)
  | nil (k : RK) (x : Option Addr) : Rd w F (.slice x 0 0) (.r k [])
  | row (k : RK) (l : List k.El) (g off cap : Nat) (vs : Nat → Value) : F g → l.length ≤ cap →
      (∀ j, j < l.length * k.size → w.cell? ⟨g, off + j, none⟩ = some (vs j)) →
      (∀ j, j < l.length * k.size → Rd w F (vs j) ((flat k l).getD j (.b false))) →
      Rd w F (.slice (some ⟨g, off, none⟩) l.length cap) (.r k l)
theorem Rd.mono {w w' : World} {F F' : Nat → Prop} {v : Value} {x : D} (h : Rd w F v x) (hF : ∀ b, F b → F' b) (hw : ∀ b, F b → w'.heap[b]? = w.heap[b]?) : Rd w' F' v x := by
  induction h with
  | i k x => exact .i k x
  | b x => exact .b x
  | nil k x => exact .nil k x
  | row k l g off cap vs hg hc hcell _ ih =>
    exact .row k l g off cap vs (hF g hg) hc (fun j hj => by rw [World.cell?_of_block (hw g hg)]; exact hcell j hj) ih
theorem Rd.one {w : World} {F : Nat → Prop} {v : Value} {x : D} (h : Rd w F v x) : v.oneCell' = true := by cases h <;> rfl
theorem Rd.cells {w : World} {F : Nat → Prop} {v : Value} {x : D} (h : Rd w F v x) : v.cells = #[v] := by cases h <;> rfl
/-- A row's cells as a list. -/
def Lies (w : World) (F : Nat → Prop) (g off : Nat) (k : RK) (l : List k.El) (xs : List Value) : Prop :=
  (∀ j u, xs[j]? = some u → w.cell? ((⟨g, off, none⟩ : Addr).add j) = some u) ∧ F2 (Rd w F) xs (flat k l)
theorem add_lit (g off j : Nat) : (⟨g, off, none⟩ : Addr).add j = ⟨g, off + j, none⟩ := by unfold Addr.add; split <;> simp_all
theorem Rd.row_lies {w : World} {F : Nat → Prop} {v : Value} {k : RK} {l : List k.El} (h : Rd w F v (.r k l)) :
    ((∃ x, v = .slice x 0 0) ∧ l = []) ∨ ∃ g off cap xs, v = .slice (some ⟨g, off, none⟩) l.length cap ∧ F g ∧ l.length ≤ cap ∧ Lies w F g off k l xs := by
  cases h with
  | nil _ x => exact .inl ⟨⟨x, rfl⟩, rfl⟩
  | row k l g off cap vs hg hc hcell hrd =>
    refine .inr ⟨g, off, cap, (List.range (l.length * k.size)).map vs, rfl, hg, hc, ?_, ?_⟩
    · intro j u hu
      simp only [List.getElem?_map, Option.map_eq_some_iff] at hu
      obtain ⟨i, hi, rfl⟩ := hu
      obtain ⟨hj, he⟩ := List.getElem?_eq_some_iff.1 hi
      simp only [List.getElem_range] at he
      subst he
      rw [add_lit]; exact hcell _ (by simpa using hj)
    · refine F2.of_get (by simp [flat_len]) fun i a b ha hb => ?_
      simp only [List.getElem?_map, Option.map_eq_some_iff] at ha
      obtain ⟨i', hi, rfl⟩ := ha
      obtain ⟨hj, he⟩ := List.getElem?_eq_some_iff.1 hi
      simp only [List.getElem_range] at he
      subst he
      have := hrd _ (by simpa using hj)
      rwa [List.getD_eq_getElem?_getD, hb] at this
theorem Rd.of_lies {w : World} {F : Nat → Prop} {k : RK} {l : List k.El} {g off cap : Nat} {xs : List Value} (hg : F g) (hc : l.length ≤ cap) (h : Lies w F g off k l xs) :
    Rd w F (.slice (some ⟨g, off, none⟩) l.length cap) (.r k l) := by
  have hl := h.2.len
  rw [flat_len] at hl
  refine .row k l g off cap (fun j => xs.getD j undef) hg hc (fun j hj => ?_) fun j hj => ?_
  · have hx : xs[j]? = some (xs.getD j undef) := by rw [List.getD_eq_getElem?_getD, List.getElem?_eq_getElem (by omega)]; rfl
    have := h.1 j _ hx
    rwa [add_lit] at this
  · obtain ⟨a, ha, hr⟩ := h.2.get j ((flat k l).getD j (.b false)) (by rw [List.getD_eq_getElem?_getD, List.getElem?_eq_getElem (by rw [flat_len]; omega)]; rfl)
    rwa [List.getD_eq_getElem?_getD, ha]
theorem Rd.int {w : World} {F : Nat → Prop} {v : Value} {k : IntKind} {x : Int} (h : Rd w F v (.i k x)) : v = .int k x := by cases h; rfl
theorem Rd.bool {w : World} {F : Nat → Prop} {v : Value} {x : Bool} (h : Rd w F v (.b x)) : v = .bool x := by cases h; rfl
/-! ### what the world keeps -/
structure Kp (p : Nat → Prop) (w w' : World) : Prop where
  os : w'.os = w.os
  tape : w'.tape = w.tape
  output : w'.output = w.output
  size : w.heap.size ≤ w'.heap.size
  block : ∀ b, p b → w'.heap[b]? = w.heap[b]?
theorem Kp.refl (p : Nat → Prop) (w : World) : Kp p w w := ⟨rfl, rfl, rfl, Nat.le_refl _, fun _ _ => rfl⟩
theorem Kp.trans {p p' : Nat → Prop} {a b c : World} (h : Kp p a b) (k : Kp p' b c) (hp : ∀ x, p x → p' x) : Kp p a c :=
  ⟨k.os.trans h.os, k.tape.trans h.tape, k.output.trans h.output, Nat.le_trans h.size k.size, fun i hi => (k.block i (hp i hi)).trans (h.block i hi)⟩
theorem Kp.of_grown {p : Nat → Prop} {w w' : World} {row : Option Nat} (h : w.grownBy w' row) (hp : ∀ b, p b → b < w.heap.size ∧ some b ≠ row) : Kp p w w' :=
  ⟨h.os, h.tape, h.output, h.size, fun b hb => h.block b (hp b hb).1 (hp b hb).2⟩
/-! ### the state and the world -/
inductive Tag where
  | fz
  | bx (b : Nat)
  | rw (id : Nat)
  | ot
structure Gh where
  who : Nat → Tag
  bk : Nat → Nat
  hd : Nat → Value
def Gh.F (G : Gh) : Nat → Prop := fun b => G.who b = .fz
def CR (w : World) (G : Gh) (rows : List Row) (v : Value) : Cm → Prop
  | .d x => Rd w G.F v x
  | .ref id ep => v.oneCell' = true ∧ v.cells = #[v] ∧ ∀ r, rows[id]? = some r → ep ≤ r.ep ∧ (ep = r.ep → r.c.isSome = true → v = G.hd id)
  | .dead => v.oneCell' = true ∧ v.cells = #[v]
def VR (w : World) (G : Gh) (rows : List Row) (v : Value) (g : Bool) (cs : List Cm) : Prop := match g with
  | false => ∃ c, cs = [c] ∧ CR w G rows v c
  | true => ∃ arr : List Value, v = .agg arr.toArray ∧ F2 (CR w G rows) arr cs
def TR (w : World) (G : Gh) (rows : List Row) (boxes : List Box) (v : Value) : T → Prop
  | .un => True
  | .und => v = undef
  | .v g cs => VR w G rows v g cs
  | .pb b ep off => ∀ B, boxes[b]? = some B → ep ≤ B.ep ∧ (ep = B.ep → B.c.isSome = true → v = .pointer (some ⟨G.bk b, off, none⟩))
  | .pr id ep i off => ∀ r, rows[id]? = some r → ep ≤ r.ep ∧ (ep = r.ep → ∀ c, r.c = some c → i < c.l.length ∧ ∃ g n cap, G.hd id = .slice (some ⟨g, 0, none⟩) n cap ∧ v = .pointer (some ⟨g, i * c.k.size + off, none⟩))
  | .pp k l i off => i < l.length ∧ ∃ g o n cap, Rd w G.F (.slice (some ⟨g, o, none⟩) n cap) (.r k l) ∧ v = .pointer (some ⟨g, o + i * k.size + off, none⟩)
  | .tup l => ∃ arr : List Value, v = .tuple arr.toArray ∧ F2 (fun v (p : Bool × List Cm) => VR w G rows v p.1 p.2) arr l
  | .fn f none => v = .func (.func f) #[] #[]
  | .fn f (some (b, ep)) => ∀ B, boxes[b]? = some B → ep ≤ B.ep ∧ (ep = B.ep → B.c.isSome = true → v = .func (.func f) #[] #[.pointer (some ⟨G.bk b, 0, none⟩)])
/-- The block that a slice with room owns. -/
def ownB : Value → Option Nat
  | .slice (some a) _ (_ + 1) => some a.block
  | _ => none
theorem ownB_pos {a : Addr} {n c : Nat} (h : 0 < c) : ownB (.slice (some a) n c) = some a.block := by cases c with
  | zero => omega
  | succ => rfl
theorem ownB_zero (x : Option Addr) (n : Nat) : ownB (.slice x n 0) = none := by cases x <;> rfl
/-- A row of one's own. -/
def OwnsC (w : World) (base : Nat) (e : TypeId) (size : Nat) (v : Value) (n : Nat) (xs : List Value) : Prop :=
  xs.length = n * size ∧
  (((∃ x, v = .slice x 0 0) ∧ n = 0) ∨
   ∃ g cap cur, v = .slice (some ⟨g, 0, none⟩) n cap ∧ base ≤ g ∧ w.heap[g]? = some (.cells cur e (0, 0)) ∧ n ≤ cap ∧ cap ≤ maxLen ∧ cap * size ≤ cur.size ∧ cur.toList.take (n * size) = xs ∧ 0 < cap)
def OwnR (w : World) (F : Nat → Prop) (v : Value) (c : RC) : Prop := ∃ xs, OwnsC w 0 c.e c.k.size v c.l.length xs ∧ F2 (Rd w F) xs (flat c.k c.l)
def RowR (w : World) (G : Gh) (id : Nat) (r : Row) : Prop := ∀ c, r.c = some c → OwnR w G.F (G.hd id) c ∧ ∀ b, (ownB (G.hd id)) = some b → G.who b = .rw id
def BoxR (w : World) (G : Gh) (rows : List Row) (b : Nat) (cs : List Cm) : Prop :=
  G.who (G.bk b) = .bx b ∧ ∃ (arr : List Value) (ty : TypeId), w.heap[G.bk b]? = some (.cells arr.toArray ty (0, 0)) ∧ F2 (CR w G rows) arr cs
/-- Blocks of the caller: which, and which of them are data. -/
structure Pro where
  p : Nat → Prop
  f : Nat → Prop
  b : List Nat
structure Inv (w0 : World) (prot : Pro) (S : St) (G : Gh) (a : Act) (w : World) : Prop where
  len : a.tmps.size = S.slots.length
  slot : ∀ t x, S.slots[t]? = some x → TR w G S.rows S.boxes (a.tmps.getD t undef) x
  box : ∀ b B, S.boxes[b]? = some B → ∀ cs, B.c = some cs → BoxR w G S.rows b cs
  row : ∀ id r, S.rows[id]? = some r → RowR w G id r
  lt : ∀ b, G.who b ≠ .ot → b < w.heap.size
  kp : Kp prot.p w0 w
  pr : ∀ b, prot.p b → (G.who b = .fz ∧ prot.f b) ∨ (G.who b = .ot ∧ ¬ prot.f b)
  prl : ∀ b, prot.p b → b < w0.heap.size
  df : a.defers = []
  hb : ∀ j b, prot.b[j]? = some b → ∀ B, S.boxes[j]? = some B → B.ep = 0 → B.c.isSome = true → G.bk j = b
/-- A step of the world and of rows, variables: what is known of slots stays. -/
structure Keeps (w : World) (G : Gh) (rows : List Row) (boxes : List Box) (w' : World) (G' : Gh) (rows' : List Row) (boxes' : List Box) : Prop where
  fz : ∀ b, G.who b = .fz → G'.who b = .fz ∧ w'.heap[b]? = w.heap[b]?
  row : ∀ id r', rows'[id]? = some r' → ∃ r, rows[id]? = some r ∧ r.ep ≤ r'.ep ∧ (r.ep = r'.ep → ∀ c', r'.c = some c' → G'.hd id = G.hd id ∧ ∃ c, r.c = some c ∧ c.k = c'.k ∧ c.l.length = c'.l.length)
  box : ∀ b B', boxes'[b]? = some B' → ∃ B, boxes[b]? = some B ∧ B.ep ≤ B'.ep ∧ (B.ep = B'.ep → B'.c.isSome = true → B.c.isSome = true ∧ G'.bk b = G.bk b)
theorem Keeps.rd {w w' : World} {G G' : Gh} {rows rows' : List Row} {bs bs' : List Box} (h : Keeps w G rows bs w' G' rows' bs') {v : Value} {x : D} (hr : Rd w G.F v x) : Rd w' G'.F v x :=
  hr.mono (fun b hb => (h.fz b hb).1) fun b hb => (h.fz b hb).2
theorem Keeps.cr {w w' : World} {G G' : Gh} {rows rows' : List Row} {bs bs' : List Box} (h : Keeps w G rows bs w' G' rows' bs') {v : Value} {c : Cm} (hr : CR w G rows v c) : CR w' G' rows' v c := by
  cases c with
  | d x => exact h.rd hr
  | dead => exact hr
  | ref id ep =>
    refine ⟨hr.1, hr.2.1, fun r' hr' => ?_⟩
    obtain ⟨r, hr0, hle, hsame⟩ := h.row id r' hr'
    obtain ⟨h1, h2⟩ := hr.2.2 r hr0
    refine ⟨Nat.le_trans h1 hle, fun he hs => ?_⟩
    have her : r.ep = r'.ep := by omega
    obtain ⟨c', hc'⟩ := Option.isSome_iff_exists.1 hs
    obtain ⟨hh, c, hc, _⟩ := hsame her c' hc'
    rw [hh]
    exact h2 (by omega) (by simp [hc])
theorem Keeps.vr {w w' : World} {G G' : Gh} {rows rows' : List Row} {bs bs' : List Box} (h : Keeps w G rows bs w' G' rows' bs') {v : Value} {g : Bool} {cs : List Cm} (hr : VR w G rows v g cs) : VR w' G' rows' v g cs := by
  cases g with
  | false => obtain ⟨c, h1, h2⟩ := hr; exact ⟨c, h1, h.cr h2⟩
  | true => obtain ⟨arr, h1, h2⟩ := hr; exact ⟨arr, h1, h2.mono fun _ _ hc => h.cr hc⟩
theorem Keeps.tr {w w' : World} {G G' : Gh} {rows rows' : List Row} {bs bs' : List Box} (h : Keeps w G rows bs w' G' rows' bs') {v : Value} {x : T} (hr : TR w G rows bs v x) : TR w' G' rows' bs' v x := by
  cases x with
  | un => trivial
  | und => exact hr
  | v g cs => exact h.vr hr
  | pb b ep off =>
    intro B' hB'
    obtain ⟨B, hB, hle, hsame⟩ := h.box b B' hB'
    obtain ⟨h1, h2⟩ := hr B hB
    refine ⟨Nat.le_trans h1 hle, fun he hs => ?_⟩
    obtain ⟨h3, h4⟩ := hsame (by omega) hs
    rw [h4]
    exact h2 (by omega) h3
  | pr id ep i off =>
    intro r' hr'
    obtain ⟨r, hr0, hle, hsame⟩ := h.row id r' hr'
    obtain ⟨h1, h2⟩ := hr r hr0
    refine ⟨Nat.le_trans h1 hle, fun he c' hc' => ?_⟩
    have her : r.ep = r'.ep := by omega
    obtain ⟨hh, c, hc, hk, hl⟩ := hsame her c' hc'
    obtain ⟨h3, g, n, cap, h4, h5⟩ := h2 (by omega) c hc
    rw [hh]
    exact ⟨by omega, g, n, cap, h4, by rw [← hk]; exact h5⟩
  | pp k l i off => obtain ⟨h1, g, o, n, cap, h2, h3⟩ := hr; exact ⟨h1, g, o, n, cap, h.rd h2, h3⟩
  | tup l => obtain ⟨arr, h1, h2⟩ := hr; exact ⟨arr, h1, h2.mono fun _ _ hc => h.vr hc⟩
  | fn f cb =>
    cases cb with
    | none => exact hr
    | some p =>
      obtain ⟨b, ep⟩ := p
      intro B' hB'
      obtain ⟨B, hB, hle, hsame⟩ := h.box b B' hB'
      obtain ⟨h1, h2⟩ := hr B hB
      refine ⟨Nat.le_trans h1 hle, fun he hs => ?_⟩
      obtain ⟨h3, h4⟩ := hsame (by omega) hs
      rw [h4]
      exact h2 (by omega) h3
end Go.Proofs.YtlapeiijghebjaaE

/- The state's relation is kept: a value laid into a slot, new blocks, rows and variables written. Conditions: none. -/
set_option linter.unusedVariables false
namespace Go.Proofs.YtlapeiijghebjaaE
open Go Go.RowKit
theorem setD_len {α : Type} (d : Option Nat) (x : α) (l : List α) : (setD d x l).length = l.length := by cases d <;> simp [setD]
theorem setD_get {α : Type} {d : Option Nat} {x y : α} {l : List α} {i : Nat} (h : (setD d x l)[i]? = some y) :
    (d = some i ∧ y = x ∧ i < l.length) ∨ (d ≠ some i ∧ l[i]? = some y) := by
  cases d with
  | none => exact .inr ⟨by simp, h⟩
  | some j =>
    simp only [setD, List.getElem?_set] at h
    by_cases hj : j = i
    · subst hj
      rw [if_pos rfl] at h
      split at h
      · exact .inl ⟨rfl, by simpa using h.symm, ‹_›⟩
      · simp at h
    · rw [if_neg hj] at h
      exact .inr ⟨by simpa using hj, h⟩
theorem put_size (a : Act) (d : Option Nat) (v : Value) : (a.put d v).tmps.size = a.tmps.size := by cases d <;> simp [Act.put]
theorem put_same (a : Act) (i : Nat) (v : Value) (h : i < a.tmps.size) : (a.put (some i) v).tmps.getD i undef = v := by simp [Act.put, h]
theorem put_other (a : Act) (d : Option Nat) (i : Nat) (v : Value) (h : d ≠ some i) : (a.put d v).tmps.getD i undef = a.tmps.getD i undef := by
  cases d with
  | none => rfl
  | some j =>
    have hj : j ≠ i := fun e => h (by rw [e])
    simp [Act.put, Array.getElem?_setIfInBounds_ne hj]
theorem put_defers (a : Act) (d : Option Nat) (v : Value) : (a.put d v).defers = a.defers := by cases d <;> rfl
theorem app_val (S : St) (d : Option Nat) (t : T) : S.app d (val t) = { S with slots := setD d t S.slots } := rfl
/-- A step: the world, rows and variables turn; a value is laid into a slot. -/
theorem Inv.step {w0 : World} {prot : Pro} {S : St} {G : Gh} {a : Act} {w : World} (h : Inv w0 prot S G a w) {w' : World} {G' : Gh} {rows' : List Row} {boxes' : List Box}
    (hk : Keeps w G S.rows S.boxes w' G' rows' boxes')
    (hbox : ∀ b B, boxes'[b]? = some B → ∀ cs, B.c = some cs → BoxR w' G' rows' b cs) (hrow : ∀ id r, rows'[id]? = some r → RowR w' G' id r)
    (hlt : ∀ b, G'.who b ≠ .ot → b < w'.heap.size) (hkp : Kp prot.p w0 w') (hpr : ∀ b, prot.p b → (G'.who b = .fz ∧ prot.f b) ∨ (G'.who b = .ot ∧ ¬ prot.f b))
    {v : Value} {t : T} (ht : TR w' G' rows' boxes' v t) (d : Option Nat) :
    Inv w0 prot ⟨setD d t S.slots, rows', boxes'⟩ G' (a.put d v) w' where
  len := by rw [put_size, h.len, setD_len]
  slot := by
    intro i x hx
    rcases setD_get hx with ⟨hd, rfl, hi⟩ | ⟨hd, hx⟩
    · subst hd
      rw [put_same _ _ _ (by rw [h.len]; exact hi)]
      exact ht
    · rw [put_other _ _ _ _ hd]
      exact hk.tr (h.slot i x hx)
  box := hbox
  row := hrow
  lt := hlt
  kp := hkp
  pr := hpr
  prl := h.prl
  df := by rw [put_defers]; exact h.df
  hb := by
    intro j b hj B' hB' he hs
    obtain ⟨B, hB, hle, hsame⟩ := hk.box j B' hB'
    obtain ⟨h1, h2⟩ := hsame (by omega) hs
    rw [h2]
    exact h.hb j b hj B hB (by omega) h1
theorem Keeps.refl (w : World) (G : Gh) (rows : List Row) (bs : List Box) : Keeps w G rows bs w G rows bs :=
  ⟨fun b hb => ⟨hb, rfl⟩, fun id r' hr => ⟨r', hr, Nat.le_refl _, fun _ c' hc => ⟨rfl, c', hc, rfl, rfl⟩⟩, fun b B' hB => ⟨B', hB, Nat.le_refl _, fun _ h => ⟨h, rfl⟩⟩⟩
theorem Inv.put {w0 : World} {prot : Pro} {S : St} {G : Gh} {a : Act} {w : World} (h : Inv w0 prot S G a w) {v : Value} {t : T} (ht : TR w G S.rows S.boxes v t) (d : Option Nat) :
    Inv w0 prot (S.app d (val t)) G (a.put d v) w :=
  h.step (Keeps.refl _ _ _ _) h.box h.row h.lt h.kp h.pr ht d
/-! ### new blocks -/
def Gh.new (G : Gh) (n : Nat) (t : Tag) : Gh := { G with who := fun b => if b = n then t else G.who b }
theorem Gh.new_same (G : Gh) (n : Nat) (t : Tag) : (G.new n t).who n = t := by simp [Gh.new]
theorem Gh.new_other (G : Gh) {n b : Nat} (t : Tag) (h : b ≠ n) : (G.new n t).who b = G.who b := by simp [Gh.new, h]
theorem alloc_old (w : World) (o : Obj) {b : Nat} (h : b < w.heap.size) : (w.alloc o).heap[b]? = w.heap[b]? := Below.heap_alloc w o b h
theorem alloc_new (w : World) (o : Obj) : (w.alloc o).heap[w.heap.size]? = some o := heap_alloc_new w o
theorem F2.crs {w w' : World} {G G' : Gh} {rows rows' : List Row} {bs bs' : List Box} (h : Keeps w G rows bs w' G' rows' bs') {l : List Value} {m : List Cm} (hf : F2 (CR w G rows) l m) : F2 (CR w' G' rows') l m :=
  hf.mono fun _ _ hc => h.cr hc
theorem F2.rds {w w' : World} {G G' : Gh} {rows rows' : List Row} {bs bs' : List Box} (h : Keeps w G rows bs w' G' rows' bs') {l : List Value} {m : List D} (hf : F2 (Rd w G.F) l m) : F2 (Rd w' G'.F) l m :=
  hf.mono fun _ _ hc => h.rd hc
/-- A variable that nobody wrote stays. -/
theorem BoxR.keep {w w' : World} {G G' : Gh} {rows rows' : List Row} {bs bs' : List Box} (h : Keeps w G rows bs w' G' rows' bs') {b : Nat} {cs : List Cm} (hb : BoxR w G rows b cs)
    (h1 : G'.bk b = G.bk b) (h2 : G'.who (G.bk b) = G.who (G.bk b)) (h3 : w'.heap[G.bk b]? = w.heap[G.bk b]?) : BoxR w' G' rows' b cs := by
  obtain ⟨hw, arr, ty, hh, hf⟩ := hb
  exact ⟨by rw [h1, h2]; exact hw, arr, ty, by rw [h1, h3]; exact hh, hf.crs h⟩
theorem OwnsC.keep {w w' : World} {base : Nat} {e : TypeId} {size : Nat} {v : Value} {n : Nat} {xs : List Value} (h : OwnsC w base e size v n xs) (hw : ∀ b, (ownB v) = some b → w'.heap[b]? = w.heap[b]?) : OwnsC w' base e size v n xs := by
  refine ⟨h.1, ?_⟩
  rcases h.2 with hn | ⟨g, cap, cur, rfl, hb, hg, rest⟩
  · exact .inl hn
  · exact .inr ⟨g, cap, cur, rfl, hb, by rw [hw g (ownB_pos rest.2.2.2.2)]; exact hg, rest⟩
theorem RowR.keep {w w' : World} {G G' : Gh} {rows rows' : List Row} {bs bs' : List Box} (h : Keeps w G rows bs w' G' rows' bs') {id : Nat} {r : Row} (hr : RowR w G id r)
    (h1 : G'.hd id = G.hd id) (h2 : ∀ b, G.who b = .rw id → G'.who b = .rw id) (h3 : ∀ b, G.who b = .rw id → w'.heap[b]? = w.heap[b]?) : RowR w' G' id r := by
  intro c hc
  obtain ⟨⟨xs, ho, hf⟩, hb⟩ := hr c hc
  rw [h1]
  exact ⟨⟨xs, ho.keep fun b hb' => h3 b (hb b hb'), hf.rds h⟩, fun b hb' => h2 b (hb b hb')⟩
section
variable {w0 : World} {prot : Pro} {S : St} {G : Gh} {a : Act} {w : World}
theorem Inv.who_new (h : Inv w0 prot S G a w) {b : Nat} (hb : w.heap.size ≤ b) : G.who b = .ot := by
  cases hh : G.who b with
  | ot => rfl
  | _ => have := h.lt b (by rw [hh]; simp); omega
/-- The world grew; who is who stays, but for the new blocks. -/
theorem Inv.grow (h : Inv w0 prot S G a w) {w' : World} {G' : Gh} (hk : Kp (fun b => b < w.heap.size) w w') (hwho : ∀ b, b < w.heap.size → G'.who b = G.who b)
    (hlt : ∀ b, G'.who b ≠ .ot → b < w'.heap.size) (hbk : G'.bk = G.bk) (hhd : G'.hd = G.hd) :
    Keeps w G S.rows S.boxes w' G' S.rows S.boxes ∧ Inv w0 prot S G' a w' := by
  have old : ∀ b, G.who b ≠ .ot → G'.who b = G.who b ∧ w'.heap[b]? = w.heap[b]? := fun b hb => ⟨hwho b (h.lt b hb), hk.block b (h.lt b hb)⟩
  have hkeep : Keeps w G S.rows S.boxes w' G' S.rows S.boxes :=
    ⟨fun b hb => by have := old b (by rw [hb]; simp); exact ⟨by rw [this.1, hb], this.2⟩,
     fun id r' hr => ⟨r', hr, Nat.le_refl _, fun _ c' hc => ⟨by rw [hhd], c', hc, rfl, rfl⟩⟩, fun b B' hB => ⟨B', hB, Nat.le_refl _, fun _ h => ⟨h, by rw [hbk]⟩⟩⟩
  refine ⟨hkeep, h.len, ?_, ?_, ?_, hlt, ?_, ?_, h.prl, h.df, fun j b hj B hB he hs => by rw [hbk]; exact h.hb j b hj B hB he hs⟩
  · intro t x hx; exact hkeep.tr (h.slot t x hx)
  · intro b B hB cs hcs
    have hb := h.box b B hB cs hcs
    have := old (G.bk b) (by rw [hb.1]; simp)
    exact hb.keep hkeep (by rw [hbk]) this.1 this.2
  · intro id r hr
    exact (h.row id r hr).keep hkeep (by rw [hhd]) (fun b hb => by rw [(old b (by rw [hb]; simp)).1, hb]) fun b hb => (old b (by rw [hb]; simp)).2
  · exact h.kp.trans hk fun x hx => Nat.lt_of_lt_of_le (h.prl x hx) h.kp.size
  · intro b hb
    have hl := Nat.lt_of_lt_of_le (h.prl b hb) h.kp.size
    rw [hwho b hl]; exact h.pr b hb
theorem Kp.alloc (w : World) (o : Obj) : Kp (fun b => b < w.heap.size) w (w.alloc o) := ⟨rfl, rfl, rfl, by simp, fun b hb => alloc_old w o hb⟩
/-- A new block of tag t. -/
theorem Inv.alloc (h : Inv w0 prot S G a w) (o : Obj) (t : Tag) :
    Keeps w G S.rows S.boxes (w.alloc o) (G.new w.heap.size t) S.rows S.boxes ∧ Inv w0 prot S (G.new w.heap.size t) a (w.alloc o) := by
  refine h.grow (Kp.alloc w o) (fun b hb => Gh.new_other G t (by omega)) (fun b hb => ?_) rfl rfl
  by_cases e : b = w.heap.size
  · subst e; simp
  · rw [Gh.new_other G t e] at hb; have := h.lt b hb; simp; omega
theorem Inv.drew (h : Inv w0 prot S G a w) : Inv w0 prot S G a w.drew :=
  (h.grow (w' := w.drew) (G' := G) ⟨rfl, rfl, rfl, Nat.le_refl _, fun _ _ => rfl⟩ (fun _ _ => rfl) h.lt rfl rfl).2
/-- A row of data in a new block. -/
theorem Inv.alloc_row (h : Inv w0 prot S G a w) (k : RK) (l : List k.El) (cur : List Value) (e : TypeId) (cap : Nat) (hc : l.length ≤ cap) (hl : F2 (Rd w G.F) (cur.take (l.length * k.size)) (flat k l)) (d : Option Nat) :
    ∃ G', Inv w0 prot (S.app d (val (.v false [.d (.r k l)]))) G' (a.put d (.slice (some ⟨w.heap.size, 0, none⟩) l.length cap)) (w.alloc (.cells cur.toArray e (0, 0))) := by
  obtain ⟨hk, hi⟩ := h.alloc (.cells cur.toArray e (0, 0)) .fz
  refine ⟨_, hi.put (t := .v false [.d (.r k l)]) ⟨_, rfl, ?_⟩ d⟩
  refine Rd.of_lies (Gh.new_same _ _ _) hc (xs := cur.take (l.length * k.size)) ⟨fun j u hu => ?_, hl.rds hk⟩
  rw [add_lit]
  rw [List.getElem?_take] at hu
  split at hu
  · rw [cell_of_row _ _ _ _ _ _ (heap_alloc_new w _)]; simpa using hu
  · simp at hu
/-- A new variable. -/
theorem Inv.alloc_box (h : Inv w0 prot S G a w) (b : Nat) (B : Box) (cs : List Cm) (arr : List Value) (e : TypeId) (hb : S.boxes[b]? = some B) (hf : F2 (CR w G S.rows) arr cs) (d : Option Nat) :
    ∃ G', Inv w0 prot (S.app d ⟨.pb b (B.ep + 1) 0, [], [(b, ⟨B.ep + 1, some cs⟩)]⟩) G' (a.put d (.pointer (some ⟨w.heap.size, 0, none⟩))) (w.alloc (.cells arr.toArray e (0, 0))) := by
  obtain ⟨hk, hi⟩ := h.alloc (.cells arr.toArray e (0, 0)) (.bx b)
  have hbl : b < S.boxes.length := (List.getElem?_eq_some_iff.1 hb).1
  let G' : Gh := { G.new w.heap.size (.bx b) with bk := fun x => if x = b then w.heap.size else G.bk x }
  have hkeep : Keeps w G S.rows S.boxes (w.alloc (.cells arr.toArray e (0, 0))) G' S.rows (S.boxes.set b ⟨B.ep + 1, some cs⟩) := by
    refine ⟨hk.fz, hk.row, fun b' B' hB' => ?_⟩
    rw [List.getElem?_set] at hB'
    by_cases e1 : b = b'
    · subst e1
      rw [if_pos rfl, if_pos hbl] at hB'
      cases hB'
      exact ⟨B, hb, by simp, fun h => by simp at h⟩
    · rw [if_neg e1] at hB'
      refine ⟨B', hB', Nat.le_refl _, fun _ h => ⟨h, ?_⟩⟩
      show (if b' = b then _ else _) = _
      rw [if_neg fun e => e1 e.symm]
  refine ⟨G', h.step hkeep ?_ ?_ hi.lt hi.kp hi.pr ?_ d⟩
  · intro b' B' hB' cs' hcs'
    rw [List.getElem?_set] at hB'
    by_cases e1 : b = b'
    · subst e1
      rw [if_pos rfl, if_pos hbl] at hB'
      cases hB'
      cases hcs'
      have hbk : G'.bk b = w.heap.size := by show (if b = b then _ else _) = _; rw [if_pos rfl]
      refine ⟨by rw [hbk]; exact Gh.new_same _ _ _, arr, e, by rw [hbk]; exact alloc_new _ _, hf.crs hkeep⟩
    · rw [if_neg e1] at hB'
      have hb' := h.box b' B' hB' cs' hcs'
      have hlt := h.lt (G.bk b') (by rw [hb'.1]; simp)
      refine hb'.keep hkeep ?_ (Gh.new_other _ _ (by omega)) (alloc_old _ _ hlt)
      show (if b' = b then _ else _) = _
      rw [if_neg fun e => e1 e.symm]
  · intro id r hr
    exact (h.row id r hr).keep hkeep rfl (fun b' hb' => by
      have hlt := h.lt b' (by rw [hb']; simp)
      show (G.new _ _).who b' = _
      rw [Gh.new_other _ _ (by omega), hb']) fun b' hb' => alloc_old _ _ (h.lt b' (by rw [hb']; simp))
  · intro B' hB'
    rw [List.getElem?_set, if_pos rfl, if_pos hbl] at hB'
    cases hB'
    refine ⟨Nat.le_refl _, fun _ _ => ?_⟩
    show _ = Value.pointer (some ⟨(if b = b then _ else _), 0, none⟩)
    rw [if_pos rfl]
end
end Go.Proofs.YtlapeiijghebjaaE

/- What Go's operations do, said of the evaluator's tables. Conditions: none. -/
set_option linter.unusedVariables false
namespace Go.Proofs.YtlapeiijghebjaaE
open Go Go.RowKit
def ZR (v : Value) (x : D) : Prop := ∀ w F, Rd w F v x
structure TyOk (P : Program) (V : Env) (t : Nat) (I : TyI) : Prop where
  info : ∃ i z, P.info? t = some i ∧ i.size = I.zc.length ∧ i.bytes ≤ 1024 ∧ i.zero = some z ∧
    ∃ arr : List Value, z.cells = arr.toArray ∧ F2 ZR arr I.zc ∧ (I.agg = true → z = .agg arr.toArray) ∧ (I.agg = false → ∃ c, arr = [c] ∧ z = c)
  ag : I.agg = true → ∃ fs : Array Field, P.underlying t = some (.struct fs) ∧ ∀ f ∈ fs.toList, ∃ i, P.info? f.type = some i
  st : ∀ (f o ft : Nat), I.fs[f]? = some (o, ft) → ∃ (fs : Array Field) (fl : Field), P.underlying t = some (.struct fs) ∧ fs[f]? = some fl ∧ fl.offset = o ∧ fl.type = ft
  sc : I.agg = false → I.zc.length = 1 ∧ ∃ d, P.underlying t = some d ∧ (∀ fs, d ≠ .struct fs) ∧ ∀ n e, d ≠ .array n e
  sl : ∀ k e, I.el = some (k, e) → P.underlying t = some (.slice e) ∧ ∃ J, look e V.tys = some J ∧ J.zc = k.cells k.z
  nu : ∀ k x, I.agg = false → I.zc = [.i k x] → P.underlying t = some (.int k)
  nb : ∀ x, I.agg = false → I.zc = [.b x] → P.underlying t = some .bool
def TysOk (P : Program) (V : Env) : Prop := ∀ t I, look t V.tys = some I → TyOk P V t I
section
variable {P : Program} {V : Env} (hV : TysOk P V) {w0 : World} {prot : Pro} {S : St} {G : Gh} {a : Act} {w : World}
include hV
theorem run_size {t : Nat} {I : TyI} (hI : look t V.tys = some I) (w : World) : (Go.sizeOf t).run P w = .ok I.zc.length w := by
  obtain ⟨i, z, h1, h2, _⟩ := (hV t I hI).info
  simp [Go.sizeOf, typeInfo, h1, h2]
theorem run_agg {t : Nat} {I : TyI} (hI : look t V.tys = some I) (w : World) : (isAgg t).run P w = .ok I.agg w := by
  cases hg : I.agg with
  | true =>
    obtain ⟨fs, hf, _⟩ := (hV t I hI).ag hg
    simp [isAgg, run_underlying hf]
  | false =>
    obtain ⟨_, d, hd, h1, h2⟩ := (hV t I hI).sc hg
    simp only [isAgg, Sem.run_bind, run_underlying hd, Result.andThen_ok]
    cases d <;> first | rfl | exact absurd rfl (h1 _) | exact absurd rfl (h2 _ _)
theorem run_fieldAt {s f off ft : Nat} {I J : TyI} (hI : look s V.tys = some I) (hf : I.fs[f]? = some (off, ft)) (hJ : look ft V.tys = some J) (hz : J.zc.length ≠ 0) (g o : Nat) (w : World) :
    (Instr.fieldAt s (.pointer (some ⟨g, o, none⟩)) f).run P w = .ok (.pointer (some ⟨g, o + off, none⟩)) w := by
  obtain ⟨fs, fl, h1, h2, h3, h4⟩ := (hV s I hI).st f off ft hf
  subst h3; subst h4
  simp [Instr.fieldAt, run_underlying h1, h2, Instr.sureAddr, fieldPlace, run_size hV hJ, hz, add_lit]
def mkV (g : Bool) (xs : List Value) : Value := match g with
  | true => .agg xs.toArray
  | false => xs.headD undef
omit hV in
theorem VR.mk {rows : List Row} {g : Bool} {xs : List Value} {cs : List Cm} (h : F2 (CR w G rows) xs cs) (hg : g = false → xs.length = 1) : VR w G rows (mkV g xs) g cs := by
  cases g with
  | true => exact ⟨xs, rfl, h⟩
  | false =>
    have hl := hg rfl
    cases h with
    | nil => simp at hl
    | cons h1 h2 => cases h2 with
      | nil => exact ⟨_, rfl, h1⟩
      | cons => simp at hl
omit hV in
theorem VR.open {rows : List Row} {v : Value} {g : Bool} {cs : List Cm} (h : VR w G rows v g cs) : ∃ xs, v = mkV g xs ∧ F2 (CR w G rows) xs cs ∧ v.cells = xs.toArray ∧ (g = false → xs.length = 1) := by
  cases g with
  | true => obtain ⟨arr, rfl, h2⟩ := h; exact ⟨arr, rfl, h2, rfl, by simp⟩
  | false =>
    obtain ⟨c, rfl, h2⟩ := h
    refine ⟨[v], rfl, .cons h2 .nil, ?_, fun _ => rfl⟩
    cases c with
    | d x => rw [h2.cells]
    | ref id ep => rw [h2.2.1]
    | dead => rw [h2.2]
theorem run_loadAt {t : Nat} {I : TyI} (hI : look t V.tys = some I) (g o : Nat) (xs : List Value) (hl : xs.length = I.zc.length)
    (hx : ∀ j u, xs[j]? = some u → w.cell? ⟨g, o + j, none⟩ = some u) : (Instr.loadAt t (.pointer (some ⟨g, o, none⟩))).run P w = .ok (mkV I.agg xs) w := by
  have hx' : ∀ j u, xs[j]? = some u → w.cell? ((⟨g, o, none⟩ : Addr).add j) = some u := fun j u h => by rw [add_lit]; exact hx j u h
  have hc := run_loadCells_list (P := P) w ⟨g, o, none⟩ xs hx'
  cases hg : I.agg with
  | true =>
    simp [Instr.loadAt, Instr.sureAddr, loadVar, run_agg hV hI, hg, run_size hV hI, ← hl, hc, mkV]
  | false =>
    have h1 := ((hV t I hI).sc hg).1
    rw [h1] at hl
    obtain ⟨v, rfl⟩ : ∃ v, xs = [v] := by
      cases xs with
      | nil => simp at hl
      | cons v l => cases l with
        | nil => exact ⟨v, rfl⟩
        | cons => simp at hl
    have := hx 0 v rfl
    simp only [Nat.add_zero] at this
    simp [Instr.loadAt, Instr.sureAddr, loadVar, run_agg hV hI, hg, load, Sem.run, this, mkV]
/-- What an operand is. -/
theorem opnd_tr (h : Inv w0 prot S G a w) {ty : Nat} {x : Operand} {t : T} (ho : S.opnd V ty x = some t) : TR w G S.rows S.boxes (a.eval x) t := by
  have _ := hV
  have key : ∀ y, opC V ty y = some t → TR w G S.rows S.boxes (a.eval y) t := by
    intro y hy
    unfold opC at hy
    split at hy
    · simp only [Option.some.injEq] at hy; subst hy; exact ⟨_, rfl, Rd.i _ _⟩
    · simp only [Option.some.injEq] at hy; subst hy; exact ⟨_, rfl, Rd.b _⟩
    · split at hy
      · simp only [Option.some.injEq] at hy; subst hy; exact ⟨_, rfl, Rd.nil _ _⟩
      · simp at hy
    · simp only [Option.some.injEq] at hy; subst hy; trivial
    · simp only [Option.some.injEq] at hy; subst hy; rfl
    · simp at hy
  cases x with
  | tmp i => exact h.slot _ _ ho
  | const v => exact key _ ho
  | func f => exact key _ ho
  | global g => simp [St.opnd] at ho
theorem opnd_int (h : Inv w0 prot S G a w) {ty : Nat} {x : Operand} {k : IntKind} {n : Int} (ho : S.opnd V ty x = some (.v false [.d (.i k n)])) : a.eval x = .int k n := by
  obtain ⟨c, hc, hr⟩ := opnd_tr hV h ho
  cases hc
  exact Rd.int hr
theorem opnd_bool (h : Inv w0 prot S G a w) {ty : Nat} {x : Operand} {n : Bool} (ho : S.opnd V ty x = some (.v false [.d (.b n)])) : a.eval x = .bool n := by
  obtain ⟨c, hc, hr⟩ := opnd_tr hV h ho
  cases hc
  exact Rd.bool hr
theorem opnd_row (h : Inv w0 prot S G a w) {ty : Nat} {x : Operand} {k : RK} {l : List k.El} (ho : S.opnd V ty x = some (.v false [.d (.r k l)])) : Rd w G.F (a.eval x) (.r k l) := by
  obtain ⟨c, hc, hr⟩ := opnd_tr hV h ho
  cases hc
  exact hr
theorem opnd_vr (h : Inv w0 prot S G a w) {ty : Nat} {x : Operand} {g : Bool} {cs : List Cm} (ho : S.opnd V ty x = some (.v g cs)) : VR w G S.rows (a.eval x) g cs := opnd_tr hV h ho
omit hV in
theorem live_spec {id ep : Nat} {c : RC} (h : S.live id ep = some c) : ∃ r, S.rows[id]? = some r ∧ ep = r.ep ∧ r.c = some c := by
  unfold St.live at h
  split at h
  · rename_i r hr
    split at h
    · exact ⟨r, hr, ‹_›, h⟩
    · simp at h
  · simp at h
/-- A row of one's own, by its name. -/
theorem own_of (h : Inv w0 prot S G a w) {id ep : Nat} {c : RC} (hl : S.live id ep = some c) {v : Value} (hv : CR w G S.rows v (.ref id ep)) :
    v = G.hd id ∧ OwnR w G.F v c ∧ ∀ b, (ownB v) = some b → G.who b = .rw id := by
  have _ := hV
  obtain ⟨r, hr, he, hc⟩ := live_spec hl
  have := (hv.2.2 r hr).2 he (by simp [hc])
  subst this
  exact ⟨rfl, h.row id r hr c hc⟩
omit hV in
/-- A row's cells lie in memory. -/
theorem OwnR.cells {F : Nat → Prop} {v : Value} {c : RC} (h : OwnR w F v c) : ((∃ x, v = .slice x 0 0) ∧ c.l = []) ∨
    ∃ g cap xs cur, v = .slice (some ⟨g, 0, none⟩) c.l.length cap ∧ (c.l.length ≤ cap ∧ 0 < cap) ∧ cap * c.k.size ≤ cur.size ∧ w.heap[g]? = some (.cells cur c.e (0, 0)) ∧ cur.toList.take (c.l.length * c.k.size) = xs ∧
      (∀ j u, xs[j]? = some u → w.cell? ⟨g, j, none⟩ = some u) ∧ F2 (Rd w F) xs (flat c.k c.l) := by
  obtain ⟨xs, ⟨hl, ho⟩, hf⟩ := h
  rcases ho with ⟨hv, hn⟩ | ⟨g, cap, cur, hv, hb, hg, hnc, hcm, hcs, ht, hpos⟩
  · exact .inl ⟨hv, List.length_eq_zero_iff.1 hn⟩
  · refine .inr ⟨g, cap, xs, cur, hv, ⟨hnc, hpos⟩, hcs, hg, ht, fun j u hu => ?_, hf⟩
    rw [cell_of_row _ _ _ _ _ _ hg, ← Array.getElem?_toList]
    rw [← ht, List.getElem?_take] at hu
    split at hu
    · exact hu
    · simp at hu
/-- A slice's cells lie in memory, be it data or a row of one's own. -/
theorem elems_lies (h : Inv w0 prot S G a w) {v : Value} {t : T} {k : RK} {l : List k.El} (ht : TR w G S.rows S.boxes v t) (he : S.elems t = some ⟨k, l⟩) :
    ((∃ x, v = .slice x 0 0) ∧ l = []) ∨ ∃ g off cap xs, v = .slice (some ⟨g, off, none⟩) l.length cap ∧ l.length ≤ cap ∧ Lies w G.F g off k l xs := by
  unfold St.elems at he
  split at he
  · rename_i k' l'
    cases he
    obtain ⟨c, hc, hr⟩ := ht
    cases hc
    rcases Rd.row_lies hr with h1 | ⟨g, off, cap, xs, h1, h2, h3, h4⟩
    · exact .inl h1
    · exact .inr ⟨g, off, cap, xs, h1, h3, h4⟩
  · rename_i id ep
    split at he
    · rename_i c hc
      cases he
      obtain ⟨c', hc', hr⟩ := ht
      cases hc'
      obtain ⟨_, ho, _⟩ := own_of hV h hc hr
      rcases ho.cells with h1 | ⟨g, cap, xs, cur, h1, h2, _, _, _, h3, h4⟩
      · exact .inl h1
      · exact .inr ⟨g, 0, cap, xs, h1, h2.1, fun j u hu => by rw [add_lit, Nat.zero_add]; exact h3 j u hu, h4⟩
    · simp at he
  · simp at he
theorem elems_val (h : Inv w0 prot S G a w) {v : Value} {t : T} {k : RK} {l : List k.El} (ht : TR w G S.rows S.boxes v t) (he : S.elems t = some ⟨k, l⟩) : ∃ b cap, v = .slice b l.length cap := by
  rcases elems_lies hV h ht he with ⟨⟨x, rfl⟩, rfl⟩ | ⟨g, off, cap, xs, rfl, _⟩
  · exact ⟨_, _, rfl⟩
  · exact ⟨_, _, rfl⟩
end
end Go.Proofs.YtlapeiijghebjaaE

/- What yields one value: the evaluator's answer is Go's. Conditions: none. -/
set_option linter.unusedVariables false
namespace Go.Proofs.YtlapeiijghebjaaE
open Go Go.RowKit
theorem one_spec {x : Option (Option Prop × T)} {p : Option Prop} {out : Outc} (h : one x = some (p, out)) : ∃ t, x = some (p, t) ∧ out = val t := by
  unfold one at h
  split at h
  · cases h; exact ⟨_, rfl, rfl⟩
  · simp at h
theorem one_map {x : Option T} {p : Option Prop} {out : Outc} (h : one (x.map (none, ·)) = some (p, out)) : ∃ t, x = some t ∧ out = val t := by
  obtain ⟨t, h1, h2⟩ := one_spec h
  cases x with
  | none => simp at h1
  | some y => simp at h1; exact ⟨t, by rw [h1.2], h2⟩
theorem box_spec {S : St} {b ep : Nat} {cs : List Cm} (h : S.box b ep = some cs) : ∃ B, S.boxes[b]? = some B ∧ ep = B.ep ∧ B.c = some cs := by
  unfold St.box at h
  split at h
  · rename_i B hB
    split at h
    · exact ⟨B, hB, ‹_›, h⟩
    · simp at h
  · simp at h
theorem cut_flat (k : RK) (l : List k.El) (i off n : Nat) (hi : i < l.length) (h : off + n ≤ k.size) : cutC (flat k l) (i * k.size + off) n = cutC (k.cells (k.at l i)) off n := by
  rw [← flat_at k l i hi]
  simp only [cutC, List.drop_take, List.take_take, List.drop_drop]
  rw [Nat.min_eq_left (by omega)]
theorem cut_get {α : Type} {xs : List α} {o n j : Nat} {u : α} (h : (cutC xs o n)[j]? = some u) : xs[o + j]? = some u := by
  simp only [cutC, List.getElem?_take, List.getElem?_drop] at h
  split at h
  · exact h
  · simp at h
theorem idx_le {i n s : Nat} (h : i < n) : i * s + s ≤ n * s := by
  have := Nat.mul_le_mul_right s (Nat.succ_le_of_lt h)
  rwa [Nat.succ_mul] at this
section
variable {P : Program} {V : Env} (hV : TysOk P V) {w0 : World} {prot : Pro} {S : St} {G : Gh} {a : Act} {w : World}
include hV
/-- A load's value. -/
theorem load_ok (h : Inv w0 prot S G a w) {t : Nat} {I : TyI} (hI : look t V.tys = some I) {v : Value} {q : T} {p : Option Prop} {r : T} (hq : TR w G S.rows S.boxes v q)
    (hl : loadT S I.agg I.zc.length q = some (p, r)) : ∃ u, (Instr.loadAt t v).run P w = .ok u w ∧ TR w G S.rows S.boxes u r := by
  have hsc : I.agg = false → I.zc.length = 1 := fun hg => ((hV t I hI).sc hg).1
  unfold loadT at hl
  split at hl
  · rename_i b ep off
    split at hl
    · rename_i cs hcs
      split at hl
      · cases hl
        obtain ⟨B, hB, he, hc⟩ := box_spec hcs
        have hv := (hq B hB).2 he (by simp [hc])
        subst hv
        obtain ⟨_, arr, ty, hh, hf⟩ := h.box b B hB cs hc
        have hlen := hf.len
        have hxl : (cutC arr off I.zc.length).length = I.zc.length := cutC_len _ _ _ (by omega)
        refine ⟨_, run_loadAt hV hI (G.bk b) off (cutC arr off I.zc.length) hxl fun j u hu => ?_, VR.mk (hf.cut off I.zc.length) fun hg => by rw [hxl, hsc hg]⟩
        rw [cell_of_row _ _ _ _ _ _ hh]
        simpa using cut_get hu
      · simp at hl
    · simp at hl
  · rename_i k l i off
    split at hl
    · rename_i hle
      cases hl
      obtain ⟨hi, g, o, n, cap, hr, rfl⟩ := hq
      rcases Rd.row_lies hr with ⟨_, h1⟩ | ⟨g', o', cap', xs, h1, _, _, h4, h5⟩
      · rw [h1] at hi; simp at hi
      · cases h1
        have hlen := h5.len
        rw [flat_len] at hlen
        have hidx := idx_le (s := k.size) hi
        have hxl : (cutC xs (i * k.size + off) I.zc.length).length = I.zc.length := cutC_len _ _ _ (by omega)
        refine ⟨_, run_loadAt hV hI g (o + i * k.size + off) (cutC xs (i * k.size + off) I.zc.length) hxl fun j u hu => ?_, VR.mk ?_ fun hg => by rw [hxl, hsc hg]⟩
        · have := h4 _ _ (cut_get hu)
          rw [add_lit] at this
          rw [← this]; congr 2; omega
        · have := h5.cut (i * k.size + off) I.zc.length
          rw [cut_flat k l i off _ hi hle] at this
          exact F2.map (this.mono fun _ _ hh => hh)
    · simp at hl
  · rename_i id ep i off
    split at hl
    · rename_i c hc
      split at hl
      · rename_i hle
        cases hl
        obtain ⟨r0, hr0, he, hrc⟩ := live_spec hc
        obtain ⟨hi, g, n, cap, hh, rfl⟩ := (hq r0 hr0).2 he c hrc
        have hown := (h.row id r0 hr0 c hrc).1
        rcases hown.cells with ⟨_, h1⟩ | ⟨g', cap', xs, cur, h1, _, _, _, _, h4, h5⟩
        · rw [h1] at hi; simp at hi
        · rw [h1] at hh
          cases hh
          have hlen := h5.len
          rw [flat_len] at hlen
          have hidx := idx_le (s := c.k.size) hi
          have hxl : (cutC xs (i * c.k.size + off) I.zc.length).length = I.zc.length := cutC_len _ _ _ (by omega)
          refine ⟨_, run_loadAt hV hI g (i * c.k.size + off) (cutC xs (i * c.k.size + off) I.zc.length) hxl fun j u hu => ?_, VR.mk ?_ fun hg => by rw [hxl, hsc hg]⟩
          · exact h4 _ _ (cut_get hu)
          · have := h5.cut (i * c.k.size + off) I.zc.length
            rw [cut_flat c.k c.l i off _ hi hle] at this
            exact F2.map (this.mono fun _ _ hh => hh)
      · simp at hl
    · simp at hl
  · simp at hl
/-- An element's place. -/
theorem index_ok (h : Inv w0 prot S G a w) {t : Nat} {I : TyI} {k : RK} {e : Nat} (hI : look t V.tys = some I) (hel : I.el = some (k, e)) {v : Value} {q : T} {p : Prop} {r : T} {kk : IntKind} {i : Int} (hq : TR w G S.rows S.boxes v q)
    (hkk : ∀ k' l, S.elems q = some ⟨k', l⟩ → k' = k) (hl : indexT S q i = some (some p, r)) (hp : p) : ∃ u, (Instr.indexAt t v (.int kk i)).run P w = .ok u w ∧ TR w G S.rows S.boxes u r := by
  obtain ⟨hu, J, hJ, hz⟩ := (hV t I hI).sl k e hel
  have hes : P.elem t = e := by simp [Program.elem, hu]
  have hsz : J.zc.length = k.size := by rw [hz, cells_len]
  have run : ∀ (g o len cap : Nat), 0 ≤ i ∧ i < len → (Instr.indexAt t (.slice (some ⟨g, o, none⟩) len cap) (.int kk i)).run P w = .ok (.pointer (some ⟨g, o + i.toNat * k.size, none⟩)) w := by
    intro g o len cap hi
    rw [run_indexAt_slice w t _ len cap kk i (by rw [hes]; exact hu), if_pos hi, hes, run_size hV hJ, hsz]
    simp [add_lit]
  unfold indexT at hl
  split at hl
  · rename_i k' l'
    cases hl
    obtain ⟨c, hc, hr⟩ := hq
    cases hc
    have hkq : k' = k := hkk k' l' rfl
    subst hkq
    have hi : i.toNat < l'.length := by omega
    rcases Rd.row_lies hr with ⟨_, rfl⟩ | ⟨g, o, cap, xs, rfl, _⟩
    · simp at hi
    · exact ⟨_, run g o _ _ hp, hi, g, o, _, _, hr, by simp⟩
  · rename_i id ep
    split at hl
    · rename_i c hc
      cases hl
      obtain ⟨c', hc', hr⟩ := hq
      cases hc'
      have hkq : c.k = k := hkk c.k c.l (by simp [St.elems, hc])
      obtain ⟨hv, ho, _⟩ := own_of hV h hc hr
      have hi : i.toNat < c.l.length := by omega
      obtain ⟨r0, hr0, he, hrc⟩ := live_spec hc
      rcases ho.cells with ⟨h1, h2⟩ | ⟨g, cap, xs, cur, h1, _⟩
      · rw [h2] at hi; simp at hi
      · subst h1
        refine ⟨_, run g 0 _ _ hp, fun r1 hr1 => ?_⟩
        rw [hr0] at hr1
        cases hr1
        refine ⟨by omega, fun _ c1 hc1 => ?_⟩
        rw [hrc] at hc1
        cases hc1
        exact ⟨hi, g, _, _, hv.symm, by rw [hkq]; simp⟩
    · simp at hl
  · simp at hl
end
end Go.Proofs.YtlapeiijghebjaaE

/- What yields one value, operation by operation: the evaluator's answer is Go's. Conditions: none. -/
set_option linter.unusedVariables false
namespace Go.Proofs.YtlapeiijghebjaaE
open Go Go.RowKit
theorem exec_val {P : Program} {ρ : Operand → Value} {o : Oper} {s : Sem Value} {v : Value} {w w' : World} (h : execOp ρ o = (do let x ← s; pure (Next.value x))) (hr : s.run P w = .ok v w') :
    (execOp ρ o).run P w = .ok (.value v) w' := by
  rw [h]; simp [hr]
theorem run_newRow' {P : Program} (e : TypeId) (cells : Array Value) (w : World) : (Go.newRow e cells).run P w = .ok ⟨w.heap.size, 0, none⟩ (w.alloc (.cells cells e (0, 0))) := rfl
theorem foldl_put (off : Nat) : ∀ (l : List Value) (n : Nat) (cs : Array Value), off + n + l.length ≤ cs.size →
    ((l.zipIdx n).foldl (fun (cs : Array Value) (p : Value × Nat) => cs.setIfInBounds (off + p.2) p.1) cs).toList = putC cs.toList (off + n) l
  | [], n, cs, h => by simp [putC]
  | x :: l, n, cs, h => by
    simp only [List.length_cons] at h
    rw [List.zipIdx_cons, List.foldl_cons, foldl_put off l (n + 1) _ (by simp; omega)]
    simp only [putC, Array.toList_setIfInBounds]
    rw [List.set_eq_take_append_cons_drop, if_pos (by simp; omega)]
    have e1 : (cs.toList.take (off + n)).length = off + n := by simp; omega
    have e2 : (cs.toList.take (off + n) ++ x :: cs.toList.drop (off + n + 1)).take (off + (n + 1)) = cs.toList.take (off + n) ++ [x] := by
      rw [show off + (n + 1) = (off + n) + 1 by omega, List.take_append, e1]
      rw [List.take_of_length_le (by omega : (cs.toList.take (off + n)).length ≤ off + n + 1)]; simp
    have e3 : (cs.toList.take (off + n) ++ x :: cs.toList.drop (off + n + 1)).drop (off + (n + 1) + l.length) = cs.toList.drop (off + n + (x :: l).length) := by
      rw [List.drop_append, e1, List.drop_eq_nil_of_le (by omega), List.nil_append]
      rw [show off + (n + 1) + l.length - (off + n) = l.length + 1 by omega, List.drop_succ_cons, List.drop_drop]
      congr 1; simp; omega
    rw [e2, e3]; simp
theorem fill_step (place : Nat → Option (Nat × Nat)) (cells : Array Value) (i off size : Nat) (v : Value) (rest : List (Nat × Value)) (hp : place i = some (off, size)) (hs : v.cells.size = size) (ho : off + size ≤ cells.size) :
    Instr.fill place cells ((i, v) :: rest) = Instr.fill place (putC cells.toList off v.cells.toList).toArray rest := by
  rw [Instr.fill.eq_2, hp]
  have h1 : (decide (v.cells.size ≠ size) || decide (off + v.cells.size > cells.size)) = false := by simp [hs]; omega
  dsimp only
  rw [h1]
  simp only [Bool.false_eq_true, if_false]
  congr 1
  have := foldl_put off v.cells.toList 0 cells (by simp; omega)
  rw [Nat.add_zero] at this
  rw [← this, ← Array.foldl_toList]
  simp
section
variable {P : Program} {V : Env} (hV : TysOk P V) {w0 : World} {prot : Pro} {S : St} {G : Gh} {a : Act} {w : World}
include hV
omit hV in
theorem fill_gen {G' : Gh} {rows' : List Row} (ho : ∀ (ty : Nat) (x : Operand) (g : Bool) (xs : List Cm), S.opnd V ty x = some (.v g xs) → VR w G' rows' (a.eval x) g xs) (fs : List (Nat × Nat)) (place : Nat → Option (Nat × Nat)) (hpl : ∀ (f off ft : Nat) (J : TyI), fs[f]? = some (off, ft) → look ft V.tys = some J → place f = some (off, J.zc.length)) :
    ∀ (ps : List (Nat × Operand)) (cs : List Cm) (arr : List Value) (r : List Cm), F2 (CR w G' rows') arr cs → buildT V S fs ps cs = some r →
      ∃ arr', Instr.fill place arr.toArray (ps.map fun p => (p.1, a.eval p.2)) = some (List.toArray arr') ∧ F2 (CR w G' rows') arr' r
  | [], cs, arr, r, hf, hb => by
    simp only [buildT, Option.some.injEq] at hb
    subst hb
    exact ⟨arr, by simp [Instr.fill.eq_1], hf⟩
  | (f, x) :: ps, cs, arr, r, hf, hb => by
    simp only [buildT] at hb
    split at hb
    · rename_i off ft hfs
      split at hb
      · rename_i J g xs hJ hx
        split at hb
        · rename_i hc
          obtain ⟨ys, hv, hys, hcl, _⟩ := VR.open (ho _ _ _ _ hx)
          have hyl := hys.len
          have hal := hf.len
          obtain ⟨arr', h1, h2⟩ := fill_gen ho fs place hpl ps _ _ r (hf.put hys off) hb
          refine ⟨arr', ?_, h2⟩
          rw [List.map_cons, fill_step place arr.toArray f off J.zc.length (a.eval x) _ (hpl f off ft J hfs hJ) (by rw [hcl]; simp; omega) (by simp; omega), hcl]
          exact h1
        · simp at hb
      · simp at hb
    · simp at hb
theorem build_gen (w : World) {t : Nat} {I : TyI} (hI : look t V.tys = some I) (hg : I.agg = true) (ps : Array (Nat × Operand)) : ∃ arr0 : List Value, F2 ZR arr0 I.zc ∧
    ∀ (G' : Gh) (rows' : List Row) (S : St) (a : Act), (∀ (ty : Nat) (x : Operand) (g : Bool) (xs : List Cm), S.opnd V ty x = some (.v g xs) → VR w G' rows' (a.eval x) g xs) → ∀ (cs r : List Cm), F2 (CR w G' rows') arr0 cs → buildT V S I.fs ps.toList cs = some r →
      ∃ v, (Instr.build t (ps.map fun p => (p.1, a.eval p.2))).run P w = .ok v w ∧ VR w G' rows' v true r := by
  obtain ⟨i, z, h1, h2, h3, h4, arr, h5, h6, h7, _⟩ := (hV t I hI).info
  obtain ⟨fs, hu, hall⟩ := (hV t I hI).ag hg
  have hz := h7 hg
  -- the fields' places
  have hm : ∃ places, fs.toList.mapM (fun f => (P.info? f.type).map fun i => (f.offset, i.size)) = some places ∧ places.length = fs.toList.length ∧ ∀ (j : Nat) (f : Field), fs.toList[j]? = some f → ∀ i, P.info? f.type = some i → places[j]? = some (f.offset, i.size) := by
    generalize fs.toList = l at hall
    induction l with
    | nil => exact ⟨[], rfl, rfl, fun j f h => by simp at h⟩
    | cons f l ih =>
      obtain ⟨i, hi⟩ := hall f (by simp)
      obtain ⟨pl, hp, hl, hg⟩ := ih fun f hf => hall f (by simp [hf])
      refine ⟨(f.offset, i.size) :: pl, by simp [List.mapM_cons, hi, hp], by simp [hl], fun j f' hf' i' hi' => ?_⟩
      cases j with
      | zero => simp at hf'; subst hf'; rw [hi] at hi'; cases hi'; rfl
      | succ j => simpa using hg j f' (by simpa using hf') i' hi'
  obtain ⟨places, hp, hpl, hpg⟩ := hm
  refine ⟨arr, h6, fun G' rows' S a ho cs r hcs hb => ?_⟩
  obtain ⟨arr', h8, h9⟩ := fill_gen ho I.fs (fun f => places.toArray[f]?) (fun f off ft J hf hJ => by
    obtain ⟨fs', fl, hu', hfl, ho, ht⟩ := (hV t I hI).st f off ft hf
    rw [hu] at hu'
    cases hu'
    obtain ⟨i', z', hi', hs', _⟩ := (hV ft J hJ).info
    have := hpg f fl (by simpa using hfl) i' (by rw [ht]; exact hi')
    rw [ho, hs'] at this
    simpa using this) ps.toList cs arr r hcs hb
  refine ⟨_, run_build w t _ arr'.toArray ?_, arr', rfl, h9⟩
  unfold Program.built
  rw [h1, hu]
  simp only [h4, hp, h5]
  rw [Array.toList_map]
  exact h8
theorem build_ok (h : Inv w0 prot S G a w) {t : Nat} {I : TyI} (hI : look t V.tys = some I) (hg : I.agg = true) (ps : Array (Nat × Operand)) (r : List Cm) (hb : buildT V S I.fs ps.toList (I.zc.map .d) = some r) :
    ∃ v, (Instr.build t (ps.map fun p => (p.1, a.eval p.2))).run P w = .ok v w ∧ VR w G S.rows v true r := by
  obtain ⟨arr0, h1, h2⟩ := build_gen hV w hI hg ps
  exact h2 G S.rows S a (fun ty x g xs hx => opnd_vr hV h hx) (I.zc.map .d) r (F2.map (h1.mono fun _ _ hz => hz w G.F)) hb
omit hV in
theorem datas_crs {rows : List Row} {xs : List Value} {cs : List Cm} (h : F2 (CR w G rows) xs cs) : ∀ {ds : List D}, datas cs = some ds → F2 (Rd w G.F) xs ds := by
  induction h with
  | nil => intro ds hd; simp [datas] at hd; subst hd; exact .nil
  | @cons v c l m h1 _ ih =>
    intro ds hd
    cases c with
    | d x =>
      simp only [datas] at hd
      split at hd
      · rename_i ys hys
        cases hd
        exact .cons h1 (ih hys)
      · simp at hd
    | ref id ep => simp [datas] at hd
    | dead => simp [datas] at hd
/-- A slice literal's cells. -/
theorem elems_fill (h : Inv w0 prot S G a w) (k : RK) (et : Nat) : ∀ (ps : List (Nat × Operand)) (j : Nat) (l l0 : List k.El) (arr : List Value), elemsT V S k et j ps = some l → j = l0.length →
    F2 (Rd w G.F) (arr.take (j * k.size)) (flat k l0) → arr.length = (j + l.length) * k.size →
      ∃ arr', Instr.fill (fun i => some (i * k.size, k.size)) arr.toArray (ps.map fun p => (p.1, a.eval p.2)) = some (List.toArray arr') ∧ F2 (Rd w G.F) arr' (flat k (l0 ++ l))
  | [], j, l, l0, arr, he, hj, hf, hl => by
    simp only [elemsT, Option.some.injEq] at he
    subst he
    simp only [List.length_nil, Nat.add_zero] at hl
    rw [List.take_of_length_le (Nat.le_of_eq hl)] at hf
    exact ⟨arr, by simp [Instr.fill.eq_1], by simpa using hf⟩
  | (i, x) :: ps, j, l, l0, arr, he, hj, hf, hl => by
    simp only [elemsT] at he
    split at he
    · rename_i hij
      subst hij
      split at he
      · rename_i g cs hx
        split at he
        · rename_i ds hds
          split at he
          · rename_i e es hmk hes
            cases he
            obtain ⟨ys, hv, hys, hcl, _⟩ := VR.open (opnd_vr hV h hx)
            have hyd := datas_crs hys hds
            rw [← mk_cells k ds e hmk] at hyd
            have hyl := hyd.len
            rw [cells_len] at hyl
            simp only [List.length_cons] at hl
            have hl2 : arr.length = i * k.size + k.size + es.length * k.size := by rw [hl, Nat.add_mul, Nat.add_mul]; omega
            have hpl : (putC arr (i * k.size) ys).length = arr.length := putC_len _ _ _ (by omega)
            obtain ⟨arr', h1, h2⟩ := elems_fill h k et ps (i + 1) es (l0 ++ [e]) (putC arr (i * k.size) ys) hes (by simp [hj]) (by
              have e1 : (putC arr (i * k.size) ys).take ((i + 1) * k.size) = arr.take (i * k.size) ++ ys := by
                have hlen : (arr.take (i * k.size) ++ ys).length = (i + 1) * k.size := by simp [hyl, Nat.add_mul]; omega
                rw [putC, ← hlen, List.take_left]
              rw [e1, flat_append]
              exact hf.app (by simpa [flat] using hyd)) (by rw [hpl, hl2, Nat.add_mul, Nat.add_mul]; omega)
            refine ⟨arr', ?_, by simpa using h2⟩
            rw [List.map_cons, fill_step _ arr.toArray i (i * k.size) k.size (a.eval x) _ rfl (by rw [hcl]; simp [hyl]) (by simp; omega), hcl]
            exact h1
          · simp at he
        · simp at he
      · simp at he
    · simp at he
theorem buildSlice_ok (h : Inv w0 prot S G a w) {t : Nat} {I : TyI} {k : RK} {e : Nat} (hI : look t V.tys = some I) (hel : I.el = some (k, e)) (n : Nat) (ps : Array (Nat × Operand)) (l : List k.El)
    (hb : elemsT V S k e 0 ps.toList = some l) (hl : l.length = n) (hn : n ≤ 1024) :
    ∃ arr : List Value, (Instr.buildSlice t n (ps.map fun p => (p.1, a.eval p.2))).run P w = .ok (.slice (some ⟨w.heap.size, 0, none⟩) n n) (w.alloc (.cells arr.toArray e (0, 0))) ∧ F2 (Rd w G.F) arr (flat k l) := by
  obtain ⟨hu, J, hJ, hz⟩ := (hV t I hI).sl k e hel
  have hsz : J.zc.length = k.size := by rw [hz, cells_len]
  obtain ⟨i, z, h1, h2, h3, h4, zr, h5, h6, _⟩ := (hV e J hJ).info
  have hk28 : k.size ≤ 28 := by cases k <;> decide
  have hns : n * k.size ≤ 1024 * 28 := Nat.mul_le_mul hn hk28
  have key : ∀ zc : Array Value, zc.size = n * k.size → ∃ arr' : List Value, Instr.fill (fun i => some (i * k.size, k.size)) zc (ps.toList.map fun p => (p.1, a.eval p.2)) = some arr'.toArray ∧ F2 (Rd w G.F) arr' (flat k l) := by
    intro zc hzc
    obtain ⟨arr', h8, h9⟩ := elems_fill hV h k e ps.toList 0 l [] zc.toList hb rfl (by simp [flat]; exact F2.nil) (by simp [hzc, hl])
    exact ⟨arr', by simpa using h8, by simpa using h9⟩
  by_cases h0 : n * k.size = 0
  · obtain ⟨arr', h8, h9⟩ := key #[] (by simp [h0])
    refine ⟨arr', ?_, h9⟩
    have hz0 : ∀ f : Nat → Value, Array.map f (Array.range 0) = #[] := fun f => by apply Array.ext' ; simp
    simp only [Instr.buildSlice, Sem.run_bind, run_underlying hu, Result.andThen_ok, run_size hV hJ, hsz, h0]
    simp [hz0, h8, run_newRow']
  · obtain ⟨arr', h8, h9⟩ := key (Array.map (fun x => z.cells[x % z.cells.size]!) (Array.range (n * k.size))) (by simp)
    refine ⟨arr', ?_, h9⟩
    simp only [Instr.buildSlice, Sem.run_bind, run_underlying hu, Result.andThen_ok, run_size hV hJ, hsz]
    simp only [h0, show ¬ n * k.size > 2 ^ 24 by omega, if_false, zeroValue, typeInfo]
    simp [h1, h4, h8, run_newRow']
end
end Go.Proofs.YtlapeiijghebjaaE

/- What yields one value: the whole. Conditions: none. -/
set_option linter.unusedVariables false
namespace Go.Proofs.YtlapeiijghebjaaE
open Go Go.RowKit
theorem flat_rep (k : RK) (e : k.El) : ∀ (n j : Nat), j < n * k.size → (flat k (List.replicate n e))[j]? = (k.cells e)[j % k.size]?
  | 0, j, h => by simp at h
  | n + 1, j, h => by
    rw [List.replicate_succ, flat_cons]
    by_cases hj : j < k.size
    · rw [List.getElem?_append_left (by rw [cells_len]; exact hj), Nat.mod_eq_of_lt hj]
    · have h2 : j - k.size < n * k.size := by rw [Nat.add_mul, Nat.one_mul] at h; omega
      rw [List.getElem?_append_right (by rw [cells_len]; omega), cells_len, flat_rep k e n (j - k.size) h2]
      congr 1
      rw [Nat.mod_eq_sub_mod (by omega : j ≥ k.size)]
/-- The last word on a slice's bounds. -/
def LoR (v : Option Value) (x : Option (Option T)) : Prop := match v, x with
  | none, none => True
  | some v, some t => ∀ n, t.bind intT = some n → ∃ k, v = .int k n
  | _, _ => False
theorem mul_take {k : RK} (l : List k.El) (a b : Nat) (xs : List Value) {R : Value → D → Prop} (h : F2 R xs (flat k l)) :
    F2 R ((xs.drop (a * k.size)).take ((b - a) * k.size)) (flat k ((l.drop a).take (b - a))) := by
  rw [flat_take, flat_drop]; exact (h.drop _).take _
section
variable {P : Program} {V : Env} (hV : TysOk P V) {w0 : World} {prot : Pro} {S : St} {G : Gh} {a : Act} {w : World}
include hV
theorem made_ok {e : Nat} {J : TyI} {k : RK} (hJ : look e V.tys = some J) (hz : J.zc = k.cells k.z) (F : Nat → Prop) (w : World) (n : Nat) {i : TypeInfo} {z : Value} (hi : P.info? e = some i) (hz0 : i.zero = some z) :
    F2 (Rd w F) (madeCells z.cells (n * k.size)).toList (flat k (List.replicate n k.z)) ∧ (madeCells z.cells (n * k.size)).size = n * k.size := by
  obtain ⟨i', z', h1, h2, h3, h4, arr, h5, h6, _⟩ := (hV e J hJ).info
  rw [hi] at h1; cases h1
  rw [hz0] at h4; cases h4
  have hlen := h6.len
  rw [hz, cells_len] at hlen
  refine ⟨F2.of_get (by simp [madeCells, flat_len]) fun j x y hx hy => ?_, by simp [madeCells]⟩
  have hj : j < n * k.size := by
    have := (List.getElem?_eq_some_iff.1 hx).1
    simpa [madeCells] using this
  rw [flat_rep k _ n j hj, ← hz] at hy
  obtain ⟨u, hu, hr⟩ := h6.get _ _ hy
  have hx' : x = u := by
    simp only [madeCells, h5, Array.toList_map, Array.toList_range, List.getElem?_map] at hx
    rw [List.getElem?_range hj] at hx
    simp only [Option.map_some, Option.some.injEq] at hx
    rw [← hx]
    simp only [List.size_toArray, hlen]
    rw [List.getElem!_toArray, List.getElem!_eq_getElem?_getD, hu]
    rfl
  subst hx'
  exact hr w F
theorem slice_run {t : Nat} {I : TyI} {k : RK} {e : Nat} (hI : look t V.tys = some I) (hel : I.el = some (k, e)) (A : Option Addr) (n cap : Nat) (hnc : n ≤ cap) {lo hi mx : Option Value} {lo' hi' mx' : Option (Option T)}
    (h1 : LoR lo lo') (h2 : LoR hi hi') (h3 : LoR mx mx') (l : List k.El) (hn : l.length = n) {p : Prop} {r : T} (hs : sliceT k l lo' hi' mx' = some (some p, r)) (hp : p) :
    ∃ a b m : Nat, a ≤ b ∧ b ≤ n ∧ b ≤ m ∧ m ≤ cap ∧ r = .v false [.d (.r k ((l.drop a).take (b - a)))] ∧ (mx' = none → m = cap) ∧ endT 0 lo' = some (a : Int) ∧ endT l.length hi' = some (b : Int) ∧ (∀ tm, mx' = some tm → tm.bind intT = some (m : Int)) ∧
      (Instr.sliceAt t (.slice A n cap) lo hi mx).run P w = .ok (.slice (if m = a then A else A.map (·.add (a * k.size))) (b - a) (m - a)) w := by
  obtain ⟨hu, J, hJ, hz⟩ := (hV t I hI).sl k e hel
  have hsz : J.zc.length = k.size := by rw [hz, cells_len]
  have hes : P.elem t = e := by simp [Program.elem, hu]
  have hsw : (Go.sizeOf e).run P w = .ok k.size w := by rw [run_size hV hJ, hsz]
  -- from the bounds on
  have fin : ∀ x y m : Nat, (Instr.sliceBounds true n cap lo hi mx).run P w = .ok (x, y, m) w → (Instr.sliceAt t (.slice A n cap) lo hi mx).run P w = .ok (.slice (if m = x then A else A.map (·.add (x * k.size))) (y - x) (m - x)) w := by
    intro x y m hb
    simp only [Instr.sliceAt, Instr.slice, Sem.run_bind, run_underlying hu, Result.andThen_ok, hb, hsw, Sem.run_pure]
  have lows : ∀ (x : Int) (y : Nat), endT 0 lo' = some x → 0 ≤ x → x ≤ y → (lo = none ∧ x = 0) ∨ ∃ v, lo = some v ∧ ∀ c, (Instr.sliceBound v y c).run P w = .ok x.toNat w := by
    intro x y hx h0 hxy
    cases lo' with
    | none => cases lo with
      | none => simp only [endT, Option.some.injEq] at hx; exact .inl ⟨rfl, hx.symm⟩
      | some => exact absurd h1 (by simp [LoR])
    | some tt => cases lo with
      | none => exact absurd h1 (by simp [LoR])
      | some v => obtain ⟨kk, rfl⟩ := h1 x hx; exact .inr ⟨_, rfl, fun c => run_sliceBound w kk x y c h0 hxy⟩
  unfold sliceT at hs
  split at hs
  · rename_i x y hx hy
    cases mx' with
    | none =>
      cases mx with
      | some => exact absurd h3 (by simp [LoR])
      | none =>
        simp only [Option.some.injEq, Prod.mk.injEq] at hs
        obtain ⟨hpe, hr⟩ := hs
        subst hpe
        obtain ⟨q1, q2, q3⟩ := hp
        refine ⟨x.toNat, y.toNat, cap, by omega, by omega, by omega, Nat.le_refl _, hr.symm, fun _ => rfl, by rw [hx]; congr 1; omega, by rw [hy]; congr 1; omega, fun tm h => by simp at h, fin _ _ _ ?_⟩
        have hhi : (hi = none ∧ y.toNat = n) ∨ ∃ v, hi = some v ∧ ∀ c, (Instr.sliceBound v cap c).run P w = .ok y.toNat w := by
          cases hi' with
          | none => cases hi with
            | none => simp only [endT, Option.some.injEq] at hy; exact .inl ⟨rfl, by omega⟩
            | some => exact absurd h2 (by simp [LoR])
          | some tt => cases hi with
            | none => exact absurd h2 (by simp [LoR])
            | some v => obtain ⟨kk, rfl⟩ := h2 y hy; exact .inr ⟨_, rfl, fun c => run_sliceBound w kk y cap c (by omega) (by omega)⟩
        rcases lows x y.toNat hx q1 (by omega) with ⟨rfl, rfl⟩ | ⟨vl, rfl, hlo⟩ <;> rcases hhi with ⟨rfl, rfl⟩ | ⟨vh, rfl, hhi⟩ <;> simp [Instr.sliceBounds, *]
    | some tm =>
      cases mx with
      | none => exact absurd h3 (by simp [LoR])
      | some vm =>
        dsimp only at hs
        split at hs
        · rename_i _ _ hi0 m hm
          simp only [Option.some.injEq, Prod.mk.injEq] at hs
          obtain ⟨hpe, hr⟩ := hs
          subst hpe
          obtain ⟨q1, q2, q3, q4⟩ := hp
          obtain ⟨km, rfl⟩ := h3 m hm
          have hmx : ∀ c, (Instr.sliceBound (.int km m) cap c).run P w = .ok m.toNat w := fun c => run_sliceBound w km m cap c (by omega) (by omega)
          refine ⟨x.toNat, y.toNat, m.toNat, by omega, by omega, by omega, by omega, hr.symm, fun h => by simp at h, by rw [hx]; congr 1; omega, by rw [hy]; congr 1; omega, fun tm' h => by cases h; rw [hm]; congr 1; omega, fin _ _ _ ?_⟩
          cases hi with
          | none => exact absurd h2 (by simp [LoR])
          | some v =>
            obtain ⟨kk, rfl⟩ := h2 y hy
            have hhi : ∀ c, (Instr.sliceBound (.int kk y) m.toNat c).run P w = .ok y.toNat w := fun c => run_sliceBound w kk y m.toNat c (by omega) (by omega)
            rcases lows x y.toNat hx q1 (by omega) with ⟨rfl, rfl⟩ | ⟨vl, rfl, hlo⟩ <;> simp [Instr.sliceBounds, *]
        · simp at hs
  · simp at hs
omit hV in
theorem lo_r (h : Inv w0 prot S G a w) (hV : TysOk P V) (x : Option Operand) : LoR (x.map a.eval) (x.map (S.opnd V 0)) := by
  cases x with
  | none => trivial
  | some x =>
    intro n hn
    cases ht : S.opnd V 0 x with
    | none => rw [ht] at hn; simp at hn
    | some t =>
      rw [ht] at hn
      simp only [Option.bind_some] at hn
      unfold intT at hn
      split at hn
      · rename_i k y
        cases hn
        exact ⟨k, opnd_int hV h ht⟩
      · simp at hn
/-- A part of a row that is data. -/
theorem slice_data (h : Inv w0 prot S G a w) {t : Nat} {I : TyI} {k : RK} {e : Nat} (hI : look t V.tys = some I) (hel : I.el = some (k, e)) {v : Value} {l : List k.El} (hv : Rd w G.F v (.r k l)) (lo hi mx : Option Operand)
    {p : Prop} {r : T} (hs : sliceT k l (lo.map (S.opnd V 0)) (hi.map (S.opnd V 0)) (mx.map (S.opnd V 0)) = some (some p, r)) (hp : p) :
    ∃ u, (Instr.sliceAt t v (lo.map a.eval) (hi.map a.eval) (mx.map a.eval)).run P w = .ok u w ∧ TR w G S.rows S.boxes u r := by
  rcases Rd.row_lies hv with ⟨⟨xx, rfl⟩, rfl⟩ | ⟨g, off, cap, xs, rfl, hg, hc, hx⟩
  · obtain ⟨x, y, m, h1, h2, h3, h4, hr, _, _, _, _, hrun⟩ := slice_run hV hI hel xx 0 0 (Nat.le_refl _) (lo_r h hV lo) (lo_r h hV hi) (lo_r h hV mx) [] rfl hs hp
    obtain rfl : m = 0 := by omega
    obtain rfl : y = 0 := by simp at h2; omega
    obtain rfl : x = 0 := by omega
    refine ⟨_, hrun, ?_⟩
    rw [hr]
    exact ⟨_, rfl, by simp; exact Rd.nil k _⟩
  · obtain ⟨x, y, m, h1, h2, h3, h4, hr, _, _, _, _, hrun⟩ := slice_run hV hI hel (some ⟨g, off, none⟩) l.length cap hc (lo_r h hV lo) (lo_r h hV hi) (lo_r h hV mx) l rfl hs hp
    refine ⟨_, hrun, ?_⟩
    rw [hr]
    have hln : ((l.drop x).take (y - x)).length = y - x := by simp; omega
    refine ⟨_, rfl, ?_⟩
    by_cases hm : m = x
    · rw [if_pos hm]
      have h0 : (l.drop x).take (y - x) = [] := List.length_eq_zero_iff.1 (by rw [hln]; omega)
      have := Rd.of_lies (w := w) (F := G.F) (k := k) (l := []) (g := g) (off := off) (cap := m - x) (xs := []) hg (Nat.zero_le _) ⟨fun j u hu => by simp at hu, .nil⟩
      rw [h0, show y - x = 0 by omega]
      exact this
    · rw [if_neg hm]
      simp only [Option.map_some, add_lit]
      have := Rd.of_lies (w := w) (F := G.F) (k := k) (l := (l.drop x).take (y - x)) (g := g) (off := off + x * k.size) (cap := m - x) (xs := (xs.drop (x * k.size)).take ((y - x) * k.size)) hg (by rw [hln]; omega)
        ⟨fun j u hu => ?_, mul_take l x y xs hx.2⟩
      · rwa [hln] at this
      · have hu' : xs[x * k.size + j]? = some u := by
          rw [List.getElem?_take] at hu
          split at hu
          · rwa [List.getElem?_drop] at hu
          · simp at hu
        have := hx.1 _ _ hu'
        rw [add_lit] at this ⊢
        rw [← this]; congr 2; omega
end
end Go.Proofs.YtlapeiijghebjaaE

/- What yields one value: one theorem. Conditions: none. -/
set_option linter.unusedVariables false
namespace Go.Proofs.YtlapeiijghebjaaE
open Go Go.RowKit
theorem eval_box_run {P : Program} (t : TypeId) (v : Value) (w : World) : (Instr.box t v).run P w = .ok (.pointer (some ⟨w.heap.size, 0, none⟩)) (w.alloc (.cells v.cells t (0, 0))) := by
  simp [Instr.box, newVar, run_newRow']
theorem pickT_cases {c : Bool} {x y : Option T} {t : T} (h : pickT c x y = some t) : (∃ p q, x = some (boo p) ∧ y = some (boo q) ∧ t = boo (bif c then p else q)) ∨ (bif c then x else y) = some t := by
  unfold pickT at h
  split at h
  · rename_i p q
    cases h
    exact .inl ⟨p, q, rfl, rfl, rfl⟩
  · exact .inr h
section
variable {P : Program} {V : Env} (hV : TysOk P V) {w0 : World} {prot : Pro} {S : St} {G : Gh} {a : Act} {w : World}
include hV
omit hV in
theorem fin_one (h : Inv w0 prot S G a w) {o : Oper} {t : T} {v : Value} (hr : (execOp a.eval o).run P w = .ok (.value v) w) (ht : TR w G S.rows S.boxes v t) :
    ∃ v w' G', (execOp a.eval o).run P w = .ok (.value v) w' ∧ Inv w0 prot (S.app o.dst (val t)) G' (a.put o.dst v) w' := ⟨v, w, G, hr, h.put ht o.dst⟩
omit hV in
theorem field_ok (h : Inv w0 prot S G a w) {v : Value} {t r : T} {off : Nat} (ht : TR w G S.rows S.boxes v t) (hf : fieldT S off t = some r) :
    ∃ g o, v = .pointer (some ⟨g, o, none⟩) ∧ TR w G S.rows S.boxes (.pointer (some ⟨g, o + off, none⟩)) r := by
  unfold fieldT at hf
  split at hf
  · rename_i b ep o
    split at hf
    · rename_i cs hcs
      cases hf
      obtain ⟨B, hB, he, hc⟩ := box_spec hcs
      have hv := (ht B hB).2 he (by simp [hc])
      refine ⟨_, _, hv, fun B' hB' => ?_⟩
      rw [hB] at hB'; cases hB'
      exact ⟨by omega, fun _ _ => by rw [Nat.add_comm o off, Nat.add_comm off o]⟩
    · simp at hf
  · rename_i k l i o
    cases hf
    obtain ⟨h1, g, o', n, cap, h2, h3⟩ := ht
    exact ⟨_, _, h3, h1, g, o', n, cap, h2, by rw [Nat.add_assoc]⟩
  · rename_i id ep i o
    split at hf
    · rename_i c hc
      cases hf
      obtain ⟨r0, hr0, he, hrc⟩ := live_spec hc
      obtain ⟨h1, g, n, cap, h2, h3⟩ := (ht r0 hr0).2 he c hrc
      refine ⟨_, _, h3, fun r1 hr1 => ?_⟩
      rw [hr0] at hr1; cases hr1
      refine ⟨by omega, fun _ c1 hc1 => ?_⟩
      rw [hrc] at hc1; cases hc1
      exact ⟨h1, g, n, cap, h2, by rw [Nat.add_assoc]⟩
    · simp at hf
  · simp at hf
theorem intOp_ok {op : BinOp} {k : IntKind} {x y : Int} {p : Option Prop} {t : T} (h : intOp k x y op = some (p, t)) (hp : ∀ q, p = some q → q) (ty : TypeId) (rows : List Row) (bs : List Box) :
    ∃ v, (binOp op ty (.int k x) (.int k y)).run P w = .ok v w ∧ TR w G rows bs v t := by
  have _ := hV
  cases op <;> simp only [intOp] at h
  case add | sub | mul => all_goals (cases h; exact ⟨_, by simp [binOp, Op.intArith], _, rfl, Rd.i _ _⟩)
  case quo | rem => all_goals (cases h; have hy : y ≠ 0 := hp _ rfl; exact ⟨_, by simp [binOp, Op.intDiv, hy], _, rfl, Rd.i _ _⟩)
  case and | or | xor => all_goals (cases h; exact ⟨_, by simp [binOp, Op.intBits, Go.bits], _, rfl, Rd.i _ _⟩)
  case eql | neq | lss | leq | gtr | geq => all_goals (cases h; exact ⟨_, by simp [binOp, Op.intCmp], _, rfl, Rd.b _⟩)
  all_goals simp at h
theorem binT_ok {tb : Bool} {op : BinOp} {u v : Value} {x y t : T} {p : Option Prop} (hu : TR w G S.rows S.boxes u x) (hv : TR w G S.rows S.boxes v y) (h : binT tb op x y = some (p, t)) (hp : ∀ q, p = some q → q) (ty : TypeId) (htb : tb = true → P.underlying ty = some .bool) (ox oy : Operand) :
    (eqGuard op ty ox oy u v).run P w = .ok () w ∧ ∃ r, (binOp op ty u v).run P w = .ok r w ∧ TR w G S.rows S.boxes r t := by
  unfold binT at h
  split at h
  · rename_i k a k' b
    obtain ⟨c, hc, hr⟩ := hu; cases hc
    obtain ⟨c, hc, hr'⟩ := hv; cases hc
    obtain rfl := Rd.int hr
    obtain rfl := Rd.int hr'
    refine ⟨by simp [eqGuard], ?_⟩
    split at h
    · simp only [shiftOp] at h
      cases h
      have h0 : 0 ≤ b := hp _ rfl
      exact ⟨_, by simp [binOp, Op.shift, show ¬ b < 0 by omega], _, rfl, Rd.i _ _⟩
    · simp only [shiftOp] at h
      cases h
      have h0 : 0 ≤ b := hp _ rfl
      exact ⟨_, by simp [binOp, Op.shift, show ¬ b < 0 by omega], _, rfl, Rd.i _ _⟩
    · split at h
      · rename_i e; subst e
        exact intOp_ok hV h hp ty S.rows S.boxes
      · simp at h
  · rename_i a b
    obtain ⟨c, hc, hr⟩ := hu; cases hc
    obtain ⟨c, hc, hr'⟩ := hv; cases hc
    obtain rfl := Rd.bool hr
    obtain rfl := Rd.bool hr'
    refine ⟨by simp [eqGuard], ?_⟩
    split at h
    · cases h; exact ⟨_, run_eql_bool w ty a b (htb rfl), _, rfl, Rd.b _⟩
    · cases h; exact ⟨_, run_neq_bool w ty a b (htb rfl), _, rfl, Rd.b _⟩
    · simp at h
  · simp at h
theorem boolTy_ok {t : Nat} (h : boolTy V t = true) : P.underlying t = some .bool := by
  unfold boolTy at h
  split at h
  · rename_i x el zo fs hI
    exact (hV t _ hI).nb x rfl rfl
  · simp at h
theorem elem_kind {t : Nat} {I : TyI} {k : RK} {e : Nat} (hI : look t V.tys = some I) (hel : I.el = some (k, e)) : P.underlying t = some (.slice e) ∧ P.elem t = e := by
  obtain ⟨hu, _⟩ := (hV t I hI).sl k e hel
  exact ⟨hu, by simp [Program.elem, hu]⟩
theorem und_some {t : Nat} {I : TyI} (hI : look t V.tys = some I) : (P.underlying t).isSome = true := by
  cases hg : I.agg with
  | true => obtain ⟨fs, h, _⟩ := (hV t I hI).ag hg; simp [h]
  | false => obtain ⟨_, d, h, _⟩ := (hV t I hI).sc hg; simp [h]
theorem eagB_ok (h : Inv w0 prot S G a w) {b : Builtin} {args : Array Operand} {tys : Array Nat} {p : Option Prop} {out : Outc} (ty : Nat) (cs : Array Bool) (he : eagB V S b args.toList tys.toList = some (p, out)) :
    ∃ v t, out = val t ∧ (builtin b tys ty cs (args.map a.eval)).run P w = .ok (.value v) w ∧ TR w G S.rows S.boxes v t := by
  generalize hA : args.toList = A at he
  generalize hT : tys.toList = Ts at he
  unfold eagB at he
  split at he
  · rename_i x t
    obtain rfl : args = #[x] := Array.toList_inj.1 hA
    obtain rfl : tys = #[t] := Array.toList_inj.1 hT
    split at he
    · rename_i g zc kk zo fs k l hI hb
      obtain ⟨s', h1, rfl⟩ := one_spec he
      cases h1
      obtain ⟨hu, hel⟩ := elem_kind hV hI (k := kk.1) (e := kk.2) rfl
      cases hx : S.opnd V t x with
      | none => rw [hx] at hb; simp at hb
      | some q =>
        rw [hx] at hb
        obtain ⟨b, cap, hv⟩ := elems_val hV h (opnd_tr hV h hx) hb
        have := run_len_slice (P := P) w t ty b l.length cap (by rw [hel]; exact hu)
        refine ⟨.int .i64 l.length, _, rfl, ?_, _, rfl, Rd.i _ _⟩
        simp [builtin, hv, this, goInt]
    · simp at he
  · rename_i x y t u
    obtain rfl : args = #[x, y] := Array.toList_inj.1 hA
    split at he
    · rename_i q r hx hy
      obtain ⟨s', h1, rfl⟩ := one_spec he
      unfold minMax at h1
      split at h1
      · rename_i k m k' n
        split at h1
        · rename_i hk; subst hk
          cases h1
          refine ⟨.int k (if n < m then n else m), _, rfl, ?_, _, rfl, Rd.i _ _⟩
          simp [builtin, opnd_int hV h hx, opnd_int hV h hy, run_min_int2]
        · simp at h1
      · simp at h1
    · simp at he
  · rename_i x y t u
    obtain rfl : args = #[x, y] := Array.toList_inj.1 hA
    split at he
    · rename_i q r hx hy
      obtain ⟨s', h1, rfl⟩ := one_spec he
      unfold minMax at h1
      split at h1
      · rename_i k m k' n
        split at h1
        · rename_i hk; subst hk
          cases h1
          refine ⟨.int k (if n > m then n else m), _, rfl, ?_, _, rfl, Rd.i _ _⟩
          simp [builtin, opnd_int hV h hx, opnd_int hV h hy, run_max_int2]
        · simp at h1
      · simp at h1
    · simp at he
  · simp at he
/-- WHAT YIELDS ONE VALUE. -/
theorem eag_ok (h : Inv w0 prot S G a w) {o : Oper} {p : Option Prop} {out : Outc} (he : eag V S o = some (p, out)) (hp : ∀ q, p = some q → q) :
    ∃ v w' G', (execOp a.eval o).run P w = .ok (.value v) w' ∧ Inv w0 prot (S.app o.dst out) G' (a.put o.dst v) w' := by
  unfold eag at he
  split at he
  case h_1 x hop =>
    obtain ⟨t, h1, rfl⟩ := one_map he
    exact fin_one h (by simp [execOp, hop]) (opnd_tr hV h h1)
  case h_2 x hop =>
    split at he
    · obtain ⟨t, h1, rfl⟩ := one_map he
      exact fin_one h (by simp [execOp, hop]) (opnd_tr hV h h1)
    · simp at he
  case h_3 c x y hop =>
    split at he
    · rename_i t hc
      obtain ⟨r, h1, rfl⟩ := one_map he
      have hcb := opnd_bool hV h hc
      refine fin_one h (v := if t = true then a.eval x else a.eval y) (by simp [execOp, hop, hcb, asBool]) ?_
      rcases pickT_cases h1 with ⟨p', q', hx, hy, rfl⟩ | h2
      · rw [opnd_bool hV h hx, opnd_bool hV h hy]
        cases t <;> exact ⟨_, rfl, Rd.b _⟩
      · cases t <;> exact opnd_tr hV h h2
    · simp at he
  case h_4 x hop =>
    obtain ⟨r, h1, rfl⟩ := one_map he
    cases hx : S.opnd V 0 x with
    | none => rw [hx] at h1; simp at h1
    | some t =>
      rw [hx] at h1
      obtain ⟨g, o', hv, hr⟩ := field_ok h (opnd_tr hV h hx) h1
      exact fin_one h (by simp [execOp, hop, hv]) hr
  case h_5 s x f hop =>
    split at he
    · rename_i I t hI hx
      split at he
      · rename_i off ft hf
        split at he
        · rename_i J hJ
          split at he
          · simp at he
          · rename_i hz
            obtain ⟨r, h1, rfl⟩ := one_map he
            obtain ⟨g, o', hv, hr⟩ := field_ok h (opnd_tr hV h hx) h1
            exact fin_one h (exec_val (s := Instr.fieldAt s (a.eval x) f) (by simp only [execOp, hop]) (by rw [hv]; exact run_fieldAt hV hI hf hJ hz g o' w)) hr
        · simp at he
      · simp at he
    · simp at he
  case h_6 t x hop =>
    split at he
    · rename_i I q hI hx
      split at he
      · simp at he
      · obtain ⟨r, h1, rfl⟩ := one_spec he
        obtain ⟨u, h2, h3⟩ := load_ok hV h hI (opnd_tr hV h hx) h1
        exact fin_one h (exec_val (by simp only [execOp, hop]) h2) h3
    · simp at he
  case h_7 op t x y u hop =>
    split at he
    · rename_i q r hx hy
      obtain ⟨s, h1, rfl⟩ := one_spec he
      obtain ⟨h2, v, h3, h4⟩ := binT_ok hV (opnd_tr hV h hx) (opnd_tr hV h hy) h1 hp t (boolTy_ok hV) x y
      exact fin_one h (by simp [execOp, hop, h2, h3]) h4
    · simp at he
  case h_8 op t x hop =>
    split at he
    · rename_i b hx
      obtain ⟨s, h1, rfl⟩ := one_spec he
      cases h1
      exact fin_one h (by simp [execOp, hop, opnd_bool hV h hx, Op.unary]) ⟨_, rfl, Rd.b _⟩
    · rename_i k n hx
      obtain ⟨s, h1, rfl⟩ := one_spec he
      cases h1
      exact fin_one h (by simp [execOp, hop, opnd_int hV h hx, Op.unary, Op.intArith]) ⟨_, rfl, Rd.i _ _⟩
    · simp at he
  case h_9 s t x hop =>
    split at he
    · rename_i J k x0 el zo fs k' n hJ hI hx
      obtain ⟨s', h1, rfl⟩ := one_spec he
      cases h1
      have hu := (hV t _ hI).nu k x0 rfl rfl
      have hk : P.intKind t = k := by simp [Program.intKind, hu]
      have := run_convert_int (P := P) w s t k' n (und_some hV hJ) (by rw [hk]; exact hu)
      rw [hk] at this
      exact fin_one h (by simp [execOp, hop, opnd_int hV h hx, this]) ⟨_, rfl, Rd.i _ _⟩
    · simp at he
  case h_10 x i hop =>
    split at he
    · rename_i l hx
      split at he
      · rename_i g cs hl
        obtain ⟨s', h1, rfl⟩ := one_spec he
        cases h1
        obtain ⟨arr, hv, hf⟩ := opnd_tr hV h hx
        obtain ⟨u, hu, hr⟩ := hf.get i _ hl
        exact fin_one h (by simp [execOp, hop, hv, Instr.extract, hu]) hr
      · simp at he
    · simp at he
  case h_11 t ps hop =>
    split at he
    · rename_i I hd hI
      split at he
      · rename_i hg
        split at he
        · rename_i cs hb
          obtain ⟨s', h1, rfl⟩ := one_spec he
          cases h1
          obtain ⟨v, h2, h3⟩ := build_ok hV h hI hg ps cs hb
          exact fin_one h (exec_val (by simp only [execOp, hop]) h2) h3
        · simp at he
      · simp at he
    · simp at he
  case h_12 t n ps hop =>
    split at he
    · rename_i g zc k e zo fs hd hI
      split at he
      · rename_i l hl
        split at he
        · rename_i hc
          obtain ⟨s', h1, rfl⟩ := one_spec he
          cases h1
          obtain ⟨arr, h2, h3⟩ := buildSlice_ok hV h hI rfl n ps l hl hc.1 hc.2
          have hal := h3.len
          rw [flat_len] at hal
          obtain ⟨G', h4⟩ := h.alloc_row k l arr e n (by omega) (by rw [List.take_of_length_le (by omega)]; exact h3) o.dst
          rw [hc.1] at h4
          exact ⟨_, _, G', exec_val (by simp only [execOp, hop]) h2, h4⟩
        · simp at he
      · simp at he
    · simp at he
  case h_13 t n c hop =>
    split at he
    · rename_i g zc k e zo fs x y hd hI hx hy
      obtain ⟨s', h1, rfl⟩ := one_spec he
      cases h1
      obtain ⟨q1, q2, q3⟩ : 0 ≤ x ∧ x = y ∧ x.toNat ≤ LIM := hp _ rfl
      subst q2
      obtain ⟨hu, J, hJ, hz⟩ := (hV t _ hI).sl k e rfl
      obtain ⟨i, z, i1, i2, i3, i4, _⟩ := (hV e J hJ).info
      have hsz : i.size = k.size := by rw [i2, hz, cells_len]
      have hL : x.toNat ≤ 137438953472 := q3
      have hbm : (i.bytes : Int) * x ≤ 281474976710656 := by
        have h1024 : (i.bytes : Int) ≤ 1024 := by omega
        calc (i.bytes : Int) * x ≤ 1024 * x := Int.mul_le_mul_of_nonneg_right h1024 q1
          _ ≤ 281474976710656 := by omega
      have hr := run_make (P := P) w t e i z hu i1 i4 .i64 .i64 x x q1 (Int.le_refl _) hbm (by omega)
      rw [hsz] at hr
      obtain ⟨m1, m2⟩ := made_ok hV hJ hz G.F w x.toNat i1 i4
      obtain ⟨G', h4⟩ := h.alloc_row k (List.replicate x.toNat k.z) (madeCells z.cells (x.toNat * k.size)).toList e x.toNat (by simp) (by
        rw [List.take_of_length_le (by simp [m2])]; exact m1) o.dst
      simp only [List.length_replicate, Array.toArray_toList] at h4
      refine ⟨_, _, G', exec_val (s := Instr.makeSlice t (a.eval n) (a.eval c)) (by simp only [execOp, hop]) ?_, h4⟩
      rw [opnd_int hV h hx, opnd_int hV h hy]
      exact hr
    · simp at he
  case h_14 t x i hop =>
    split at he
    · rename_i g zc k e zo fs q kk n hI hx hi
      split at he
      · rename_i k' l' hel
        split at he
        · rename_i hk
          obtain ⟨s', h1, rfl⟩ := one_spec he
          cases p with
          | none => exact absurd h1 (by unfold indexT; split <;> (try split) <;> simp)
          | some pp =>
            obtain ⟨u, h2, h3⟩ := index_ok hV h hI rfl (kk := kk) (opnd_tr hV h hx) (fun k1 l1 h1 => by rw [hel] at h1; cases h1; exact hk) h1 (hp _ rfl)
            refine fin_one h (exec_val (s := Instr.indexAt t (a.eval x) (a.eval i)) (by simp only [execOp, hop]) ?_) h3
            rw [opnd_int hV h hi]; exact h2
        · simp at he
      · simp at he
    · simp at he
  case h_15 t x lo hi mx hop =>
    split at he
    · rename_i g zc k' e zo fs k l hI hx
      split at he
      · rename_i hk
        subst hk
        obtain ⟨s', h1, rfl⟩ := one_spec he
        cases p with
        | none => exact absurd h1 (by unfold sliceT; split <;> (try split) <;> (try split) <;> simp)
        | some pp =>
          obtain ⟨u, h2, h3⟩ := slice_data hV h hI rfl (opnd_row hV h hx) lo hi mx h1 (hp _ rfl)
          exact fin_one h (exec_val (by simp only [execOp, hop]) h2) h3
      · simp at he
    · simp at he
  case h_16 bb args tys hop =>
    obtain ⟨v, t, rfl, hr, ht⟩ := eagB_ok hV h o.type (args.map fun | .const v => true | x => false) he
    refine fin_one h ?_ ht
    simp only [execOp, hop, resolve, Sem.run_bind, Sem.run_pure, Result.andThen_ok, invoke]
    exact hr
  case h_17 t x hop =>
    split at he
    · rename_i b I g cs hb hI hx
      split at he
      · rename_i B hB
        split at he
        · cases he
          obtain ⟨xs, hv, hf, hc, _⟩ := VR.open (opnd_vr hV h hx)
          obtain ⟨G', h4⟩ := h.alloc_box b B cs xs t hB hf o.dst
          refine ⟨_, _, G', exec_val (s := Instr.box t (a.eval x)) (by simp only [execOp, hop]) ?_, h4⟩
          rw [eval_box_run, hc]
        · simp at he
      · simp at he
    · simp at he
  case h_18 t hop =>
    split at he
    · rename_i b I hb hI
      split at he
      · rename_i B hB
        cases he
        obtain ⟨i, z, i1, i2, i3, i4, arr, i5, i6, _⟩ := (hV t I hI).info
        obtain ⟨G', h4⟩ := h.alloc_box b B (I.zc.map .d) arr t hB (F2.map (i6.mono fun _ _ hz => hz w G.F)) o.dst
        refine ⟨_, _, G', exec_val (s := Instr.alloc t true (.tuple #[])) (by simp only [execOp, hop]) ?_, h4⟩
        simp [Instr.alloc, zeroValue, typeInfo, i1, i4, newVar, i5, run_newRow']
      · simp at he
    · simp at he
  case h_19 => simp at he
end
end Go.Proofs.YtlapeiijghebjaaE

/- Stores, rows of one's own made and grown. Conditions: none. -/
set_option linter.unusedVariables false
namespace Go.Proofs.YtlapeiijghebjaaE
open Go Go.RowKit
theorem app_row (S : St) (d : Option Nat) (t : T) (id : Nat) (r : Row) : S.app d ⟨t, [(id, r)], []⟩ = ⟨setD d t S.slots, S.rows.set id r, S.boxes⟩ := rfl
theorem app_box (S : St) (d : Option Nat) (t : T) (b : Nat) (B : Box) : S.app d ⟨t, [], [(b, B)]⟩ = ⟨setD d t S.slots, S.rows, S.boxes.set b B⟩ := rfl
theorem set_get {α : Type} {l : List α} {i j : Nat} {x y : α} (h : (l.set i x)[j]? = some y) : (i = j ∧ y = x ∧ i < l.length) ∨ (i ≠ j ∧ l[j]? = some y) := by
  rw [List.getElem?_set] at h
  by_cases e : i = j
  · rw [if_pos e] at h
    split at h
    · exact .inl ⟨e, by simpa using h.symm, ‹_›⟩
    · simp at h
  · rw [if_neg e] at h; exact .inr ⟨e, h⟩
theorem heap_setRow (w : World) (g : Nat) (cs : Array Value) {b : Nat} (h : b ≠ g) : (w.setRow g cs).heap[b]? = w.heap[b]? := setRow_other w g b cs h
section
variable {P : Program} {V : Env} {w0 : World} {prot : Pro} {S : St} {G : Gh} {a : Act} {w : World}
/-- A row of one's own turns: it is made, grown, written, or given up; the other blocks are as they were. -/
theorem Inv.own (h : Inv w0 prot S G a w) {id : Nat} {r : Row} (hr : S.rows[id]? = some r) (r' : Row) {w' : World} {G' : Gh}
    (hep : r.ep ≤ r'.ep ∧ (r.ep = r'.ep → ∀ c', r'.c = some c' → G'.hd id = G.hd id ∧ ∃ c, r.c = some c ∧ c.k = c'.k ∧ c.l.length = c'.l.length))
    (hold : ∀ b, b < w.heap.size → G.who b ≠ .rw id → G'.who b = G.who b ∧ w'.heap[b]? = w.heap[b]?)
    (hlt : ∀ b, G'.who b ≠ .ot → b < w'.heap.size) (hbk : G'.bk = G.bk) (hhd : ∀ j, j ≠ id → G'.hd j = G.hd j)
    (hw : w'.os = w.os ∧ w'.tape = w.tape ∧ w'.output = w.output ∧ w.heap.size ≤ w'.heap.size)
    (hrow : RowR w' G' id r') : Keeps w G S.rows S.boxes w' G' (S.rows.set id r') S.boxes ∧
      ∀ v t, TR w' G' (S.rows.set id r') S.boxes v t → ∀ d, Inv w0 prot (S.app d ⟨t, [(id, r')], []⟩) G' (a.put d v) w' := by
  have old : ∀ b, G.who b ≠ .ot → G.who b ≠ .rw id → G'.who b = G.who b ∧ w'.heap[b]? = w.heap[b]? := fun b hb hn => hold b (h.lt b hb) hn
  have hkeep : Keeps w G S.rows S.boxes w' G' (S.rows.set id r') S.boxes := by
    refine ⟨fun b hb => ?_, fun j r1 hr1 => ?_, fun b B hB => ⟨B, hB, Nat.le_refl _, fun _ hc => ⟨hc, by rw [hbk]⟩⟩⟩
    · have := old b (by rw [hb]; simp) (by rw [hb]; simp)
      exact ⟨by rw [this.1, hb], this.2⟩
    · rcases set_get hr1 with ⟨rfl, rfl, _⟩ | ⟨hne, hr1⟩
      · exact ⟨r, hr, hep⟩
      · exact ⟨r1, hr1, Nat.le_refl _, fun _ c' hc' => ⟨hhd j (fun e => hne e.symm), c', hc', rfl, rfl⟩⟩
  refine ⟨hkeep, fun v t ht d => ?_⟩
  rw [app_row]
  refine h.step hkeep ?_ ?_ hlt ?_ ?_ ht d
  · intro b B hB cs hcs
    have hb := h.box b B hB cs hcs
    have := old (G.bk b) (by rw [hb.1]; simp) (by rw [hb.1]; simp)
    exact hb.keep hkeep (by rw [hbk]) this.1 this.2
  · intro j r1 hr1
    rcases set_get hr1 with ⟨rfl, rfl, _⟩ | ⟨hne, hr1⟩
    · exact hrow
    · refine (h.row j r1 hr1).keep hkeep (hhd j fun e => hne e.symm) (fun b hb => ?_) fun b hb => ?_
      · have := old b (by rw [hb]; simp) (by rw [hb]; simp; exact fun e => hne e.symm)
        rw [this.1, hb]
      · exact (old b (by rw [hb]; simp) (by rw [hb]; simp; exact fun e => hne e.symm)).2
  · refine h.kp.trans (p' := prot.p) ⟨hw.1, hw.2.1, hw.2.2.1, hw.2.2.2, fun b hb => ?_⟩ fun _ hx => hx
    have hl := Nat.lt_of_lt_of_le (h.prl b hb) h.kp.size
    exact (hold b hl (by rcases h.pr b hb with ⟨e, _⟩ | ⟨e, _⟩ <;> rw [e] <;> simp)).2
  · intro b hb
    have hl := Nat.lt_of_lt_of_le (h.prl b hb) h.kp.size
    rw [(hold b hl (by rcases h.pr b hb with ⟨e, _⟩ | ⟨e, _⟩ <;> rw [e] <;> simp)).1]
    exact h.pr b hb
/-- A header for a row's name. -/
def Gh.head (G : Gh) (id : Nat) (v : Value) : Gh := { G with hd := fun j => if j = id then v else G.hd j }
theorem Gh.head_same (G : Gh) (id : Nat) (v : Value) : (G.head id v).hd id = v := by simp [Gh.head]
theorem Gh.head_other (G : Gh) (id : Nat) (v : Value) {j : Nat} (h : j ≠ id) : (G.head id v).hd j = G.hd j := by simp [Gh.head, h]
theorem slice_one (v : Value) (c : RC) (F : Nat → Prop) (h : OwnR w F v c) : v.oneCell' = true ∧ v.cells = #[v] := by
  rcases h.cells with ⟨⟨_, rfl⟩, _⟩ | ⟨g, cap, xs, cur, rfl, _⟩ <;> exact ⟨rfl, rfl⟩
theorem ref_tr {rows : List Row} {bs : List Box} {id ep : Nat} {c : RC} {v : Value} (hg : G.hd id = v) (hr : rows[id]? = some ⟨ep, some c⟩) (ho : OwnR w G.F v c) : TR w G rows bs v (.v false [.ref id ep]) := by
  have h1 := slice_one v c _ ho
  refine ⟨_, rfl, h1.1, h1.2, fun r1 hr1 => ?_⟩
  rw [hr] at hr1
  cases hr1
  exact ⟨Nat.le_refl _, fun _ _ => hg.symm⟩
/-- A new row without a block. -/
theorem Inv.own_nil (h : Inv w0 prot S G a w) {id : Nat} {r : Row} (hr : S.rows[id]? = some r) (e : Nat) (k : RK) (x : Option Addr) (d : Option Nat) :
    ∃ G', Inv w0 prot (S.app d ⟨.v false [.ref id (r.ep + 1)], [(id, ⟨r.ep + 1, some ⟨e, k, []⟩⟩)], []⟩) G' (a.put d (.slice x 0 0)) w := by
  have ho : OwnR w G.F (.slice x 0 0) ⟨e, k, []⟩ := ⟨[], ⟨by simp, .inl ⟨⟨x, rfl⟩, rfl⟩⟩, .nil⟩
  have hid : id < S.rows.length := (List.getElem?_eq_some_iff.1 hr).1
  have := h.own hr ⟨r.ep + 1, some ⟨e, k, []⟩⟩ (w' := w) (G' := G.head id (.slice x 0 0)) ⟨by simp, fun h => by simp at h⟩ (fun b _ _ => ⟨rfl, rfl⟩) h.lt rfl (fun j hj => Gh.head_other _ _ _ hj) ⟨rfl, rfl, rfl, Nat.le_refl _⟩
    (by intro c hc; cases hc; rw [Gh.head_same]; exact ⟨ho, fun b hb => by simp [ownB_zero] at hb⟩)
  exact ⟨_, this.2 _ _ (ref_tr (Gh.head_same _ _ _) (by rw [List.getElem?_set_self hid]) ho) d⟩
/-- A new row in a new block. -/
theorem Inv.own_new (h : Inv w0 prot S G a w) {id : Nat} {r : Row} (hr : S.rows[id]? = some r) (e : Nat) (k : RK) (l : List k.El) (cur : Array Value) (hc : cur.size = l.length * k.size) (hf : F2 (Rd w G.F) cur.toList (flat k l)) (hl : l.length ≤ maxLen) (d : Option Nat) :
    ∃ G', Inv w0 prot (S.app d ⟨.v false [.ref id (r.ep + 1)], [(id, ⟨r.ep + 1, some ⟨e, k, l⟩⟩)], []⟩) G' (a.put d (.slice (some ⟨w.heap.size, 0, none⟩) l.length l.length)) (w.alloc (.cells cur e (0, 0))) := by
  have hid : id < S.rows.length := (List.getElem?_eq_some_iff.1 hr).1
  let v : Value := .slice (some ⟨w.heap.size, 0, none⟩) l.length l.length
  let G1 := G.new w.heap.size (.rw id)
  let G' := G1.head id v
  have hold : ∀ b, b < w.heap.size → G.who b ≠ .rw id → G'.who b = G.who b ∧ (w.alloc (.cells cur e (0, 0))).heap[b]? = w.heap[b]? := fun b hb _ => ⟨Gh.new_other G _ (by omega), alloc_old w _ hb⟩
  have hlt : ∀ b, G'.who b ≠ .ot → b < (w.alloc (.cells cur e (0, 0))).heap.size := by
    intro b hb
    by_cases e : b = w.heap.size
    · subst e; simp
    · have h1 : G'.who b = G.who b := Gh.new_other G _ e
      rw [h1] at hb; have := h.lt b hb; simp; omega
  have hF : ∀ b, G.F b → G'.F b ∧ (w.alloc (.cells cur e (0, 0))).heap[b]? = w.heap[b]? := by
    intro b hb
    have hb' : G.who b = .fz := hb
    have := hold b (h.lt b (by rw [hb']; simp)) (by rw [hb']; simp)
    exact ⟨by show G'.who b = _; rw [this.1, hb'], this.2⟩
  have ho : OwnR (w.alloc (.cells cur e (0, 0))) G'.F v ⟨e, k, l⟩ :=
    ⟨cur.toList, ⟨by simp [hc], (Nat.eq_zero_or_pos l.length).elim (fun h0 => .inl ⟨⟨some ⟨w.heap.size, 0, none⟩, by show Value.slice _ l.length l.length = _; rw [h0]⟩, h0⟩) fun hpos => .inr ⟨w.heap.size, l.length, cur, rfl, Nat.zero_le _, heap_alloc_new w _, Nat.le_refl _, hl, (by show l.length * k.size ≤ cur.size; omega), by rw [List.take_of_length_le (by simp [hc])], hpos⟩⟩,
      hf.mono fun _ _ hh => hh.mono (fun b hb => (hF b hb).1) fun b hb => (hF b hb).2⟩
  have := h.own hr ⟨r.ep + 1, some ⟨e, k, l⟩⟩ (w' := w.alloc (.cells cur e (0, 0))) (G' := G') ⟨by simp, fun h => by simp at h⟩ hold hlt rfl (fun j hj => Gh.head_other _ _ _ hj) ⟨rfl, rfl, rfl, by simp⟩
    (by
      intro c hc'; cases hc'
      rw [show G'.hd id = v from Gh.head_same _ _ _]
      refine ⟨ho, fun b hb => ?_⟩
      have hb0 : b = w.heap.size := by
        cases hn : l.length with
        | zero => simp only [v, hn, ownB_zero] at hb; cases hb
        | succ n => simp only [v, hn, ownB, Option.some.injEq] at hb; exact hb.symm
      subst hb0
      exact Gh.new_same _ _ _)
  exact ⟨_, this.2 _ _ (ref_tr (Gh.head_same _ _ _) (by rw [List.getElem?_set_self hid]) ho) d⟩
theorem slice_all_one {F : Nat → Prop} {xs : List Value} {ds : List D} (h : F2 (Rd w F) xs ds) : ∀ u ∈ xs, u.oneCell' = true := h.all fun _ _ hh => hh.one
theorem cr_all_one {rows : List Row} {xs : List Value} {ds : List Cm} (h : F2 (CR w G rows) xs ds) : ∀ u ∈ xs, u.oneCell' = true := h.all fun v c hh => by
  cases c with
  | d x => exact hh.one
  | ref id ep => exact hh.1
  | dead => exact hh.1
theorem putC_put {α : Type} (l : List α) (o off : Nat) (c xs : List α) (hc : (l.drop o).take c.length = c) (ho : o + c.length ≤ l.length) (hx : off + xs.length ≤ c.length) :
    putC l o (putC c off xs) = putC l (o + off) xs := by
  have hl : (putC c off xs).length = c.length := putC_len _ _ _ hx
  apply List.ext_getElem?
  intro i
  have e1 : (l.take o).length = o := by simp; omega
  have e2 : (l.take (o + off)).length = o + off := by simp; omega
  have e3 : (c.take off).length = off := by simp; omega
  have e4 : (putC c off xs).length = c.length := hl
  have hcl : ∀ j, j < c.length → c[j]? = l[o + j]? := by
    intro j hj
    conv => lhs; rw [← hc]
    rw [List.getElem?_take, if_pos hj, List.getElem?_drop]
  unfold putC at e4 ⊢
  simp only [List.append_assoc]
  by_cases h1 : i < o
  · rw [List.getElem?_append_left (by omega), List.getElem?_append_left (by omega), List.getElem?_take, List.getElem?_take, if_pos h1, if_pos (by omega)]
  · rw [List.getElem?_append_right (by omega), e1]
    by_cases h2 : i < o + off
    · rw [List.getElem?_append_left (by omega), List.getElem?_append_left (by omega), List.getElem?_take, List.getElem?_take, if_pos (by omega), if_pos h2, hcl _ (by omega)]
      congr 1; omega
    · rw [List.getElem?_append_right (l₁ := l.take (o + off)) (by omega), e2]
      rw [List.getElem?_append_right (l₁ := c.take off) (by omega), e3]
      by_cases h3 : i - (o + off) < xs.length
      · rw [List.getElem?_append_left (by omega), List.getElem?_append_left (by omega)]
        congr 1; omega
      · rw [List.getElem?_append_right (l₁ := xs) (l₂ := l.drop _) (by omega), List.getElem?_append_right (l₁ := xs) (by omega)]
        by_cases h4 : i < o + c.length
        · rw [List.getElem?_append_left (by simp; omega), List.getElem?_drop, List.getElem?_drop, hcl _ (by omega)]
          congr 1; omega
        · rw [List.getElem?_append_right (by simp; omega), List.getElem?_drop, List.getElem?_drop]
          congr 1; simp; omega
end
end Go.Proofs.YtlapeiijghebjaaE

/- Stores; rows of one's own. Conditions: none. -/
set_option linter.unusedVariables false
namespace Go.Proofs.YtlapeiijghebjaaE
open Go Go.RowKit
section
variable {P : Program} {V : Env} (hV : TysOk P V) {w0 : World} {prot : Pro} {S : St} {G : Gh} {a : Act} {w : World}
/-- What is left to show behind an operation. -/
def After (w0 : World) (prot : Pro) (S : St) (d : Option Nat) (K : Outc → Prop) (a' : Act) (w' : World) : Prop := ∃ out G', K out ∧ Inv w0 prot (S.app d out) G' a' w'
theorem upon_val {o : Oper} {Q : Exit → Act → World → Prop} {next : Act → World → Prop} {v : Value} {w' : World} (h : (execOp a.eval o).run P w = .ok (.value v) w') (hn : next (a.put o.dst v) w') :
    o.wp P a w next Q := by
  unfold Oper.wp; rw [h]; exact hn
theorem upon_skip {o : Oper} {Q : Exit → Act → World → Prop} {next : Act → World → Prop} {w' : World} (h : (execOp a.eval o).run P w = .ok .skip w') (hn : next (a.put o.dst undef) w') :
    o.wp P a w next Q := by
  unfold Oper.wp; rw [h]; exact hn
include hV
theorem run_storeAt {t : Nat} {I : TyI} (hI : look t V.tys = some I) (g o : Nat) (v : Value) (xs : List Value) (hc : v.cells = xs.toArray) (hl : xs.length = I.zc.length) (cur : Array Value) (e : TypeId) (hg : w.heap[g]? = some (.cells cur e (0, 0)))
    (ho : o + xs.length ≤ cur.size) (h1 : ∀ u ∈ xs, u.oneCell' = true) : (Instr.storeAt t (.pointer (some ⟨g, o, none⟩)) v).run P w = .ok () (w.setRow g (putC cur.toList o xs).toArray) := by
  have hst := run_storeCells_at P g o e xs 0 cur w hg (by simpa using ho) h1
  simp only [Nat.add_zero] at hst
  simp only [Instr.storeAt, Instr.sureAddr, storeVar, Sem.run_bind, Sem.run_pure, Result.andThen_ok, run_size hV hI, hc]
  simp [hl, putC] at hst ⊢
  exact hst
/-- A store into a variable. -/
theorem store_box (h : Inv w0 prot S G a w) {t : Nat} {I : TyI} (hI : look t V.tys = some I) {b ep off : Nat} {cs xs : List Cm} {p v : Value} {g : Bool} (hp : TR w G S.rows S.boxes p (.pb b ep off)) (hv : VR w G S.rows v g xs)
    (hb : S.box b ep = some cs) (h1 : xs.length = I.zc.length) (h2 : off + xs.length ≤ cs.length) (d : Option Nat) :
    ∃ w' G', (Instr.storeAt t p v).run P w = .ok () w' ∧ Inv w0 prot (S.app d ⟨.und, [], [(b, ⟨ep, some (putC cs off xs)⟩)]⟩) G' (a.put d undef) w' := by
  obtain ⟨B, hB, he, hc⟩ := box_spec hb
  obtain rfl := (hp B hB).2 he (by simp [hc])
  obtain ⟨hw, arr, ty, hh, hf⟩ := h.box b B hB cs hc
  obtain ⟨ys, rfl, hys, hcl, _⟩ := VR.open hv
  have hyl := hys.len
  have hal := hf.len
  have hbl : b < S.boxes.length := (List.getElem?_eq_some_iff.1 hB).1
  refine ⟨_, G, run_storeAt hV hI (G.bk b) off _ ys hcl (by omega) arr.toArray ty hh (by simp; omega) (cr_all_one hys), ?_⟩
  have hold : ∀ b', b' ≠ G.bk b → (w.setRow (G.bk b) (putC arr off ys).toArray).heap[b']? = w.heap[b']? := fun b' hb' => heap_setRow w _ _ hb'
  have hkeep : Keeps w G S.rows S.boxes (w.setRow (G.bk b) (putC arr off ys).toArray) G S.rows (S.boxes.set b ⟨ep, some (putC cs off xs)⟩) := by
    refine ⟨fun b' hb' => ⟨hb', hold b' fun e => by rw [e, hw] at hb'; simp at hb'⟩, fun id r' hr => ⟨r', hr, Nat.le_refl _, fun _ c' hc => ⟨rfl, c', hc, rfl, rfl⟩⟩, fun b' B' hB' => ?_⟩
    rcases set_get hB' with ⟨rfl, rfl, _⟩ | ⟨hne, hB'⟩
    · exact ⟨B, hB, by simp [he], fun _ _ => ⟨by simp [hc], rfl⟩⟩
    · exact ⟨B', hB', Nat.le_refl _, fun _ hx => ⟨hx, rfl⟩⟩
  rw [app_box]
  refine h.step hkeep ?_ ?_ (by simpa using h.lt) ?_ h.pr (v := undef) (t := .und) rfl d
  · intro b' B' hB' cs' hcs'
    rcases set_get hB' with ⟨rfl, rfl, _⟩ | ⟨hne, hB'⟩
    · cases hcs'
      exact ⟨hw, putC arr off ys, ty, setRow_heap w _ _ _ _ _ hh, (hf.put hys off).crs hkeep⟩
    · have hb' := h.box b' B' hB' cs' hcs'
      refine hb'.keep hkeep rfl rfl (hold _ fun e => ?_)
      have h3 := hb'.1
      rw [e, hw] at h3
      simp at h3
      exact hne h3
  · intro id r hr
    exact (h.row id r hr).keep hkeep rfl (fun b' hb' => hb') fun b' hb' => hold b' fun e => by rw [e, hw] at hb'; simp at hb'
  · refine h.kp.trans (p' := prot.p) ⟨rfl, rfl, rfl, by simp, fun b' hb' => hold b' fun e => ?_⟩ fun _ hx => hx
    rcases h.pr b' hb' with ⟨e1, _⟩ | ⟨e1, _⟩ <;> (rw [e, hw] at e1; simp at e1)
/-- A store into a row of one's own. -/
theorem store_row (h : Inv w0 prot S G a w) {t : Nat} {I : TyI} (hI : look t V.tys = some I) {id ep i off : Nat} {xs : List Cm} {ds : List D} {p v : Value} {g : Bool} {c : RC} {e : c.k.El} (hp : TR w G S.rows S.boxes p (.pr id ep i off)) (hv : VR w G S.rows v g xs)
    (hl : S.live id ep = some c) (hd : datas xs = some ds) (h1 : ds.length = I.zc.length) (h2 : off + ds.length ≤ c.k.size) (hm : c.k.mk (putC (c.k.cells (c.k.at c.l i)) off ds) = some e) (d : Option Nat) :
    ∃ w' G', (Instr.storeAt t p v).run P w = .ok () w' ∧ Inv w0 prot (S.app d ⟨.und, [(id, ⟨ep, some ⟨c.e, c.k, c.l.set i e⟩⟩)], []⟩) G' (a.put d undef) w' := by
  obtain ⟨r, hr, he, hrc⟩ := live_spec hl
  obtain ⟨hi, g', n, cap, hh, rfl⟩ := (hp r hr).2 he c hrc
  obtain ⟨⟨zs, ⟨hzl, ho⟩, hf⟩, htag⟩ := h.row id r hr c hrc
  obtain ⟨ys, rfl, hys, hcl, _⟩ := VR.open hv
  have hyd := datas_crs hys hd
  have hyl := hyd.len
  rcases ho with ⟨_, h3⟩ | ⟨g2, cap2, cur, h3, hb, hg, hnc, hcm, hcs, ht, hpos⟩
  · omega
  · rw [h3] at hh
    cases hh
    have hidx := idx_le (s := c.k.size) hi
    have hcap := Nat.mul_le_mul_right c.k.size hnc
    refine ⟨_, G, run_storeAt hV hI g' (i * c.k.size + off) _ ys hcl (by omega) cur c.e hg (by omega) (slice_all_one hyd), ?_⟩
    have hgt : G.who g' = .rw id := htag g' (by rw [h3]; exact ownB_pos hpos)
    have hold : ∀ b', b' ≠ g' → (w.setRow g' (putC cur.toList (i * c.k.size + off) ys).toArray).heap[b']? = w.heap[b']? := fun b' hb' => heap_setRow w _ _ hb'
    have hF : ∀ b', G.F b' → G.F b' ∧ (w.setRow g' (putC cur.toList (i * c.k.size + off) ys).toArray).heap[b']? = w.heap[b']? := fun b' hb' => ⟨hb', hold b' fun e => by
      have hb2 : G.who b' = .fz := hb'
      rw [e, hgt] at hb2; simp at hb2⟩
    have hcur : cur.toList.length = cur.size := by simp
    have hnew : OwnR (w.setRow g' (putC cur.toList (i * c.k.size + off) ys).toArray) G.F (G.hd id) ⟨c.e, c.k, c.l.set i e⟩ := by
      refine ⟨putC zs (i * c.k.size + off) ys, ⟨?_, .inr ⟨g', cap, (putC cur.toList (i * c.k.size + off) ys).toArray, ?_, Nat.zero_le _, setRow_heap w _ _ _ _ _ hg, ?_, hcm, ?_, ?_, hpos⟩⟩, ?_⟩
      · rw [putC_len _ _ _ (by omega)]; simpa using hzl
      · simpa using h3
      · simpa using hnc
      · show cap * c.k.size ≤ _
        rw [List.size_toArray, putC_len _ _ _ (by omega)]; omega
      · simp only [List.length_set]
        rw [← ht]
        simp only [putC]
        have e1 : (cur.toList.take (i * c.k.size + off)).length = i * c.k.size + off := by simp; omega
        have hT : i * c.k.size + off + ys.length ≤ c.l.length * c.k.size := by omega
        generalize c.l.length * c.k.size = T at *
        rw [List.append_assoc, List.take_append, e1, List.take_take, Nat.min_eq_right (by omega : i * c.k.size + off ≤ T), List.take_take, List.take_append, List.drop_take, List.append_assoc]
        congr 1
        · rw [Nat.min_eq_left (by omega)]
        · rw [List.take_of_length_le (by omega : ys.length ≤ T - (i * c.k.size + off))]
          congr 2; omega
      · have := (hf.put hyd (i * c.k.size + off)).mono (R' := Rd (w.setRow g' (putC cur.toList (i * c.k.size + off) ys).toArray) G.F) fun _ _ hh => hh.mono (fun b' hb' => hb') fun b' hb' => (hF b' hb').2
        show F2 _ _ (flat c.k (c.l.set i e))
        rw [flat_set c.k c.l i hi e, mk_cells _ _ _ hm, putC_put _ _ _ _ _ (by rw [cells_len]; exact flat_at c.k c.l i hi) (by rw [cells_len, flat_len]; omega) (by rw [cells_len]; omega)]
        exact this
    have := h.own hr ⟨ep, some ⟨c.e, c.k, c.l.set i e⟩⟩ (w' := w.setRow g' (putC cur.toList (i * c.k.size + off) ys).toArray) (G' := G)
      ⟨by simp [he], fun _ c' hc' => by cases hc'; exact ⟨rfl, c, hrc, rfl, by simp⟩⟩
      (fun b' _ hne => ⟨rfl, hold b' fun e => hne (by rw [e, hgt])⟩) (by simpa using h.lt) rfl (fun _ _ => rfl) ⟨rfl, rfl, rfl, by simp⟩
      (by intro c' hc'; cases hc'; exact ⟨hnew, htag⟩)
    exact this.2 _ .und rfl d
theorem rowNew_spec {id : Nat} {c : RC} {K : Outc → Prop} (hk : rowNew S id c K) : ∃ r, S.rows[id]? = some r ∧ K ⟨.v false [.ref id (r.ep + 1)], [(id, ⟨r.ep + 1, some c⟩)], []⟩ := by
  have _ := hV
  unfold rowNew at hk
  split at hk
  · exact ⟨_, ‹_›, hk⟩
  · exact hk.elim
theorem append_cells (h : Inv w0 prot S G a w) {v : Value} {t : T} {k : RK} {l : List k.El} (ht : TR w G S.rows S.boxes v t) (he : S.elems t = some ⟨k, l⟩) :
    ((∃ x, v = .slice x 0 0) ∧ l = []) ∨ ∃ ad cap xs, v = .slice (some ad) l.length cap ∧ (∀ j u, xs[j]? = some u → w.cell? (ad.add j) = some u) ∧ F2 (Rd w G.F) xs (flat k l) := by
  rcases elems_lies hV h ht he with h1 | ⟨g, off, cap, xs, h1, _, h2, h3⟩
  · exact .inl h1
  · exact .inr ⟨_, cap, xs, h1, h2, h3⟩
end
end Go.Proofs.YtlapeiijghebjaaE

/- What a row of one's own grows by. Conditions: none. -/
set_option linter.unusedVariables false
namespace Go.Proofs.YtlapeiijghebjaaE
open Go Go.RowKit
section
variable {w : World} {base : Nat} {e : TypeId} {size : Nat} {v : Value} {n : Nat} {xs : List Value}
theorem setD_setD {α : Type} (d : Option Nat) (x y : α) (l : List α) : setD d x (setD d y l) = setD d x l := by cases d <;> simp [setD]
theorem put_put (a : Act) (d : Option Nat) (v : Value) : (a.put d v).put d v = a.put d v := by cases d <;> simp [Act.put]
theorem OwnsC.of (h : w.ownsRow base e size v n xs) : OwnsC w base e size v n xs := by
  refine ⟨h.1, ?_⟩
  rcases h.2 with h2 | ⟨g, cap, cur, h1, h2, h3, h4, h5, h6, h7⟩
  · exact .inl ⟨⟨_, h2.1⟩, h2.2⟩
  · rcases Nat.eq_zero_or_pos cap with h0 | hpos
    · have hn : n = 0 := by omega
      exact .inl ⟨⟨_, by rw [h1, h0, hn]⟩, hn⟩
    · exact .inr ⟨g, cap, cur, h1, h2, h3, h4, h5, Nat.le_of_eq h6.symm, h7, hpos⟩
theorem OwnsC.cells (h : OwnsC w base e size v n xs) {g : Nat} (hg : (ownB v) = some g) : ∀ j u, xs[j]? = some u → w.cell? ((⟨g, 0, none⟩ : Addr).add j) = some u := by
  intro j u hu
  rcases h.2 with ⟨⟨x, rfl⟩, _⟩ | ⟨g', cap, cur, rfl, _, hgg, _, _, _, htake, hpos⟩
  · simp [ownB_zero] at hg
  · rw [ownB_pos hpos] at hg
    cases hg
    have hadd : (⟨g', 0, none⟩ : Addr).add j = ⟨g', j, none⟩ := by unfold Addr.add; split <;> simp_all
    rw [hadd, cell_of_row w g' j cur e (0, 0) hgg]
    rw [← htake, List.getElem?_take] at hu
    split at hu
    · simpa using hu
    · cases hu
/-- The slice's capacity cut down to its length. -/
theorem OwnsC.clip {A : Option Addr} {c : Nat} (h : OwnsC w base e size (.slice A n c) n xs) : OwnsC w base e size (.slice A n n) n xs := by
  refine ⟨h.1, ?_⟩
  rcases Nat.eq_zero_or_pos n with h0 | hpos
  · exact .inl ⟨⟨A, by rw [h0]⟩, h0⟩
  · rcases h.2 with ⟨hv, hn⟩ | ⟨g, cap, cur, hv, hb, hg, hnc, hcm, hcs, ht, _⟩
    · omega
    · injection hv with h1 h2 h3
      subst h1; subst h3
      exact .inr ⟨g, n, cur, rfl, hb, hg, Nat.le_refl _, Nat.le_trans hnc hcm, Nat.le_trans (Nat.mul_le_mul_right _ hnc) hcs, ht, hpos⟩
end
section
variable {P : Program} (w : World)
theorem run_append_ownC_at (base : Nat) (t ty e : TypeId) (i : TypeInfo) (z : Value) (size bytes : Nat) (ht : P.underlying t = some (.slice e)) (hi : P.info? e = some i) (hz : i.zero = some z)
    (hsize : i.size = size) (hby : i.bytes = bytes) (hzs : z.cells.size = size) (hsz : 0 < size)
    (v : Value) (n : Nat) (xs : List Value) (hown : OwnsC w base e size v n xs)
    (a : Addr) (m c : Nat) (news : List Value) (hl : news.length = m * size) (hnews : ∀ j u, news[j]? = some u → w.cell? (a.add j) = some u) (h1 : ∀ u ∈ news, u.oneCell' = true)
    (hm : 0 < m) (h63 : n + m ≤ maxLen) (hbytes : (n + m) * bytes ≤ 140737488355328) (hbase : base ≤ w.heap.size) :
    ∃ v' w', (Builtin.append_ #[t, t] ty #[v, .slice (some a) m c]).run P w = .ok v' w' ∧ OwnsC w' base e size v' (n + m) (xs ++ news) ∧ w.grownBy w' (ownB v) ∧
      ((ownB v') = (ownB v) ∨ (ownB v') = some w.heap.size) := by
  have fresh : ∀ (ad : Addr) (cap : Nat), v = .slice (some ad) n cap → cap < n + m → (∀ j u, xs[j]? = some u → w.cell? (ad.add j) = some u) → ∃ v' w', (Builtin.append_ #[t, t] ty #[v, .slice (some a) m c]).run P w = .ok v' w' ∧ OwnsC w' base e size v' (n + m) (xs ++ news) ∧ w.grownBy w' (ownB v) ∧
      ((ownB v') = (ownB v) ∨ (ownB v') = some w.heap.size) := by
    rintro ad cap rfl hlt holds
    obtain ⟨v', w', hr, ho, hgr⟩ := run_append_arg_grows (P := P) (w := w) t ty e i z size bytes ht hi hz hsize hby hzs hsz ad n cap xs hown.1 holds a m c news hl hnews (by omega) h63 hbytes
    have ho' := OwnsC.of ho
    refine ⟨v', w', hr, ⟨ho'.1, ?_⟩, ⟨hgr.os, hgr.tape, hgr.output, hgr.size, fun k hk _ => hgr.block k hk (by simp)⟩, Or.inr ?_⟩
    · rcases ho'.2 with h2 | ⟨g2, cap2, cur2, q1, q2, q3⟩
      · exact .inl h2
      · exact .inr ⟨g2, cap2, cur2, q1, Nat.le_trans hbase q2, q3⟩
    · subst hsize
      have hr2 := run_append_grow (P := P) w t ty e i z ht hi hz ad n cap xs hown.1 holds a m c news hl hnews (by omega) (by simp only [maxLen] at h63; omega) (growslice_fits (by omega) (by rw [hby]; exact hbytes))
      rw [hr] at hr2
      injection hr2 with e1 e2
      rcases ho'.2 with h2 | ⟨g2, cap2, cur2, q1, q2, q3, _, _, _, _, hpos⟩
      · omega
      · rw [e1] at q1
        injection q1 with q1 _ q4
        rw [e1, q4]
        exact ownB_pos hpos
  rcases hown.2 with ⟨⟨x, rfl⟩, rfl⟩ | ⟨g, cap, cur, rfl, hbg, hg, hnc, hcm, hcs, htake, hpos⟩
  · cases x with
    | none =>
      obtain ⟨v', w', hr, ho, hgr, _, hloc⟩ := run_append_own_at (P := P) w base t ty e i z size bytes ht hi hz hsize hby hzs hsz (.slice none 0 0) 0 xs ⟨hown.1, .inl ⟨rfl, rfl⟩⟩ a m c news hl hnews h1 h63 hbytes hbase
      have ho' := OwnsC.of ho
      refine ⟨v', w', hr, ho', hgr, ?_⟩
      rcases ho'.2 with ⟨_, h0⟩ | ⟨g2, cap2, cur2, q1, _, _, _, _, _, _, hpos⟩
      · omega
      · rcases hloc with h2 | h2
        · rw [q1] at h2; simp [Value.ownBlock] at h2
        · rw [q1] at h2 ⊢
          rw [ownB_pos hpos]
          exact .inr h2
    | some ad =>
      refine fresh ad 0 rfl (by omega) fun j u hu => ?_
      have : xs = [] := List.length_eq_zero_iff.1 (by rw [hown.1]; omega)
      rw [this] at hu; simp at hu
  · have hlen : (xs ++ news).length = (n + m) * size := by rw [List.length_append, hown.1, hl, Nat.add_mul]
    by_cases hroom : n + m ≤ cap
    · have hfit : n * size + news.length ≤ cur.size := by
        rw [hl, ← Nat.add_mul]
        exact Nat.le_trans (Nat.mul_le_mul_right _ hroom) hcs
      subst hsize
      have hr := run_append_room (P := P) w t ty e i ht hi g n cap cur hg a m c news hl hnews h1 hroom hfit
      refine ⟨_, _, hr, ⟨hlen, .inr ⟨g, cap, _, rfl, hbg, setRow_heap w g cur _ e _ hg, hroom, hcm, ?_, ?_, hpos⟩⟩, ⟨rfl, rfl, rfl, by simp, fun k _ hk => setRow_other w g k _ (fun he => hk (by rw [he, ownB_pos hpos]))⟩, Or.inl (by rw [ownB_pos hpos, ownB_pos hpos])⟩
      · simp only [List.size_toArray, List.length_append, List.length_take, List.length_drop, Array.length_toList]
        omega
      · rw [htake, ← hlen]
        exact List.take_left
    · exact fresh ⟨g, 0, none⟩ cap rfl (by omega) (hown.cells (g := g) (ownB_pos hpos))
end
theorem run_append_nothing {P : Program} (w : World) (t ty e : TypeId) (i : TypeInfo) (ht : P.underlying t = some (.slice e)) (hi : P.info? e = some i) (A B : Option Addr) (n cap cb : Nat) (hn : n ≤ cap) :
    (Builtin.append_ #[t, t] ty #[.slice A n cap, .slice B 0 cb]).run P w = .ok (.slice A n cap) w := by
  have h0 : ∀ ad : Addr, (loadCells ad 0).run P w = .ok #[] w := fun ad => run_loadCells_list (P := P) w ad [] (fun j v h => by simp at h)
  cases A <;> cases B <;> simp [Builtin.append_, run_underlying ht, sizeOf, typeInfo, hi, Builtin.lenOf, Builtin.firstCells, hn, storeCells.eq_1, h0]
section
variable {P : Program} {V : Env} (hV : TysOk P V) {w0 : World} {prot : Pro} {S : St} {G : Gh} {a : Act} {w : World}
include hV
theorem append_ok (h : Inv w0 prot S G a w) {t : Nat} {I : TyI} {k : RK} {e : Nat} (hI : look t V.tys = some I) (hel : I.el = some (k, e)) {id ep : Nat} {c : RC} (hl : S.live id ep = some c) (hce : c.e = e) (hck : c.k = k)
    {v u : Value} (hv : CR w G S.rows v (.ref id ep)) {q : T} {k' : RK} {l' : List k'.El} (hu : TR w G S.rows S.boxes u q) (he : S.elems q = some ⟨k', l'⟩) (hk : k' = c.k) (hlim : c.l.length + l'.length ≤ LIM) (ty : TypeId) (d : Option Nat) :
    ∃ v' w' G', (Builtin.append_ #[t, t] ty #[v, u]).run P w = .ok v' w' ∧
      Inv w0 prot (S.app d ⟨.v false [.ref id (ep + 1)], [(id, ⟨ep + 1, some ⟨c.e, c.k, c.l ++ castL hk l'⟩⟩)], []⟩) G' (a.put d v') w' ∧ G'.hd id = v' := by
  obtain ⟨r, hr, hep, hrc⟩ := live_spec hl
  obtain ⟨hvh, ⟨zs, hown, hf⟩, htag⟩ := own_of hV h hl hv
  obtain ⟨hun, J, hJ, hz⟩ := (hV t I hI).sl k e hel
  obtain ⟨i, z, i1, i2, i3, i4, arr, i5, i6, _⟩ := (hV e J hJ).info
  have hsz : i.size = k.size := by rw [i2, hz, cells_len]
  have hzs : z.cells.size = k.size := by rw [i5, List.size_toArray, i6.len, hz, cells_len]
  have hid : id < S.rows.length := (List.getElem?_eq_some_iff.1 hr).1
  subst hck
  subst hce
  subst hk
  have hcast : castL rfl l' = l' := rfl
  rw [hcast]
  have hL : c.l.length + l'.length ≤ 137438953472 := hlim
  have hcells := append_cells hV h hu he
  by_cases hl0 : l' = []
  · -- nothing is appended
    obtain ⟨B, cb, rfl⟩ : ∃ B cb, u = .slice B 0 cb := by
      rcases hcells with ⟨⟨x, rfl⟩, _⟩ | ⟨ad, cap, xs, rfl, _⟩
      · exact ⟨_, _, rfl⟩
      · rw [hl0]; exact ⟨_, _, rfl⟩
    subst hl0
    have hvs : ∃ A cap, v = .slice A c.l.length cap ∧ c.l.length ≤ cap := by
      rcases hown.2 with ⟨h1, h2⟩ | ⟨g, cap, cur, h1, _, _, h2, _⟩
      · obtain ⟨x, h1⟩ := h1; exact ⟨x, 0, by rw [h2]; exact h1, by omega⟩
      · exact ⟨_, cap, h1, h2⟩
    obtain ⟨A, cap, rfl, hcap⟩ := hvs
    have := h.own hr ⟨ep + 1, some ⟨c.e, c.k, c.l ++ []⟩⟩ (w' := w) (G' := G) ⟨by simp; omega, fun h => by simp at h; omega⟩ (fun _ _ _ => ⟨rfl, rfl⟩) h.lt rfl (fun _ _ => rfl) ⟨rfl, rfl, rfl, Nat.le_refl _⟩
      (by intro c' hc'; cases hc'; rw [← hvh]; exact ⟨⟨zs, by simpa using hown, by simpa using hf⟩, htag⟩)
    refine ⟨_, w, G, run_append_nothing w t ty c.e i hun i1 A B _ cap cb hcap, this.2 _ _ (ref_tr (c := ⟨c.e, c.k, c.l ++ []⟩) hvh.symm (by rw [List.getElem?_set_self hid]) ⟨zs, by simpa using hown, by simpa using hf⟩) d, hvh.symm⟩
  · rcases hcells with ⟨_, h0⟩ | ⟨ad, cap, xs, rfl, hx, hxf⟩
    · exact absurd h0 hl0
    have hm0 : 0 < l'.length := List.length_pos_iff.2 hl0
    have hxl := hxf.len
    rw [flat_len] at hxl
    obtain ⟨v', w', h1, h2, h3, h5⟩ := run_append_ownC_at (P := P) w 0 t ty c.e i z c.k.size i.bytes hun i1 i4 hsz rfl hzs (size_pos _) v c.l.length zs hown ad l'.length cap xs hxl hx (slice_all_one hxf) hm0
      (by simp only [maxLen]; omega) (by
        have := Nat.mul_le_mul_left (c.l.length + l'.length) i3
        omega) (Nat.zero_le _)
    let G1 : Gh := { G with who := fun b => if b = w.heap.size then (if (ownB v') = some b then .rw id else .ot) else G.who b }
    let G' := G1.head id v'
    have hG : ∀ b, b ≠ w.heap.size → G'.who b = G.who b := fun b hb => by show (if b = _ then _ else _) = _; rw [if_neg hb]
    have hvo : ∀ b, (ownB v) = some b → G.who b = .rw id := htag
    have hold : ∀ b, b < w.heap.size → G.who b ≠ .rw id → G'.who b = G.who b ∧ w'.heap[b]? = w.heap[b]? := fun b hb hne => ⟨hG b (by omega), h3.block b hb fun e => hne (hvo b e.symm)⟩
    have hlt : ∀ b, G'.who b ≠ .ot → b < w'.heap.size := by
      intro b hb
      by_cases e : b = w.heap.size
      · subst e
        have hw : G'.who w.heap.size = if (ownB v') = some w.heap.size then .rw id else .ot := by show (if _ = _ then _ else _) = _; rw [if_pos rfl]
        rw [hw] at hb
        split at hb
        · rename_i hv'
          rcases h2.2 with ⟨⟨x, hn⟩, _⟩ | ⟨g, cp, cur, hs, _, hg, _, _, _, _, hpos⟩
          · rw [hn] at hv'; simp [ownB_zero] at hv'
          · rw [hs, ownB_pos hpos] at hv'
            simp only [Option.some.injEq] at hv'
            rw [← hv']
            exact (Array.getElem?_eq_some_iff.1 hg).1
        · exact absurd rfl hb
      · rw [hG b e] at hb
        exact Nat.lt_of_lt_of_le (h.lt b hb) h3.size
    have hF : ∀ b, G.F b → G'.F b ∧ w'.heap[b]? = w.heap[b]? := by
      intro b hb
      have hb' : G.who b = .fz := hb
      have := hold b (h.lt b (by rw [hb']; simp)) (by rw [hb']; simp)
      exact ⟨by show G'.who b = _; rw [this.1, hb'], this.2⟩
    have ho : OwnR w' G'.F v' ⟨c.e, c.k, c.l ++ l'⟩ := by
      refine ⟨zs ++ xs, by simpa using h2, ?_⟩
      show F2 _ _ (flat c.k (c.l ++ l'))
      rw [flat_append]
      exact (hf.app hxf).mono fun _ _ hh => hh.mono (fun b hb => (hF b hb).1) fun b hb => (hF b hb).2
    have := h.own hr ⟨ep + 1, some ⟨c.e, c.k, c.l ++ l'⟩⟩ (w' := w') (G' := G') ⟨by simp; omega, fun h => by simp at h; omega⟩ hold hlt rfl (fun j hj => Gh.head_other _ _ _ hj) ⟨h3.os, h3.tape, h3.output, h3.size⟩
      (by
        intro c' hc'; cases hc'
        rw [show G'.hd id = v' from Gh.head_same _ _ _]
        refine ⟨ho, fun b hb => ?_⟩
        rcases h5 with e | e
        · have hb2 := hvo b (by rw [← e]; exact hb)
          rw [hG b (by
            have := h.lt b (by rw [hb2]; simp)
            omega)]
          exact hb2
        · rw [e] at hb
          cases hb
          show (if _ = _ then _ else _) = _
          rw [if_pos rfl, if_pos e])
    exact ⟨v', w', G', h1, this.2 _ _ (ref_tr (Gh.head_same _ _ _) (by rw [List.getElem?_set_self hid]) ho) d, Gh.head_same _ _ _⟩
end
end Go.Proofs.YtlapeiijghebjaaE

/- What is promised of a function; what is handed over and comes back. Conditions: none. -/
set_option linter.unusedVariables false
namespace Go.Proofs.YtlapeiijghebjaaE
open Go Go.RowKit
def ACR (w : World) (F : Nat → Prop) (v : Value) (B : List Nat) : AC → Prop
  | .d x => Rd w F v x ∧ B = []
  | .own c => OwnR w F v c ∧ B = (ownB v).toList
def ACs (w : World) (F : Nat → Prop) : List Value → List AC → List Nat → Prop
  | [], [], B => B = []
  | v :: vs, c :: cs, B => ∃ B1 B2, ACR w F v B1 c ∧ ACs w F vs cs B2 ∧ B = B1 ++ B2
  | _, _, _ => False
def ArgR (w : World) (F : Nat → Prop) (v : Value) (B hb : List Nat) : Arg → Prop
  | .v g cs => ∃ xs, v = mkV g xs ∧ v.cells = xs.toArray ∧ (g = false → xs.length = 1) ∧ ACs w F xs cs B ∧ hb = []
  | .p cs => ∃ (b : Nat) (arr : List Value) (ty : TypeId) (B1 : List Nat), v = .pointer (some ⟨b, 0, none⟩) ∧ w.heap[b]? = some (.cells arr.toArray ty (0, 0)) ∧ ACs w F arr cs B1 ∧ B = b :: B1 ∧ hb = [b]
def ArgsR (w : World) (F : Nat → Prop) : List Value → List Arg → List Nat → List Nat → Prop
  | [], [], B, hb => B = [] ∧ hb = []
  | v :: vs, x :: xs, B, hb => ∃ B1 B2 h1 h2, ArgR w F v B1 h1 x ∧ ArgsR w F vs xs B2 h2 ∧ B = B1 ++ B2 ∧ hb = h1 ++ h2
  | _, _, _, _ => False
/-- The value that a call returns. -/
def retV (vs : List Value) : Value := match vs with
  | [v] => v
  | vs => .tuple vs.toArray
def ptrV (b : Nat) : Value := .pointer (some ⟨b, 0, none⟩)
/-- A function value that is handed over last: the variable that it holds stands for it. -/
def wrapV : Option (Nat × Bool) → List Value → List Value
  | none, vs => vs
  | some (f, false), vs => vs ++ [.func (.func f) #[] #[]]
  | some (_, true), [] => []
  | some (f, true), [v] => [.func (.func f) #[] #[v]]
  | some (f, true), v :: vs => v :: wrapV (some (f, true)) vs
theorem wrapV_none (vs : List Value) : wrapV none vs = vs := by simp [wrapV]
theorem wrapV_false (f : Nat) (vs : List Value) : wrapV (some (f, false)) vs = vs ++ [.func (.func f) #[] #[]] := by simp [wrapV]
theorem wrapV_cons (f : Nat) (v x : Value) (xs : List Value) : wrapV (some (f, true)) (v :: x :: xs) = v :: wrapV (some (f, true)) (x :: xs) := by simp [wrapV]
/-- A call does what is told of it. -/
def Valid (P : Program) (f : Nat) (E : Ent) : Prop :=
  (∃ fn, P.funcs[f]? = some fn ∧ fn.body.isSome = true ∧ (fn.name == "runtime.NumGoroutine") = false) ∧
  ∀ (w : World) (F : Nat → Prop) (vs : List Value) (as : List Arg) (B hb : List Nat) (K : List Arg → List (List AC) → Prop),
    ArgsR w F vs as B hb → B.Nodup → (∀ b ∈ B, ¬ F b ∧ b < w.heap.size) → (∀ b, F b → b < w.heap.size) → E.F as K →
    Calls P f (wrapV E.clo vs).toArray w fun e w' => ∃ rv rs bs F' B' hb', e = .returned (retV rv) ∧ K rs bs ∧ ArgsR w' F' (rv ++ hb.map ptrV) (rs ++ bs.map .p) B' hb' ∧ rv.length = rs.length ∧
      B'.Nodup ∧ (∀ b ∈ B', ¬ F' b ∧ b < w'.heap.size ∧ (b ∈ B ∨ w.heap.size ≤ b)) ∧ (∀ b, F b → F' b) ∧ (∀ b, F' b → b < w'.heap.size ∧ (F b ∨ b ∈ B ∨ w.heap.size ≤ b)) ∧
      Kp (fun b => b < w.heap.size ∧ b ∉ B) w w'
def CallsOk (P : Program) (V : Env) : Prop := ∀ f E, look f V.calls = some E → Valid P f E
/-! ### what comes back is laid down -/
inductive OC (S : St) : List Nat → List AC → List Cm → List (Nat × Row) → List Nat → Prop
  | nil (ids : List Nat) : OC S ids [] [] [] ids
  | own {id : Nat} {ids : List Nat} {c : RC} {as : List AC} {r : Row} {cs : List Cm} {rs : List (Nat × Row)} {is : List Nat} : S.rows[id]? = some r → OC S ids as cs rs is →
      OC S (id :: ids) (.own c :: as) (.ref id (r.ep + 1) :: cs) ((id, ⟨r.ep + 1, some c⟩) :: rs) is
  | dat {ids : List Nat} {x : AC} {as : List AC} {cs : List Cm} {rs : List (Nat × Row)} {is : List Nat} : OC S ids as cs rs is → OC S ids (x :: as) (.d x.data :: cs) rs is
theorem ownCells_spec {S : St} : ∀ {as : List AC} {ids : List Nat} {K : List Cm → List (Nat × Row) → List Nat → Prop}, ownCells S ids as K → ∃ cs rs is, K cs rs is ∧ OC S ids as cs rs is := by
  intro as
  induction as with
  | nil => intro ids K h; cases ids <;> exact ⟨_, _, _, h, .nil _⟩
  | cons x as ih =>
    intro ids K h
    cases ids with
    | nil =>
      cases x <;> (
        simp only [ownCells] at h
        obtain ⟨cs, rs, is, h1, h2⟩ := ih h
        exact ⟨_, _, _, h1, .dat h2⟩)
    | cons id ids =>
      cases x with
      | d y =>
        simp only [ownCells] at h
        obtain ⟨cs, rs, is, h1, h2⟩ := ih h
        exact ⟨_, _, _, h1, .dat h2⟩
      | own c =>
        simp only [ownCells] at h
        split at h
        · rename_i r hr
          obtain ⟨cs, rs, is, h1, h2⟩ := ih h
          exact ⟨_, _, _, h1, .own hr h2⟩
        · exact h.elim
theorem OwnR.data {w : World} {F F' : Nat → Prop} {v : Value} {c : RC} (h : OwnR w F v c) (hF : ∀ b, F b → F' b) (hb : ∀ b, (ownB v) = some b → F' b) : Rd w F' v (.r c.k c.l) := by
  rcases h.cells with ⟨⟨x, rfl⟩, h2⟩ | ⟨g, cap, xs, cur, rfl, ⟨h2, hpos⟩, _, _, _, h3, h4⟩
  · rw [h2]; exact .nil _ _
  · exact Rd.of_lies (hb g (ownB_pos hpos)) h2 ⟨fun j u hu => by rw [add_lit, Nat.zero_add]; exact h3 j u hu, h4.mono fun _ _ hh => hh.mono hF fun _ _ => rfl⟩
theorem OwnR.mono {w w' : World} {F F' : Nat → Prop} {v : Value} {c : RC} (h : OwnR w F v c) (hF : ∀ b, F b → F' b ∧ w'.heap[b]? = w.heap[b]?) (hb : ∀ b, (ownB v) = some b → w'.heap[b]? = w.heap[b]?) : OwnR w' F' v c := by
  obtain ⟨xs, h1, h2⟩ := h
  exact ⟨xs, h1.keep hb, h2.mono fun _ _ hh => hh.mono (fun b hb => (hF b hb).1) fun b hb => (hF b hb).2⟩
theorem OwnR.ex {w : World} {F : Nat → Prop} {v : Value} {c : RC} (h : OwnR w F v c) : (ownB v) = none ∨ ∃ b, (ownB v) = some b ∧ b < w.heap.size := by
  rcases h.cells with ⟨⟨x, rfl⟩, _⟩ | ⟨g, cap, xs, cur, rfl, ⟨_, hpos⟩, _, h3, _⟩
  · exact .inl (ownB_zero _ _)
  · exact .inr ⟨g, ownB_pos hpos, (Array.getElem?_eq_some_iff.1 h3).1⟩
/-- Headers of rows that are taken over: (name, value). -/
def Takes (w : World) (F : Nat → Prop) (B : List Nat) (vs : List Value) (cs : List Cm) (rs : List (Nat × Row)) (H : List (Nat × Value)) : Prop :=
  H.map (·.1) = rs.map (·.1) ∧ (H.filterMap (fun q => ownB q.2)).Sublist B ∧
  ∀ (G : Gh) (rows : List Row), (∀ b, F b → G.F b) → (∀ p ∈ H, G.hd p.1 = p.2 ∧ ∀ b, (ownB p.2) = some b → G.who b = .rw p.1) → (∀ b ∈ B, b ∉ H.filterMap (fun q => ownB q.2) → G.F b) → (∀ p ∈ rs, rows[p.1]? = some p.2) →
    F2 (CR w G rows) vs cs ∧ ∀ p ∈ rs, RowR w G p.1 p.2
theorem sub_not_mem {l l' B : List Nat} (h1 : l.Sublist B) (h : (B ++ l').Nodup) {b : Nat} (hb : b ∈ l') : b ∉ l := fun hl => (List.nodup_append.1 h).2.2 b (h1.subset hl) b hb rfl
theorem takes_cells {S : St} {w : World} {F : Nat → Prop} {ids : List Nat} {as : List AC} {cs : List Cm} {rs : List (Nat × Row)} {is : List Nat} (ho : OC S ids as cs rs is) :
    ∀ {vs : List Value} {B : List Nat}, ACs w F vs as B → B.Nodup → ∃ H, Takes w F B vs cs rs H := by
  induction ho with
  | nil ids =>
    intro vs B ha _
    cases vs with
    | nil => exact ⟨[], rfl, by simp, fun G rows _ _ _ _ => ⟨.nil, fun p hp => by cases hp⟩⟩
    | cons => exact ha.elim
  | @own id ids c as r cs rs is hr _ ih =>
    intro vs B ha hn
    cases vs with
    | nil => exact ha.elim
    | cons v vs =>
      obtain ⟨B1, B2, ⟨h1, hB1⟩, h2, rfl⟩ := ha
      obtain ⟨hn1, hn2, hdis⟩ := List.nodup_append.1 hn
      obtain ⟨H, hH1, hH2, hH3⟩ := ih h2 hn2
      have hfm : ((id, v) :: H).filterMap (fun q => ownB q.2) = (ownB v).toList ++ H.filterMap (fun q => ownB q.2) := by
        rw [List.filterMap_cons]; cases (ownB v) <;> simp
      refine ⟨(id, v) :: H, by simp [hH1], by rw [hfm, hB1]; exact List.Sublist.append (List.Sublist.refl _) hH2, fun G rows g1 g2 g3 g4 => ?_⟩
      obtain ⟨f1, f2⟩ := hH3 G rows g1 (fun p hp => g2 p (List.mem_cons_of_mem _ hp)) (fun b hb hnb => g3 b (List.mem_append_right _ hb) (by
        rw [hfm]
        intro hb2
        rcases List.mem_append.1 hb2 with h3 | h3
        · exact hdis b (by rw [hB1]; exact h3) b hb rfl
        · exact hnb h3)) (fun p hp => g4 p (List.mem_cons_of_mem _ hp))
      have hown : OwnR w G.F v c := h1.mono (fun b hb => ⟨g1 b hb, rfl⟩) fun _ _ => rfl
      have hh := g2 (id, v) (by simp)
      have h1c := slice_one v c _ hown
      refine ⟨.cons ⟨h1c.1, h1c.2, fun r1 hr1 => ?_⟩ f1, fun p hp => ?_⟩
      · rw [g4 (id, ⟨r.ep + 1, some c⟩) (by simp)] at hr1
        cases hr1
        exact ⟨Nat.le_refl _, fun _ _ => hh.1.symm⟩
      · rcases List.mem_cons.1 hp with rfl | hp
        · intro c' hc'
          cases hc'
          rw [hh.1]
          exact ⟨hown, hh.2⟩
        · exact f2 p hp
  | @dat ids x as cs rs is _ ih =>
    intro vs B ha hn
    cases vs with
    | nil => exact ha.elim
    | cons v vs =>
      obtain ⟨B1, B2, h1, h2, rfl⟩ := ha
      obtain ⟨hn1, hn2, hdis⟩ := List.nodup_append.1 hn
      obtain ⟨H, hH1, hH2, hH3⟩ := ih h2 hn2
      refine ⟨H, hH1, hH2.trans (List.sublist_append_right _ _), fun G rows g1 g2 g3 g4 => ?_⟩
      obtain ⟨f1, f2⟩ := hH3 G rows g1 g2 (fun b hb hnb => g3 b (List.mem_append_right _ hb) hnb) g4
      refine ⟨.cons ?_ f1, f2⟩
      cases x with
      | d y => exact h1.1.mono g1 fun _ _ => rfl
      | own c =>
        obtain ⟨h3, rfl⟩ := h1
        exact h3.data g1 fun b hb => g3 b (List.mem_append_left _ (by rw [hb]; simp)) fun hb2 => hdis b (by rw [hb]; simp) b (hH2.subset hb2) rfl
inductive RT (S : St) : List Nat → List Arg → List (Bool × List Cm) → List (Nat × Row) → Prop
  | nil (ids : List Nat) : RT S ids [] [] []
  | cons {ids is : List Nat} {g : Bool} {as : List AC} {rs : List Arg} {cs : List Cm} {r1 r2 : List (Nat × Row)} {l : List (Bool × List Cm)} : OC S ids as cs r1 is → RT S is rs l r2 → RT S ids (.v g as :: rs) ((g, cs) :: l) (r1 ++ r2)
theorem resT_spec {S : St} : ∀ {rs : List Arg} {ids : List Nat} {K : List (Bool × List Cm) → List (Nat × Row) → Prop}, resT S ids rs K → ∃ l rows, K l rows ∧ RT S ids rs l rows := by
  intro rs
  induction rs with
  | nil => intro ids K h; exact ⟨_, _, h, .nil _⟩
  | cons x rs ih =>
    intro ids K h
    cases x with
    | p cs => exact h.elim
    | v g cs =>
      simp only [resT] at h
      obtain ⟨ms, r1, is, h1, h2⟩ := ownCells_spec h
      obtain ⟨l, r2, h3, h4⟩ := ih h1
      exact ⟨_, _, h3, .cons h2 h4⟩
theorem ACs.len {w : World} {F : Nat → Prop} : ∀ {vs : List Value} {as : List AC} {B : List Nat}, ACs w F vs as B → vs.length = as.length
  | [], [], _, _ => rfl
  | _ :: _, _ :: _, _, h => by obtain ⟨_, _, _, h2, _⟩ := h; simp [ACs.len h2]
  | [], _ :: _, _, h => h.elim
  | _ :: _, [], _, h => h.elim
/-- Results, laid down. -/
def TakesV (w : World) (F : Nat → Prop) (B : List Nat) (vs : List Value) (l : List (Bool × List Cm)) (rs : List (Nat × Row)) (H : List (Nat × Value)) : Prop :=
  H.map (·.1) = rs.map (·.1) ∧ (H.filterMap (fun q => ownB q.2)).Sublist B ∧
  ∀ (G : Gh) (rows : List Row), (∀ b, F b → G.F b) → (∀ p ∈ H, G.hd p.1 = p.2 ∧ ∀ b, (ownB p.2) = some b → G.who b = .rw p.1) → (∀ b ∈ B, b ∉ H.filterMap (fun q => ownB q.2) → G.F b) → (∀ p ∈ rs, rows[p.1]? = some p.2) →
    F2 (fun v (p : Bool × List Cm) => VR w G rows v p.1 p.2) vs l ∧ ∀ p ∈ rs, RowR w G p.1 p.2
theorem takes_args {S : St} {w : World} {F : Nat → Prop} {ids : List Nat} {as : List Arg} {l : List (Bool × List Cm)} {rs : List (Nat × Row)} (ho : RT S ids as l rs) :
    ∀ {vs : List Value} {B hb : List Nat}, ArgsR w F vs as B hb → B.Nodup → hb = [] ∧ ∃ H, TakesV w F B vs l rs H := by
  induction ho with
  | nil ids =>
    intro vs B hb ha _
    cases vs with
    | nil => obtain ⟨rfl, rfl⟩ := ha; exact ⟨rfl, [], rfl, by simp, fun G rows _ _ _ _ => ⟨.nil, fun p hp => by cases hp⟩⟩
    | cons => exact ha.elim
  | @cons ids is g as rs cs r1 r2 l hoc _ ih =>
    intro vs B hb ha hn
    cases vs with
    | nil => exact ha.elim
    | cons v vs =>
      obtain ⟨B1, B2, h1, h2, ⟨xs, hv, _, hx1, hx2, rfl⟩, ha2, rfl, rfl⟩ := ha
      obtain ⟨hn1, hn2, hdis⟩ := List.nodup_append.1 hn
      obtain ⟨hb0, H2, q1, q2, q3⟩ := ih ha2 hn2
      subst hb0
      obtain ⟨H1, p1, p2, p3⟩ := takes_cells hoc hx2 hn1
      refine ⟨rfl, H1 ++ H2, by simp [p1, q1], by rw [List.filterMap_append]; exact List.Sublist.append p2 q2, fun G rows g1 g2 g3 g4 => ?_⟩
      obtain ⟨f1, f2⟩ := p3 G rows g1 (fun p hp => g2 p (List.mem_append_left _ hp)) (fun b hb hnb => g3 b (List.mem_append_left _ hb) (by
        rw [List.filterMap_append]
        intro hb2
        rcases List.mem_append.1 hb2 with h3 | h3
        · exact hnb h3
        · exact hdis b hb b (q2.subset h3) rfl)) (fun p hp => g4 p (List.mem_append_left _ hp))
      obtain ⟨f3, f4⟩ := q3 G rows g1 (fun p hp => g2 p (List.mem_append_right _ hp)) (fun b hb hnb => g3 b (List.mem_append_right _ hb) (by
        rw [List.filterMap_append]
        intro hb2
        rcases List.mem_append.1 hb2 with h3 | h3
        · exact hdis b (p2.subset h3) b hb rfl
        · exact hnb h3)) (fun p hp => g4 p (List.mem_append_right _ hp))
      refine ⟨.cons ?_ f3, fun p hp => ?_⟩
      · rw [hv]; exact VR.mk f1 hx1
      · rcases List.mem_append.1 hp with hp | hp
        · exact f2 p hp
        · exact f4 p hp
end Go.Proofs.YtlapeiijghebjaaE

/- What is handed over; who owns what behind a call. Conditions: none. -/
set_option linter.unusedVariables false
namespace Go.Proofs.YtlapeiijghebjaaE
open Go Go.RowKit
theorem fold_len {α : Type} : ∀ (l : List (Nat × α)) (r : List α), (l.foldl (fun r p => r.set p.1 p.2) r).length = r.length
  | [], r => rfl
  | p :: l, r => by rw [List.foldl_cons, fold_len l]; simp
theorem fold_get {α : Type} : ∀ (l : List (Nat × α)) (r : List α) (i : Nat) (y : α), (l.foldl (fun r p => r.set p.1 p.2) r)[i]? = some y → (∃ p ∈ l, p.1 = i ∧ p.2 = y) ∨ ((∀ p ∈ l, p.1 ≠ i) ∧ r[i]? = some y)
  | [], r, i, y, h => .inr ⟨fun p hp => (by cases hp), h⟩
  | p :: l, r, i, y, h => by
    rw [List.foldl_cons] at h
    rcases fold_get l _ i y h with ⟨q, hq, h1, h2⟩ | ⟨h1, h2⟩
    · exact .inl ⟨q, List.mem_cons_of_mem _ hq, h1, h2⟩
    · rcases set_get h2 with ⟨e1, e2, _⟩ | ⟨e1, e2⟩
      · exact .inl ⟨p, by simp, e1, e2.symm⟩
      · refine .inr ⟨fun q hq => ?_, e2⟩
        rcases List.mem_cons.1 hq with rfl | hq
        · exact e1
        · exact h1 q hq
theorem fold_mem {α : Type} : ∀ (l : List (Nat × α)) (r : List α), (l.map (·.1)).Nodup → ∀ p ∈ l, p.1 < r.length → (l.foldl (fun r p => r.set p.1 p.2) r)[p.1]? = some p.2
  | [], r, _, p, hp, _ => by cases hp
  | q :: l, r, hn, p, hp, hl => by
    rw [List.map_cons, List.nodup_cons] at hn
    rw [List.foldl_cons]
    rcases List.mem_cons.1 hp with rfl | hp
    · have key : ∀ (l : List (Nat × α)) (r : List α), p.1 ∉ l.map (·.1) → r[p.1]? = some p.2 → (l.foldl (fun r p => r.set p.1 p.2) r)[p.1]? = some p.2 := by
        intro l
        induction l with
        | nil => intro r _ h; exact h
        | cons x l ih =>
          intro r hx h
          rw [List.map_cons, List.mem_cons, not_or] at hx
          rw [List.foldl_cons]
          exact ih _ hx.2 (by rw [List.getElem?_set_ne (fun e => hx.1 e.symm)]; exact h)
      exact key l _ hn.1 (by rw [List.getElem?_set_self hl])
    · exact fold_mem l _ hn.2 p hp (by simpa using hl)
theorem nodupB_spec : ∀ {l : List Nat}, nodupB l = true → l.Nodup
  | [], _ => List.nodup_nil
  | x :: l, h => by
    simp only [nodupB, Bool.and_eq_true, Bool.not_eq_true', List.any_eq_false, beq_iff_eq] at h
    exact List.nodup_cons.2 ⟨fun hm => h.1 x hm rfl, nodupB_spec h.2⟩
theorem find_key {α β : Type} [DecidableEq β] (f : α → Option β) : ∀ (l : List α), (l.filterMap f).Nodup → ∀ x ∈ l, ∀ b, f x = some b → l.find? (fun y => f y == some b) = some x
  | [], _, x, hx, _, _ => by cases hx
  | y :: l, hn, x, hx, b, hb => by
    rw [List.find?_cons]
    by_cases hy : f y = some b
    · rw [show (f y == some b) = true by simp [hy]]
      rcases List.mem_cons.1 hx with rfl | hx
      · rfl
      · rw [List.filterMap_cons, hy] at hn
        exact absurd (List.mem_filterMap.2 ⟨x, hx, hb⟩) (List.nodup_cons.1 hn).1
    · rw [show (f y == some b) = false by simp [hy]]
      rcases List.mem_cons.1 hx with rfl | hx
      · exact absurd hb hy
      · refine find_key f l ?_ x hx b hb
        rw [List.filterMap_cons] at hn
        cases hf : f y with
        | none => rw [hf] at hn; exact hn
        | some z => rw [hf] at hn; exact (List.nodup_cons.1 hn).2
theorem find_block {H : List (Nat × Value)} (hn : (H.filterMap (fun q => ownB q.2)).Nodup) {p : Nat × Value} (hp : p ∈ H) {b : Nat} (hb : (ownB p.2) = some b) : H.find? (fun q => (ownB q.2) == some b) = some p :=
  find_key (fun q : Nat × Value => (ownB q.2)) H hn p hp b hb
theorem find_block_none {H : List (Nat × Value)} {b : Nat} (h : b ∉ H.filterMap (fun q => ownB q.2)) : H.find? (fun q => (ownB q.2) == some b) = none := by
  rw [List.find?_eq_none]
  intro p hp hb
  exact h (List.mem_filterMap.2 ⟨p, hp, by simpa using hb⟩)
theorem find_name {H : List (Nat × Value)} (hn : (H.map (·.1)).Nodup) {p : Nat × Value} (hp : p ∈ H) : H.find? (fun q => q.1 == p.1) = some p := by
  have := find_key (fun q : Nat × Value => some q.1) H (by rw [List.filterMap_eq_map']; exact hn) p hp p.1 rfl
  simpa using this
theorem find_name_none {H : List (Nat × Value)} {id : Nat} (h : id ∉ H.map (·.1)) : H.find? (fun q => q.1 == id) = none := by
  rw [List.find?_eq_none]
  intro p hp hb
  exact h (List.mem_map.2 ⟨p, hp, by simpa using hb⟩)
section
variable {V : Env} {w0 : World} {prot : Pro} {S : St} {G : Gh} {a : Act} {w : World}
/-- The blocks of rows lent count as data. -/
def lent (G : Gh) (ls : List Nat) : Nat → Prop := fun b => G.who b = .fz ∨ ∃ id ∈ ls, G.who b = .rw id
theorem argCells_ok (h : Inv w0 prot S G a w) (own : List (Nat × Nat)) (j : Nat) (L : List Nat) : ∀ {cs : List Cm} {xs : List Value} {i : Nat} {as : List AC} {ls gs : List Nat}, F2 (CR w G S.rows) xs cs → argCells S own j i cs = some (as, ls, gs) → (∀ id ∈ ls, id ∈ L) →
    ∃ B, ACs w (lent G L) xs as B ∧ (∀ b ∈ B, ∃ id ∈ gs, G.who b = .rw id) ∧ (gs.Nodup → B.Nodup) ∧ (∀ id ∈ gs, ∃ r c, S.rows[id]? = some r ∧ r.c = some c) ∧ ∀ id ∈ ls, ∃ r c, S.rows[id]? = some r ∧ r.c = some c := by
  intro cs
  induction cs with
  | nil =>
    intro xs i as ls gs hf ha _
    cases hf
    simp only [argCells, Option.some.injEq, Prod.mk.injEq] at ha
    obtain ⟨rfl, rfl, rfl⟩ := ha
    exact ⟨[], rfl, fun b hb => (by cases hb), fun _ => List.nodup_nil, fun _ h => (by cases h), fun _ h => (by cases h)⟩
  | cons c cs ih =>
    intro xs i as ls gs hf ha hL
    cases hf with
    | @cons v _ xs _ hv hf =>
      simp only [argCells] at ha
      split at ha
      · simp at ha
      · rename_i as' ls' gs' ha'
        cases c with
        | d x =>
          simp only at ha
          split at ha
          · simp at ha
          · cases ha
            obtain ⟨B, h1, h2, h3, h4, h5⟩ := ih hf ha' hL
            exact ⟨B, ⟨[], B, ⟨hv.mono (fun b hb => .inl hb) fun _ _ => rfl, rfl⟩, h1, rfl⟩, h2, h3, h4, h5⟩
        | dead => simp at ha
        | ref id ep =>
          simp only at ha
          split at ha
          · rename_i c hc
            obtain ⟨r, hr, he, hrc⟩ := live_spec hc
            have hvh := (hv.2.2 r hr).2 he (by simp [hrc])
            obtain ⟨hown, htag⟩ := h.row id r hr c hrc
            rw [← hvh] at hown htag
            split at ha
            · cases ha
              obtain ⟨B, h1, h2, h3, h4, h5⟩ := ih hf ha' hL
              refine ⟨(ownB v).toList ++ B, ⟨(ownB v).toList, B, ⟨hown.mono (fun b hb => ⟨.inl hb, rfl⟩) fun _ _ => rfl, rfl⟩, h1, rfl⟩, fun b hb => ?_, fun hn => ?_, fun i hi => ?_, h5⟩
              · rcases List.mem_append.1 hb with hb | hb
                · exact ⟨id, by simp, htag b (by simpa using hb)⟩
                · obtain ⟨i, hi, hw⟩ := h2 b hb; exact ⟨i, by simp [hi], hw⟩
              · obtain ⟨hn1, hn2⟩ := List.nodup_cons.1 hn
                refine List.nodup_append.2 ⟨by cases (ownB v) <;> simp, h3 hn2, fun b hb b' hb' e => ?_⟩
                subst e
                obtain ⟨i, hi, hw⟩ := h2 b hb'
                rw [htag b (by simpa using hb)] at hw
                cases hw
                exact hn1 hi
              · rcases List.mem_cons.1 hi with rfl | hi
                · exact ⟨r, c, hr, hrc⟩
                · exact h4 i hi
            · cases ha
              obtain ⟨B, h1, h2, h3, h4, h5⟩ := ih hf ha' fun i hi => hL i (by simp [hi])
              refine ⟨B, ⟨[], B, ⟨hown.data (fun b hb => .inl hb) fun b hb => .inr ⟨id, hL id (by simp), htag b hb⟩, rfl⟩, h1, rfl⟩, h2, h3, h4, fun i hi => ?_⟩
              rcases List.mem_cons.1 hi with rfl | hi
              · exact ⟨r, c, hr, hrc⟩
              · exact h5 i hi
          · simp at ha
theorem argsT_ok (h : Inv w0 prot S G a w) (own : List (Nat × Nat)) (L : List Nat) : ∀ {ts : List T} {vs : List Value} {j : Nat} {as : List Arg} {ls gs : List Nat} {bs : List (Nat × Nat)}, F2 (TR w G S.rows S.boxes) vs ts → argsT S own j ts = some (as, ls, gs, bs) → (∀ id ∈ ls, id ∈ L) →
    ∃ B hb, ArgsR w (lent G L) vs as B hb ∧ hb = bs.map (fun p => G.bk p.1) ∧ (∀ b ∈ B, (∃ id ∈ gs, G.who b = .rw id) ∨ b ∈ hb) ∧ (∀ b ∈ hb, b ∈ B) ∧ (gs.Nodup → (bs.map (·.1)).Nodup → B.Nodup) ∧
      (∀ id ∈ gs, ∃ r c, S.rows[id]? = some r ∧ r.c = some c) ∧ (∀ id ∈ ls, ∃ r c, S.rows[id]? = some r ∧ r.c = some c) ∧ ∀ p ∈ bs, ∃ cs, S.box p.1 p.2 = some cs ∧ G.who (G.bk p.1) = .bx p.1 := by
  intro ts
  induction ts with
  | nil =>
    intro vs j as ls gs bs hf ha _
    cases hf
    simp only [argsT, Option.some.injEq, Prod.mk.injEq] at ha
    obtain ⟨rfl, rfl, rfl, rfl⟩ := ha
    exact ⟨[], [], ⟨rfl, rfl⟩, rfl, fun _ h => (by cases h), fun _ h => (by cases h), fun _ _ => List.nodup_nil, fun _ h => (by cases h), fun _ h => (by cases h), fun _ h => (by cases h)⟩
  | cons t ts ih =>
    intro vs j as ls gs bs hf ha hL
    cases hf with
    | @cons v _ vs _ hv hf =>
      simp only [argsT] at ha
      split at ha
      · simp at ha
      · rename_i as' ls' gs' bs' ha'
        split at ha
        · rename_i g cs
          split at ha
          · rename_i x l m hx
            cases ha
            obtain ⟨B2, hb2, p1, p2, p3, p4, p5, p6, p7, p8⟩ := ih hf ha' fun i hi => hL i (by simp [hi])
            obtain ⟨xs, q1, q2, q3, q4⟩ := VR.open hv
            obtain ⟨B1, r1, r2, r3, r4, r5⟩ := argCells_ok h own j L q2 hx fun i hi => hL i (by simp [hi])
            refine ⟨B1 ++ B2, hb2, ⟨B1, B2, [], hb2, ⟨xs, q1, q3, q4, r1, rfl⟩, p1, rfl, rfl⟩, p2, fun b hb => ?_, fun b hb => List.mem_append_right _ (p4 b hb), fun n1 n2 => ?_, fun i hi => ?_, fun i hi => ?_, p8⟩
            · rcases List.mem_append.1 hb with hb | hb
              · obtain ⟨i, hi, hw⟩ := r2 b hb; exact .inl ⟨i, by simp [hi], hw⟩
              · rcases p3 b hb with ⟨i, hi, hw⟩ | hb
                · exact .inl ⟨i, by simp [hi], hw⟩
                · exact .inr hb
            · obtain ⟨n3, n4, n5⟩ := List.nodup_append.1 n1
              refine List.nodup_append.2 ⟨r3 n3, p5 n4 n2, fun b hb b' hb' e => ?_⟩
              subst e
              obtain ⟨i, hi, hw⟩ := r2 b hb
              rcases p3 b hb' with ⟨i', hi', hw'⟩ | hb'
              · rw [hw] at hw'; cases hw'; exact n5 i hi i hi' rfl
              · rw [p2] at hb'
                obtain ⟨p, hp, rfl⟩ := List.mem_map.1 hb'
                obtain ⟨_, _, hw'⟩ := p8 p hp
                rw [hw] at hw'; simp at hw'
            · rcases List.mem_append.1 hi with hi | hi
              · exact r4 i hi
              · exact p6 i hi
            · rcases List.mem_append.1 hi with hi | hi
              · exact r5 i hi
              · exact p7 i hi
          · simp at ha
        · rename_i b ep
          split at ha
          · rename_i cs hcs
            split at ha
            · rename_i x l m hx
              cases ha
              obtain ⟨B2, hb2, p1, p2, p3, p4, p5, p6, p7, p8⟩ := ih hf ha' fun i hi => hL i (by simp [hi])
              obtain ⟨BB, hB, he, hc⟩ := box_spec hcs
              have hvv := (hv BB hB).2 he (by simp [hc])
              obtain ⟨hw, arr, ty, hh, q2⟩ := h.box b BB hB cs hc
              obtain ⟨B1, r1, r2, r3, r4, r5⟩ := argCells_ok h own j L q2 hx fun i hi => hL i (by simp [hi])
              refine ⟨(G.bk b :: B1) ++ B2, G.bk b :: hb2, ⟨G.bk b :: B1, B2, [G.bk b], hb2, ⟨G.bk b, arr, ty, B1, hvv, hh, r1, rfl, rfl⟩, p1, rfl, rfl⟩, by simp [p2], fun b' hb => ?_, fun b' hb => ?_, fun n1 n2 => ?_, fun i hi => ?_, fun i hi => ?_, fun p hp => ?_⟩
              · rcases List.mem_append.1 hb with hb | hb
                · rcases List.mem_cons.1 hb with rfl | hb
                  · exact .inr (by simp)
                  · obtain ⟨i, hi, hw⟩ := r2 b' hb; exact .inl ⟨i, by simp [hi], hw⟩
                · rcases p3 b' hb with ⟨i, hi, hw⟩ | hb
                  · exact .inl ⟨i, by simp [hi], hw⟩
                  · exact .inr (by simp [hb])
              · rcases List.mem_cons.1 hb with rfl | hb
                · simp
                · exact List.mem_append_right _ (p4 b' hb)
              · obtain ⟨n3, n4, n5⟩ := List.nodup_append.1 n1
                rw [List.map_cons, List.nodup_cons] at n2
                have boxOut : G.bk b ∉ B2 := by
                  intro hb
                  rcases p3 _ hb with ⟨i, hi, hw'⟩ | hb
                  · rw [hw] at hw'; simp at hw'
                  · rw [p2] at hb
                    obtain ⟨p, hp, hpe⟩ := List.mem_map.1 hb
                    obtain ⟨_, _, hw'⟩ := p8 p hp
                    rw [hpe, hw] at hw'
                    cases hw'
                    exact n2.1 (List.mem_map.2 ⟨p, hp, rfl⟩)
                refine List.nodup_append.2 ⟨List.nodup_cons.2 ⟨fun hb => ?_, r3 n3⟩, p5 n4 n2.2, fun b1 hb b' hb' e => ?_⟩
                · obtain ⟨i, hi, hw'⟩ := r2 _ hb
                  rw [hw] at hw'; simp at hw'
                · subst e
                  rcases List.mem_cons.1 hb with rfl | hb
                  · exact boxOut hb'
                  · obtain ⟨i, hi, hw'⟩ := r2 b1 hb
                    rcases p3 b1 hb' with ⟨i', hi', hw2⟩ | hb'
                    · rw [hw'] at hw2; cases hw2; exact n5 i hi i hi' rfl
                    · rw [p2] at hb'
                      obtain ⟨p, hp, rfl⟩ := List.mem_map.1 hb'
                      obtain ⟨_, _, hw2⟩ := p8 p hp
                      rw [hw'] at hw2; simp at hw2
              · rcases List.mem_append.1 hi with hi | hi
                · exact r4 i hi
                · exact p6 i hi
              · rcases List.mem_append.1 hi with hi | hi
                · exact r5 i hi
                · exact p7 i hi
              · rcases List.mem_cons.1 hp with rfl | hp
                · exact ⟨cs, hcs, hw⟩
                · exact p8 p hp
            · simp at ha
          · simp at ha
        · simp at ha
end
end Go.Proofs.YtlapeiijghebjaaE

/- The state behind a call. Conditions: none. -/
set_option linter.unusedVariables false
namespace Go.Proofs.YtlapeiijghebjaaE
open Go Go.RowKit
open Classical in
noncomputable def callGh (G : Gh) (H : List (Nat × Value)) (np : Option (Nat × Nat)) (Fr : Nat → Prop) (B : List Nat) (D : List Nat) : Gh where
  who b := if (∃ x, G.who b = .bx x) then G.who b else match H.find? (fun q => (ownB q.2) == some b) with
    | some p => .rw p.1
    | none => if (∃ x0, np = some (b, x0)) then (match np with | some (_, x0) => .bx x0 | none => .ot)
      else if Fr b ∨ b ∈ B then .fz else if (∃ id ∈ D, G.who b = .rw id) then .ot else G.who b
  bk x := match np with
    | some (b0, x0) => if x = x0 then b0 else G.bk x
    | none => G.bk x
  hd id := match H.find? (fun q => q.1 == id) with
    | some p => p.2
    | none => G.hd id
theorem deads_spec {S : St} : ∀ {D : List Nat} {p : Nat × Row}, p ∈ deads S D → p.2.c = none ∧ p.1 ∈ D ∧ ∃ r, S.rows[p.1]? = some r ∧ p.2.ep = r.ep + 1
  | [], p, h => by cases h
  | id :: D, p, h => by
    simp only [deads] at h
    split at h
    · rename_i r hr
      rcases List.mem_cons.1 h with rfl | h
      · exact ⟨rfl, by simp, r, hr, rfl⟩
      · obtain ⟨h1, h2, h3⟩ := deads_spec h; exact ⟨h1, by simp [h2], h3⟩
    · obtain ⟨h1, h2, h3⟩ := deads_spec h; exact ⟨h1, by simp [h2], h3⟩
theorem deads_mem {S : St} : ∀ {D : List Nat} {id : Nat} {r : Row}, id ∈ D → S.rows[id]? = some r → (id, (⟨r.ep + 1, none⟩ : Row)) ∈ deads S D
  | [], _, _, h, _ => by cases h
  | i :: D, id, r, h, hr => by
    simp only [deads]
    rcases List.mem_cons.1 h with rfl | h
    · rw [hr]; simp
    · split
      · exact List.mem_cons_of_mem _ (deads_mem h hr)
      · exact deads_mem h hr
structure Back (w0 : World) (prot : Pro) (S : St) (G : Gh) (a : Act) (w w' : World) (H : List (Nat × Value)) (np : Option (Nat × Nat)) (Fr : Nat → Prop) (B hb D : List Nat) (bs : List (Nat × Nat)) (G' : Gh) (rows' : List Row) (boxes' : List Box)
    (rows : List (Nat × Row)) (bx : List (Nat × Box)) : Prop where
  keeps : Keeps w G S.rows S.boxes w' G' rows' boxes'
  inv : ∀ d v t, TR w' G' rows' boxes' v t → (∀ p ∈ rows, RowR w' G' p.1 p.2) → (∀ p ∈ bx, ∀ cs, p.2.c = some cs → BoxR w' G' rows' p.1 cs) → Inv w0 prot ⟨setD d t S.slots, rows', boxes'⟩ G' (a.put d v) w'
  fr : ∀ b, Fr b → G'.F b
  hd : ∀ p ∈ H, G'.hd p.1 = p.2 ∧ ∀ b, (ownB p.2) = some b → G'.who b = .rw p.1
  rest : ∀ b ∈ B, b ∉ hb → b ∉ H.filterMap (fun q => ownB q.2) → (∀ x0, np ≠ some (b, x0)) → G'.F b
  rows : ∀ p ∈ rows, rows'[p.1]? = some p.2
  box : ∀ p ∈ bs, G'.bk p.1 = G.bk p.1 ∧ G'.who (G.bk p.1) = .bx p.1
  np : ∀ b0 x0, np = some (b0, x0) → G'.bk x0 = b0 ∧ G'.who b0 = .bx x0
open Classical in
theorem call_core {w0 : World} {prot : Pro} {S : St} {G : Gh} {a : Act} {w w' : World} (h : Inv w0 prot S G a w) (Fr : Nat → Prop) (B hb D : List Nat) (bs : List (Nat × Nat)) (H : List (Nat × Value)) (np : Option (Nat × Nat)) (rows : List (Nat × Row)) (bx : List (Nat × Box))
    (hFr1 : ∀ b, G.F b → Fr b) (hFr2 : ∀ b, Fr b → b < w'.heap.size ∧ (G.F b ∨ (∃ id ∈ D, G.who b = .rw id) ∨ w.heap.size ≤ b))
    (hBf : ∀ b ∈ B, ¬ Fr b ∧ b < w'.heap.size ∧ ((∃ id ∈ D, G.who b = .rw id) ∨ b ∈ hb ∨ w.heap.size ≤ b))
    (hhb : hb = bs.map fun p => G.bk p.1) (hbl : ∀ p ∈ bs, ∃ cs, S.box p.1 p.2 = some cs ∧ G.who (G.bk p.1) = .bx p.1)
    (hkp : w'.os = w.os ∧ w'.tape = w.tape ∧ w'.output = w.output ∧ w.heap.size ≤ w'.heap.size) (hsame : ∀ b, b < w.heap.size → (∀ id ∈ D, G.who b ≠ .rw id) → b ∉ hb → w'.heap[b]? = w.heap[b]?)
    (hD : ∀ id ∈ D, ∃ r c, S.rows[id]? = some r ∧ r.c = some c)
    (hH1 : H.map (·.1) = rows.map (·.1)) (hH2 : (rows.map (·.1)).Nodup) (hH3 : (H.filterMap (fun q => ownB q.2)).Nodup) (hH4 : ∀ b ∈ H.filterMap (fun q => ownB q.2), b ∈ B ∧ b ∉ hb)
    (hrows : ∀ p ∈ rows, ∃ r, S.rows[p.1]? = some r ∧ p.2.ep = r.ep + 1)
    (hnp : ∀ b0 x0, np = some (b0, x0) → b0 ∈ B ∧ b0 ∉ hb ∧ b0 ∉ H.filterMap (fun q => ownB q.2) ∧ ∃ Bx, S.boxes[x0]? = some Bx ∧ x0 ∉ bs.map (·.1) ∧ x0 ∈ bx.map (·.1) ∧ ∀ q ∈ bx, q.1 = x0 → q.2.ep = Bx.ep + 1)
    (hbx : ∀ q ∈ bx, (∃ p ∈ bs, q.1 = p.1 ∧ q.2.ep = p.2 ∧ q.2.c.isSome = true) ∨ ∃ b0, np = some (b0, q.1)) (hbs : ∀ p ∈ bs, p.1 ∈ bx.map (·.1)) :
    ∃ G', Back w0 prot S G a w w' H np Fr B hb D bs G' ((deads S D ++ rows).foldl (fun r p => r.set p.1 p.2) S.rows) (bx.foldl (fun r p => r.set p.1 p.2) S.boxes) rows bx := by
  let G' := callGh G H np Fr B D
  -- who is who
  have who_bx : ∀ b x, G.who b = .bx x → G'.who b = .bx x := fun b x hx => by
    show (if _ then _ else _) = _
    rw [if_pos ⟨x, hx⟩, hx]
  have bx_hb : ∀ b ∈ B, ∀ x, G.who b = .bx x → b ∈ hb := fun b hb0 x hx => by
    rcases (hBf b hb0).2.2 with ⟨id, _, h1⟩ | h1 | h1
    · rw [hx] at h1; simp at h1
    · exact h1
    · rw [h.who_new h1] at hx; simp at hx
  have who_H : ∀ p ∈ H, ∀ b, (ownB p.2) = some b → G'.who b = .rw p.1 := fun p hp b hb0 => by
    have hm : b ∈ H.filterMap (fun q => ownB q.2) := List.mem_filterMap.2 ⟨p, hp, hb0⟩
    have hnb : ¬ ∃ x, G.who b = .bx x := fun ⟨x, hx⟩ => (hH4 b hm).2 (bx_hb b (hH4 b hm).1 x hx)
    show (if _ then _ else _) = _
    rw [if_neg hnb, find_block hH3 hp hb0]
  have who_np : ∀ b0 x0, np = some (b0, x0) → G'.who b0 = .bx x0 := fun b0 x0 hn => by
    obtain ⟨h1, h2, h3, _⟩ := hnp b0 x0 hn
    have hnb : ¬ ∃ x, G.who b0 = .bx x := fun ⟨x, hx⟩ => h2 (bx_hb b0 h1 x hx)
    show (if _ then _ else _) = _
    rw [if_neg hnb, find_block_none h3]
    dsimp only
    rw [if_pos ⟨x0, hn⟩, hn]
  have who_fz : ∀ b, (¬ ∃ x, G.who b = .bx x) → b ∉ H.filterMap (fun q => ownB q.2) → (∀ x0, np ≠ some (b, x0)) → (Fr b ∨ b ∈ B) → G'.who b = .fz := fun b h1 h2 h3 h4 => by
    show (if _ then _ else _) = _
    rw [if_neg h1, find_block_none h2]
    dsimp only
    rw [if_neg (fun ⟨x0, hx⟩ => h3 x0 hx), if_pos h4]
  have fr_notB : ∀ b, Fr b → b ∉ B := fun b hb0 hB => (hBf b hB).1 hb0
  have fr_notbx : ∀ b, Fr b → ¬ ∃ x, G.who b = .bx x := fun b hb0 ⟨x, hx⟩ => by
    rcases (hFr2 b hb0).2 with h1 | ⟨id, _, h1⟩ | h1
    · have h1' : G.who b = .fz := h1
      rw [hx] at h1'; simp at h1'
    · rw [hx] at h1; simp at h1
    · rw [h.who_new h1] at hx; simp at hx
  have fr : ∀ b, Fr b → G'.who b = .fz := fun b hb0 =>
    who_fz b (fr_notbx b hb0) (fun hm => fr_notB b hb0 (hH4 b hm).1) (fun x0 hx => fr_notB b hb0 (hnp b x0 hx).1) (.inl hb0)
  have who_old : ∀ b, b < w.heap.size → (∀ id ∈ D, G.who b ≠ .rw id) → G.who b ≠ .fz → (¬ ∃ x, G.who b = .bx x) → G'.who b = G.who b := fun b hlt hd hf hx => by
    have hnB : b ∉ B := fun hB => by
      rcases (hBf b hB).2.2 with ⟨id, h1, h2⟩ | h1 | h1
      · exact hd id h1 h2
      · rw [hhb] at h1
        obtain ⟨p, hp, rfl⟩ := List.mem_map.1 h1
        obtain ⟨_, _, h2⟩ := hbl p hp
        exact hx ⟨_, h2⟩
      · omega
    have hnF : ¬ Fr b := fun hF => by
      rcases (hFr2 b hF).2 with h1 | ⟨id, h1, h2⟩ | h1
      · exact hf h1
      · exact hd id h1 h2
      · omega
    show (if _ then _ else _) = _
    rw [if_neg hx, find_block_none fun hm => hnB (hH4 b hm).1]
    dsimp only
    rw [if_neg (fun ⟨x0, hx0⟩ => hnB (hnp b x0 hx0).1), if_neg (fun hc => hc.elim hnF hnB), if_neg (fun ⟨id, h1, h2⟩ => hd id h1 h2)]
  have hd_H : ∀ p ∈ H, G'.hd p.1 = p.2 := fun p hp => by
    show (match H.find? (fun q => q.1 == p.1) with | some p => p.2 | none => _) = _
    rw [find_name (by rw [hH1]; exact hH2) hp]
  have hd_old : ∀ id, id ∉ rows.map (·.1) → G'.hd id = G.hd id := fun id hi => by
    show (match H.find? (fun q => q.1 == id) with | some p => p.2 | none => _) = _
    rw [find_name_none (by rw [hH1]; exact hi)]
  have bk_old : ∀ x, (∀ b0, np ≠ some (b0, x)) → G'.bk x = G.bk x := fun x hx => by
    show (match np with | some (b0, x0) => if x = x0 then b0 else G.bk x | none => G.bk x) = _
    cases hn : np with
    | none => rfl
    | some q => obtain ⟨b0, x0⟩ := q; exact if_neg fun e => hx b0 (by rw [hn, e])
  have bk_np : ∀ b0 x0, np = some (b0, x0) → G'.bk x0 = b0 := fun b0 x0 hn => by
    show (match np with | some (b0, x1) => if x0 = x1 then b0 else G.bk x0 | none => G.bk x0) = _
    rw [hn]; exact if_pos rfl
  have fz_same : ∀ b, G.who b = .fz → w'.heap[b]? = w.heap[b]? := fun b hb0 => hsame b (h.lt b (by rw [hb0]; simp)) (fun id _ => by rw [hb0]; simp) fun hm => by
    rw [hhb] at hm
    obtain ⟨p, hp, rfl⟩ := List.mem_map.1 hm
    obtain ⟨_, _, h2⟩ := hbl p hp
    rw [hb0] at h2; simp at h2
  have rw_same : ∀ b id, G.who b = .rw id → id ∉ D → w'.heap[b]? = w.heap[b]? ∧ G'.who b = .rw id := fun b id hb0 hi => by
    have hlt := h.lt b (by rw [hb0]; simp)
    have hd : ∀ i ∈ D, G.who b ≠ .rw i := fun i hiD e => by rw [hb0] at e; cases e; exact hi hiD
    refine ⟨hsame b hlt hd fun hm => ?_, by rw [who_old b hlt hd (by rw [hb0]; simp) (by rw [hb0]; simp), hb0]⟩
    rw [hhb] at hm
    obtain ⟨p, hp, rfl⟩ := List.mem_map.1 hm
    obtain ⟨_, _, h2⟩ := hbl p hp
    rw [hb0] at h2; simp at h2
  have bx_same : ∀ b x, G.who b = .bx x → x ∉ bs.map (·.1) → w'.heap[b]? = w.heap[b]? := fun b x hb0 hx => hsame b (h.lt b (by rw [hb0]; simp)) (fun id _ => by rw [hb0]; simp) fun hm => by
    rw [hhb] at hm
    obtain ⟨p, hp, rfl⟩ := List.mem_map.1 hm
    obtain ⟨_, _, h2⟩ := hbl p hp
    rw [hb0] at h2
    cases h2
    exact hx (List.mem_map.2 ⟨p, hp, rfl⟩)
  have row_get : ∀ id r', ((deads S D ++ rows).foldl (fun r p => r.set p.1 p.2) S.rows)[id]? = some r' →
      (∃ p ∈ rows, p.1 = id ∧ p.2 = r') ∨ (∃ r, S.rows[id]? = some r ∧ r'.c = none ∧ r'.ep = r.ep + 1) ∨ (id ∉ D ∧ id ∉ rows.map (·.1) ∧ S.rows[id]? = some r') := by
    intro id r' hr'
    rw [List.foldl_append] at hr'
    rcases fold_get _ _ _ _ hr' with ⟨p, hp, h1, h2⟩ | ⟨h1, h2⟩
    · exact .inl ⟨p, hp, h1, h2⟩
    · rcases fold_get _ _ _ _ h2 with ⟨p, hp, h3, h4⟩ | ⟨h3, h4⟩
      · obtain ⟨q1, _, r, q2, q3⟩ := deads_spec hp
        subst h3; subst h4
        exact .inr (.inl ⟨r, q2, q1, q3⟩)
      · refine .inr (.inr ⟨fun hi => ?_, fun hi => ?_, h4⟩)
        · exact h3 _ (deads_mem hi h4) rfl
        · obtain ⟨p, hp, h5⟩ := List.mem_map.1 hi
          exact h1 p hp h5
  have hrow' : ∀ p ∈ rows, ((deads S D ++ rows).foldl (fun r p => r.set p.1 p.2) S.rows)[p.1]? = some p.2 := by
    intro p hp
    rw [List.foldl_append]
    obtain ⟨r, hr, _⟩ := hrows p hp
    exact fold_mem rows _ hH2 p hp (by rw [fold_len]; exact (List.getElem?_eq_some_iff.1 hr).1)
  have keeps : Keeps w G S.rows S.boxes w' G' ((deads S D ++ rows).foldl (fun r p => r.set p.1 p.2) S.rows) (bx.foldl (fun r p => r.set p.1 p.2) S.boxes) := by
    refine ⟨fun b hb0 => ⟨fr b (hFr1 b hb0), fz_same b hb0⟩, fun id r' hr' => ?_, fun x B' hB' => ?_⟩
    · rcases row_get id r' hr' with ⟨p, hp, rfl, rfl⟩ | ⟨r, hr, h1, h2⟩ | ⟨h1, h2, h3⟩
      · obtain ⟨r, hr, he⟩ := hrows p hp
        exact ⟨r, hr, by omega, fun e => by omega⟩
      · exact ⟨r, hr, by omega, fun e => by omega⟩
      · exact ⟨r', h3, Nat.le_refl _, fun _ c' hc' => ⟨hd_old id h2, c', hc', rfl, rfl⟩⟩
    · rcases fold_get _ _ _ _ hB' with ⟨q, hq, rfl, rfl⟩ | ⟨h1, h2⟩
      · rcases hbx q hq with ⟨p, hp, e1, e2, _⟩ | ⟨b0, hn⟩
        · obtain ⟨cs, hcs, _⟩ := hbl p hp
          obtain ⟨B0, hB0, e3, hc⟩ := box_spec hcs
          rw [e1]
          refine ⟨B0, hB0, by omega, fun _ _ => ⟨by simp [hc], bk_old _ fun b0 hn => ?_⟩⟩
          obtain ⟨_, _, _, Bx, _, h5, _⟩ := hnp b0 _ hn
          exact h5 (List.mem_map.2 ⟨p, hp, rfl⟩)
        · obtain ⟨_, _, _, Bx, h4, _, _, h6⟩ := hnp b0 _ hn
          have := h6 q hq rfl
          exact ⟨Bx, h4, by omega, fun e => by omega⟩
      · refine ⟨B', h2, Nat.le_refl _, fun _ hc => ⟨hc, ?_⟩⟩
        refine bk_old x fun b0 hn => ?_
        obtain ⟨_, _, _, Bx, _, _, h5, _⟩ := hnp b0 x hn
        obtain ⟨q, hq, e⟩ := List.mem_map.1 h5
        exact h1 q hq e
  refine ⟨G', keeps, fun d v t ht hr hb => ?_, fr, fun p hp => ⟨hd_H p hp, who_H p hp⟩, fun b hb0 h1 h2 h3 => who_fz b (fun ⟨x, hx⟩ => h1 (bx_hb b hb0 x hx)) h2 h3 (.inr hb0), hrow', fun p hp => ?_, fun b0 x0 hn => ⟨bk_np b0 x0 hn, who_np b0 x0 hn⟩⟩
  · refine h.step keeps (fun x B' hB' cs hcs => ?_) (fun id r' hr' => ?_) (fun b hb0 => ?_) ?_ (fun b hb0 => ?_) ht d
    · rcases fold_get _ _ _ _ hB' with ⟨q, hq, rfl, rfl⟩ | ⟨h1, h2⟩
      · exact hb q hq cs hcs
      · have hbox := h.box x B' h2 cs hcs
        have hx : x ∉ bs.map (·.1) := fun hm => by
          obtain ⟨p, hp, rfl⟩ := List.mem_map.1 hm
          obtain ⟨q, hq, e⟩ := List.mem_map.1 (hbs p hp)
          exact h1 q hq e
        refine hbox.keep keeps (bk_old x fun b0 hn => ?_) (by rw [who_bx _ _ hbox.1, hbox.1]) (bx_same _ _ hbox.1 hx)
        obtain ⟨_, _, _, Bx, _, _, h5, _⟩ := hnp b0 x hn
        obtain ⟨q, hq, e⟩ := List.mem_map.1 h5
        exact h1 q hq e
    · rcases row_get id r' hr' with ⟨p, hp, rfl, rfl⟩ | ⟨r, hr0, h1, h2⟩ | ⟨h1, h2, h3⟩
      · exact hr p hp
      · intro c hc; rw [h1] at hc; cases hc
      · exact (h.row id r' h3).keep keeps (hd_old id h2) (fun b hb0 => (rw_same b id hb0 h1).2) fun b hb0 => (rw_same b id hb0 h1).1
    · -- below the heap's size
      by_cases h1 : ∃ x, G.who b = .bx x
      · obtain ⟨x, hx⟩ := h1
        exact Nat.lt_of_lt_of_le (h.lt b (by rw [hx]; simp)) hkp.2.2.2
      · by_cases h2 : b ∈ B
        · exact (hBf b h2).2.1
        · by_cases h3 : Fr b
          · exact (hFr2 b h3).1
          · have hw : G'.who b = if (∃ id ∈ D, G.who b = .rw id) then .ot else G.who b := by
              show (if _ then _ else _) = _
              rw [if_neg h1, find_block_none fun hm => h2 (hH4 b hm).1]
              dsimp only
              rw [if_neg (fun ⟨x0, hx0⟩ => h2 (hnp b x0 hx0).1), if_neg (fun hc => hc.elim h3 h2)]
            rw [hw] at hb0
            split at hb0
            · exact absurd rfl hb0
            · exact Nat.lt_of_lt_of_le (h.lt b hb0) hkp.2.2.2
    · refine h.kp.trans (p' := prot.p) ⟨hkp.1, hkp.2.1, hkp.2.2.1, hkp.2.2.2, fun b hb0 => ?_⟩ fun _ hx => hx
      have hl := Nat.lt_of_lt_of_le (h.prl b hb0) h.kp.size
      have hw := h.pr b hb0
      refine hsame b hl (fun id _ e => by rcases hw with ⟨e1, _⟩ | ⟨e1, _⟩ <;> (rw [e] at e1; simp at e1)) fun hm => ?_
      rw [hhb] at hm
      obtain ⟨p, hp, rfl⟩ := List.mem_map.1 hm
      obtain ⟨_, _, h2⟩ := hbl p hp
      rcases hw with ⟨e1, _⟩ | ⟨e1, _⟩ <;> (rw [h2] at e1; simp at e1)
    · have hl := Nat.lt_of_lt_of_le (h.prl b hb0) h.kp.size
      rcases h.pr b hb0 with ⟨hw, hf⟩ | ⟨hw, hf⟩
      · exact .inl ⟨fr b (hFr1 b hw), hf⟩
      · by_cases h3 : Fr b
        · exfalso
          rcases (hFr2 b h3).2 with e | ⟨id, _, e⟩ | e
          · rw [show G.who b = .fz from e] at hw; simp at hw
          · rw [hw] at e; simp at e
          · omega
        · exact .inr (And.intro (b := ¬ prot.f b) (by
            rw [who_old b hl (fun id _ e => by rw [hw] at e; simp at e) (by rw [hw]; simp) (by rw [hw]; simp), hw]) hf)
  · have hn : ∀ b0, np ≠ some (b0, p.1) := fun b0 hn => by
      obtain ⟨_, _, _, Bx, _, h5, _⟩ := hnp b0 _ hn
      exact h5 (List.mem_map.2 ⟨p, hp, rfl⟩)
    obtain ⟨_, _, h2⟩ := hbl p hp
    exact ⟨bk_old _ hn, who_bx _ _ h2⟩
end Go.Proofs.YtlapeiijghebjaaE

/- A call of a function that is told by its answers. Conditions: none. -/
set_option linter.unusedVariables false
namespace Go.Proofs.YtlapeiijghebjaaE
open Go Go.RowKit
theorem ACs_flat {w : World} {F F0 : Nat → Prop} : ∀ {as : List AC} {xs : List Value} {B : List Nat}, flatAC as = true → ACs w F xs as B → ACs w F0 xs as B
  | [], [], _, _, h => h
  | [], _ :: _, _, _, h => h.elim
  | _ :: _, [], _, _, h => h.elim
  | c :: as, x :: xs, B, hf, h => by
    obtain ⟨B1, B2, h1, h2, h3⟩ := h
    simp only [flatAC, List.all_cons, Bool.and_eq_true] at hf
    refine ⟨B1, B2, ?_, ACs_flat (by simpa [flatAC] using hf.2) h2, h3⟩
    cases c with
    | own c => simp at hf
    | d y =>
      cases y with
      | r k l => simp at hf
      | i k n => obtain ⟨h4, h5⟩ := h1; cases h4; exact ⟨Rd.i _ _, h5⟩
      | b n => obtain ⟨h4, h5⟩ := h1; cases h4; exact ⟨Rd.b _, h5⟩
theorem ArgsR_flat {w : World} {F F0 : Nat → Prop} : ∀ {as : List Arg} {vs : List Value} {B hb : List Nat}, (as.all fun | .v _ cs => flatAC cs | .p cs => flatAC cs) = true → ArgsR w F vs as B hb → ArgsR w F0 vs as B hb
  | [], [], _, _, _, h => h
  | [], _ :: _, _, _, _, h => h.elim
  | _ :: _, [], _, _, _, h => h.elim
  | x :: as, v :: vs, B, hb, hf, h => by
    obtain ⟨B1, B2, h1, h2, h3, h4, h5, h6⟩ := h
    simp only [List.all_cons, Bool.and_eq_true] at hf
    refine ⟨B1, B2, h1, h2, ?_, ArgsR_flat hf.2 h4, h5, h6⟩
    cases x with
    | v g cs => obtain ⟨xs, q1, q2, q3, q4, q5⟩ := h3; exact ⟨xs, q1, q2, q3, ACs_flat hf.1 q4, q5⟩
    | p cs => obtain ⟨b, arr, ty, B1', q1, q2, q3, q4⟩ := h3; exact ⟨b, arr, ty, B1', q1, q2, ACs_flat hf.1 q3, q4⟩
theorem args_split {w : World} {F : Nat → Prop} : ∀ {as as2 : List Arg} {vs vs2 : List Value} {B hb : List Nat}, vs.length = as.length → ArgsR w F (vs ++ vs2) (as ++ as2) B hb → ∃ B1 B2 h1 h2, ArgsR w F vs as B1 h1 ∧ ArgsR w F vs2 as2 B2 h2 ∧ B = B1 ++ B2 ∧ hb = h1 ++ h2
  | [], as2, [], vs2, B, hb, _, h => ⟨[], B, [], hb, ⟨rfl, rfl⟩, h, rfl, rfl⟩
  | [], _, _ :: _, _, _, _, hl, _ => by simp at hl
  | _ :: _, _, [], _, _, _, hl, _ => by simp at hl
  | x :: as, as2, v :: vs, vs2, B, hb, hl, h => by
    obtain ⟨B1, B2, h1, h2, h3, h4, rfl, rfl⟩ := h
    obtain ⟨B3, B4, h5, h6, h7, h8, rfl, rfl⟩ := args_split (by simpa using hl) h4
    exact ⟨B1 ++ B3, B4, h1 ++ h5, h6, ⟨B1, B3, h1, h5, h3, h7, rfl, rfl⟩, h8, by simp, by simp⟩
theorem oc_dat (S : St) : ∀ c : List AC, OC S [] c (datCells c) [] []
  | [] => .nil _
  | x :: c => .dat (oc_dat S c)
theorem boxes_ok {G : Gh} {w' : World} {Fr : Nat → Prop} : ∀ {bs : List (Nat × Nat)} {cs : List (List AC)} {bx : List (Nat × Box)} {B h : List Nat}, boxesT bs cs = some bx → ArgsR w' Fr (bs.map fun p => ptrV (G.bk p.1)) (cs.map .p) B h →
    bx.map (·.1) = bs.map (·.1) ∧ (∀ p ∈ bs, G.bk p.1 ∈ B) ∧ ∀ q ∈ bx, ∃ p ∈ bs, q.1 = p.1 ∧ q.2.ep = p.2 ∧ ∃ (c : List AC) (arr : List Value) (ty : TypeId) (Bi : List Nat), q.2.c = some (datCells c) ∧ w'.heap[G.bk p.1]? = some (.cells arr.toArray ty (0, 0)) ∧ ACs w' Fr arr c Bi ∧
      (∀ b ∈ Bi, b ∈ B) ∧ (B.Nodup → Bi.Nodup ∧ ∀ p' ∈ bs, G.bk p'.1 ∉ Bi)
  | [], [], bx, B, h, hb, ha => by
    simp only [boxesT, Option.some.injEq] at hb
    subst hb
    exact ⟨rfl, fun p hp => (by cases hp), fun q hq => (by cases hq)⟩
  | [], _ :: _, _, _, _, hb, _ => by simp [boxesT] at hb
  | _ :: _, [], _, _, _, hb, _ => by simp [boxesT] at hb
  | (b, ep) :: bs, c :: cs, bx, B, h, hb, ha => by
    simp only [boxesT] at hb
    split at hb
    · rename_i r hr
      cases hb
      obtain ⟨B1, B2, h1, h2, ⟨b0, arr, ty, Bi, q1, q2, q3, q4, q5⟩, ha2, rfl, rfl⟩ := ha
      cases q1
      obtain ⟨i1, i2, i3⟩ := boxes_ok hr ha2
      subst q4
      refine ⟨by simp [i1], fun p hp => ?_, fun q hq => ?_⟩
      · rcases List.mem_cons.1 hp with rfl | hp
        · simp
        · exact List.mem_append_right _ (i2 p hp)
      · rcases List.mem_cons.1 hq with rfl | hq
        · refine ⟨(b, ep), by simp, rfl, rfl, c, arr, ty, Bi, rfl, q2, q3, fun x hx => by simp [hx], fun hn => ?_⟩
          obtain ⟨n1, n2, n3⟩ := List.nodup_append.1 hn
          obtain ⟨n4, n5⟩ := List.nodup_cons.1 n1
          refine ⟨n5, fun p' hp' hm => ?_⟩
          rcases List.mem_cons.1 hp' with rfl | hp'
          · exact n4 hm
          · exact n3 _ (List.mem_cons_of_mem _ hm) _ (i2 p' hp') rfl
        · obtain ⟨p, hp, e1, e2, c', arr', ty', Bi', e3, e4, e5, e6, e7⟩ := i3 q hq
          refine ⟨p, by simp [hp], e1, e2, c', arr', ty', Bi', e3, e4, e5, fun x hx => List.mem_append_right _ (e6 x hx), fun hn => ?_⟩
          obtain ⟨n1, n2, n3⟩ := List.nodup_append.1 hn
          obtain ⟨n4, n5⟩ := e7 n2
          refine ⟨n4, fun p' hp' hm => ?_⟩
          rcases List.mem_cons.1 hp' with rfl | hp'
          · exact n3 _ (by simp) _ (e6 _ hm) rfl
          · exact n5 p' hp' hm
    · simp at hb
theorem OC_rows {S : St} {ids : List Nat} {as : List AC} {cs : List Cm} {rs : List (Nat × Row)} {is : List Nat} (h : OC S ids as cs rs is) : ∀ p ∈ rs, ∃ r, S.rows[p.1]? = some r ∧ p.2.ep = r.ep + 1 := by
  induction h with
  | nil => intro p hp; cases hp
  | own hr _ ih =>
    intro p hp
    rcases List.mem_cons.1 hp with rfl | hp
    · exact ⟨_, hr, rfl⟩
    · exact ih p hp
  | dat _ ih => exact ih
theorem RT_rows {S : St} {ids : List Nat} {rs : List Arg} {l : List (Bool × List Cm)} {rows : List (Nat × Row)} (h : RT S ids rs l rows) : ∀ p ∈ rows, ∃ r, S.rows[p.1]? = some r ∧ p.2.ep = r.ep + 1 := by
  induction h with
  | nil => intro p hp; cases hp
  | cons ho _ ih =>
    intro p hp
    rcases List.mem_append.1 hp with hp | hp
    · exact OC_rows ho p hp
    · exact ih p hp
theorem tup_tr {w : World} {G : Gh} {rows : List Row} {bs : List Box} : ∀ {vs : List Value} {l : List (Bool × List Cm)}, F2 (fun v (p : Bool × List Cm) => VR w G rows v p.1 p.2) vs l → TR w G rows bs (retV vs) (tupT l) := by
  intro vs l h
  cases h with
  | nil => exact ⟨[], rfl, .nil⟩
  | @cons v p vs l h1 h2 =>
    cases h2 with
    | nil => obtain ⟨g, cs⟩ := p; exact h1
    | @cons v2 p2 vs l h2 h3 => exact ⟨_, rfl, .cons h1 (.cons h2 h3)⟩
section
variable {P : Program} {V : Env} {w0 : World} {prot : Pro} {S : St} {G : Gh} {a : Act} {w : World}
theorem uncl_ok (h : Inv w0 prot S G a w) {cl : Option (Nat × Bool)} : ∀ {ts ts' : List T} {vs : List Value}, F2 (TR w G S.rows S.boxes) vs ts → uncl S cl ts = some ts' →
    ∃ vs', F2 (TR w G S.rows S.boxes) vs' ts' ∧ vs = wrapV cl vs' ∧ (∀ f, cl = some (f, true) → vs' ≠ []) := by
  intro ts
  induction ts with
  | nil =>
    intro ts' vs hf hu
    cases cl with
    | none => simp only [uncl, Option.some.injEq] at hu; subst hu; exact ⟨vs, hf, (wrapV_none vs).symm, fun f e => by cases e⟩
    | some p => simp [uncl] at hu
  | cons t ts ih =>
    intro ts' vs hf hu
    cases cl with
    | none => simp only [uncl, Option.some.injEq] at hu; subst hu; exact ⟨vs, hf, (wrapV_none vs).symm, fun f e => by cases e⟩
    | some p =>
      obtain ⟨f, cap⟩ := p
      cases hf with
      | cons h1 h2 =>
        unfold uncl at hu
        split at hu
        · simp at *
        · simp at *
        · rename_i heq hts
          cases heq
          cases hts
          cases h2
          split at hu
          · rename_i cs hcs
            split at hu
            · rename_i hff
              subst hff
              simp only [Option.some.injEq] at hu
              subst hu
              obtain ⟨B, hB, hep, hBc⟩ := box_spec hcs
              have hv := (h1 B hB).2 hep (by rw [hBc]; rfl)
              refine ⟨[ptrV (G.bk _)], .cons (fun B' hB' => ?_) .nil, by rw [hv]; rfl, fun _ _ => by simp⟩
              rw [hB] at hB'; cases hB'
              exact ⟨Nat.le_of_eq hep, fun _ _ => rfl⟩
            · simp at hu
          · simp at hu
        · rename_i heq hts
          cases heq
          cases hts
          cases h2
          split at hu
          · rename_i hff
            subst hff
            simp only [Option.some.injEq] at hu
            subst hu
            exact ⟨[], .nil, by rw [show _ = _ from h1]; rfl, fun _ e => by cases e⟩
          · simp at hu
        · rename_i heq1 heq2
          cases heq1
          cases heq2
          split at hu
          · rename_i r hr
            simp only [Option.some.injEq] at hu
            subst hu
            obtain ⟨vs', e1, e2, e3⟩ := ih h2 hr
            refine ⟨_ :: vs', .cons h1 e1, ?_, fun _ _ => by simp⟩
            subst e2
            cases cap with
            | false => simp [wrapV_false]
            | true =>
              cases vs' with
              | nil => exact absurd rfl (e3 f rfl)
              | cons x xs => exact (wrapV_cons f _ x xs).symm
          · simp at hu
theorem callC_ok (hC : CallsOk P V) (h : Inv w0 prot S G a w) {f : Nat} {E : Ent} (hE : look f V.calls = some E) {d : Option Nat} {ts : List T} {vs : List Value} (hts : F2 (TR w G S.rows S.boxes) vs ts) {K : Outc → Prop} (hk : callC V S d E ts K) :
    Calls P f (wrapV E.clo vs).toArray w fun e w' => ∃ v, e = .returned v ∧ After w0 prot S d K (a.put d v) w' := by
  unfold callC at hk
  split at hk
  · rename_i as ls gs bs hargs
    obtain ⟨hnd, hF⟩ := hk
    simp only [Bool.and_eq_true] at hnd
    obtain ⟨n1, n2, n3⟩ := List.nodup_append.1 (nodupB_spec hnd.1)
    have n4 := nodupB_spec hnd.2
    obtain ⟨B, hb, r1, r2, r3, r4, r5, r6, r7, r8⟩ := argsT_ok h E.own ls hts hargs fun _ hi => hi
    have lentlt : ∀ b, lent G ls b → b < w.heap.size := fun b hb0 => by
      rcases hb0 with h1 | ⟨id, _, h1⟩ <;> exact h.lt b (by rw [h1]; simp)
    have Btag : ∀ b ∈ B, (∃ id ∈ gs, G.who b = .rw id) ∨ (b ∈ hb ∧ ∃ p ∈ bs, b = G.bk p.1 ∧ G.who b = .bx p.1) := fun b hb0 => by
      rcases r3 b hb0 with h1 | h1
      · exact .inl h1
      · refine .inr ⟨h1, ?_⟩
        rw [r2] at h1
        obtain ⟨p, hp, rfl⟩ := List.mem_map.1 h1
        obtain ⟨_, _, h2⟩ := r8 p hp
        exact ⟨p, hp, rfl, h2⟩
    refine ((hC f E hE).2 w (lent G ls) vs as B hb _ r1 (r5 n2 n4) (fun b hb0 => ?_) lentlt hF).mono ?_
    · rcases Btag b hb0 with ⟨id, hid, h1⟩ | ⟨_, p, _, _, h1⟩
      · refine ⟨fun h2 => ?_, h.lt b (by rw [h1]; simp)⟩
        rcases h2 with h2 | ⟨id', hid', h2⟩
        · rw [h1] at h2; simp at h2
        · rw [h1] at h2; cases h2; exact n3 id hid' id hid rfl
      · refine ⟨fun h2 => ?_, h.lt b (by rw [h1]; simp)⟩
        rcases h2 with h2 | ⟨id', hid', h2⟩ <;> (rw [h1] at h2; simp at h2)
    · rintro e w' ⟨rv, rs, cs, F', B', hb', rfl, hK, hR, hlen, hn', hB', hF1, hF2, hkp⟩
      refine ⟨_, rfl, ?_⟩
      split at hK
      · rename_i bx hbx
        obtain ⟨B1, B2, h1, h2, hR1, hR2, rfl, rfl⟩ := args_split hlen hR
        obtain ⟨m1, m2, m3⟩ := List.nodup_append.1 hn'
        rw [r2, List.map_map] at hR2
        -- flat or not
        let flat := flatRes rs cs
        let D : List Nat := bif flat then gs else ls ++ gs
        let Fr : Nat → Prop := if flat = true then G.F else F'
        have hGF : ∀ b, G.F b → F' b := fun b hb0 => hF1 b (.inl hb0)
        have gsD : ∀ id ∈ gs, id ∈ D := fun id hi => by show id ∈ (bif flat then gs else ls ++ gs); cases flat <;> simp [hi]
        have DD : ∀ id ∈ D, id ∈ ls ∨ id ∈ gs := fun id hi => by
          have hi' : id ∈ (bif flat then gs else ls ++ gs) := hi
          cases hfl : flat with
          | true => rw [hfl] at hi'; exact .inr hi'
          | false => rw [hfl] at hi'; exact List.mem_append.1 hi'
        have hR1' : ArgsR w' Fr rv rs B1 h1 := by
          show ArgsR w' (if flat = true then G.F else F') rv rs B1 h1
          split
          · rename_i hfl
            have hfl' : flatRes rs cs = true := hfl
            simp only [flatRes, Bool.and_eq_true] at hfl'
            exact ArgsR_flat hfl'.1 hR1
          · exact hR1
        have hR2' : ArgsR w' Fr (bs.map fun p => ptrV (G.bk p.1)) (cs.map .p) B2 h2 := by
          show ArgsR w' (if flat = true then G.F else F') _ _ B2 h2
          split
          · rename_i hfl
            have hfl' : flatRes rs cs = true := hfl
            simp only [flatRes, Bool.and_eq_true] at hfl'
            refine ArgsR_flat ?_ hR2
            have := hfl'.2
            rw [List.all_eq_true] at this ⊢
            intro x hx
            obtain ⟨c, hc, rfl⟩ := List.mem_map.1 hx
            exact this c hc
          · exact hR2
        obtain ⟨b1, b2, b3⟩ := boxes_ok hbx hR2'
        have hbB : ∀ b ∈ hb, b ∈ B2 := fun b hb0 => by
          rw [r2] at hb0
          obtain ⟨p, hp, rfl⟩ := List.mem_map.1 hb0
          exact b2 p hp
        have cFr1 : ∀ b, G.F b → Fr b := fun b hb0 => by
          show (if flat = true then G.F else F') b
          split
          · exact hb0
          · exact hGF b hb0
        have FrF : ∀ b, Fr b → F' b := fun b hb0 => by
          have hb1 : (if flat = true then G.F else F') b := hb0
          split at hb1
          · exact hGF b hb1
          · exact hb1
        have cFr2 : ∀ b, Fr b → b < w'.heap.size ∧ (G.F b ∨ (∃ id ∈ D, G.who b = .rw id) ∨ w.heap.size ≤ b) := fun b hb0 => by
          refine ⟨(hF2 b (FrF b hb0)).1, ?_⟩
          have hb1 : (if flat = true then G.F else F') b := hb0
          split at hb1
          · exact .inl hb1
          · rename_i hfl
            have hD : D = ls ++ gs := by show (bif flat then gs else ls ++ gs) = _; rw [Bool.not_eq_true] at hfl; rw [hfl]; rfl
            rcases (hF2 b hb1).2 with h3 | h3 | h3
            · rcases h3 with h3 | ⟨id, hid, h3⟩
              · exact .inl h3
              · exact .inr (.inl ⟨id, by rw [hD]; simp [hid], h3⟩)
            · rcases Btag b h3 with ⟨id, hid, h4⟩ | ⟨h4, _⟩
              · exact .inr (.inl ⟨id, gsD id hid, h4⟩)
              · exact absurd hb1 (hB' b (List.mem_append_right _ (hbB b h4))).1
            · exact .inr (.inr h3)
        have cB : ∀ b ∈ B1 ++ B2, ¬ Fr b ∧ b < w'.heap.size ∧ ((∃ id ∈ D, G.who b = .rw id) ∨ b ∈ hb ∨ w.heap.size ≤ b) := fun b hb0 => by
          obtain ⟨q1, q2, q3⟩ := hB' b hb0
          refine ⟨fun hf => q1 (FrF b hf), q2, ?_⟩
          rcases q3 with q3 | q3
          · rcases Btag b q3 with ⟨id, hid, h4⟩ | ⟨h4, _⟩
            · exact .inl ⟨id, gsD id hid, h4⟩
            · exact .inr (.inl h4)
          · exact .inr (.inr q3)
        have csame : ∀ b, b < w.heap.size → (∀ id ∈ D, G.who b ≠ .rw id) → b ∉ hb → w'.heap[b]? = w.heap[b]? := fun b hb0 hd hn => hkp.block b ⟨hb0, fun hm => by
          rcases Btag b hm with ⟨id, hid, h4⟩ | ⟨h4, _⟩
          · exact hd id (gsD id hid) h4
          · exact hn h4⟩
        have cD : ∀ id ∈ D, ∃ r c, S.rows[id]? = some r ∧ r.c = some c := fun id hi => (DD id hi).elim (r7 id) (r6 id)
        have bxk : ∀ q ∈ bx, (∃ p ∈ bs, q.1 = p.1 ∧ q.2.ep = p.2 ∧ q.2.c.isSome = true) := fun q hq => by
          obtain ⟨p, hp, e1, e2, c, arr, ty, Bi, e3, _⟩ := b3 q hq
          exact ⟨p, hp, e1, e2, by rw [e3]; rfl⟩
        have bsk : ∀ p ∈ bs, p.1 ∈ bx.map (·.1) := fun p hp => by rw [b1]; exact List.mem_map.2 ⟨p, hp, rfl⟩
        have lives : ∀ p ∈ bs, ∃ cs, S.box p.1 p.2 = some cs ∧ G.who (G.bk p.1) = .bx p.1 := r8
        -- a variable's cells behind the call
        have boxR : ∀ (G' : Gh) (rows' : List Row), (∀ b, Fr b → G'.F b) → (∀ b ∈ B2, b ∉ hb → G'.F b) → (∀ p ∈ bs, G'.bk p.1 = G.bk p.1 ∧ G'.who (G.bk p.1) = .bx p.1) → ∀ q ∈ bx, ∀ cs, q.2.c = some cs → BoxR w' G' rows' q.1 cs := by
          intro G' rows' g1 g2 g3 q hq cs' hcs'
          obtain ⟨p, hp, e1, e2, c, arr, ty, Bi, e3, e4, e5, e6, e7⟩ := b3 q hq
          rw [e3] at hcs'
          cases hcs'
          obtain ⟨e8, e9⟩ := e7 m2
          obtain ⟨H0, t1, t2, t3⟩ := takes_cells (oc_dat S c) e5 e8
          have hH0 : H0 = [] := by cases H0 with | nil => rfl | cons x l => simp at t1
          subst hH0
          obtain ⟨f1, _⟩ := t3 G' rows' g1 (fun p hp => by cases hp) (fun b hb0 _ => g2 b (e6 b hb0) fun hm => by
            rw [r2] at hm
            obtain ⟨p', hp', rfl⟩ := List.mem_map.1 hm
            exact e9 p' hp' hb0) (fun p hp => by cases hp)
          obtain ⟨g4, g5⟩ := g3 p hp
          exact ⟨by rw [e1, g4, g5], arr, ty, by rw [e1, g4]; exact e4, f1⟩
        have hkp4 : w'.os = w.os ∧ w'.tape = w.tape ∧ w'.output = w.output ∧ w.heap.size ≤ w'.heap.size := ⟨hkp.os, hkp.tape, hkp.output, hkp.size⟩
        dsimp only at hK
        split at hK
        · -- a pointer comes back
          rename_i c
          split at hK
          · rename_i nb hnb
            split at hK
            · rename_i Bx hBx
              obtain ⟨hne, hK⟩ := hK
              cases rv with
              | nil => exact hR1'.elim
              | cons v0 rv =>
                obtain ⟨Ba, Bb, ha, hb2, ⟨b0, arr, ty, Bc, q1, q2, q3, rfl, rfl⟩, hrest, rfl, rfl⟩ := hR1'
                cases rv with
                | cons => exact hrest.elim
                | nil =>
                  obtain ⟨rfl, rfl⟩ := hrest
                  subst q1
                  have hb0m : b0 ∈ (b0 :: Bc ++ []) ++ B2 := by simp
                  have hb0n : b0 ∉ hb := fun hm => m3 b0 (by simp) b0 (hbB b0 hm) rfl
                  have hne' : nb ∉ bs.map (·.1) := fun hm => by
                    rw [List.all_eq_true] at hne
                    have := hne nb hm
                    simp at this
                  obtain ⟨G', hG⟩ := call_core h Fr ((b0 :: Bc ++ []) ++ B2) hb D bs [] (some (b0, nb)) [] (bx ++ [(nb, ⟨Bx.ep + 1, some (datCells c)⟩)]) cFr1 cFr2 cB r2 lives hkp4 csame cD rfl List.nodup_nil List.nodup_nil (fun b hb0 => by cases hb0) (fun p hp => by cases hp)
                    (fun b x e => by
                      cases e
                      refine ⟨hb0m, hb0n, by simp, Bx, hBx, hne', by simp, fun q hq e => ?_⟩
                      rcases List.mem_append.1 hq with hq | hq
                      · obtain ⟨p, hp, e1, _⟩ := bxk q hq
                        exact absurd (List.mem_map.2 ⟨p, hp, by rw [← e1, e]⟩) hne'
                      · simp at hq; subst hq; rfl)
                    (fun q hq => by
                      rcases List.mem_append.1 hq with hq | hq
                      · exact .inl (bxk q hq)
                      · simp at hq; subst hq; exact .inr ⟨b0, rfl⟩)
                    (fun p hp => by simp only [List.map_append, List.mem_append]; exact .inl (bsk p hp))
                  obtain ⟨hbk, hwh⟩ := hG.np b0 nb rfl
                  refine ⟨_, G', hK, ?_⟩
                  have key := hG.inv d (ptrV b0) (.pb nb (Bx.ep + 1) 0) (fun B0 hB0 => ?_) (fun p hp => by cases hp) (fun q hq cs' hcs' => ?_)
                  · rw [List.append_nil] at key
                    exact key
                  · rcases fold_get _ _ _ _ hB0 with ⟨q, hq, e1, e2⟩ | ⟨hno, _⟩
                    · rcases List.mem_append.1 hq with hq | hq
                      · obtain ⟨p, hp, e3, _⟩ := bxk q hq
                        exact absurd (List.mem_map.2 ⟨p, hp, by rw [← e3, e1]⟩) hne'
                      · simp at hq
                        subst hq
                        subst e2
                        exact ⟨Nat.le_refl _, fun _ _ => by rw [hbk]; rfl⟩
                    · exact absurd rfl (hno (nb, ⟨Bx.ep + 1, some (datCells c)⟩) (by simp))
                  · rcases List.mem_append.1 hq with hq | hq
                    · refine boxR G' _ hG.fr (fun b hb0 hn => hG.rest b (List.mem_append_right _ hb0) hn (by simp) fun x0 e => ?_) hG.box q hq cs' hcs'
                      cases e
                      exact m3 b0 (by simp) b0 hb0 rfl
                    · simp at hq
                      subst hq
                      cases hcs'
                      have hnc : Bc.Nodup := (List.nodup_cons.1 (by simpa using m1)).2
                      obtain ⟨H0, t1, t2, t3⟩ := takes_cells (oc_dat S c) q3 hnc
                      have hH0 : H0 = [] := by cases H0 with | nil => rfl | cons x l => simp at t1
                      subst hH0
                      obtain ⟨f1, _⟩ := t3 G' _ hG.fr (fun p hp => by cases hp) (fun b hb0 _ => hG.rest b (by simp [hb0]) (fun hm => m3 b (by simp [hb0]) b (hbB b hm) rfl) (by simp) fun x0 e => by
                        cases e
                        exact (List.nodup_cons.1 (by simpa using m1)).1 hb0) (fun p hp => by cases hp)
                      exact ⟨by rw [hbk]; exact hwh, arr, ty, by rw [hbk]; exact q2, f1⟩
            · exact hK.elim
          · exact hK.elim
        · -- values come back
          obtain ⟨l, rows, ⟨hnr, hK⟩, hRT⟩ := resT_spec hK
          obtain ⟨rfl, H, t1, t2, t3⟩ := takes_args hRT hR1' m1
          have hrn := nodupB_spec hnr
          obtain ⟨G', hG⟩ := call_core h Fr (B1 ++ B2) hb D bs H none rows bx cFr1 cFr2 cB r2 lives hkp4 csame cD t1 hrn (t2.nodup m1) (fun b hb0 => ⟨List.mem_append_left _ (t2.subset hb0), fun hm => m3 b (t2.subset hb0) b (hbB b hm) rfl⟩) (RT_rows hRT)
            (fun b x e => by cases e) (fun q hq => .inl (bxk q hq)) bsk
          obtain ⟨f1, f2⟩ := t3 G' _ hG.fr hG.hd (fun b hb0 hn => hG.rest b (List.mem_append_left _ hb0) (fun hm => m3 b hb0 b (hbB b hm) rfl) hn fun x0 e => by cases e) hG.rows
          refine ⟨_, G', hK, ?_⟩
          exact hG.inv d (retV rv) (tupT l) (tup_tr f1) f2 (boxR G' _ hG.fr (fun b hb0 hn => hG.rest b (List.mem_append_right _ hb0) hn (fun hm => m3 b (t2.subset hm) b hb0 rfl) fun x0 e => by cases e) hG.box)
      · exact hK.elim
  · exact hk.elim
theorem call_ok (hC : CallsOk P V) (h : Inv w0 prot S G a w) {f : Nat} {E : Ent} (hE : look f V.calls = some E) {d : Option Nat} {ts : List T} {vs : List Value} (hts : F2 (TR w G S.rows S.boxes) vs ts) {K : Outc → Prop} (hk : callT V S d E ts K) :
    Calls P f vs.toArray w fun e w' => ∃ v, e = .returned v ∧ After w0 prot S d K (a.put d v) w' := by
  unfold callT at hk
  split at hk
  · rename_i ts' hu
    obtain ⟨vs', h1, h2, _⟩ := uncl_ok h hts hu
    rw [h2]
    exact callC_ok hC h hE h1 hk
  · exact hk.elim
end
end Go.Proofs.YtlapeiijghebjaaE
