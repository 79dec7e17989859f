/- A part of the proof of laws of the program: what calls of the program answer. Conditions: none. -/
import Derived.Test.YtomcnemdaohafaaM73be49c5
set_option linter.unusedVariables false
set_option linter.unusedSimpArgs false
set_option linter.unusedSectionVars false
/- Contracts: LawXCC. Conditions: none. -/
set_option linter.unusedVariables false
set_option maxHeartbeats 1600000
namespace Go.Proofs.YtomcnemdaohafaaE
open Go
theorem mk_self {l x : List Int} {k : Int} (h : l = markB x k) : l = markB l k := by rw [h, markB_idem]
theorem Wf.row {k : RK} {l : List k.El} (h : Wf (.r k l)) : l.length ≤ maxLen ∧ ∀ y ∈ flat k l, Wf y := by
  cases h with
  | r _ _ h1 h2 => exact ⟨h1, h2⟩
theorem Wf.bytes {l : List Int} (h : Wf (.r .u8 l)) : l.length ≤ 9223372036854775807 ∧ Bytes l := by
  obtain ⟨h1, h2⟩ := Wf.row (k := .u8) h
  refine ⟨h1, Bytes.of_wf fun y hy => ?_⟩
  have h3 : D.i .u8 y ∈ flat .u8 l := List.mem_flatMap.2 ⟨y, hy, List.mem_singleton.2 rfl⟩
  have h4 := h2 _ h3
  cases h4 with
  | i _ _ h5 => exact h5
theorem wf_frm {f : Frm} (h : ∀ d ∈ RK.cells .frm f, Wf d) : f.data.length ≤ 9223372036854775807 ∧ Bytes f.data := Wf.bytes (h (.r .u8 f.data) (by simp [RK.cells]))
theorem mem_flat {k : RK} {l : List k.El} {x : k.El} (hx : x ∈ l) {d : D} (hd : d ∈ k.cells x) : d ∈ flat k l := List.mem_flatMap.2 ⟨x, hx, hd⟩
theorem Wf.parts {l : List Part} (h : Wf (.r .part l)) : l.length ≤ 9223372036854775807 ∧ ∀ p ∈ l, p.data.length ≤ 9223372036854775807 := by
  obtain ⟨h1, h2⟩ := Wf.row (k := .part) h
  exact ⟨h1, fun p hp => (Wf.bytes (h2 _ (mem_flat (k := .part) hp (d := .r .u8 p.data) (by simp [RK.cells])))).1⟩
theorem Wf.partsB {l : List Part} (h : Wf (.r .part l)) : ∀ p ∈ l, Bytes p.data := by
  obtain ⟨h1, h2⟩ := Wf.row (k := .part) h
  exact fun p hp => (Wf.bytes (h2 _ (mem_flat (k := .part) hp (d := .r .u8 p.data) (by simp [RK.cells])))).2
theorem wf_tx {t : TxS} (h : ∀ d ∈ txC t, Wf d) : (t.flight.length ≤ 9223372036854775807 ∧ ∀ p ∈ t.flight, p.data.length ≤ 9223372036854775807) ∧ (t.queue.length ≤ 9223372036854775807 ∧ ∀ p ∈ t.queue, p.data.length ≤ 9223372036854775807) :=
  ⟨Wf.parts (h (.r .part t.flight) (by simp [txC])), Wf.parts (h (.r .part t.queue) (by simp [txC]))⟩
theorem wf_ct {t : CtS} (h : ∀ d ∈ ctC t, Wf d) : t.queue.length ≤ 9223372036854775807 ∧ ∀ p ∈ t.queue, p.data.length ≤ 9223372036854775807 := Wf.parts (h (.r .part t.queue) (by simp [ctC]))
theorem wf_rx {t : RxS} (h : ∀ d ∈ rxC t, Wf d) : t.join.got.length ≤ 9223372036854775807 ∧ Bytes t.join.got := Wf.bytes (h (.r .u8 t.join.got) (by simp [rxC]))
theorem wf_cr {t : CrS} (h : ∀ d ∈ crC t, Wf d) : t.join.got.length ≤ 9223372036854775807 ∧ Bytes t.join.got := Wf.bytes (h (.r .u8 t.join.got) (by simp [crC]))
theorem wf_num {k : IntKind} {x : Int} (h : Wf (.i k x)) : (Lit.int k x).wf = true := by
  cases h; assumption
theorem ifEq {α : Type} [DecidableEq α] {a b : α} {P Q : Prop} (h : a = b) (q : Q) : if (!decide (a = b)) = true then P else Q := by
  rw [if_neg (by simp [h])]; exact q
theorem ifTr {i : Decidable True} {P Q : Prop} (q : Q) : if (!(@decide True i)) = true then P else Q := by
  rw [if_neg (by simp)]; exact q
theorem ifLt {a b : Int} {P Q : Prop} (h : b ≤ a) (q : Q) : if (decide (a < b)) = true then P else Q := by
  rw [if_neg (by simp; omega)]; exact q
theorem ifNe {a b : Int} {P Q : Prop} (h : a = b) (q : Q) : if (a != b) = true then P else Q := by
  rw [if_neg (by simp [h])]; exact q
theorem ifNeB {a b : Bool} {P Q : Prop} (h : a = b) (q : Q) : if (a != b) = true then P else Q := by
  rw [if_neg (by simp [h])]; exact q
theorem ifLtB {a b : Int} {P Q : Prop} (h : a < b → P) (q : ¬ a < b → Q) : if (decide (a < b)) = true then P else Q := by
  by_cases hx : a < b
  · rw [if_pos (by simp [hx])]; exact h hx
  · rw [if_neg (by simp [hx])]; exact q hx
theorem andI {a b c : Prop} (h : a → b → c) : a ∧ b → c := fun x => h x.1 x.2

/-! laws.FnExactCrcCut -/
def c_laws_FnExactCrcCut : Ent := ctr (α := (List Int)) (ρ := (Bool)) [] [] (rs1 rBytes) (fun x_ => (fun (l : List Int) => (∀ d ∈ [D.r .u8 l], Wf d)) x_) (fun x_ r_ => (fun x_ => (fun (l : List Int) => ((fun r_ => (fun (r : Bool) => (r = true)) r_))) x_) x_ r_) (fun r_ => (fun (r : Bool) => ([rB.to r])) r_) (fun r_ => (fun (r : Bool) => ([])) r_)
def V_laws_FnExactCrcCut : Env := ⟨tys, [(11, c_spec_CrcCut), (12, c_laws_toByteS), (13, c_impl_CrcCut_x), (14, c_laws_eqByteS), (16, c_laws_heldByteS)], [(23, [0]), (26, [1])], [], [], [], [500033, 500048, 500054, 500080], [(15, c_laws_markByteS)], []⟩
end Go.Proofs.YtomcnemdaohafaaE

/- Calls answer what is promised: LawXCC. Conditions: none. -/
set_option linter.unusedVariables false
set_option maxHeartbeats 1600000
namespace Go.Proofs.YtomcnemdaohafaaE
open Go
theorem vF_laws_FnExactCrcCut (l:List Int) (K:List Arg→List (List AC)→Prop) (hp:∀ d ∈ [D.r .u8 l],Wf d) (hk:∀ (r:Bool),(r=true)→K ([rB.to r]) ([])):if ((decide ((((List.length l):Nat):Int) > (1048576:Int)))=true) then ((true=true)∧(K [(aB true)] [])) else ((true=true)∧(((List.length l)≤(137438953472:Nat))∧(∀ r:(List Int),(r=l)→(true=true)∧((true=true)∧(((Bytes r)∧((List.length r)≤(1000000000:Nat)))∧(∀ r1:CutR,(r1=(crcCut2 r))→(true=true)∧((true=true)∧(((List.length l)≤(137438953472:Nat))∧(∀ r2:(List Int),(r2=l)→(true=true)∧((true=true)∧(((Bytes r2)∧((List.length r2)≤(1000000000:Nat)))∧(∀ r3:CutR,(r3=(crcCut2 r2))→(true=true)∧((true=true)∧((((List.length r3.l)≤(137438953472:Nat))∧True)∧(∀ r4:Bool,(r4=(decide (r3.l=r1.l)))→(true=true)∧(if ((!r4)=true) then ((true=true)∧(K [(aB false)] [])) else (if ((r3.ok != r1.ok)=true) then ((true=true)∧(K [(aB false)] [])) else ((true=true)∧(((List.length l)≤(137438953472:Nat))∧(∀ r5:(List Int),(r5=l)→(true=true)∧((true=true)∧((((List.length r2)≤(137438953472:Nat))∧True)∧(∀ r6:Bool,(r6=(decide (r2=r5)))→(true=true)∧(if ((!r6)=true) then ((true=true)∧(K [(aB false)] [])) else ((true=true)∧((((List.length r2)≤(137438953472:Nat))∧(((0:Int)≤(1:Int))∧((1:Int)≤(1099511627776:Int))))∧(∀ r7:(Prod Int (List Int)),((r7.fst=((1:Int) + (((List.length r2):Nat):Int)))∧((r7.snd=(markB r2 (1:Int)))∧(((List.length r7.snd)=(List.length r2))∧(MarkB r2 (1:Int) r7.snd))))→(true=true)∧(if ((decide (r7.fst < (0:Int)))=true) then ((true=true)∧(K [(aB false)] [])) else ((true=true)∧((((List.length r3.l)≤(137438953472:Nat))∧True)∧(∀ r8:Bool,(r8=(decide (r3.l=r1.l)))→(true=true)∧(if ((!r8)=true) then ((true=true)∧(K [(aB false)] [])) else (if ((r3.ok != r1.ok)=true) then ((true=true)∧(K [(aB false)] [])) else ((true=true)∧((((List.length r3.l)≤(137438953472:Nat))∧(((0:Int)≤(1:Int))∧((1:Int)≤(1099511627776:Int))))∧(∀ r9:(Prod Int (List Int)),((r9.fst=((1:Int) + (((List.length r3.l):Nat):Int)))∧((r9.snd=(markB r3.l (1:Int)))∧(((List.length r9.snd)=(List.length r3.l))∧(MarkB r3.l (1:Int) r9.snd))))→(true=true)∧((true=true)∧((((List.length r9.snd)≤(137438953472:Nat))∧(((0:Int)≤(1:Int))∧(((1:Int)≤(1099511627776:Int))∧(r9.snd=(markB r9.snd (1:Int))))))∧(∀ r10:Int,(r10=((1:Int) + (((List.length r9.snd):Nat):Int)))→(true=true)∧(if ((decide (r10 < (0:Int)))=true) then ((true=true)∧(K [(aB false)] [])) else (if ((r10 != r9.fst)=true) then ((true=true)∧(K [(aB false)] [])) else ((true=true)∧(((List.length l)≤(137438953472:Nat))∧(∀ r11:(List Int),(r11=l)→(true=true)∧((true=true)∧(((Bytes r11)∧((List.length r11)≤(1000000000:Nat)))∧(∀ r12:CutR,(r12=(crcCut2 r11))→(true=true)∧((true=true)∧((((List.length r12.l)≤(137438953472:Nat))∧True)∧(∀ r13:Bool,(r13=(decide (r12.l=r1.l)))→(true=true)∧(if ((!r13)=true) then ((true=true)∧(K [(aB false)] [])) else (if ((r12.ok != r1.ok)=true) then ((true=true)∧(K [(aB false)] [])) else ((true=true)∧((((List.length r9.snd)≤(137438953472:Nat))∧(((0:Int)≤(1:Int))∧(((1:Int)≤(1099511627776:Int))∧(r9.snd=(markB r9.snd (1:Int))))))∧(∀ r14:Int,(r14=((1:Int) + (((List.length r9.snd):Nat):Int)))→(true=true)∧(if ((decide (r14 < (0:Int)))=true) then ((true=true)∧(K [(aB false)] [])) else (if ((r14 != r9.fst)=true) then ((true=true)∧(K [(aB false)] [])) else ((true=true)∧(K [(aB true)] []))))))))))))))))))))))))))))))))))))))))))))))))))))))))))) := by
  have hw := Wf.bytes (hp _ (List.mem_singleton.2 rfl))
  have hl : (crcCut2 l).l.length ≤ l.length := crcCut_len l
  clear hp

  repeat' first
    | exact rfl
    | exact True.intro
    | exact hk _ rfl
    | with_reducible apply And.intro
    | with_reducible refine andI ?_
    | (with_reducible intro y_ hy_; subst hy_)
    | with_reducible intro y_
    | with_reducible assumption
    | refine ifTr ?_
    | refine ifEq rfl ?_
    | refine ifNeB rfl ?_
    | refine ifLt (by omega) ?_
    | refine ifNe (by omega) ?_
    | refine ifLtB (fun h => ?_) (fun h => ?_)
    | omega
    | exact MarkB.to (by assumption) (by omega)
    | exact (markB_idem _ _).symm
    | exact mk_self (And.right (by assumption))
    | exact hw.2
    | exact hw.1
theorem w_laws_FnExactCrcCut : Valid Try.prog 4 c_laws_FnExactCrcCut :=
  valid_ctr2 (V := V_laws_FnExactCrcCut) (tysB_ok tys_ok) ⟨(CallsL.cons w_spec_CrcCut (CallsL.cons w_laws_toByteS (CallsL.cons w_impl_CrcCut_x (CallsL.cons w_laws_eqByteS (CallsL.cons w_laws_heldByteS (CallsL.nil _)))))), (IosL.cons w_laws_markByteS (IosL.nil _))⟩ mixed 2 0 Try.func4 rfl (by kernel_rfl)
    (fun c hc => by
      obtain rfl := Option.some.inj hc
      exact ⟨trivial, ⟨⟨trivial, ⟨⟨trivial, trivial⟩, trivial⟩⟩, ⟨trivial, ⟨trivial, ⟨trivial, ⟨⟨trivial, ⟨⟨trivial, trivial⟩, trivial⟩⟩, ⟨⟨trivial, ⟨⟨trivial, trivial⟩, trivial⟩⟩, ⟨trivial, ⟨trivial, ⟨⟨trivial, ⟨⟨trivial, trivial⟩, trivial⟩⟩, ⟨trivial, ⟨trivial, ⟨trivial, ⟨trivial, ⟨⟨trivial, ⟨⟨trivial, trivial⟩, trivial⟩⟩, ⟨⟨trivial, ⟨⟨trivial, trivial⟩, trivial⟩⟩, ⟨trivial, ⟨⟨trivial, ⟨⟨trivial, trivial⟩, trivial⟩⟩, ⟨trivial, ⟨trivial, ⟨⟨trivial, ⟨⟨trivial, trivial⟩, trivial⟩⟩, ⟨⟨trivial, ⟨⟨trivial, trivial⟩, trivial⟩⟩, ⟨trivial, trivial⟩⟩⟩⟩⟩⟩⟩⟩⟩⟩⟩⟩⟩⟩⟩⟩⟩⟩⟩⟩⟩⟩⟩)
    (fun x K hp hk => ⟨_, by kernel_rfl, vF_laws_FnExactCrcCut x K hp (fun r h => hk r h)⟩)
end Go.Proofs.YtomcnemdaohafaaE
