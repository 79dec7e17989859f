/- A part of the proof of laws of the program: what calls of the program answer. Conditions: none. -/
import Derived.Test.YtjladmhjpikdhaaMa180a127
set_option linter.unusedVariables false
set_option linter.unusedSimpArgs false
set_option linter.unusedSectionVars false
/- Contracts: LawXRb. Conditions: none. -/
set_option linter.unusedVariables false
set_option maxHeartbeats 1600000
namespace Go.Proofs.YtjladmhjpikdhaaE
open Go
theorem mk_self {l x : List Int} {k : Int} (h : l = markB x k) : l = markB l k := by rw [h, markB_idem]
theorem Wf.row {k : RK} {l : List k.El} (h : Wf (.r k l)) : l.length ≤ maxLen ∧ ∀ y ∈ flat k l, Wf y := by
  cases h with
  | r _ _ h1 h2 => exact ⟨h1, h2⟩
theorem Wf.bytes {l : List Int} (h : Wf (.r .u8 l)) : l.length ≤ 9223372036854775807 ∧ Bytes l := by
  obtain ⟨h1, h2⟩ := Wf.row (k := .u8) h
  refine ⟨h1, Bytes.of_wf fun y hy => ?_⟩
  have h3 : D.i .u8 y ∈ flat .u8 l := List.mem_flatMap.2 ⟨y, hy, List.mem_singleton.2 rfl⟩
  have h4 := h2 _ h3
  cases h4 with
  | i _ _ h5 => exact h5
theorem wf_frm {f : Frm} (h : ∀ d ∈ RK.cells .frm f, Wf d) : f.data.length ≤ 9223372036854775807 ∧ Bytes f.data := Wf.bytes (h (.r .u8 f.data) (by simp [RK.cells]))
theorem mem_flat {k : RK} {l : List k.El} {x : k.El} (hx : x ∈ l) {d : D} (hd : d ∈ k.cells x) : d ∈ flat k l := List.mem_flatMap.2 ⟨x, hx, hd⟩
theorem Wf.parts {l : List Part} (h : Wf (.r .part l)) : l.length ≤ 9223372036854775807 ∧ ∀ p ∈ l, p.data.length ≤ 9223372036854775807 := by
  obtain ⟨h1, h2⟩ := Wf.row (k := .part) h
  exact ⟨h1, fun p hp => (Wf.bytes (h2 _ (mem_flat (k := .part) hp (d := .r .u8 p.data) (by simp [RK.cells])))).1⟩
theorem Wf.partsB {l : List Part} (h : Wf (.r .part l)) : ∀ p ∈ l, Bytes p.data := by
  obtain ⟨h1, h2⟩ := Wf.row (k := .part) h
  exact fun p hp => (Wf.bytes (h2 _ (mem_flat (k := .part) hp (d := .r .u8 p.data) (by simp [RK.cells])))).2
theorem wf_tx {t : TxS} (h : ∀ d ∈ txC t, Wf d) : (t.flight.length ≤ 9223372036854775807 ∧ ∀ p ∈ t.flight, p.data.length ≤ 9223372036854775807) ∧ (t.queue.length ≤ 9223372036854775807 ∧ ∀ p ∈ t.queue, p.data.length ≤ 9223372036854775807) :=
  ⟨Wf.parts (h (.r .part t.flight) (by simp [txC])), Wf.parts (h (.r .part t.queue) (by simp [txC]))⟩
theorem wf_ct {t : CtS} (h : ∀ d ∈ ctC t, Wf d) : t.queue.length ≤ 9223372036854775807 ∧ ∀ p ∈ t.queue, p.data.length ≤ 9223372036854775807 := Wf.parts (h (.r .part t.queue) (by simp [ctC]))
theorem wf_rx {t : RxS} (h : ∀ d ∈ rxC t, Wf d) : t.join.got.length ≤ 9223372036854775807 ∧ Bytes t.join.got := Wf.bytes (h (.r .u8 t.join.got) (by simp [rxC]))
theorem wf_cr {t : CrS} (h : ∀ d ∈ crC t, Wf d) : t.join.got.length ≤ 9223372036854775807 ∧ Bytes t.join.got := Wf.bytes (h (.r .u8 t.join.got) (by simp [crC]))
theorem wf_num {k : IntKind} {x : Int} (h : Wf (.i k x)) : (Lit.int k x).wf = true := by
  cases h; assumption
theorem ifEq {α : Type} [DecidableEq α] {a b : α} {P Q : Prop} (h : a = b) (q : Q) : if (!decide (a = b)) = true then P else Q := by
  rw [if_neg (by simp [h])]; exact q
theorem ifTr {i : Decidable True} {P Q : Prop} (q : Q) : if (!(@decide True i)) = true then P else Q := by
  rw [if_neg (by simp)]; exact q
theorem ifLt {a b : Int} {P Q : Prop} (h : b ≤ a) (q : Q) : if (decide (a < b)) = true then P else Q := by
  rw [if_neg (by simp; omega)]; exact q
theorem ifNe {a b : Int} {P Q : Prop} (h : a = b) (q : Q) : if (a != b) = true then P else Q := by
  rw [if_neg (by simp [h])]; exact q
theorem ifNeB {a b : Bool} {P Q : Prop} (h : a = b) (q : Q) : if (a != b) = true then P else Q := by
  rw [if_neg (by simp [h])]; exact q
theorem ifLtB {a b : Int} {P Q : Prop} (h : a < b → P) (q : ¬ a < b → Q) : if (decide (a < b)) = true then P else Q := by
  by_cases hx : a < b
  · rw [if_pos (by simp [hx])]; exact h hx
  · rw [if_neg (by simp [hx])]; exact q hx
theorem andI {a b c : Prop} (h : a → b → c) : a ∧ b → c := fun x => h x.1 x.2
theorem rxAck_data (r : RxS) : (rxAck r).data.length ≤ 8 := by
  unfold rxAck
  repeat' split
  all_goals simp [sayF, zFrm]
/-- What is said: at most one frame, without bytes. -/
structure SayOk (l : List Frm) : Prop where
  len : l.length ≤ 1
  dat : ∀ y ∈ l, y.data.length ≤ 8
  c0 : 0 ≤ cntFF l
  c1 : cntFF l ≤ 8
theorem SayOk.nil : SayOk [] := ⟨by simp, fun y h => (by cases h), Int.le_refl 0, by decide⟩
theorem SayOk.one (f : Frm) (h : f.data = []) : SayOk [f] := by
  refine ⟨by simp, fun y hy => ?_, ?_, ?_⟩
  · rw [List.mem_singleton.1 hy, h]; simp
  · show 0 ≤ (cF f : Int) + 0
    omega
  · show (cF f : Int) + 0 ≤ 8
    unfold cF
    rw [h]; decide
theorem SayOk.le {l : List Frm} {y : Frm} (h : SayOk l) (hy : List.Mem y l) : y.data.length ≤ 137438953472 := Nat.le_trans (h.dat y hy) (by decide)
theorem SayOk.le2 {l : List Frm} {y : Frm} (h : SayOk l) (hy : List.Mem y l) : y.data.length ≤ 1048576 := Nat.le_trans (h.dat y hy) (by decide)
theorem busy_says (r : RxS) (b : Bool) : SayOk (rxBusy r b).says := by
  unfold rxBusy
  repeat' split
  · exact .nil
  · exact .one _ rfl
  · exact .nil
theorem busy_got (r : RxS) (b : Bool) : (rxBusy r b).r.join.got.length ≤ r.join.got.length := by
  unfold rxBusy
  repeat' split
  all_goals simp [zRx, zJoin]
theorem RxS.eta (t : RxS) : (⟨t.expect, t.count, ⟨t.join.len, t.join.got⟩, t.again, t.busy, t.dead⟩ : RxS) = t := rfl
theorem Frm.eta (f : Frm) : (⟨f.kind, f.seq, f.ack, f.poll, f.final, f.say, f.seg, f.len, f.data⟩ : Frm) = f := rfl
theorem Cfg.eta (c : Cfg) : (⟨c.mode, c.win, c.mps, c.mtu, c.try_⟩ : Cfg) = c := rfl

/-- Messages told: at most one. -/
structure SduOk (n : Nat) (l : List (List Int)) : Prop where
  len : l.length ≤ 1
  dat : ∀ y ∈ l, y.length ≤ n
  c0 : 0 ≤ cntB l
  c1 : cntB l ≤ n
theorem SduOk.nil (n : Nat) : SduOk n [] := ⟨by simp, fun y h => (by cases h), Int.le_refl 0, by show (0 : Int) ≤ n; omega⟩
theorem SduOk.one {n : Nat} (s : List Int) (h : s.length ≤ n) : SduOk n [s] := by
  refine ⟨by simp, fun y hy => ?_, ?_, ?_⟩
  · rw [List.mem_singleton.1 hy]; exact h
  · show 0 ≤ (s.length : Int) + 0
    omega
  · show (s.length : Int) + 0 ≤ n
    omega
theorem SduOk.le {n : Nat} {l : List (List Int)} {y : List Int} (h : SduOk n l) (hy : List.Mem y l) (hn : n ≤ 1048576) : y.length ≤ 137438953472 := Nat.le_trans (h.dat y hy) (by omega)
theorem SduOk.le2 {n : Nat} {l : List (List Int)} {y : List Int} (h : SduOk n l) (hy : List.Mem y l) (hn : n ≤ 1048576) : y.length ≤ 1048576 := Nat.le_trans (h.dat y hy) hn
structure HearOk (n : Nat) (q : HearR) : Prop where
  got : q.r.join.got.length ≤ n
  sdu : SduOk n q.sdus
  say : SayOk q.says
theorem frm_rng8 {f : Frm} (h : FrmP f) : f.data.length ≤ 8 := by
  unfold FrmP SegP at h
  omega
theorem hear_ok (c : Cfg) (r : RxS) (f : Frm) (hf : f.data.length ≤ 1048576) : HearOk 1048576 (rxHear c r f) := by
  unfold rxHear
  split
  · rename_i hin
    have hg := hin.got
    have hfr := (frm_rng8 hin.2.2.1)
    have hs := segPut_got r.join ⟨f.seg, f.len, f.data⟩
    have h24 : (segPut r.join ⟨f.seg, f.len, f.data⟩).j.got.length ≤ 1048576 := by have := hs.1; dsimp only at this; omega
    have h25 : (segPut r.join ⟨f.seg, f.len, f.data⟩).sdu.length ≤ 1048576 := by have := hs.2; dsimp only at this; omega
    have hg2 : r.join.got.length ≤ 1048576 := by omega
    unfold rxHear1 rxData rxTake
    dsimp only
    repeat' split
    all_goals first
      | exact ⟨hg2, .nil _, .nil⟩
      | exact ⟨hg2, .nil _, .one _ rfl⟩
      | exact ⟨h24, .nil _, .nil⟩
      | exact ⟨h24, .one _ h25, .nil⟩
  · exact ⟨by simp [zRx, zJoin], .nil _, .nil⟩

/-! laws.FnExactRxBusy -/
def c_laws_FnExactRxBusy : Ent := ctr (α := (RxS) × (Bool)) (ρ := (Bool)) [] [] (rs rRx (rs1 rB)) (fun x_ => (fun (t : RxS) (b : Bool) => (∀ d ∈ rxC t, Wf d)) x_.1 x_.2) (fun x_ r_ => (fun x_ => (fun (t : RxS) (b : Bool) => ((fun r_ => (fun (r : Bool) => (r = true)) r_))) x_.1 x_.2) x_ r_) (fun r_ => (fun (r : Bool) => ([rB.to r])) r_) (fun r_ => (fun (r : Bool) => ([])) r_)
def V_laws_FnExactRxBusy : Env := ⟨tys, [(21, c_impl_RxBusy_x), (22, c_spec_RxBusy), (27, c_laws_szRxState), (28, c_laws_toRxState), (30, c_laws_eqRxState), (34, c_laws_eqFrmFrameS), (36, c_laws_heldRxState), (37, c_laws_heldFrmFrameS)], [(29, [0]), (33, [1, 2])], [(2, 0), (6, 1), (8, 2), (9, 3), (14, 4)], [], [], [500040, 500056, 500062, 500098], [(31, c_laws_markRxState), (35, c_laws_markFrmFrameS)], [(10, [(0, false), (1, false), (2, true), (3, true), (4, false)])]⟩
end Go.Proofs.YtjladmhjpikdhaaE

/- Calls answer what is promised: LawXRb. Conditions: none. -/
set_option linter.unusedVariables false
set_option maxHeartbeats 1600000
namespace Go.Proofs.YtjladmhjpikdhaaE
open Go
set_option maxRecDepth 40000 in
theorem vF_laws_FnExactRxBusy (t:RxS) (b:Bool) (K:List Arg→List (List AC)→Prop) (hp:∀ d ∈ rxC t,Wf d) (hk:∀ (r:Bool),(r=true)→K ([rB.to r]) ([])):(true=true)∧((((List.length t.join.got)≤(9223372036854775807:Nat))∧(((0:Int)≤(1048576:Int))∧((1048576:Int)≤(1048576:Int))))∧(∀ r:Int,(((r=((1048576:Int) - (((List.length t.join.got):Nat):Int)))∧((0:Int)≤r))∨(r=(-1:Int)))→(true=true)∧(if ((decide (r < (0:Int)))=true) then ((true=true)∧(K [(aB true)] [])) else ((true=true)∧(((List.length t.join.got)≤(137438953472:Nat))∧(∀ r1:RxS,(r1=t)→(true=true)∧((true=true)∧(((List.length r1.join.got)≤(137438953472:Nat))∧(∀ r2:BusyR,(r2=(rxBusy (RxS.mk r1.expect r1.count (JoinS.mk r1.join.len r1.join.got) r1.again r1.busy r1.dead) b))→(true=true)∧((true=true)∧(((List.length t.join.got)≤(137438953472:Nat))∧(∀ r3:RxS,(r3=t)→(true=true)∧((true=true)∧(((List.length r3.join.got)≤(137438953472:Nat))∧(∀ r4:BusyR,(r4=(rxBusy (RxS.mk r3.expect r3.count (JoinS.mk r3.join.len r3.join.got) r3.again r3.busy r3.dead) b))→((List.length r4.says)=(List.length r4.says))∧((true=true)∧((true=true)∧(((List.length r4.r.join.got)≤(137438953472:Nat))∧(∀ r5:Bool,(r5=(decide ((RxS.mk r4.r.expect r4.r.count (JoinS.mk r4.r.join.len r4.r.join.got) r4.r.again r4.r.busy r4.r.dead)=r2.r)))→(true=true)∧(if ((!r5)=true) then ((true=true)∧(K [(aB false)] [])) else ((true=true)∧((((List.length r4.says)≤(137438953472:Nat))∧(∀ y:Frm,(List.Mem y r4.says)→((List.length y.data)≤(137438953472:Nat))))∧(∀ r6:Bool,(r6=(decide (r4.says=r2.says)))→(true=true)∧(if ((!r6)=true) then ((true=true)∧(K [(aB false)] [])) else ((true=true)∧(((List.length t.join.got)≤(137438953472:Nat))∧(∀ r7:RxS,(r7=t)→(true=true)∧((true=true)∧((true=true)∧(((List.length r3.join.got)≤(137438953472:Nat))∧(∀ r8:Bool,(r8=(decide ((RxS.mk r3.expect r3.count (JoinS.mk r3.join.len r3.join.got) r3.again r3.busy r3.dead)=(RxS.mk r7.expect r7.count (JoinS.mk r7.join.len r7.join.got) r7.again r7.busy r7.dead))))→(true=true)∧((true=true)∧(if ((!r8)=true) then ((true=true)∧(K [(aB false)] [])) else ((true=true)∧((((List.length r3.join.got)≤(137438953472:Nat))∧(((0:Int)≤(1:Int))∧((1:Int)≤(1099511627776:Int))))∧(∀ r9:(Prod Int (List Int)),((r9.fst=((1:Int) + (((List.length r3.join.got):Nat):Int)))∧(((List.length r9.snd)=(List.length r3.join.got))∧(MarkB r3.join.got (1:Int) r9.snd)))→(true=true)∧(if ((decide (r9.fst < (0:Int)))=true) then ((true=true)∧(K [(aB false)] [])) else ((true=true)∧(((List.length r4.r.join.got)≤(137438953472:Nat))∧(∀ r10:Bool,(r10=(decide ((RxS.mk r4.r.expect r4.r.count (JoinS.mk r4.r.join.len r4.r.join.got) r4.r.again r4.r.busy r4.r.dead)=r2.r)))→(true=true)∧(if ((!r10)=true) then ((true=true)∧(K [(aB false)] [])) else ((true=true)∧((((List.length r4.says)≤(137438953472:Nat))∧(∀ y:Frm,(List.Mem y r4.says)→((List.length y.data)≤(137438953472:Nat))))∧(∀ r11:Bool,(r11=(decide (r4.says=r2.says)))→(true=true)∧(if ((!r11)=true) then ((true=true)∧(K [(aB false)] [])) else ((true=true)∧((((List.length r4.r.join.got)≤(137438953472:Nat))∧(((0:Int)≤(1:Int))∧((1:Int)≤(1099511627776:Int))))∧(∀ r12:(Prod Int (List Int)),((r12.fst=((1:Int) + (((List.length r4.r.join.got):Nat):Int)))∧(((List.length r12.snd)=(List.length r4.r.join.got))∧(MarkB r4.r.join.got (1:Int) r12.snd)))→(true=true)∧((true=true)∧(((List.length r4.says)=(List.length r4.says))∧(((((List.length r4.says)≤(1048576:Nat))∧(∀ x:Frm,(List.Mem x r4.says)→((List.length x.data)≤(1048576:Nat))))∧(((0:Int)≤r12.fst)∧((r12.fst + (cntFF r4.says))≤(1099511627776:Int))))∧(∀ r13:(Prod Int (List Frm)),((r13.fst=(r12.fst + (cntFF r4.says)))∧((r13.snd=(markFF r4.says r12.fst))∧(((List.length r13.snd)=(List.length r4.says))∧(((cntFF r13.snd)=(cntFF r4.says))∧(MarkF r4.says r12.fst r13.snd)))))→(true=true)∧((true=true)∧((((List.length r12.snd)≤(137438953472:Nat))∧(((0:Int)≤(1:Int))∧(((1:Int)≤(1099511627776:Int))∧(r12.snd=(markB r12.snd (1:Int))))))∧(∀ r14:Int,(r14=((1:Int) + (((List.length r12.snd):Nat):Int)))→(true=true)∧(if ((decide (r14 < (0:Int)))=true) then ((true=true)∧(K [(aB false)] [])) else ((true=true)∧(((((List.length r13.snd)≤(1048576:Nat))∧(∀ x:Frm,(List.Mem x r13.snd)→((List.length x.data)≤(1048576:Nat))))∧(((0:Int)≤r14)∧(((r14 + (cntFF r13.snd))≤(1099511627776:Int))∧(r13.snd=(markFF r13.snd r14)))))∧(∀ r15:Int,(r15=(r14 + (cntFF r13.snd)))→(true=true)∧(if ((decide (r15 < (0:Int)))=true) then ((true=true)∧(K [(aB false)] [])) else (if ((r15 != r13.fst)=true) then ((true=true)∧(K [(aB false)] [])) else ((true=true)∧(((List.length t.join.got)≤(137438953472:Nat))∧(∀ r16:RxS,(r16=t)→(true=true)∧((true=true)∧(((List.length r16.join.got)≤(137438953472:Nat))∧(∀ r17:BusyR,(r17=(rxBusy (RxS.mk r16.expect r16.count (JoinS.mk r16.join.len r16.join.got) r16.again r16.busy r16.dead) b))→((List.length r17.says)=(List.length r17.says))∧((true=true)∧((true=true)∧(((List.length r17.r.join.got)≤(137438953472:Nat))∧(∀ r18:Bool,(r18=(decide ((RxS.mk r17.r.expect r17.r.count (JoinS.mk r17.r.join.len r17.r.join.got) r17.r.again r17.r.busy r17.r.dead)=r2.r)))→(true=true)∧(if ((!r18)=true) then ((true=true)∧(K [(aB false)] [])) else ((true=true)∧((((List.length r17.says)≤(137438953472:Nat))∧(∀ y:Frm,(List.Mem y r17.says)→((List.length y.data)≤(137438953472:Nat))))∧(∀ r19:Bool,(r19=(decide (r17.says=r2.says)))→(true=true)∧(if ((!r19)=true) then ((true=true)∧(K [(aB false)] [])) else ((true=true)∧((((List.length r12.snd)≤(137438953472:Nat))∧(((0:Int)≤(1:Int))∧(((1:Int)≤(1099511627776:Int))∧(r12.snd=(markB r12.snd (1:Int))))))∧(∀ r20:Int,(r20=((1:Int) + (((List.length r12.snd):Nat):Int)))→(true=true)∧(if ((decide (r20 < (0:Int)))=true) then ((true=true)∧(K [(aB false)] [])) else ((true=true)∧(((((List.length r13.snd)≤(1048576:Nat))∧(∀ x:Frm,(List.Mem x r13.snd)→((List.length x.data)≤(1048576:Nat))))∧(((0:Int)≤r20)∧(((r20 + (cntFF r13.snd))≤(1099511627776:Int))∧(r13.snd=(markFF r13.snd r20)))))∧(∀ r21:Int,(r21=(r20 + (cntFF r13.snd)))→(true=true)∧(if ((decide (r21 < (0:Int)))=true) then ((true=true)∧(K [(aB false)] [])) else (if ((r21 != r13.fst)=true) then ((true=true)∧(K [(aB false)] [])) else ((true=true)∧(K [(aB true)] []))))))))))))))))))))))))))))))))))))))))))))))))))))))))))))))))))))))))))))))))))))))) := by
  have hw := wf_rx hp
  have hS := busy_says t b
  have hG := busy_got t b
  have h1 := hS.len
  have h2 := hS.c0
  have h3 := hS.c1
  clear hp

  repeat' first
    | exact rfl
    | exact True.intro
    | exact hk _ rfl
    | with_reducible apply And.intro
    | with_reducible refine andI ?_
    | (with_reducible intro y_ hy_; subst hy_; try simp only [RxS.eta, Frm.eta, Cfg.eta])
    | with_reducible intro y_
    | with_reducible assumption
    | refine ifTr ?_
    | refine ifEq rfl ?_
    | refine ifNeB rfl ?_
    | refine ifLt (by omega) ?_
    | refine ifNe (by omega) ?_
    | refine ifLtB (fun h => ?_) (fun h => ?_)
    | omega
    | exact hw.1
    | exact hS.le ‹List.Mem _ _›
    | exact hS.le2 ‹List.Mem _ _›
    | exact MarkB.to (by assumption) (by omega)
    | exact MarkF.to (by assumption) (by omega)
    | exact MarkF.le ‹List.Mem _ _› (by assumption)
    | exact Nat.le_trans (MarkF.le ‹List.Mem _ _› (by assumption)) (by decide)
theorem w_laws_FnExactRxBusy : Valid Try.prog 6 c_laws_FnExactRxBusy :=
  valid_ctr2 (V := V_laws_FnExactRxBusy) (tysB_ok tys_ok) ⟨(CallsL.cons w_impl_RxBusy_x (CallsL.cons w_spec_RxBusy (CallsL.cons w_laws_szRxState (CallsL.cons w_laws_toRxState (CallsL.cons w_laws_eqRxState (CallsL.cons w_laws_eqFrmFrameS (CallsL.cons w_laws_heldRxState (CallsL.cons w_laws_heldFrmFrameS (CallsL.nil _))))))))), (IosL.cons w_laws_markRxState (IosL.cons w_laws_markFrmFrameS (IosL.nil _)))⟩ mixed 3 5 Try.func6 rfl (by kernel_rfl)
    (fun c hc => by
      obtain rfl := Option.some.inj hc
      exact ⟨trivial, ⟨trivial, ⟨trivial, ⟨⟨trivial, ⟨⟨trivial, trivial⟩, trivial⟩⟩, ⟨trivial, ⟨trivial, ⟨trivial, ⟨⟨trivial, ⟨⟨trivial, trivial⟩, trivial⟩⟩, ⟨⟨trivial, ⟨⟨trivial, trivial⟩, trivial⟩⟩, ⟨trivial, ⟨trivial, ⟨⟨trivial, ⟨⟨trivial, trivial⟩, trivial⟩⟩, ⟨trivial, ⟨trivial, ⟨trivial, ⟨trivial, ⟨trivial, ⟨⟨trivial, ⟨⟨trivial, trivial⟩, trivial⟩⟩, ⟨trivial, ⟨⟨trivial, ⟨⟨trivial, trivial⟩, trivial⟩⟩, ⟨⟨trivial, ⟨⟨trivial, trivial⟩, trivial⟩⟩, ⟨trivial, ⟨⟨trivial, ⟨⟨trivial, trivial⟩, trivial⟩⟩, ⟨trivial, ⟨trivial, ⟨⟨trivial, ⟨⟨trivial, trivial⟩, trivial⟩⟩, ⟨trivial, ⟨⟨trivial, ⟨⟨trivial, trivial⟩, trivial⟩⟩, ⟨⟨trivial, ⟨⟨trivial, trivial⟩, trivial⟩⟩, ⟨trivial, trivial⟩⟩⟩⟩⟩⟩⟩⟩⟩⟩⟩⟩⟩⟩⟩⟩⟩⟩⟩⟩⟩⟩⟩⟩⟩⟩⟩⟩⟩⟩)
    (fun x K hp hk => ⟨_, by kernel_rfl, vF_laws_FnExactRxBusy x.1 x.2 K hp (fun r h => hk r h)⟩)
end Go.Proofs.YtjladmhjpikdhaaE
