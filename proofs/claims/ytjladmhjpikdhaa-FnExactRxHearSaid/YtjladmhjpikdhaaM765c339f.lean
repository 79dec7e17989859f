/- A part of the proof of laws of the program: what calls of the program answer. Conditions: none. -/
import Derived.Test.YtjladmhjpikdhaaMa180a127
set_option linter.unusedVariables false
set_option linter.unusedSimpArgs false
set_option linter.unusedSectionVars false
/- Contracts: LawXRh. Conditions: none. -/
set_option linter.unusedVariables false
set_option maxHeartbeats 1600000
namespace Go.Proofs.YtjladmhjpikdhaaE
open Go
theorem mk_self {l x : List Int} {k : Int} (h : l = markB x k) : l = markB l k := by rw [h, markB_idem]
theorem Wf.row {k : RK} {l : List k.El} (h : Wf (.r k l)) : l.length ≤ maxLen ∧ ∀ y ∈ flat k l, Wf y := by
  cases h with
  | r _ _ h1 h2 => exact ⟨h1, h2⟩
theorem Wf.bytes {l : List Int} (h : Wf (.r .u8 l)) : l.length ≤ 9223372036854775807 ∧ Bytes l := by
  obtain ⟨h1, h2⟩ := Wf.row (k := .u8) h
  refine ⟨h1, Bytes.of_wf fun y hy => ?_⟩
  have h3 : D.i .u8 y ∈ flat .u8 l := List.mem_flatMap.2 ⟨y, hy, List.mem_singleton.2 rfl⟩
  have h4 := h2 _ h3
  cases h4 with
  | i _ _ h5 => exact h5
theorem wf_frm {f : Frm} (h : ∀ d ∈ RK.cells .frm f, Wf d) : f.data.length ≤ 9223372036854775807 ∧ Bytes f.data := Wf.bytes (h (.r .u8 f.data) (by simp [RK.cells]))
theorem mem_flat {k : RK} {l : List k.El} {x : k.El} (hx : x ∈ l) {d : D} (hd : d ∈ k.cells x) : d ∈ flat k l := List.mem_flatMap.2 ⟨x, hx, hd⟩
theorem Wf.parts {l : List Part} (h : Wf (.r .part l)) : l.length ≤ 9223372036854775807 ∧ ∀ p ∈ l, p.data.length ≤ 9223372036854775807 := by
  obtain ⟨h1, h2⟩ := Wf.row (k := .part) h
  exact ⟨h1, fun p hp => (Wf.bytes (h2 _ (mem_flat (k := .part) hp (d := .r .u8 p.data) (by simp [RK.cells])))).1⟩
theorem Wf.partsB {l : List Part} (h : Wf (.r .part l)) : ∀ p ∈ l, Bytes p.data := by
  obtain ⟨h1, h2⟩ := Wf.row (k := .part) h
  exact fun p hp => (Wf.bytes (h2 _ (mem_flat (k := .part) hp (d := .r .u8 p.data) (by simp [RK.cells])))).2
theorem wf_tx {t : TxS} (h : ∀ d ∈ txC t, Wf d) : (t.flight.length ≤ 9223372036854775807 ∧ ∀ p ∈ t.flight, p.data.length ≤ 9223372036854775807) ∧ (t.queue.length ≤ 9223372036854775807 ∧ ∀ p ∈ t.queue, p.data.length ≤ 9223372036854775807) :=
  ⟨Wf.parts (h (.r .part t.flight) (by simp [txC])), Wf.parts (h (.r .part t.queue) (by simp [txC]))⟩
theorem wf_ct {t : CtS} (h : ∀ d ∈ ctC t, Wf d) : t.queue.length ≤ 9223372036854775807 ∧ ∀ p ∈ t.queue, p.data.length ≤ 9223372036854775807 := Wf.parts (h (.r .part t.queue) (by simp [ctC]))
theorem wf_rx {t : RxS} (h : ∀ d ∈ rxC t, Wf d) : t.join.got.length ≤ 9223372036854775807 ∧ Bytes t.join.got := Wf.bytes (h (.r .u8 t.join.got) (by simp [rxC]))
theorem wf_cr {t : CrS} (h : ∀ d ∈ crC t, Wf d) : t.join.got.length ≤ 9223372036854775807 ∧ Bytes t.join.got := Wf.bytes (h (.r .u8 t.join.got) (by simp [crC]))
theorem wf_num {k : IntKind} {x : Int} (h : Wf (.i k x)) : (Lit.int k x).wf = true := by
  cases h; assumption
theorem ifEq {α : Type} [DecidableEq α] {a b : α} {P Q : Prop} (h : a = b) (q : Q) : if (!decide (a = b)) = true then P else Q := by
  rw [if_neg (by simp [h])]; exact q
theorem ifTr {i : Decidable True} {P Q : Prop} (q : Q) : if (!(@decide True i)) = true then P else Q := by
  rw [if_neg (by simp)]; exact q
theorem ifLt {a b : Int} {P Q : Prop} (h : b ≤ a) (q : Q) : if (decide (a < b)) = true then P else Q := by
  rw [if_neg (by simp; omega)]; exact q
theorem ifNe {a b : Int} {P Q : Prop} (h : a = b) (q : Q) : if (a != b) = true then P else Q := by
  rw [if_neg (by simp [h])]; exact q
theorem ifNeB {a b : Bool} {P Q : Prop} (h : a = b) (q : Q) : if (a != b) = true then P else Q := by
  rw [if_neg (by simp [h])]; exact q
theorem ifLtB {a b : Int} {P Q : Prop} (h : a < b → P) (q : ¬ a < b → Q) : if (decide (a < b)) = true then P else Q := by
  by_cases hx : a < b
  · rw [if_pos (by simp [hx])]; exact h hx
  · rw [if_neg (by simp [hx])]; exact q hx
theorem andI {a b c : Prop} (h : a → b → c) : a ∧ b → c := fun x => h x.1 x.2
theorem rxAck_data (r : RxS) : (rxAck r).data.length ≤ 8 := by
  unfold rxAck
  repeat' split
  all_goals simp [sayF, zFrm]
/-- What is said: at most one frame, without bytes. -/
structure SayOk (l : List Frm) : Prop where
  len : l.length ≤ 1
  dat : ∀ y ∈ l, y.data.length ≤ 8
  c0 : 0 ≤ cntFF l
  c1 : cntFF l ≤ 8
theorem SayOk.nil : SayOk [] := ⟨by simp, fun y h => (by cases h), Int.le_refl 0, by decide⟩
theorem SayOk.one (f : Frm) (h : f.data = []) : SayOk [f] := by
  refine ⟨by simp, fun y hy => ?_, ?_, ?_⟩
  · rw [List.mem_singleton.1 hy, h]; simp
  · show 0 ≤ (cF f : Int) + 0
    omega
  · show (cF f : Int) + 0 ≤ 8
    unfold cF
    rw [h]; decide
theorem SayOk.le {l : List Frm} {y : Frm} (h : SayOk l) (hy : List.Mem y l) : y.data.length ≤ 137438953472 := Nat.le_trans (h.dat y hy) (by decide)
theorem SayOk.le2 {l : List Frm} {y : Frm} (h : SayOk l) (hy : List.Mem y l) : y.data.length ≤ 1048576 := Nat.le_trans (h.dat y hy) (by decide)
theorem busy_says (r : RxS) (b : Bool) : SayOk (rxBusy r b).says := by
  unfold rxBusy
  repeat' split
  · exact .nil
  · exact .one _ rfl
  · exact .nil
theorem busy_got (r : RxS) (b : Bool) : (rxBusy r b).r.join.got.length ≤ r.join.got.length := by
  unfold rxBusy
  repeat' split
  all_goals simp [zRx, zJoin]
theorem RxS.eta (t : RxS) : (⟨t.expect, t.count, ⟨t.join.len, t.join.got⟩, t.again, t.busy, t.dead⟩ : RxS) = t := rfl
theorem Frm.eta (f : Frm) : (⟨f.kind, f.seq, f.ack, f.poll, f.final, f.say, f.seg, f.len, f.data⟩ : Frm) = f := rfl
theorem Cfg.eta (c : Cfg) : (⟨c.mode, c.win, c.mps, c.mtu, c.try_⟩ : Cfg) = c := rfl

/-- Messages told: at most one. -/
structure SduOk (n : Nat) (l : List (List Int)) : Prop where
  len : l.length ≤ 1
  dat : ∀ y ∈ l, y.length ≤ n
  c0 : 0 ≤ cntB l
  c1 : cntB l ≤ n
theorem SduOk.nil (n : Nat) : SduOk n [] := ⟨by simp, fun y h => (by cases h), Int.le_refl 0, by show (0 : Int) ≤ n; omega⟩
theorem SduOk.one {n : Nat} (s : List Int) (h : s.length ≤ n) : SduOk n [s] := by
  refine ⟨by simp, fun y hy => ?_, ?_, ?_⟩
  · rw [List.mem_singleton.1 hy]; exact h
  · show 0 ≤ (s.length : Int) + 0
    omega
  · show (s.length : Int) + 0 ≤ n
    omega
theorem SduOk.le {n : Nat} {l : List (List Int)} {y : List Int} (h : SduOk n l) (hy : List.Mem y l) (hn : n ≤ 1048576) : y.length ≤ 137438953472 := Nat.le_trans (h.dat y hy) (by omega)
theorem SduOk.le2 {n : Nat} {l : List (List Int)} {y : List Int} (h : SduOk n l) (hy : List.Mem y l) (hn : n ≤ 1048576) : y.length ≤ 1048576 := Nat.le_trans (h.dat y hy) hn
structure HearOk (n : Nat) (q : HearR) : Prop where
  got : q.r.join.got.length ≤ n
  sdu : SduOk n q.sdus
  say : SayOk q.says
theorem frm_rng8 {f : Frm} (h : FrmP f) : f.data.length ≤ 8 := by
  unfold FrmP SegP at h
  omega
theorem hear_ok (c : Cfg) (r : RxS) (f : Frm) (hf : f.data.length ≤ 1048576) : HearOk 1048576 (rxHear c r f) := by
  unfold rxHear
  split
  · rename_i hin
    have hg := hin.got
    have hfr := (frm_rng8 hin.2.2.1)
    have hs := segPut_got r.join ⟨f.seg, f.len, f.data⟩
    have h24 : (segPut r.join ⟨f.seg, f.len, f.data⟩).j.got.length ≤ 1048576 := by have := hs.1; dsimp only at this; omega
    have h25 : (segPut r.join ⟨f.seg, f.len, f.data⟩).sdu.length ≤ 1048576 := by have := hs.2; dsimp only at this; omega
    have hg2 : r.join.got.length ≤ 1048576 := by omega
    unfold rxHear1 rxData rxTake
    dsimp only
    repeat' split
    all_goals first
      | exact ⟨hg2, .nil _, .nil⟩
      | exact ⟨hg2, .nil _, .one _ rfl⟩
      | exact ⟨h24, .nil _, .nil⟩
      | exact ⟨h24, .one _ h25, .nil⟩
  · exact ⟨by simp [zRx, zJoin], .nil _, .nil⟩

/-! laws.FnExactRxHear -/
def c_laws_FnExactRxHear : Ent := ctr (α := (Cfg) × (RxS) × (Frm)) (ρ := (Bool)) [] [] (rs rCfg (rs rRx (rs1 rFrm))) (fun x_ => (fun (c : Cfg) (t : RxS) (f : Frm) => ((∀ d ∈ cfgC c, Wf d) ∧ (∀ d ∈ rxC t, Wf d) ∧ ∀ d ∈ RK.cells .frm f, Wf d)) x_.1 x_.2.1 x_.2.2) (fun x_ r_ => (fun x_ => (fun (c : Cfg) (t : RxS) (f : Frm) => ((fun r_ => (fun (r : Bool) => (r = true)) r_))) x_.1 x_.2.1 x_.2.2) x_ r_) (fun r_ => (fun (r : Bool) => ([rB.to r])) r_) (fun r_ => (fun (r : Bool) => ([])) r_)
def V_laws_FnExactRxHear : Env := ⟨tys, [(27, c_laws_szRxState), (28, c_laws_toRxState), (29, c_laws_eqFrmFrame), (30, c_laws_eqRxState), (34, c_laws_eqFrmFrameS), (36, c_laws_heldRxState), (37, c_laws_heldFrmFrameS), (38, c_laws_szFrmFrame), (39, c_spec_RxHear), (40, c_laws_toCfgOpts), (41, c_laws_toFrmFrame), (42, c_impl_RxHear_x), (43, c_laws_eqByteSS), (45, c_laws_heldByteSS)], [(44, [0]), (46, [1]), (52, [2, 3, 4])], [(3, 0), (4, 1), (5, 2), (8, 3), (11, 4), (12, 5), (13, 6), (19, 7)], [(8, ([3], [])), (11, ([6], [2, 3, 4])), (39, ([7], []))], [], [500060, 500066, 500090, 500096, 500102, 500150, 500156], [(31, c_laws_markRxState), (32, c_laws_markFrmFrame), (35, c_laws_markFrmFrameS), (44, c_laws_markByteSS)], [(8, [(0, false), (2, false), (4, false), (11, false), (1, true), (3, true), (5, true), (6, true), (7, false), (8, false), (9, false), (10, false), (12, true), (13, false), (14, false)]), (11, [(0, false), (2, false), (3, false), (9, false), (1, true), (4, true), (5, false), (6, false), (7, false), (8, false), (10, true), (11, false), (12, false)]), (14, [(0, false), (1, false), (2, true), (3, true), (4, false)]), (16, [(0, false), (1, false), (2, true), (3, true), (4, false)]), (39, [(0, false), (2, false), (4, false), (11, false), (1, true), (3, true), (5, true), (6, true), (7, false), (8, false), (9, false), (10, false), (12, true), (13, false), (14, false)])]⟩
end Go.Proofs.YtjladmhjpikdhaaE

/- Calls answer what is promised: LawXRh. Conditions: none. -/
set_option linter.unusedVariables false
set_option maxHeartbeats 1600000
namespace Go.Proofs.YtjladmhjpikdhaaE
open Go
set_option maxRecDepth 40000 in
theorem vF_laws_FnExactRxHear (c:Cfg) (t:RxS) (f:Frm) (K:List Arg→List (List AC)→Prop) (hp:(∀ d ∈ cfgC c,Wf d)∧(∀ d ∈ rxC t,Wf d)∧∀ d ∈ RK.cells .frm f,Wf d) (hk:∀ (r:Bool),(r=true)→K ([rB.to r]) ([])):(true=true)∧((((List.length t.join.got)≤(9223372036854775807:Nat))∧(((0:Int)≤(1048576:Int))∧((1048576:Int)≤(1048576:Int))))∧(∀ r:Int,(((r=((1048576:Int) - (((List.length t.join.got):Nat):Int)))∧((0:Int)≤r))∨(r=(-1:Int)))→(true=true)∧(if ((decide (r < (0:Int)))=true) then ((true=true)∧(K [(aB true)] [])) else ((true=true)∧((((List.length f.data)≤(9223372036854775807:Nat))∧(((0:Int)≤r)∧(r≤(1048576:Int))))∧(∀ r1:Int,(((r1=(r - (((List.length f.data):Nat):Int)))∧((0:Int)≤r1))∨(r1=(-1:Int)))→(true=true)∧(if ((decide (r1 < (0:Int)))=true) then ((true=true)∧(K [(aB true)] [])) else ((true=true)∧(True∧(∀ r2:Cfg,(r2=c)→(true=true)∧((true=true)∧((true=true)∧(((List.length t.join.got)≤(137438953472:Nat))∧(∀ r3:RxS,(r3=t)→(true=true)∧((true=true)∧((true=true)∧(((List.length f.data)≤(137438953472:Nat))∧(∀ r4:Frm,(r4=f)→(true=true)∧((true=true)∧((true=true)∧(((List.length r4.data)≤(1000000000:Nat))∧(∀ r5:HearR,(r5=(rxHear r2 (RxS.mk r3.expect r3.count (JoinS.mk r3.join.len r3.join.got) r3.again r3.busy r3.dead) (Frm.mk r4.kind r4.seq r4.ack r4.poll r4.final r4.say r4.seg r4.len r4.data)))→(true=true)∧((true=true)∧((true=true)∧((true=true)∧(((List.length t.join.got)≤(137438953472:Nat))∧(∀ r6:RxS,(r6=t)→(true=true)∧((true=true)∧(((List.length f.data)≤(137438953472:Nat))∧(∀ r7:Frm,(r7=f)→(true=true)∧((true=true)∧(True∧(∀ r8:Cfg,(r8=c)→(true=true)∧((true=true)∧((true=true)∧(((List.length r7.data)≤(1000000000:Nat))∧(∀ r9:HearR,(r9=(rxHear r8 (RxS.mk r6.expect r6.count (JoinS.mk r6.join.len r6.join.got) r6.again r6.busy r6.dead) (Frm.mk r7.kind r7.seq r7.ack r7.poll r7.final r7.say r7.seg r7.len r7.data)))→((List.length r9.sdus)=(List.length r9.sdus))∧(((List.length r9.says)=(List.length r9.says))∧((true=true)∧((true=true)∧((true=true)∧((true=true)∧(((List.length r9.r.join.got)≤(137438953472:Nat))∧(∀ r10:Bool,(r10=(decide ((RxS.mk r9.r.expect r9.r.count (JoinS.mk r9.r.join.len r9.r.join.got) r9.r.again r9.r.busy r9.r.dead)=r5.r)))→(true=true)∧(if ((!r10)=true) then ((true=true)∧(K [(aB false)] [])) else ((true=true)∧((((List.length r9.sdus)≤(137438953472:Nat))∧(∀ y:(List Int),(List.Mem y r9.sdus)→((List.length y)≤(137438953472:Nat))))∧(∀ r11:Bool,(r11=(decide (r9.sdus=r5.sdus)))→(true=true)∧(if ((!r11)=true) then ((true=true)∧(K [(aB false)] [])) else ((true=true)∧((((List.length r9.says)≤(137438953472:Nat))∧(∀ y:Frm,(List.Mem y r9.says)→((List.length y.data)≤(137438953472:Nat))))∧(∀ r12:Bool,(r12=(decide (r9.says=r5.says)))→(true=true)∧(if ((!r12)=true) then ((true=true)∧(K [(aB false)] [])) else ((true=true)∧(((List.length t.join.got)≤(137438953472:Nat))∧(∀ r13:RxS,(r13=t)→(true=true)∧((true=true)∧((true=true)∧(((List.length r6.join.got)≤(137438953472:Nat))∧(∀ r14:Bool,(r14=(decide ((RxS.mk r6.expect r6.count (JoinS.mk r6.join.len r6.join.got) r6.again r6.busy r6.dead)=(RxS.mk r13.expect r13.count (JoinS.mk r13.join.len r13.join.got) r13.again r13.busy r13.dead))))→(true=true)∧((true=true)∧(if ((!r14)=true) then ((true=true)∧(K [(aB false)] [])) else ((true=true)∧(((List.length f.data)≤(137438953472:Nat))∧(∀ r15:Frm,(r15=f)→(true=true)∧((true=true)∧((true=true)∧(((List.length r7.data)≤(137438953472:Nat))∧(∀ r16:Bool,(r16=(decide ((Frm.mk r7.kind r7.seq r7.ack r7.poll r7.final r7.say r7.seg r7.len r7.data)=(Frm.mk r15.kind r15.seq r15.ack r15.poll r15.final r15.say r15.seg r15.len r15.data))))→(true=true)∧((true=true)∧(if ((!r16)=true) then ((true=true)∧(K [(aB false)] [])) else ((true=true)∧((((List.length r6.join.got)≤(137438953472:Nat))∧(((0:Int)≤(1:Int))∧((1:Int)≤(1099511627776:Int))))∧(∀ r17:(Prod Int (List Int)),((r17.fst=((1:Int) + (((List.length r6.join.got):Nat):Int)))∧(((List.length r17.snd)=(List.length r6.join.got))∧(MarkB r6.join.got (1:Int) r17.snd)))→(true=true)∧((true=true)∧((((List.length r7.data)≤(137438953472:Nat))∧(((0:Int)≤r17.fst)∧(r17.fst≤(1099511627776:Int))))∧(∀ r18:(Prod Int (List Int)),((r18.fst=(r17.fst + (((List.length r7.data):Nat):Int)))∧(((List.length r18.snd)=(List.length r7.data))∧(MarkB r7.data r17.fst r18.snd)))→(true=true)∧(if ((decide (r18.fst < (0:Int)))=true) then ((true=true)∧(K [(aB false)] [])) else ((true=true)∧(((List.length r9.r.join.got)≤(137438953472:Nat))∧(∀ r19:Bool,(r19=(decide ((RxS.mk r9.r.expect r9.r.count (JoinS.mk r9.r.join.len r9.r.join.got) r9.r.again r9.r.busy r9.r.dead)=r5.r)))→(true=true)∧(if ((!r19)=true) then ((true=true)∧(K [(aB false)] [])) else ((true=true)∧((((List.length r9.sdus)≤(137438953472:Nat))∧(∀ y:(List Int),(List.Mem y r9.sdus)→((List.length y)≤(137438953472:Nat))))∧(∀ r20:Bool,(r20=(decide (r9.sdus=r5.sdus)))→(true=true)∧(if ((!r20)=true) then ((true=true)∧(K [(aB false)] [])) else ((true=true)∧((((List.length r9.says)≤(137438953472:Nat))∧(∀ y:Frm,(List.Mem y r9.says)→((List.length y.data)≤(137438953472:Nat))))∧(∀ r21:Bool,(r21=(decide (r9.says=r5.says)))→(true=true)∧(if ((!r21)=true) then ((true=true)∧(K [(aB false)] [])) else ((true=true)∧((((List.length r9.r.join.got)≤(137438953472:Nat))∧(((0:Int)≤(1:Int))∧((1:Int)≤(1099511627776:Int))))∧(∀ r22:(Prod Int (List Int)),((r22.fst=((1:Int) + (((List.length r9.r.join.got):Nat):Int)))∧(((List.length r22.snd)=(List.length r9.r.join.got))∧(MarkB r9.r.join.got (1:Int) r22.snd)))→(true=true)∧((true=true)∧(((List.length r9.sdus)=(List.length r9.sdus))∧(((((List.length r9.sdus)≤(1048576:Nat))∧(∀ x:(List Int),(List.Mem x r9.sdus)→((List.length x)≤(1048576:Nat))))∧(((0:Int)≤r22.fst)∧((r22.fst + (cntB r9.sdus))≤(1099511627776:Int))))∧(∀ r23:(Prod Int (List (List Int))),((r23.fst=(r22.fst + (cntB r9.sdus)))∧((r23.snd=(markBB r9.sdus r22.fst))∧(((List.length r23.snd)=(List.length r9.sdus))∧(((cntB r23.snd)=(cntB r9.sdus))∧(MarkBB r9.sdus r22.fst r23.snd)))))→(true=true)∧((true=true)∧(((List.length r9.says)=(List.length r9.says))∧(((((List.length r9.says)≤(1048576:Nat))∧(∀ x:Frm,(List.Mem x r9.says)→((List.length x.data)≤(1048576:Nat))))∧(((0:Int)≤r23.fst)∧((r23.fst + (cntFF r9.says))≤(1099511627776:Int))))∧(∀ r24:(Prod Int (List Frm)),((r24.fst=(r23.fst + (cntFF r9.says)))∧((r24.snd=(markFF r9.says r23.fst))∧(((List.length r24.snd)=(List.length r9.says))∧(((cntFF r24.snd)=(cntFF r9.says))∧(MarkF r9.says r23.fst r24.snd)))))→(true=true)∧((true=true)∧((((List.length r22.snd)≤(137438953472:Nat))∧(((0:Int)≤(1:Int))∧(((1:Int)≤(1099511627776:Int))∧(r22.snd=(markB r22.snd (1:Int))))))∧(∀ r25:Int,(r25=((1:Int) + (((List.length r22.snd):Nat):Int)))→(true=true)∧(if ((decide (r25 < (0:Int)))=true) then ((true=true)∧(K [(aB false)] [])) else ((true=true)∧(((((List.length r23.snd)≤(1048576:Nat))∧(∀ x:(List Int),(List.Mem x r23.snd)→((List.length x)≤(1048576:Nat))))∧(((0:Int)≤r25)∧(((r25 + (cntB r23.snd))≤(1099511627776:Int))∧(r23.snd=(markBB r23.snd r25)))))∧(∀ r26:Int,(r26=(r25 + (cntB r23.snd)))→(true=true)∧(if ((decide (r26 < (0:Int)))=true) then ((true=true)∧(K [(aB false)] [])) else ((true=true)∧(((((List.length r24.snd)≤(1048576:Nat))∧(∀ x:Frm,(List.Mem x r24.snd)→((List.length x.data)≤(1048576:Nat))))∧(((0:Int)≤r26)∧(((r26 + (cntFF r24.snd))≤(1099511627776:Int))∧(r24.snd=(markFF r24.snd r26)))))∧(∀ r27:Int,(r27=(r26 + (cntFF r24.snd)))→(true=true)∧(if ((decide (r27 < (0:Int)))=true) then ((true=true)∧(K [(aB false)] [])) else (if ((r27 != r24.fst)=true) then ((true=true)∧(K [(aB false)] [])) else ((true=true)∧(True∧(∀ r28:Cfg,(r28=c)→(true=true)∧((true=true)∧((true=true)∧(((List.length t.join.got)≤(137438953472:Nat))∧(∀ r29:RxS,(r29=t)→(true=true)∧((true=true)∧((true=true)∧(((List.length f.data)≤(137438953472:Nat))∧(∀ r30:Frm,(r30=f)→(true=true)∧((true=true)∧((true=true)∧(((List.length r30.data)≤(1000000000:Nat))∧(∀ r31:HearR,(r31=(rxHear r28 (RxS.mk r29.expect r29.count (JoinS.mk r29.join.len r29.join.got) r29.again r29.busy r29.dead) (Frm.mk r30.kind r30.seq r30.ack r30.poll r30.final r30.say r30.seg r30.len r30.data)))→((List.length r31.sdus)=(List.length r31.sdus))∧(((List.length r31.says)=(List.length r31.says))∧((true=true)∧((true=true)∧((true=true)∧((true=true)∧(((List.length r31.r.join.got)≤(137438953472:Nat))∧(∀ r32:Bool,(r32=(decide ((RxS.mk r31.r.expect r31.r.count (JoinS.mk r31.r.join.len r31.r.join.got) r31.r.again r31.r.busy r31.r.dead)=r5.r)))→(true=true)∧(if ((!r32)=true) then ((true=true)∧(K [(aB false)] [])) else ((true=true)∧((((List.length r31.sdus)≤(137438953472:Nat))∧(∀ y:(List Int),(List.Mem y r31.sdus)→((List.length y)≤(137438953472:Nat))))∧(∀ r33:Bool,(r33=(decide (r31.sdus=r5.sdus)))→(true=true)∧(if ((!r33)=true) then ((true=true)∧(K [(aB false)] [])) else ((true=true)∧((((List.length r31.says)≤(137438953472:Nat))∧(∀ y:Frm,(List.Mem y r31.says)→((List.length y.data)≤(137438953472:Nat))))∧(∀ r34:Bool,(r34=(decide (r31.says=r5.says)))→(true=true)∧(if ((!r34)=true) then ((true=true)∧(K [(aB false)] [])) else ((true=true)∧((((List.length r22.snd)≤(137438953472:Nat))∧(((0:Int)≤(1:Int))∧(((1:Int)≤(1099511627776:Int))∧(r22.snd=(markB r22.snd (1:Int))))))∧(∀ r35:Int,(r35=((1:Int) + (((List.length r22.snd):Nat):Int)))→(true=true)∧(if ((decide (r35 < (0:Int)))=true) then ((true=true)∧(K [(aB false)] [])) else ((true=true)∧(((((List.length r23.snd)≤(1048576:Nat))∧(∀ x:(List Int),(List.Mem x r23.snd)→((List.length x)≤(1048576:Nat))))∧(((0:Int)≤r35)∧(((r35 + (cntB r23.snd))≤(1099511627776:Int))∧(r23.snd=(markBB r23.snd r35)))))∧(∀ r36:Int,(r36=(r35 + (cntB r23.snd)))→(true=true)∧(if ((decide (r36 < (0:Int)))=true) then ((true=true)∧(K [(aB false)] [])) else ((true=true)∧(((((List.length r24.snd)≤(1048576:Nat))∧(∀ x:Frm,(List.Mem x r24.snd)→((List.length x.data)≤(1048576:Nat))))∧(((0:Int)≤r36)∧(((r36 + (cntFF r24.snd))≤(1099511627776:Int))∧(r24.snd=(markFF r24.snd r36)))))∧(∀ r37:Int,(r37=(r36 + (cntFF r24.snd)))→(true=true)∧(if ((decide (r37 < (0:Int)))=true) then ((true=true)∧(K [(aB false)] [])) else (if ((r37 != r24.fst)=true) then ((true=true)∧(K [(aB false)] [])) else ((true=true)∧(K [(aB true)] [])))))))))))))))))))))))))))))))))))))))))))))))))))))))))))))))))))))))))))))))))))))))))))))))))))))))))))))))))))))))))))))))))))))))))))))))))))))))))))))))) := by
  obtain ⟨_, hp1, hp2⟩ := hp
  have hw := wf_rx hp1
  have hv := wf_frm hp2
  have hO := hear_ok c t f
  have hH : f.data.length ≤ 1048576 → (rxHear c t f).says.length ≤ 1 ∧ 0 ≤ cntFF (rxHear c t f).says ∧ cntFF (rxHear c t f).says ≤ 8 ∧ (rxHear c t f).sdus.length ≤ 1 ∧ 0 ≤ cntB (rxHear c t f).sdus ∧ cntB (rxHear c t f).sdus ≤ 1048576 ∧ (rxHear c t f).r.join.got.length ≤ 1048576 := fun h => ⟨(hO h).say.len, (hO h).say.c0, (hO h).say.c1, (hO h).sdu.len, (hO h).sdu.c0, (hO h).sdu.c1, (hO h).got⟩
  clear hp1 hp2

  repeat' first
    | exact rfl
    | exact True.intro
    | exact hk _ rfl
    | with_reducible apply And.intro
    | with_reducible refine andI ?_
    | (with_reducible intro y_ hy_; subst hy_; try simp only [RxS.eta, Frm.eta, Cfg.eta])
    | with_reducible intro y_
    | with_reducible assumption
    | refine ifTr ?_
    | refine ifEq rfl ?_
    | refine ifNeB rfl ?_
    | refine ifLt (by omega) ?_
    | refine ifNe (by omega) ?_
    | refine ifLtB (fun h => ?_) (fun h => ?_)
    | omega
    | exact hw.1
    | exact hv.1
    | exact (hO (by omega)).say.le ‹List.Mem _ _›
    | exact (hO (by omega)).say.le2 ‹List.Mem _ _›
    | exact (hO (by omega)).sdu.le ‹List.Mem _ _› (by decide)
    | exact (hO (by omega)).sdu.le2 ‹List.Mem _ _› (by decide)
    | exact MarkBB.to (by assumption) (by omega)
    | exact MarkBB.le ‹List.Mem _ _› (by assumption)
    | exact Nat.le_trans (MarkBB.le ‹List.Mem _ _› (by assumption)) (by decide)
    | exact MarkB.to (by assumption) (by omega)
    | exact MarkF.to (by assumption) (by omega)
    | exact MarkF.le ‹List.Mem _ _› (by assumption)
    | exact Nat.le_trans (MarkF.le ‹List.Mem _ _› (by assumption)) (by decide)
theorem w_laws_FnExactRxHear : Valid Try.prog 7 c_laws_FnExactRxHear :=
  valid_ctr2 (V := V_laws_FnExactRxHear) (tysB_ok tys_ok) ⟨(CallsL.cons w_laws_szRxState (CallsL.cons w_laws_toRxState (CallsL.cons w_laws_eqFrmFrame (CallsL.cons w_laws_eqRxState (CallsL.cons w_laws_eqFrmFrameS (CallsL.cons w_laws_heldRxState (CallsL.cons w_laws_heldFrmFrameS (CallsL.cons w_laws_szFrmFrame (CallsL.cons w_spec_RxHear (CallsL.cons w_laws_toCfgOpts (CallsL.cons w_laws_toFrmFrame (CallsL.cons w_impl_RxHear_x (CallsL.cons w_laws_eqByteSS (CallsL.cons w_laws_heldByteSS (CallsL.nil _))))))))))))))), (IosL.cons w_laws_markRxState (IosL.cons w_laws_markFrmFrame (IosL.cons w_laws_markFrmFrameS (IosL.cons w_laws_markByteSS (IosL.nil _)))))⟩ mixed 5 8 Try.func7 rfl (by kernel_rfl)
    (fun c hc => by
      obtain rfl := Option.some.inj hc
      exact ⟨trivial, ⟨trivial, ⟨trivial, ⟨⟨trivial, ⟨⟨trivial, trivial⟩, trivial⟩⟩, ⟨trivial, ⟨⟨trivial, ⟨⟨trivial, trivial⟩, trivial⟩⟩, ⟨trivial, ⟨trivial, ⟨trivial, ⟨trivial, ⟨⟨trivial, ⟨⟨trivial, trivial⟩, trivial⟩⟩, ⟨⟨trivial, ⟨⟨trivial, trivial⟩, trivial⟩⟩, ⟨⟨trivial, ⟨⟨trivial, trivial⟩, trivial⟩⟩, ⟨trivial, ⟨trivial, ⟨trivial, ⟨⟨trivial, ⟨⟨trivial, trivial⟩, trivial⟩⟩, ⟨trivial, ⟨trivial, ⟨trivial, ⟨trivial, ⟨trivial, ⟨trivial, ⟨⟨trivial, ⟨⟨trivial, trivial⟩, trivial⟩⟩, ⟨trivial, ⟨⟨trivial, ⟨⟨trivial, trivial⟩, trivial⟩⟩, ⟨trivial, ⟨⟨trivial, ⟨⟨trivial, trivial⟩, trivial⟩⟩, ⟨⟨trivial, ⟨⟨trivial, trivial⟩, trivial⟩⟩, ⟨trivial, ⟨⟨trivial, ⟨⟨trivial, trivial⟩, trivial⟩⟩, ⟨trivial, ⟨trivial, ⟨⟨trivial, ⟨⟨trivial, trivial⟩, trivial⟩⟩, ⟨trivial, ⟨⟨trivial, ⟨⟨trivial, trivial⟩, trivial⟩⟩, ⟨trivial, ⟨⟨trivial, ⟨⟨trivial, trivial⟩, trivial⟩⟩, ⟨⟨trivial, ⟨⟨trivial, trivial⟩, trivial⟩⟩, ⟨trivial, trivial⟩⟩⟩⟩⟩⟩⟩⟩⟩⟩⟩⟩⟩⟩⟩⟩⟩⟩⟩⟩⟩⟩⟩⟩⟩⟩⟩⟩⟩⟩⟩⟩⟩⟩⟩⟩⟩⟩⟩⟩)
    (fun x K hp hk => ⟨_, by kernel_rfl, vF_laws_FnExactRxHear x.1 x.2.1 x.2.2 K hp (fun r h => hk r h)⟩)
end Go.Proofs.YtjladmhjpikdhaaE
