/- A part of the proof of laws of the program: what calls of the program answer. Conditions: none. -/
import Derived.Test.YtfcllghcdeifbaaMe325cf6e
set_option linter.unusedVariables false
set_option linter.unusedSimpArgs false
set_option linter.unusedSectionVars false

/- Contracts: LawXTh. Conditions: none. -/
set_option linter.unusedVariables false
set_option maxHeartbeats 1600000
namespace Go.Proofs.YtfcllghcdeifbaaE
open Go
theorem mk_self {l x : List Int} {k : Int} (h : l = markB x k) : l = markB l k := by rw [h, markB_idem]
theorem Wf.row {k : RK} {l : List k.El} (h : Wf (.r k l)) : l.length ≤ maxLen ∧ ∀ y ∈ flat k l, Wf y := by
  cases h with
  | r _ _ h1 h2 => exact ⟨h1, h2⟩
theorem Wf.bytes {l : List Int} (h : Wf (.r .u8 l)) : l.length ≤ 9223372036854775807 ∧ Bytes l := by
  obtain ⟨h1, h2⟩ := Wf.row (k := .u8) h
  refine ⟨h1, Bytes.of_wf fun y hy => ?_⟩
  have h3 : D.i .u8 y ∈ flat .u8 l := List.mem_flatMap.2 ⟨y, hy, List.mem_singleton.2 rfl⟩
  have h4 := h2 _ h3
  cases h4 with
  | i _ _ h5 => exact h5
theorem wf_frm {f : Frm} (h : ∀ d ∈ RK.cells .frm f, Wf d) : f.data.length ≤ 9223372036854775807 ∧ Bytes f.data := Wf.bytes (h (.r .u8 f.data) (by simp [RK.cells]))
theorem mem_flat {k : RK} {l : List k.El} {x : k.El} (hx : x ∈ l) {d : D} (hd : d ∈ k.cells x) : d ∈ flat k l := List.mem_flatMap.2 ⟨x, hx, hd⟩
theorem Wf.parts {l : List Part} (h : Wf (.r .part l)) : l.length ≤ 9223372036854775807 ∧ ∀ p ∈ l, p.data.length ≤ 9223372036854775807 := by
  obtain ⟨h1, h2⟩ := Wf.row (k := .part) h
  exact ⟨h1, fun p hp => (Wf.bytes (h2 _ (mem_flat (k := .part) hp (d := .r .u8 p.data) (by simp [RK.cells])))).1⟩
theorem Wf.partsB {l : List Part} (h : Wf (.r .part l)) : ∀ p ∈ l, Bytes p.data := by
  obtain ⟨h1, h2⟩ := Wf.row (k := .part) h
  exact fun p hp => (Wf.bytes (h2 _ (mem_flat (k := .part) hp (d := .r .u8 p.data) (by simp [RK.cells])))).2
theorem wf_tx {t : TxS} (h : ∀ d ∈ txC t, Wf d) : (t.flight.length ≤ 9223372036854775807 ∧ ∀ p ∈ t.flight, p.data.length ≤ 9223372036854775807) ∧ (t.queue.length ≤ 9223372036854775807 ∧ ∀ p ∈ t.queue, p.data.length ≤ 9223372036854775807) :=
  ⟨Wf.parts (h (.r .part t.flight) (by simp [txC])), Wf.parts (h (.r .part t.queue) (by simp [txC]))⟩
theorem wf_ct {t : CtS} (h : ∀ d ∈ ctC t, Wf d) : t.queue.length ≤ 9223372036854775807 ∧ ∀ p ∈ t.queue, p.data.length ≤ 9223372036854775807 := Wf.parts (h (.r .part t.queue) (by simp [ctC]))
theorem wf_rx {t : RxS} (h : ∀ d ∈ rxC t, Wf d) : t.join.got.length ≤ 9223372036854775807 ∧ Bytes t.join.got := Wf.bytes (h (.r .u8 t.join.got) (by simp [rxC]))
theorem wf_cr {t : CrS} (h : ∀ d ∈ crC t, Wf d) : t.join.got.length ≤ 9223372036854775807 ∧ Bytes t.join.got := Wf.bytes (h (.r .u8 t.join.got) (by simp [crC]))
theorem wf_num {k : IntKind} {x : Int} (h : Wf (.i k x)) : (Lit.int k x).wf = true := by
  cases h; assumption
theorem ifEq {α : Type} [DecidableEq α] {a b : α} {P Q : Prop} (h : a = b) (q : Q) : if (!decide (a = b)) = true then P else Q := by
  rw [if_neg (by simp [h])]; exact q
theorem ifTr {i : Decidable True} {P Q : Prop} (q : Q) : if (!(@decide True i)) = true then P else Q := by
  rw [if_neg (by simp)]; exact q
theorem ifLt {a b : Int} {P Q : Prop} (h : b ≤ a) (q : Q) : if (decide (a < b)) = true then P else Q := by
  rw [if_neg (by simp; omega)]; exact q
theorem ifNe {a b : Int} {P Q : Prop} (h : a = b) (q : Q) : if (a != b) = true then P else Q := by
  rw [if_neg (by simp [h])]; exact q
theorem ifNeB {a b : Bool} {P Q : Prop} (h : a = b) (q : Q) : if (a != b) = true then P else Q := by
  rw [if_neg (by simp [h])]; exact q
theorem ifLtB {a b : Int} {P Q : Prop} (h : a < b → P) (q : ¬ a < b → Q) : if (decide (a < b)) = true then P else Q := by
  by_cases hx : a < b
  · rw [if_pos (by simp [hx])]; exact h hx
  · rw [if_neg (by simp [hx])]; exact q hx
theorem andI {a b c : Prop} (h : a → b → c) : a ∧ b → c := fun x => h x.1 x.2
structure TxB (t : TxS) : Prop where
  fl : t.flight.length ≤ 1048576
  fd : ∀ p ∈ t.flight, p.data.length ≤ 1048576
  ql : t.queue.length ≤ 1048576
  qd : ∀ p ∈ t.queue, p.data.length ≤ 1048576
  fc : cntP t.flight ≤ 4194304
  qc : cntP t.queue ≤ 4194304
theorem TxB.of (t : TxS) (h : (t.flight.length : Int) + szP t.flight + t.queue.length + szP t.queue ≤ 1048576) : TxB t := by
  have h1 := szP_nonneg t.flight
  have h2 := szP_nonneg t.queue
  have h3 := cnt_sz t.flight
  have h4 := cnt_sz t.queue
  refine ⟨by omega, fun p hp => ?_, by omega, fun p hp => ?_, by omega, by omega⟩
  · have := szP_mem hp; omega
  · have := szP_mem hp; omega
theorem TxB.z : TxB zTx := ⟨by simp [zTx], fun p h => (by cases h), by simp [zTx], fun p h => (by cases h), by show (0 : Int) ≤ 4194304; decide, by show (0 : Int) ≤ 4194304; decide⟩
theorem TxB.c0 (t : TxS) : 0 ≤ cntP t.flight ∧ 0 ≤ cntP t.queue := ⟨cntP_nonneg _, cntP_nonneg _⟩
theorem TxB.fle {t : TxS} {y : Part} (h : TxB t) (hy : List.Mem y t.flight) : y.data.length ≤ 1048576 := h.fd y hy
theorem TxB.qle {t : TxS} {y : Part} (h : TxB t) (hy : List.Mem y t.queue) : y.data.length ≤ 1048576 := h.qd y hy
theorem cntP_drop_le (l : List Part) (i : Nat) : cntP (l.drop i) ≤ cntP l := by
  have h := cntP_app (l.take i) (l.drop i)
  rw [List.take_append_drop] at h
  have := cntP_nonneg (l.take i)
  omega
theorem txTick_B {c : Cfg} {t : TxS} {a : Int} {b : Bool} (h : TxB t) : TxB (txTick c t a b).t := by
  obtain ⟨h1, h2, h3, h4, h5, h6⟩ := h
  unfold txTick txTick1
  repeat' split
  all_goals first | exact ⟨h1, h2, h3, h4, h5, h6⟩ | exact TxB.z
theorem txTick_f {c : Cfg} {t : TxS} {a : Int} {b : Bool} : (txTick c t a b).f.data.length ≤ 8 := by
  unfold txTick txTick1
  repeat' split
  all_goals simp [zFrm]
theorem txHear_B {c : Cfg} {t : TxS} {f : Frm} (h : TxB t) : TxB (txHear c t f) := by
  obtain ⟨h1, h2, h3, h4, h5, h6⟩ := h
  unfold txHear
  split
  · have hA : TxB (txAcked t f.ack) := by
      unfold txAcked
      split
      · exact ⟨h1, h2, h3, h4, h5, h6⟩
      · refine ⟨?_, fun p hp => h2 p (List.mem_of_mem_drop hp), h3, h4, ?_, h6⟩
        · show (t.flight.drop _).length ≤ 1048576
          rw [List.length_drop]; omega
        · have := cntP_drop_le t.flight ((f.ack - t.acked + 8) % 8).toNat
          show cntP (t.flight.drop _) ≤ 4194304
          omega
    obtain ⟨g1, g2, g3, g4, g5, g6⟩ := hA
    unfold txHear1 txSaid
    dsimp only
    repeat' split
    all_goals first | exact ⟨h1, h2, h3, h4, h5, h6⟩ | exact ⟨g1, g2, g3, g4, g5, g6⟩
  · exact TxB.z
theorem TxS.eta (t : TxS) : (⟨t.next, t.acked, t.flight, t.sent, t.queue, t.asks, t.tries, t.held, t.count, t.dead⟩ : TxS) = t := rfl
theorem Frm.eta (f : Frm) : (⟨f.kind, f.seq, f.ack, f.poll, f.final, f.say, f.seg, f.len, f.data⟩ : Frm) = f := rfl
theorem Cfg.eta (c : Cfg) : (⟨c.mode, c.win, c.mps, c.mtu, c.try_⟩ : Cfg) = c := rfl

/-! laws.FnExactTxHear -/
def c_laws_FnExactTxHear : Ent := ctr (α := (Cfg) × (TxS) × (Frm)) (ρ := (Bool)) [] [] (rs rCfg (rs rTx (rs1 rFrm))) (fun x_ => (fun (c : Cfg) (t : TxS) (f : Frm) => ((∀ d ∈ cfgC c, Wf d) ∧ (∀ d ∈ txC t, Wf d) ∧ ∀ d ∈ RK.cells .frm f, Wf d)) x_.1 x_.2.1 x_.2.2) (fun x_ r_ => (fun x_ => (fun (c : Cfg) (t : TxS) (f : Frm) => ((fun r_ => (fun (r : Bool) => (r = true)) r_))) x_.1 x_.2.1 x_.2.2) x_ r_) (fun r_ => (fun (r : Bool) => ([rB.to r])) r_) (fun r_ => (fun (r : Bool) => ([])) r_)
def V_laws_FnExactTxHear : Env := ⟨tys, [(16, c_laws_szTxState), (18, c_laws_toCfgOpts), (19, c_laws_toTxState), (22, c_laws_eqTxState), (26, c_laws_heldTxState), (29, c_laws_eqFrmFrame), (48, c_impl_TxHear_x), (51, c_laws_szFrmFrame), (52, c_spec_TxHear), (53, c_laws_toFrmFrame)], [(34, [0, 1]), (36, [2]), (41, [3, 4])], [(3, 0), (4, 1), (5, 2), (8, 3), (9, 4), (10, 5), (11, 6), (15, 7)], [(11, ([], [3, 4]))], [], [500064], [(24, c_laws_markTxState), (30, c_laws_markFrmFrame)], [(8, [(0, false), (2, false), (4, false), (7, false), (1, true), (3, true), (5, true), (6, true), (8, true)]), (11, [(0, false), (2, false), (3, false), (5, false), (1, true), (4, true), (6, true)]), (14, [(0, false), (1, false), (2, true), (3, true), (4, false)]), (16, [(0, false), (1, false), (2, true), (3, true), (4, false)]), (31, [(0, false), (2, false), (4, false), (7, false), (1, true), (3, true), (5, true), (6, true), (8, true)])]⟩
end Go.Proofs.YtfcllghcdeifbaaE


/- Calls answer what is promised: LawXTh. Conditions: none. -/
set_option linter.unusedVariables false
set_option maxHeartbeats 1600000
namespace Go.Proofs.YtfcllghcdeifbaaE
open Go
set_option maxRecDepth 40000 in
theorem vF_laws_FnExactTxHear (c:Cfg) (t:TxS) (f:Frm) (K:List Arg→List (List AC)→Prop) (hp:(∀ d ∈ cfgC c,Wf d)∧(∀ d ∈ txC t,Wf d)∧∀ d ∈ RK.cells .frm f,Wf d) (hk:∀ (r:Bool),(r=true)→K ([rB.to r]) ([])):(true=true)∧(((((List.length t.flight)≤(9223372036854775807:Nat))∧(∀ p:Part,(List.Mem p t.flight)→((List.length p.data)≤(9223372036854775807:Nat))))∧((((List.length t.queue)≤(9223372036854775807:Nat))∧(∀ p:Part,(List.Mem p t.queue)→((List.length p.data)≤(9223372036854775807:Nat))))∧(((0:Int)≤(1048576:Int))∧((1048576:Int)≤(1048576:Int)))))∧(∀ r:Int,(((r=(((((1048576:Int) - (((List.length t.flight):Nat):Int)) - (szP t.flight)) - (((List.length t.queue):Nat):Int)) - (szP t.queue)))∧((0:Int)≤r))∨(r=(-1:Int)))→(true=true)∧(if ((decide (r < (0:Int)))=true) then ((true=true)∧(K [(aB true)] [])) else ((true=true)∧((((List.length f.data)≤(9223372036854775807:Nat))∧(((0:Int)≤r)∧(r≤(1048576:Int))))∧(∀ r1:Int,(((r1=(r - (((List.length f.data):Nat):Int)))∧((0:Int)≤r1))∨(r1=(-1:Int)))→(true=true)∧(if ((decide (r1 < (0:Int)))=true) then ((true=true)∧(K [(aB true)] [])) else ((true=true)∧(True∧(∀ r2:Cfg,(r2=c)→(true=true)∧((true=true)∧((true=true)∧(((((List.length t.flight)≤(1048576:Nat))∧(∀ p:Part,(List.Mem p t.flight)→((List.length p.data)≤(1048576:Nat))))∧(((List.length t.queue)≤(1048576:Nat))∧(∀ p:Part,(List.Mem p t.queue)→((List.length p.data)≤(1048576:Nat)))))∧(∀ r3:TxS,(r3=t)→((List.length r3.flight)=(List.length r3.flight))∧(((List.length r3.queue)=(List.length r3.queue))∧((true=true)∧((true=true)∧((true=true)∧(((List.length f.data)≤(137438953472:Nat))∧(∀ r4:Frm,(r4=f)→(true=true)∧((true=true)∧((true=true)∧(((List.length r4.data)≤(137438953472:Nat))∧(∀ r5:TxS,(r5=(txHear r2 (TxS.mk r3.next r3.acked r3.flight r3.sent r3.queue r3.asks r3.tries r3.held r3.count r3.dead) (Frm.mk r4.kind r4.seq r4.ack r4.poll r4.final r4.say r4.seg r4.len r4.data)))→(true=true)∧((true=true)∧((true=true)∧((true=true)∧(((((List.length t.flight)≤(1048576:Nat))∧(∀ p:Part,(List.Mem p t.flight)→((List.length p.data)≤(1048576:Nat))))∧(((List.length t.queue)≤(1048576:Nat))∧(∀ p:Part,(List.Mem p t.queue)→((List.length p.data)≤(1048576:Nat)))))∧(∀ r6:TxS,(r6=t)→((List.length r6.flight)=(List.length r6.flight))∧(((List.length r6.queue)=(List.length r6.queue))∧((true=true)∧((true=true)∧(((List.length f.data)≤(137438953472:Nat))∧(∀ r7:Frm,(r7=f)→(true=true)∧((true=true)∧(True∧(∀ r8:Cfg,(r8=c)→(true=true)∧((true=true)∧((true=true)∧(((List.length r7.data)≤(137438953472:Nat))∧(∀ r9:TxS,(r9=(txHear r8 (TxS.mk r6.next r6.acked r6.flight r6.sent r6.queue r6.asks r6.tries r6.held r6.count r6.dead) (Frm.mk r7.kind r7.seq r7.ack r7.poll r7.final r7.say r7.seg r7.len r7.data)))→((List.length r9.flight)=(List.length r9.flight))∧(((List.length r9.queue)=(List.length r9.queue))∧((true=true)∧((true=true)∧((true=true)∧((true=true)∧(((((List.length r9.flight)≤(137438953472:Nat))∧(∀ y:Part,(List.Mem y r9.flight)→((List.length y.data)≤(137438953472:Nat))))∧(((List.length r9.queue)≤(137438953472:Nat))∧(∀ y:Part,(List.Mem y r9.queue)→((List.length y.data)≤(137438953472:Nat)))))∧(∀ r10:Bool,(r10=(decide ((TxS.mk r9.next r9.acked r9.flight r9.sent r9.queue r9.asks r9.tries r9.held r9.count r9.dead)=(TxS.mk r5.next r5.acked r5.flight r5.sent r5.queue r5.asks r5.tries r5.held r5.count r5.dead))))→(true=true)∧(if ((!r10)=true) then ((true=true)∧(K [(aB false)] [])) else ((true=true)∧(((((List.length t.flight)≤(1048576:Nat))∧(∀ p:Part,(List.Mem p t.flight)→((List.length p.data)≤(1048576:Nat))))∧(((List.length t.queue)≤(1048576:Nat))∧(∀ p:Part,(List.Mem p t.queue)→((List.length p.data)≤(1048576:Nat)))))∧(∀ r11:TxS,(r11=t)→((List.length r11.flight)=(List.length r11.flight))∧(((List.length r11.queue)=(List.length r11.queue))∧((true=true)∧((true=true)∧((true=true)∧(((((List.length r6.flight)≤(137438953472:Nat))∧(∀ y:Part,(List.Mem y r6.flight)→((List.length y.data)≤(137438953472:Nat))))∧(((List.length r6.queue)≤(137438953472:Nat))∧(∀ y:Part,(List.Mem y r6.queue)→((List.length y.data)≤(137438953472:Nat)))))∧(∀ r12:Bool,(r12=(decide ((TxS.mk r6.next r6.acked r6.flight r6.sent r6.queue r6.asks r6.tries r6.held r6.count r6.dead)=(TxS.mk r11.next r11.acked r11.flight r11.sent r11.queue r11.asks r11.tries r11.held r11.count r11.dead))))→(true=true)∧((true=true)∧(if ((!r12)=true) then ((true=true)∧(K [(aB false)] [])) else ((true=true)∧(((List.length f.data)≤(137438953472:Nat))∧(∀ r13:Frm,(r13=f)→(true=true)∧((true=true)∧((true=true)∧(((List.length r7.data)≤(137438953472:Nat))∧(∀ r14:Bool,(r14=(decide ((Frm.mk r7.kind r7.seq r7.ack r7.poll r7.final r7.say r7.seg r7.len r7.data)=(Frm.mk r13.kind r13.seq r13.ack r13.poll r13.final r13.say r13.seg r13.len r13.data))))→(true=true)∧((true=true)∧(if ((!r14)=true) then ((true=true)∧(K [(aB false)] [])) else ((true=true)∧((((List.length r6.flight)=(List.length r6.flight))∧((List.length r6.queue)=(List.length r6.queue)))∧(((((List.length r6.flight)≤(1048576:Nat))∧(∀ p:Part,(List.Mem p r6.flight)→((List.length p.data)≤(1048576:Nat))))∧((((List.length r6.queue)≤(1048576:Nat))∧(∀ p:Part,(List.Mem p r6.queue)→((List.length p.data)≤(1048576:Nat))))∧(((0:Int)≤(1:Int))∧((((1:Int) + (cntP r6.flight)) + (cntP r6.queue))≤(1099511627776:Int)))))∧(∀ r15:(Prod Int (Prod (List Part) (List Part))),((r15.fst=(((1:Int) + (cntP r6.flight)) + (cntP r6.queue)))∧((((List.length r15.snd.fst)=(List.length r6.flight))∧(((cntP r15.snd.fst)=(cntP r6.flight))∧(MarkP r6.flight (1:Int) r15.snd.fst)))∧(((List.length r15.snd.snd)=(List.length r6.queue))∧(((cntP r15.snd.snd)=(cntP r6.queue))∧(MarkP r6.queue ((1:Int) + (cntP r6.flight)) r15.snd.snd)))))→(true=true)∧((true=true)∧((((List.length r7.data)≤(137438953472:Nat))∧(((0:Int)≤r15.fst)∧(r15.fst≤(1099511627776:Int))))∧(∀ r16:(Prod Int (List Int)),((r16.fst=(r15.fst + (((List.length r7.data):Nat):Int)))∧(((List.length r16.snd)=(List.length r7.data))∧(MarkB r7.data r15.fst r16.snd)))→(true=true)∧(if ((decide (r16.fst < (0:Int)))=true) then ((true=true)∧(K [(aB false)] [])) else ((true=true)∧(((((List.length r9.flight)≤(137438953472:Nat))∧(∀ y:Part,(List.Mem y r9.flight)→((List.length y.data)≤(137438953472:Nat))))∧(((List.length r9.queue)≤(137438953472:Nat))∧(∀ y:Part,(List.Mem y r9.queue)→((List.length y.data)≤(137438953472:Nat)))))∧(∀ r17:Bool,(r17=(decide ((TxS.mk r9.next r9.acked r9.flight r9.sent r9.queue r9.asks r9.tries r9.held r9.count r9.dead)=(TxS.mk r5.next r5.acked r5.flight r5.sent r5.queue r5.asks r5.tries r5.held r5.count r5.dead))))→(true=true)∧(if ((!r17)=true) then ((true=true)∧(K [(aB false)] [])) else ((true=true)∧((((List.length r9.flight)=(List.length r9.flight))∧((List.length r9.queue)=(List.length r9.queue)))∧(((((List.length r9.flight)≤(1048576:Nat))∧(∀ p:Part,(List.Mem p r9.flight)→((List.length p.data)≤(1048576:Nat))))∧((((List.length r9.queue)≤(1048576:Nat))∧(∀ p:Part,(List.Mem p r9.queue)→((List.length p.data)≤(1048576:Nat))))∧(((0:Int)≤(1:Int))∧((((1:Int) + (cntP r9.flight)) + (cntP r9.queue))≤(1099511627776:Int)))))∧(∀ r18:(Prod Int (Prod (List Part) (List Part))),((r18.fst=(((1:Int) + (cntP r9.flight)) + (cntP r9.queue)))∧((((List.length r18.snd.fst)=(List.length r9.flight))∧(((cntP r18.snd.fst)=(cntP r9.flight))∧(MarkP r9.flight (1:Int) r18.snd.fst)))∧(((List.length r18.snd.snd)=(List.length r9.queue))∧(((cntP r18.snd.snd)=(cntP r9.queue))∧(MarkP r9.queue ((1:Int) + (cntP r9.flight)) r18.snd.snd)))))→(true=true)∧((true=true)∧(((((List.length r18.snd.fst)≤(1048576:Nat))∧(∀ p:Part,(List.Mem p r18.snd.fst)→((List.length p.data)≤(1048576:Nat))))∧((((List.length r18.snd.snd)≤(1048576:Nat))∧(∀ p:Part,(List.Mem p r18.snd.snd)→((List.length p.data)≤(1048576:Nat))))∧(((0:Int)≤(1:Int))∧(((((1:Int) + (cntP r18.snd.fst)) + (cntP r18.snd.snd))≤(1099511627776:Int))∧((r18.snd.fst=(markP r18.snd.fst (1:Int)))∧(r18.snd.snd=(markP r18.snd.snd ((1:Int) + (cntP r18.snd.fst)))))))))∧(∀ r19:Int,(r19=(((1:Int) + (cntP r18.snd.fst)) + (cntP r18.snd.snd)))→(true=true)∧(if ((decide (r19 < (0:Int)))=true) then ((true=true)∧(K [(aB false)] [])) else (if ((r19 != r18.fst)=true) then ((true=true)∧(K [(aB false)] [])) else ((true=true)∧(True∧(∀ r20:Cfg,(r20=c)→(true=true)∧((true=true)∧((true=true)∧(((((List.length t.flight)≤(1048576:Nat))∧(∀ p:Part,(List.Mem p t.flight)→((List.length p.data)≤(1048576:Nat))))∧(((List.length t.queue)≤(1048576:Nat))∧(∀ p:Part,(List.Mem p t.queue)→((List.length p.data)≤(1048576:Nat)))))∧(∀ r21:TxS,(r21=t)→((List.length r21.flight)=(List.length r21.flight))∧(((List.length r21.queue)=(List.length r21.queue))∧((true=true)∧((true=true)∧((true=true)∧(((List.length f.data)≤(137438953472:Nat))∧(∀ r22:Frm,(r22=f)→(true=true)∧((true=true)∧((true=true)∧(((List.length r22.data)≤(137438953472:Nat))∧(∀ r23:TxS,(r23=(txHear r20 (TxS.mk r21.next r21.acked r21.flight r21.sent r21.queue r21.asks r21.tries r21.held r21.count r21.dead) (Frm.mk r22.kind r22.seq r22.ack r22.poll r22.final r22.say r22.seg r22.len r22.data)))→((List.length r23.flight)=(List.length r23.flight))∧(((List.length r23.queue)=(List.length r23.queue))∧((true=true)∧((true=true)∧((true=true)∧((true=true)∧(((((List.length r23.flight)≤(137438953472:Nat))∧(∀ y:Part,(List.Mem y r23.flight)→((List.length y.data)≤(137438953472:Nat))))∧(((List.length r23.queue)≤(137438953472:Nat))∧(∀ y:Part,(List.Mem y r23.queue)→((List.length y.data)≤(137438953472:Nat)))))∧(∀ r24:Bool,(r24=(decide ((TxS.mk r23.next r23.acked r23.flight r23.sent r23.queue r23.asks r23.tries r23.held r23.count r23.dead)=(TxS.mk r5.next r5.acked r5.flight r5.sent r5.queue r5.asks r5.tries r5.held r5.count r5.dead))))→(true=true)∧(if ((!r24)=true) then ((true=true)∧(K [(aB false)] [])) else ((true=true)∧(((((List.length r18.snd.fst)≤(1048576:Nat))∧(∀ p:Part,(List.Mem p r18.snd.fst)→((List.length p.data)≤(1048576:Nat))))∧((((List.length r18.snd.snd)≤(1048576:Nat))∧(∀ p:Part,(List.Mem p r18.snd.snd)→((List.length p.data)≤(1048576:Nat))))∧(((0:Int)≤(1:Int))∧(((((1:Int) + (cntP r18.snd.fst)) + (cntP r18.snd.snd))≤(1099511627776:Int))∧((r18.snd.fst=(markP r18.snd.fst (1:Int)))∧(r18.snd.snd=(markP r18.snd.snd ((1:Int) + (cntP r18.snd.fst)))))))))∧(∀ r25:Int,(r25=(((1:Int) + (cntP r18.snd.fst)) + (cntP r18.snd.snd)))→(true=true)∧(if ((decide (r25 < (0:Int)))=true) then ((true=true)∧(K [(aB false)] [])) else (if ((r25 != r18.fst)=true) then ((true=true)∧(K [(aB false)] [])) else ((true=true)∧(K [(aB true)] [])))))))))))))))))))))))))))))))))))))))))))))))))))))))))))))))))))))))))))))))))))))))))))))))))))))))))))))))))))))))))) := by
  obtain ⟨_, hp2, hp3⟩ := hp
  have hw := wf_tx hp2
  have hB0 := TxB.of t
  have hG0 := txHear_B (c := c) (t := t) (f := f)
  have s1 := szP_nonneg t.flight
  have s2 := szP_nonneg t.queue
  obtain ⟨z1, z2⟩ := TxB.c0 t
  obtain ⟨z3, z4⟩ := TxB.c0 (txHear c t f)
  have hb : (t.flight.length : Int) + szP t.flight + t.queue.length + szP t.queue ≤ 1048576 → t.flight.length ≤ 1048576 ∧ t.queue.length ≤ 1048576 ∧ cntP t.flight ≤ 4194304 ∧ cntP t.queue ≤ 4194304 ∧ (txHear c t f).flight.length ≤ 1048576 ∧ (txHear c t f).queue.length ≤ 1048576 ∧ cntP (txHear c t f).flight ≤ 4194304 ∧ cntP (txHear c t f).queue ≤ 4194304 := fun h => ⟨(hB0 h).fl, (hB0 h).ql, (hB0 h).fc, (hB0 h).qc, (hG0 (hB0 h)).fl, (hG0 (hB0 h)).ql, (hG0 (hB0 h)).fc, (hG0 (hB0 h)).qc⟩
  have hv := wf_frm hp3
  clear hp2 hp3

  repeat' first
    | exact rfl
    | exact True.intro
    | exact hk _ rfl
    | with_reducible apply And.intro
    | with_reducible refine andI ?_
    | (with_reducible intro y_ hy_; subst hy_; try simp only [TxS.eta, Frm.eta, Cfg.eta])
    | with_reducible intro y_
    | with_reducible assumption
    | refine ifTr ?_
    | refine ifEq rfl ?_
    | refine ifNeB rfl ?_
    | refine ifLt (by omega) ?_
    | refine ifNe (by omega) ?_
    | refine ifLtB (fun h => ?_) (fun h => ?_)
    | omega
    | exact MarkB.to (by assumption) (by omega)
    | exact MarkP.to (by assumption) (by omega)
    | exact MarkP.le ‹List.Mem _ _› (by assumption)
    | exact Nat.le_trans (MarkP.le ‹List.Mem _ _› (by assumption)) (by decide)
    | exact (hB0 (by omega)).fle ‹List.Mem _ _›
    | exact (hB0 (by omega)).qle ‹List.Mem _ _›
    | exact (hG0 (hB0 (by omega))).fle ‹List.Mem _ _›
    | exact (hG0 (hB0 (by omega))).qle ‹List.Mem _ _›
    | exact Nat.le_trans ((hB0 (by omega)).fle ‹List.Mem _ _›) (by decide)
    | exact Nat.le_trans ((hB0 (by omega)).qle ‹List.Mem _ _›) (by decide)
    | exact Nat.le_trans ((hG0 (hB0 (by omega))).fle ‹List.Mem _ _›) (by decide)
    | exact Nat.le_trans ((hG0 (hB0 (by omega))).qle ‹List.Mem _ _›) (by decide)
    | exact hw.1.1
    | exact hw.1.2 _ ‹List.Mem _ _›
    | exact hw.2.1
    | exact hw.2.2 _ ‹List.Mem _ _›
    | exact hv.1
theorem w_laws_FnExactTxHear : Valid Try.prog 12 c_laws_FnExactTxHear :=
  valid_ctr2 (V := V_laws_FnExactTxHear) (tysB_ok tys_ok) ⟨(CallsL.cons w_laws_szTxState (CallsL.cons w_laws_toCfgOpts (CallsL.cons w_laws_toTxState (CallsL.cons w_laws_eqTxState (CallsL.cons w_laws_heldTxState (CallsL.cons w_laws_eqFrmFrame (CallsL.cons w_impl_TxHear_x (CallsL.cons w_laws_szFrmFrame (CallsL.cons w_spec_TxHear (CallsL.cons w_laws_toFrmFrame (CallsL.nil _))))))))))), (IosL.cons w_laws_markTxState (IosL.cons w_laws_markFrmFrame (IosL.nil _)))⟩ mixed 5 8 Try.func12 rfl (by kernel_rfl)
    (fun c hc => by
      obtain rfl := Option.some.inj hc
      exact ⟨trivial, ⟨trivial, ⟨trivial, ⟨⟨trivial, ⟨⟨trivial, trivial⟩, trivial⟩⟩, ⟨trivial, ⟨⟨trivial, ⟨⟨trivial, trivial⟩, trivial⟩⟩, ⟨trivial, ⟨trivial, ⟨trivial, ⟨trivial, ⟨⟨trivial, ⟨⟨trivial, trivial⟩, trivial⟩⟩, ⟨⟨trivial, ⟨⟨trivial, trivial⟩, trivial⟩⟩, ⟨⟨trivial, ⟨⟨trivial, trivial⟩, trivial⟩⟩, ⟨trivial, ⟨trivial, ⟨trivial, ⟨⟨trivial, ⟨⟨trivial, trivial⟩, trivial⟩⟩, ⟨trivial, ⟨trivial, ⟨trivial, ⟨trivial, ⟨⟨trivial, ⟨⟨trivial, trivial⟩, trivial⟩⟩, ⟨⟨trivial, ⟨⟨trivial, trivial⟩, trivial⟩⟩, ⟨trivial, ⟨⟨trivial, ⟨⟨trivial, trivial⟩, trivial⟩⟩, ⟨trivial, ⟨trivial, ⟨⟨trivial, ⟨⟨trivial, trivial⟩, trivial⟩⟩, ⟨⟨trivial, ⟨⟨trivial, trivial⟩, trivial⟩⟩, ⟨trivial, trivial⟩⟩⟩⟩⟩⟩⟩⟩⟩⟩⟩⟩⟩⟩⟩⟩⟩⟩⟩⟩⟩⟩⟩⟩⟩⟩⟩⟩⟩⟩)
    (fun x K hp hk => ⟨_, by kernel_rfl, vF_laws_FnExactTxHear x.1 x.2.1 x.2.2 K hp (fun r h => hk r h)⟩)
end Go.Proofs.YtfcllghcdeifbaaE
