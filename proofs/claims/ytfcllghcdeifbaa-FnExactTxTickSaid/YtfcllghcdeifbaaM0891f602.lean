/- A part of the proof of laws of the program: what calls of the program answer. Conditions: none. -/
import Derived.Test.YtfcllghcdeifbaaMc7bf187f
set_option linter.unusedVariables false
set_option linter.unusedSimpArgs false
set_option linter.unusedSectionVars false

/- Contracts: LawXTk. Conditions: none. -/
set_option linter.unusedVariables false
set_option maxHeartbeats 1600000
namespace Go.Proofs.YtfcllghcdeifbaaE
open Go
theorem mk_self {l x : List Int} {k : Int} (h : l = markB x k) : l = markB l k := by rw [h, markB_idem]
theorem Wf.row {k : RK} {l : List k.El} (h : Wf (.r k l)) : l.length ≤ maxLen ∧ ∀ y ∈ flat k l, Wf y := by
  cases h with
  | r _ _ h1 h2 => exact ⟨h1, h2⟩
theorem Wf.bytes {l : List Int} (h : Wf (.r .u8 l)) : l.length ≤ 9223372036854775807 ∧ Bytes l := by
  obtain ⟨h1, h2⟩ := Wf.row (k := .u8) h
  refine ⟨h1, Bytes.of_wf fun y hy => ?_⟩
  have h3 : D.i .u8 y ∈ flat .u8 l := List.mem_flatMap.2 ⟨y, hy, List.mem_singleton.2 rfl⟩
  have h4 := h2 _ h3
  cases h4 with
  | i _ _ h5 => exact h5
theorem wf_frm {f : Frm} (h : ∀ d ∈ RK.cells .frm f, Wf d) : f.data.length ≤ 9223372036854775807 ∧ Bytes f.data := Wf.bytes (h (.r .u8 f.data) (by simp [RK.cells]))
theorem mem_flat {k : RK} {l : List k.El} {x : k.El} (hx : x ∈ l) {d : D} (hd : d ∈ k.cells x) : d ∈ flat k l := List.mem_flatMap.2 ⟨x, hx, hd⟩
theorem Wf.parts {l : List Part} (h : Wf (.r .part l)) : l.length ≤ 9223372036854775807 ∧ ∀ p ∈ l, p.data.length ≤ 9223372036854775807 := by
  obtain ⟨h1, h2⟩ := Wf.row (k := .part) h
  exact ⟨h1, fun p hp => (Wf.bytes (h2 _ (mem_flat (k := .part) hp (d := .r .u8 p.data) (by simp [RK.cells])))).1⟩
theorem Wf.partsB {l : List Part} (h : Wf (.r .part l)) : ∀ p ∈ l, Bytes p.data := by
  obtain ⟨h1, h2⟩ := Wf.row (k := .part) h
  exact fun p hp => (Wf.bytes (h2 _ (mem_flat (k := .part) hp (d := .r .u8 p.data) (by simp [RK.cells])))).2
theorem wf_tx {t : TxS} (h : ∀ d ∈ txC t, Wf d) : (t.flight.length ≤ 9223372036854775807 ∧ ∀ p ∈ t.flight, p.data.length ≤ 9223372036854775807) ∧ (t.queue.length ≤ 9223372036854775807 ∧ ∀ p ∈ t.queue, p.data.length ≤ 9223372036854775807) :=
  ⟨Wf.parts (h (.r .part t.flight) (by simp [txC])), Wf.parts (h (.r .part t.queue) (by simp [txC]))⟩
theorem wf_ct {t : CtS} (h : ∀ d ∈ ctC t, Wf d) : t.queue.length ≤ 9223372036854775807 ∧ ∀ p ∈ t.queue, p.data.length ≤ 9223372036854775807 := Wf.parts (h (.r .part t.queue) (by simp [ctC]))
theorem wf_rx {t : RxS} (h : ∀ d ∈ rxC t, Wf d) : t.join.got.length ≤ 9223372036854775807 ∧ Bytes t.join.got := Wf.bytes (h (.r .u8 t.join.got) (by simp [rxC]))
theorem wf_cr {t : CrS} (h : ∀ d ∈ crC t, Wf d) : t.join.got.length ≤ 9223372036854775807 ∧ Bytes t.join.got := Wf.bytes (h (.r .u8 t.join.got) (by simp [crC]))
theorem wf_num {k : IntKind} {x : Int} (h : Wf (.i k x)) : (Lit.int k x).wf = true := by
  cases h; assumption
theorem ifEq {α : Type} [DecidableEq α] {a b : α} {P Q : Prop} (h : a = b) (q : Q) : if (!decide (a = b)) = true then P else Q := by
  rw [if_neg (by simp [h])]; exact q
theorem ifTr {i : Decidable True} {P Q : Prop} (q : Q) : if (!(@decide True i)) = true then P else Q := by
  rw [if_neg (by simp)]; exact q
theorem ifLt {a b : Int} {P Q : Prop} (h : b ≤ a) (q : Q) : if (decide (a < b)) = true then P else Q := by
  rw [if_neg (by simp; omega)]; exact q
theorem ifNe {a b : Int} {P Q : Prop} (h : a = b) (q : Q) : if (a != b) = true then P else Q := by
  rw [if_neg (by simp [h])]; exact q
theorem ifNeB {a b : Bool} {P Q : Prop} (h : a = b) (q : Q) : if (a != b) = true then P else Q := by
  rw [if_neg (by simp [h])]; exact q
theorem ifLtB {a b : Int} {P Q : Prop} (h : a < b → P) (q : ¬ a < b → Q) : if (decide (a < b)) = true then P else Q := by
  by_cases hx : a < b
  · rw [if_pos (by simp [hx])]; exact h hx
  · rw [if_neg (by simp [hx])]; exact q hx
theorem andI {a b c : Prop} (h : a → b → c) : a ∧ b → c := fun x => h x.1 x.2
structure TxB (t : TxS) : Prop where
  fl : t.flight.length ≤ 1048576
  fd : ∀ p ∈ t.flight, p.data.length ≤ 1048576
  ql : t.queue.length ≤ 1048576
  qd : ∀ p ∈ t.queue, p.data.length ≤ 1048576
  fc : cntP t.flight ≤ 4194304
  qc : cntP t.queue ≤ 4194304
theorem TxB.of (t : TxS) (h : (t.flight.length : Int) + szP t.flight + t.queue.length + szP t.queue ≤ 1048576) : TxB t := by
  have h1 := szP_nonneg t.flight
  have h2 := szP_nonneg t.queue
  have h3 := cnt_sz t.flight
  have h4 := cnt_sz t.queue
  refine ⟨by omega, fun p hp => ?_, by omega, fun p hp => ?_, by omega, by omega⟩
  · have := szP_mem hp; omega
  · have := szP_mem hp; omega
theorem TxB.z : TxB zTx := ⟨by simp [zTx], fun p h => (by cases h), by simp [zTx], fun p h => (by cases h), by show (0 : Int) ≤ 4194304; decide, by show (0 : Int) ≤ 4194304; decide⟩
theorem TxB.c0 (t : TxS) : 0 ≤ cntP t.flight ∧ 0 ≤ cntP t.queue := ⟨cntP_nonneg _, cntP_nonneg _⟩
theorem TxB.fle {t : TxS} {y : Part} (h : TxB t) (hy : List.Mem y t.flight) : y.data.length ≤ 1048576 := h.fd y hy
theorem TxB.qle {t : TxS} {y : Part} (h : TxB t) (hy : List.Mem y t.queue) : y.data.length ≤ 1048576 := h.qd y hy
theorem cntP_drop_le (l : List Part) (i : Nat) : cntP (l.drop i) ≤ cntP l := by
  have h := cntP_app (l.take i) (l.drop i)
  rw [List.take_append_drop] at h
  have := cntP_nonneg (l.take i)
  omega
theorem txTick_B {c : Cfg} {t : TxS} {a : Int} {b : Bool} (h : TxB t) : TxB (txTick c t a b).t := by
  obtain ⟨h1, h2, h3, h4, h5, h6⟩ := h
  unfold txTick txTick1
  repeat' split
  all_goals first | exact ⟨h1, h2, h3, h4, h5, h6⟩ | exact TxB.z
theorem txTick_f {c : Cfg} {t : TxS} {a : Int} {b : Bool} : (txTick c t a b).f.data.length ≤ 8 := by
  unfold txTick txTick1
  repeat' split
  all_goals simp [zFrm]
theorem txHear_B {c : Cfg} {t : TxS} {f : Frm} (h : TxB t) : TxB (txHear c t f) := by
  obtain ⟨h1, h2, h3, h4, h5, h6⟩ := h
  unfold txHear
  split
  · have hA : TxB (txAcked t f.ack) := by
      unfold txAcked
      split
      · exact ⟨h1, h2, h3, h4, h5, h6⟩
      · refine ⟨?_, fun p hp => h2 p (List.mem_of_mem_drop hp), h3, h4, ?_, h6⟩
        · show (t.flight.drop _).length ≤ 1048576
          rw [List.length_drop]; omega
        · have := cntP_drop_le t.flight ((f.ack - t.acked + 8) % 8).toNat
          show cntP (t.flight.drop _) ≤ 4194304
          omega
    obtain ⟨g1, g2, g3, g4, g5, g6⟩ := hA
    unfold txHear1 txSaid
    dsimp only
    repeat' split
    all_goals first | exact ⟨h1, h2, h3, h4, h5, h6⟩ | exact ⟨g1, g2, g3, g4, g5, g6⟩
  · exact TxB.z
theorem TxS.eta (t : TxS) : (⟨t.next, t.acked, t.flight, t.sent, t.queue, t.asks, t.tries, t.held, t.count, t.dead⟩ : TxS) = t := rfl
theorem Frm.eta (f : Frm) : (⟨f.kind, f.seq, f.ack, f.poll, f.final, f.say, f.seg, f.len, f.data⟩ : Frm) = f := rfl
theorem Cfg.eta (c : Cfg) : (⟨c.mode, c.win, c.mps, c.mtu, c.try_⟩ : Cfg) = c := rfl

/-! laws.FnExactTxTick -/
def c_laws_FnExactTxTick : Ent := ctr (α := (Cfg) × (TxS) × (Int) × (Bool)) (ρ := (Bool)) [] [] (rs rCfg (rs rTx (rs rInt (rs1 rB)))) (fun x_ => (fun (c : Cfg) (t : TxS) (a : Int) (b : Bool) => ((∀ d ∈ cfgC c, Wf d) ∧ (∀ d ∈ txC t, Wf d) ∧ ∀ d ∈ [D.i .i64 a], Wf d)) x_.1 x_.2.1 x_.2.2.1 x_.2.2.2) (fun x_ r_ => (fun x_ => (fun (c : Cfg) (t : TxS) (a : Int) (b : Bool) => ((fun r_ => (fun (r : Bool) => (r = true)) r_))) x_.1 x_.2.1 x_.2.2.1 x_.2.2.2) x_ r_) (fun r_ => (fun (r : Bool) => ([rB.to r])) r_) (fun r_ => (fun (r : Bool) => ([])) r_)
def V_laws_FnExactTxTick : Env := ⟨tys, [(16, c_laws_szTxState), (18, c_laws_toCfgOpts), (19, c_laws_toTxState), (22, c_laws_eqTxState), (26, c_laws_heldTxState), (27, c_spec_TxTick), (28, c_impl_TxTick_x), (29, c_laws_eqFrmFrame), (31, c_laws_heldFrmFrame)], [(40, [0, 1]), (47, [2, 3, 4])], [(4, 0), (5, 1), (10, 2), (11, 3), (13, 4), (14, 5), (15, 6), (20, 7), (21, 8)], [(5, ([2, 3], [])), (7, ([5, 6], [2, 3, 4])), (28, ([7, 8], []))], [], [500055, 500061, 500076, 500082, 500088, 500127, 500133], [(24, c_laws_markTxState), (30, c_laws_markFrmFrame)], [(5, [(0, false), (2, false), (4, false), (5, false), (11, false), (12, false), (1, true), (3, true), (6, true), (7, false), (8, false), (9, false), (10, false), (13, true), (14, true), (15, false)]), (7, [(0, false), (2, false), (3, false), (4, false), (10, false), (11, false), (1, true), (5, true), (6, false), (7, false), (8, false), (9, false), (12, true), (13, true), (14, false)]), (10, [(0, false), (1, false), (2, true), (3, true), (4, false)]), (28, [(0, false), (2, false), (4, false), (5, false), (11, false), (12, false), (1, true), (3, true), (6, true), (7, false), (8, false), (9, false), (10, false), (13, true), (14, true), (15, false)])]⟩
end Go.Proofs.YtfcllghcdeifbaaE


/- Calls answer what is promised: LawXTk. Conditions: none. -/
set_option linter.unusedVariables false
set_option maxHeartbeats 1600000
namespace Go.Proofs.YtfcllghcdeifbaaE
open Go
set_option maxRecDepth 40000 in
theorem vF_laws_FnExactTxTick (c:Cfg) (t:TxS) (a:Int) (b:Bool) (K:List Arg→List (List AC)→Prop) (hp:(∀ d ∈ cfgC c,Wf d)∧(∀ d ∈ txC t,Wf d)∧∀ d ∈ [D.i .i64 a],Wf d) (hk:∀ (r:Bool),(r=true)→K ([rB.to r]) ([])):(true=true)∧(((((List.length t.flight)≤(9223372036854775807:Nat))∧(∀ p:Part,(List.Mem p t.flight)→((List.length p.data)≤(9223372036854775807:Nat))))∧((((List.length t.queue)≤(9223372036854775807:Nat))∧(∀ p:Part,(List.Mem p t.queue)→((List.length p.data)≤(9223372036854775807:Nat))))∧(((0:Int)≤(1048576:Int))∧((1048576:Int)≤(1048576:Int)))))∧(∀ r:Int,(((r=(((((1048576:Int) - (((List.length t.flight):Nat):Int)) - (szP t.flight)) - (((List.length t.queue):Nat):Int)) - (szP t.queue)))∧((0:Int)≤r))∨(r=(-1:Int)))→(true=true)∧(if ((decide (r < (0:Int)))=true) then ((true=true)∧(K [(aB true)] [])) else ((true=true)∧(True∧(∀ r1:Cfg,(r1=c)→(true=true)∧((true=true)∧((true=true)∧(((((List.length t.flight)≤(1048576:Nat))∧(∀ p:Part,(List.Mem p t.flight)→((List.length p.data)≤(1048576:Nat))))∧(((List.length t.queue)≤(1048576:Nat))∧(∀ p:Part,(List.Mem p t.queue)→((List.length p.data)≤(1048576:Nat)))))∧(∀ r2:TxS,(r2=t)→((List.length r2.flight)=(List.length r2.flight))∧(((List.length r2.queue)=(List.length r2.queue))∧((true=true)∧((true=true)∧((true=true)∧(True∧(∀ r3:TxSendR,(r3=(txTick r1 (TxS.mk r2.next r2.acked r2.flight r2.sent r2.queue r2.asks r2.tries r2.held r2.count r2.dead) a b))→(true=true)∧((true=true)∧((true=true)∧((true=true)∧((true=true)∧(((((List.length t.flight)≤(1048576:Nat))∧(∀ p:Part,(List.Mem p t.flight)→((List.length p.data)≤(1048576:Nat))))∧(((List.length t.queue)≤(1048576:Nat))∧(∀ p:Part,(List.Mem p t.queue)→((List.length p.data)≤(1048576:Nat)))))∧(∀ r4:TxS,(r4=t)→((List.length r4.flight)=(List.length r4.flight))∧(((List.length r4.queue)=(List.length r4.queue))∧((true=true)∧((true=true)∧(True∧(∀ r5:Cfg,(r5=c)→(true=true)∧((true=true)∧((true=true)∧(True∧(∀ r6:TxSendR,(r6=(txTick r5 (TxS.mk r4.next r4.acked r4.flight r4.sent r4.queue r4.asks r4.tries r4.held r4.count r4.dead) a b))→((List.length r6.t.flight)=(List.length r6.t.flight))∧(((List.length r6.t.queue)=(List.length r6.t.queue))∧((true=true)∧((true=true)∧((true=true)∧((true=true)∧((true=true)∧(((((List.length r6.t.flight)≤(137438953472:Nat))∧(∀ y:Part,(List.Mem y r6.t.flight)→((List.length y.data)≤(137438953472:Nat))))∧(((List.length r6.t.queue)≤(137438953472:Nat))∧(∀ y:Part,(List.Mem y r6.t.queue)→((List.length y.data)≤(137438953472:Nat)))))∧(∀ r7:Bool,(r7=(decide ((TxS.mk r6.t.next r6.t.acked r6.t.flight r6.t.sent r6.t.queue r6.t.asks r6.t.tries r6.t.held r6.t.count r6.t.dead)=(TxS.mk r3.t.next r3.t.acked r3.t.flight r3.t.sent r3.t.queue r3.t.asks r3.t.tries r3.t.held r3.t.count r3.t.dead))))→(true=true)∧(if ((!r7)=true) then ((true=true)∧(K [(aB false)] [])) else ((true=true)∧(((List.length r6.f.data)≤(137438953472:Nat))∧(∀ r8:Bool,(r8=(decide ((Frm.mk r6.f.kind r6.f.seq r6.f.ack r6.f.poll r6.f.final r6.f.say r6.f.seg r6.f.len r6.f.data)=r3.f)))→(true=true)∧(if ((!r8)=true) then ((true=true)∧(K [(aB false)] [])) else (if ((r6.ok != r3.ok)=true) then ((true=true)∧(K [(aB false)] [])) else ((true=true)∧(((((List.length t.flight)≤(1048576:Nat))∧(∀ p:Part,(List.Mem p t.flight)→((List.length p.data)≤(1048576:Nat))))∧(((List.length t.queue)≤(1048576:Nat))∧(∀ p:Part,(List.Mem p t.queue)→((List.length p.data)≤(1048576:Nat)))))∧(∀ r9:TxS,(r9=t)→((List.length r9.flight)=(List.length r9.flight))∧(((List.length r9.queue)=(List.length r9.queue))∧((true=true)∧((true=true)∧((true=true)∧(((((List.length r4.flight)≤(137438953472:Nat))∧(∀ y:Part,(List.Mem y r4.flight)→((List.length y.data)≤(137438953472:Nat))))∧(((List.length r4.queue)≤(137438953472:Nat))∧(∀ y:Part,(List.Mem y r4.queue)→((List.length y.data)≤(137438953472:Nat)))))∧(∀ r10:Bool,(r10=(decide ((TxS.mk r4.next r4.acked r4.flight r4.sent r4.queue r4.asks r4.tries r4.held r4.count r4.dead)=(TxS.mk r9.next r9.acked r9.flight r9.sent r9.queue r9.asks r9.tries r9.held r9.count r9.dead))))→(true=true)∧((true=true)∧(if ((!r10)=true) then ((true=true)∧(K [(aB false)] [])) else ((true=true)∧((((List.length r4.flight)=(List.length r4.flight))∧((List.length r4.queue)=(List.length r4.queue)))∧(((((List.length r4.flight)≤(1048576:Nat))∧(∀ p:Part,(List.Mem p r4.flight)→((List.length p.data)≤(1048576:Nat))))∧((((List.length r4.queue)≤(1048576:Nat))∧(∀ p:Part,(List.Mem p r4.queue)→((List.length p.data)≤(1048576:Nat))))∧(((0:Int)≤(1:Int))∧((((1:Int) + (cntP r4.flight)) + (cntP r4.queue))≤(1099511627776:Int)))))∧(∀ r11:(Prod Int (Prod (List Part) (List Part))),((r11.fst=(((1:Int) + (cntP r4.flight)) + (cntP r4.queue)))∧((((List.length r11.snd.fst)=(List.length r4.flight))∧(((cntP r11.snd.fst)=(cntP r4.flight))∧(MarkP r4.flight (1:Int) r11.snd.fst)))∧(((List.length r11.snd.snd)=(List.length r4.queue))∧(((cntP r11.snd.snd)=(cntP r4.queue))∧(MarkP r4.queue ((1:Int) + (cntP r4.flight)) r11.snd.snd)))))→(true=true)∧(if ((decide (r11.fst < (0:Int)))=true) then ((true=true)∧(K [(aB false)] [])) else ((true=true)∧(((((List.length r6.t.flight)≤(137438953472:Nat))∧(∀ y:Part,(List.Mem y r6.t.flight)→((List.length y.data)≤(137438953472:Nat))))∧(((List.length r6.t.queue)≤(137438953472:Nat))∧(∀ y:Part,(List.Mem y r6.t.queue)→((List.length y.data)≤(137438953472:Nat)))))∧(∀ r12:Bool,(r12=(decide ((TxS.mk r6.t.next r6.t.acked r6.t.flight r6.t.sent r6.t.queue r6.t.asks r6.t.tries r6.t.held r6.t.count r6.t.dead)=(TxS.mk r3.t.next r3.t.acked r3.t.flight r3.t.sent r3.t.queue r3.t.asks r3.t.tries r3.t.held r3.t.count r3.t.dead))))→(true=true)∧(if ((!r12)=true) then ((true=true)∧(K [(aB false)] [])) else ((true=true)∧(((List.length r6.f.data)≤(137438953472:Nat))∧(∀ r13:Bool,(r13=(decide ((Frm.mk r6.f.kind r6.f.seq r6.f.ack r6.f.poll r6.f.final r6.f.say r6.f.seg r6.f.len r6.f.data)=r3.f)))→(true=true)∧(if ((!r13)=true) then ((true=true)∧(K [(aB false)] [])) else (if ((r6.ok != r3.ok)=true) then ((true=true)∧(K [(aB false)] [])) else ((true=true)∧((((List.length r6.t.flight)=(List.length r6.t.flight))∧((List.length r6.t.queue)=(List.length r6.t.queue)))∧(((((List.length r6.t.flight)≤(1048576:Nat))∧(∀ p:Part,(List.Mem p r6.t.flight)→((List.length p.data)≤(1048576:Nat))))∧((((List.length r6.t.queue)≤(1048576:Nat))∧(∀ p:Part,(List.Mem p r6.t.queue)→((List.length p.data)≤(1048576:Nat))))∧(((0:Int)≤(1:Int))∧((((1:Int) + (cntP r6.t.flight)) + (cntP r6.t.queue))≤(1099511627776:Int)))))∧(∀ r14:(Prod Int (Prod (List Part) (List Part))),((r14.fst=(((1:Int) + (cntP r6.t.flight)) + (cntP r6.t.queue)))∧((((List.length r14.snd.fst)=(List.length r6.t.flight))∧(((cntP r14.snd.fst)=(cntP r6.t.flight))∧(MarkP r6.t.flight (1:Int) r14.snd.fst)))∧(((List.length r14.snd.snd)=(List.length r6.t.queue))∧(((cntP r14.snd.snd)=(cntP r6.t.queue))∧(MarkP r6.t.queue ((1:Int) + (cntP r6.t.flight)) r14.snd.snd)))))→(true=true)∧((true=true)∧((((List.length r6.f.data)≤(137438953472:Nat))∧(((0:Int)≤r14.fst)∧(r14.fst≤(1099511627776:Int))))∧(∀ r15:(Prod Int (List Int)),((r15.fst=(r14.fst + (((List.length r6.f.data):Nat):Int)))∧(((List.length r15.snd)=(List.length r6.f.data))∧(MarkB r6.f.data r14.fst r15.snd)))→(true=true)∧((true=true)∧(((((List.length r14.snd.fst)≤(1048576:Nat))∧(∀ p:Part,(List.Mem p r14.snd.fst)→((List.length p.data)≤(1048576:Nat))))∧((((List.length r14.snd.snd)≤(1048576:Nat))∧(∀ p:Part,(List.Mem p r14.snd.snd)→((List.length p.data)≤(1048576:Nat))))∧(((0:Int)≤(1:Int))∧(((((1:Int) + (cntP r14.snd.fst)) + (cntP r14.snd.snd))≤(1099511627776:Int))∧((r14.snd.fst=(markP r14.snd.fst (1:Int)))∧(r14.snd.snd=(markP r14.snd.snd ((1:Int) + (cntP r14.snd.fst)))))))))∧(∀ r16:Int,(r16=(((1:Int) + (cntP r14.snd.fst)) + (cntP r14.snd.snd)))→(true=true)∧(if ((decide (r16 < (0:Int)))=true) then ((true=true)∧(K [(aB false)] [])) else ((true=true)∧((((List.length r15.snd)≤(137438953472:Nat))∧(((0:Int)≤r16)∧((r16≤(1099511627776:Int))∧(r15.snd=(markB r15.snd r16)))))∧(∀ r17:Int,(r17=(r16 + (((List.length r15.snd):Nat):Int)))→(true=true)∧(if ((decide (r17 < (0:Int)))=true) then ((true=true)∧(K [(aB false)] [])) else (if ((r17 != r15.fst)=true) then ((true=true)∧(K [(aB false)] [])) else ((true=true)∧(True∧(∀ r18:Cfg,(r18=c)→(true=true)∧((true=true)∧((true=true)∧(((((List.length t.flight)≤(1048576:Nat))∧(∀ p:Part,(List.Mem p t.flight)→((List.length p.data)≤(1048576:Nat))))∧(((List.length t.queue)≤(1048576:Nat))∧(∀ p:Part,(List.Mem p t.queue)→((List.length p.data)≤(1048576:Nat)))))∧(∀ r19:TxS,(r19=t)→((List.length r19.flight)=(List.length r19.flight))∧(((List.length r19.queue)=(List.length r19.queue))∧((true=true)∧((true=true)∧((true=true)∧(True∧(∀ r20:TxSendR,(r20=(txTick r18 (TxS.mk r19.next r19.acked r19.flight r19.sent r19.queue r19.asks r19.tries r19.held r19.count r19.dead) a b))→((List.length r20.t.flight)=(List.length r20.t.flight))∧(((List.length r20.t.queue)=(List.length r20.t.queue))∧((true=true)∧((true=true)∧((true=true)∧((true=true)∧((true=true)∧(((((List.length r20.t.flight)≤(137438953472:Nat))∧(∀ y:Part,(List.Mem y r20.t.flight)→((List.length y.data)≤(137438953472:Nat))))∧(((List.length r20.t.queue)≤(137438953472:Nat))∧(∀ y:Part,(List.Mem y r20.t.queue)→((List.length y.data)≤(137438953472:Nat)))))∧(∀ r21:Bool,(r21=(decide ((TxS.mk r20.t.next r20.t.acked r20.t.flight r20.t.sent r20.t.queue r20.t.asks r20.t.tries r20.t.held r20.t.count r20.t.dead)=(TxS.mk r3.t.next r3.t.acked r3.t.flight r3.t.sent r3.t.queue r3.t.asks r3.t.tries r3.t.held r3.t.count r3.t.dead))))→(true=true)∧(if ((!r21)=true) then ((true=true)∧(K [(aB false)] [])) else ((true=true)∧(((List.length r20.f.data)≤(137438953472:Nat))∧(∀ r22:Bool,(r22=(decide ((Frm.mk r20.f.kind r20.f.seq r20.f.ack r20.f.poll r20.f.final r20.f.say r20.f.seg r20.f.len r20.f.data)=r3.f)))→(true=true)∧(if ((!r22)=true) then ((true=true)∧(K [(aB false)] [])) else (if ((r20.ok != r3.ok)=true) then ((true=true)∧(K [(aB false)] [])) else ((true=true)∧(((((List.length r14.snd.fst)≤(1048576:Nat))∧(∀ p:Part,(List.Mem p r14.snd.fst)→((List.length p.data)≤(1048576:Nat))))∧((((List.length r14.snd.snd)≤(1048576:Nat))∧(∀ p:Part,(List.Mem p r14.snd.snd)→((List.length p.data)≤(1048576:Nat))))∧(((0:Int)≤(1:Int))∧(((((1:Int) + (cntP r14.snd.fst)) + (cntP r14.snd.snd))≤(1099511627776:Int))∧((r14.snd.fst=(markP r14.snd.fst (1:Int)))∧(r14.snd.snd=(markP r14.snd.snd ((1:Int) + (cntP r14.snd.fst)))))))))∧(∀ r23:Int,(r23=(((1:Int) + (cntP r14.snd.fst)) + (cntP r14.snd.snd)))→(true=true)∧(if ((decide (r23 < (0:Int)))=true) then ((true=true)∧(K [(aB false)] [])) else ((true=true)∧((((List.length r15.snd)≤(137438953472:Nat))∧(((0:Int)≤r23)∧((r23≤(1099511627776:Int))∧(r15.snd=(markB r15.snd r23)))))∧(∀ r24:Int,(r24=(r23 + (((List.length r15.snd):Nat):Int)))→(true=true)∧(if ((decide (r24 < (0:Int)))=true) then ((true=true)∧(K [(aB false)] [])) else (if ((r24 != r15.fst)=true) then ((true=true)∧(K [(aB false)] [])) else ((true=true)∧(K [(aB true)] [])))))))))))))))))))))))))))))))))))))))))))))))))))))))))))))))))))))))))))))))))))))))))))))))))))))))))))))))))))))))))))) := by
  obtain ⟨_, hp2, _⟩ := hp
  have hw := wf_tx hp2
  have hB0 := TxB.of t
  have hG0 := txTick_B (c := c) (t := t) (a := a) (b := b)
  have s1 := szP_nonneg t.flight
  have s2 := szP_nonneg t.queue
  obtain ⟨z1, z2⟩ := TxB.c0 t
  obtain ⟨z3, z4⟩ := TxB.c0 (txTick c t a b).t
  have hb : (t.flight.length : Int) + szP t.flight + t.queue.length + szP t.queue ≤ 1048576 → t.flight.length ≤ 1048576 ∧ t.queue.length ≤ 1048576 ∧ cntP t.flight ≤ 4194304 ∧ cntP t.queue ≤ 4194304 ∧ (txTick c t a b).t.flight.length ≤ 1048576 ∧ (txTick c t a b).t.queue.length ≤ 1048576 ∧ cntP (txTick c t a b).t.flight ≤ 4194304 ∧ cntP (txTick c t a b).t.queue ≤ 4194304 := fun h => ⟨(hB0 h).fl, (hB0 h).ql, (hB0 h).fc, (hB0 h).qc, (hG0 (hB0 h)).fl, (hG0 (hB0 h)).ql, (hG0 (hB0 h)).fc, (hG0 (hB0 h)).qc⟩
  have hf := txTick_f (c := c) (t := t) (a := a) (b := b)
  clear hp2

  repeat' first
    | exact rfl
    | exact True.intro
    | exact hk _ rfl
    | with_reducible apply And.intro
    | with_reducible refine andI ?_
    | (with_reducible intro y_ hy_; subst hy_; try simp only [TxS.eta, Frm.eta, Cfg.eta])
    | with_reducible intro y_
    | with_reducible assumption
    | refine ifTr ?_
    | refine ifEq rfl ?_
    | refine ifNeB rfl ?_
    | refine ifLt (by omega) ?_
    | refine ifNe (by omega) ?_
    | refine ifLtB (fun h => ?_) (fun h => ?_)
    | omega
    | exact MarkB.to (by assumption) (by omega)
    | exact MarkP.to (by assumption) (by omega)
    | exact MarkP.le ‹List.Mem _ _› (by assumption)
    | exact Nat.le_trans (MarkP.le ‹List.Mem _ _› (by assumption)) (by decide)
    | exact (hB0 (by omega)).fle ‹List.Mem _ _›
    | exact (hB0 (by omega)).qle ‹List.Mem _ _›
    | exact (hG0 (hB0 (by omega))).fle ‹List.Mem _ _›
    | exact (hG0 (hB0 (by omega))).qle ‹List.Mem _ _›
    | exact Nat.le_trans ((hB0 (by omega)).fle ‹List.Mem _ _›) (by decide)
    | exact Nat.le_trans ((hB0 (by omega)).qle ‹List.Mem _ _›) (by decide)
    | exact Nat.le_trans ((hG0 (hB0 (by omega))).fle ‹List.Mem _ _›) (by decide)
    | exact Nat.le_trans ((hG0 (hB0 (by omega))).qle ‹List.Mem _ _›) (by decide)
    | exact hw.1.1
    | exact hw.1.2 _ ‹List.Mem _ _›
    | exact hw.2.1
    | exact hw.2.2 _ ‹List.Mem _ _›
theorem w_laws_FnExactTxTick : Valid Try.prog 4 c_laws_FnExactTxTick :=
  valid_ctr2 (V := V_laws_FnExactTxTick) (tysB_ok tys_ok) ⟨(CallsL.cons w_laws_szTxState (CallsL.cons w_laws_toCfgOpts (CallsL.cons w_laws_toTxState (CallsL.cons w_laws_eqTxState (CallsL.cons w_laws_heldTxState (CallsL.cons w_spec_TxTick (CallsL.cons w_impl_TxTick_x (CallsL.cons w_laws_eqFrmFrame (CallsL.cons w_laws_heldFrmFrame (CallsL.nil _)))))))))), (IosL.cons w_laws_markTxState (IosL.cons w_laws_markFrmFrame (IosL.nil _)))⟩ mixed 5 9 Try.func4 rfl (by kernel_rfl)
    (fun c hc => by
      obtain rfl := Option.some.inj hc
      exact ⟨trivial, ⟨trivial, ⟨trivial, ⟨⟨trivial, ⟨⟨trivial, trivial⟩, trivial⟩⟩, ⟨trivial, ⟨trivial, ⟨trivial, ⟨⟨trivial, ⟨⟨trivial, trivial⟩, trivial⟩⟩, ⟨⟨trivial, ⟨⟨trivial, trivial⟩, trivial⟩⟩, ⟨trivial, ⟨trivial, ⟨⟨trivial, ⟨⟨trivial, trivial⟩, trivial⟩⟩, ⟨trivial, ⟨trivial, ⟨trivial, ⟨trivial, ⟨trivial, ⟨⟨trivial, ⟨⟨trivial, trivial⟩, trivial⟩⟩, ⟨trivial, ⟨⟨trivial, ⟨⟨trivial, trivial⟩, trivial⟩⟩, ⟨⟨trivial, ⟨⟨trivial, trivial⟩, trivial⟩⟩, ⟨trivial, ⟨⟨trivial, ⟨⟨trivial, trivial⟩, trivial⟩⟩, ⟨trivial, ⟨trivial, ⟨⟨trivial, ⟨⟨trivial, trivial⟩, trivial⟩⟩, ⟨trivial, ⟨⟨trivial, ⟨⟨trivial, trivial⟩, trivial⟩⟩, ⟨⟨trivial, ⟨⟨trivial, trivial⟩, trivial⟩⟩, ⟨trivial, trivial⟩⟩⟩⟩⟩⟩⟩⟩⟩⟩⟩⟩⟩⟩⟩⟩⟩⟩⟩⟩⟩⟩⟩⟩⟩⟩⟩⟩⟩⟩)
    (fun x K hp hk => ⟨_, by kernel_rfl, vF_laws_FnExactTxTick x.1 x.2.1 x.2.2.1 x.2.2.2 K hp (fun r h => hk r h)⟩)
end Go.Proofs.YtfcllghcdeifbaaE
