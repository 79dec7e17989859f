/- A part of the proof of laws of the program: what calls of the program answer. Conditions: none. -/
import Derived.Test.YtfcllghcdeifbaaMf473a200
set_option linter.unusedVariables false
set_option linter.unusedSimpArgs false
set_option linter.unusedSectionVars false

/- Contracts: LawXTp. Conditions: none. -/
set_option linter.unusedVariables false
set_option maxHeartbeats 1600000
namespace Go.Proofs.YtfcllghcdeifbaaE
open Go
theorem mk_self {l x : List Int} {k : Int} (h : l = markB x k) : l = markB l k := by rw [h, markB_idem]
theorem Wf.row {k : RK} {l : List k.El} (h : Wf (.r k l)) : l.length ≤ maxLen ∧ ∀ y ∈ flat k l, Wf y := by
  cases h with
  | r _ _ h1 h2 => exact ⟨h1, h2⟩
theorem Wf.bytes {l : List Int} (h : Wf (.r .u8 l)) : l.length ≤ 9223372036854775807 ∧ Bytes l := by
  obtain ⟨h1, h2⟩ := Wf.row (k := .u8) h
  refine ⟨h1, Bytes.of_wf fun y hy => ?_⟩
  have h3 : D.i .u8 y ∈ flat .u8 l := List.mem_flatMap.2 ⟨y, hy, List.mem_singleton.2 rfl⟩
  have h4 := h2 _ h3
  cases h4 with
  | i _ _ h5 => exact h5
theorem wf_frm {f : Frm} (h : ∀ d ∈ RK.cells .frm f, Wf d) : f.data.length ≤ 9223372036854775807 ∧ Bytes f.data := Wf.bytes (h (.r .u8 f.data) (by simp [RK.cells]))
theorem mem_flat {k : RK} {l : List k.El} {x : k.El} (hx : x ∈ l) {d : D} (hd : d ∈ k.cells x) : d ∈ flat k l := List.mem_flatMap.2 ⟨x, hx, hd⟩
theorem Wf.parts {l : List Part} (h : Wf (.r .part l)) : l.length ≤ 9223372036854775807 ∧ ∀ p ∈ l, p.data.length ≤ 9223372036854775807 := by
  obtain ⟨h1, h2⟩ := Wf.row (k := .part) h
  exact ⟨h1, fun p hp => (Wf.bytes (h2 _ (mem_flat (k := .part) hp (d := .r .u8 p.data) (by simp [RK.cells])))).1⟩
theorem Wf.partsB {l : List Part} (h : Wf (.r .part l)) : ∀ p ∈ l, Bytes p.data := by
  obtain ⟨h1, h2⟩ := Wf.row (k := .part) h
  exact fun p hp => (Wf.bytes (h2 _ (mem_flat (k := .part) hp (d := .r .u8 p.data) (by simp [RK.cells])))).2
theorem wf_tx {t : TxS} (h : ∀ d ∈ txC t, Wf d) : (t.flight.length ≤ 9223372036854775807 ∧ ∀ p ∈ t.flight, p.data.length ≤ 9223372036854775807) ∧ (t.queue.length ≤ 9223372036854775807 ∧ ∀ p ∈ t.queue, p.data.length ≤ 9223372036854775807) :=
  ⟨Wf.parts (h (.r .part t.flight) (by simp [txC])), Wf.parts (h (.r .part t.queue) (by simp [txC]))⟩
theorem wf_ct {t : CtS} (h : ∀ d ∈ ctC t, Wf d) : t.queue.length ≤ 9223372036854775807 ∧ ∀ p ∈ t.queue, p.data.length ≤ 9223372036854775807 := Wf.parts (h (.r .part t.queue) (by simp [ctC]))
theorem wf_rx {t : RxS} (h : ∀ d ∈ rxC t, Wf d) : t.join.got.length ≤ 9223372036854775807 ∧ Bytes t.join.got := Wf.bytes (h (.r .u8 t.join.got) (by simp [rxC]))
theorem wf_cr {t : CrS} (h : ∀ d ∈ crC t, Wf d) : t.join.got.length ≤ 9223372036854775807 ∧ Bytes t.join.got := Wf.bytes (h (.r .u8 t.join.got) (by simp [crC]))
theorem wf_num {k : IntKind} {x : Int} (h : Wf (.i k x)) : (Lit.int k x).wf = true := by
  cases h; assumption
theorem ifEq {α : Type} [DecidableEq α] {a b : α} {P Q : Prop} (h : a = b) (q : Q) : if (!decide (a = b)) = true then P else Q := by
  rw [if_neg (by simp [h])]; exact q
theorem ifTr {i : Decidable True} {P Q : Prop} (q : Q) : if (!(@decide True i)) = true then P else Q := by
  rw [if_neg (by simp)]; exact q
theorem ifLt {a b : Int} {P Q : Prop} (h : b ≤ a) (q : Q) : if (decide (a < b)) = true then P else Q := by
  rw [if_neg (by simp; omega)]; exact q
theorem ifNe {a b : Int} {P Q : Prop} (h : a = b) (q : Q) : if (a != b) = true then P else Q := by
  rw [if_neg (by simp [h])]; exact q
theorem ifNeB {a b : Bool} {P Q : Prop} (h : a = b) (q : Q) : if (a != b) = true then P else Q := by
  rw [if_neg (by simp [h])]; exact q
theorem ifLtB {a b : Int} {P Q : Prop} (h : a < b → P) (q : ¬ a < b → Q) : if (decide (a < b)) = true then P else Q := by
  by_cases hx : a < b
  · rw [if_pos (by simp [hx])]; exact h hx
  · rw [if_neg (by simp [hx])]; exact q hx
theorem andI {a b c : Prop} (h : a → b → c) : a ∧ b → c := fun x => h x.1 x.2
structure TxB (t : TxS) : Prop where
  fl : t.flight.length ≤ 1048576
  fd : ∀ p ∈ t.flight, p.data.length ≤ 1048576
  ql : t.queue.length ≤ 1048576
  qd : ∀ p ∈ t.queue, p.data.length ≤ 1048576
  fc : cntP t.flight ≤ 4194304
  qc : cntP t.queue ≤ 4194304
theorem TxB.of (t : TxS) (h : (t.flight.length : Int) + szP t.flight + t.queue.length + szP t.queue ≤ 1048576) : TxB t := by
  have h1 := szP_nonneg t.flight
  have h2 := szP_nonneg t.queue
  have h3 := cnt_sz t.flight
  have h4 := cnt_sz t.queue
  refine ⟨by omega, fun p hp => ?_, by omega, fun p hp => ?_, by omega, by omega⟩
  · have := szP_mem hp; omega
  · have := szP_mem hp; omega
theorem TxB.z : TxB zTx := ⟨by simp [zTx], fun p h => (by cases h), by simp [zTx], fun p h => (by cases h), by show (0 : Int) ≤ 4194304; decide, by show (0 : Int) ≤ 4194304; decide⟩
theorem TxB.c0 (t : TxS) : 0 ≤ cntP t.flight ∧ 0 ≤ cntP t.queue := ⟨cntP_nonneg _, cntP_nonneg _⟩
theorem TxB.fle {t : TxS} {y : Part} (h : TxB t) (hy : List.Mem y t.flight) : y.data.length ≤ 1048576 := h.fd y hy
theorem TxB.qle {t : TxS} {y : Part} (h : TxB t) (hy : List.Mem y t.queue) : y.data.length ≤ 1048576 := h.qd y hy
theorem cntP_drop_le (l : List Part) (i : Nat) : cntP (l.drop i) ≤ cntP l := by
  have h := cntP_app (l.take i) (l.drop i)
  rw [List.take_append_drop] at h
  have := cntP_nonneg (l.take i)
  omega
theorem txTick_B {c : Cfg} {t : TxS} {a : Int} {b : Bool} (h : TxB t) : TxB (txTick c t a b).t := by
  obtain ⟨h1, h2, h3, h4, h5, h6⟩ := h
  unfold txTick txTick1
  repeat' split
  all_goals first | exact ⟨h1, h2, h3, h4, h5, h6⟩ | exact TxB.z
theorem txTick_f {c : Cfg} {t : TxS} {a : Int} {b : Bool} : (txTick c t a b).f.data.length ≤ 8 := by
  unfold txTick txTick1
  repeat' split
  all_goals simp [zFrm]
theorem txHear_B {c : Cfg} {t : TxS} {f : Frm} (h : TxB t) : TxB (txHear c t f) := by
  obtain ⟨h1, h2, h3, h4, h5, h6⟩ := h
  unfold txHear
  split
  · have hA : TxB (txAcked t f.ack) := by
      unfold txAcked
      split
      · exact ⟨h1, h2, h3, h4, h5, h6⟩
      · refine ⟨?_, fun p hp => h2 p (List.mem_of_mem_drop hp), h3, h4, ?_, h6⟩
        · show (t.flight.drop _).length ≤ 1048576
          rw [List.length_drop]; omega
        · have := cntP_drop_le t.flight ((f.ack - t.acked + 8) % 8).toNat
          show cntP (t.flight.drop _) ≤ 4194304
          omega
    obtain ⟨g1, g2, g3, g4, g5, g6⟩ := hA
    unfold txHear1 txSaid
    dsimp only
    repeat' split
    all_goals first | exact ⟨h1, h2, h3, h4, h5, h6⟩ | exact ⟨g1, g2, g3, g4, g5, g6⟩
  · exact TxB.z
theorem txPut_B {c : Cfg} {t : TxS} {s : List Int} (h : TxB t) : TxB (txPut c t s).t := by
  unfold txPut
  split
  · rename_i hT
    unfold txPut1
    split
    · exact h
    · rename_i h3
      obtain ⟨h1, h2, h3', h4, h5, h6⟩ := h
      have hd : ∀ p ∈ t.queue ++ segCut s c.mps, p.data.length ≤ 24 := by
        intro p hp
        rcases List.mem_append.1 hp with h9 | h9
        · have := (TxP.qp hT p h9); unfold PartP SegP at this; omega
        · exact segCut_data _ _ p h9
      have hl : (t.queue ++ segCut s c.mps).length ≤ 24 := by
        rw [List.length_append]; omega
      have hc := cntP_le hd
      refine ⟨h1, h2, by show (t.queue ++ segCut s c.mps).length ≤ 1048576; omega, fun p hp => Nat.le_trans (hd p hp) (by decide), h5, ?_⟩
      show cntP (t.queue ++ segCut s c.mps) ≤ 4194304
      omega
  · exact TxB.z
theorem TxS.eta (t : TxS) : (⟨t.next, t.acked, t.flight, t.sent, t.queue, t.asks, t.tries, t.held, t.count, t.dead⟩ : TxS) = t := rfl
theorem Frm.eta (f : Frm) : (⟨f.kind, f.seq, f.ack, f.poll, f.final, f.say, f.seg, f.len, f.data⟩ : Frm) = f := rfl
theorem Cfg.eta (c : Cfg) : (⟨c.mode, c.win, c.mps, c.mtu, c.try_⟩ : Cfg) = c := rfl

/-! laws.FnExactTxPut -/
def c_laws_FnExactTxPut : Ent := ctr (α := (Cfg) × (TxS) × (List Int)) (ρ := (Bool)) [] [] (rs rCfg (rs rTx (rs1 rBytes))) (fun x_ => (fun (c : Cfg) (t : TxS) (s : List Int) => ((∀ d ∈ cfgC c, Wf d) ∧ (∀ d ∈ txC t, Wf d) ∧ ∀ d ∈ [D.r .u8 s], Wf d)) x_.1 x_.2.1 x_.2.2) (fun x_ r_ => (fun x_ => (fun (c : Cfg) (t : TxS) (s : List Int) => ((fun r_ => (fun (r : Bool) => (r = true)) r_))) x_.1 x_.2.1 x_.2.2) x_ r_) (fun r_ => (fun (r : Bool) => ([rB.to r])) r_) (fun r_ => (fun (r : Bool) => ([])) r_)
def V_laws_FnExactTxPut : Env := ⟨tys, [(16, c_laws_szTxState), (17, c_spec_TxPut_x), (18, c_laws_toCfgOpts), (19, c_laws_toTxState), (20, c_laws_toByteS), (21, c_impl_TxPut_x), (22, c_laws_eqTxState), (23, c_laws_eqByteS), (26, c_laws_heldTxState)], [(38, [0, 1]), (40, [2]), (46, [3, 4])], [(3, 0), (4, 1), (8, 2), (10, 3), (12, 4), (17, 5)], [(7, ([2], [])), (10, ([4], [3, 4])), (30, ([5], []))], [], [500053, 500076, 500082, 500112], [(24, c_laws_markTxState), (25, c_laws_markByteS)], [(7, [(0, false), (2, false), (4, false), (10, false), (1, true), (3, true), (5, true), (6, true), (7, false), (8, false), (9, false), (11, true), (12, false)]), (10, [(0, false), (2, false), (3, false), (8, false), (1, true), (4, true), (5, false), (6, false), (7, false), (9, true), (10, false)]), (13, [(0, false), (1, false), (2, true), (3, true), (4, false)]), (30, [(0, false), (2, false), (4, false), (10, false), (1, true), (3, true), (5, true), (6, true), (7, false), (8, false), (9, false), (11, true), (12, false)])]⟩
end Go.Proofs.YtfcllghcdeifbaaE


/- Calls answer what is promised: LawXTp. Conditions: none. -/
set_option linter.unusedVariables false
set_option maxHeartbeats 1600000
namespace Go.Proofs.YtfcllghcdeifbaaE
open Go
set_option maxRecDepth 40000 in
theorem vF_laws_FnExactTxPut (c:Cfg) (t:TxS) (s:List Int) (K:List Arg→List (List AC)→Prop) (hp:(∀ d ∈ cfgC c,Wf d)∧(∀ d ∈ txC t,Wf d)∧∀ d ∈ [D.r .u8 s],Wf d) (hk:∀ (r:Bool),(r=true)→K ([rB.to r]) ([])):if ((decide ((((List.length s):Nat):Int) > (1048576:Int)))=true) then ((true=true)∧(K [(aB true)] [])) else ((true=true)∧(((((List.length t.flight)≤(9223372036854775807:Nat))∧(∀ p:Part,(List.Mem p t.flight)→((List.length p.data)≤(9223372036854775807:Nat))))∧((((List.length t.queue)≤(9223372036854775807:Nat))∧(∀ p:Part,(List.Mem p t.queue)→((List.length p.data)≤(9223372036854775807:Nat))))∧(((0:Int)≤(1048576:Int))∧((1048576:Int)≤(1048576:Int)))))∧(∀ r:Int,(((r=(((((1048576:Int) - (((List.length t.flight):Nat):Int)) - (szP t.flight)) - (((List.length t.queue):Nat):Int)) - (szP t.queue)))∧((0:Int)≤r))∨(r=(-1:Int)))→(true=true)∧(if ((decide (r < (0:Int)))=true) then ((true=true)∧(K [(aB true)] [])) else ((true=true)∧(True∧(∀ r1:Cfg,(r1=c)→(true=true)∧((true=true)∧((true=true)∧(((((List.length t.flight)≤(1048576:Nat))∧(∀ p:Part,(List.Mem p t.flight)→((List.length p.data)≤(1048576:Nat))))∧(((List.length t.queue)≤(1048576:Nat))∧(∀ p:Part,(List.Mem p t.queue)→((List.length p.data)≤(1048576:Nat)))))∧(∀ r2:TxS,(r2=t)→((List.length r2.flight)=(List.length r2.flight))∧(((List.length r2.queue)=(List.length r2.queue))∧((true=true)∧((true=true)∧((true=true)∧(((List.length s)≤(137438953472:Nat))∧(∀ r3:(List Int),(r3=s)→(true=true)∧((true=true)∧((true=true)∧(((List.length r3)≤(1048576:Nat))∧(∀ r4:TxPutR,(r4=(txPut r1 (TxS.mk r2.next r2.acked r2.flight r2.sent r2.queue r2.asks r2.tries r2.held r2.count r2.dead) r3))→(true=true)∧((true=true)∧((true=true)∧((true=true)∧(((((List.length t.flight)≤(1048576:Nat))∧(∀ p:Part,(List.Mem p t.flight)→((List.length p.data)≤(1048576:Nat))))∧(((List.length t.queue)≤(1048576:Nat))∧(∀ p:Part,(List.Mem p t.queue)→((List.length p.data)≤(1048576:Nat)))))∧(∀ r5:TxS,(r5=t)→((List.length r5.flight)=(List.length r5.flight))∧(((List.length r5.queue)=(List.length r5.queue))∧((true=true)∧((true=true)∧(((List.length s)≤(137438953472:Nat))∧(∀ r6:(List Int),(r6=s)→(true=true)∧((true=true)∧(True∧(∀ r7:Cfg,(r7=c)→(true=true)∧((true=true)∧((true=true)∧(((List.length r6)≤(1048576:Nat))∧(∀ r8:TxPutR,(r8=(txPut r7 (TxS.mk r5.next r5.acked r5.flight r5.sent r5.queue r5.asks r5.tries r5.held r5.count r5.dead) r6))→((List.length r8.t.flight)=(List.length r8.t.flight))∧(((List.length r8.t.queue)=(List.length r8.t.queue))∧((true=true)∧((true=true)∧((true=true)∧((true=true)∧(((((List.length r8.t.flight)≤(137438953472:Nat))∧(∀ y:Part,(List.Mem y r8.t.flight)→((List.length y.data)≤(137438953472:Nat))))∧(((List.length r8.t.queue)≤(137438953472:Nat))∧(∀ y:Part,(List.Mem y r8.t.queue)→((List.length y.data)≤(137438953472:Nat)))))∧(∀ r9:Bool,(r9=(decide ((TxS.mk r8.t.next r8.t.acked r8.t.flight r8.t.sent r8.t.queue r8.t.asks r8.t.tries r8.t.held r8.t.count r8.t.dead)=(TxS.mk r4.t.next r4.t.acked r4.t.flight r4.t.sent r4.t.queue r4.t.asks r4.t.tries r4.t.held r4.t.count r4.t.dead))))→(true=true)∧(if ((!r9)=true) then ((true=true)∧(K [(aB false)] [])) else (if ((r8.ok != r4.ok)=true) then ((true=true)∧(K [(aB false)] [])) else ((true=true)∧(((((List.length t.flight)≤(1048576:Nat))∧(∀ p:Part,(List.Mem p t.flight)→((List.length p.data)≤(1048576:Nat))))∧(((List.length t.queue)≤(1048576:Nat))∧(∀ p:Part,(List.Mem p t.queue)→((List.length p.data)≤(1048576:Nat)))))∧(∀ r10:TxS,(r10=t)→((List.length r10.flight)=(List.length r10.flight))∧(((List.length r10.queue)=(List.length r10.queue))∧((true=true)∧((true=true)∧((true=true)∧(((((List.length r5.flight)≤(137438953472:Nat))∧(∀ y:Part,(List.Mem y r5.flight)→((List.length y.data)≤(137438953472:Nat))))∧(((List.length r5.queue)≤(137438953472:Nat))∧(∀ y:Part,(List.Mem y r5.queue)→((List.length y.data)≤(137438953472:Nat)))))∧(∀ r11:Bool,(r11=(decide ((TxS.mk r5.next r5.acked r5.flight r5.sent r5.queue r5.asks r5.tries r5.held r5.count r5.dead)=(TxS.mk r10.next r10.acked r10.flight r10.sent r10.queue r10.asks r10.tries r10.held r10.count r10.dead))))→(true=true)∧((true=true)∧(if ((!r11)=true) then ((true=true)∧(K [(aB false)] [])) else ((true=true)∧(((List.length s)≤(137438953472:Nat))∧(∀ r12:(List Int),(r12=s)→(true=true)∧((true=true)∧((((List.length r6)≤(137438953472:Nat))∧True)∧(∀ r13:Bool,(r13=(decide (r6=r12)))→(true=true)∧(if ((!r13)=true) then ((true=true)∧(K [(aB false)] [])) else ((true=true)∧((((List.length r5.flight)=(List.length r5.flight))∧((List.length r5.queue)=(List.length r5.queue)))∧(((((List.length r5.flight)≤(1048576:Nat))∧(∀ p:Part,(List.Mem p r5.flight)→((List.length p.data)≤(1048576:Nat))))∧((((List.length r5.queue)≤(1048576:Nat))∧(∀ p:Part,(List.Mem p r5.queue)→((List.length p.data)≤(1048576:Nat))))∧(((0:Int)≤(1:Int))∧((((1:Int) + (cntP r5.flight)) + (cntP r5.queue))≤(1099511627776:Int)))))∧(∀ r14:(Prod Int (Prod (List Part) (List Part))),((r14.fst=(((1:Int) + (cntP r5.flight)) + (cntP r5.queue)))∧((((List.length r14.snd.fst)=(List.length r5.flight))∧(((cntP r14.snd.fst)=(cntP r5.flight))∧(MarkP r5.flight (1:Int) r14.snd.fst)))∧(((List.length r14.snd.snd)=(List.length r5.queue))∧(((cntP r14.snd.snd)=(cntP r5.queue))∧(MarkP r5.queue ((1:Int) + (cntP r5.flight)) r14.snd.snd)))))→(true=true)∧((true=true)∧((((List.length r6)≤(137438953472:Nat))∧(((0:Int)≤r14.fst)∧(r14.fst≤(1099511627776:Int))))∧(∀ r15:(Prod Int (List Int)),((r15.fst=(r14.fst + (((List.length r6):Nat):Int)))∧((r15.snd=(markB r6 r14.fst))∧(((List.length r15.snd)=(List.length r6))∧(MarkB r6 r14.fst r15.snd))))→(true=true)∧(if ((decide (r15.fst < (0:Int)))=true) then ((true=true)∧(K [(aB false)] [])) else ((true=true)∧(((((List.length r8.t.flight)≤(137438953472:Nat))∧(∀ y:Part,(List.Mem y r8.t.flight)→((List.length y.data)≤(137438953472:Nat))))∧(((List.length r8.t.queue)≤(137438953472:Nat))∧(∀ y:Part,(List.Mem y r8.t.queue)→((List.length y.data)≤(137438953472:Nat)))))∧(∀ r16:Bool,(r16=(decide ((TxS.mk r8.t.next r8.t.acked r8.t.flight r8.t.sent r8.t.queue r8.t.asks r8.t.tries r8.t.held r8.t.count r8.t.dead)=(TxS.mk r4.t.next r4.t.acked r4.t.flight r4.t.sent r4.t.queue r4.t.asks r4.t.tries r4.t.held r4.t.count r4.t.dead))))→(true=true)∧(if ((!r16)=true) then ((true=true)∧(K [(aB false)] [])) else (if ((r8.ok != r4.ok)=true) then ((true=true)∧(K [(aB false)] [])) else ((true=true)∧((((List.length r8.t.flight)=(List.length r8.t.flight))∧((List.length r8.t.queue)=(List.length r8.t.queue)))∧(((((List.length r8.t.flight)≤(1048576:Nat))∧(∀ p:Part,(List.Mem p r8.t.flight)→((List.length p.data)≤(1048576:Nat))))∧((((List.length r8.t.queue)≤(1048576:Nat))∧(∀ p:Part,(List.Mem p r8.t.queue)→((List.length p.data)≤(1048576:Nat))))∧(((0:Int)≤(1:Int))∧((((1:Int) + (cntP r8.t.flight)) + (cntP r8.t.queue))≤(1099511627776:Int)))))∧(∀ r17:(Prod Int (Prod (List Part) (List Part))),((r17.fst=(((1:Int) + (cntP r8.t.flight)) + (cntP r8.t.queue)))∧((((List.length r17.snd.fst)=(List.length r8.t.flight))∧(((cntP r17.snd.fst)=(cntP r8.t.flight))∧(MarkP r8.t.flight (1:Int) r17.snd.fst)))∧(((List.length r17.snd.snd)=(List.length r8.t.queue))∧(((cntP r17.snd.snd)=(cntP r8.t.queue))∧(MarkP r8.t.queue ((1:Int) + (cntP r8.t.flight)) r17.snd.snd)))))→(true=true)∧((true=true)∧(((((List.length r17.snd.fst)≤(1048576:Nat))∧(∀ p:Part,(List.Mem p r17.snd.fst)→((List.length p.data)≤(1048576:Nat))))∧((((List.length r17.snd.snd)≤(1048576:Nat))∧(∀ p:Part,(List.Mem p r17.snd.snd)→((List.length p.data)≤(1048576:Nat))))∧(((0:Int)≤(1:Int))∧(((((1:Int) + (cntP r17.snd.fst)) + (cntP r17.snd.snd))≤(1099511627776:Int))∧((r17.snd.fst=(markP r17.snd.fst (1:Int)))∧(r17.snd.snd=(markP r17.snd.snd ((1:Int) + (cntP r17.snd.fst)))))))))∧(∀ r18:Int,(r18=(((1:Int) + (cntP r17.snd.fst)) + (cntP r17.snd.snd)))→(true=true)∧(if ((decide (r18 < (0:Int)))=true) then ((true=true)∧(K [(aB false)] [])) else (if ((r18 != r17.fst)=true) then ((true=true)∧(K [(aB false)] [])) else ((true=true)∧(True∧(∀ r19:Cfg,(r19=c)→(true=true)∧((true=true)∧((true=true)∧(((((List.length t.flight)≤(1048576:Nat))∧(∀ p:Part,(List.Mem p t.flight)→((List.length p.data)≤(1048576:Nat))))∧(((List.length t.queue)≤(1048576:Nat))∧(∀ p:Part,(List.Mem p t.queue)→((List.length p.data)≤(1048576:Nat)))))∧(∀ r20:TxS,(r20=t)→((List.length r20.flight)=(List.length r20.flight))∧(((List.length r20.queue)=(List.length r20.queue))∧((true=true)∧((true=true)∧((true=true)∧(((List.length s)≤(137438953472:Nat))∧(∀ r21:(List Int),(r21=s)→(true=true)∧((true=true)∧((true=true)∧(((List.length r21)≤(1048576:Nat))∧(∀ r22:TxPutR,(r22=(txPut r19 (TxS.mk r20.next r20.acked r20.flight r20.sent r20.queue r20.asks r20.tries r20.held r20.count r20.dead) r21))→((List.length r22.t.flight)=(List.length r22.t.flight))∧(((List.length r22.t.queue)=(List.length r22.t.queue))∧((true=true)∧((true=true)∧((true=true)∧((true=true)∧(((((List.length r22.t.flight)≤(137438953472:Nat))∧(∀ y:Part,(List.Mem y r22.t.flight)→((List.length y.data)≤(137438953472:Nat))))∧(((List.length r22.t.queue)≤(137438953472:Nat))∧(∀ y:Part,(List.Mem y r22.t.queue)→((List.length y.data)≤(137438953472:Nat)))))∧(∀ r23:Bool,(r23=(decide ((TxS.mk r22.t.next r22.t.acked r22.t.flight r22.t.sent r22.t.queue r22.t.asks r22.t.tries r22.t.held r22.t.count r22.t.dead)=(TxS.mk r4.t.next r4.t.acked r4.t.flight r4.t.sent r4.t.queue r4.t.asks r4.t.tries r4.t.held r4.t.count r4.t.dead))))→(true=true)∧(if ((!r23)=true) then ((true=true)∧(K [(aB false)] [])) else (if ((r22.ok != r4.ok)=true) then ((true=true)∧(K [(aB false)] [])) else ((true=true)∧(((((List.length r17.snd.fst)≤(1048576:Nat))∧(∀ p:Part,(List.Mem p r17.snd.fst)→((List.length p.data)≤(1048576:Nat))))∧((((List.length r17.snd.snd)≤(1048576:Nat))∧(∀ p:Part,(List.Mem p r17.snd.snd)→((List.length p.data)≤(1048576:Nat))))∧(((0:Int)≤(1:Int))∧(((((1:Int) + (cntP r17.snd.fst)) + (cntP r17.snd.snd))≤(1099511627776:Int))∧((r17.snd.fst=(markP r17.snd.fst (1:Int)))∧(r17.snd.snd=(markP r17.snd.snd ((1:Int) + (cntP r17.snd.fst)))))))))∧(∀ r24:Int,(r24=(((1:Int) + (cntP r17.snd.fst)) + (cntP r17.snd.snd)))→(true=true)∧(if ((decide (r24 < (0:Int)))=true) then ((true=true)∧(K [(aB false)] [])) else (if ((r24 != r17.fst)=true) then ((true=true)∧(K [(aB false)] [])) else ((true=true)∧(K [(aB true)] [])))))))))))))))))))))))))))))))))))))))))))))))))))))))))))))))))))))))))))))))))))))))))))))))))))))))))))))))))))))))) := by
  obtain ⟨_, hp2, hp3⟩ := hp
  have hw := wf_tx hp2
  have hB0 := TxB.of t
  have hG0 := txPut_B (c := c) (t := t) (s := s)
  have s1 := szP_nonneg t.flight
  have s2 := szP_nonneg t.queue
  obtain ⟨z1, z2⟩ := TxB.c0 t
  obtain ⟨z3, z4⟩ := TxB.c0 (txPut c t s).t
  have hb : (t.flight.length : Int) + szP t.flight + t.queue.length + szP t.queue ≤ 1048576 → t.flight.length ≤ 1048576 ∧ t.queue.length ≤ 1048576 ∧ cntP t.flight ≤ 4194304 ∧ cntP t.queue ≤ 4194304 ∧ (txPut c t s).t.flight.length ≤ 1048576 ∧ (txPut c t s).t.queue.length ≤ 1048576 ∧ cntP (txPut c t s).t.flight ≤ 4194304 ∧ cntP (txPut c t s).t.queue ≤ 4194304 := fun h => ⟨(hB0 h).fl, (hB0 h).ql, (hB0 h).fc, (hB0 h).qc, (hG0 (hB0 h)).fl, (hG0 (hB0 h)).ql, (hG0 (hB0 h)).fc, (hG0 (hB0 h)).qc⟩
  have hv := Wf.bytes (hp3 _ (List.mem_singleton.2 rfl))
  clear hp2 hp3

  repeat' first
    | exact rfl
    | exact True.intro
    | exact hk _ rfl
    | with_reducible apply And.intro
    | with_reducible refine andI ?_
    | (with_reducible intro y_ hy_; subst hy_; try simp only [TxS.eta, Frm.eta, Cfg.eta])
    | with_reducible intro y_
    | with_reducible assumption
    | refine ifTr ?_
    | refine ifEq rfl ?_
    | refine ifNeB rfl ?_
    | refine ifLt (by omega) ?_
    | refine ifNe (by omega) ?_
    | refine ifLtB (fun h => ?_) (fun h => ?_)
    | omega
    | exact MarkB.to (by assumption) (by omega)
    | exact MarkP.to (by assumption) (by omega)
    | exact MarkP.le ‹List.Mem _ _› (by assumption)
    | exact Nat.le_trans (MarkP.le ‹List.Mem _ _› (by assumption)) (by decide)
    | exact (hB0 (by omega)).fle ‹List.Mem _ _›
    | exact (hB0 (by omega)).qle ‹List.Mem _ _›
    | exact (hG0 (hB0 (by omega))).fle ‹List.Mem _ _›
    | exact (hG0 (hB0 (by omega))).qle ‹List.Mem _ _›
    | exact Nat.le_trans ((hB0 (by omega)).fle ‹List.Mem _ _›) (by decide)
    | exact Nat.le_trans ((hB0 (by omega)).qle ‹List.Mem _ _›) (by decide)
    | exact Nat.le_trans ((hG0 (hB0 (by omega))).fle ‹List.Mem _ _›) (by decide)
    | exact Nat.le_trans ((hG0 (hB0 (by omega))).qle ‹List.Mem _ _›) (by decide)
    | exact hw.1.1
    | exact hw.1.2 _ ‹List.Mem _ _›
    | exact hw.2.1
    | exact hw.2.2 _ ‹List.Mem _ _›
    | exact hv.2
theorem w_laws_FnExactTxPut : Valid Try.prog 3 c_laws_FnExactTxPut :=
  valid_ctr2 (V := V_laws_FnExactTxPut) (tysB_ok tys_ok) ⟨(CallsL.cons w_laws_szTxState (CallsL.cons w_spec_TxPut_x (CallsL.cons w_laws_toCfgOpts (CallsL.cons w_laws_toTxState (CallsL.cons w_laws_toByteS (CallsL.cons w_impl_TxPut_x (CallsL.cons w_laws_eqTxState (CallsL.cons w_laws_eqByteS (CallsL.cons w_laws_heldTxState (CallsL.nil _)))))))))), (IosL.cons w_laws_markTxState (IosL.cons w_laws_markByteS (IosL.nil _)))⟩ mixed 5 6 Try.func3 rfl (by kernel_rfl)
    (fun c hc => by
      obtain rfl := Option.some.inj hc
      exact ⟨trivial, ⟨⟨trivial, ⟨⟨trivial, trivial⟩, trivial⟩⟩, ⟨trivial, ⟨trivial, ⟨⟨trivial, ⟨⟨trivial, trivial⟩, trivial⟩⟩, ⟨trivial, ⟨trivial, ⟨trivial, ⟨trivial, ⟨⟨trivial, ⟨⟨trivial, trivial⟩, trivial⟩⟩, ⟨⟨trivial, ⟨⟨trivial, trivial⟩, trivial⟩⟩, ⟨⟨trivial, ⟨⟨trivial, trivial⟩, trivial⟩⟩, ⟨trivial, ⟨trivial, ⟨trivial, ⟨⟨trivial, ⟨⟨trivial, trivial⟩, trivial⟩⟩, ⟨trivial, ⟨trivial, ⟨trivial, ⟨trivial, ⟨⟨trivial, ⟨⟨trivial, trivial⟩, trivial⟩⟩, ⟨⟨trivial, ⟨⟨trivial, trivial⟩, trivial⟩⟩, ⟨trivial, ⟨⟨trivial, ⟨⟨trivial, trivial⟩, trivial⟩⟩, ⟨trivial, ⟨trivial, ⟨⟨trivial, ⟨⟨trivial, trivial⟩, trivial⟩⟩, ⟨⟨trivial, ⟨⟨trivial, trivial⟩, trivial⟩⟩, ⟨trivial, trivial⟩⟩⟩⟩⟩⟩⟩⟩⟩⟩⟩⟩⟩⟩⟩⟩⟩⟩⟩⟩⟩⟩⟩⟩⟩⟩⟩⟩⟩)
    (fun x K hp hk => ⟨_, by kernel_rfl, vF_laws_FnExactTxPut x.1 x.2.1 x.2.2 K hp (fun r h => hk r h)⟩)
end Go.Proofs.YtfcllghcdeifbaaE
