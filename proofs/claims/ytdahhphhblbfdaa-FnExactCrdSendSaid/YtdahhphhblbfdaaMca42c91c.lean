/- A part of the proof of laws of the program: what calls of the program answer. Conditions: none. -/
import Derived.Test.YtdahhphhblbfdaaM038bd384
set_option linter.unusedVariables false
set_option linter.unusedSimpArgs false
set_option linter.unusedSectionVars false
/- Contracts: LawXCs. Conditions: none. -/
set_option linter.unusedVariables false
set_option maxHeartbeats 1600000
namespace Go.Proofs.YtdahhphhblbfdaaE
open Go
theorem mk_self {l x : List Int} {k : Int} (h : l = markB x k) : l = markB l k := by rw [h, markB_idem]
theorem Wf.row {k : RK} {l : List k.El} (h : Wf (.r k l)) : l.length ≤ maxLen ∧ ∀ y ∈ flat k l, Wf y := by
  cases h with
  | r _ _ h1 h2 => exact ⟨h1, h2⟩
theorem Wf.bytes {l : List Int} (h : Wf (.r .u8 l)) : l.length ≤ 9223372036854775807 ∧ Bytes l := by
  obtain ⟨h1, h2⟩ := Wf.row (k := .u8) h
  refine ⟨h1, Bytes.of_wf fun y hy => ?_⟩
  have h3 : D.i .u8 y ∈ flat .u8 l := List.mem_flatMap.2 ⟨y, hy, List.mem_singleton.2 rfl⟩
  have h4 := h2 _ h3
  cases h4 with
  | i _ _ h5 => exact h5
theorem wf_frm {f : Frm} (h : ∀ d ∈ RK.cells .frm f, Wf d) : f.data.length ≤ 9223372036854775807 ∧ Bytes f.data := Wf.bytes (h (.r .u8 f.data) (by simp [RK.cells]))
theorem mem_flat {k : RK} {l : List k.El} {x : k.El} (hx : x ∈ l) {d : D} (hd : d ∈ k.cells x) : d ∈ flat k l := List.mem_flatMap.2 ⟨x, hx, hd⟩
theorem Wf.parts {l : List Part} (h : Wf (.r .part l)) : l.length ≤ 9223372036854775807 ∧ ∀ p ∈ l, p.data.length ≤ 9223372036854775807 := by
  obtain ⟨h1, h2⟩ := Wf.row (k := .part) h
  exact ⟨h1, fun p hp => (Wf.bytes (h2 _ (mem_flat (k := .part) hp (d := .r .u8 p.data) (by simp [RK.cells])))).1⟩
theorem Wf.partsB {l : List Part} (h : Wf (.r .part l)) : ∀ p ∈ l, Bytes p.data := by
  obtain ⟨h1, h2⟩ := Wf.row (k := .part) h
  exact fun p hp => (Wf.bytes (h2 _ (mem_flat (k := .part) hp (d := .r .u8 p.data) (by simp [RK.cells])))).2
theorem wf_tx {t : TxS} (h : ∀ d ∈ txC t, Wf d) : (t.flight.length ≤ 9223372036854775807 ∧ ∀ p ∈ t.flight, p.data.length ≤ 9223372036854775807) ∧ (t.queue.length ≤ 9223372036854775807 ∧ ∀ p ∈ t.queue, p.data.length ≤ 9223372036854775807) :=
  ⟨Wf.parts (h (.r .part t.flight) (by simp [txC])), Wf.parts (h (.r .part t.queue) (by simp [txC]))⟩
theorem wf_ct {t : CtS} (h : ∀ d ∈ ctC t, Wf d) : t.queue.length ≤ 9223372036854775807 ∧ ∀ p ∈ t.queue, p.data.length ≤ 9223372036854775807 := Wf.parts (h (.r .part t.queue) (by simp [ctC]))
theorem wf_rx {t : RxS} (h : ∀ d ∈ rxC t, Wf d) : t.join.got.length ≤ 9223372036854775807 ∧ Bytes t.join.got := Wf.bytes (h (.r .u8 t.join.got) (by simp [rxC]))
theorem wf_cr {t : CrS} (h : ∀ d ∈ crC t, Wf d) : t.join.got.length ≤ 9223372036854775807 ∧ Bytes t.join.got := Wf.bytes (h (.r .u8 t.join.got) (by simp [crC]))
theorem wf_num {k : IntKind} {x : Int} (h : Wf (.i k x)) : (Lit.int k x).wf = true := by
  cases h; assumption
theorem ifEq {α : Type} [DecidableEq α] {a b : α} {P Q : Prop} (h : a = b) (q : Q) : if (!decide (a = b)) = true then P else Q := by
  rw [if_neg (by simp [h])]; exact q
theorem ifTr {i : Decidable True} {P Q : Prop} (q : Q) : if (!(@decide True i)) = true then P else Q := by
  rw [if_neg (by simp)]; exact q
theorem ifLt {a b : Int} {P Q : Prop} (h : b ≤ a) (q : Q) : if (decide (a < b)) = true then P else Q := by
  rw [if_neg (by simp; omega)]; exact q
theorem ifNe {a b : Int} {P Q : Prop} (h : a = b) (q : Q) : if (a != b) = true then P else Q := by
  rw [if_neg (by simp [h])]; exact q
theorem ifNeB {a b : Bool} {P Q : Prop} (h : a = b) (q : Q) : if (a != b) = true then P else Q := by
  rw [if_neg (by simp [h])]; exact q
theorem ifLtB {a b : Int} {P Q : Prop} (h : a < b → P) (q : ¬ a < b → Q) : if (decide (a < b)) = true then P else Q := by
  by_cases hx : a < b
  · rw [if_pos (by simp [hx])]; exact h hx
  · rw [if_neg (by simp [hx])]; exact q hx
theorem andI {a b c : Prop} (h : a → b → c) : a ∧ b → c := fun x => h x.1 x.2
theorem CrS.eta (t : CrS) : (⟨t.out, ⟨t.join.len, t.join.got⟩, t.dead⟩ : CrS) = t := rfl
theorem CtS.eta (t : CtS) : (⟨t.have_, t.queue, t.granted, t.sent, t.dead⟩ : CtS) = t := rfl
theorem Frm.eta (f : Frm) : (⟨f.kind, f.seq, f.ack, f.poll, f.final, f.say, f.seg, f.len, f.data⟩ : Frm) = f := rfl
theorem Cfg.eta (c : Cfg) : (⟨c.mode, c.win, c.mps, c.mtu, c.try_⟩ : Cfg) = c := rfl
theorem grant_f (r : CrS) : (crdGrant r).f.data.length ≤ 8 := by
  unfold crdGrant
  repeat' split
  all_goals simp [zFrm]
theorem grant_r (r : CrS) : (crdGrant r).r.join.got.length ≤ r.join.got.length := by
  unfold crdGrant
  repeat' split
  all_goals simp [zCr, zJoin]

/-- Messages told: at most one. -/
structure SduOk (n : Nat) (l : List (List Int)) : Prop where
  len : l.length ≤ 1
  dat : ∀ y ∈ l, y.length ≤ n
  c0 : 0 ≤ cntB l
  c1 : cntB l ≤ n
theorem SduOk.nil (n : Nat) : SduOk n [] := ⟨by simp, fun y h => (by cases h), Int.le_refl 0, by show (0 : Int) ≤ n; omega⟩
theorem SduOk.one {n : Nat} (s : List Int) (h : s.length ≤ n) : SduOk n [s] := by
  refine ⟨by simp, fun y hy => ?_, ?_, ?_⟩
  · rw [List.mem_singleton.1 hy]; exact h
  · show 0 ≤ (s.length : Int) + 0
    omega
  · show (s.length : Int) + 0 ≤ n
    omega
theorem SduOk.le {n : Nat} {l : List (List Int)} {y : List Int} (h : SduOk n l) (hy : List.Mem y l) (hn : n ≤ 1048576) : y.length ≤ 137438953472 := Nat.le_trans (h.dat y hy) (by omega)
theorem SduOk.le2 {n : Nat} {l : List (List Int)} {y : List Int} (h : SduOk n l) (hy : List.Mem y l) (hn : n ≤ 1048576) : y.length ≤ 1048576 := Nat.le_trans (h.dat y hy) hn
structure CHearOk (n : Nat) (q : CrHearR) : Prop where
  got : q.r.join.got.length ≤ n
  sdu : SduOk n q.sdus
theorem frm_rng8 {f : Frm} (h : FrmP f) : f.data.length ≤ 8 := by
  unfold FrmP SegP at h
  omega
theorem chear_ok (c : Cfg) (r : CrS) (f : Frm) : CHearOk 1048576 (crdHear c r f) := by
  unfold crdHear
  split
  · rename_i hin
    have hg := hin.got
    have hfr := (frm_rng8 hin.2.2.1)
    have hs := segPut_got r.join ⟨f.seg, f.len, f.data⟩
    have h24 : (segPut r.join ⟨f.seg, f.len, f.data⟩).j.got.length ≤ 1048576 := by have := hs.1; dsimp only at this; omega
    have h25 : (segPut r.join ⟨f.seg, f.len, f.data⟩).sdu.length ≤ 1048576 := by have := hs.2; dsimp only at this; omega
    have hg2 : r.join.got.length ≤ 1048576 := by omega
    unfold crdHear1
    dsimp only
    repeat' split
    all_goals first
      | exact ⟨hg2, .nil _⟩
      | exact ⟨h24, .nil _⟩
      | exact ⟨h24, .one _ h25⟩
  · exact ⟨by simp [zCr, zJoin], .nil _⟩

structure CtB (t : CtS) : Prop where
  ql : t.queue.length ≤ 1048576
  qd : ∀ p ∈ t.queue, p.data.length ≤ 1048576
  qc : cntP t.queue ≤ 4194304
theorem CtB.of (t : CtS) (h : (t.queue.length : Int) + szP t.queue ≤ 1048576) : CtB t := by
  have h2 := szP_nonneg t.queue
  have h4 := cnt_sz t.queue
  refine ⟨by omega, fun p hp => ?_, by omega⟩
  have := szP_mem hp; omega
theorem CtB.z : CtB zCt := ⟨by simp [zCt], fun p h => (by cases h), by show (0 : Int) ≤ 4194304; decide⟩
theorem CtB.c0 (t : CtS) : 0 ≤ cntP t.queue := cntP_nonneg _
theorem CtB.qle {t : CtS} {y : Part} (h : CtB t) (hy : List.Mem y t.queue) : y.data.length ≤ 1048576 := h.qd y hy
theorem cntP_drop_le (l : List Part) (i : Nat) : cntP (l.drop i) ≤ cntP l := by
  have h := cntP_app (l.take i) (l.drop i)
  rw [List.take_append_drop] at h
  have := cntP_nonneg (l.take i)
  omega
theorem take_B {c : Cfg} {t : CtS} {n : Int} (h : CtB t) : CtB (crdTake c t n) := by
  obtain ⟨h1, h2, h3⟩ := h
  unfold crdTake
  repeat' split
  all_goals first | exact ⟨h1, h2, h3⟩ | exact CtB.z
theorem put_B {c : Cfg} {t : CtS} {s : List Int} (h : CtB t) : CtB (crdPut c t s).t := by
  unfold crdPut
  split
  · rename_i hT
    split
    · exact h
    · rename_i h3
      have hd : ∀ p ∈ t.queue ++ segCut s c.mps, p.data.length ≤ 24 := by
        intro p hp
        rcases List.mem_append.1 hp with h9 | h9
        · exact hT.2.2.2.2.2.2.data p h9
        · exact segCut_data _ _ p h9
      have hl : (t.queue ++ segCut s c.mps).length ≤ 24 := by
        rw [List.length_append]; omega
      have hc := cntP_le hd
      refine ⟨by show (t.queue ++ segCut s c.mps).length ≤ 1048576; omega, fun p hp => Nat.le_trans (hd p hp) (by decide), ?_⟩
      show cntP (t.queue ++ segCut s c.mps) ≤ 4194304
      omega
  · exact CtB.z
theorem send_B {c : Cfg} {t : CtS} (h : CtB t) : CtB (crdSend c t).t := by
  obtain ⟨h1, h2, h3⟩ := h
  unfold crdSend
  split
  · split
    · exact ⟨h1, h2, h3⟩
    · refine ⟨?_, fun p hp => h2 p (List.mem_of_mem_drop hp), ?_⟩
      · show (t.queue.drop 1).length ≤ 1048576
        rw [List.length_drop]; omega
      · have := cntP_drop_le t.queue 1
        show cntP (t.queue.drop 1) ≤ 4194304
        omega
  · exact CtB.z
theorem send_f {c : Cfg} {t : CtS} : (crdSend c t).f.data.length ≤ 24 := by
  unfold crdSend
  split
  · rename_i hT
    split
    · simp [zFrm]
    · exact hT.2.2.2.2.2.2.data _ (at0_mem (by omega))
  · simp [zFrm]

/-! laws.FnExactCrdSend -/
def c_laws_FnExactCrdSend : Ent := ctr (α := (Cfg) × (CtS)) (ρ := (Bool)) [] [] (rs rCfg (rs1 rCt)) (fun x_ => (fun (c : Cfg) (t : CtS) => ((∀ d ∈ cfgC c, Wf d) ∧ ∀ d ∈ ctC t, Wf d)) x_.1 x_.2) (fun x_ r_ => (fun x_ => (fun (c : Cfg) (t : CtS) => ((fun r_ => (fun (r : Bool) => (r = true)) r_))) x_.1 x_.2) x_ r_) (fun r_ => (fun (r : Bool) => ([rB.to r])) r_) (fun r_ => (fun (r : Bool) => ([])) r_)
def V_laws_FnExactCrdSend : Env := ⟨tys, [(13, c_laws_eqFrmFrame), (17, c_laws_heldFrmFrame), (18, c_laws_szCrdTx), (20, c_laws_toCfgOpts), (21, c_laws_toCrdTx), (23, c_laws_eqCrdTx), (25, c_laws_heldCrdTx), (31, c_spec_CrdSend), (32, c_impl_CrdSend_x)], [(34, [0]), (39, [1, 2])], [(2, 0), (3, 1), (6, 2), (7, 3), (9, 4), (10, 5), (11, 6), (16, 7), (17, 8)], [(5, ([2, 3], [])), (7, ([5, 6], [1, 2])), (28, ([7, 8], []))], [], [500047, 500053, 500068, 500074, 500080, 500117, 500123], [(15, c_laws_markFrmFrame), (24, c_laws_markCrdTx)], [(5, [(0, false), (2, false), (9, false), (10, false), (1, true), (3, true), (4, true), (5, false), (6, false), (7, false), (8, false), (11, true), (12, true), (13, false)]), (7, [(0, false), (2, false), (8, false), (9, false), (1, true), (3, true), (4, false), (5, false), (6, false), (7, false), (10, true), (11, true), (12, false)]), (10, [(0, false), (1, false), (2, true), (3, true), (4, false)]), (28, [(0, false), (2, false), (9, false), (10, false), (1, true), (3, true), (4, true), (5, false), (6, false), (7, false), (8, false), (11, true), (12, true), (13, false)])]⟩
end Go.Proofs.YtdahhphhblbfdaaE

/- Calls answer what is promised: LawXCs. Conditions: none. -/
set_option linter.unusedVariables false
set_option maxHeartbeats 1600000
namespace Go.Proofs.YtdahhphhblbfdaaE
open Go
set_option maxRecDepth 40000 in
theorem vF_laws_FnExactCrdSend (c:Cfg) (t:CtS) (K:List Arg→List (List AC)→Prop) (hp:(∀ d ∈ cfgC c,Wf d)∧∀ d ∈ ctC t,Wf d) (hk:∀ (r:Bool),(r=true)→K ([rB.to r]) ([])):(true=true)∧(((((List.length t.queue)≤(9223372036854775807:Nat))∧(∀ p:Part,(List.Mem p t.queue)→((List.length p.data)≤(9223372036854775807:Nat))))∧(((0:Int)≤(1048576:Int))∧((1048576:Int)≤(1048576:Int))))∧(∀ r:Int,(((r=(((1048576:Int) - (((List.length t.queue):Nat):Int)) - (szP t.queue)))∧((0:Int)≤r))∨(r=(-1:Int)))→(true=true)∧(if ((decide (r < (0:Int)))=true) then ((true=true)∧(K [(aB true)] [])) else ((true=true)∧(True∧(∀ r1:Cfg,(r1=c)→(true=true)∧((true=true)∧((true=true)∧((((List.length t.queue)≤(1048576:Nat))∧(∀ p:Part,(List.Mem p t.queue)→((List.length p.data)≤(1048576:Nat))))∧(∀ r2:CtS,(r2=t)→((List.length r2.queue)=(List.length r2.queue))∧((true=true)∧((true=true)∧((true=true)∧(True∧(∀ r3:CtSendR,(r3=(crdSend r1 (CtS.mk r2.have_ r2.queue r2.granted r2.sent r2.dead)))→(true=true)∧((true=true)∧((true=true)∧((true=true)∧((true=true)∧((((List.length t.queue)≤(1048576:Nat))∧(∀ p:Part,(List.Mem p t.queue)→((List.length p.data)≤(1048576:Nat))))∧(∀ r4:CtS,(r4=t)→((List.length r4.queue)=(List.length r4.queue))∧((true=true)∧((true=true)∧(True∧(∀ r5:Cfg,(r5=c)→(true=true)∧((true=true)∧((true=true)∧(True∧(∀ r6:CtSendR,(r6=(crdSend r5 (CtS.mk r4.have_ r4.queue r4.granted r4.sent r4.dead)))→((List.length r6.t.queue)=(List.length r6.t.queue))∧((true=true)∧((true=true)∧((true=true)∧((true=true)∧((true=true)∧((((List.length r6.t.queue)≤(137438953472:Nat))∧(∀ y:Part,(List.Mem y r6.t.queue)→((List.length y.data)≤(137438953472:Nat))))∧(∀ r7:Bool,(r7=(decide ((CtS.mk r6.t.have_ r6.t.queue r6.t.granted r6.t.sent r6.t.dead)=(CtS.mk r3.t.have_ r3.t.queue r3.t.granted r3.t.sent r3.t.dead))))→(true=true)∧(if ((!r7)=true) then ((true=true)∧(K [(aB false)] [])) else ((true=true)∧(((List.length r6.f.data)≤(137438953472:Nat))∧(∀ r8:Bool,(r8=(decide ((Frm.mk r6.f.kind r6.f.seq r6.f.ack r6.f.poll r6.f.final r6.f.say r6.f.seg r6.f.len r6.f.data)=r3.f)))→(true=true)∧(if ((!r8)=true) then ((true=true)∧(K [(aB false)] [])) else (if ((r6.ok != r3.ok)=true) then ((true=true)∧(K [(aB false)] [])) else ((true=true)∧((((List.length t.queue)≤(1048576:Nat))∧(∀ p:Part,(List.Mem p t.queue)→((List.length p.data)≤(1048576:Nat))))∧(∀ r9:CtS,(r9=t)→((List.length r9.queue)=(List.length r9.queue))∧((true=true)∧((true=true)∧((true=true)∧((((List.length r4.queue)≤(137438953472:Nat))∧(∀ y:Part,(List.Mem y r4.queue)→((List.length y.data)≤(137438953472:Nat))))∧(∀ r10:Bool,(r10=(decide ((CtS.mk r4.have_ r4.queue r4.granted r4.sent r4.dead)=(CtS.mk r9.have_ r9.queue r9.granted r9.sent r9.dead))))→(true=true)∧((true=true)∧(if ((!r10)=true) then ((true=true)∧(K [(aB false)] [])) else ((true=true)∧(((List.length r4.queue)=(List.length r4.queue))∧(((((List.length r4.queue)≤(1048576:Nat))∧(∀ p:Part,(List.Mem p r4.queue)→((List.length p.data)≤(1048576:Nat))))∧(((0:Int)≤(1:Int))∧(((1:Int) + (cntP r4.queue))≤(1099511627776:Int))))∧(∀ r11:(Prod Int (List Part)),((r11.fst=((1:Int) + (cntP r4.queue)))∧(((List.length r11.snd)=(List.length r4.queue))∧(((cntP r11.snd)=(cntP r4.queue))∧(MarkP r4.queue (1:Int) r11.snd))))→(true=true)∧(if ((decide (r11.fst < (0:Int)))=true) then ((true=true)∧(K [(aB false)] [])) else ((true=true)∧((((List.length r6.t.queue)≤(137438953472:Nat))∧(∀ y:Part,(List.Mem y r6.t.queue)→((List.length y.data)≤(137438953472:Nat))))∧(∀ r12:Bool,(r12=(decide ((CtS.mk r6.t.have_ r6.t.queue r6.t.granted r6.t.sent r6.t.dead)=(CtS.mk r3.t.have_ r3.t.queue r3.t.granted r3.t.sent r3.t.dead))))→(true=true)∧(if ((!r12)=true) then ((true=true)∧(K [(aB false)] [])) else ((true=true)∧(((List.length r6.f.data)≤(137438953472:Nat))∧(∀ r13:Bool,(r13=(decide ((Frm.mk r6.f.kind r6.f.seq r6.f.ack r6.f.poll r6.f.final r6.f.say r6.f.seg r6.f.len r6.f.data)=r3.f)))→(true=true)∧(if ((!r13)=true) then ((true=true)∧(K [(aB false)] [])) else (if ((r6.ok != r3.ok)=true) then ((true=true)∧(K [(aB false)] [])) else ((true=true)∧(((List.length r6.t.queue)=(List.length r6.t.queue))∧(((((List.length r6.t.queue)≤(1048576:Nat))∧(∀ p:Part,(List.Mem p r6.t.queue)→((List.length p.data)≤(1048576:Nat))))∧(((0:Int)≤(1:Int))∧(((1:Int) + (cntP r6.t.queue))≤(1099511627776:Int))))∧(∀ r14:(Prod Int (List Part)),((r14.fst=((1:Int) + (cntP r6.t.queue)))∧(((List.length r14.snd)=(List.length r6.t.queue))∧(((cntP r14.snd)=(cntP r6.t.queue))∧(MarkP r6.t.queue (1:Int) r14.snd))))→(true=true)∧((true=true)∧((((List.length r6.f.data)≤(137438953472:Nat))∧(((0:Int)≤r14.fst)∧(r14.fst≤(1099511627776:Int))))∧(∀ r15:(Prod Int (List Int)),((r15.fst=(r14.fst + (((List.length r6.f.data):Nat):Int)))∧(((List.length r15.snd)=(List.length r6.f.data))∧(MarkB r6.f.data r14.fst r15.snd)))→(true=true)∧((true=true)∧(((((List.length r14.snd)≤(1048576:Nat))∧(∀ p:Part,(List.Mem p r14.snd)→((List.length p.data)≤(1048576:Nat))))∧(((0:Int)≤(1:Int))∧((((1:Int) + (cntP r14.snd))≤(1099511627776:Int))∧(r14.snd=(markP r14.snd (1:Int))))))∧(∀ r16:Int,(r16=((1:Int) + (cntP r14.snd)))→(true=true)∧(if ((decide (r16 < (0:Int)))=true) then ((true=true)∧(K [(aB false)] [])) else ((true=true)∧((((List.length r15.snd)≤(137438953472:Nat))∧(((0:Int)≤r16)∧((r16≤(1099511627776:Int))∧(r15.snd=(markB r15.snd r16)))))∧(∀ r17:Int,(r17=(r16 + (((List.length r15.snd):Nat):Int)))→(true=true)∧(if ((decide (r17 < (0:Int)))=true) then ((true=true)∧(K [(aB false)] [])) else (if ((r17 != r15.fst)=true) then ((true=true)∧(K [(aB false)] [])) else ((true=true)∧(True∧(∀ r18:Cfg,(r18=c)→(true=true)∧((true=true)∧((true=true)∧((((List.length t.queue)≤(1048576:Nat))∧(∀ p:Part,(List.Mem p t.queue)→((List.length p.data)≤(1048576:Nat))))∧(∀ r19:CtS,(r19=t)→((List.length r19.queue)=(List.length r19.queue))∧((true=true)∧((true=true)∧((true=true)∧(True∧(∀ r20:CtSendR,(r20=(crdSend r18 (CtS.mk r19.have_ r19.queue r19.granted r19.sent r19.dead)))→((List.length r20.t.queue)=(List.length r20.t.queue))∧((true=true)∧((true=true)∧((true=true)∧((true=true)∧((true=true)∧((((List.length r20.t.queue)≤(137438953472:Nat))∧(∀ y:Part,(List.Mem y r20.t.queue)→((List.length y.data)≤(137438953472:Nat))))∧(∀ r21:Bool,(r21=(decide ((CtS.mk r20.t.have_ r20.t.queue r20.t.granted r20.t.sent r20.t.dead)=(CtS.mk r3.t.have_ r3.t.queue r3.t.granted r3.t.sent r3.t.dead))))→(true=true)∧(if ((!r21)=true) then ((true=true)∧(K [(aB false)] [])) else ((true=true)∧(((List.length r20.f.data)≤(137438953472:Nat))∧(∀ r22:Bool,(r22=(decide ((Frm.mk r20.f.kind r20.f.seq r20.f.ack r20.f.poll r20.f.final r20.f.say r20.f.seg r20.f.len r20.f.data)=r3.f)))→(true=true)∧(if ((!r22)=true) then ((true=true)∧(K [(aB false)] [])) else (if ((r20.ok != r3.ok)=true) then ((true=true)∧(K [(aB false)] [])) else ((true=true)∧(((((List.length r14.snd)≤(1048576:Nat))∧(∀ p:Part,(List.Mem p r14.snd)→((List.length p.data)≤(1048576:Nat))))∧(((0:Int)≤(1:Int))∧((((1:Int) + (cntP r14.snd))≤(1099511627776:Int))∧(r14.snd=(markP r14.snd (1:Int))))))∧(∀ r23:Int,(r23=((1:Int) + (cntP r14.snd)))→(true=true)∧(if ((decide (r23 < (0:Int)))=true) then ((true=true)∧(K [(aB false)] [])) else ((true=true)∧((((List.length r15.snd)≤(137438953472:Nat))∧(((0:Int)≤r23)∧((r23≤(1099511627776:Int))∧(r15.snd=(markB r15.snd r23)))))∧(∀ r24:Int,(r24=(r23 + (((List.length r15.snd):Nat):Int)))→(true=true)∧(if ((decide (r24 < (0:Int)))=true) then ((true=true)∧(K [(aB false)] [])) else (if ((r24 != r15.fst)=true) then ((true=true)∧(K [(aB false)] [])) else ((true=true)∧(K [(aB true)] [])))))))))))))))))))))))))))))))))))))))))))))))))))))))))))))))))))))))))))))))))))))))))))))))))))))))))))))))))))))) := by
  obtain ⟨_, hp2⟩ := hp
  have hf := send_f (c := c) (t := t)
  have hw := wf_ct hp2
  have hB0 := CtB.of t
  have hG0 := send_B (c := c) (t := t)
  have s2 := szP_nonneg t.queue
  have z1 := CtB.c0 t
  have z3 := CtB.c0 ((crdSend c t).t)
  have hb : (t.queue.length : Int) + szP t.queue ≤ 1048576 → t.queue.length ≤ 1048576 ∧ cntP t.queue ≤ 4194304 ∧ ((crdSend c t).t).queue.length ≤ 1048576 ∧ cntP ((crdSend c t).t).queue ≤ 4194304 := fun h => ⟨(hB0 h).ql, (hB0 h).qc, (hG0 (hB0 h)).ql, (hG0 (hB0 h)).qc⟩
  clear hp2

  repeat' first
    | exact rfl
    | exact True.intro
    | exact hk _ rfl
    | with_reducible apply And.intro
    | with_reducible refine andI ?_
    | (with_reducible intro y_ hy_; subst hy_; try simp only [CrS.eta, CtS.eta, Frm.eta, Cfg.eta])
    | with_reducible intro y_
    | with_reducible assumption
    | refine ifTr ?_
    | refine ifEq rfl ?_
    | refine ifNeB rfl ?_
    | refine ifLt (by omega) ?_
    | refine ifNe (by omega) ?_
    | refine ifLtB (fun h => ?_) (fun h => ?_)
    | omega
    | exact MarkB.to (by assumption) (by omega)
    | exact MarkF.to (by assumption) (by omega)
    | exact MarkP.to (by assumption) (by omega)
    | exact MarkF.le ‹List.Mem _ _› (by assumption)
    | exact Nat.le_trans (MarkF.le ‹List.Mem _ _› (by assumption)) (by decide)
    | exact MarkP.le ‹List.Mem _ _› (by assumption)
    | exact Nat.le_trans (MarkP.le ‹List.Mem _ _› (by assumption)) (by decide)
    | exact (hB0 (by omega)).qle ‹List.Mem _ _›
    | exact (hG0 (hB0 (by omega))).qle ‹List.Mem _ _›
    | exact Nat.le_trans ((hB0 (by omega)).qle ‹List.Mem _ _›) (by decide)
    | exact Nat.le_trans ((hG0 (hB0 (by omega))).qle ‹List.Mem _ _›) (by decide)
    | exact hw.1
    | exact hw.2 _ ‹List.Mem _ _›
theorem w_laws_FnExactCrdSend : Valid Try.prog 6 c_laws_FnExactCrdSend :=
  valid_ctr2 (V := V_laws_FnExactCrdSend) (tysB_ok tys_ok) ⟨(CallsL.cons w_laws_eqFrmFrame (CallsL.cons w_laws_heldFrmFrame (CallsL.cons w_laws_szCrdTx (CallsL.cons w_laws_toCfgOpts (CallsL.cons w_laws_toCrdTx (CallsL.cons w_laws_eqCrdTx (CallsL.cons w_laws_heldCrdTx (CallsL.cons w_spec_CrdSend (CallsL.cons w_impl_CrdSend_x (CallsL.nil _)))))))))), (IosL.cons w_laws_markFrmFrame (IosL.cons w_laws_markCrdTx (IosL.nil _)))⟩ mixed 3 9 Try.func6 rfl (by kernel_rfl)
    (fun c hc => by
      obtain rfl := Option.some.inj hc
      exact ⟨trivial, ⟨trivial, ⟨trivial, ⟨⟨trivial, ⟨⟨trivial, trivial⟩, trivial⟩⟩, ⟨trivial, ⟨trivial, ⟨trivial, ⟨⟨trivial, ⟨⟨trivial, trivial⟩, trivial⟩⟩, ⟨⟨trivial, ⟨⟨trivial, trivial⟩, trivial⟩⟩, ⟨trivial, ⟨trivial, ⟨⟨trivial, ⟨⟨trivial, trivial⟩, trivial⟩⟩, ⟨trivial, ⟨trivial, ⟨trivial, ⟨trivial, ⟨trivial, ⟨⟨trivial, ⟨⟨trivial, trivial⟩, trivial⟩⟩, ⟨trivial, ⟨⟨trivial, ⟨⟨trivial, trivial⟩, trivial⟩⟩, ⟨⟨trivial, ⟨⟨trivial, trivial⟩, trivial⟩⟩, ⟨trivial, ⟨⟨trivial, ⟨⟨trivial, trivial⟩, trivial⟩⟩, ⟨trivial, ⟨trivial, ⟨⟨trivial, ⟨⟨trivial, trivial⟩, trivial⟩⟩, ⟨trivial, ⟨⟨trivial, ⟨⟨trivial, trivial⟩, trivial⟩⟩, ⟨⟨trivial, ⟨⟨trivial, trivial⟩, trivial⟩⟩, ⟨trivial, trivial⟩⟩⟩⟩⟩⟩⟩⟩⟩⟩⟩⟩⟩⟩⟩⟩⟩⟩⟩⟩⟩⟩⟩⟩⟩⟩⟩⟩⟩⟩)
    (fun x K hp hk => ⟨_, by kernel_rfl, vF_laws_FnExactCrdSend x.1 x.2 K hp (fun r h => hk r h)⟩)
end Go.Proofs.YtdahhphhblbfdaaE
