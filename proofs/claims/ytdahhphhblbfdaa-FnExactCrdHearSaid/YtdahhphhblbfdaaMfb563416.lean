/- A part of the proof of laws of the program: what calls of the program answer. Conditions: none. -/
import Derived.Test.YtdahhphhblbfdaaM038bd384
set_option linter.unusedVariables false
set_option linter.unusedSimpArgs false
set_option linter.unusedSectionVars false
/- Contracts: LawXCh. Conditions: none. -/
set_option linter.unusedVariables false
set_option maxHeartbeats 1600000
namespace Go.Proofs.YtdahhphhblbfdaaE
open Go
theorem mk_self {l x : List Int} {k : Int} (h : l = markB x k) : l = markB l k := by rw [h, markB_idem]
theorem Wf.row {k : RK} {l : List k.El} (h : Wf (.r k l)) : l.length ≤ maxLen ∧ ∀ y ∈ flat k l, Wf y := by
  cases h with
  | r _ _ h1 h2 => exact ⟨h1, h2⟩
theorem Wf.bytes {l : List Int} (h : Wf (.r .u8 l)) : l.length ≤ 9223372036854775807 ∧ Bytes l := by
  obtain ⟨h1, h2⟩ := Wf.row (k := .u8) h
  refine ⟨h1, Bytes.of_wf fun y hy => ?_⟩
  have h3 : D.i .u8 y ∈ flat .u8 l := List.mem_flatMap.2 ⟨y, hy, List.mem_singleton.2 rfl⟩
  have h4 := h2 _ h3
  cases h4 with
  | i _ _ h5 => exact h5
theorem wf_frm {f : Frm} (h : ∀ d ∈ RK.cells .frm f, Wf d) : f.data.length ≤ 9223372036854775807 ∧ Bytes f.data := Wf.bytes (h (.r .u8 f.data) (by simp [RK.cells]))
theorem mem_flat {k : RK} {l : List k.El} {x : k.El} (hx : x ∈ l) {d : D} (hd : d ∈ k.cells x) : d ∈ flat k l := List.mem_flatMap.2 ⟨x, hx, hd⟩
theorem Wf.parts {l : List Part} (h : Wf (.r .part l)) : l.length ≤ 9223372036854775807 ∧ ∀ p ∈ l, p.data.length ≤ 9223372036854775807 := by
  obtain ⟨h1, h2⟩ := Wf.row (k := .part) h
  exact ⟨h1, fun p hp => (Wf.bytes (h2 _ (mem_flat (k := .part) hp (d := .r .u8 p.data) (by simp [RK.cells])))).1⟩
theorem Wf.partsB {l : List Part} (h : Wf (.r .part l)) : ∀ p ∈ l, Bytes p.data := by
  obtain ⟨h1, h2⟩ := Wf.row (k := .part) h
  exact fun p hp => (Wf.bytes (h2 _ (mem_flat (k := .part) hp (d := .r .u8 p.data) (by simp [RK.cells])))).2
theorem wf_tx {t : TxS} (h : ∀ d ∈ txC t, Wf d) : (t.flight.length ≤ 9223372036854775807 ∧ ∀ p ∈ t.flight, p.data.length ≤ 9223372036854775807) ∧ (t.queue.length ≤ 9223372036854775807 ∧ ∀ p ∈ t.queue, p.data.length ≤ 9223372036854775807) :=
  ⟨Wf.parts (h (.r .part t.flight) (by simp [txC])), Wf.parts (h (.r .part t.queue) (by simp [txC]))⟩
theorem wf_ct {t : CtS} (h : ∀ d ∈ ctC t, Wf d) : t.queue.length ≤ 9223372036854775807 ∧ ∀ p ∈ t.queue, p.data.length ≤ 9223372036854775807 := Wf.parts (h (.r .part t.queue) (by simp [ctC]))
theorem wf_rx {t : RxS} (h : ∀ d ∈ rxC t, Wf d) : t.join.got.length ≤ 9223372036854775807 ∧ Bytes t.join.got := Wf.bytes (h (.r .u8 t.join.got) (by simp [rxC]))
theorem wf_cr {t : CrS} (h : ∀ d ∈ crC t, Wf d) : t.join.got.length ≤ 9223372036854775807 ∧ Bytes t.join.got := Wf.bytes (h (.r .u8 t.join.got) (by simp [crC]))
theorem wf_num {k : IntKind} {x : Int} (h : Wf (.i k x)) : (Lit.int k x).wf = true := by
  cases h; assumption
theorem ifEq {α : Type} [DecidableEq α] {a b : α} {P Q : Prop} (h : a = b) (q : Q) : if (!decide (a = b)) = true then P else Q := by
  rw [if_neg (by simp [h])]; exact q
theorem ifTr {i : Decidable True} {P Q : Prop} (q : Q) : if (!(@decide True i)) = true then P else Q := by
  rw [if_neg (by simp)]; exact q
theorem ifLt {a b : Int} {P Q : Prop} (h : b ≤ a) (q : Q) : if (decide (a < b)) = true then P else Q := by
  rw [if_neg (by simp; omega)]; exact q
theorem ifNe {a b : Int} {P Q : Prop} (h : a = b) (q : Q) : if (a != b) = true then P else Q := by
  rw [if_neg (by simp [h])]; exact q
theorem ifNeB {a b : Bool} {P Q : Prop} (h : a = b) (q : Q) : if (a != b) = true then P else Q := by
  rw [if_neg (by simp [h])]; exact q
theorem ifLtB {a b : Int} {P Q : Prop} (h : a < b → P) (q : ¬ a < b → Q) : if (decide (a < b)) = true then P else Q := by
  by_cases hx : a < b
  · rw [if_pos (by simp [hx])]; exact h hx
  · rw [if_neg (by simp [hx])]; exact q hx
theorem andI {a b c : Prop} (h : a → b → c) : a ∧ b → c := fun x => h x.1 x.2
theorem CrS.eta (t : CrS) : (⟨t.out, ⟨t.join.len, t.join.got⟩, t.dead⟩ : CrS) = t := rfl
theorem CtS.eta (t : CtS) : (⟨t.have_, t.queue, t.granted, t.sent, t.dead⟩ : CtS) = t := rfl
theorem Frm.eta (f : Frm) : (⟨f.kind, f.seq, f.ack, f.poll, f.final, f.say, f.seg, f.len, f.data⟩ : Frm) = f := rfl
theorem Cfg.eta (c : Cfg) : (⟨c.mode, c.win, c.mps, c.mtu, c.try_⟩ : Cfg) = c := rfl
theorem grant_f (r : CrS) : (crdGrant r).f.data.length ≤ 8 := by
  unfold crdGrant
  repeat' split
  all_goals simp [zFrm]
theorem grant_r (r : CrS) : (crdGrant r).r.join.got.length ≤ r.join.got.length := by
  unfold crdGrant
  repeat' split
  all_goals simp [zCr, zJoin]

/-- Messages told: at most one. -/
structure SduOk (n : Nat) (l : List (List Int)) : Prop where
  len : l.length ≤ 1
  dat : ∀ y ∈ l, y.length ≤ n
  c0 : 0 ≤ cntB l
  c1 : cntB l ≤ n
theorem SduOk.nil (n : Nat) : SduOk n [] := ⟨by simp, fun y h => (by cases h), Int.le_refl 0, by show (0 : Int) ≤ n; omega⟩
theorem SduOk.one {n : Nat} (s : List Int) (h : s.length ≤ n) : SduOk n [s] := by
  refine ⟨by simp, fun y hy => ?_, ?_, ?_⟩
  · rw [List.mem_singleton.1 hy]; exact h
  · show 0 ≤ (s.length : Int) + 0
    omega
  · show (s.length : Int) + 0 ≤ n
    omega
theorem SduOk.le {n : Nat} {l : List (List Int)} {y : List Int} (h : SduOk n l) (hy : List.Mem y l) (hn : n ≤ 1048576) : y.length ≤ 137438953472 := Nat.le_trans (h.dat y hy) (by omega)
theorem SduOk.le2 {n : Nat} {l : List (List Int)} {y : List Int} (h : SduOk n l) (hy : List.Mem y l) (hn : n ≤ 1048576) : y.length ≤ 1048576 := Nat.le_trans (h.dat y hy) hn
structure CHearOk (n : Nat) (q : CrHearR) : Prop where
  got : q.r.join.got.length ≤ n
  sdu : SduOk n q.sdus
theorem frm_rng8 {f : Frm} (h : FrmP f) : f.data.length ≤ 8 := by
  unfold FrmP SegP at h
  omega
theorem chear_ok (c : Cfg) (r : CrS) (f : Frm) : CHearOk 1048576 (crdHear c r f) := by
  unfold crdHear
  split
  · rename_i hin
    have hg := hin.got
    have hfr := (frm_rng8 hin.2.2.1)
    have hs := segPut_got r.join ⟨f.seg, f.len, f.data⟩
    have h24 : (segPut r.join ⟨f.seg, f.len, f.data⟩).j.got.length ≤ 1048576 := by have := hs.1; dsimp only at this; omega
    have h25 : (segPut r.join ⟨f.seg, f.len, f.data⟩).sdu.length ≤ 1048576 := by have := hs.2; dsimp only at this; omega
    have hg2 : r.join.got.length ≤ 1048576 := by omega
    unfold crdHear1
    dsimp only
    repeat' split
    all_goals first
      | exact ⟨hg2, .nil _⟩
      | exact ⟨h24, .nil _⟩
      | exact ⟨h24, .one _ h25⟩
  · exact ⟨by simp [zCr, zJoin], .nil _⟩

structure CtB (t : CtS) : Prop where
  ql : t.queue.length ≤ 1048576
  qd : ∀ p ∈ t.queue, p.data.length ≤ 1048576
  qc : cntP t.queue ≤ 4194304
theorem CtB.of (t : CtS) (h : (t.queue.length : Int) + szP t.queue ≤ 1048576) : CtB t := by
  have h2 := szP_nonneg t.queue
  have h4 := cnt_sz t.queue
  refine ⟨by omega, fun p hp => ?_, by omega⟩
  have := szP_mem hp; omega
theorem CtB.z : CtB zCt := ⟨by simp [zCt], fun p h => (by cases h), by show (0 : Int) ≤ 4194304; decide⟩
theorem CtB.c0 (t : CtS) : 0 ≤ cntP t.queue := cntP_nonneg _
theorem CtB.qle {t : CtS} {y : Part} (h : CtB t) (hy : List.Mem y t.queue) : y.data.length ≤ 1048576 := h.qd y hy
theorem cntP_drop_le (l : List Part) (i : Nat) : cntP (l.drop i) ≤ cntP l := by
  have h := cntP_app (l.take i) (l.drop i)
  rw [List.take_append_drop] at h
  have := cntP_nonneg (l.take i)
  omega
theorem take_B {c : Cfg} {t : CtS} {n : Int} (h : CtB t) : CtB (crdTake c t n) := by
  obtain ⟨h1, h2, h3⟩ := h
  unfold crdTake
  repeat' split
  all_goals first | exact ⟨h1, h2, h3⟩ | exact CtB.z
theorem put_B {c : Cfg} {t : CtS} {s : List Int} (h : CtB t) : CtB (crdPut c t s).t := by
  unfold crdPut
  split
  · rename_i hT
    split
    · exact h
    · rename_i h3
      have hd : ∀ p ∈ t.queue ++ segCut s c.mps, p.data.length ≤ 24 := by
        intro p hp
        rcases List.mem_append.1 hp with h9 | h9
        · exact hT.2.2.2.2.2.2.data p h9
        · exact segCut_data _ _ p h9
      have hl : (t.queue ++ segCut s c.mps).length ≤ 24 := by
        rw [List.length_append]; omega
      have hc := cntP_le hd
      refine ⟨by show (t.queue ++ segCut s c.mps).length ≤ 1048576; omega, fun p hp => Nat.le_trans (hd p hp) (by decide), ?_⟩
      show cntP (t.queue ++ segCut s c.mps) ≤ 4194304
      omega
  · exact CtB.z
theorem send_B {c : Cfg} {t : CtS} (h : CtB t) : CtB (crdSend c t).t := by
  obtain ⟨h1, h2, h3⟩ := h
  unfold crdSend
  split
  · split
    · exact ⟨h1, h2, h3⟩
    · refine ⟨?_, fun p hp => h2 p (List.mem_of_mem_drop hp), ?_⟩
      · show (t.queue.drop 1).length ≤ 1048576
        rw [List.length_drop]; omega
      · have := cntP_drop_le t.queue 1
        show cntP (t.queue.drop 1) ≤ 4194304
        omega
  · exact CtB.z
theorem send_f {c : Cfg} {t : CtS} : (crdSend c t).f.data.length ≤ 24 := by
  unfold crdSend
  split
  · rename_i hT
    split
    · simp [zFrm]
    · exact hT.2.2.2.2.2.2.data _ (at0_mem (by omega))
  · simp [zFrm]

/-! laws.FnExactCrdHear -/
def c_laws_FnExactCrdHear : Ent := ctr (α := (Cfg) × (CrS) × (Frm)) (ρ := (Bool)) [] [] (rs rCfg (rs rCr (rs1 rFrm))) (fun x_ => (fun (c : Cfg) (r : CrS) (f : Frm) => ((∀ d ∈ cfgC c, Wf d) ∧ (∀ d ∈ crC r, Wf d) ∧ ∀ d ∈ RK.cells .frm f, Wf d)) x_.1 x_.2.1 x_.2.2) (fun x_ r_ => (fun x_ => (fun (c : Cfg) (r : CrS) (f : Frm) => ((fun r_ => (fun (r : Bool) => (r = true)) r_))) x_.1 x_.2.1 x_.2.2) x_ r_) (fun r_ => (fun (r : Bool) => ([rB.to r])) r_) (fun r_ => (fun (r : Bool) => ([])) r_)
def V_laws_FnExactCrdHear : Env := ⟨tys, [(8, c_laws_szCrdRx), (10, c_laws_toCrdRx), (12, c_laws_eqCrdRx), (13, c_laws_eqFrmFrame), (16, c_laws_heldCrdRx), (20, c_laws_toCfgOpts), (33, c_laws_szFrmFrame), (34, c_spec_CrdHear), (35, c_laws_toFrmFrame), (36, c_impl_CrdHear_x), (37, c_laws_eqByteSS), (39, c_laws_heldByteSS)], [(40, [0]), (42, [1]), (48, [2, 3])], [(3, 0), (4, 1), (5, 2), (8, 3), (10, 4), (11, 5), (12, 6), (17, 7)], [(8, ([3], [])), (11, ([6], [2, 3])), (35, ([7], []))], [], [500055, 500079, 500085, 500124], [(14, c_laws_markCrdRx), (15, c_laws_markFrmFrame), (38, c_laws_markByteSS)], [(8, [(0, false), (2, false), (4, false), (10, false), (1, true), (3, true), (5, true), (6, true), (7, false), (8, false), (9, false), (11, true), (12, false)]), (11, [(0, false), (2, false), (3, false), (8, false), (1, true), (4, true), (5, false), (6, false), (7, false), (9, true), (10, false)]), (14, [(0, false), (1, false), (2, true), (3, true), (4, false)]), (16, [(0, false), (1, false), (2, true), (3, true), (4, false)]), (35, [(0, false), (2, false), (4, false), (10, false), (1, true), (3, true), (5, true), (6, true), (7, false), (8, false), (9, false), (11, true), (12, false)])]⟩
end Go.Proofs.YtdahhphhblbfdaaE

/- Calls answer what is promised: LawXCh. Conditions: none. -/
set_option linter.unusedVariables false
set_option maxHeartbeats 1600000
namespace Go.Proofs.YtdahhphhblbfdaaE
open Go
set_option maxRecDepth 40000 in
theorem vF_laws_FnExactCrdHear (c:Cfg) (r:CrS) (f:Frm) (K:List Arg→List (List AC)→Prop) (hp:(∀ d ∈ cfgC c,Wf d)∧(∀ d ∈ crC r,Wf d)∧∀ d ∈ RK.cells .frm f,Wf d) (hk:∀ (r:Bool),(r=true)→K ([rB.to r]) ([])):(true=true)∧((((List.length r.join.got)≤(9223372036854775807:Nat))∧(((0:Int)≤(1048576:Int))∧((1048576:Int)≤(1048576:Int))))∧(∀ r1:Int,(((r1=((1048576:Int) - (((List.length r.join.got):Nat):Int)))∧((0:Int)≤r1))∨(r1=(-1:Int)))→(true=true)∧(if ((decide (r1 < (0:Int)))=true) then ((true=true)∧(K [(aB true)] [])) else ((true=true)∧((((List.length f.data)≤(9223372036854775807:Nat))∧(((0:Int)≤r1)∧(r1≤(1048576:Int))))∧(∀ r2:Int,(((r2=(r1 - (((List.length f.data):Nat):Int)))∧((0:Int)≤r2))∨(r2=(-1:Int)))→(true=true)∧(if ((decide (r2 < (0:Int)))=true) then ((true=true)∧(K [(aB true)] [])) else ((true=true)∧(True∧(∀ r3:Cfg,(r3=c)→(true=true)∧((true=true)∧((true=true)∧(((List.length r.join.got)≤(137438953472:Nat))∧(∀ r4:CrS,(r4=r)→(true=true)∧((true=true)∧((true=true)∧(((List.length f.data)≤(137438953472:Nat))∧(∀ r5:Frm,(r5=f)→(true=true)∧((true=true)∧((true=true)∧(((List.length r5.data)≤(1000000000:Nat))∧(∀ r6:CrHearR,(r6=(crdHear r3 (CrS.mk r4.out (JoinS.mk r4.join.len r4.join.got) r4.dead) (Frm.mk r5.kind r5.seq r5.ack r5.poll r5.final r5.say r5.seg r5.len r5.data)))→(true=true)∧((true=true)∧((true=true)∧((true=true)∧(((List.length r.join.got)≤(137438953472:Nat))∧(∀ r7:CrS,(r7=r)→(true=true)∧((true=true)∧(((List.length f.data)≤(137438953472:Nat))∧(∀ r8:Frm,(r8=f)→(true=true)∧((true=true)∧(True∧(∀ r9:Cfg,(r9=c)→(true=true)∧((true=true)∧((true=true)∧(((List.length r8.data)≤(1000000000:Nat))∧(∀ r10:CrHearR,(r10=(crdHear r9 (CrS.mk r7.out (JoinS.mk r7.join.len r7.join.got) r7.dead) (Frm.mk r8.kind r8.seq r8.ack r8.poll r8.final r8.say r8.seg r8.len r8.data)))→((List.length r10.sdus)=(List.length r10.sdus))∧((true=true)∧((true=true)∧((true=true)∧((true=true)∧(((List.length r10.r.join.got)≤(137438953472:Nat))∧(∀ r11:Bool,(r11=(decide ((CrS.mk r10.r.out (JoinS.mk r10.r.join.len r10.r.join.got) r10.r.dead)=r6.r)))→(true=true)∧(if ((!r11)=true) then ((true=true)∧(K [(aB false)] [])) else ((true=true)∧((((List.length r10.sdus)≤(137438953472:Nat))∧(∀ y:(List Int),(List.Mem y r10.sdus)→((List.length y)≤(137438953472:Nat))))∧(∀ r12:Bool,(r12=(decide (r10.sdus=r6.sdus)))→(true=true)∧(if ((!r12)=true) then ((true=true)∧(K [(aB false)] [])) else ((true=true)∧(((List.length r.join.got)≤(137438953472:Nat))∧(∀ r13:CrS,(r13=r)→(true=true)∧((true=true)∧((true=true)∧(((List.length r7.join.got)≤(137438953472:Nat))∧(∀ r14:Bool,(r14=(decide ((CrS.mk r7.out (JoinS.mk r7.join.len r7.join.got) r7.dead)=(CrS.mk r13.out (JoinS.mk r13.join.len r13.join.got) r13.dead))))→(true=true)∧((true=true)∧(if ((!r14)=true) then ((true=true)∧(K [(aB false)] [])) else ((true=true)∧(((List.length f.data)≤(137438953472:Nat))∧(∀ r15:Frm,(r15=f)→(true=true)∧((true=true)∧((true=true)∧(((List.length r8.data)≤(137438953472:Nat))∧(∀ r16:Bool,(r16=(decide ((Frm.mk r8.kind r8.seq r8.ack r8.poll r8.final r8.say r8.seg r8.len r8.data)=(Frm.mk r15.kind r15.seq r15.ack r15.poll r15.final r15.say r15.seg r15.len r15.data))))→(true=true)∧((true=true)∧(if ((!r16)=true) then ((true=true)∧(K [(aB false)] [])) else ((true=true)∧((((List.length r7.join.got)≤(137438953472:Nat))∧(((0:Int)≤(1:Int))∧((1:Int)≤(1099511627776:Int))))∧(∀ r17:(Prod Int (List Int)),((r17.fst=((1:Int) + (((List.length r7.join.got):Nat):Int)))∧(((List.length r17.snd)=(List.length r7.join.got))∧(MarkB r7.join.got (1:Int) r17.snd)))→(true=true)∧((true=true)∧((((List.length r8.data)≤(137438953472:Nat))∧(((0:Int)≤r17.fst)∧(r17.fst≤(1099511627776:Int))))∧(∀ r18:(Prod Int (List Int)),((r18.fst=(r17.fst + (((List.length r8.data):Nat):Int)))∧(((List.length r18.snd)=(List.length r8.data))∧(MarkB r8.data r17.fst r18.snd)))→(true=true)∧(if ((decide (r18.fst < (0:Int)))=true) then ((true=true)∧(K [(aB false)] [])) else ((true=true)∧(((List.length r10.r.join.got)≤(137438953472:Nat))∧(∀ r19:Bool,(r19=(decide ((CrS.mk r10.r.out (JoinS.mk r10.r.join.len r10.r.join.got) r10.r.dead)=r6.r)))→(true=true)∧(if ((!r19)=true) then ((true=true)∧(K [(aB false)] [])) else ((true=true)∧((((List.length r10.sdus)≤(137438953472:Nat))∧(∀ y:(List Int),(List.Mem y r10.sdus)→((List.length y)≤(137438953472:Nat))))∧(∀ r20:Bool,(r20=(decide (r10.sdus=r6.sdus)))→(true=true)∧(if ((!r20)=true) then ((true=true)∧(K [(aB false)] [])) else ((true=true)∧((((List.length r10.r.join.got)≤(137438953472:Nat))∧(((0:Int)≤(1:Int))∧((1:Int)≤(1099511627776:Int))))∧(∀ r21:(Prod Int (List Int)),((r21.fst=((1:Int) + (((List.length r10.r.join.got):Nat):Int)))∧(((List.length r21.snd)=(List.length r10.r.join.got))∧(MarkB r10.r.join.got (1:Int) r21.snd)))→(true=true)∧((true=true)∧(((List.length r10.sdus)=(List.length r10.sdus))∧(((((List.length r10.sdus)≤(1048576:Nat))∧(∀ x:(List Int),(List.Mem x r10.sdus)→((List.length x)≤(1048576:Nat))))∧(((0:Int)≤r21.fst)∧((r21.fst + (cntB r10.sdus))≤(1099511627776:Int))))∧(∀ r22:(Prod Int (List (List Int))),((r22.fst=(r21.fst + (cntB r10.sdus)))∧((r22.snd=(markBB r10.sdus r21.fst))∧(((List.length r22.snd)=(List.length r10.sdus))∧(((cntB r22.snd)=(cntB r10.sdus))∧(MarkBB r10.sdus r21.fst r22.snd)))))→(true=true)∧((true=true)∧((((List.length r21.snd)≤(137438953472:Nat))∧(((0:Int)≤(1:Int))∧(((1:Int)≤(1099511627776:Int))∧(r21.snd=(markB r21.snd (1:Int))))))∧(∀ r23:Int,(r23=((1:Int) + (((List.length r21.snd):Nat):Int)))→(true=true)∧(if ((decide (r23 < (0:Int)))=true) then ((true=true)∧(K [(aB false)] [])) else ((true=true)∧(((((List.length r22.snd)≤(1048576:Nat))∧(∀ x:(List Int),(List.Mem x r22.snd)→((List.length x)≤(1048576:Nat))))∧(((0:Int)≤r23)∧(((r23 + (cntB r22.snd))≤(1099511627776:Int))∧(r22.snd=(markBB r22.snd r23)))))∧(∀ r24:Int,(r24=(r23 + (cntB r22.snd)))→(true=true)∧(if ((decide (r24 < (0:Int)))=true) then ((true=true)∧(K [(aB false)] [])) else (if ((r24 != r22.fst)=true) then ((true=true)∧(K [(aB false)] [])) else ((true=true)∧(True∧(∀ r25:Cfg,(r25=c)→(true=true)∧((true=true)∧((true=true)∧(((List.length r.join.got)≤(137438953472:Nat))∧(∀ r26:CrS,(r26=r)→(true=true)∧((true=true)∧((true=true)∧(((List.length f.data)≤(137438953472:Nat))∧(∀ r27:Frm,(r27=f)→(true=true)∧((true=true)∧((true=true)∧(((List.length r27.data)≤(1000000000:Nat))∧(∀ r28:CrHearR,(r28=(crdHear r25 (CrS.mk r26.out (JoinS.mk r26.join.len r26.join.got) r26.dead) (Frm.mk r27.kind r27.seq r27.ack r27.poll r27.final r27.say r27.seg r27.len r27.data)))→((List.length r28.sdus)=(List.length r28.sdus))∧((true=true)∧((true=true)∧((true=true)∧((true=true)∧(((List.length r28.r.join.got)≤(137438953472:Nat))∧(∀ r29:Bool,(r29=(decide ((CrS.mk r28.r.out (JoinS.mk r28.r.join.len r28.r.join.got) r28.r.dead)=r6.r)))→(true=true)∧(if ((!r29)=true) then ((true=true)∧(K [(aB false)] [])) else ((true=true)∧((((List.length r28.sdus)≤(137438953472:Nat))∧(∀ y:(List Int),(List.Mem y r28.sdus)→((List.length y)≤(137438953472:Nat))))∧(∀ r30:Bool,(r30=(decide (r28.sdus=r6.sdus)))→(true=true)∧(if ((!r30)=true) then ((true=true)∧(K [(aB false)] [])) else ((true=true)∧((((List.length r21.snd)≤(137438953472:Nat))∧(((0:Int)≤(1:Int))∧(((1:Int)≤(1099511627776:Int))∧(r21.snd=(markB r21.snd (1:Int))))))∧(∀ r31:Int,(r31=((1:Int) + (((List.length r21.snd):Nat):Int)))→(true=true)∧(if ((decide (r31 < (0:Int)))=true) then ((true=true)∧(K [(aB false)] [])) else ((true=true)∧(((((List.length r22.snd)≤(1048576:Nat))∧(∀ x:(List Int),(List.Mem x r22.snd)→((List.length x)≤(1048576:Nat))))∧(((0:Int)≤r31)∧(((r31 + (cntB r22.snd))≤(1099511627776:Int))∧(r22.snd=(markBB r22.snd r31)))))∧(∀ r32:Int,(r32=(r31 + (cntB r22.snd)))→(true=true)∧(if ((decide (r32 < (0:Int)))=true) then ((true=true)∧(K [(aB false)] [])) else (if ((r32 != r22.fst)=true) then ((true=true)∧(K [(aB false)] [])) else ((true=true)∧(K [(aB true)] [])))))))))))))))))))))))))))))))))))))))))))))))))))))))))))))))))))))))))))))))))))))))))))))))))))))))))))))))))))))))))))))))))))))) := by
  obtain ⟨_, hp1, hp2⟩ := hp
  have hw := wf_cr hp1
  have hv := wf_frm hp2
  have hO := chear_ok c r f
  have hH1 := hO.got
  have hH2 := hO.sdu.len
  have hH3 := hO.sdu.c0
  have hH4 := hO.sdu.c1
  clear hp1 hp2

  repeat' first
    | exact rfl
    | exact True.intro
    | exact hk _ rfl
    | with_reducible apply And.intro
    | with_reducible refine andI ?_
    | (with_reducible intro y_ hy_; subst hy_; try simp only [CrS.eta, CtS.eta, Frm.eta, Cfg.eta])
    | with_reducible intro y_
    | with_reducible assumption
    | refine ifTr ?_
    | refine ifEq rfl ?_
    | refine ifNeB rfl ?_
    | refine ifLt (by omega) ?_
    | refine ifNe (by omega) ?_
    | refine ifLtB (fun h => ?_) (fun h => ?_)
    | omega
    | exact hw.1
    | exact hv.1
    | exact hO.sdu.le ‹List.Mem _ _› (by decide)
    | exact hO.sdu.le2 ‹List.Mem _ _› (by decide)
    | exact MarkBB.to (by assumption) (by omega)
    | exact MarkBB.le ‹List.Mem _ _› (by assumption)
    | exact Nat.le_trans (MarkBB.le ‹List.Mem _ _› (by assumption)) (by decide)
    | exact MarkB.to (by assumption) (by omega)
    | exact MarkF.to (by assumption) (by omega)
    | exact MarkP.to (by assumption) (by omega)
    | exact MarkF.le ‹List.Mem _ _› (by assumption)
    | exact Nat.le_trans (MarkF.le ‹List.Mem _ _› (by assumption)) (by decide)
    | exact MarkP.le ‹List.Mem _ _› (by assumption)
    | exact Nat.le_trans (MarkP.le ‹List.Mem _ _› (by assumption)) (by decide)
theorem w_laws_FnExactCrdHear : Valid Try.prog 7 c_laws_FnExactCrdHear :=
  valid_ctr2 (V := V_laws_FnExactCrdHear) (tysB_ok tys_ok) ⟨(CallsL.cons w_laws_szCrdRx (CallsL.cons w_laws_toCrdRx (CallsL.cons w_laws_eqCrdRx (CallsL.cons w_laws_eqFrmFrame (CallsL.cons w_laws_heldCrdRx (CallsL.cons w_laws_toCfgOpts (CallsL.cons w_laws_szFrmFrame (CallsL.cons w_spec_CrdHear (CallsL.cons w_laws_toFrmFrame (CallsL.cons w_impl_CrdHear_x (CallsL.cons w_laws_eqByteSS (CallsL.cons w_laws_heldByteSS (CallsL.nil _))))))))))))), (IosL.cons w_laws_markCrdRx (IosL.cons w_laws_markFrmFrame (IosL.cons w_laws_markByteSS (IosL.nil _))))⟩ mixed 4 8 Try.func7 rfl (by kernel_rfl)
    (fun c hc => by
      obtain rfl := Option.some.inj hc
      exact ⟨trivial, ⟨trivial, ⟨trivial, ⟨⟨trivial, ⟨⟨trivial, trivial⟩, trivial⟩⟩, ⟨trivial, ⟨⟨trivial, ⟨⟨trivial, trivial⟩, trivial⟩⟩, ⟨trivial, ⟨trivial, ⟨trivial, ⟨trivial, ⟨⟨trivial, ⟨⟨trivial, trivial⟩, trivial⟩⟩, ⟨⟨trivial, ⟨⟨trivial, trivial⟩, trivial⟩⟩, ⟨⟨trivial, ⟨⟨trivial, trivial⟩, trivial⟩⟩, ⟨trivial, ⟨trivial, ⟨trivial, ⟨⟨trivial, ⟨⟨trivial, trivial⟩, trivial⟩⟩, ⟨trivial, ⟨trivial, ⟨trivial, ⟨trivial, ⟨trivial, ⟨⟨trivial, ⟨⟨trivial, trivial⟩, trivial⟩⟩, ⟨trivial, ⟨⟨trivial, ⟨⟨trivial, trivial⟩, trivial⟩⟩, ⟨⟨trivial, ⟨⟨trivial, trivial⟩, trivial⟩⟩, ⟨trivial, ⟨⟨trivial, ⟨⟨trivial, trivial⟩, trivial⟩⟩, ⟨trivial, ⟨trivial, ⟨⟨trivial, ⟨⟨trivial, trivial⟩, trivial⟩⟩, ⟨trivial, ⟨⟨trivial, ⟨⟨trivial, trivial⟩, trivial⟩⟩, ⟨⟨trivial, ⟨⟨trivial, trivial⟩, trivial⟩⟩, ⟨trivial, trivial⟩⟩⟩⟩⟩⟩⟩⟩⟩⟩⟩⟩⟩⟩⟩⟩⟩⟩⟩⟩⟩⟩⟩⟩⟩⟩⟩⟩⟩⟩⟩⟩⟩⟩⟩)
    (fun x K hp hk => ⟨_, by kernel_rfl, vF_laws_FnExactCrdHear x.1 x.2.1 x.2.2 K hp (fun r h => hk r h)⟩)
end Go.Proofs.YtdahhphhblbfdaaE
