/- A part of the proof of laws of the program: what calls of the program answer. Conditions: none. -/
import Derived.Test.YtdahhphhblbfdaaM038bd384
set_option linter.unusedVariables false
set_option linter.unusedSimpArgs false
set_option linter.unusedSectionVars false
/- Contracts: LawXCt. Conditions: none. -/
set_option linter.unusedVariables false
set_option maxHeartbeats 1600000
namespace Go.Proofs.YtdahhphhblbfdaaE
open Go
theorem mk_self {l x : List Int} {k : Int} (h : l = markB x k) : l = markB l k := by rw [h, markB_idem]
theorem Wf.row {k : RK} {l : List k.El} (h : Wf (.r k l)) : l.length ≤ maxLen ∧ ∀ y ∈ flat k l, Wf y := by
  cases h with
  | r _ _ h1 h2 => exact ⟨h1, h2⟩
theorem Wf.bytes {l : List Int} (h : Wf (.r .u8 l)) : l.length ≤ 9223372036854775807 ∧ Bytes l := by
  obtain ⟨h1, h2⟩ := Wf.row (k := .u8) h
  refine ⟨h1, Bytes.of_wf fun y hy => ?_⟩
  have h3 : D.i .u8 y ∈ flat .u8 l := List.mem_flatMap.2 ⟨y, hy, List.mem_singleton.2 rfl⟩
  have h4 := h2 _ h3
  cases h4 with
  | i _ _ h5 => exact h5
theorem wf_frm {f : Frm} (h : ∀ d ∈ RK.cells .frm f, Wf d) : f.data.length ≤ 9223372036854775807 ∧ Bytes f.data := Wf.bytes (h (.r .u8 f.data) (by simp [RK.cells]))
theorem mem_flat {k : RK} {l : List k.El} {x : k.El} (hx : x ∈ l) {d : D} (hd : d ∈ k.cells x) : d ∈ flat k l := List.mem_flatMap.2 ⟨x, hx, hd⟩
theorem Wf.parts {l : List Part} (h : Wf (.r .part l)) : l.length ≤ 9223372036854775807 ∧ ∀ p ∈ l, p.data.length ≤ 9223372036854775807 := by
  obtain ⟨h1, h2⟩ := Wf.row (k := .part) h
  exact ⟨h1, fun p hp => (Wf.bytes (h2 _ (mem_flat (k := .part) hp (d := .r .u8 p.data) (by simp [RK.cells])))).1⟩
theorem Wf.partsB {l : List Part} (h : Wf (.r .part l)) : ∀ p ∈ l, Bytes p.data := by
  obtain ⟨h1, h2⟩ := Wf.row (k := .part) h
  exact fun p hp => (Wf.bytes (h2 _ (mem_flat (k := .part) hp (d := .r .u8 p.data) (by simp [RK.cells])))).2
theorem wf_tx {t : TxS} (h : ∀ d ∈ txC t, Wf d) : (t.flight.length ≤ 9223372036854775807 ∧ ∀ p ∈ t.flight, p.data.length ≤ 9223372036854775807) ∧ (t.queue.length ≤ 9223372036854775807 ∧ ∀ p ∈ t.queue, p.data.length ≤ 9223372036854775807) :=
  ⟨Wf.parts (h (.r .part t.flight) (by simp [txC])), Wf.parts (h (.r .part t.queue) (by simp [txC]))⟩
theorem wf_ct {t : CtS} (h : ∀ d ∈ ctC t, Wf d) : t.queue.length ≤ 9223372036854775807 ∧ ∀ p ∈ t.queue, p.data.length ≤ 9223372036854775807 := Wf.parts (h (.r .part t.queue) (by simp [ctC]))
theorem wf_rx {t : RxS} (h : ∀ d ∈ rxC t, Wf d) : t.join.got.length ≤ 9223372036854775807 ∧ Bytes t.join.got := Wf.bytes (h (.r .u8 t.join.got) (by simp [rxC]))
theorem wf_cr {t : CrS} (h : ∀ d ∈ crC t, Wf d) : t.join.got.length ≤ 9223372036854775807 ∧ Bytes t.join.got := Wf.bytes (h (.r .u8 t.join.got) (by simp [crC]))
theorem wf_num {k : IntKind} {x : Int} (h : Wf (.i k x)) : (Lit.int k x).wf = true := by
  cases h; assumption
theorem ifEq {α : Type} [DecidableEq α] {a b : α} {P Q : Prop} (h : a = b) (q : Q) : if (!decide (a = b)) = true then P else Q := by
  rw [if_neg (by simp [h])]; exact q
theorem ifTr {i : Decidable True} {P Q : Prop} (q : Q) : if (!(@decide True i)) = true then P else Q := by
  rw [if_neg (by simp)]; exact q
theorem ifLt {a b : Int} {P Q : Prop} (h : b ≤ a) (q : Q) : if (decide (a < b)) = true then P else Q := by
  rw [if_neg (by simp; omega)]; exact q
theorem ifNe {a b : Int} {P Q : Prop} (h : a = b) (q : Q) : if (a != b) = true then P else Q := by
  rw [if_neg (by simp [h])]; exact q
theorem ifNeB {a b : Bool} {P Q : Prop} (h : a = b) (q : Q) : if (a != b) = true then P else Q := by
  rw [if_neg (by simp [h])]; exact q
theorem ifLtB {a b : Int} {P Q : Prop} (h : a < b → P) (q : ¬ a < b → Q) : if (decide (a < b)) = true then P else Q := by
  by_cases hx : a < b
  · rw [if_pos (by simp [hx])]; exact h hx
  · rw [if_neg (by simp [hx])]; exact q hx
theorem andI {a b c : Prop} (h : a → b → c) : a ∧ b → c := fun x => h x.1 x.2
theorem CrS.eta (t : CrS) : (⟨t.out, ⟨t.join.len, t.join.got⟩, t.dead⟩ : CrS) = t := rfl
theorem CtS.eta (t : CtS) : (⟨t.have_, t.queue, t.granted, t.sent, t.dead⟩ : CtS) = t := rfl
theorem Frm.eta (f : Frm) : (⟨f.kind, f.seq, f.ack, f.poll, f.final, f.say, f.seg, f.len, f.data⟩ : Frm) = f := rfl
theorem Cfg.eta (c : Cfg) : (⟨c.mode, c.win, c.mps, c.mtu, c.try_⟩ : Cfg) = c := rfl
theorem grant_f (r : CrS) : (crdGrant r).f.data.length ≤ 8 := by
  unfold crdGrant
  repeat' split
  all_goals simp [zFrm]
theorem grant_r (r : CrS) : (crdGrant r).r.join.got.length ≤ r.join.got.length := by
  unfold crdGrant
  repeat' split
  all_goals simp [zCr, zJoin]

/-- Messages told: at most one. -/
structure SduOk (n : Nat) (l : List (List Int)) : Prop where
  len : l.length ≤ 1
  dat : ∀ y ∈ l, y.length ≤ n
  c0 : 0 ≤ cntB l
  c1 : cntB l ≤ n
theorem SduOk.nil (n : Nat) : SduOk n [] := ⟨by simp, fun y h => (by cases h), Int.le_refl 0, by show (0 : Int) ≤ n; omega⟩
theorem SduOk.one {n : Nat} (s : List Int) (h : s.length ≤ n) : SduOk n [s] := by
  refine ⟨by simp, fun y hy => ?_, ?_, ?_⟩
  · rw [List.mem_singleton.1 hy]; exact h
  · show 0 ≤ (s.length : Int) + 0
    omega
  · show (s.length : Int) + 0 ≤ n
    omega
theorem SduOk.le {n : Nat} {l : List (List Int)} {y : List Int} (h : SduOk n l) (hy : List.Mem y l) (hn : n ≤ 1048576) : y.length ≤ 137438953472 := Nat.le_trans (h.dat y hy) (by omega)
theorem SduOk.le2 {n : Nat} {l : List (List Int)} {y : List Int} (h : SduOk n l) (hy : List.Mem y l) (hn : n ≤ 1048576) : y.length ≤ 1048576 := Nat.le_trans (h.dat y hy) hn
structure CHearOk (n : Nat) (q : CrHearR) : Prop where
  got : q.r.join.got.length ≤ n
  sdu : SduOk n q.sdus
theorem frm_rng8 {f : Frm} (h : FrmP f) : f.data.length ≤ 8 := by
  unfold FrmP SegP at h
  omega
theorem chear_ok (c : Cfg) (r : CrS) (f : Frm) : CHearOk 1048576 (crdHear c r f) := by
  unfold crdHear
  split
  · rename_i hin
    have hg := hin.got
    have hfr := (frm_rng8 hin.2.2.1)
    have hs := segPut_got r.join ⟨f.seg, f.len, f.data⟩
    have h24 : (segPut r.join ⟨f.seg, f.len, f.data⟩).j.got.length ≤ 1048576 := by have := hs.1; dsimp only at this; omega
    have h25 : (segPut r.join ⟨f.seg, f.len, f.data⟩).sdu.length ≤ 1048576 := by have := hs.2; dsimp only at this; omega
    have hg2 : r.join.got.length ≤ 1048576 := by omega
    unfold crdHear1
    dsimp only
    repeat' split
    all_goals first
      | exact ⟨hg2, .nil _⟩
      | exact ⟨h24, .nil _⟩
      | exact ⟨h24, .one _ h25⟩
  · exact ⟨by simp [zCr, zJoin], .nil _⟩

structure CtB (t : CtS) : Prop where
  ql : t.queue.length ≤ 1048576
  qd : ∀ p ∈ t.queue, p.data.length ≤ 1048576
  qc : cntP t.queue ≤ 4194304
theorem CtB.of (t : CtS) (h : (t.queue.length : Int) + szP t.queue ≤ 1048576) : CtB t := by
  have h2 := szP_nonneg t.queue
  have h4 := cnt_sz t.queue
  refine ⟨by omega, fun p hp => ?_, by omega⟩
  have := szP_mem hp; omega
theorem CtB.z : CtB zCt := ⟨by simp [zCt], fun p h => (by cases h), by show (0 : Int) ≤ 4194304; decide⟩
theorem CtB.c0 (t : CtS) : 0 ≤ cntP t.queue := cntP_nonneg _
theorem CtB.qle {t : CtS} {y : Part} (h : CtB t) (hy : List.Mem y t.queue) : y.data.length ≤ 1048576 := h.qd y hy
theorem cntP_drop_le (l : List Part) (i : Nat) : cntP (l.drop i) ≤ cntP l := by
  have h := cntP_app (l.take i) (l.drop i)
  rw [List.take_append_drop] at h
  have := cntP_nonneg (l.take i)
  omega
theorem take_B {c : Cfg} {t : CtS} {n : Int} (h : CtB t) : CtB (crdTake c t n) := by
  obtain ⟨h1, h2, h3⟩ := h
  unfold crdTake
  repeat' split
  all_goals first | exact ⟨h1, h2, h3⟩ | exact CtB.z
theorem put_B {c : Cfg} {t : CtS} {s : List Int} (h : CtB t) : CtB (crdPut c t s).t := by
  unfold crdPut
  split
  · rename_i hT
    split
    · exact h
    · rename_i h3
      have hd : ∀ p ∈ t.queue ++ segCut s c.mps, p.data.length ≤ 24 := by
        intro p hp
        rcases List.mem_append.1 hp with h9 | h9
        · exact hT.2.2.2.2.2.2.data p h9
        · exact segCut_data _ _ p h9
      have hl : (t.queue ++ segCut s c.mps).length ≤ 24 := by
        rw [List.length_append]; omega
      have hc := cntP_le hd
      refine ⟨by show (t.queue ++ segCut s c.mps).length ≤ 1048576; omega, fun p hp => Nat.le_trans (hd p hp) (by decide), ?_⟩
      show cntP (t.queue ++ segCut s c.mps) ≤ 4194304
      omega
  · exact CtB.z
theorem send_B {c : Cfg} {t : CtS} (h : CtB t) : CtB (crdSend c t).t := by
  obtain ⟨h1, h2, h3⟩ := h
  unfold crdSend
  split
  · split
    · exact ⟨h1, h2, h3⟩
    · refine ⟨?_, fun p hp => h2 p (List.mem_of_mem_drop hp), ?_⟩
      · show (t.queue.drop 1).length ≤ 1048576
        rw [List.length_drop]; omega
      · have := cntP_drop_le t.queue 1
        show cntP (t.queue.drop 1) ≤ 4194304
        omega
  · exact CtB.z
theorem send_f {c : Cfg} {t : CtS} : (crdSend c t).f.data.length ≤ 24 := by
  unfold crdSend
  split
  · rename_i hT
    split
    · simp [zFrm]
    · exact hT.2.2.2.2.2.2.data _ (at0_mem (by omega))
  · simp [zFrm]

/-! laws.FnExactCrdTake -/
def c_laws_FnExactCrdTake : Ent := ctr (α := (Cfg) × (CtS) × (Int)) (ρ := (Bool)) [] [] (rs rCfg (rs rCt (rs1 rInt))) (fun x_ => (fun (c : Cfg) (t : CtS) (n : Int) => ((∀ d ∈ cfgC c, Wf d) ∧ (∀ d ∈ ctC t, Wf d) ∧ ∀ d ∈ [D.i .i64 n], Wf d)) x_.1 x_.2.1 x_.2.2) (fun x_ r_ => (fun x_ => (fun (c : Cfg) (t : CtS) (n : Int) => ((fun r_ => (fun (r : Bool) => (r = true)) r_))) x_.1 x_.2.1 x_.2.2) x_ r_) (fun r_ => (fun (r : Bool) => ([rB.to r])) r_) (fun r_ => (fun (r : Bool) => ([])) r_)
def V_laws_FnExactCrdTake : Env := ⟨tys, [(18, c_laws_szCrdTx), (19, c_spec_CrdTake), (20, c_laws_toCfgOpts), (21, c_laws_toCrdTx), (22, c_impl_CrdTake_x), (23, c_laws_eqCrdTx), (25, c_laws_heldCrdTx)], [(27, [0]), (32, [1])], [(3, 0), (4, 1), (8, 2), (9, 3), (10, 4), (14, 5)], [(7, ([], [1]))], [], [500047], [(24, c_laws_markCrdTx)], [(5, [(0, false), (2, false), (4, false), (6, false), (1, true), (3, true), (5, true), (7, true)]), (7, [(0, false), (2, false), (3, false), (5, false), (1, true), (4, true), (6, true)]), (10, [(0, false), (1, false), (2, true), (3, true), (4, false)]), (24, [(0, false), (2, false), (4, false), (6, false), (1, true), (3, true), (5, true), (7, true)])]⟩
end Go.Proofs.YtdahhphhblbfdaaE

/- Calls answer what is promised: LawXCt. Conditions: none. -/
set_option linter.unusedVariables false
set_option maxHeartbeats 1600000
namespace Go.Proofs.YtdahhphhblbfdaaE
open Go
set_option maxRecDepth 40000 in
theorem vF_laws_FnExactCrdTake (c:Cfg) (t:CtS) (n:Int) (K:List Arg→List (List AC)→Prop) (hp:(∀ d ∈ cfgC c,Wf d)∧(∀ d ∈ ctC t,Wf d)∧∀ d ∈ [D.i .i64 n],Wf d) (hk:∀ (r:Bool),(r=true)→K ([rB.to r]) ([])):(true=true)∧(((((List.length t.queue)≤(9223372036854775807:Nat))∧(∀ p:Part,(List.Mem p t.queue)→((List.length p.data)≤(9223372036854775807:Nat))))∧(((0:Int)≤(1048576:Int))∧((1048576:Int)≤(1048576:Int))))∧(∀ r:Int,(((r=(((1048576:Int) - (((List.length t.queue):Nat):Int)) - (szP t.queue)))∧((0:Int)≤r))∨(r=(-1:Int)))→(true=true)∧(if ((decide (r < (0:Int)))=true) then ((true=true)∧(K [(aB true)] [])) else ((true=true)∧(True∧(∀ r1:Cfg,(r1=c)→(true=true)∧((true=true)∧((true=true)∧((((List.length t.queue)≤(1048576:Nat))∧(∀ p:Part,(List.Mem p t.queue)→((List.length p.data)≤(1048576:Nat))))∧(∀ r2:CtS,(r2=t)→((List.length r2.queue)=(List.length r2.queue))∧((true=true)∧((true=true)∧((true=true)∧(True∧(∀ r3:CtS,(r3=(crdTake r1 (CtS.mk r2.have_ r2.queue r2.granted r2.sent r2.dead) n))→(true=true)∧((true=true)∧((true=true)∧((true=true)∧((((List.length t.queue)≤(1048576:Nat))∧(∀ p:Part,(List.Mem p t.queue)→((List.length p.data)≤(1048576:Nat))))∧(∀ r4:CtS,(r4=t)→((List.length r4.queue)=(List.length r4.queue))∧((true=true)∧((true=true)∧(True∧(∀ r5:Cfg,(r5=c)→(true=true)∧((true=true)∧((true=true)∧(True∧(∀ r6:CtS,(r6=(crdTake r5 (CtS.mk r4.have_ r4.queue r4.granted r4.sent r4.dead) n))→((List.length r6.queue)=(List.length r6.queue))∧((true=true)∧((true=true)∧((true=true)∧((true=true)∧((((List.length r6.queue)≤(137438953472:Nat))∧(∀ y:Part,(List.Mem y r6.queue)→((List.length y.data)≤(137438953472:Nat))))∧(∀ r7:Bool,(r7=(decide ((CtS.mk r6.have_ r6.queue r6.granted r6.sent r6.dead)=(CtS.mk r3.have_ r3.queue r3.granted r3.sent r3.dead))))→(true=true)∧(if ((!r7)=true) then ((true=true)∧(K [(aB false)] [])) else ((true=true)∧((((List.length t.queue)≤(1048576:Nat))∧(∀ p:Part,(List.Mem p t.queue)→((List.length p.data)≤(1048576:Nat))))∧(∀ r8:CtS,(r8=t)→((List.length r8.queue)=(List.length r8.queue))∧((true=true)∧((true=true)∧((true=true)∧((((List.length r4.queue)≤(137438953472:Nat))∧(∀ y:Part,(List.Mem y r4.queue)→((List.length y.data)≤(137438953472:Nat))))∧(∀ r9:Bool,(r9=(decide ((CtS.mk r4.have_ r4.queue r4.granted r4.sent r4.dead)=(CtS.mk r8.have_ r8.queue r8.granted r8.sent r8.dead))))→(true=true)∧((true=true)∧(if ((!r9)=true) then ((true=true)∧(K [(aB false)] [])) else ((true=true)∧(((List.length r4.queue)=(List.length r4.queue))∧(((((List.length r4.queue)≤(1048576:Nat))∧(∀ p:Part,(List.Mem p r4.queue)→((List.length p.data)≤(1048576:Nat))))∧(((0:Int)≤(1:Int))∧(((1:Int) + (cntP r4.queue))≤(1099511627776:Int))))∧(∀ r10:(Prod Int (List Part)),((r10.fst=((1:Int) + (cntP r4.queue)))∧(((List.length r10.snd)=(List.length r4.queue))∧(((cntP r10.snd)=(cntP r4.queue))∧(MarkP r4.queue (1:Int) r10.snd))))→(true=true)∧(if ((decide (r10.fst < (0:Int)))=true) then ((true=true)∧(K [(aB false)] [])) else ((true=true)∧((((List.length r6.queue)≤(137438953472:Nat))∧(∀ y:Part,(List.Mem y r6.queue)→((List.length y.data)≤(137438953472:Nat))))∧(∀ r11:Bool,(r11=(decide ((CtS.mk r6.have_ r6.queue r6.granted r6.sent r6.dead)=(CtS.mk r3.have_ r3.queue r3.granted r3.sent r3.dead))))→(true=true)∧(if ((!r11)=true) then ((true=true)∧(K [(aB false)] [])) else ((true=true)∧(((List.length r6.queue)=(List.length r6.queue))∧(((((List.length r6.queue)≤(1048576:Nat))∧(∀ p:Part,(List.Mem p r6.queue)→((List.length p.data)≤(1048576:Nat))))∧(((0:Int)≤(1:Int))∧(((1:Int) + (cntP r6.queue))≤(1099511627776:Int))))∧(∀ r12:(Prod Int (List Part)),((r12.fst=((1:Int) + (cntP r6.queue)))∧(((List.length r12.snd)=(List.length r6.queue))∧(((cntP r12.snd)=(cntP r6.queue))∧(MarkP r6.queue (1:Int) r12.snd))))→(true=true)∧((true=true)∧(((((List.length r12.snd)≤(1048576:Nat))∧(∀ p:Part,(List.Mem p r12.snd)→((List.length p.data)≤(1048576:Nat))))∧(((0:Int)≤(1:Int))∧((((1:Int) + (cntP r12.snd))≤(1099511627776:Int))∧(r12.snd=(markP r12.snd (1:Int))))))∧(∀ r13:Int,(r13=((1:Int) + (cntP r12.snd)))→(true=true)∧(if ((decide (r13 < (0:Int)))=true) then ((true=true)∧(K [(aB false)] [])) else (if ((r13 != r12.fst)=true) then ((true=true)∧(K [(aB false)] [])) else ((true=true)∧(True∧(∀ r14:Cfg,(r14=c)→(true=true)∧((true=true)∧((true=true)∧((((List.length t.queue)≤(1048576:Nat))∧(∀ p:Part,(List.Mem p t.queue)→((List.length p.data)≤(1048576:Nat))))∧(∀ r15:CtS,(r15=t)→((List.length r15.queue)=(List.length r15.queue))∧((true=true)∧((true=true)∧((true=true)∧(True∧(∀ r16:CtS,(r16=(crdTake r14 (CtS.mk r15.have_ r15.queue r15.granted r15.sent r15.dead) n))→((List.length r16.queue)=(List.length r16.queue))∧((true=true)∧((true=true)∧((true=true)∧((true=true)∧((((List.length r16.queue)≤(137438953472:Nat))∧(∀ y:Part,(List.Mem y r16.queue)→((List.length y.data)≤(137438953472:Nat))))∧(∀ r17:Bool,(r17=(decide ((CtS.mk r16.have_ r16.queue r16.granted r16.sent r16.dead)=(CtS.mk r3.have_ r3.queue r3.granted r3.sent r3.dead))))→(true=true)∧(if ((!r17)=true) then ((true=true)∧(K [(aB false)] [])) else ((true=true)∧(((((List.length r12.snd)≤(1048576:Nat))∧(∀ p:Part,(List.Mem p r12.snd)→((List.length p.data)≤(1048576:Nat))))∧(((0:Int)≤(1:Int))∧((((1:Int) + (cntP r12.snd))≤(1099511627776:Int))∧(r12.snd=(markP r12.snd (1:Int))))))∧(∀ r18:Int,(r18=((1:Int) + (cntP r12.snd)))→(true=true)∧(if ((decide (r18 < (0:Int)))=true) then ((true=true)∧(K [(aB false)] [])) else (if ((r18 != r12.fst)=true) then ((true=true)∧(K [(aB false)] [])) else ((true=true)∧(K [(aB true)] []))))))))))))))))))))))))))))))))))))))))))))))))))))))))))))))))))))))))))))))))))))))))) := by
  obtain ⟨_, hp2, _⟩ := hp
  have hw := wf_ct hp2
  have hB0 := CtB.of t
  have hG0 := take_B (c := c) (t := t) (n := n)
  have s2 := szP_nonneg t.queue
  have z1 := CtB.c0 t
  have z3 := CtB.c0 (crdTake c t n)
  have hb : (t.queue.length : Int) + szP t.queue ≤ 1048576 → t.queue.length ≤ 1048576 ∧ cntP t.queue ≤ 4194304 ∧ (crdTake c t n).queue.length ≤ 1048576 ∧ cntP (crdTake c t n).queue ≤ 4194304 := fun h => ⟨(hB0 h).ql, (hB0 h).qc, (hG0 (hB0 h)).ql, (hG0 (hB0 h)).qc⟩
  clear hp2

  repeat' first
    | exact rfl
    | exact True.intro
    | exact hk _ rfl
    | with_reducible apply And.intro
    | with_reducible refine andI ?_
    | (with_reducible intro y_ hy_; subst hy_; try simp only [CrS.eta, CtS.eta, Frm.eta, Cfg.eta])
    | with_reducible intro y_
    | with_reducible assumption
    | refine ifTr ?_
    | refine ifEq rfl ?_
    | refine ifNeB rfl ?_
    | refine ifLt (by omega) ?_
    | refine ifNe (by omega) ?_
    | refine ifLtB (fun h => ?_) (fun h => ?_)
    | omega
    | exact MarkB.to (by assumption) (by omega)
    | exact MarkF.to (by assumption) (by omega)
    | exact MarkP.to (by assumption) (by omega)
    | exact MarkF.le ‹List.Mem _ _› (by assumption)
    | exact Nat.le_trans (MarkF.le ‹List.Mem _ _› (by assumption)) (by decide)
    | exact MarkP.le ‹List.Mem _ _› (by assumption)
    | exact Nat.le_trans (MarkP.le ‹List.Mem _ _› (by assumption)) (by decide)
    | exact (hB0 (by omega)).qle ‹List.Mem _ _›
    | exact (hG0 (hB0 (by omega))).qle ‹List.Mem _ _›
    | exact Nat.le_trans ((hB0 (by omega)).qle ‹List.Mem _ _›) (by decide)
    | exact Nat.le_trans ((hG0 (hB0 (by omega))).qle ‹List.Mem _ _›) (by decide)
    | exact hw.1
    | exact hw.2 _ ‹List.Mem _ _›
theorem w_laws_FnExactCrdTake : Valid Try.prog 4 c_laws_FnExactCrdTake :=
  valid_ctr2 (V := V_laws_FnExactCrdTake) (tysB_ok tys_ok) ⟨(CallsL.cons w_laws_szCrdTx (CallsL.cons w_spec_CrdTake (CallsL.cons w_laws_toCfgOpts (CallsL.cons w_laws_toCrdTx (CallsL.cons w_impl_CrdTake_x (CallsL.cons w_laws_eqCrdTx (CallsL.cons w_laws_heldCrdTx (CallsL.nil _)))))))), (IosL.cons w_laws_markCrdTx (IosL.nil _))⟩ mixed 2 6 Try.func4 rfl (by kernel_rfl)
    (fun c hc => by
      obtain rfl := Option.some.inj hc
      exact ⟨trivial, ⟨trivial, ⟨trivial, ⟨⟨trivial, ⟨⟨trivial, trivial⟩, trivial⟩⟩, ⟨trivial, ⟨trivial, ⟨trivial, ⟨⟨trivial, ⟨⟨trivial, trivial⟩, trivial⟩⟩, ⟨⟨trivial, ⟨⟨trivial, trivial⟩, trivial⟩⟩, ⟨trivial, ⟨trivial, ⟨⟨trivial, ⟨⟨trivial, trivial⟩, trivial⟩⟩, ⟨trivial, ⟨trivial, ⟨trivial, ⟨trivial, ⟨⟨trivial, ⟨⟨trivial, trivial⟩, trivial⟩⟩, ⟨⟨trivial, ⟨⟨trivial, trivial⟩, trivial⟩⟩, ⟨trivial, ⟨⟨trivial, ⟨⟨trivial, trivial⟩, trivial⟩⟩, ⟨trivial, ⟨trivial, ⟨⟨trivial, ⟨⟨trivial, trivial⟩, trivial⟩⟩, ⟨⟨trivial, ⟨⟨trivial, trivial⟩, trivial⟩⟩, ⟨trivial, trivial⟩⟩⟩⟩⟩⟩⟩⟩⟩⟩⟩⟩⟩⟩⟩⟩⟩⟩⟩⟩⟩⟩⟩⟩⟩)
    (fun x K hp hk => ⟨_, by kernel_rfl, vF_laws_FnExactCrdTake x.1 x.2.1 x.2.2 K hp (fun r h => hk r h)⟩)
end Go.Proofs.YtdahhphhblbfdaaE
