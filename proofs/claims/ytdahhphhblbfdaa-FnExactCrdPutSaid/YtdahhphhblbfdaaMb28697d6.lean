/- A part of the proof of laws of the program: what calls of the program answer. Conditions: none. -/
import Derived.Test.YtdahhphhblbfdaaM038bd384
set_option linter.unusedVariables false
set_option linter.unusedSimpArgs false
set_option linter.unusedSectionVars false
/- Contracts: LawXCp. Conditions: none. -/
set_option linter.unusedVariables false
set_option maxHeartbeats 1600000
namespace Go.Proofs.YtdahhphhblbfdaaE
open Go
theorem mk_self {l x : List Int} {k : Int} (h : l = markB x k) : l = markB l k := by rw [h, markB_idem]
theorem Wf.row {k : RK} {l : List k.El} (h : Wf (.r k l)) : l.length ≤ maxLen ∧ ∀ y ∈ flat k l, Wf y := by
  cases h with
  | r _ _ h1 h2 => exact ⟨h1, h2⟩
theorem Wf.bytes {l : List Int} (h : Wf (.r .u8 l)) : l.length ≤ 9223372036854775807 ∧ Bytes l := by
  obtain ⟨h1, h2⟩ := Wf.row (k := .u8) h
  refine ⟨h1, Bytes.of_wf fun y hy => ?_⟩
  have h3 : D.i .u8 y ∈ flat .u8 l := List.mem_flatMap.2 ⟨y, hy, List.mem_singleton.2 rfl⟩
  have h4 := h2 _ h3
  cases h4 with
  | i _ _ h5 => exact h5
theorem wf_frm {f : Frm} (h : ∀ d ∈ RK.cells .frm f, Wf d) : f.data.length ≤ 9223372036854775807 ∧ Bytes f.data := Wf.bytes (h (.r .u8 f.data) (by simp [RK.cells]))
theorem mem_flat {k : RK} {l : List k.El} {x : k.El} (hx : x ∈ l) {d : D} (hd : d ∈ k.cells x) : d ∈ flat k l := List.mem_flatMap.2 ⟨x, hx, hd⟩
theorem Wf.parts {l : List Part} (h : Wf (.r .part l)) : l.length ≤ 9223372036854775807 ∧ ∀ p ∈ l, p.data.length ≤ 9223372036854775807 := by
  obtain ⟨h1, h2⟩ := Wf.row (k := .part) h
  exact ⟨h1, fun p hp => (Wf.bytes (h2 _ (mem_flat (k := .part) hp (d := .r .u8 p.data) (by simp [RK.cells])))).1⟩
theorem Wf.partsB {l : List Part} (h : Wf (.r .part l)) : ∀ p ∈ l, Bytes p.data := by
  obtain ⟨h1, h2⟩ := Wf.row (k := .part) h
  exact fun p hp => (Wf.bytes (h2 _ (mem_flat (k := .part) hp (d := .r .u8 p.data) (by simp [RK.cells])))).2
theorem wf_tx {t : TxS} (h : ∀ d ∈ txC t, Wf d) : (t.flight.length ≤ 9223372036854775807 ∧ ∀ p ∈ t.flight, p.data.length ≤ 9223372036854775807) ∧ (t.queue.length ≤ 9223372036854775807 ∧ ∀ p ∈ t.queue, p.data.length ≤ 9223372036854775807) :=
  ⟨Wf.parts (h (.r .part t.flight) (by simp [txC])), Wf.parts (h (.r .part t.queue) (by simp [txC]))⟩
theorem wf_ct {t : CtS} (h : ∀ d ∈ ctC t, Wf d) : t.queue.length ≤ 9223372036854775807 ∧ ∀ p ∈ t.queue, p.data.length ≤ 9223372036854775807 := Wf.parts (h (.r .part t.queue) (by simp [ctC]))
theorem wf_rx {t : RxS} (h : ∀ d ∈ rxC t, Wf d) : t.join.got.length ≤ 9223372036854775807 ∧ Bytes t.join.got := Wf.bytes (h (.r .u8 t.join.got) (by simp [rxC]))
theorem wf_cr {t : CrS} (h : ∀ d ∈ crC t, Wf d) : t.join.got.length ≤ 9223372036854775807 ∧ Bytes t.join.got := Wf.bytes (h (.r .u8 t.join.got) (by simp [crC]))
theorem wf_num {k : IntKind} {x : Int} (h : Wf (.i k x)) : (Lit.int k x).wf = true := by
  cases h; assumption
theorem ifEq {α : Type} [DecidableEq α] {a b : α} {P Q : Prop} (h : a = b) (q : Q) : if (!decide (a = b)) = true then P else Q := by
  rw [if_neg (by simp [h])]; exact q
theorem ifTr {i : Decidable True} {P Q : Prop} (q : Q) : if (!(@decide True i)) = true then P else Q := by
  rw [if_neg (by simp)]; exact q
theorem ifLt {a b : Int} {P Q : Prop} (h : b ≤ a) (q : Q) : if (decide (a < b)) = true then P else Q := by
  rw [if_neg (by simp; omega)]; exact q
theorem ifNe {a b : Int} {P Q : Prop} (h : a = b) (q : Q) : if (a != b) = true then P else Q := by
  rw [if_neg (by simp [h])]; exact q
theorem ifNeB {a b : Bool} {P Q : Prop} (h : a = b) (q : Q) : if (a != b) = true then P else Q := by
  rw [if_neg (by simp [h])]; exact q
theorem ifLtB {a b : Int} {P Q : Prop} (h : a < b → P) (q : ¬ a < b → Q) : if (decide (a < b)) = true then P else Q := by
  by_cases hx : a < b
  · rw [if_pos (by simp [hx])]; exact h hx
  · rw [if_neg (by simp [hx])]; exact q hx
theorem andI {a b c : Prop} (h : a → b → c) : a ∧ b → c := fun x => h x.1 x.2
theorem CrS.eta (t : CrS) : (⟨t.out, ⟨t.join.len, t.join.got⟩, t.dead⟩ : CrS) = t := rfl
theorem CtS.eta (t : CtS) : (⟨t.have_, t.queue, t.granted, t.sent, t.dead⟩ : CtS) = t := rfl
theorem Frm.eta (f : Frm) : (⟨f.kind, f.seq, f.ack, f.poll, f.final, f.say, f.seg, f.len, f.data⟩ : Frm) = f := rfl
theorem Cfg.eta (c : Cfg) : (⟨c.mode, c.win, c.mps, c.mtu, c.try_⟩ : Cfg) = c := rfl
theorem grant_f (r : CrS) : (crdGrant r).f.data.length ≤ 8 := by
  unfold crdGrant
  repeat' split
  all_goals simp [zFrm]
theorem grant_r (r : CrS) : (crdGrant r).r.join.got.length ≤ r.join.got.length := by
  unfold crdGrant
  repeat' split
  all_goals simp [zCr, zJoin]

/-- Messages told: at most one. -/
structure SduOk (n : Nat) (l : List (List Int)) : Prop where
  len : l.length ≤ 1
  dat : ∀ y ∈ l, y.length ≤ n
  c0 : 0 ≤ cntB l
  c1 : cntB l ≤ n
theorem SduOk.nil (n : Nat) : SduOk n [] := ⟨by simp, fun y h => (by cases h), Int.le_refl 0, by show (0 : Int) ≤ n; omega⟩
theorem SduOk.one {n : Nat} (s : List Int) (h : s.length ≤ n) : SduOk n [s] := by
  refine ⟨by simp, fun y hy => ?_, ?_, ?_⟩
  · rw [List.mem_singleton.1 hy]; exact h
  · show 0 ≤ (s.length : Int) + 0
    omega
  · show (s.length : Int) + 0 ≤ n
    omega
theorem SduOk.le {n : Nat} {l : List (List Int)} {y : List Int} (h : SduOk n l) (hy : List.Mem y l) (hn : n ≤ 1048576) : y.length ≤ 137438953472 := Nat.le_trans (h.dat y hy) (by omega)
theorem SduOk.le2 {n : Nat} {l : List (List Int)} {y : List Int} (h : SduOk n l) (hy : List.Mem y l) (hn : n ≤ 1048576) : y.length ≤ 1048576 := Nat.le_trans (h.dat y hy) hn
structure CHearOk (n : Nat) (q : CrHearR) : Prop where
  got : q.r.join.got.length ≤ n
  sdu : SduOk n q.sdus
theorem frm_rng8 {f : Frm} (h : FrmP f) : f.data.length ≤ 8 := by
  unfold FrmP SegP at h
  omega
theorem chear_ok (c : Cfg) (r : CrS) (f : Frm) : CHearOk 1048576 (crdHear c r f) := by
  unfold crdHear
  split
  · rename_i hin
    have hg := hin.got
    have hfr := (frm_rng8 hin.2.2.1)
    have hs := segPut_got r.join ⟨f.seg, f.len, f.data⟩
    have h24 : (segPut r.join ⟨f.seg, f.len, f.data⟩).j.got.length ≤ 1048576 := by have := hs.1; dsimp only at this; omega
    have h25 : (segPut r.join ⟨f.seg, f.len, f.data⟩).sdu.length ≤ 1048576 := by have := hs.2; dsimp only at this; omega
    have hg2 : r.join.got.length ≤ 1048576 := by omega
    unfold crdHear1
    dsimp only
    repeat' split
    all_goals first
      | exact ⟨hg2, .nil _⟩
      | exact ⟨h24, .nil _⟩
      | exact ⟨h24, .one _ h25⟩
  · exact ⟨by simp [zCr, zJoin], .nil _⟩

structure CtB (t : CtS) : Prop where
  ql : t.queue.length ≤ 1048576
  qd : ∀ p ∈ t.queue, p.data.length ≤ 1048576
  qc : cntP t.queue ≤ 4194304
theorem CtB.of (t : CtS) (h : (t.queue.length : Int) + szP t.queue ≤ 1048576) : CtB t := by
  have h2 := szP_nonneg t.queue
  have h4 := cnt_sz t.queue
  refine ⟨by omega, fun p hp => ?_, by omega⟩
  have := szP_mem hp; omega
theorem CtB.z : CtB zCt := ⟨by simp [zCt], fun p h => (by cases h), by show (0 : Int) ≤ 4194304; decide⟩
theorem CtB.c0 (t : CtS) : 0 ≤ cntP t.queue := cntP_nonneg _
theorem CtB.qle {t : CtS} {y : Part} (h : CtB t) (hy : List.Mem y t.queue) : y.data.length ≤ 1048576 := h.qd y hy
theorem cntP_drop_le (l : List Part) (i : Nat) : cntP (l.drop i) ≤ cntP l := by
  have h := cntP_app (l.take i) (l.drop i)
  rw [List.take_append_drop] at h
  have := cntP_nonneg (l.take i)
  omega
theorem take_B {c : Cfg} {t : CtS} {n : Int} (h : CtB t) : CtB (crdTake c t n) := by
  obtain ⟨h1, h2, h3⟩ := h
  unfold crdTake
  repeat' split
  all_goals first | exact ⟨h1, h2, h3⟩ | exact CtB.z
theorem put_B {c : Cfg} {t : CtS} {s : List Int} (h : CtB t) : CtB (crdPut c t s).t := by
  unfold crdPut
  split
  · rename_i hT
    split
    · exact h
    · rename_i h3
      have hd : ∀ p ∈ t.queue ++ segCut s c.mps, p.data.length ≤ 24 := by
        intro p hp
        rcases List.mem_append.1 hp with h9 | h9
        · exact hT.2.2.2.2.2.2.data p h9
        · exact segCut_data _ _ p h9
      have hl : (t.queue ++ segCut s c.mps).length ≤ 24 := by
        rw [List.length_append]; omega
      have hc := cntP_le hd
      refine ⟨by show (t.queue ++ segCut s c.mps).length ≤ 1048576; omega, fun p hp => Nat.le_trans (hd p hp) (by decide), ?_⟩
      show cntP (t.queue ++ segCut s c.mps) ≤ 4194304
      omega
  · exact CtB.z
theorem send_B {c : Cfg} {t : CtS} (h : CtB t) : CtB (crdSend c t).t := by
  obtain ⟨h1, h2, h3⟩ := h
  unfold crdSend
  split
  · split
    · exact ⟨h1, h2, h3⟩
    · refine ⟨?_, fun p hp => h2 p (List.mem_of_mem_drop hp), ?_⟩
      · show (t.queue.drop 1).length ≤ 1048576
        rw [List.length_drop]; omega
      · have := cntP_drop_le t.queue 1
        show cntP (t.queue.drop 1) ≤ 4194304
        omega
  · exact CtB.z
theorem send_f {c : Cfg} {t : CtS} : (crdSend c t).f.data.length ≤ 24 := by
  unfold crdSend
  split
  · rename_i hT
    split
    · simp [zFrm]
    · exact hT.2.2.2.2.2.2.data _ (at0_mem (by omega))
  · simp [zFrm]

/-! laws.FnExactCrdPut -/
def c_laws_FnExactCrdPut : Ent := ctr (α := (Cfg) × (CtS) × (List Int)) (ρ := (Bool)) [] [] (rs rCfg (rs rCt (rs1 rBytes))) (fun x_ => (fun (c : Cfg) (t : CtS) (s : List Int) => ((∀ d ∈ cfgC c, Wf d) ∧ (∀ d ∈ ctC t, Wf d) ∧ ∀ d ∈ [D.r .u8 s], Wf d)) x_.1 x_.2.1 x_.2.2) (fun x_ r_ => (fun x_ => (fun (c : Cfg) (t : CtS) (s : List Int) => ((fun r_ => (fun (r : Bool) => (r = true)) r_))) x_.1 x_.2.1 x_.2.2) x_ r_) (fun r_ => (fun (r : Bool) => ([rB.to r])) r_) (fun r_ => (fun (r : Bool) => ([])) r_)
def V_laws_FnExactCrdPut : Env := ⟨tys, [(18, c_laws_szCrdTx), (20, c_laws_toCfgOpts), (21, c_laws_toCrdTx), (23, c_laws_eqCrdTx), (25, c_laws_heldCrdTx), (26, c_spec_CrdPut_x), (27, c_laws_toByteS), (28, c_impl_CrdPut_x), (29, c_laws_eqByteS)], [(38, [0]), (40, [1]), (46, [2])], [(3, 0), (4, 1), (8, 2), (10, 3), (12, 4), (17, 5)], [(7, ([2], [])), (10, ([4], [2])), (30, ([5], []))], [], [500053, 500076, 500082, 500112], [(24, c_laws_markCrdTx), (30, c_laws_markByteS)], [(7, [(0, false), (2, false), (4, false), (10, false), (1, true), (3, true), (5, true), (6, true), (7, false), (8, false), (9, false), (11, true), (12, false)]), (10, [(0, false), (2, false), (3, false), (8, false), (1, true), (4, true), (5, false), (6, false), (7, false), (9, true), (10, false)]), (13, [(0, false), (1, false), (2, true), (3, true), (4, false)]), (30, [(0, false), (2, false), (4, false), (10, false), (1, true), (3, true), (5, true), (6, true), (7, false), (8, false), (9, false), (11, true), (12, false)])]⟩
end Go.Proofs.YtdahhphhblbfdaaE

/- Calls answer what is promised: LawXCp. Conditions: none. -/
set_option linter.unusedVariables false
set_option maxHeartbeats 1600000
namespace Go.Proofs.YtdahhphhblbfdaaE
open Go
set_option maxRecDepth 40000 in
theorem vF_laws_FnExactCrdPut (c:Cfg) (t:CtS) (s:List Int) (K:List Arg→List (List AC)→Prop) (hp:(∀ d ∈ cfgC c,Wf d)∧(∀ d ∈ ctC t,Wf d)∧∀ d ∈ [D.r .u8 s],Wf d) (hk:∀ (r:Bool),(r=true)→K ([rB.to r]) ([])):if ((decide ((((List.length s):Nat):Int) > (1048576:Int)))=true) then ((true=true)∧(K [(aB true)] [])) else ((true=true)∧(((((List.length t.queue)≤(9223372036854775807:Nat))∧(∀ p:Part,(List.Mem p t.queue)→((List.length p.data)≤(9223372036854775807:Nat))))∧(((0:Int)≤(1048576:Int))∧((1048576:Int)≤(1048576:Int))))∧(∀ r:Int,(((r=(((1048576:Int) - (((List.length t.queue):Nat):Int)) - (szP t.queue)))∧((0:Int)≤r))∨(r=(-1:Int)))→(true=true)∧(if ((decide (r < (0:Int)))=true) then ((true=true)∧(K [(aB true)] [])) else ((true=true)∧(True∧(∀ r1:Cfg,(r1=c)→(true=true)∧((true=true)∧((true=true)∧((((List.length t.queue)≤(1048576:Nat))∧(∀ p:Part,(List.Mem p t.queue)→((List.length p.data)≤(1048576:Nat))))∧(∀ r2:CtS,(r2=t)→((List.length r2.queue)=(List.length r2.queue))∧((true=true)∧((true=true)∧((true=true)∧(((List.length s)≤(137438953472:Nat))∧(∀ r3:(List Int),(r3=s)→(true=true)∧((true=true)∧((true=true)∧(((List.length r3)≤(1048576:Nat))∧(∀ r4:CtPutR,(r4=(crdPut r1 (CtS.mk r2.have_ r2.queue r2.granted r2.sent r2.dead) r3))→(true=true)∧((true=true)∧((true=true)∧((true=true)∧((((List.length t.queue)≤(1048576:Nat))∧(∀ p:Part,(List.Mem p t.queue)→((List.length p.data)≤(1048576:Nat))))∧(∀ r5:CtS,(r5=t)→((List.length r5.queue)=(List.length r5.queue))∧((true=true)∧((true=true)∧(((List.length s)≤(137438953472:Nat))∧(∀ r6:(List Int),(r6=s)→(true=true)∧((true=true)∧(True∧(∀ r7:Cfg,(r7=c)→(true=true)∧((true=true)∧((true=true)∧(((List.length r6)≤(1048576:Nat))∧(∀ r8:CtPutR,(r8=(crdPut r7 (CtS.mk r5.have_ r5.queue r5.granted r5.sent r5.dead) r6))→((List.length r8.t.queue)=(List.length r8.t.queue))∧((true=true)∧((true=true)∧((true=true)∧((true=true)∧((((List.length r8.t.queue)≤(137438953472:Nat))∧(∀ y:Part,(List.Mem y r8.t.queue)→((List.length y.data)≤(137438953472:Nat))))∧(∀ r9:Bool,(r9=(decide ((CtS.mk r8.t.have_ r8.t.queue r8.t.granted r8.t.sent r8.t.dead)=(CtS.mk r4.t.have_ r4.t.queue r4.t.granted r4.t.sent r4.t.dead))))→(true=true)∧(if ((!r9)=true) then ((true=true)∧(K [(aB false)] [])) else (if ((r8.ok != r4.ok)=true) then ((true=true)∧(K [(aB false)] [])) else ((true=true)∧((((List.length t.queue)≤(1048576:Nat))∧(∀ p:Part,(List.Mem p t.queue)→((List.length p.data)≤(1048576:Nat))))∧(∀ r10:CtS,(r10=t)→((List.length r10.queue)=(List.length r10.queue))∧((true=true)∧((true=true)∧((true=true)∧((((List.length r5.queue)≤(137438953472:Nat))∧(∀ y:Part,(List.Mem y r5.queue)→((List.length y.data)≤(137438953472:Nat))))∧(∀ r11:Bool,(r11=(decide ((CtS.mk r5.have_ r5.queue r5.granted r5.sent r5.dead)=(CtS.mk r10.have_ r10.queue r10.granted r10.sent r10.dead))))→(true=true)∧((true=true)∧(if ((!r11)=true) then ((true=true)∧(K [(aB false)] [])) else ((true=true)∧(((List.length s)≤(137438953472:Nat))∧(∀ r12:(List Int),(r12=s)→(true=true)∧((true=true)∧((((List.length r6)≤(137438953472:Nat))∧True)∧(∀ r13:Bool,(r13=(decide (r6=r12)))→(true=true)∧(if ((!r13)=true) then ((true=true)∧(K [(aB false)] [])) else ((true=true)∧(((List.length r5.queue)=(List.length r5.queue))∧(((((List.length r5.queue)≤(1048576:Nat))∧(∀ p:Part,(List.Mem p r5.queue)→((List.length p.data)≤(1048576:Nat))))∧(((0:Int)≤(1:Int))∧(((1:Int) + (cntP r5.queue))≤(1099511627776:Int))))∧(∀ r14:(Prod Int (List Part)),((r14.fst=((1:Int) + (cntP r5.queue)))∧(((List.length r14.snd)=(List.length r5.queue))∧(((cntP r14.snd)=(cntP r5.queue))∧(MarkP r5.queue (1:Int) r14.snd))))→(true=true)∧((true=true)∧((((List.length r6)≤(137438953472:Nat))∧(((0:Int)≤r14.fst)∧(r14.fst≤(1099511627776:Int))))∧(∀ r15:(Prod Int (List Int)),((r15.fst=(r14.fst + (((List.length r6):Nat):Int)))∧((r15.snd=(markB r6 r14.fst))∧(((List.length r15.snd)=(List.length r6))∧(MarkB r6 r14.fst r15.snd))))→(true=true)∧(if ((decide (r15.fst < (0:Int)))=true) then ((true=true)∧(K [(aB false)] [])) else ((true=true)∧((((List.length r8.t.queue)≤(137438953472:Nat))∧(∀ y:Part,(List.Mem y r8.t.queue)→((List.length y.data)≤(137438953472:Nat))))∧(∀ r16:Bool,(r16=(decide ((CtS.mk r8.t.have_ r8.t.queue r8.t.granted r8.t.sent r8.t.dead)=(CtS.mk r4.t.have_ r4.t.queue r4.t.granted r4.t.sent r4.t.dead))))→(true=true)∧(if ((!r16)=true) then ((true=true)∧(K [(aB false)] [])) else (if ((r8.ok != r4.ok)=true) then ((true=true)∧(K [(aB false)] [])) else ((true=true)∧(((List.length r8.t.queue)=(List.length r8.t.queue))∧(((((List.length r8.t.queue)≤(1048576:Nat))∧(∀ p:Part,(List.Mem p r8.t.queue)→((List.length p.data)≤(1048576:Nat))))∧(((0:Int)≤(1:Int))∧(((1:Int) + (cntP r8.t.queue))≤(1099511627776:Int))))∧(∀ r17:(Prod Int (List Part)),((r17.fst=((1:Int) + (cntP r8.t.queue)))∧(((List.length r17.snd)=(List.length r8.t.queue))∧(((cntP r17.snd)=(cntP r8.t.queue))∧(MarkP r8.t.queue (1:Int) r17.snd))))→(true=true)∧((true=true)∧(((((List.length r17.snd)≤(1048576:Nat))∧(∀ p:Part,(List.Mem p r17.snd)→((List.length p.data)≤(1048576:Nat))))∧(((0:Int)≤(1:Int))∧((((1:Int) + (cntP r17.snd))≤(1099511627776:Int))∧(r17.snd=(markP r17.snd (1:Int))))))∧(∀ r18:Int,(r18=((1:Int) + (cntP r17.snd)))→(true=true)∧(if ((decide (r18 < (0:Int)))=true) then ((true=true)∧(K [(aB false)] [])) else (if ((r18 != r17.fst)=true) then ((true=true)∧(K [(aB false)] [])) else ((true=true)∧(True∧(∀ r19:Cfg,(r19=c)→(true=true)∧((true=true)∧((true=true)∧((((List.length t.queue)≤(1048576:Nat))∧(∀ p:Part,(List.Mem p t.queue)→((List.length p.data)≤(1048576:Nat))))∧(∀ r20:CtS,(r20=t)→((List.length r20.queue)=(List.length r20.queue))∧((true=true)∧((true=true)∧((true=true)∧(((List.length s)≤(137438953472:Nat))∧(∀ r21:(List Int),(r21=s)→(true=true)∧((true=true)∧((true=true)∧(((List.length r21)≤(1048576:Nat))∧(∀ r22:CtPutR,(r22=(crdPut r19 (CtS.mk r20.have_ r20.queue r20.granted r20.sent r20.dead) r21))→((List.length r22.t.queue)=(List.length r22.t.queue))∧((true=true)∧((true=true)∧((true=true)∧((true=true)∧((((List.length r22.t.queue)≤(137438953472:Nat))∧(∀ y:Part,(List.Mem y r22.t.queue)→((List.length y.data)≤(137438953472:Nat))))∧(∀ r23:Bool,(r23=(decide ((CtS.mk r22.t.have_ r22.t.queue r22.t.granted r22.t.sent r22.t.dead)=(CtS.mk r4.t.have_ r4.t.queue r4.t.granted r4.t.sent r4.t.dead))))→(true=true)∧(if ((!r23)=true) then ((true=true)∧(K [(aB false)] [])) else (if ((r22.ok != r4.ok)=true) then ((true=true)∧(K [(aB false)] [])) else ((true=true)∧(((((List.length r17.snd)≤(1048576:Nat))∧(∀ p:Part,(List.Mem p r17.snd)→((List.length p.data)≤(1048576:Nat))))∧(((0:Int)≤(1:Int))∧((((1:Int) + (cntP r17.snd))≤(1099511627776:Int))∧(r17.snd=(markP r17.snd (1:Int))))))∧(∀ r24:Int,(r24=((1:Int) + (cntP r17.snd)))→(true=true)∧(if ((decide (r24 < (0:Int)))=true) then ((true=true)∧(K [(aB false)] [])) else (if ((r24 != r17.fst)=true) then ((true=true)∧(K [(aB false)] [])) else ((true=true)∧(K [(aB true)] [])))))))))))))))))))))))))))))))))))))))))))))))))))))))))))))))))))))))))))))))))))))))))))))))))))))))))))))))))) := by
  obtain ⟨_, hp2, hp3⟩ := hp
  have hv := Wf.bytes (hp3 _ (List.mem_singleton.2 rfl))
  clear hp3
  have hw := wf_ct hp2
  have hB0 := CtB.of t
  have hG0 := put_B (c := c) (t := t) (s := s)
  have s2 := szP_nonneg t.queue
  have z1 := CtB.c0 t
  have z3 := CtB.c0 ((crdPut c t s).t)
  have hb : (t.queue.length : Int) + szP t.queue ≤ 1048576 → t.queue.length ≤ 1048576 ∧ cntP t.queue ≤ 4194304 ∧ ((crdPut c t s).t).queue.length ≤ 1048576 ∧ cntP ((crdPut c t s).t).queue ≤ 4194304 := fun h => ⟨(hB0 h).ql, (hB0 h).qc, (hG0 (hB0 h)).ql, (hG0 (hB0 h)).qc⟩
  clear hp2

  repeat' first
    | exact rfl
    | exact True.intro
    | exact hk _ rfl
    | with_reducible apply And.intro
    | with_reducible refine andI ?_
    | (with_reducible intro y_ hy_; subst hy_; try simp only [CrS.eta, CtS.eta, Frm.eta, Cfg.eta])
    | with_reducible intro y_
    | with_reducible assumption
    | refine ifTr ?_
    | refine ifEq rfl ?_
    | refine ifNeB rfl ?_
    | refine ifLt (by omega) ?_
    | refine ifNe (by omega) ?_
    | refine ifLtB (fun h => ?_) (fun h => ?_)
    | omega
    | exact MarkB.to (by assumption) (by omega)
    | exact MarkF.to (by assumption) (by omega)
    | exact MarkP.to (by assumption) (by omega)
    | exact MarkF.le ‹List.Mem _ _› (by assumption)
    | exact Nat.le_trans (MarkF.le ‹List.Mem _ _› (by assumption)) (by decide)
    | exact MarkP.le ‹List.Mem _ _› (by assumption)
    | exact Nat.le_trans (MarkP.le ‹List.Mem _ _› (by assumption)) (by decide)
    | exact (hB0 (by omega)).qle ‹List.Mem _ _›
    | exact (hG0 (hB0 (by omega))).qle ‹List.Mem _ _›
    | exact Nat.le_trans ((hB0 (by omega)).qle ‹List.Mem _ _›) (by decide)
    | exact Nat.le_trans ((hG0 (hB0 (by omega))).qle ‹List.Mem _ _›) (by decide)
    | exact hw.1
    | exact hw.2 _ ‹List.Mem _ _›
    | exact hv.2
theorem w_laws_FnExactCrdPut : Valid Try.prog 5 c_laws_FnExactCrdPut :=
  valid_ctr2 (V := V_laws_FnExactCrdPut) (tysB_ok tys_ok) ⟨(CallsL.cons w_laws_szCrdTx (CallsL.cons w_laws_toCfgOpts (CallsL.cons w_laws_toCrdTx (CallsL.cons w_laws_eqCrdTx (CallsL.cons w_laws_heldCrdTx (CallsL.cons w_spec_CrdPut_x (CallsL.cons w_laws_toByteS (CallsL.cons w_impl_CrdPut_x (CallsL.cons w_laws_eqByteS (CallsL.nil _)))))))))), (IosL.cons w_laws_markCrdTx (IosL.cons w_laws_markByteS (IosL.nil _)))⟩ mixed 3 6 Try.func5 rfl (by kernel_rfl)
    (fun c hc => by
      obtain rfl := Option.some.inj hc
      exact ⟨trivial, ⟨⟨trivial, ⟨⟨trivial, trivial⟩, trivial⟩⟩, ⟨trivial, ⟨trivial, ⟨⟨trivial, ⟨⟨trivial, trivial⟩, trivial⟩⟩, ⟨trivial, ⟨trivial, ⟨trivial, ⟨trivial, ⟨⟨trivial, ⟨⟨trivial, trivial⟩, trivial⟩⟩, ⟨⟨trivial, ⟨⟨trivial, trivial⟩, trivial⟩⟩, ⟨⟨trivial, ⟨⟨trivial, trivial⟩, trivial⟩⟩, ⟨trivial, ⟨trivial, ⟨trivial, ⟨⟨trivial, ⟨⟨trivial, trivial⟩, trivial⟩⟩, ⟨trivial, ⟨trivial, ⟨trivial, ⟨trivial, ⟨⟨trivial, ⟨⟨trivial, trivial⟩, trivial⟩⟩, ⟨⟨trivial, ⟨⟨trivial, trivial⟩, trivial⟩⟩, ⟨trivial, ⟨⟨trivial, ⟨⟨trivial, trivial⟩, trivial⟩⟩, ⟨trivial, ⟨trivial, ⟨⟨trivial, ⟨⟨trivial, trivial⟩, trivial⟩⟩, ⟨⟨trivial, ⟨⟨trivial, trivial⟩, trivial⟩⟩, ⟨trivial, trivial⟩⟩⟩⟩⟩⟩⟩⟩⟩⟩⟩⟩⟩⟩⟩⟩⟩⟩⟩⟩⟩⟩⟩⟩⟩⟩⟩⟩⟩)
    (fun x K hp hk => ⟨_, by kernel_rfl, vF_laws_FnExactCrdPut x.1 x.2.1 x.2.2 K hp (fun r h => hk r h)⟩)
end Go.Proofs.YtdahhphhblbfdaaE
