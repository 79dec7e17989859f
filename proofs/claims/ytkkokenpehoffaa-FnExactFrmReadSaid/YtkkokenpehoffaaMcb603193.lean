/- A part of the proof of laws of the program: what calls of the program answer. Conditions: none. -/
import Derived.Test.YtkkokenpehoffaaMf495856f
set_option linter.unusedVariables false
set_option linter.unusedSimpArgs false
set_option linter.unusedSectionVars false
/- Contracts: LawXF. Conditions: none. -/
set_option linter.unusedVariables false
set_option maxHeartbeats 1600000
namespace Go.Proofs.YtkkokenpehoffaaE
open Go
theorem mk_self {l x : List Int} {k : Int} (h : l = markB x k) : l = markB l k := by rw [h, markB_idem]
theorem Wf.row {k : RK} {l : List k.El} (h : Wf (.r k l)) : l.length ≤ maxLen ∧ ∀ y ∈ flat k l, Wf y := by
  cases h with
  | r _ _ h1 h2 => exact ⟨h1, h2⟩
theorem Wf.bytes {l : List Int} (h : Wf (.r .u8 l)) : l.length ≤ 9223372036854775807 ∧ Bytes l := by
  obtain ⟨h1, h2⟩ := Wf.row (k := .u8) h
  refine ⟨h1, Bytes.of_wf fun y hy => ?_⟩
  have h3 : D.i .u8 y ∈ flat .u8 l := List.mem_flatMap.2 ⟨y, hy, List.mem_singleton.2 rfl⟩
  have h4 := h2 _ h3
  cases h4 with
  | i _ _ h5 => exact h5
theorem wf_frm {f : Frm} (h : ∀ d ∈ RK.cells .frm f, Wf d) : f.data.length ≤ 9223372036854775807 ∧ Bytes f.data := Wf.bytes (h (.r .u8 f.data) (by simp [RK.cells]))
theorem mem_flat {k : RK} {l : List k.El} {x : k.El} (hx : x ∈ l) {d : D} (hd : d ∈ k.cells x) : d ∈ flat k l := List.mem_flatMap.2 ⟨x, hx, hd⟩
theorem Wf.parts {l : List Part} (h : Wf (.r .part l)) : l.length ≤ 9223372036854775807 ∧ ∀ p ∈ l, p.data.length ≤ 9223372036854775807 := by
  obtain ⟨h1, h2⟩ := Wf.row (k := .part) h
  exact ⟨h1, fun p hp => (Wf.bytes (h2 _ (mem_flat (k := .part) hp (d := .r .u8 p.data) (by simp [RK.cells])))).1⟩
theorem Wf.partsB {l : List Part} (h : Wf (.r .part l)) : ∀ p ∈ l, Bytes p.data := by
  obtain ⟨h1, h2⟩ := Wf.row (k := .part) h
  exact fun p hp => (Wf.bytes (h2 _ (mem_flat (k := .part) hp (d := .r .u8 p.data) (by simp [RK.cells])))).2
theorem wf_tx {t : TxS} (h : ∀ d ∈ txC t, Wf d) : (t.flight.length ≤ 9223372036854775807 ∧ ∀ p ∈ t.flight, p.data.length ≤ 9223372036854775807) ∧ (t.queue.length ≤ 9223372036854775807 ∧ ∀ p ∈ t.queue, p.data.length ≤ 9223372036854775807) :=
  ⟨Wf.parts (h (.r .part t.flight) (by simp [txC])), Wf.parts (h (.r .part t.queue) (by simp [txC]))⟩
theorem wf_ct {t : CtS} (h : ∀ d ∈ ctC t, Wf d) : t.queue.length ≤ 9223372036854775807 ∧ ∀ p ∈ t.queue, p.data.length ≤ 9223372036854775807 := Wf.parts (h (.r .part t.queue) (by simp [ctC]))
theorem wf_rx {t : RxS} (h : ∀ d ∈ rxC t, Wf d) : t.join.got.length ≤ 9223372036854775807 ∧ Bytes t.join.got := Wf.bytes (h (.r .u8 t.join.got) (by simp [rxC]))
theorem wf_cr {t : CrS} (h : ∀ d ∈ crC t, Wf d) : t.join.got.length ≤ 9223372036854775807 ∧ Bytes t.join.got := Wf.bytes (h (.r .u8 t.join.got) (by simp [crC]))
theorem wf_num {k : IntKind} {x : Int} (h : Wf (.i k x)) : (Lit.int k x).wf = true := by
  cases h; assumption
theorem read2_dl (l : List Int) : (frmRead2 l).f.data.length ≤ 8 := by
  unfold frmRead2 frmRead
  split
  · rename_i h
    exact (frm_rng h.2.2.2).2.2.2.2.2.2
  · simp [zFrm]

/-! laws.FnExactFrmBytes -/
def c_laws_FnExactFrmBytes : Ent := ctr (α := (Frm)) (ρ := (Bool)) [] [] (rs1 rFrm) (fun x_ => (fun (f : Frm) => (∀ d ∈ RK.cells .frm f, Wf d)) x_) (fun x_ r_ => (fun x_ => (fun (f : Frm) => ((fun r_ => (fun (r : Bool) => (r = true)) r_))) x_) x_ r_) (fun r_ => (fun (r : Bool) => ([rB.to r])) r_) (fun r_ => (fun (r : Bool) => ([])) r_)
def V_laws_FnExactFrmBytes : Env := ⟨tys, [(18, c_laws_eqFrmFrame), (19, c_laws_eqByteS), (23, c_laws_szFrmFrame), (24, c_spec_FrmBytes_x), (25, c_laws_toFrmFrame), (26, c_impl_FrmBytes_x), (27, c_laws_heldByteS)], [(20, [0]), (22, [1])], [(1, 0), (5, 1)], [], [], [500037], [(20, c_laws_markByteS), (21, c_laws_markFrmFrame)], [(10, [(0, false), (1, false), (2, true), (3, true), (4, false)])]⟩
/-! laws.FnExactFrmRead -/
def c_laws_FnExactFrmRead : Ent := ctr (α := (List Int)) (ρ := (Bool)) [] [] (rs1 rBytes) (fun x_ => (fun (l : List Int) => (∀ d ∈ [D.r .u8 l], Wf d)) x_) (fun x_ r_ => (fun x_ => (fun (l : List Int) => ((fun r_ => (fun (r : Bool) => (r = true)) r_))) x_) x_ r_) (fun r_ => (fun (r : Bool) => ([rB.to r])) r_) (fun r_ => (fun (r : Bool) => ([])) r_)
def V_laws_FnExactFrmRead : Env := ⟨tys, [(15, c_spec_FrmRead_x), (16, c_laws_toByteS), (17, c_impl_FrmRead_x), (18, c_laws_eqFrmFrame), (19, c_laws_eqByteS), (22, c_laws_heldFrmFrame)], [(23, [0]), (26, [1])], [(3, 0), (6, 1), (11, 2)], [], [], [500033, 500048, 500054, 500080], [(20, c_laws_markByteS), (21, c_laws_markFrmFrame)], []⟩
end Go.Proofs.YtkkokenpehoffaaE

/- Calls answer what is promised: LawXF. Conditions: none. -/
set_option linter.unusedVariables false
set_option maxHeartbeats 1600000
namespace Go.Proofs.YtkkokenpehoffaaE
open Go
theorem vF_laws_FnExactFrmBytes (f:Frm) (K:List Arg→List (List AC)→Prop) (hp:∀ d ∈ RK.cells .frm f,Wf d) (hk:∀ (r:Bool),(r=true)→K ([rB.to r]) ([])):(true=true)∧((((List.length f.data)≤(9223372036854775807:Nat))∧(((0:Int)≤(1048576:Int))∧((1048576:Int)≤(1048576:Int))))∧(∀ r:Int,(((r=((1048576:Int) - (((List.length f.data):Nat):Int)))∧((0:Int)≤r))∨(r=(-1:Int)))→(true=true)∧(if ((decide (r < (0:Int)))=true) then ((true=true)∧(K [(aB true)] [])) else ((true=true)∧(((List.length f.data)≤(137438953472:Nat))∧(∀ r1:Frm,(r1=f)→(true=true)∧((true=true)∧((((List.length r1.data)≤(1048576:Nat))∧(Bytes r1.data))∧(∀ r2:(List Int),(r2=(frmBytes (Frm.mk r1.kind r1.seq r1.ack r1.poll r1.final r1.say r1.seg r1.len r1.data)))→(true=true)∧((true=true)∧(((List.length f.data)≤(137438953472:Nat))∧(∀ r3:Frm,(r3=f)→(true=true)∧((true=true)∧((((List.length r3.data)≤(1048576:Nat))∧(Bytes r3.data))∧(∀ r4:(List Int),(r4=(frmBytes (Frm.mk r3.kind r3.seq r3.ack r3.poll r3.final r3.say r3.seg r3.len r3.data)))→(true=true)∧((true=true)∧((((List.length r4)≤(137438953472:Nat))∧True)∧(∀ r5:Bool,(r5=(decide (r4=r2)))→(true=true)∧(if ((!r5)=true) then ((true=true)∧(K [(aB false)] [])) else ((true=true)∧(((List.length f.data)≤(137438953472:Nat))∧(∀ r6:Frm,(r6=f)→(true=true)∧((true=true)∧((true=true)∧(((List.length r3.data)≤(137438953472:Nat))∧(∀ r7:Bool,(r7=(decide ((Frm.mk r3.kind r3.seq r3.ack r3.poll r3.final r3.say r3.seg r3.len r3.data)=(Frm.mk r6.kind r6.seq r6.ack r6.poll r6.final r6.say r6.seg r6.len r6.data))))→(true=true)∧((true=true)∧(if ((!r7)=true) then ((true=true)∧(K [(aB false)] [])) else ((true=true)∧((((List.length r3.data)≤(137438953472:Nat))∧(((0:Int)≤(1:Int))∧((1:Int)≤(1099511627776:Int))))∧(∀ r8:(Prod Int (List Int)),((r8.fst=((1:Int) + (((List.length r3.data):Nat):Int)))∧(r8.snd=(markB r3.data (1:Int))))→(true=true)∧(if ((decide (r8.fst < (0:Int)))=true) then ((true=true)∧(K [(aB false)] [])) else ((true=true)∧((((List.length r4)≤(137438953472:Nat))∧True)∧(∀ r9:Bool,(r9=(decide (r4=r2)))→(true=true)∧(if ((!r9)=true) then ((true=true)∧(K [(aB false)] [])) else ((true=true)∧((((List.length r4)≤(137438953472:Nat))∧(((0:Int)≤(1:Int))∧((1:Int)≤(1099511627776:Int))))∧(∀ r10:(Prod Int (List Int)),((r10.fst=((1:Int) + (((List.length r4):Nat):Int)))∧(r10.snd=(markB r4 (1:Int))))→(true=true)∧((true=true)∧((((List.length r10.snd)≤(137438953472:Nat))∧(((0:Int)≤(1:Int))∧(((1:Int)≤(1099511627776:Int))∧(r10.snd=(markB r10.snd (1:Int))))))∧(∀ r11:Int,(r11=((1:Int) + (((List.length r10.snd):Nat):Int)))→(true=true)∧(if ((decide (r11 < (0:Int)))=true) then ((true=true)∧(K [(aB false)] [])) else (if ((r11 != r10.fst)=true) then ((true=true)∧(K [(aB false)] [])) else ((true=true)∧(((List.length f.data)≤(137438953472:Nat))∧(∀ r12:Frm,(r12=f)→(true=true)∧((true=true)∧((((List.length r12.data)≤(1048576:Nat))∧(Bytes r12.data))∧(∀ r13:(List Int),(r13=(frmBytes (Frm.mk r12.kind r12.seq r12.ack r12.poll r12.final r12.say r12.seg r12.len r12.data)))→(true=true)∧((true=true)∧((((List.length r13)≤(137438953472:Nat))∧True)∧(∀ r14:Bool,(r14=(decide (r13=r2)))→(true=true)∧(if ((!r14)=true) then ((true=true)∧(K [(aB false)] [])) else ((true=true)∧((((List.length r10.snd)≤(137438953472:Nat))∧(((0:Int)≤(1:Int))∧(((1:Int)≤(1099511627776:Int))∧(r10.snd=(markB r10.snd (1:Int))))))∧(∀ r15:Int,(r15=((1:Int) + (((List.length r10.snd):Nat):Int)))→(true=true)∧(if ((decide (r15 < (0:Int)))=true) then ((true=true)∧(K [(aB false)] [])) else (if ((r15 != r10.fst)=true) then ((true=true)∧(K [(aB false)] [])) else ((true=true)∧(K [(aB true)] []))))))))))))))))))))))))))))))))))))))))))))))))))))))))))))) := by
  have hw := wf_frm hp
  have hl := frmBytes_len f

  repeat' first
    | exact rfl
    | exact True.intro
    | with_reducible apply And.intro
    | (with_reducible intro y_ hy_; subst hy_)
    | with_reducible intro y_
    | (refine iteI (fun h => ?_) (fun h => ?_))
  all_goals try simp only [Bool.not_eq_true', decide_eq_false_iff_not, decide_eq_true_eq, Bool.not_eq_true, bne_iff_ne, beq_iff_eq, ne_eq, Decidable.not_not, Bool.not_eq_false, gt_iff_lt, ge_iff_le, Int.not_le, Int.not_lt, beq_eq_false_iff_ne, bne_eq_false_iff_eq, Bool.and_eq_true, Bool.or_eq_true, Bool.true_eq_false, Bool.false_eq_true] at *
  all_goals try simp (disch := first | omega | grind [markB_len, frmBytes_len]) only [wr] at *
  all_goals first
    | assumption
    | omega
    | exact (markB_idem _ _).symm
    | exact mk_self (And.right (by assumption))
    | exact Nat.le_trans (read2_dl _) (by decide)
    | exact hw.2
    | exact hw.1
    | exact hk _ (by grind [markB_len, frmBytes_len])
    | (simp only [LIM] at *; omega)
    | grind [markB_len, frmBytes_len, LIM]
theorem w_laws_FnExactFrmBytes : Valid Try.prog 5 c_laws_FnExactFrmBytes :=
  valid_ctr2 (V := V_laws_FnExactFrmBytes) (tysB_ok tys_ok) ⟨(CallsL.cons w_laws_eqFrmFrame (CallsL.cons w_laws_eqByteS (CallsL.cons w_laws_szFrmFrame (CallsL.cons w_spec_FrmBytes_x (CallsL.cons w_laws_toFrmFrame (CallsL.cons w_impl_FrmBytes_x (CallsL.cons w_laws_heldByteS (CallsL.nil _)))))))), (IosL.cons w_laws_markByteS (IosL.cons w_laws_markFrmFrame (IosL.nil _)))⟩ mixed 2 2 Try.func5 rfl (by kernel_rfl)
    (fun c hc => by
      obtain rfl := Option.some.inj hc
      exact ⟨trivial, ⟨trivial, ⟨trivial, ⟨⟨trivial, ⟨⟨trivial, trivial⟩, trivial⟩⟩, ⟨trivial, ⟨trivial, ⟨trivial, ⟨⟨trivial, ⟨⟨trivial, trivial⟩, trivial⟩⟩, ⟨⟨trivial, ⟨⟨trivial, trivial⟩, trivial⟩⟩, ⟨trivial, ⟨trivial, ⟨⟨trivial, ⟨⟨trivial, trivial⟩, trivial⟩⟩, ⟨trivial, ⟨trivial, ⟨trivial, ⟨trivial, ⟨⟨trivial, ⟨⟨trivial, trivial⟩, trivial⟩⟩, ⟨⟨trivial, ⟨⟨trivial, trivial⟩, trivial⟩⟩, ⟨trivial, ⟨⟨trivial, ⟨⟨trivial, trivial⟩, trivial⟩⟩, ⟨trivial, ⟨trivial, ⟨⟨trivial, ⟨⟨trivial, trivial⟩, trivial⟩⟩, ⟨⟨trivial, ⟨⟨trivial, trivial⟩, trivial⟩⟩, ⟨trivial, trivial⟩⟩⟩⟩⟩⟩⟩⟩⟩⟩⟩⟩⟩⟩⟩⟩⟩⟩⟩⟩⟩⟩⟩⟩⟩)
    (fun x K hp hk => ⟨_, by kernel_rfl, vF_laws_FnExactFrmBytes x K hp (fun r h => hk r h)⟩)
theorem vF_laws_FnExactFrmRead (l:List Int) (K:List Arg→List (List AC)→Prop) (hp:∀ d ∈ [D.r .u8 l],Wf d) (hk:∀ (r:Bool),(r=true)→K ([rB.to r]) ([])):if ((decide ((((List.length l):Nat):Int) > (1048576:Int)))=true) then ((true=true)∧(K [(aB true)] [])) else ((true=true)∧(((List.length l)≤(137438953472:Nat))∧(∀ r:(List Int),(r=l)→(true=true)∧((true=true)∧((((List.length r)≤(1048576:Nat))∧(Bytes r))∧(∀ r1:ReadR,(r1=(frmRead2 r))→(true=true)∧((true=true)∧(((List.length l)≤(137438953472:Nat))∧(∀ r2:(List Int),(r2=l)→(true=true)∧((true=true)∧((((List.length r2)≤(1048576:Nat))∧(Bytes r2))∧(∀ r3:ReadR,(r3=(frmRead2 r2))→(true=true)∧((true=true)∧(((List.length r3.f.data)≤(137438953472:Nat))∧(∀ r4:Bool,(r4=(decide ((Frm.mk r3.f.kind r3.f.seq r3.f.ack r3.f.poll r3.f.final r3.f.say r3.f.seg r3.f.len r3.f.data)=r1.f)))→(true=true)∧(if ((!r4)=true) then ((true=true)∧(K [(aB false)] [])) else (if ((r3.ok != r1.ok)=true) then ((true=true)∧(K [(aB false)] [])) else ((true=true)∧(((List.length l)≤(137438953472:Nat))∧(∀ r5:(List Int),(r5=l)→(true=true)∧((true=true)∧((((List.length r2)≤(137438953472:Nat))∧True)∧(∀ r6:Bool,(r6=(decide (r2=r5)))→(true=true)∧(if ((!r6)=true) then ((true=true)∧(K [(aB false)] [])) else ((true=true)∧((((List.length r2)≤(137438953472:Nat))∧(((0:Int)≤(1:Int))∧((1:Int)≤(1099511627776:Int))))∧(∀ r7:(Prod Int (List Int)),((r7.fst=((1:Int) + (((List.length r2):Nat):Int)))∧(r7.snd=(markB r2 (1:Int))))→(true=true)∧(if ((decide (r7.fst < (0:Int)))=true) then ((true=true)∧(K [(aB false)] [])) else ((true=true)∧(((List.length r3.f.data)≤(137438953472:Nat))∧(∀ r8:Bool,(r8=(decide ((Frm.mk r3.f.kind r3.f.seq r3.f.ack r3.f.poll r3.f.final r3.f.say r3.f.seg r3.f.len r3.f.data)=r1.f)))→(true=true)∧(if ((!r8)=true) then ((true=true)∧(K [(aB false)] [])) else (if ((r3.ok != r1.ok)=true) then ((true=true)∧(K [(aB false)] [])) else ((true=true)∧((((List.length r3.f.data)≤(137438953472:Nat))∧(((0:Int)≤(1:Int))∧((1:Int)≤(1099511627776:Int))))∧(∀ r9:(Prod Int (List Int)),((r9.fst=((1:Int) + (((List.length r3.f.data):Nat):Int)))∧(r9.snd=(markB r3.f.data (1:Int))))→(true=true)∧((true=true)∧((((List.length r9.snd)≤(137438953472:Nat))∧(((0:Int)≤(1:Int))∧(((1:Int)≤(1099511627776:Int))∧(r9.snd=(markB r9.snd (1:Int))))))∧(∀ r10:Int,(r10=((1:Int) + (((List.length r9.snd):Nat):Int)))→(true=true)∧(if ((decide (r10 < (0:Int)))=true) then ((true=true)∧(K [(aB false)] [])) else (if ((r10 != r9.fst)=true) then ((true=true)∧(K [(aB false)] [])) else ((true=true)∧(((List.length l)≤(137438953472:Nat))∧(∀ r11:(List Int),(r11=l)→(true=true)∧((true=true)∧((((List.length r11)≤(1048576:Nat))∧(Bytes r11))∧(∀ r12:ReadR,(r12=(frmRead2 r11))→(true=true)∧((true=true)∧(((List.length r12.f.data)≤(137438953472:Nat))∧(∀ r13:Bool,(r13=(decide ((Frm.mk r12.f.kind r12.f.seq r12.f.ack r12.f.poll r12.f.final r12.f.say r12.f.seg r12.f.len r12.f.data)=r1.f)))→(true=true)∧(if ((!r13)=true) then ((true=true)∧(K [(aB false)] [])) else (if ((r12.ok != r1.ok)=true) then ((true=true)∧(K [(aB false)] [])) else ((true=true)∧((((List.length r9.snd)≤(137438953472:Nat))∧(((0:Int)≤(1:Int))∧(((1:Int)≤(1099511627776:Int))∧(r9.snd=(markB r9.snd (1:Int))))))∧(∀ r14:Int,(r14=((1:Int) + (((List.length r9.snd):Nat):Int)))→(true=true)∧(if ((decide (r14 < (0:Int)))=true) then ((true=true)∧(K [(aB false)] [])) else (if ((r14 != r9.fst)=true) then ((true=true)∧(K [(aB false)] [])) else ((true=true)∧(K [(aB true)] []))))))))))))))))))))))))))))))))))))))))))))))))))))))))))) := by
  have hw := Wf.bytes (hp (.r .u8 l) (List.mem_singleton.2 rfl))
  clear hp

  repeat' first
    | exact rfl
    | exact True.intro
    | with_reducible apply And.intro
    | (with_reducible intro y_ hy_; subst hy_)
    | with_reducible intro y_
    | (refine iteI (fun h => ?_) (fun h => ?_))
  all_goals try simp only [Bool.not_eq_true', decide_eq_false_iff_not, decide_eq_true_eq, Bool.not_eq_true, bne_iff_ne, beq_iff_eq, ne_eq, Decidable.not_not, Bool.not_eq_false, gt_iff_lt, ge_iff_le, Int.not_le, Int.not_lt, beq_eq_false_iff_ne, bne_eq_false_iff_eq, Bool.and_eq_true, Bool.or_eq_true, Bool.true_eq_false, Bool.false_eq_true] at *
  all_goals try simp (disch := first | omega | grind [markB_len, read2_dl]) only [wr] at *
  all_goals first
    | assumption
    | omega
    | exact (markB_idem _ _).symm
    | exact mk_self (And.right (by assumption))
    | exact Nat.le_trans (read2_dl _) (by decide)
    | exact hw.2
    | exact hw.1
    | exact hk _ (by grind [markB_len, read2_dl])
    | (simp only [LIM] at *; omega)
    | grind [markB_len, read2_dl, LIM]
theorem w_laws_FnExactFrmRead : Valid Try.prog 4 c_laws_FnExactFrmRead :=
  valid_ctr2 (V := V_laws_FnExactFrmRead) (tysB_ok tys_ok) ⟨(CallsL.cons w_spec_FrmRead_x (CallsL.cons w_laws_toByteS (CallsL.cons w_impl_FrmRead_x (CallsL.cons w_laws_eqFrmFrame (CallsL.cons w_laws_eqByteS (CallsL.cons w_laws_heldFrmFrame (CallsL.nil _))))))), (IosL.cons w_laws_markByteS (IosL.cons w_laws_markFrmFrame (IosL.nil _)))⟩ mixed 2 3 Try.func4 rfl (by kernel_rfl)
    (fun c hc => by
      obtain rfl := Option.some.inj hc
      exact ⟨trivial, ⟨⟨trivial, ⟨⟨trivial, trivial⟩, trivial⟩⟩, ⟨trivial, ⟨trivial, ⟨trivial, ⟨⟨trivial, ⟨⟨trivial, trivial⟩, trivial⟩⟩, ⟨⟨trivial, ⟨⟨trivial, trivial⟩, trivial⟩⟩, ⟨trivial, ⟨trivial, ⟨⟨trivial, ⟨⟨trivial, trivial⟩, trivial⟩⟩, ⟨trivial, ⟨trivial, ⟨trivial, ⟨trivial, ⟨⟨trivial, ⟨⟨trivial, trivial⟩, trivial⟩⟩, ⟨⟨trivial, ⟨⟨trivial, trivial⟩, trivial⟩⟩, ⟨trivial, ⟨⟨trivial, ⟨⟨trivial, trivial⟩, trivial⟩⟩, ⟨trivial, ⟨trivial, ⟨⟨trivial, ⟨⟨trivial, trivial⟩, trivial⟩⟩, ⟨⟨trivial, ⟨⟨trivial, trivial⟩, trivial⟩⟩, ⟨trivial, trivial⟩⟩⟩⟩⟩⟩⟩⟩⟩⟩⟩⟩⟩⟩⟩⟩⟩⟩⟩⟩⟩⟩⟩)
    (fun x K hp hk => ⟨_, by kernel_rfl, vF_laws_FnExactFrmRead x K hp (fun r h => hk r h)⟩)
end Go.Proofs.YtkkokenpehoffaaE
