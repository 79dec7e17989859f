/- A part of the proof of laws of the program: what calls of the program answer. Conditions: none. -/
import Derived.Test.YtdahhphhblbfdaaM4cb4c24d
set_option linter.unusedVariables false
set_option linter.unusedSimpArgs false
set_option linter.unusedSectionVars false
/- Contracts: X3F. Conditions: none. -/
set_option linter.unusedVariables false
set_option maxHeartbeats 1600000
namespace Go.Proofs.YtdahhphhblbfdaaE
open Go
/-- A frame, its bytes one's own. -/
def dFrmC (f : Frm) : List AC := [.d (.i .i64 f.kind), .d (.i .i64 f.seq), .d (.i .i64 f.ack), .d (.b f.poll), .d (.b f.final), .d (.i .i64 f.say), .d (.i .i64 f.seg), .d (.i .i64 f.len), .own ⟨5, .u8, f.data, m0⟩]
def dFrm (f : Frm) : Arg := .v true (dFrmC f)
def mkFrmD : List AC → Option Frm
  | [.d (.i .i64 a0), .d (.i .i64 a1), .d (.i .i64 a2), .d (.b a3), .d (.b a4), .d (.i .i64 a5), .d (.i .i64 a6), .d (.i .i64 a7), .own ⟨e1, .u8, a8, ⟨none, false, 0, false⟩⟩] => if e1 = 5 then some ⟨a0, a1, a2, a3, a4, a5, a6, a7, a8⟩ else none
  | _ => none
theorem mkFrmD_cells {cs : List AC} {t : Frm} (h : mkFrmD cs = some t) : cs = dFrmC t := by
  unfold mkFrmD at h
  split at h
  · split at h
    · rename_i he
      cases h
      subst he
      rfl
    · simp at h
  · simp at h
def odFrm : Arg → Option Frm
  | .v true cs => mkFrmD cs
  | _ => none
def rDFrm : Rep Frm where
  to t := .v true (dFrmC t)
  of := odFrm
  inv a x h _ := by
    unfold odFrm at h
    split at h
    · rw [mkFrmD_cells h]
    · simp at h

/-! laws.toCfgOpts -/
def c_laws_toCfgOpts : Ent := ctr (α := (Cfg)) (ρ := (Cfg)) [] [] (rs1 rCfg) (fun x_ => (fun (c : Cfg) => (True)) x_) (fun x_ r_ => (fun x_ => (fun (c : Cfg) => ((fun r_ => (fun (r : Cfg) => (r = c)) r_))) x_) x_ r_) (fun r_ => (fun (r : Cfg) => ([rCfg.to r])) r_) (fun r_ => (fun (r : Cfg) => ([])) r_)
def V_laws_toCfgOpts : Env := ⟨tys, [], [], [(1, 0), (2, 1), (3, 2)], [], [], [], [], []⟩
/-! laws.toFrmFrame -/
def c_laws_toFrmFrame : Ent := ctr (α := (Frm)) (ρ := (Frm)) [] [(0, 8)] (rs1 rFrm) (fun x_ => (fun (f : Frm) => (f.data.length ≤ LIM)) x_) (fun x_ r_ => (fun x_ => (fun (f : Frm) => ((fun r_ => (fun (r : Frm) => (r = f)) r_))) x_) x_ r_) (fun r_ => (fun (r : Frm) => ([dFrm r])) r_) (fun r_ => (fun (r : Frm) => ([])) r_)
def V_laws_toFrmFrame : Env := ⟨tys, [(27, c_laws_toByteS)], [(30, [0])], [(1, 0), (2, 1), (3, 2)], [], [], [], [], []⟩
/-! laws.eqFrmFrame -/
def c_laws_eqFrmFrame : Ent := ctr (α := (Frm) × (Frm)) (ρ := (Bool)) [] [] (rs rFrm (rs1 rFrm)) (fun x_ => (fun (a : Frm) (b : Frm) => (a.data.length ≤ LIM)) x_.1 x_.2) (fun x_ r_ => (fun x_ => (fun (a : Frm) (b : Frm) => ((fun r_ => (fun (r : Bool) => (r = decide (a = b))) r_))) x_.1 x_.2) x_ r_) (fun r_ => (fun (r : Bool) => ([rB.to r])) r_) (fun r_ => (fun (r : Bool) => ([])) r_)
def V_laws_eqFrmFrame : Env := ⟨tys, [(29, c_laws_eqByteS)], [], [(2, 0), (3, 1)], [], [], [], [], []⟩
/-! laws.szFrmFrame -/
def c_laws_szFrmFrame : Ent := ctr (α := (Frm) × (Int)) (ρ := (Int)) [] [] (rs rFrm (rs1 rInt)) (fun x_ => (fun (f : Frm) (l : Int) => (f.data.length ≤ maxLen ∧ 0 ≤ l ∧ l ≤ 1048576)) x_.1 x_.2) (fun x_ r_ => (fun x_ => (fun (f : Frm) (l : Int) => ((fun r_ => (fun (r : Int) => ((r = l - f.data.length ∧ 0 ≤ r) ∨ r = -1)) r_))) x_.1 x_.2) x_ r_) (fun r_ => (fun (r : Int) => ([rInt.to r])) r_) (fun r_ => (fun (r : Int) => ([])) r_)
def V_laws_szFrmFrame : Env := ⟨tys, [(66, c_laws_szByteS)], [], [(2, 0)], [], [], [], [], []⟩
/-! laws.markFrmFrame -/
def c_laws_markFrmFrame : EntI := ctrI (α := (Frm) × (Int)) (ρ := (Int) × (List Int)) [(0, 8)] (rs rDFrm (rs1 rInt)) (fun x_ => (fun (f : Frm) (k : Int) => (f.data.length ≤ LIM ∧ 0 ≤ k ∧ k ≤ 1099511627776)) x_.1 x_.2) (fun x_ r_ => (fun x_ => (fun (f : Frm) (k : Int) => ((fun r_ => (fun (r : Int) (o : List Int) => (r = k + f.data.length ∧ o.length = f.data.length ∧ MarkB f.data k o)) r_.1 r_.2))) x_.1 x_.2) x_ r_) (fun r_ => (fun (r : Int) (o : List Int) => ([rInt.to r])) r_.1 r_.2) (fun r_ => (fun (r : Int) (o : List Int) => ([⟨5, .u8, o, m0⟩])) r_.1 r_.2)
def V_laws_markFrmFrame : Env := ⟨tys, [], [], [(2, 0)], [], [], [], [(30, c_laws_markByteS)], []⟩
/-! laws.heldFrmFrame -/
def c_laws_heldFrmFrame : Ent := ctr (α := (Frm) × (Int)) (ρ := (Int)) [] [] (rs rFrm (rs1 rInt)) (fun x_ => (fun (f : Frm) (k : Int) => (f.data.length ≤ LIM ∧ 0 ≤ k ∧ k ≤ 1099511627776 ∧ f.data = markB f.data k)) x_.1 x_.2) (fun x_ r_ => (fun x_ => (fun (f : Frm) (k : Int) => ((fun r_ => (fun (r : Int) => (r = k + f.data.length)) r_))) x_.1 x_.2) x_ r_) (fun r_ => (fun (r : Int) => ([rInt.to r])) r_) (fun r_ => (fun (r : Int) => ([])) r_)
def V_laws_heldFrmFrame : Env := ⟨tys, [(49, c_laws_heldByteS)], [], [(2, 0)], [], [], [], [], []⟩
end Go.Proofs.YtdahhphhblbfdaaE

/- Calls answer what is promised: X3F. Conditions: none. -/
set_option linter.unusedVariables false
set_option maxHeartbeats 1600000
namespace Go.Proofs.YtdahhphhblbfdaaE
open Go
theorem vF_laws_toCfgOpts (c:Cfg) (K:List Arg→List (List AC)→Prop) (hp:True) (hk:∀ (r:Cfg),(r=c)→K ([rCfg.to r]) ([])):(true=true)∧(K [(Arg.v true [(AC.d (D.i IntKind.i64 c.mode)),(AC.d (D.i IntKind.i64 c.win)),(AC.d (D.i IntKind.i64 c.mps)),(AC.d (D.i IntKind.i64 c.mtu)),(AC.d (D.i IntKind.i64 c.try_))])] []) := by
  repeat' first
    | exact rfl
    | exact True.intro
    | with_reducible apply And.intro
    | (with_reducible intro y_ hy_; subst hy_)
    | with_reducible intro y_
    | (refine iteI (fun h => ?_) (fun h => ?_))
  all_goals try simp only [Bool.not_eq_true', decide_eq_false_iff_not, decide_eq_true_eq, Bool.not_eq_true, bne_iff_ne, beq_iff_eq, ne_eq, Decidable.not_not, Bool.not_eq_false, gt_iff_lt, ge_iff_le, Int.not_le, Int.not_lt, beq_eq_false_iff_ne, bne_eq_false_iff_eq, Bool.and_eq_true, Bool.or_eq_true, Bool.true_eq_false, Bool.false_eq_true] at *
  all_goals try simp (disch := first | omega | grind []) only [wr] at *
  all_goals first
    | assumption
    | omega
    | exact hk _ rfl
    | exact hk _ (by grind [])
    | (simp only [LIM] at *; omega)
    | grind [LIM]
theorem w_laws_toCfgOpts : Valid Try.prog 20 c_laws_toCfgOpts :=
  valid_ctr2 (V := V_laws_toCfgOpts) (tysB_ok tys_ok) ⟨(CallsL.nil _), (IosL.nil _)⟩ mixed 0 3 Try.func20 rfl (by kernel_rfl)
    (fun c hc => by
      obtain rfl := Option.some.inj hc
      exact ⟨trivial, ⟨trivial, ⟨trivial, ⟨trivial, ⟨trivial, ⟨trivial, ⟨trivial, ⟨trivial, trivial⟩⟩⟩⟩⟩⟩⟩⟩)
    (fun x K hp hk => ⟨_, by kernel_rfl, vF_laws_toCfgOpts x K hp (fun r h => hk r h)⟩)
theorem vF_laws_toFrmFrame (f:Frm) (K:List Arg→List (List AC)→Prop) (hp:f.data.length≤LIM) (hk:∀ (r:Frm),(r=f)→K ([dFrm r]) ([])):(true=true)∧(((List.length f.data)≤(137438953472:Nat))∧(∀ r:(List Int),(r=f.data)→(true=true)∧((true=true)∧(K [(Arg.v true [(AC.d (D.i IntKind.i64 f.kind)),(AC.d (D.i IntKind.i64 f.seq)),(AC.d (D.i IntKind.i64 f.ack)),(AC.d (D.b f.poll)),(AC.d (D.b f.final)),(AC.d (D.i IntKind.i64 f.say)),(AC.d (D.i IntKind.i64 f.seg)),(AC.d (D.i IntKind.i64 f.len)),(AC.own (RC.mk (5:Nat) RK.u8 r (RM.mk (dpM false (Option.none)) false (0:Nat) false)))])] [])))) := by
  repeat' first
    | exact rfl
    | exact True.intro
    | with_reducible apply And.intro
    | (with_reducible intro y_ hy_; subst hy_)
    | with_reducible intro y_
    | (refine iteI (fun h => ?_) (fun h => ?_))
  all_goals try simp only [Bool.not_eq_true', decide_eq_false_iff_not, decide_eq_true_eq, Bool.not_eq_true, bne_iff_ne, beq_iff_eq, ne_eq, Decidable.not_not, Bool.not_eq_false, gt_iff_lt, ge_iff_le, Int.not_le, Int.not_lt, beq_eq_false_iff_ne, bne_eq_false_iff_eq, Bool.and_eq_true, Bool.or_eq_true, Bool.true_eq_false, Bool.false_eq_true] at *
  all_goals try simp (disch := first | omega | grind []) only [wr] at *
  all_goals first
    | assumption
    | omega
    | exact hk _ rfl
    | exact hk _ (by grind [])
    | (simp only [LIM] at *; omega)
    | grind [LIM]
theorem w_laws_toFrmFrame : Valid Try.prog 35 c_laws_toFrmFrame :=
  valid_ctr2 (V := V_laws_toFrmFrame) (tysB_ok tys_ok) ⟨(CallsL.cons w_laws_toByteS (CallsL.nil _)), (IosL.nil _)⟩ mixed 1 3 Try.func35 rfl (by kernel_rfl)
    (fun c hc => by
      obtain rfl := Option.some.inj hc
      exact ⟨trivial, ⟨trivial, ⟨trivial, ⟨trivial, ⟨trivial, ⟨trivial, ⟨trivial, ⟨trivial, ⟨trivial, ⟨trivial, ⟨trivial, ⟨trivial, trivial⟩⟩⟩⟩⟩⟩⟩⟩⟩⟩⟩⟩)
    (fun x K hp hk => ⟨_, by kernel_rfl, vF_laws_toFrmFrame x K hp (fun r h => hk r h)⟩)
theorem vF_laws_eqFrmFrame (a:Frm) (b:Frm) (K:List Arg→List (List AC)→Prop) (hp:a.data.length≤LIM) (hk:∀ (r:Bool),(r=decide (a=b))→K ([rB.to r]) ([])):if ((a.kind != b.kind)=true) then ((true=true)∧(K [(aB false)] [])) else (if ((a.seq != b.seq)=true) then ((true=true)∧(K [(aB false)] [])) else (if ((a.ack != b.ack)=true) then ((true=true)∧(K [(aB false)] [])) else (if ((a.poll != b.poll)=true) then ((true=true)∧(K [(aB false)] [])) else (if ((a.final != b.final)=true) then ((true=true)∧(K [(aB false)] [])) else (if ((a.say != b.say)=true) then ((true=true)∧(K [(aB false)] [])) else (if ((a.seg != b.seg)=true) then ((true=true)∧(K [(aB false)] [])) else (if ((a.len != b.len)=true) then ((true=true)∧(K [(aB false)] [])) else ((true=true)∧((((List.length a.data)≤(137438953472:Nat))∧True)∧(∀ r:Bool,(r=(decide (a.data=b.data)))→(true=true)∧(if ((!r)=true) then ((true=true)∧(K [(aB false)] [])) else ((true=true)∧(K [(aB true)] []))))))))))))) := by
  obtain ⟨_, _, _, _, _, _, _, _, _⟩ := a
  obtain ⟨_, _, _, _, _, _, _, _, _⟩ := b

  repeat' first
    | exact rfl
    | exact True.intro
    | with_reducible apply And.intro
    | (with_reducible intro y_ hy_; subst hy_)
    | with_reducible intro y_
    | (refine iteI (fun h => ?_) (fun h => ?_))
  all_goals try simp only [Bool.not_eq_true', decide_eq_false_iff_not, decide_eq_true_eq, Bool.not_eq_true, bne_iff_ne, beq_iff_eq, ne_eq, Decidable.not_not, Bool.not_eq_false, gt_iff_lt, ge_iff_le, Int.not_le, Int.not_lt, beq_eq_false_iff_ne, bne_eq_false_iff_eq, Bool.and_eq_true, Bool.or_eq_true, Bool.true_eq_false, Bool.false_eq_true] at *
  all_goals try simp (disch := first | omega | grind []) only [wr] at *
  all_goals first
    | assumption
    | omega
    | exact hk _ (by grind [])
    | (simp only [LIM] at *; omega)
    | grind [LIM]
theorem w_laws_eqFrmFrame : Valid Try.prog 13 c_laws_eqFrmFrame :=
  valid_ctr2 (V := V_laws_eqFrmFrame) (tysB_ok tys_ok) ⟨(CallsL.cons w_laws_eqByteS (CallsL.nil _)), (IosL.nil _)⟩ mixed 0 2 Try.func13 rfl (by kernel_rfl)
    (fun c hc => by
      obtain rfl := Option.some.inj hc
      exact ⟨trivial, ⟨⟨trivial, ⟨⟨trivial, trivial⟩, trivial⟩⟩, ⟨⟨trivial, ⟨⟨trivial, trivial⟩, trivial⟩⟩, ⟨⟨trivial, ⟨⟨trivial, trivial⟩, trivial⟩⟩, ⟨⟨trivial, ⟨⟨trivial, trivial⟩, trivial⟩⟩, ⟨⟨trivial, ⟨⟨trivial, trivial⟩, trivial⟩⟩, ⟨⟨trivial, ⟨⟨trivial, trivial⟩, trivial⟩⟩, ⟨⟨trivial, ⟨⟨trivial, trivial⟩, trivial⟩⟩, ⟨⟨trivial, ⟨⟨trivial, trivial⟩, trivial⟩⟩, ⟨⟨trivial, ⟨⟨trivial, trivial⟩, trivial⟩⟩, ⟨trivial, trivial⟩⟩⟩⟩⟩⟩⟩⟩⟩⟩⟩)
    (fun x K hp hk => ⟨_, by kernel_rfl, vF_laws_eqFrmFrame x.1 x.2 K hp (fun r h => hk r h)⟩)
theorem vF_laws_szFrmFrame (f:Frm) (l:Int) (K:List Arg→List (List AC)→Prop) (hp:f.data.length≤maxLen∧0≤l∧l≤1048576) (hk:∀ (r:Int),((r=l - f.data.length∧0≤r)∨r=-1)→K ([rInt.to r]) ([])):(true=true)∧((((List.length f.data)≤(9223372036854775807:Nat))∧(((0:Int)≤l)∧(l≤(1048576:Int))))∧(∀ r:Int,(((r=(l - (((List.length f.data):Nat):Int)))∧((0:Int)≤r))∨((r=(-1:Int))∧(l < (((List.length f.data):Nat):Int))))→(true=true)∧(if ((decide (r < (0:Int)))=true) then ((true=true)∧(K [(aI IntKind.i64 (-1:Int))] [])) else ((true=true)∧(K [(aI IntKind.i64 r)] []))))) := by
  repeat' first
    | exact rfl
    | exact True.intro
    | with_reducible apply And.intro
    | (with_reducible intro y_ hy_; subst hy_)
    | with_reducible intro y_
    | (refine iteI (fun h => ?_) (fun h => ?_))
  all_goals try simp only [Bool.not_eq_true', decide_eq_false_iff_not, decide_eq_true_eq, Bool.not_eq_true, bne_iff_ne, beq_iff_eq, ne_eq, Decidable.not_not, Bool.not_eq_false, gt_iff_lt, ge_iff_le, Int.not_le, Int.not_lt, beq_eq_false_iff_ne, bne_eq_false_iff_eq, Bool.and_eq_true, Bool.or_eq_true, Bool.true_eq_false, Bool.false_eq_true] at *
  all_goals try simp (disch := first | omega | grind []) only [wr] at *
  all_goals first
    | assumption
    | omega
    | exact hp.1
    | exact hk _ (by grind [])
    | (simp only [LIM] at *; omega)
    | grind [LIM]
theorem w_laws_szFrmFrame : Valid Try.prog 33 c_laws_szFrmFrame :=
  valid_ctr2 (V := V_laws_szFrmFrame) (tysB_ok tys_ok) ⟨(CallsL.cons w_laws_szByteS (CallsL.nil _)), (IosL.nil _)⟩ mixed 0 1 Try.func33 rfl (by kernel_rfl)
    (fun c hc => by
      obtain rfl := Option.some.inj hc
      exact ⟨trivial, ⟨trivial, ⟨⟨trivial, ⟨⟨trivial, trivial⟩, trivial⟩⟩, ⟨trivial, trivial⟩⟩⟩⟩)
    (fun x K hp hk => ⟨_, by kernel_rfl, vF_laws_szFrmFrame x.1 x.2 K hp (fun r h => hk r h)⟩)
theorem vF_laws_markFrmFrame (f:Frm) (k:Int) (K:List Arg→List RC→Prop) (hp:f.data.length≤LIM∧0≤k∧k≤1099511627776) (hk:∀ (r:Int) (o:List Int),(r=k + f.data.length∧o.length=f.data.length∧MarkB f.data k o)→K ([rInt.to r]) ([⟨5,.u8,o,m0⟩])):(true=true)∧((((List.length f.data)≤(137438953472:Nat))∧(((0:Int)≤k)∧(k≤(1099511627776:Int))))∧(∀ r:(Prod Int (List Int)),((r.fst=(k + (((List.length f.data):Nat):Int)))∧((r.snd=(markB f.data k))∧(((List.length r.snd)=(List.length f.data))∧(MarkB f.data k r.snd))))→(true=true)∧(K [(aI IntKind.i64 r.fst)] [(RC.mk (5:Nat) RK.u8 r.snd (RM.mk (dpM false (Option.none)) false (0:Nat) false))]))) := by
  repeat' first
    | exact rfl
    | exact True.intro
    | with_reducible apply And.intro
    | (with_reducible intro y_ hy_; subst hy_)
    | with_reducible intro y_
    | (refine iteI (fun h => ?_) (fun h => ?_))
  all_goals try simp only [Bool.not_eq_true', decide_eq_false_iff_not, decide_eq_true_eq, Bool.not_eq_true, bne_iff_ne, beq_iff_eq, ne_eq, Decidable.not_not, Bool.not_eq_false, gt_iff_lt, ge_iff_le, Int.not_le, Int.not_lt, beq_eq_false_iff_ne, bne_eq_false_iff_eq, Bool.and_eq_true, Bool.or_eq_true, Bool.true_eq_false, Bool.false_eq_true] at *
  all_goals try simp (disch := first | omega | grind []) only [wr] at *
  all_goals first
    | assumption
    | omega
    | exact hk _ _ ⟨y_.1, y_.2.2⟩
    | exact hk _ (by grind [])
    | (simp only [LIM] at *; omega)
    | grind [LIM]
theorem w_laws_markFrmFrame : ValidI Try.prog 15 c_laws_markFrmFrame :=
  valid_ctrI (V := V_laws_markFrmFrame) (tysB_ok tys_ok) ⟨(CallsL.nil _), (IosL.cons w_laws_markByteS (IosL.nil _))⟩ mixed 0 1 Try.func15 rfl (by kernel_rfl)
    (fun c hc => by
      obtain rfl := Option.some.inj hc
      exact ⟨trivial, ⟨trivial, ⟨trivial, trivial⟩⟩⟩)
    (fun x K hp hk => ⟨_, by kernel_rfl, vF_laws_markFrmFrame x.1 x.2 K hp (fun r o h => hk (r, o) h)⟩)
theorem vF_laws_heldFrmFrame (f:Frm) (k:Int) (K:List Arg→List (List AC)→Prop) (hp:f.data.length≤LIM∧0≤k∧k≤1099511627776∧f.data=markB f.data k) (hk:∀ (r:Int),(r=k + f.data.length)→K ([rInt.to r]) ([])):(true=true)∧((((List.length f.data)≤(137438953472:Nat))∧(((0:Int)≤k)∧((k≤(1099511627776:Int))∧(f.data=(markB f.data k)))))∧(∀ r:Int,(r=(k + (((List.length f.data):Nat):Int)))→(true=true)∧(if ((decide (r < (0:Int)))=true) then ((true=true)∧(K [(aI IntKind.i64 (-1:Int))] [])) else ((true=true)∧(K [(aI IntKind.i64 r)] []))))) := by
  repeat' first
    | exact rfl
    | exact True.intro
    | with_reducible apply And.intro
    | (with_reducible intro y_ hy_; subst hy_)
    | with_reducible intro y_
    | (refine iteI (fun h => ?_) (fun h => ?_))
  all_goals try simp only [Bool.not_eq_true', decide_eq_false_iff_not, decide_eq_true_eq, Bool.not_eq_true, bne_iff_ne, beq_iff_eq, ne_eq, Decidable.not_not, Bool.not_eq_false, gt_iff_lt, ge_iff_le, Int.not_le, Int.not_lt, beq_eq_false_iff_ne, bne_eq_false_iff_eq, Bool.and_eq_true, Bool.or_eq_true, Bool.true_eq_false, Bool.false_eq_true] at *
  all_goals try simp (disch := first | omega | grind []) only [wr] at *
  all_goals first
    | assumption
    | omega
    | exact hp.2.2.2
    | exact hk _ (by grind [])
    | (simp only [LIM] at *; omega)
    | grind [LIM]
theorem w_laws_heldFrmFrame : Valid Try.prog 17 c_laws_heldFrmFrame :=
  valid_ctr2 (V := V_laws_heldFrmFrame) (tysB_ok tys_ok) ⟨(CallsL.cons w_laws_heldByteS (CallsL.nil _)), (IosL.nil _)⟩ mixed 0 1 Try.func17 rfl (by kernel_rfl)
    (fun c hc => by
      obtain rfl := Option.some.inj hc
      exact ⟨trivial, ⟨trivial, ⟨⟨trivial, ⟨⟨trivial, trivial⟩, trivial⟩⟩, ⟨trivial, trivial⟩⟩⟩⟩)
    (fun x K hp hk => ⟨_, by kernel_rfl, vF_laws_heldFrmFrame x.1 x.2 K hp (fun r h => hk r h)⟩)
end Go.Proofs.YtdahhphhblbfdaaE
