/- A part of the proof of laws of the program: what calls of the program answer. Conditions: none. -/
import Derived.Test.YtdahhphhblbfdaaMffb5c1d0
set_option linter.unusedVariables false
set_option linter.unusedSimpArgs false
set_option linter.unusedSectionVars false
/- Contracts: O. Conditions: none. -/
set_option linter.unusedVariables false
set_option maxHeartbeats 1600000
namespace Go.Proofs.YtdahhphhblbfdaaE
open Go
def CtP (c : Cfg) (t : CtS) : Prop := CfgP c ∧ (0 ≤ t.have_ ∧ t.have_ ≤ 255) ∧ (0 ≤ t.granted ∧ t.granted ≤ 9999) ∧ (0 ≤ t.sent ∧ t.sent ≤ 9999) ∧ t.have_ = t.granted - t.sent ∧ t.queue.length ≤ 24 ∧ PartsP c.mps t.queue
instance (c : Cfg) (t : CtS) : Decidable (CtP c t) := by unfold CtP; infer_instance
def zCt : CtS := ⟨0, [], 0, 0, false⟩
/-- Who sends for credits, its queue a row of one's own. -/
def oCt (t : CtS) : Arg := .v true [.d (.i .i64 t.have_), .own ⟨93, .part, t.queue, m0⟩, .d (.i .i64 t.granted), .d (.i .i64 t.sent), .d (.b t.dead)]
structure CtPutR where
  t : CtS
  ok : Bool
def crdPut (c : Cfg) (t : CtS) (s : List Int) : CtPutR :=
  if CtP c t then (if t.dead = true ∨ (s.length : Int) > c.mtu ∨ 24 < t.queue.length + (segCut s c.mps).length then ⟨t, false⟩ else ⟨{ t with queue := t.queue ++ segCut s c.mps }, true⟩) else ⟨zCt, false⟩
structure CtSendR where
  t : CtS
  f : Frm
  ok : Bool
def pieceF (p : Part) : Frm := ⟨3, 0, 0, false, false, 0, p.seg, p.len, p.data⟩
def crdSend (c : Cfg) (t : CtS) : CtSendR :=
  if CtP c t then (if t.dead = true ∨ t.have_ = 0 ∨ t.queue.length = 0 ∨ t.sent = 9999 then ⟨t, zFrm, false⟩ else ⟨⟨t.have_ - 1, t.queue.drop 1, t.granted, t.sent + 1, t.dead⟩, pieceF (at_part t.queue 0), true⟩) else ⟨zCt, zFrm, false⟩
def crdTake (c : Cfg) (t : CtS) (n : Int) : CtS :=
  if CtP c t ∧ 1 ≤ n ∧ n ≤ 255 then (if t.dead = true then t else if t.have_ + n > 255 ∨ t.granted + n > 9999 then { t with dead := true } else ⟨t.have_ + n, t.queue, t.granted + n, t.sent, t.dead⟩) else zCt
theorem CtP.len {c : Cfg} {t : CtS} (h : CtP c t) : t.queue.length ≤ 24 := h.2.2.2.2.2.1
theorem PartsP.data {m : Int} {l : List Part} (h : PartsP m l) : ∀ p ∈ l, p.data.length ≤ 24 := fun p hp => by
  have := (h p hp).1
  unfold PartP SegP at this
  omega
theorem CtP.data {c : Cfg} {t : CtS} (h : CtP c t) : ∀ p ∈ t.queue, p.data.length ≤ 137438953472 := fun p hp => by
  have := h.2.2.2.2.2.2.data p hp
  omega
theorem drop1 (l : List Part) : List.take (((l.length : Nat) : Int).toNat - 1) (List.drop 1 l) = List.drop 1 l := by
  rw [Int.toNat_natCast]
  exact List.take_of_length_le (by rw [List.length_drop]; omega)
theorem at0_mem {l : List Part} (h : ¬ l.length = 0) : at_part l 0 ∈ l := at_mem .part l 0 (show 0 < l.length by omega)

/-! impl.CrdTxOk -/
def c_impl_CrdTxOk : Ent := ctr (α := (Cfg) × (CtS)) (ρ := (Bool)) [] [] (rs rCfg (rs1 rCt)) (fun x_ => (fun (c : Cfg) (t : CtS) => (True)) x_.1 x_.2) (fun x_ r_ => (fun x_ => (fun (c : Cfg) (t : CtS) => ((fun r_ => (fun (r : Bool) => (r = decide (CtP c t))) r_))) x_.1 x_.2) x_ r_) (fun r_ => (fun (r : Bool) => ([rB.to r])) r_) (fun r_ => (fun (r : Bool) => ([])) r_)
def V_impl_CrdTxOk : Env := ⟨tys, [(56, c_impl_in), (71, c_impl_CfgOk), (79, c_impl_CfgOpts_partsOk)], [], [(2, 0), (3, 1)], [], [], [500007, 500012, 500017, 500022, 500032, 500038], [], []⟩
/-! spec.CrdTxOk -/
def c_spec_CrdTxOk : Ent := ctr (α := (Cfg) × (CtS)) (ρ := (Bool)) [] [] (rs rCfg (rs1 rCt)) (fun x_ => (fun (c : Cfg) (t : CtS) => (True)) x_.1 x_.2) (fun x_ r_ => (fun x_ => (fun (c : Cfg) (t : CtS) => ((fun r_ => (fun (r : Bool) => (r = decide (CtP c t))) r_))) x_.1 x_.2) x_ r_) (fun r_ => (fun (r : Bool) => ([rB.to r])) r_) (fun r_ => (fun (r : Bool) => ([])) r_)
def V_spec_CrdTxOk : Env := ⟨tys, [(52, c_spec_l1In), (67, c_spec_CfgOk), (77, c_spec_l6Parts)], [], [(2, 0), (3, 1)], [], [], [500007, 500012, 500018, 500023, 500028, 500038], [], []⟩
/-! (impl.CrdTx).copyOf -/
def c_impl_CrdTx_copyOf : Ent := ctr (α := (CtS)) (ρ := (CtS)) [] [(0, 1)] (rs1 rCt) (fun x_ => (fun (t : CtS) => (t.queue.length ≤ 1000 ∧ ∀ p ∈ t.queue, p.data.length ≤ LIM)) x_) (fun x_ r_ => (fun x_ => (fun (t : CtS) => ((fun r_ => (fun (x : CtS) => (x = t)) r_))) x_) x_ r_) (fun r_ => (fun (x : CtS) => ([oCt x])) r_) (fun r_ => (fun (x : CtS) => ([])) r_)
def V_impl_CrdTx_copyOf : Env := ⟨tys, [(80, c_impl_copyParts)], [(5, [0])], [(1, 0), (2, 1)], [], [], [], [], []⟩
/-! spec.l8Tx -/
def c_spec_l8Tx : Ent := ctr (α := (CtS)) (ρ := (CtS)) [] [(0, 1)] (rs1 rCt) (fun x_ => (fun (t : CtS) => (t.queue.length ≤ 1000 ∧ ∀ p ∈ t.queue, p.data.length ≤ LIM)) x_) (fun x_ r_ => (fun x_ => (fun (t : CtS) => ((fun r_ => (fun (x : CtS) => (x = t)) r_))) x_) x_ r_) (fun r_ => (fun (x : CtS) => ([oCt x])) r_) (fun r_ => (fun (x : CtS) => ([])) r_)
def V_spec_l8Tx : Env := ⟨tys, [(64, c_spec_l6List)], [(7, [0])], [(1, 0), (2, 1), (3, 2)], [], [], [], [], []⟩
/-! impl.CrdPut -/
def c_impl_CrdPut : Ent := ctr (α := (Cfg) × (CtS) × (List Int)) (ρ := (CtPutR)) [] [(0, 1)] (rs rCfg (rs rCt (rs1 rBytes))) (fun x_ => (fun (c : Cfg) (t : CtS) (s : List Int) => (s.length ≤ 1000)) x_.1 x_.2.1 x_.2.2) (fun x_ r_ => (fun x_ => (fun (c : Cfg) (t : CtS) (s : List Int) => ((fun r_ => (fun (q : CtPutR) => (q = crdPut c t s)) r_))) x_.1 x_.2.1 x_.2.2) x_ r_) (fun r_ => (fun (q : CtPutR) => ([oCt q.t, rB.to q.ok])) r_) (fun r_ => (fun (q : CtPutR) => ([])) r_)
def V_impl_CrdPut : Env := ⟨tys, [(55, c_impl_CrdTxOk), (57, c_impl_CrdTx_copyOf), (62, c_impl_SegCut), (63, c_impl_clone_impl_SegPart)], [(14, [0]), (16, [0]), (43, [1])], [(3, 0), (4, 1), (6, 2), (8, 3)], [], [], [500019], [], []⟩
/-! spec.CrdPut -/
def c_spec_CrdPut : Ent := ctr (α := (Cfg) × (CtS) × (List Int)) (ρ := (CtPutR)) [] [(0, 1)] (rs rCfg (rs rCt (rs1 rBytes))) (fun x_ => (fun (c : Cfg) (t : CtS) (s : List Int) => (s.length ≤ 1000)) x_.1 x_.2.1 x_.2.2) (fun x_ r_ => (fun x_ => (fun (c : Cfg) (t : CtS) (s : List Int) => ((fun r_ => (fun (q : CtPutR) => (q = crdPut c t s)) r_))) x_.1 x_.2.1 x_.2.2) x_ r_) (fun r_ => (fun (q : CtPutR) => ([oCt q.t, rB.to q.ok])) r_) (fun r_ => (fun (q : CtPutR) => ([])) r_)
def V_spec_CrdPut : Env := ⟨tys, [(51, c_spec_CrdTxOk), (53, c_spec_l8Tx), (61, c_spec_SegCut)], [(14, [0]), (16, [0]), (46, [1])], [(3, 0), (4, 1), (6, 2), (8, 3)], [], [], [500023, 500030], [], []⟩
/-! impl.CrdSend -/
def c_impl_CrdSend : Ent := ctr (α := (Cfg) × (CtS)) (ρ := (CtSendR)) [] [(0, 1)] (rs rCfg (rs1 rCt)) (fun x_ => (fun (c : Cfg) (t : CtS) => (True)) x_.1 x_.2) (fun x_ r_ => (fun x_ => (fun (c : Cfg) (t : CtS) => ((fun r_ => (fun (q : CtSendR) => (q = crdSend c t)) r_))) x_.1 x_.2) x_ r_) (fun r_ => (fun (q : CtSendR) => ([oCt q.t, rFrm.to q.f, rB.to q.ok])) r_) (fun r_ => (fun (q : CtSendR) => ([])) r_)
def V_impl_CrdSend : Env := ⟨tys, [(55, c_impl_CrdTxOk), (57, c_impl_CrdTx_copyOf), (63, c_impl_clone_impl_SegPart), (65, c_impl_clone_byte)], [(13, [0]), (16, [0]), (44, [1])], [(2, 0), (3, 1), (4, 2), (5, 3), (7, 4), (8, 5)], [(10, ([2, 3], []))], [], [43, 500019, 500024, 500030], [], [(10, [(0, false), (1, false), (2, false), (3, false), (4, false), (5, false), (6, false), (7, true), (8, false), (9, true), (10, true), (11, false)])]⟩
/-! spec.CrdSend -/
def c_spec_CrdSend : Ent := ctr (α := (Cfg) × (CtS)) (ρ := (CtSendR)) [] [(0, 1)] (rs rCfg (rs1 rCt)) (fun x_ => (fun (c : Cfg) (t : CtS) => (True)) x_.1 x_.2) (fun x_ r_ => (fun x_ => (fun (c : Cfg) (t : CtS) => ((fun r_ => (fun (q : CtSendR) => (q = crdSend c t)) r_))) x_.1 x_.2) x_ r_) (fun r_ => (fun (q : CtSendR) => ([oCt q.t, rFrm.to q.f, rB.to q.ok])) r_) (fun r_ => (fun (q : CtSendR) => ([])) r_)
def V_spec_CrdSend : Env := ⟨tys, [(51, c_spec_CrdTxOk), (53, c_spec_l8Tx), (64, c_spec_l6List)], [(13, [0]), (16, [0]), (44, [1]), (59, [2])], [(2, 0), (3, 1), (4, 2), (5, 3), (7, 4), (8, 5)], [(10, ([2, 3], [2]))], [], [43, 62, 500019, 500024, 500030], [], [(10, [(0, false), (1, false), (2, false), (3, false), (4, false), (6, false), (7, false), (5, true), (8, true), (9, false), (10, true), (11, true), (12, false)])]⟩
/-! impl.CrdTake -/
def c_impl_CrdTake : Ent := ctr (α := (Cfg) × (CtS) × (Int)) (ρ := (CtS)) [] [(0, 1)] (rs rCfg (rs rCt (rs1 rInt))) (fun x_ => (fun (c : Cfg) (t : CtS) (n : Int) => (True)) x_.1 x_.2.1 x_.2.2) (fun x_ r_ => (fun x_ => (fun (c : Cfg) (t : CtS) (n : Int) => ((fun r_ => (fun (q : CtS) => (q = crdTake c t n)) r_))) x_.1 x_.2.1 x_.2.2) x_ r_) (fun r_ => (fun (q : CtS) => ([oCt q])) r_) (fun r_ => (fun (q : CtS) => ([])) r_)
def V_impl_CrdTake : Env := ⟨tys, [(55, c_impl_CrdTxOk), (56, c_impl_in), (57, c_impl_CrdTx_copyOf)], [(17, [0]), (19, [0])], [(3, 0), (4, 1), (6, 2), (7, 3)], [], [], [500012, 500039], [], []⟩
/-! spec.CrdTake -/
def c_spec_CrdTake : Ent := ctr (α := (Cfg) × (CtS) × (Int)) (ρ := (CtS)) [] [(0, 1)] (rs rCfg (rs rCt (rs1 rInt))) (fun x_ => (fun (c : Cfg) (t : CtS) (n : Int) => (True)) x_.1 x_.2.1 x_.2.2) (fun x_ r_ => (fun x_ => (fun (c : Cfg) (t : CtS) (n : Int) => ((fun r_ => (fun (q : CtS) => (q = crdTake c t n)) r_))) x_.1 x_.2.1 x_.2.2) x_ r_) (fun r_ => (fun (q : CtS) => ([oCt q])) r_) (fun r_ => (fun (q : CtS) => ([])) r_)
def V_spec_CrdTake : Env := ⟨tys, [(51, c_spec_CrdTxOk), (52, c_spec_l1In), (53, c_spec_l8Tx)], [(17, [0]), (19, [0])], [(3, 0), (4, 1), (6, 2), (7, 3)], [], [], [500012, 500028], [], []⟩
end Go.Proofs.YtdahhphhblbfdaaE

/- Calls answer what is promised: O. Conditions: none. -/
set_option linter.unusedVariables false
set_option maxHeartbeats 1600000
namespace Go.Proofs.YtdahhphhblbfdaaE
open Go
theorem vF_impl_CrdTxOk (c:Cfg) (t:CtS) (K:List Arg→List (List AC)→Prop) (hp:True) (hk:∀ (r:Bool),(r=decide (CtP c t))→K ([rB.to r]) ([])):(true=true)∧(True∧(∀ r:Bool,(r=(decide (CfgP c)))→(true=true)∧(if (r=true) then ((true=true)∧(True∧(∀ r1:Bool,(r1=(decide (((0:Int)≤t.have_)∧(t.have_≤(255:Int)))))→(true=true)∧(if (r1=true) then ((true=true)∧(True∧(∀ r2:Bool,(r2=(decide (((0:Int)≤t.granted)∧(t.granted≤(9999:Int)))))→(true=true)∧(if (r2=true) then ((true=true)∧(True∧(∀ r3:Bool,(r3=(decide (((0:Int)≤t.sent)∧(t.sent≤(9999:Int)))))→(true=true)∧(if (r3=true) then (if ((t.have_ == (IntKind.wrap IntKind.i64 (t.granted - t.sent)))=true) then (if ((decide ((((List.length t.queue):Nat):Int)≤(24:Int)))=true) then ((true=true)∧(((List.length t.queue)≤(1000:Nat))∧(∀ r4:Bool,(r4=(decide (PartsP c.mps t.queue)))→(true=true)∧((true=true)∧(K [(aB r4)] []))))) else ((true=true)∧(K [(aB false)] []))) else ((true=true)∧(K [(aB false)] []))) else ((true=true)∧(K [(aB false)] [])))))) else ((true=true)∧(K [(aB false)] [])))))) else ((true=true)∧(K [(aB false)] [])))))) else ((true=true)∧(K [(aB false)] []))))) := by
  repeat' first
    | exact rfl
    | exact True.intro
    | with_reducible apply And.intro
    | (with_reducible intro y_ hy_; subst hy_)
    | with_reducible intro y_
    | (refine iteI (fun h => ?_) (fun h => ?_))
  all_goals try simp only [Bool.not_eq_true', decide_eq_false_iff_not, decide_eq_true_eq, Bool.not_eq_true, bne_iff_ne, beq_iff_eq, ne_eq, Decidable.not_not, Bool.not_eq_false, gt_iff_lt, ge_iff_le, Int.not_le, Int.not_lt, beq_eq_false_iff_ne, bne_eq_false_iff_eq, Bool.and_eq_true, Bool.or_eq_true, Bool.true_eq_false, Bool.false_eq_true] at *
  all_goals try simp (disch := first | omega | grind [CtP]) only [wr] at *
  all_goals first
    | assumption
    | omega
    | exact hk _ (by simp only [CtP, eq_comm (a := t.have_)]; grind)
    | exact hk _ (by grind [CtP])
    | (simp only [LIM] at *; omega)
    | grind [CtP, LIM]
theorem w_impl_CrdTxOk : Valid Try.prog 55 c_impl_CrdTxOk :=
  valid_ctr2 (V := V_impl_CrdTxOk) (tysB_ok tys_ok) ⟨(CallsL.cons w_impl_in (CallsL.cons w_impl_CfgOk (CallsL.cons w_impl_CfgOpts_partsOk (CallsL.nil _)))), (IosL.nil _)⟩ mixed 0 2 Try.func55 rfl (by kernel_rfl)
    (fun c hc => by
      obtain rfl := Option.some.inj hc
      exact ⟨trivial, ⟨trivial, trivial⟩⟩)
    (fun x K hp hk => ⟨_, by kernel_rfl, vF_impl_CrdTxOk x.1 x.2 K hp (fun r h => hk r h)⟩)
theorem vF_spec_CrdTxOk (c:Cfg) (t:CtS) (K:List Arg→List (List AC)→Prop) (hp:True) (hk:∀ (r:Bool),(r=decide (CtP c t))→K ([rB.to r]) ([])):(true=true)∧(True∧(∀ r:Bool,(r=(decide (CfgP c)))→(true=true)∧(if (r=true) then ((true=true)∧(True∧(∀ r1:Bool,(r1=(decide (((0:Int)≤t.have_)∧(t.have_≤(255:Int)))))→(true=true)∧(if (r1=true) then (if ((decide ((((List.length t.queue):Nat):Int)≤(24:Int)))=true) then ((true=true)∧(True∧(∀ r2:Bool,(r2=(decide (((0:Int)≤t.granted)∧(t.granted≤(9999:Int)))))→(true=true)∧(if (r2=true) then ((true=true)∧(True∧(∀ r3:Bool,(r3=(decide (((0:Int)≤t.sent)∧(t.sent≤(9999:Int)))))→(true=true)∧(if (r3=true) then (if (((IntKind.wrap IntKind.i64 (t.granted - t.sent)) == t.have_)=true) then ((true=true)∧(((List.length t.queue)≤(1000:Nat))∧(∀ r4:Bool,(r4=(decide (PartsP c.mps t.queue)))→(true=true)∧((true=true)∧(K [(aB r4)] []))))) else ((true=true)∧(K [(aB false)] []))) else ((true=true)∧(K [(aB false)] [])))))) else ((true=true)∧(K [(aB false)] [])))))) else ((true=true)∧(K [(aB false)] []))) else ((true=true)∧(K [(aB false)] [])))))) else ((true=true)∧(K [(aB false)] []))))) := by
  repeat' first
    | exact rfl
    | exact True.intro
    | with_reducible apply And.intro
    | (with_reducible intro y_ hy_; subst hy_)
    | with_reducible intro y_
    | (refine iteI (fun h => ?_) (fun h => ?_))
  all_goals try simp only [Bool.not_eq_true', decide_eq_false_iff_not, decide_eq_true_eq, Bool.not_eq_true, bne_iff_ne, beq_iff_eq, ne_eq, Decidable.not_not, Bool.not_eq_false, gt_iff_lt, ge_iff_le, Int.not_le, Int.not_lt, beq_eq_false_iff_ne, bne_eq_false_iff_eq, Bool.and_eq_true, Bool.or_eq_true, Bool.true_eq_false, Bool.false_eq_true] at *
  all_goals try simp (disch := first | omega | grind [CtP]) only [wr] at *
  all_goals first
    | assumption
    | omega
    | exact hk _ (by simp only [CtP, eq_comm (a := t.have_)]; grind)
    | exact hk _ (by grind [CtP])
    | (simp only [LIM] at *; omega)
    | grind [CtP, LIM]
theorem w_spec_CrdTxOk : Valid Try.prog 51 c_spec_CrdTxOk :=
  valid_ctr2 (V := V_spec_CrdTxOk) (tysB_ok tys_ok) ⟨(CallsL.cons w_spec_l1In (CallsL.cons w_spec_CfgOk (CallsL.cons w_spec_l6Parts (CallsL.nil _)))), (IosL.nil _)⟩ mixed 0 2 Try.func51 rfl (by kernel_rfl)
    (fun c hc => by
      obtain rfl := Option.some.inj hc
      exact ⟨trivial, ⟨trivial, trivial⟩⟩)
    (fun x K hp hk => ⟨_, by kernel_rfl, vF_spec_CrdTxOk x.1 x.2 K hp (fun r h => hk r h)⟩)
theorem vF_impl_CrdTx_copyOf (t:CtS) (K:List Arg→List (List AC)→Prop) (hp:t.queue.length≤1000∧∀ p ∈ t.queue,p.data.length≤LIM) (hk:∀ (x:CtS),(x=t)→K ([oCt x]) ([])):(true=true)∧((((List.length t.queue)≤(1000:Nat))∧(∀ p:Part,(List.Mem p t.queue)→((List.length p.data)≤(137438953472:Nat))))∧(∀ r:(List Part),(r=t.queue)→(true=true)∧((true=true)∧(K [(Arg.v true [(AC.d (D.i IntKind.i64 t.have_)),(AC.own (RC.mk (93:Nat) RK.part r (RM.mk (dpM false (Option.none)) false (0:Nat) false))),(AC.d (D.i IntKind.i64 t.granted)),(AC.d (D.i IntKind.i64 t.sent)),(AC.d (D.b t.dead))])] [])))) := by
  repeat' first
    | exact rfl
    | exact True.intro
    | with_reducible apply And.intro
    | (with_reducible intro y_ hy_; subst hy_)
    | with_reducible intro y_
    | (refine iteI (fun h => ?_) (fun h => ?_))
  all_goals try simp only [Bool.not_eq_true', decide_eq_false_iff_not, decide_eq_true_eq, Bool.not_eq_true, bne_iff_ne, beq_iff_eq, ne_eq, Decidable.not_not, Bool.not_eq_false, gt_iff_lt, ge_iff_le, Int.not_le, Int.not_lt, beq_eq_false_iff_ne, bne_eq_false_iff_eq, Bool.and_eq_true, Bool.or_eq_true, Bool.true_eq_false, Bool.false_eq_true] at *
  all_goals try simp (disch := first | omega | grind []) only [wr] at *
  all_goals first
    | assumption
    | omega
    | exact hk _ rfl
    | exact hp.2 _ ‹List.Mem _ _›
    | exact hk _ (by grind [])
    | (simp only [LIM] at *; omega)
    | grind [LIM]
theorem w_impl_CrdTx_copyOf : Valid Try.prog 57 c_impl_CrdTx_copyOf :=
  valid_ctr2 (V := V_impl_CrdTx_copyOf) (tysB_ok tys_ok) ⟨(CallsL.cons w_impl_copyParts (CallsL.nil _)), (IosL.nil _)⟩ mixed 1 2 Try.func57 rfl (by kernel_rfl)
    (fun c hc => by
      obtain rfl := Option.some.inj hc
      exact ⟨trivial, ⟨trivial, ⟨trivial, trivial⟩⟩⟩)
    (fun x K hp hk => ⟨_, by kernel_rfl, vF_impl_CrdTx_copyOf x K hp (fun x h => hk x h)⟩)
theorem vF_spec_l8Tx (t:CtS) (K:List Arg→List (List AC)→Prop) (hp:t.queue.length≤1000∧∀ p ∈ t.queue,p.data.length≤LIM) (hk:∀ (x:CtS),(x=t)→K ([oCt x]) ([])):(true=true)∧((((List.length t.queue)≤(1000:Nat))∧(∀ p:Part,(List.Mem p t.queue)→((List.length p.data)≤(137438953472:Nat))))∧(∀ r:(List Part),(r=t.queue)→(true=true)∧((true=true)∧(K [(Arg.v true [(AC.d (D.i IntKind.i64 t.have_)),(AC.own (RC.mk (93:Nat) RK.part r (RM.mk (dpM false (Option.none)) false (0:Nat) false))),(AC.d (D.i IntKind.i64 t.granted)),(AC.d (D.i IntKind.i64 t.sent)),(AC.d (D.b t.dead))])] [])))) := by
  repeat' first
    | exact rfl
    | exact True.intro
    | with_reducible apply And.intro
    | (with_reducible intro y_ hy_; subst hy_)
    | with_reducible intro y_
    | (refine iteI (fun h => ?_) (fun h => ?_))
  all_goals try simp only [Bool.not_eq_true', decide_eq_false_iff_not, decide_eq_true_eq, Bool.not_eq_true, bne_iff_ne, beq_iff_eq, ne_eq, Decidable.not_not, Bool.not_eq_false, gt_iff_lt, ge_iff_le, Int.not_le, Int.not_lt, beq_eq_false_iff_ne, bne_eq_false_iff_eq, Bool.and_eq_true, Bool.or_eq_true, Bool.true_eq_false, Bool.false_eq_true] at *
  all_goals try simp (disch := first | omega | grind []) only [wr] at *
  all_goals first
    | assumption
    | omega
    | exact hk _ rfl
    | exact hp.2 _ ‹List.Mem _ _›
    | exact hk _ (by grind [])
    | (simp only [LIM] at *; omega)
    | grind [LIM]
theorem w_spec_l8Tx : Valid Try.prog 53 c_spec_l8Tx :=
  valid_ctr2 (V := V_spec_l8Tx) (tysB_ok tys_ok) ⟨(CallsL.cons w_spec_l6List (CallsL.nil _)), (IosL.nil _)⟩ mixed 1 3 Try.func53 rfl (by kernel_rfl)
    (fun c hc => by
      obtain rfl := Option.some.inj hc
      exact ⟨trivial, ⟨trivial, ⟨trivial, ⟨trivial, trivial⟩⟩⟩⟩)
    (fun x K hp hk => ⟨_, by kernel_rfl, vF_spec_l8Tx x K hp (fun x h => hk x h)⟩)
theorem vF_impl_CrdPut (c:Cfg) (t:CtS) (s:List Int) (K:List Arg→List (List AC)→Prop) (hp:s.length≤1000) (hk:∀ (q:CtPutR),(q=crdPut c t s)→K ([oCt q.t,rB.to q.ok]) ([])):(true=true)∧(True∧(∀ r:Bool,(r=(decide (CtP c t)))→(true=true)∧(if ((!r)=true) then ((true=true)∧(K [(Arg.v true [(AC.d (D.i IntKind.i64 (0:Int))),(AC.own (RC.mk (93:Nat) RK.part ([]:(List Part)) (RM.mk (dpM false (Option.none)) false (0:Nat) false))),(AC.d (D.i IntKind.i64 (0:Int))),(AC.d (D.i IntKind.i64 (0:Int))),(AC.d (D.b false))]),(aB false)] [])) else ((true=true)∧((((List.length t.queue)≤(1000:Nat))∧(∀ p:Part,(List.Mem p t.queue)→((List.length p.data)≤(137438953472:Nat))))∧(∀ r1:CtS,(r1=t)→(true=true)∧(if (t.dead=true) then ((true=true)∧(K [(Arg.v true [(AC.d (D.i IntKind.i64 r1.have_)),(AC.own (RC.mk (93:Nat) RK.part r1.queue (RM.mk (dpM false (Option.none)) false (0:Nat) false))),(AC.d (D.i IntKind.i64 r1.granted)),(AC.d (D.i IntKind.i64 r1.sent)),(AC.d (D.b r1.dead))]),(aB false)] [])) else (if ((decide ((((List.length s):Nat):Int) > c.mtu))=true) then ((true=true)∧(K [(Arg.v true [(AC.d (D.i IntKind.i64 r1.have_)),(AC.own (RC.mk (93:Nat) RK.part r1.queue (RM.mk (dpM false (Option.none)) false (0:Nat) false))),(AC.d (D.i IntKind.i64 r1.granted)),(AC.d (D.i IntKind.i64 r1.sent)),(AC.d (D.b r1.dead))]),(aB false)] [])) else ((true=true)∧(((List.length s)≤(1000:Nat))∧(∀ r2:(List Part),(r2=(segCut s c.mps))→(true=true)∧(if ((decide ((IntKind.wrap IntKind.i64 ((((List.length t.queue):Nat):Int) + (((List.length r2):Nat):Int))) > (24:Int)))=true) then ((true=true)∧(K [(Arg.v true [(AC.d (D.i IntKind.i64 r1.have_)),(AC.own (RC.mk (93:Nat) RK.part r1.queue (RM.mk (dpM false (Option.none)) false (0:Nat) false))),(AC.d (D.i IntKind.i64 r1.granted)),(AC.d (D.i IntKind.i64 r1.sent)),(AC.d (D.b r1.dead))]),(aB false)] [])) else ((((List.length r1.queue) + (List.length r2))≤(137438953472:Nat))∧((true=true)∧(((List.length (r1.queue ++ r2:(List Part)))≤(137438953472:Nat))∧(∀ r3:(List Part),(r3=(r1.queue ++ r2:(List Part)))→(true=true)∧((true=true)∧(K [(Arg.v true [(AC.d (D.i IntKind.i64 r1.have_)),(AC.own (RC.mk (93:Nat) RK.part r3 (RM.mk (dpM false (Option.none)) false (0:Nat) false))),(AC.d (D.i IntKind.i64 r1.granted)),(AC.d (D.i IntKind.i64 r1.sent)),(AC.d (D.b r1.dead))]),(aB true)] [])))))))))))))))))) := by
  repeat' first
    | exact rfl
    | exact True.intro
    | with_reducible apply And.intro
    | (with_reducible intro y_ hy_; subst hy_)
    | with_reducible intro y_
    | (refine iteI (fun h => ?_) (fun h => ?_))
  all_goals try simp only [Bool.not_eq_true', decide_eq_false_iff_not, decide_eq_true_eq, Bool.not_eq_true, bne_iff_ne, beq_iff_eq, ne_eq, Decidable.not_not, Bool.not_eq_false, gt_iff_lt, ge_iff_le, Int.not_le, Int.not_lt, beq_eq_false_iff_ne, bne_eq_false_iff_eq, Bool.and_eq_true, Bool.or_eq_true, Bool.true_eq_false, Bool.false_eq_true] at *
  all_goals try simp (disch := first | omega | grind [CtP]) only [wr] at *
  all_goals try have h7 := CtP.len ‹CtP _ _›
  all_goals try have h8 := segCut_len s c.mps
  all_goals try simp (disch := omega) only [wr] at *
  all_goals first
    | assumption
    | omega
    | exact CtP.data ‹CtP _ _› _ ‹List.Mem _ _›
    | (rcases List.mem_append.1 (show _ ∈ _ ++ _ from ‹List.Mem _ _›) with h9 | h9
       · exact CtP.data ‹CtP _ _› _ h9
       · exact Nat.le_trans (segCut_data _ _ _ h9) (by decide))
    | (rw [List.length_append]; omega)
    | (have h := hk _ rfl
       unfold crdPut at h
       try dsimp only at h
       first
       | exact h
       | (repeat' split at h
          all_goals first | exact h | (exfalso; grind [CtP]) | (exfalso; simp at *; omega)))
    | exact hk _ (by grind [CtP])
    | (simp only [LIM] at *; omega)
    | grind [CtP, LIM]
theorem w_impl_CrdPut : Valid Try.prog 28 c_impl_CrdPut :=
  valid_ctr2 (V := V_impl_CrdPut) (tysB_ok tys_ok) ⟨(CallsL.cons w_impl_CrdTxOk (CallsL.cons w_impl_CrdTx_copyOf (CallsL.cons w_impl_SegCut (CallsL.cons w_impl_clone_impl_SegPart (CallsL.nil _))))), (IosL.nil _)⟩ mixed 2 4 Try.func28 rfl (by kernel_rfl)
    (fun c hc => by
      obtain rfl := Option.some.inj hc
      exact ⟨trivial, ⟨⟨trivial, ⟨⟨trivial, trivial⟩, trivial⟩⟩, ⟨trivial, ⟨⟨trivial, ⟨⟨trivial, trivial⟩, trivial⟩⟩, ⟨trivial, ⟨⟨trivial, ⟨⟨trivial, trivial⟩, trivial⟩⟩, ⟨trivial, ⟨trivial, trivial⟩⟩⟩⟩⟩⟩⟩⟩)
    (fun x K hp hk => ⟨_, by kernel_rfl, vF_impl_CrdPut x.1 x.2.1 x.2.2 K hp (fun q h => hk q h)⟩)
theorem vF_spec_CrdPut (c:Cfg) (t:CtS) (s:List Int) (K:List Arg→List (List AC)→Prop) (hp:s.length≤1000) (hk:∀ (q:CtPutR),(q=crdPut c t s)→K ([oCt q.t,rB.to q.ok]) ([])):(true=true)∧(True∧(∀ r:Bool,(r=(decide (CtP c t)))→(true=true)∧(if ((!r)=true) then ((true=true)∧(K [(Arg.v true [(AC.d (D.i IntKind.i64 (0:Int))),(AC.own (RC.mk (93:Nat) RK.part ([]:(List Part)) (RM.mk (dpM false (Option.none)) false (0:Nat) false))),(AC.d (D.i IntKind.i64 (0:Int))),(AC.d (D.i IntKind.i64 (0:Int))),(AC.d (D.b false))]),(aB false)] [])) else ((true=true)∧((((List.length t.queue)≤(1000:Nat))∧(∀ p:Part,(List.Mem p t.queue)→((List.length p.data)≤(137438953472:Nat))))∧(∀ r1:CtS,(r1=t)→(true=true)∧((true=true)∧(((List.length s)≤(1000:Nat))∧(∀ r2:(List Part),(r2=(segCut s c.mps))→(true=true)∧(if (t.dead=true) then ((true=true)∧(K [(Arg.v true [(AC.d (D.i IntKind.i64 r1.have_)),(AC.own (RC.mk (93:Nat) RK.part r1.queue (RM.mk (dpM false (Option.none)) false (0:Nat) false))),(AC.d (D.i IntKind.i64 r1.granted)),(AC.d (D.i IntKind.i64 r1.sent)),(AC.d (D.b r1.dead))]),(aB false)] [])) else (if ((decide ((((List.length s):Nat):Int) > c.mtu))=true) then ((true=true)∧(K [(Arg.v true [(AC.d (D.i IntKind.i64 r1.have_)),(AC.own (RC.mk (93:Nat) RK.part r1.queue (RM.mk (dpM false (Option.none)) false (0:Nat) false))),(AC.d (D.i IntKind.i64 r1.granted)),(AC.d (D.i IntKind.i64 r1.sent)),(AC.d (D.b r1.dead))]),(aB false)] [])) else (if ((decide ((IntKind.wrap IntKind.i64 ((((List.length t.queue):Nat):Int) + (((List.length r2):Nat):Int))) > (24:Int)))=true) then ((true=true)∧(K [(Arg.v true [(AC.d (D.i IntKind.i64 r1.have_)),(AC.own (RC.mk (93:Nat) RK.part r1.queue (RM.mk (dpM false (Option.none)) false (0:Nat) false))),(AC.d (D.i IntKind.i64 r1.granted)),(AC.d (D.i IntKind.i64 r1.sent)),(AC.d (D.b r1.dead))]),(aB false)] [])) else ((((List.length r1.queue) + (List.length r2))≤(137438953472:Nat))∧((true=true)∧((((List.length (r1.queue ++ r2:(List Part)))≤(1000:Nat))∧(∀ p:Part,(List.Mem p (r1.queue ++ r2:(List Part)))→((List.length p.data)≤(137438953472:Nat))))∧(∀ r3:CtS,(r3=(CtS.mk r1.have_ (r1.queue ++ r2:(List Part)) r1.granted r1.sent r1.dead))→(true=true)∧((true=true)∧(K [(Arg.v true [(AC.d (D.i IntKind.i64 r3.have_)),(AC.own (RC.mk (93:Nat) RK.part r3.queue (RM.mk (dpM false (Option.none)) false (0:Nat) false))),(AC.d (D.i IntKind.i64 r3.granted)),(AC.d (D.i IntKind.i64 r3.sent)),(AC.d (D.b r3.dead))]),(aB true)] [])))))))))))))))))) := by
  repeat' first
    | exact rfl
    | exact True.intro
    | with_reducible apply And.intro
    | (with_reducible intro y_ hy_; subst hy_)
    | with_reducible intro y_
    | (refine iteI (fun h => ?_) (fun h => ?_))
  all_goals try simp only [Bool.not_eq_true', decide_eq_false_iff_not, decide_eq_true_eq, Bool.not_eq_true, bne_iff_ne, beq_iff_eq, ne_eq, Decidable.not_not, Bool.not_eq_false, gt_iff_lt, ge_iff_le, Int.not_le, Int.not_lt, beq_eq_false_iff_ne, bne_eq_false_iff_eq, Bool.and_eq_true, Bool.or_eq_true, Bool.true_eq_false, Bool.false_eq_true] at *
  all_goals try simp (disch := first | omega | grind [CtP]) only [wr] at *
  all_goals try have h7 := CtP.len ‹CtP _ _›
  all_goals try have h8 := segCut_len s c.mps
  all_goals try simp (disch := omega) only [wr] at *
  all_goals first
    | assumption
    | omega
    | exact CtP.data ‹CtP _ _› _ ‹List.Mem _ _›
    | (rcases List.mem_append.1 (show _ ∈ _ ++ _ from ‹List.Mem _ _›) with h9 | h9
       · exact CtP.data ‹CtP _ _› _ h9
       · exact Nat.le_trans (segCut_data _ _ _ h9) (by decide))
    | (rw [List.length_append]; omega)
    | (have h := hk _ rfl
       unfold crdPut at h
       try dsimp only at h
       first
       | exact h
       | (repeat' split at h
          all_goals first | exact h | (exfalso; grind [CtP]) | (exfalso; simp at *; omega)))
    | exact hk _ (by grind [CtP])
    | (simp only [LIM] at *; omega)
    | grind [CtP, LIM]
theorem w_spec_CrdPut : Valid Try.prog 26 c_spec_CrdPut :=
  valid_ctr2 (V := V_spec_CrdPut) (tysB_ok tys_ok) ⟨(CallsL.cons w_spec_CrdTxOk (CallsL.cons w_spec_l8Tx (CallsL.cons w_spec_SegCut (CallsL.nil _)))), (IosL.nil _)⟩ mixed 2 4 Try.func26 rfl (by kernel_rfl)
    (fun c hc => by
      obtain rfl := Option.some.inj hc
      exact ⟨trivial, ⟨⟨trivial, ⟨⟨trivial, trivial⟩, trivial⟩⟩, ⟨trivial, ⟨trivial, ⟨⟨trivial, ⟨⟨trivial, trivial⟩, trivial⟩⟩, ⟨trivial, ⟨trivial, trivial⟩⟩⟩⟩⟩⟩⟩)
    (fun x K hp hk => ⟨_, by kernel_rfl, vF_spec_CrdPut x.1 x.2.1 x.2.2 K hp (fun q h => hk q h)⟩)
theorem vF_impl_CrdSend (c:Cfg) (t:CtS) (K:List Arg→List (List AC)→Prop) (hp:True) (hk:∀ (q:CtSendR),(q=crdSend c t)→K ([oCt q.t,rFrm.to q.f,rB.to q.ok]) ([])):(true=true)∧(True∧(∀ r:Bool,(r=(decide (CtP c t)))→(true=true)∧(if ((!r)=true) then ((true=true)∧(K [(Arg.v true [(AC.d (D.i IntKind.i64 (0:Int))),(AC.own (RC.mk (93:Nat) RK.part ([]:(List Part)) (RM.mk (dpM false (Option.none)) false (0:Nat) false))),(AC.d (D.i IntKind.i64 (0:Int))),(AC.d (D.i IntKind.i64 (0:Int))),(AC.d (D.b false))]),(Arg.v true [(AC.d (D.i IntKind.i64 (0:Int))),(AC.d (D.i IntKind.i64 (0:Int))),(AC.d (D.i IntKind.i64 (0:Int))),(AC.d (D.b false)),(AC.d (D.b false)),(AC.d (D.i IntKind.i64 (0:Int))),(AC.d (D.i IntKind.i64 (0:Int))),(AC.d (D.i IntKind.i64 (0:Int))),(AC.d (D.r RK.u8 ([]:(List Int))))]),(aB false)] [])) else ((true=true)∧((((List.length t.queue)≤(1000:Nat))∧(∀ p:Part,(List.Mem p t.queue)→((List.length p.data)≤(137438953472:Nat))))∧(∀ r1:CtS,(r1=t)→(true=true)∧(if (t.dead=true) then ((true=true)∧(K [(Arg.v true [(AC.d (D.i IntKind.i64 r1.have_)),(AC.own (RC.mk (93:Nat) RK.part r1.queue (RM.mk (dpM false (Option.none)) false (0:Nat) false))),(AC.d (D.i IntKind.i64 r1.granted)),(AC.d (D.i IntKind.i64 r1.sent)),(AC.d (D.b r1.dead))]),(Arg.v true [(AC.d (D.i IntKind.i64 (0:Int))),(AC.d (D.i IntKind.i64 (0:Int))),(AC.d (D.i IntKind.i64 (0:Int))),(AC.d (D.b false)),(AC.d (D.b false)),(AC.d (D.i IntKind.i64 (0:Int))),(AC.d (D.i IntKind.i64 (0:Int))),(AC.d (D.i IntKind.i64 (0:Int))),(AC.d (D.r RK.u8 ([]:(List Int))))]),(aB false)] [])) else (if ((t.have_ == (0:Int))=true) then ((true=true)∧(K [(Arg.v true [(AC.d (D.i IntKind.i64 r1.have_)),(AC.own (RC.mk (93:Nat) RK.part r1.queue (RM.mk (dpM false (Option.none)) false (0:Nat) false))),(AC.d (D.i IntKind.i64 r1.granted)),(AC.d (D.i IntKind.i64 r1.sent)),(AC.d (D.b r1.dead))]),(Arg.v true [(AC.d (D.i IntKind.i64 (0:Int))),(AC.d (D.i IntKind.i64 (0:Int))),(AC.d (D.i IntKind.i64 (0:Int))),(AC.d (D.b false)),(AC.d (D.b false)),(AC.d (D.i IntKind.i64 (0:Int))),(AC.d (D.i IntKind.i64 (0:Int))),(AC.d (D.i IntKind.i64 (0:Int))),(AC.d (D.r RK.u8 ([]:(List Int))))]),(aB false)] [])) else (if (((((List.length t.queue):Nat):Int) == (0:Int))=true) then ((true=true)∧(K [(Arg.v true [(AC.d (D.i IntKind.i64 r1.have_)),(AC.own (RC.mk (93:Nat) RK.part r1.queue (RM.mk (dpM false (Option.none)) false (0:Nat) false))),(AC.d (D.i IntKind.i64 r1.granted)),(AC.d (D.i IntKind.i64 r1.sent)),(AC.d (D.b r1.dead))]),(Arg.v true [(AC.d (D.i IntKind.i64 (0:Int))),(AC.d (D.i IntKind.i64 (0:Int))),(AC.d (D.i IntKind.i64 (0:Int))),(AC.d (D.b false)),(AC.d (D.b false)),(AC.d (D.i IntKind.i64 (0:Int))),(AC.d (D.i IntKind.i64 (0:Int))),(AC.d (D.i IntKind.i64 (0:Int))),(AC.d (D.r RK.u8 ([]:(List Int))))]),(aB false)] [])) else (if ((t.sent == (9999:Int))=true) then ((true=true)∧(K [(Arg.v true [(AC.d (D.i IntKind.i64 r1.have_)),(AC.own (RC.mk (93:Nat) RK.part r1.queue (RM.mk (dpM false (Option.none)) false (0:Nat) false))),(AC.d (D.i IntKind.i64 r1.granted)),(AC.d (D.i IntKind.i64 r1.sent)),(AC.d (D.b r1.dead))]),(Arg.v true [(AC.d (D.i IntKind.i64 (0:Int))),(AC.d (D.i IntKind.i64 (0:Int))),(AC.d (D.i IntKind.i64 (0:Int))),(AC.d (D.b false)),(AC.d (D.b false)),(AC.d (D.i IntKind.i64 (0:Int))),(AC.d (D.i IntKind.i64 (0:Int))),(AC.d (D.i IntKind.i64 (0:Int))),(AC.d (D.r RK.u8 ([]:(List Int))))]),(aB false)] [])) else ((((0:Int)≤(0:Int))∧((0:Int) < (((List.length t.queue):Nat):Int)))∧((((0:Int)≤(1:Int))∧(((1:Int)≤(((List.length r1.queue):Nat):Int))∧((((List.length r1.queue):Nat):Int)≤(((List.length r1.queue):Nat):Int))))∧((true=true)∧(((List.length (List.take ((Int.toNat (((List.length r1.queue):Nat):Int)) - (1:Nat)) (List.drop (1:Nat) r1.queue)))≤(137438953472:Nat))∧(∀ r2:(List Part),(r2=(List.take ((Int.toNat (((List.length r1.queue):Nat):Int)) - (1:Nat)) (List.drop (1:Nat) r1.queue)))→(true=true)∧((true=true)∧(((List.length (at_part t.queue (0:Nat)).data)≤(137438953472:Nat))∧(∀ r3:(List Int),(r3=(at_part t.queue (0:Nat)).data)→(true=true)∧((true=true)∧((true=true)∧((true=true)∧((true=true)∧(K [(Arg.v true [(AC.d (D.i IntKind.i64 (IntKind.wrap IntKind.i64 (r1.have_ - (1:Int))))),(AC.own (RC.mk (93:Nat) RK.part r2 (RM.mk (dpM false (Option.none)) false (0:Nat) false))),(AC.d (D.i IntKind.i64 r1.granted)),(AC.d (D.i IntKind.i64 (IntKind.wrap IntKind.i64 (r1.sent + (1:Int))))),(AC.d (D.b r1.dead))]),(Arg.v true [(AC.d (D.i IntKind.i64 (3:Int))),(AC.d (D.i IntKind.i64 (0:Int))),(AC.d (D.i IntKind.i64 (0:Int))),(AC.d (D.b false)),(AC.d (D.b false)),(AC.d (D.i IntKind.i64 (0:Int))),(AC.d (D.i IntKind.i64 (at_part t.queue (0:Nat)).seg)),(AC.d (D.i IntKind.i64 (at_part t.queue (0:Nat)).len)),(AC.d (D.r RK.u8 r3))]),(aB true)] []))))))))))))))))))))))) := by
  repeat' first
    | exact rfl
    | exact True.intro
    | with_reducible apply And.intro
    | (with_reducible intro y_ hy_; subst hy_)
    | with_reducible intro y_
    | (refine iteI (fun h => ?_) (fun h => ?_))
  all_goals try simp only [Bool.not_eq_true', decide_eq_false_iff_not, decide_eq_true_eq, Bool.not_eq_true, bne_iff_ne, beq_iff_eq, ne_eq, Decidable.not_not, Bool.not_eq_false, gt_iff_lt, ge_iff_le, Int.not_le, Int.not_lt, beq_eq_false_iff_ne, bne_eq_false_iff_eq, Bool.and_eq_true, Bool.or_eq_true, Bool.true_eq_false, Bool.false_eq_true] at *
  all_goals try simp (disch := first | omega | grind [CtP]) only [wr] at *
  all_goals try have h7 := CtP.len ‹CtP _ _›
  all_goals try have h8 := (‹CtP _ _› : CtP _ _).2
  all_goals try simp (disch := omega) only [wr] at *
  all_goals first
    | assumption
    | omega
    | exact CtP.data ‹CtP _ _› _ ‹List.Mem _ _›
    | exact CtP.data ‹CtP _ _› _ (at0_mem (by omega))
    | (have h9 := CtP.data ‹CtP _ _› _ (at0_mem (by omega))
       omega)
    | (rw [List.length_take, List.length_drop]; omega)
    | exact CtP.data ‹CtP _ _› _ (List.mem_of_mem_drop (List.mem_of_mem_take ‹List.Mem _ _›))
    | (have h9 := hk _ rfl
       unfold crdSend pieceF at h9
       rw [if_pos ‹CtP _ _›, if_neg (by grind)] at h9
       dsimp only at h9
       rw [← drop1] at h9
       exact h9)
    | (have h := hk _ rfl
       unfold crdSend at h
       try dsimp only at h
       first
       | exact h
       | (repeat' split at h
          all_goals first | exact h | (exfalso; grind [CtP]) | (exfalso; simp at *; omega)))
    | (have h := hk _ rfl
       unfold crdSend pieceF at h
       try dsimp only at h
       repeat' split at h
       all_goals first | exact h | (exfalso; grind [CtP]) | (exfalso; simp at *; omega))
    | exact hk _ (by grind [CtP])
    | (simp only [LIM] at *; omega)
    | grind [CtP, LIM]
theorem w_impl_CrdSend : Valid Try.prog 32 c_impl_CrdSend :=
  valid_ctr2 (V := V_impl_CrdSend) (tysB_ok tys_ok) ⟨(CallsL.cons w_impl_CrdTxOk (CallsL.cons w_impl_CrdTx_copyOf (CallsL.cons w_impl_clone_impl_SegPart (CallsL.cons w_impl_clone_byte (CallsL.nil _))))), (IosL.nil _)⟩ mixed 2 6 Try.func32 rfl (by kernel_rfl)
    (fun c hc => by
      obtain rfl := Option.some.inj hc
      exact ⟨trivial, ⟨⟨trivial, ⟨⟨trivial, trivial⟩, trivial⟩⟩, ⟨trivial, ⟨⟨trivial, ⟨⟨trivial, trivial⟩, trivial⟩⟩, ⟨trivial, ⟨trivial, ⟨trivial, ⟨trivial, ⟨trivial, trivial⟩⟩⟩⟩⟩⟩⟩⟩⟩)
    (fun x K hp hk => ⟨_, by kernel_rfl, vF_impl_CrdSend x.1 x.2 K hp (fun q h => hk q h)⟩)
theorem vF_spec_CrdSend (c:Cfg) (t:CtS) (K:List Arg→List (List AC)→Prop) (hp:True) (hk:∀ (q:CtSendR),(q=crdSend c t)→K ([oCt q.t,rFrm.to q.f,rB.to q.ok]) ([])):(true=true)∧(True∧(∀ r:Bool,(r=(decide (CtP c t)))→(true=true)∧(if ((!r)=true) then ((true=true)∧(K [(Arg.v true [(AC.d (D.i IntKind.i64 (0:Int))),(AC.own (RC.mk (93:Nat) RK.part ([]:(List Part)) (RM.mk (dpM false (Option.none)) false (0:Nat) false))),(AC.d (D.i IntKind.i64 (0:Int))),(AC.d (D.i IntKind.i64 (0:Int))),(AC.d (D.b false))]),(Arg.v true [(AC.d (D.i IntKind.i64 (0:Int))),(AC.d (D.i IntKind.i64 (0:Int))),(AC.d (D.i IntKind.i64 (0:Int))),(AC.d (D.b false)),(AC.d (D.b false)),(AC.d (D.i IntKind.i64 (0:Int))),(AC.d (D.i IntKind.i64 (0:Int))),(AC.d (D.i IntKind.i64 (0:Int))),(AC.d (D.r RK.u8 ([]:(List Int))))]),(aB false)] [])) else ((true=true)∧((((List.length t.queue)≤(1000:Nat))∧(∀ p:Part,(List.Mem p t.queue)→((List.length p.data)≤(137438953472:Nat))))∧(∀ r1:CtS,(r1=t)→(true=true)∧(if (t.dead=true) then ((true=true)∧(K [(Arg.v true [(AC.d (D.i IntKind.i64 r1.have_)),(AC.own (RC.mk (93:Nat) RK.part r1.queue (RM.mk (dpM false (Option.none)) false (0:Nat) false))),(AC.d (D.i IntKind.i64 r1.granted)),(AC.d (D.i IntKind.i64 r1.sent)),(AC.d (D.b r1.dead))]),(Arg.v true [(AC.d (D.i IntKind.i64 (0:Int))),(AC.d (D.i IntKind.i64 (0:Int))),(AC.d (D.i IntKind.i64 (0:Int))),(AC.d (D.b false)),(AC.d (D.b false)),(AC.d (D.i IntKind.i64 (0:Int))),(AC.d (D.i IntKind.i64 (0:Int))),(AC.d (D.i IntKind.i64 (0:Int))),(AC.d (D.r RK.u8 ([]:(List Int))))]),(aB false)] [])) else (if ((t.have_ == (0:Int))=true) then ((true=true)∧(K [(Arg.v true [(AC.d (D.i IntKind.i64 r1.have_)),(AC.own (RC.mk (93:Nat) RK.part r1.queue (RM.mk (dpM false (Option.none)) false (0:Nat) false))),(AC.d (D.i IntKind.i64 r1.granted)),(AC.d (D.i IntKind.i64 r1.sent)),(AC.d (D.b r1.dead))]),(Arg.v true [(AC.d (D.i IntKind.i64 (0:Int))),(AC.d (D.i IntKind.i64 (0:Int))),(AC.d (D.i IntKind.i64 (0:Int))),(AC.d (D.b false)),(AC.d (D.b false)),(AC.d (D.i IntKind.i64 (0:Int))),(AC.d (D.i IntKind.i64 (0:Int))),(AC.d (D.i IntKind.i64 (0:Int))),(AC.d (D.r RK.u8 ([]:(List Int))))]),(aB false)] [])) else (if (((((List.length t.queue):Nat):Int) == (0:Int))=true) then ((true=true)∧(K [(Arg.v true [(AC.d (D.i IntKind.i64 r1.have_)),(AC.own (RC.mk (93:Nat) RK.part r1.queue (RM.mk (dpM false (Option.none)) false (0:Nat) false))),(AC.d (D.i IntKind.i64 r1.granted)),(AC.d (D.i IntKind.i64 r1.sent)),(AC.d (D.b r1.dead))]),(Arg.v true [(AC.d (D.i IntKind.i64 (0:Int))),(AC.d (D.i IntKind.i64 (0:Int))),(AC.d (D.i IntKind.i64 (0:Int))),(AC.d (D.b false)),(AC.d (D.b false)),(AC.d (D.i IntKind.i64 (0:Int))),(AC.d (D.i IntKind.i64 (0:Int))),(AC.d (D.i IntKind.i64 (0:Int))),(AC.d (D.r RK.u8 ([]:(List Int))))]),(aB false)] [])) else (if ((t.sent == (9999:Int))=true) then ((true=true)∧(K [(Arg.v true [(AC.d (D.i IntKind.i64 r1.have_)),(AC.own (RC.mk (93:Nat) RK.part r1.queue (RM.mk (dpM false (Option.none)) false (0:Nat) false))),(AC.d (D.i IntKind.i64 r1.granted)),(AC.d (D.i IntKind.i64 r1.sent)),(AC.d (D.b r1.dead))]),(Arg.v true [(AC.d (D.i IntKind.i64 (0:Int))),(AC.d (D.i IntKind.i64 (0:Int))),(AC.d (D.i IntKind.i64 (0:Int))),(AC.d (D.b false)),(AC.d (D.b false)),(AC.d (D.i IntKind.i64 (0:Int))),(AC.d (D.i IntKind.i64 (0:Int))),(AC.d (D.i IntKind.i64 (0:Int))),(AC.d (D.r RK.u8 ([]:(List Int))))]),(aB false)] [])) else ((((0:Int)≤(0:Int))∧((0:Int) < (((List.length r1.queue):Nat):Int)))∧((((0:Int)≤(1:Int))∧(((1:Int)≤(((List.length r1.queue):Nat):Int))∧((((List.length r1.queue):Nat):Int)≤(((List.length r1.queue):Nat):Int))))∧((true=true)∧((((List.length (List.take ((Int.toNat (((List.length r1.queue):Nat):Int)) - (1:Nat)) (List.drop (1:Nat) r1.queue)))≤(1000:Nat))∧(∀ p:Part,(List.Mem p (List.take ((Int.toNat (((List.length r1.queue):Nat):Int)) - (1:Nat)) (List.drop (1:Nat) r1.queue)))→((List.length p.data)≤(137438953472:Nat))))∧(∀ r2:(List Part),(r2=(List.take ((Int.toNat (((List.length r1.queue):Nat):Int)) - (1:Nat)) (List.drop (1:Nat) r1.queue)))→(true=true)∧((true=true)∧((((0:Nat) + (List.length (at_part r1.queue (0:Nat)).data))≤(137438953472:Nat))∧((true=true)∧((true=true)∧((true=true)∧((true=true)∧(K [(Arg.v true [(AC.d (D.i IntKind.i64 (IntKind.wrap IntKind.i64 (t.have_ - (1:Int))))),(AC.own (RC.mk (93:Nat) RK.part r2 (RM.mk (dpM false (Option.none)) false (0:Nat) false))),(AC.d (D.i IntKind.i64 r1.granted)),(AC.d (D.i IntKind.i64 (IntKind.wrap IntKind.i64 (t.sent + (1:Int))))),(AC.d (D.b r1.dead))]),(Arg.v true [(AC.d (D.i IntKind.i64 (3:Int))),(AC.d (D.i IntKind.i64 (0:Int))),(AC.d (D.i IntKind.i64 (0:Int))),(AC.d (D.b false)),(AC.d (D.b false)),(AC.d (D.i IntKind.i64 (0:Int))),(AC.d (D.i IntKind.i64 (at_part r1.queue (0:Nat)).seg)),(AC.d (D.i IntKind.i64 (at_part r1.queue (0:Nat)).len)),(AC.d (D.r RK.u8 (([]:(List Int)) ++ (at_part r1.queue (0:Nat)).data:(List Int))))]),(aB true)] [])))))))))))))))))))))) := by
  repeat' first
    | exact rfl
    | exact True.intro
    | with_reducible apply And.intro
    | (with_reducible intro y_ hy_; subst hy_)
    | with_reducible intro y_
    | (refine iteI (fun h => ?_) (fun h => ?_))
  all_goals try simp only [Bool.not_eq_true', decide_eq_false_iff_not, decide_eq_true_eq, Bool.not_eq_true, bne_iff_ne, beq_iff_eq, ne_eq, Decidable.not_not, Bool.not_eq_false, gt_iff_lt, ge_iff_le, Int.not_le, Int.not_lt, beq_eq_false_iff_ne, bne_eq_false_iff_eq, Bool.and_eq_true, Bool.or_eq_true, Bool.true_eq_false, Bool.false_eq_true] at *
  all_goals try simp (disch := first | omega | grind [CtP]) only [wr] at *
  all_goals try have h7 := CtP.len ‹CtP _ _›
  all_goals try have h8 := (‹CtP _ _› : CtP _ _).2
  all_goals try simp (disch := omega) only [wr] at *
  all_goals first
    | assumption
    | omega
    | exact CtP.data ‹CtP _ _› _ ‹List.Mem _ _›
    | exact CtP.data ‹CtP _ _› _ (at0_mem (by omega))
    | (have h9 := CtP.data ‹CtP _ _› _ (at0_mem (by omega))
       omega)
    | (rw [List.length_take, List.length_drop]; omega)
    | exact CtP.data ‹CtP _ _› _ (List.mem_of_mem_drop (List.mem_of_mem_take ‹List.Mem _ _›))
    | (have h9 := hk _ rfl
       unfold crdSend pieceF at h9
       rw [if_pos ‹CtP _ _›, if_neg (by grind)] at h9
       dsimp only at h9
       rw [← drop1] at h9
       exact h9)
    | (have h := hk _ rfl
       unfold crdSend at h
       try dsimp only at h
       first
       | exact h
       | (repeat' split at h
          all_goals first | exact h | (exfalso; grind [CtP]) | (exfalso; simp at *; omega)))
    | (have h := hk _ rfl
       unfold crdSend pieceF at h
       try dsimp only at h
       repeat' split at h
       all_goals first | exact h | (exfalso; grind [CtP]) | (exfalso; simp at *; omega))
    | exact hk _ (by grind [CtP])
    | (simp only [LIM] at *; omega)
    | grind [CtP, LIM]
theorem w_spec_CrdSend : Valid Try.prog 31 c_spec_CrdSend :=
  valid_ctr2 (V := V_spec_CrdSend) (tysB_ok tys_ok) ⟨(CallsL.cons w_spec_CrdTxOk (CallsL.cons w_spec_l8Tx (CallsL.cons w_spec_l6List (CallsL.nil _)))), (IosL.nil _)⟩ mixed 3 6 Try.func31 rfl (by kernel_rfl)
    (fun c hc => by
      obtain rfl := Option.some.inj hc
      exact ⟨trivial, ⟨⟨trivial, ⟨⟨trivial, trivial⟩, trivial⟩⟩, ⟨trivial, ⟨⟨trivial, ⟨⟨trivial, trivial⟩, trivial⟩⟩, ⟨trivial, ⟨trivial, ⟨trivial, ⟨trivial, ⟨trivial, trivial⟩⟩⟩⟩⟩⟩⟩⟩⟩)
    (fun x K hp hk => ⟨_, by kernel_rfl, vF_spec_CrdSend x.1 x.2 K hp (fun q h => hk q h)⟩)
theorem vF_impl_CrdTake (c:Cfg) (t:CtS) (n:Int) (K:List Arg→List (List AC)→Prop) (hp:True) (hk:∀ (q:CtS),(q=crdTake c t n)→K ([oCt q]) ([])):(true=true)∧(True∧(∀ r:Bool,(r=(decide (CtP c t)))→(true=true)∧(if ((!r)=true) then ((true=true)∧(K [(Arg.v true [(AC.d (D.i IntKind.i64 (0:Int))),(AC.own (RC.mk (93:Nat) RK.part ([]:(List Part)) (RM.mk (dpM false (Option.none)) false (0:Nat) false))),(AC.d (D.i IntKind.i64 (0:Int))),(AC.d (D.i IntKind.i64 (0:Int))),(AC.d (D.b false))])] [])) else ((true=true)∧(True∧(∀ r1:Bool,(r1=(decide (((1:Int)≤n)∧(n≤(255:Int)))))→(true=true)∧(if ((!r1)=true) then ((true=true)∧(K [(Arg.v true [(AC.d (D.i IntKind.i64 (0:Int))),(AC.own (RC.mk (93:Nat) RK.part ([]:(List Part)) (RM.mk (dpM false (Option.none)) false (0:Nat) false))),(AC.d (D.i IntKind.i64 (0:Int))),(AC.d (D.i IntKind.i64 (0:Int))),(AC.d (D.b false))])] [])) else ((true=true)∧((((List.length t.queue)≤(1000:Nat))∧(∀ p:Part,(List.Mem p t.queue)→((List.length p.data)≤(137438953472:Nat))))∧(∀ r2:CtS,(r2=t)→(true=true)∧(if (t.dead=true) then ((true=true)∧(K [(Arg.v true [(AC.d (D.i IntKind.i64 r2.have_)),(AC.own (RC.mk (93:Nat) RK.part r2.queue (RM.mk (dpM false (Option.none)) false (0:Nat) false))),(AC.d (D.i IntKind.i64 r2.granted)),(AC.d (D.i IntKind.i64 r2.sent)),(AC.d (D.b r2.dead))])] [])) else (if ((decide ((IntKind.wrap IntKind.i64 (t.have_ + n)) > (255:Int)))=true) then ((true=true)∧(K [(Arg.v true [(AC.d (D.i IntKind.i64 r2.have_)),(AC.own (RC.mk (93:Nat) RK.part r2.queue (RM.mk (dpM false (Option.none)) false (0:Nat) false))),(AC.d (D.i IntKind.i64 r2.granted)),(AC.d (D.i IntKind.i64 r2.sent)),(AC.d (D.b true))])] [])) else (if ((decide ((IntKind.wrap IntKind.i64 (t.granted + n)) > (9999:Int)))=true) then ((true=true)∧(K [(Arg.v true [(AC.d (D.i IntKind.i64 r2.have_)),(AC.own (RC.mk (93:Nat) RK.part r2.queue (RM.mk (dpM false (Option.none)) false (0:Nat) false))),(AC.d (D.i IntKind.i64 r2.granted)),(AC.d (D.i IntKind.i64 r2.sent)),(AC.d (D.b true))])] [])) else ((true=true)∧(K [(Arg.v true [(AC.d (D.i IntKind.i64 (IntKind.wrap IntKind.i64 (r2.have_ + n)))),(AC.own (RC.mk (93:Nat) RK.part r2.queue (RM.mk (dpM false (Option.none)) false (0:Nat) false))),(AC.d (D.i IntKind.i64 (IntKind.wrap IntKind.i64 (r2.granted + n)))),(AC.d (D.i IntKind.i64 r2.sent)),(AC.d (D.b r2.dead))])] []))))))))))))))) := by
  repeat' first
    | exact rfl
    | exact True.intro
    | with_reducible apply And.intro
    | (with_reducible intro y_ hy_; subst hy_)
    | with_reducible intro y_
    | (refine iteI (fun h => ?_) (fun h => ?_))
  all_goals try simp only [Bool.not_eq_true', decide_eq_false_iff_not, decide_eq_true_eq, Bool.not_eq_true, bne_iff_ne, beq_iff_eq, ne_eq, Decidable.not_not, Bool.not_eq_false, gt_iff_lt, ge_iff_le, Int.not_le, Int.not_lt, beq_eq_false_iff_ne, bne_eq_false_iff_eq, Bool.and_eq_true, Bool.or_eq_true, Bool.true_eq_false, Bool.false_eq_true] at *
  all_goals try simp (disch := first | omega | grind [CtP]) only [wr] at *
  all_goals try have h7 := CtP.len ‹CtP _ _›
  all_goals try have h8 := (‹CtP _ _› : CtP _ _).2
  all_goals try simp (disch := omega) only [wr] at *
  all_goals first
    | assumption
    | omega
    | exact CtP.data ‹CtP _ _› _ ‹List.Mem _ _›
    | exact CtP.data ‹CtP _ _› _ (at0_mem (by omega))
    | (have h9 := CtP.data ‹CtP _ _› _ (at0_mem (by omega))
       omega)
    | (rw [List.length_take, List.length_drop]; omega)
    | exact CtP.data ‹CtP _ _› _ (List.mem_of_mem_drop (List.mem_of_mem_take ‹List.Mem _ _›))
    | (have h9 := hk _ rfl
       unfold crdSend pieceF at h9
       rw [if_pos ‹CtP _ _›, if_neg (by grind)] at h9
       dsimp only at h9
       rw [← drop1] at h9
       exact h9)
    | (have h := hk _ rfl
       unfold crdTake at h
       try dsimp only at h
       first
       | exact h
       | (repeat' split at h
          all_goals first | exact h | (exfalso; grind [CtP]) | (exfalso; simp at *; omega)))
    | exact hk _ (by grind [CtP])
    | (simp only [LIM] at *; omega)
    | grind [CtP, LIM]
theorem w_impl_CrdTake : Valid Try.prog 22 c_impl_CrdTake :=
  valid_ctr2 (V := V_impl_CrdTake) (tysB_ok tys_ok) ⟨(CallsL.cons w_impl_CrdTxOk (CallsL.cons w_impl_in (CallsL.cons w_impl_CrdTx_copyOf (CallsL.nil _)))), (IosL.nil _)⟩ mixed 1 4 Try.func22 rfl (by kernel_rfl)
    (fun c hc => by
      obtain rfl := Option.some.inj hc
      exact ⟨trivial, ⟨⟨trivial, ⟨⟨trivial, trivial⟩, trivial⟩⟩, ⟨trivial, ⟨⟨trivial, ⟨trivial, ⟨trivial, ⟨trivial, ⟨trivial, trivial⟩⟩⟩⟩⟩, ⟨trivial, trivial⟩⟩⟩⟩⟩)
    (fun x K hp hk => ⟨_, by kernel_rfl, vF_impl_CrdTake x.1 x.2.1 x.2.2 K hp (fun q h => hk q h)⟩)
theorem vF_spec_CrdTake (c:Cfg) (t:CtS) (n:Int) (K:List Arg→List (List AC)→Prop) (hp:True) (hk:∀ (q:CtS),(q=crdTake c t n)→K ([oCt q]) ([])):(true=true)∧(True∧(∀ r:Bool,(r=(decide (CtP c t)))→(true=true)∧(if ((!r)=true) then ((true=true)∧(K [(Arg.v true [(AC.d (D.i IntKind.i64 (0:Int))),(AC.own (RC.mk (93:Nat) RK.part ([]:(List Part)) (RM.mk (dpM false (Option.none)) false (0:Nat) false))),(AC.d (D.i IntKind.i64 (0:Int))),(AC.d (D.i IntKind.i64 (0:Int))),(AC.d (D.b false))])] [])) else ((true=true)∧(True∧(∀ r1:Bool,(r1=(decide (((1:Int)≤n)∧(n≤(255:Int)))))→(true=true)∧(if ((!r1)=true) then ((true=true)∧(K [(Arg.v true [(AC.d (D.i IntKind.i64 (0:Int))),(AC.own (RC.mk (93:Nat) RK.part ([]:(List Part)) (RM.mk (dpM false (Option.none)) false (0:Nat) false))),(AC.d (D.i IntKind.i64 (0:Int))),(AC.d (D.i IntKind.i64 (0:Int))),(AC.d (D.b false))])] [])) else ((true=true)∧((((List.length t.queue)≤(1000:Nat))∧(∀ p:Part,(List.Mem p t.queue)→((List.length p.data)≤(137438953472:Nat))))∧(∀ r2:CtS,(r2=t)→(true=true)∧(if (t.dead=true) then ((true=true)∧(K [(Arg.v true [(AC.d (D.i IntKind.i64 r2.have_)),(AC.own (RC.mk (93:Nat) RK.part r2.queue (RM.mk (dpM false (Option.none)) false (0:Nat) false))),(AC.d (D.i IntKind.i64 r2.granted)),(AC.d (D.i IntKind.i64 r2.sent)),(AC.d (D.b r2.dead))])] [])) else (if ((decide ((IntKind.wrap IntKind.i64 (t.have_ + n)) > (255:Int)))=true) then ((true=true)∧(K [(Arg.v true [(AC.d (D.i IntKind.i64 r2.have_)),(AC.own (RC.mk (93:Nat) RK.part r2.queue (RM.mk (dpM false (Option.none)) false (0:Nat) false))),(AC.d (D.i IntKind.i64 r2.granted)),(AC.d (D.i IntKind.i64 r2.sent)),(AC.d (D.b true))])] [])) else (if ((decide ((IntKind.wrap IntKind.i64 (t.granted + n)) > (9999:Int)))=true) then ((true=true)∧(K [(Arg.v true [(AC.d (D.i IntKind.i64 r2.have_)),(AC.own (RC.mk (93:Nat) RK.part r2.queue (RM.mk (dpM false (Option.none)) false (0:Nat) false))),(AC.d (D.i IntKind.i64 r2.granted)),(AC.d (D.i IntKind.i64 r2.sent)),(AC.d (D.b true))])] [])) else ((true=true)∧(K [(Arg.v true [(AC.d (D.i IntKind.i64 (IntKind.wrap IntKind.i64 (t.have_ + n)))),(AC.own (RC.mk (93:Nat) RK.part r2.queue (RM.mk (dpM false (Option.none)) false (0:Nat) false))),(AC.d (D.i IntKind.i64 (IntKind.wrap IntKind.i64 (t.granted + n)))),(AC.d (D.i IntKind.i64 r2.sent)),(AC.d (D.b r2.dead))])] []))))))))))))))) := by
  repeat' first
    | exact rfl
    | exact True.intro
    | with_reducible apply And.intro
    | (with_reducible intro y_ hy_; subst hy_)
    | with_reducible intro y_
    | (refine iteI (fun h => ?_) (fun h => ?_))
  all_goals try simp only [Bool.not_eq_true', decide_eq_false_iff_not, decide_eq_true_eq, Bool.not_eq_true, bne_iff_ne, beq_iff_eq, ne_eq, Decidable.not_not, Bool.not_eq_false, gt_iff_lt, ge_iff_le, Int.not_le, Int.not_lt, beq_eq_false_iff_ne, bne_eq_false_iff_eq, Bool.and_eq_true, Bool.or_eq_true, Bool.true_eq_false, Bool.false_eq_true] at *
  all_goals try simp (disch := first | omega | grind [CtP]) only [wr] at *
  all_goals try have h7 := CtP.len ‹CtP _ _›
  all_goals try have h8 := (‹CtP _ _› : CtP _ _).2
  all_goals try simp (disch := omega) only [wr] at *
  all_goals first
    | assumption
    | omega
    | exact CtP.data ‹CtP _ _› _ ‹List.Mem _ _›
    | exact CtP.data ‹CtP _ _› _ (at0_mem (by omega))
    | (have h9 := CtP.data ‹CtP _ _› _ (at0_mem (by omega))
       omega)
    | (rw [List.length_take, List.length_drop]; omega)
    | exact CtP.data ‹CtP _ _› _ (List.mem_of_mem_drop (List.mem_of_mem_take ‹List.Mem _ _›))
    | (have h9 := hk _ rfl
       unfold crdSend pieceF at h9
       rw [if_pos ‹CtP _ _›, if_neg (by grind)] at h9
       dsimp only at h9
       rw [← drop1] at h9
       exact h9)
    | (have h := hk _ rfl
       unfold crdTake at h
       try dsimp only at h
       first
       | exact h
       | (repeat' split at h
          all_goals first | exact h | (exfalso; grind [CtP]) | (exfalso; simp at *; omega)))
    | exact hk _ (by grind [CtP])
    | (simp only [LIM] at *; omega)
    | grind [CtP, LIM]
theorem w_spec_CrdTake : Valid Try.prog 19 c_spec_CrdTake :=
  valid_ctr2 (V := V_spec_CrdTake) (tysB_ok tys_ok) ⟨(CallsL.cons w_spec_CrdTxOk (CallsL.cons w_spec_l1In (CallsL.cons w_spec_l8Tx (CallsL.nil _)))), (IosL.nil _)⟩ mixed 1 4 Try.func19 rfl (by kernel_rfl)
    (fun c hc => by
      obtain rfl := Option.some.inj hc
      exact ⟨trivial, ⟨⟨trivial, ⟨⟨trivial, trivial⟩, trivial⟩⟩, ⟨trivial, ⟨⟨trivial, ⟨⟨trivial, trivial⟩, trivial⟩⟩, ⟨⟨trivial, ⟨⟨trivial, ⟨trivial, trivial⟩⟩, trivial⟩⟩, ⟨trivial, ⟨trivial, ⟨trivial, trivial⟩⟩⟩⟩⟩⟩⟩⟩)
    (fun x K hp hk => ⟨_, by kernel_rfl, vF_spec_CrdTake x.1 x.2.1 x.2.2 K hp (fun q h => hk q h)⟩)
end Go.Proofs.YtdahhphhblbfdaaE
