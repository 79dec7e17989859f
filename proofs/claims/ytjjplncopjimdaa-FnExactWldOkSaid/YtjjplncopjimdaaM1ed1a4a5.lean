/- A part of the proof of laws of the program: what calls of the program answer. Conditions: none. -/
import Derived.Test.YtjjplncopjimdaaMba83069e
set_option linter.unusedVariables false
set_option linter.unusedSimpArgs false
set_option linter.unusedSectionVars false
/- Contracts: O. Conditions: none. -/
set_option linter.unusedVariables false
set_option maxHeartbeats 1600000
namespace Go.Proofs.YtjjplncopjimdaaE
open Go
def CtP (c : Cfg) (t : CtS) : Prop := CfgP c ∧ (0 ≤ t.have_ ∧ t.have_ ≤ 255) ∧ (0 ≤ t.granted ∧ t.granted ≤ 9999) ∧ (0 ≤ t.sent ∧ t.sent ≤ 9999) ∧ t.have_ = t.granted - t.sent ∧ t.queue.length ≤ 24 ∧ PartsP c.mps t.queue
instance (c : Cfg) (t : CtS) : Decidable (CtP c t) := by unfold CtP; infer_instance
def zCt : CtS := ⟨0, [], 0, 0, false⟩
/-- Who sends for credits, its queue a row of one's own. -/
def oCt (t : CtS) : Arg := .v true [.d (.i .i64 t.have_), .own ⟨120, .part, t.queue, m0⟩, .d (.i .i64 t.granted), .d (.i .i64 t.sent), .d (.b t.dead)]
structure CtPutR where
  t : CtS
  ok : Bool
def crdPut (c : Cfg) (t : CtS) (s : List Int) : CtPutR :=
  if CtP c t then (if t.dead = true ∨ (s.length : Int) > c.mtu ∨ 24 < t.queue.length + (segCut s c.mps).length then ⟨t, false⟩ else ⟨{ t with queue := t.queue ++ segCut s c.mps }, true⟩) else ⟨zCt, false⟩
structure CtSendR where
  t : CtS
  f : Frm
  ok : Bool
def pieceF (p : Part) : Frm := ⟨3, 0, 0, false, false, 0, p.seg, p.len, p.data⟩
def crdSend (c : Cfg) (t : CtS) : CtSendR :=
  if CtP c t then (if t.dead = true ∨ t.have_ = 0 ∨ t.queue.length = 0 ∨ t.sent = 9999 then ⟨t, zFrm, false⟩ else ⟨⟨t.have_ - 1, t.queue.drop 1, t.granted, t.sent + 1, t.dead⟩, pieceF (at_part t.queue 0), true⟩) else ⟨zCt, zFrm, false⟩
def crdTake (c : Cfg) (t : CtS) (n : Int) : CtS :=
  if CtP c t ∧ 1 ≤ n ∧ n ≤ 255 then (if t.dead = true then t else if t.have_ + n > 255 ∨ t.granted + n > 9999 then { t with dead := true } else ⟨t.have_ + n, t.queue, t.granted + n, t.sent, t.dead⟩) else zCt
theorem CtP.len {c : Cfg} {t : CtS} (h : CtP c t) : t.queue.length ≤ 24 := h.2.2.2.2.2.1
theorem PartsP.data {m : Int} {l : List Part} (h : PartsP m l) : ∀ p ∈ l, p.data.length ≤ 24 := fun p hp => by
  have := (h p hp).1
  unfold PartP SegP at this
  omega
theorem CtP.data {c : Cfg} {t : CtS} (h : CtP c t) : ∀ p ∈ t.queue, p.data.length ≤ 137438953472 := fun p hp => by
  have := h.2.2.2.2.2.2.data p hp
  omega
theorem drop1 (l : List Part) : List.take (((l.length : Nat) : Int).toNat - 1) (List.drop 1 l) = List.drop 1 l := by
  rw [Int.toNat_natCast]
  exact List.take_of_length_le (by rw [List.length_drop]; omega)
theorem at0_mem {l : List Part} (h : ¬ l.length = 0) : at_part l 0 ∈ l := at_mem .part l 0 (show 0 < l.length by omega)

/-! impl.CrdTxOk -/
def c_impl_CrdTxOk : Ent := ctr (α := (Cfg) × (CtS)) (ρ := (Bool)) [] [] (rs rCfg (rs1 rCt)) (fun x_ => (fun (c : Cfg) (t : CtS) => (True)) x_.1 x_.2) (fun x_ r_ => (fun x_ => (fun (c : Cfg) (t : CtS) => ((fun r_ => (fun (r : Bool) => (r = decide (CtP c t))) r_))) x_.1 x_.2) x_ r_) (fun r_ => (fun (r : Bool) => ([rB.to r])) r_) (fun r_ => (fun (r : Bool) => ([])) r_)
def V_impl_CrdTxOk : Env := ⟨tys, [(20, c_impl_CfgOk), (21, c_impl_in), (45, c_impl_CfgOpts_partsOk)], [], [(2, 0), (3, 1)], [], [], [500007, 500012, 500017, 500022, 500032, 500038], [], []⟩
/-! spec.CrdTxOk -/
def c_spec_CrdTxOk : Ent := ctr (α := (Cfg) × (CtS)) (ρ := (Bool)) [] [] (rs rCfg (rs1 rCt)) (fun x_ => (fun (c : Cfg) (t : CtS) => (True)) x_.1 x_.2) (fun x_ r_ => (fun x_ => (fun (c : Cfg) (t : CtS) => ((fun r_ => (fun (r : Bool) => (r = decide (CtP c t))) r_))) x_.1 x_.2) x_ r_) (fun r_ => (fun (r : Bool) => ([rB.to r])) r_) (fun r_ => (fun (r : Bool) => ([])) r_)
def V_spec_CrdTxOk : Env := ⟨tys, [(14, c_spec_CfgOk), (15, c_spec_l1In), (61, c_spec_l6Parts)], [], [(2, 0), (3, 1)], [], [], [500007, 500012, 500018, 500023, 500028, 500038], [], []⟩
end Go.Proofs.YtjjplncopjimdaaE

/- Calls answer what is promised: O. Conditions: none. -/
set_option linter.unusedVariables false
set_option maxHeartbeats 1600000
namespace Go.Proofs.YtjjplncopjimdaaE
open Go
theorem vF_impl_CrdTxOk (c:Cfg) (t:CtS) (K:List Arg→List (List AC)→Prop) (hp:True) (hk:∀ (r:Bool),(r=decide (CtP c t))→K ([rB.to r]) ([])):(true=true)∧(True∧(∀ r:Bool,(r=(decide (CfgP c)))→(true=true)∧(if (r=true) then ((true=true)∧(True∧(∀ r1:Bool,(r1=(decide (((0:Int)≤t.have_)∧(t.have_≤(255:Int)))))→(true=true)∧(if (r1=true) then ((true=true)∧(True∧(∀ r2:Bool,(r2=(decide (((0:Int)≤t.granted)∧(t.granted≤(9999:Int)))))→(true=true)∧(if (r2=true) then ((true=true)∧(True∧(∀ r3:Bool,(r3=(decide (((0:Int)≤t.sent)∧(t.sent≤(9999:Int)))))→(true=true)∧(if (r3=true) then (if ((t.have_ == (IntKind.wrap IntKind.i64 (t.granted - t.sent)))=true) then (if ((decide ((((List.length t.queue):Nat):Int)≤(24:Int)))=true) then ((true=true)∧(((List.length t.queue)≤(1000:Nat))∧(∀ r4:Bool,(r4=(decide (PartsP c.mps t.queue)))→(true=true)∧((true=true)∧(K [(aB r4)] []))))) else ((true=true)∧(K [(aB false)] []))) else ((true=true)∧(K [(aB false)] []))) else ((true=true)∧(K [(aB false)] [])))))) else ((true=true)∧(K [(aB false)] [])))))) else ((true=true)∧(K [(aB false)] [])))))) else ((true=true)∧(K [(aB false)] []))))) := by
  repeat' first
    | exact rfl
    | exact True.intro
    | with_reducible apply And.intro
    | (with_reducible intro y_ hy_; subst hy_)
    | with_reducible intro y_
    | (refine iteI (fun h => ?_) (fun h => ?_))
  all_goals try simp only [Bool.not_eq_true', decide_eq_false_iff_not, decide_eq_true_eq, Bool.not_eq_true, bne_iff_ne, beq_iff_eq, ne_eq, Decidable.not_not, Bool.not_eq_false, gt_iff_lt, ge_iff_le, Int.not_le, Int.not_lt, beq_eq_false_iff_ne, bne_eq_false_iff_eq, Bool.and_eq_true, Bool.or_eq_true, Bool.true_eq_false, Bool.false_eq_true] at *
  all_goals try simp (disch := first | omega | grind [CtP]) only [wr] at *
  all_goals first
    | assumption
    | omega
    | exact hk _ (by simp only [CtP, eq_comm (a := t.have_)]; grind)
    | exact hk _ (by grind [CtP])
    | (simp only [LIM] at *; omega)
    | grind [CtP, LIM]
theorem w_impl_CrdTxOk : Valid Try.prog 24 c_impl_CrdTxOk :=
  valid_ctr2 (V := V_impl_CrdTxOk) (tysB_ok tys_ok) ⟨(CallsL.cons w_impl_CfgOk (CallsL.cons w_impl_in (CallsL.cons w_impl_CfgOpts_partsOk (CallsL.nil _)))), (IosL.nil _)⟩ mixed 0 2 Try.func24 rfl (by kernel_rfl)
    (fun c hc => by
      obtain rfl := Option.some.inj hc
      exact ⟨trivial, ⟨trivial, trivial⟩⟩)
    (fun x K hp hk => ⟨_, by kernel_rfl, vF_impl_CrdTxOk x.1 x.2 K hp (fun r h => hk r h)⟩)
theorem vF_spec_CrdTxOk (c:Cfg) (t:CtS) (K:List Arg→List (List AC)→Prop) (hp:True) (hk:∀ (r:Bool),(r=decide (CtP c t))→K ([rB.to r]) ([])):(true=true)∧(True∧(∀ r:Bool,(r=(decide (CfgP c)))→(true=true)∧(if (r=true) then ((true=true)∧(True∧(∀ r1:Bool,(r1=(decide (((0:Int)≤t.have_)∧(t.have_≤(255:Int)))))→(true=true)∧(if (r1=true) then (if ((decide ((((List.length t.queue):Nat):Int)≤(24:Int)))=true) then ((true=true)∧(True∧(∀ r2:Bool,(r2=(decide (((0:Int)≤t.granted)∧(t.granted≤(9999:Int)))))→(true=true)∧(if (r2=true) then ((true=true)∧(True∧(∀ r3:Bool,(r3=(decide (((0:Int)≤t.sent)∧(t.sent≤(9999:Int)))))→(true=true)∧(if (r3=true) then (if (((IntKind.wrap IntKind.i64 (t.granted - t.sent)) == t.have_)=true) then ((true=true)∧(((List.length t.queue)≤(1000:Nat))∧(∀ r4:Bool,(r4=(decide (PartsP c.mps t.queue)))→(true=true)∧((true=true)∧(K [(aB r4)] []))))) else ((true=true)∧(K [(aB false)] []))) else ((true=true)∧(K [(aB false)] [])))))) else ((true=true)∧(K [(aB false)] [])))))) else ((true=true)∧(K [(aB false)] []))) else ((true=true)∧(K [(aB false)] [])))))) else ((true=true)∧(K [(aB false)] []))))) := by
  repeat' first
    | exact rfl
    | exact True.intro
    | with_reducible apply And.intro
    | (with_reducible intro y_ hy_; subst hy_)
    | with_reducible intro y_
    | (refine iteI (fun h => ?_) (fun h => ?_))
  all_goals try simp only [Bool.not_eq_true', decide_eq_false_iff_not, decide_eq_true_eq, Bool.not_eq_true, bne_iff_ne, beq_iff_eq, ne_eq, Decidable.not_not, Bool.not_eq_false, gt_iff_lt, ge_iff_le, Int.not_le, Int.not_lt, beq_eq_false_iff_ne, bne_eq_false_iff_eq, Bool.and_eq_true, Bool.or_eq_true, Bool.true_eq_false, Bool.false_eq_true] at *
  all_goals try simp (disch := first | omega | grind [CtP]) only [wr] at *
  all_goals first
    | assumption
    | omega
    | exact hk _ (by simp only [CtP, eq_comm (a := t.have_)]; grind)
    | exact hk _ (by grind [CtP])
    | (simp only [LIM] at *; omega)
    | grind [CtP, LIM]
theorem w_spec_CrdTxOk : Valid Try.prog 38 c_spec_CrdTxOk :=
  valid_ctr2 (V := V_spec_CrdTxOk) (tysB_ok tys_ok) ⟨(CallsL.cons w_spec_CfgOk (CallsL.cons w_spec_l1In (CallsL.cons w_spec_l6Parts (CallsL.nil _)))), (IosL.nil _)⟩ mixed 0 2 Try.func38 rfl (by kernel_rfl)
    (fun c hc => by
      obtain rfl := Option.some.inj hc
      exact ⟨trivial, ⟨trivial, trivial⟩⟩)
    (fun x K hp hk => ⟨_, by kernel_rfl, vF_spec_CrdTxOk x.1 x.2 K hp (fun r h => hk r h)⟩)
end Go.Proofs.YtjjplncopjimdaaE
