/- A part of the proof of laws of the program: what calls of the program answer. Conditions: none. -/
import Derived.Test.YtkencmgcibbfaaaM83768b2f
set_option linter.unusedVariables false
set_option linter.unusedSimpArgs false
set_option linter.unusedSectionVars false
/- Contracts: O. Conditions: none. -/
set_option linter.unusedVariables false
set_option maxHeartbeats 1600000
namespace Go.Proofs.YtkencmgcibbfaaaE
open Go
def CtP (c : Cfg) (t : CtS) : Prop := CfgP c ∧ (0 ≤ t.have_ ∧ t.have_ ≤ 255) ∧ (0 ≤ t.granted ∧ t.granted ≤ 9999) ∧ (0 ≤ t.sent ∧ t.sent ≤ 9999) ∧ t.have_ = t.granted - t.sent ∧ t.queue.length ≤ 24 ∧ PartsP c.mps t.queue
instance (c : Cfg) (t : CtS) : Decidable (CtP c t) := by unfold CtP; infer_instance
def zCt : CtS := ⟨0, [], 0, 0, false⟩
/-- Who sends for credits, its queue a row of one's own. -/
def oCt (t : CtS) : Arg := .v true [.d (.i .i64 t.have_), .own ⟨102, .part, t.queue, m0⟩, .d (.i .i64 t.granted), .d (.i .i64 t.sent), .d (.b t.dead)]
structure CtPutR where
  t : CtS
  ok : Bool
def crdPut (c : Cfg) (t : CtS) (s : List Int) : CtPutR :=
  if CtP c t then (if t.dead = true ∨ (s.length : Int) > c.mtu ∨ 24 < t.queue.length + (segCut s c.mps).length then ⟨t, false⟩ else ⟨{ t with queue := t.queue ++ segCut s c.mps }, true⟩) else ⟨zCt, false⟩
structure CtSendR where
  t : CtS
  f : Frm
  ok : Bool
def pieceF (p : Part) : Frm := ⟨3, 0, 0, false, false, 0, p.seg, p.len, p.data⟩
def crdSend (c : Cfg) (t : CtS) : CtSendR :=
  if CtP c t then (if t.dead = true ∨ t.have_ = 0 ∨ t.queue.length = 0 ∨ t.sent = 9999 then ⟨t, zFrm, false⟩ else ⟨⟨t.have_ - 1, t.queue.drop 1, t.granted, t.sent + 1, t.dead⟩, pieceF (at_part t.queue 0), true⟩) else ⟨zCt, zFrm, false⟩
def crdTake (c : Cfg) (t : CtS) (n : Int) : CtS :=
  if CtP c t ∧ 1 ≤ n ∧ n ≤ 255 then (if t.dead = true then t else if t.have_ + n > 255 ∨ t.granted + n > 9999 then { t with dead := true } else ⟨t.have_ + n, t.queue, t.granted + n, t.sent, t.dead⟩) else zCt
theorem CtP.len {c : Cfg} {t : CtS} (h : CtP c t) : t.queue.length ≤ 24 := h.2.2.2.2.2.1
theorem PartsP.data {m : Int} {l : List Part} (h : PartsP m l) : ∀ p ∈ l, p.data.length ≤ 24 := fun p hp => by
  have := (h p hp).1
  unfold PartP SegP at this
  omega
theorem CtP.data {c : Cfg} {t : CtS} (h : CtP c t) : ∀ p ∈ t.queue, p.data.length ≤ 137438953472 := fun p hp => by
  have := h.2.2.2.2.2.2.data p hp
  omega
theorem drop1 (l : List Part) : List.take (((l.length : Nat) : Int).toNat - 1) (List.drop 1 l) = List.drop 1 l := by
  rw [Int.toNat_natCast]
  exact List.take_of_length_le (by rw [List.length_drop]; omega)
theorem at0_mem {l : List Part} (h : ¬ l.length = 0) : at_part l 0 ∈ l := at_mem .part l 0 (show 0 < l.length by omega)

/-! impl.CrdTxOk -/
def c_impl_CrdTxOk : Ent := ctr (α := (Cfg) × (CtS)) (ρ := (Bool)) [] [] (rs rCfg (rs1 rCt)) (fun x_ => (fun (c : Cfg) (t : CtS) => (True)) x_.1 x_.2) (fun x_ r_ => (fun x_ => (fun (c : Cfg) (t : CtS) => ((fun r_ => (fun (r : Bool) => (r = decide (CtP c t))) r_))) x_.1 x_.2) x_ r_) (fun r_ => (fun (r : Bool) => ([rB.to r])) r_) (fun r_ => (fun (r : Bool) => ([])) r_)
def V_impl_CrdTxOk : Env := ⟨tys, [(20, c_impl_CfgOk), (28, c_impl_in), (53, c_impl_CfgOpts_partsOk)], [], [(2, 0), (3, 1)], [], [], [500007, 500012, 500017, 500022, 500032, 500038], [], []⟩
/-! laws.liPart -/
def c_laws_liPart : Ent := ctr (α := (Part) × (Part)) (ρ := (Bool)) [] [] (rs rPart (rs1 rPart)) (fun x_ => (fun (a : Part) (b : Part) => (a.data.length ≤ LIM)) x_.1 x_.2) (fun x_ r_ => (fun x_ => (fun (a : Part) (b : Part) => ((fun r_ => (fun (r : Bool) => (r = decide (a = b))) r_))) x_.1 x_.2) x_ r_) (fun r_ => (fun (r : Bool) => ([rB.to r])) r_) (fun r_ => (fun (r : Bool) => ([])) r_)
def V_laws_liPart : Env := ⟨tys, [(47, c_laws_liBytes)], [], [(2, 0), (3, 1)], [], [], [500010, 500017], [], []⟩
/-! laws.liParts -/
def c_laws_liParts : Ent := ctr (α := (List Part) × (List Part)) (ρ := (Bool)) [] [] (rs (rR .part) (rs1 (rR .part))) (fun x_ => (fun (a : List Part) (b : List Part) => (a.length ≤ LIM ∧ ∀ y ∈ a, y.data.length ≤ LIM)) x_.1 x_.2) (fun x_ r_ => (fun x_ => (fun (a : List Part) (b : List Part) => ((fun r_ => (fun (r : Bool) => (r = decide (a = b))) r_))) x_.1 x_.2) x_ r_) (fun r_ => (fun (r : Bool) => ([rB.to r])) r_) (fun r_ => (fun (r : Bool) => ([])) r_)
def l_laws_liParts_0 : LoopD ((List Part) × (List Part) × (Int)) ((Unit)) ((Unit)) where
  n := 27
  head := ⟨[0, 1, 5], [], []⟩
  st := fun x_ => (fun (a : List Part) (b : List Part) (i : Int) => (⟨true, [(0, .v false [.d (.r .part a)]), (1, .v false [.d (.r .part b)]), (5, num .i64 i)], [], []⟩)) x_.1 x_.2.1 x_.2.2
  pre := fun x_ => (fun (a : List Part) (b : List Part) (i : Int) => (a.length = b.length ∧ i = 0 ∧ a.length ≤ LIM ∧ ∀ y ∈ a, y.data.length ≤ LIM)) x_.1 x_.2.1 x_.2.2
  nk := ⟨[], [], []⟩
  nst := fun r_ => (fun (u : Unit) => (⟨true, [], [], []⟩)) r_
  npost := fun x_ r_ => (fun x_ => (fun (a0 : List Part) (b0 : List Part) (i0 : Int) => ((fun r_ => (fun (u : Unit) => (a0 = b0)) r_))) x_.1 x_.2.1 x_.2.2) x_ r_
  rk := ⟨[4], [], []⟩
  rst := fun r_ => (fun (u : Unit) => (⟨true, [(4, boo false)], [], []⟩)) r_
  rpost := fun x_ r_ => (fun x_ => (fun (a0 : List Part) (b0 : List Part) (i0 : Int) => ((fun r_ => (fun (u : Unit) => (a0 ≠ b0)) r_))) x_.1 x_.2.1 x_.2.2) x_ r_
def i_laws_liParts_0 (x : (List Part) × (List Part) × (Int)) (n : Nat) (s : (List Part) × (List Part) × (Int)) : Prop := (fun x_ => (fun (a0 : List Part) (b0 : List Part) (i0 : Int) => ((fun s_ => (fun (a : List Part) (b : List Part) (i : Int) => (a = a0 ∧ b = b0 ∧ a.length = b.length ∧ a.length ≤ LIM ∧ (∀ y ∈ a, y.data.length ≤ LIM) ∧ 0 ≤ i ∧ i + n = a.length ∧ a.take i.toNat = b.take i.toNat)) s_.1 s_.2.1 s_.2.2))) x_.1 x_.2.1 x_.2.2) x s
def V_laws_liParts : Env := ⟨tys, [(69, c_laws_liPart)], [], [], [], [(0, l_laws_liParts_0.L)], [], [], [(6, [(0, false), (1, false), (2, false), (3, false), (4, false), (5, false), (6, false), (7, false), (8, true), (9, false)])]⟩
/-! laws.liCtx -/
def c_laws_liCtx : Ent := ctr (α := (CtS) × (CtS)) (ρ := (Bool)) [] [] (rs rCt (rs1 rCt)) (fun x_ => (fun (a : CtS) (b : CtS) => (a.queue.length ≤ LIM ∧ ∀ y ∈ a.queue, y.data.length ≤ LIM)) x_.1 x_.2) (fun x_ r_ => (fun x_ => (fun (a : CtS) (b : CtS) => ((fun r_ => (fun (r : Bool) => (r = decide (a = b))) r_))) x_.1 x_.2) x_ r_) (fun r_ => (fun (r : Bool) => ([rB.to r])) r_) (fun r_ => (fun (r : Bool) => ([])) r_)
def V_laws_liCtx : Env := ⟨tys, [(48, c_laws_liParts)], [], [(2, 0), (3, 1)], [], [], [500010, 500017, 500024, 500031], [], []⟩
end Go.Proofs.YtkencmgcibbfaaaE

/- Calls answer what is promised: O. Conditions: none. -/
set_option linter.unusedVariables false
set_option maxHeartbeats 1600000
namespace Go.Proofs.YtkencmgcibbfaaaE
open Go
theorem vF_impl_CrdTxOk (c:Cfg) (t:CtS) (K:List Arg→List (List AC)→Prop) (hp:True) (hk:∀ (r:Bool),(r=decide (CtP c t))→K ([rB.to r]) ([])):(true=true)∧(True∧(∀ r:Bool,(r=(decide (CfgP c)))→(true=true)∧(if (r=true) then ((true=true)∧(True∧(∀ r1:Bool,(r1=(decide (((0:Int)≤t.have_)∧(t.have_≤(255:Int)))))→(true=true)∧(if (r1=true) then ((true=true)∧(True∧(∀ r2:Bool,(r2=(decide (((0:Int)≤t.granted)∧(t.granted≤(9999:Int)))))→(true=true)∧(if (r2=true) then ((true=true)∧(True∧(∀ r3:Bool,(r3=(decide (((0:Int)≤t.sent)∧(t.sent≤(9999:Int)))))→(true=true)∧(if (r3=true) then (if ((t.have_ == (IntKind.wrap IntKind.i64 (t.granted - t.sent)))=true) then (if ((decide ((((List.length t.queue):Nat):Int)≤(24:Int)))=true) then ((true=true)∧(((List.length t.queue)≤(1000:Nat))∧(∀ r4:Bool,(r4=(decide (PartsP c.mps t.queue)))→(true=true)∧((true=true)∧(K [(aB r4)] []))))) else ((true=true)∧(K [(aB false)] []))) else ((true=true)∧(K [(aB false)] []))) else ((true=true)∧(K [(aB false)] [])))))) else ((true=true)∧(K [(aB false)] [])))))) else ((true=true)∧(K [(aB false)] [])))))) else ((true=true)∧(K [(aB false)] []))))) := by
  repeat' first
    | exact rfl
    | exact True.intro
    | with_reducible apply And.intro
    | (with_reducible intro y_ hy_; subst hy_)
    | with_reducible intro y_
    | (refine iteI (fun h => ?_) (fun h => ?_))
  all_goals try simp only [Bool.not_eq_true', decide_eq_false_iff_not, decide_eq_true_eq, Bool.not_eq_true, bne_iff_ne, beq_iff_eq, ne_eq, Decidable.not_not, Bool.not_eq_false, gt_iff_lt, ge_iff_le, Int.not_le, Int.not_lt, beq_eq_false_iff_ne, bne_eq_false_iff_eq, Bool.and_eq_true, Bool.or_eq_true, Bool.true_eq_false, Bool.false_eq_true] at *
  all_goals try simp (disch := first | omega | grind [CtP]) only [wr] at *
  all_goals first
    | assumption
    | omega
    | exact hk _ (by simp only [CtP, eq_comm (a := t.have_)]; grind)
    | exact hk _ (by grind [CtP])
    | (simp only [LIM] at *; omega)
    | grind [CtP, LIM]
theorem w_impl_CrdTxOk : Valid Try.prog 31 c_impl_CrdTxOk :=
  valid_ctr2 (V := V_impl_CrdTxOk) (tysB_ok tys_ok) ⟨(CallsL.cons w_impl_CfgOk (CallsL.cons w_impl_in (CallsL.cons w_impl_CfgOpts_partsOk (CallsL.nil _)))), (IosL.nil _)⟩ mixed 0 2 Try.func31 rfl (by kernel_rfl)
    (fun c hc => by
      obtain rfl := Option.some.inj hc
      exact ⟨trivial, ⟨trivial, trivial⟩⟩)
    (fun x K hp hk => ⟨_, by kernel_rfl, vF_impl_CrdTxOk x.1 x.2 K hp (fun r h => hk r h)⟩)
theorem vF_laws_liPart (a:Part) (b:Part) (K:List Arg→List (List AC)→Prop) (hp:a.data.length≤LIM) (hk:∀ (r:Bool),(r=decide (a=b))→K ([rB.to r]) ([])):if ((a.seg == b.seg)=true) then (if ((a.len == b.len)=true) then ((true=true)∧((((List.length a.data)≤(137438953472:Nat))∧True)∧(∀ r:Bool,(r=(decide (a.data=b.data)))→(true=true)∧((true=true)∧(K [(aB r)] []))))) else ((true=true)∧(K [(aB false)] []))) else ((true=true)∧(K [(aB false)] [])) := by
  obtain ⟨_, _, _⟩ := a
  obtain ⟨_, _, _⟩ := b

  repeat' first
    | exact rfl
    | exact True.intro
    | with_reducible apply And.intro
    | (with_reducible intro r hr; subst hr)
    | with_reducible intro r
    | (refine iteI (fun h => ?_) (fun h => ?_))
  all_goals try simp (disch := omega) only [wr] at *
  all_goals first
    | assumption
    | exact ⟨hp, trivial⟩
    | exact hk _ (by grind [IntKind.wrap_i64])
    | (simp only [LIM] at *; omega)
    | grind [LIM]
theorem w_laws_liPart : Valid Try.prog 69 c_laws_liPart :=
  valid_ctr2 (V := V_laws_liPart) (tysB_ok tys_ok) ⟨(CallsL.cons w_laws_liBytes (CallsL.nil _)), (IosL.nil _)⟩ mixed 0 2 Try.func69 rfl (by kernel_rfl)
    (fun c hc => by
      obtain rfl := Option.some.inj hc
      exact ⟨trivial, ⟨trivial, trivial⟩⟩)
    (fun x K hp hk => ⟨_, by kernel_rfl, vF_laws_liPart x.1 x.2 K hp (fun r h => hk r h)⟩)
theorem vF_laws_liParts (a:List Part) (b:List Part) (K:List Arg→List (List AC)→Prop) (hp:a.length≤LIM∧∀ y ∈ a,y.data.length≤LIM) (hk:∀ (r:Bool),(r=decide (a=b))→K ([rB.to r]) ([])):if (((((List.length a):Nat):Int) != (((List.length b):Nat):Int))=true) then ((true=true)∧(K [(aB false)] [])) else (∃ s:(Prod (List Part) (Prod (List Part) Int)),((KS.mk true [(Prod.mk (0:Nat) (T.v false [(Cm.d (D.r RK.part a))])),(Prod.mk (1:Nat) (T.v false [(Cm.d (D.r RK.part b))])),(Prod.mk (5:Nat) (num IntKind.i64 (0:Int)))] [] [])=(KS.mk true [(Prod.mk (0:Nat) (T.v false [(Cm.d (D.r RK.part s.fst))])),(Prod.mk (1:Nat) (T.v false [(Cm.d (D.r RK.part s.snd.fst))])),(Prod.mk (5:Nat) (num IntKind.i64 s.snd.snd))] [] []))∧((((List.length s.fst)=(List.length s.snd.fst))∧((s.snd.snd=(0:Int))∧(((List.length s.fst)≤(137438953472:Nat))∧(∀ y:Part,(List.Mem y s.fst)→((List.length y.data)≤(137438953472:Nat))))))∧((∀ r:Unit,(s.fst=s.snd.fst)→(true=true)∧(K [(aB true)] []))∧(∀ r:Unit,(s.fst ≠ s.snd.fst)→(true=true)∧(K [(aB false)] []))))) := by
  refine iteI (fun h => ?_) (fun h => ?_)
  · refine ⟨by trivial, hk false ?_⟩
    symm; rw [decide_eq_false_iff_not]; rintro rfl; simp at h
  · have h1 : a.length = b.length := by simp at h; omega
    refine ⟨(a, b, 0), rfl, ⟨h1, rfl, hp.1, hp.2⟩, fun _ hr => ⟨by trivial, hk true (by simp; exact hr)⟩, fun _ hr => ⟨by trivial, hk false (by simp; exact hr)⟩⟩
theorem vL_laws_liParts_0 (a0:List Part) (b0:List Part) (i0:Int) (a:List Part) (b:List Part) (i:Int) (n:Nat) (hp:(fun (a:List Part) (b:List Part) (i:Int) => (a.length=b.length∧i=0∧a.length≤LIM∧∀ y ∈ a,y.data.length≤LIM)) a0 b0 i0) (hi:a=a0∧b=b0∧a.length=b.length∧a.length≤LIM∧(∀ y ∈ a,y.data.length≤LIM)∧0≤i∧i + n=a.length∧a.take i.toNat=b.take i.toNat):if ((decide (i < (((List.length a):Nat):Int)))=true) then ((((0:Int)≤i)∧(i < (((List.length a):Nat):Int)))∧((((0:Int)≤i)∧(i < (((List.length b):Nat):Int)))∧((true=true)∧(((List.length (at_part a (Int.toNat i)).data)≤(137438953472:Nat))∧(∀ r:Bool,(r=(decide ((at_part a (Int.toNat i))=(at_part b (Int.toNat i)))))→(true=true)∧((true=true)∧(if ((!r)=true) then (∃ r1:Unit,((KS.mk true [(Prod.mk (4:Nat) (boo false))] [] [])=(KS.mk true [(Prod.mk (4:Nat) (boo false))] [] []))∧(a0 ≠ b0)) else (∃ s:(Prod (List Part) (Prod (List Part) Int)),((KS.mk true [(Prod.mk (0:Nat) (T.v false [(Cm.d (D.r RK.part a))])),(Prod.mk (1:Nat) (T.v false [(Cm.d (D.r RK.part b))])),(Prod.mk (5:Nat) (num IntKind.i64 (IntKind.wrap IntKind.i64 (i + (1:Int)))))] [] [])=(KS.mk true [(Prod.mk (0:Nat) (T.v false [(Cm.d (D.r RK.part s.fst))])),(Prod.mk (1:Nat) (T.v false [(Cm.d (D.r RK.part s.snd.fst))])),(Prod.mk (5:Nat) (num IntKind.i64 s.snd.snd))] [] []))∧(∃ m:Nat,(m < n)∧((s.fst=a0)∧((s.snd.fst=b0)∧(((List.length s.fst)=(List.length s.snd.fst))∧(((List.length s.fst)≤(137438953472:Nat))∧((∀ y:Part,(List.Mem y s.fst)→((List.length y.data)≤(137438953472:Nat)))∧(((0:Int)≤s.snd.snd)∧(((s.snd.snd + ((m:Nat):Int))=(((List.length s.fst):Nat):Int))∧((List.take (Int.toNat s.snd.snd) s.fst)=(List.take (Int.toNat s.snd.snd) s.snd.fst)))))))))))))))))) else (∃ r:Unit,((KS.mk true [] [] [])=(KS.mk true [] [] []))∧(a0=b0)) := by
  try dsimp only at hp
  obtain ⟨rfl, rfl, h1, h2, hw, h3, h4, h5⟩ := hi
  have hL : a.length ≤ 137438953472 := h2
  obtain ⟨i, rfl⟩ : ∃ m : Nat, i = m := ⟨i.toNat, by omega⟩
  rw [wr (x := (i : Int) + 1) (by omega) (by omega)]
  simp only [Int.toNat_natCast] at h5 ⊢
  refine iteI (fun h => ?_) (fun h => ?_)
  · have hi : i < a.length := by simp at h; omega
    refine ⟨⟨by omega, by omega⟩, ⟨by omega, by omega⟩, by trivial, ?_⟩
    have ea : a.take (i + 1) = a.take i ++ [at_part a i] := take_at .part a i hi
    have eb : b.take (i + 1) = b.take i ++ [at_part b i] := take_at .part b i (show i < b.length by omega)
    refine ⟨hw _ (at_mem .part a i hi), fun r hr => ?_⟩
    subst hr
    repeat refine ⟨by trivial, ?_⟩
    refine iteI (fun hx => ?_) (fun hx => ?_)
    · refine ⟨(), by trivial, fun he => ?_⟩
      simp [he] at hx
    · refine ⟨(a, b, (i : Int) + 1), rfl, n - 1, by omega, rfl, rfl, h1, h2, hw, by dsimp only; omega, by dsimp only; omega, ?_⟩
      dsimp only
      rw [show ((i : Int) + 1).toNat = i + 1 by omega, ea, eb, h5]
      simp at hx
      exact congrArg (fun z => List.take i b ++ [z]) hx
  · have hi : i = a.length := by simp at h; omega
    subst hi
    refine ⟨(), by trivial, ?_⟩
    rw [List.take_length, h1, List.take_length] at h5
    exact h5
theorem vS_laws_liParts_0 (a0 : List Part) (b0 : List Part) (i0 : Int) (hp : (fun (a : List Part) (b : List Part) (i : Int) => (a.length = b.length ∧ i = 0 ∧ a.length ≤ LIM ∧ ∀ y ∈ a, y.data.length ≤ LIM)) a0 b0 i0) : ∃ n : Nat, (fun (a : List Part) (b : List Part) (i : Int) => (a = a0 ∧ b = b0 ∧ a.length = b.length ∧ a.length ≤ LIM ∧ (∀ y ∈ a, y.data.length ≤ LIM) ∧ 0 ≤ i ∧ i + n = a.length ∧ a.take i.toNat = b.take i.toNat)) a0 b0 i0 := by
  try dsimp only at hp
  try dsimp only
  obtain ⟨h1, h2, h3, hw⟩ := hp
  exact ⟨a0.length, rfl, rfl, h1, h3, hw, by omega, by omega, by subst h2; simp⟩
theorem w_laws_liParts : Valid Try.prog 48 c_laws_liParts :=
  valid_ctr2 (V := V_laws_liParts) (tysB_ok tys_ok) ⟨(CallsL.cons w_laws_liPart (CallsL.nil _)), (IosL.nil _)⟩ mixed 0 0 Try.func48 rfl (by kernel_rfl)
    (fun c hc => by
      obtain rfl := Option.some.inj hc
      exact ⟨trivial, ⟨⟨trivial, ⟨⟨trivial, trivial⟩, trivial⟩⟩, ⟨⟨trivial, ⟨LoopD.ok2 (V := V_laws_liParts) l_laws_liParts_0 (LoopsM.cons 0 l_laws_liParts_0 LoopsM.nil) 0 _ i_laws_liParts_0 (fun x hx => vS_laws_liParts_0 x.1 x.2.1 x.2.2 hx) (fun x hx n s hi => ⟨_, by kernel_rfl, vL_laws_liParts_0 x.1 x.2.1 x.2.2 s.1 s.2.1 s.2.2 n hx hi⟩), ⟨⟨trivial, ⟨trivial, trivial⟩⟩, ⟨⟨trivial, ⟨⟨trivial, trivial⟩, trivial⟩⟩, trivial⟩⟩⟩⟩, ⟨trivial, trivial⟩⟩⟩⟩)
    (fun x K hp hk => ⟨_, by kernel_rfl, vF_laws_liParts x.1 x.2 K hp (fun r h => hk r h)⟩)
theorem vF_laws_liCtx (a:CtS) (b:CtS) (K:List Arg→List (List AC)→Prop) (hp:a.queue.length≤LIM∧∀ y ∈ a.queue,y.data.length≤LIM) (hk:∀ (r:Bool),(r=decide (a=b))→K ([rB.to r]) ([])):if ((a.have_ == b.have_)=true) then ((true=true)∧((((List.length a.queue)≤(137438953472:Nat))∧(∀ y:Part,(List.Mem y a.queue)→((List.length y.data)≤(137438953472:Nat))))∧(∀ r:Bool,(r=(decide (a.queue=b.queue)))→(true=true)∧(if (r=true) then (if ((a.granted == b.granted)=true) then (if ((a.sent == b.sent)=true) then ((true=true)∧(K [(aB (a.dead == b.dead))] [])) else ((true=true)∧(K [(aB false)] []))) else ((true=true)∧(K [(aB false)] []))) else ((true=true)∧(K [(aB false)] [])))))) else ((true=true)∧(K [(aB false)] [])) := by
  obtain ⟨_, _, _, _, _⟩ := a
  obtain ⟨_, _, _, _, _⟩ := b

  repeat' first
    | exact rfl
    | exact True.intro
    | with_reducible apply And.intro
    | (with_reducible intro y_ hy_; subst hy_)
    | with_reducible intro y_
    | (refine iteI (fun h => ?_) (fun h => ?_))
  all_goals try simp only [Bool.not_eq_true', decide_eq_false_iff_not, decide_eq_true_eq, Bool.not_eq_true, bne_iff_ne, beq_iff_eq, ne_eq, Decidable.not_not, Bool.not_eq_false, gt_iff_lt, ge_iff_le, Int.not_le, Int.not_lt, beq_eq_false_iff_ne, bne_eq_false_iff_eq, Bool.and_eq_true, Bool.or_eq_true, Bool.true_eq_false, Bool.false_eq_true] at *
  all_goals try simp (disch := first | omega | grind []) only [wr] at *
  all_goals first
    | assumption
    | omega
    | exact hp.1
    | exact hp.2 _ ‹List.Mem _ _›
    | exact hk _ (by grind [])
    | (simp only [LIM] at *; omega)
    | grind [LIM]
theorem w_laws_liCtx : Valid Try.prog 25 c_laws_liCtx :=
  valid_ctr2 (V := V_laws_liCtx) (tysB_ok tys_ok) ⟨(CallsL.cons w_laws_liParts (CallsL.nil _)), (IosL.nil _)⟩ mixed 0 2 Try.func25 rfl (by kernel_rfl)
    (fun c hc => by
      obtain rfl := Option.some.inj hc
      exact ⟨trivial, ⟨trivial, trivial⟩⟩)
    (fun x K hp hk => ⟨_, by kernel_rfl, vF_laws_liCtx x.1 x.2 K hp (fun r h => hk r h)⟩)
end Go.Proofs.YtkencmgcibbfaaaE
