/- A part of the proof of laws of the program: what calls of the program answer. Conditions: none. -/
import Derived.Test.YtkencmgcibbfaaaM4b4d7069
set_option linter.unusedVariables false
set_option linter.unusedSimpArgs false
set_option linter.unusedSectionVars false
/- Contracts: N. Conditions: none. -/
set_option linter.unusedVariables false
set_option maxHeartbeats 1600000
namespace Go.Proofs.YtkencmgcibbfaaaE
open Go
def rPCfg : Rep Cfg := rP cfgC mkCfg mkCfg_cells
def PartsP (m : Int) (l : List Part) : Prop := ∀ p ∈ l, PartP p ∧ (p.data.length : Int) ≤ m
instance (m : Int) (l : List Part) : Decidable (PartsP m l) := by unfold PartsP; infer_instance
theorem PartsP.nil (m : Int) : PartsP m [] := fun p h => by simp at h
theorem PartsP.append {m : Int} {l k : List Part} (h : PartsP m l) (h' : PartsP m k) : PartsP m (l ++ k) := fun p hp => by
  rcases List.mem_append.1 hp with hp | hp
  · exact h p hp
  · exact h' p hp
theorem PartsP.left {m : Int} {l k : List Part} (h : PartsP m (l ++ k)) : PartsP m l := fun p hp => h p (List.mem_append_left _ hp)
theorem PartsP.right {m : Int} {l k : List Part} (h : PartsP m (l ++ k)) : PartsP m k := fun p hp => h p (List.mem_append_right _ hp)
theorem PartsP.one {m : Int} {p : Part} : PartsP m [p] ↔ PartP p ∧ (p.data.length : Int) ≤ m := by simp [PartsP]
theorem set_same (l : List Part) (i : Nat) : l.set i (at_part l i) = l := by
  by_cases h : i < l.length
  · have e : at_part l i = l[i] := by
      show l.getD i _ = _
      rw [List.getD_eq_getElem?_getD, List.getElem?_eq_getElem h]; rfl
    rw [e]; exact List.set_getElem_self h
  · exact List.set_eq_of_length_le (by omega)
/-- A message's piece that begins at a byte. -/
def segAt (s : List Int) (m a : Nat) : Part := ⟨if a = 0 then 1 else if s.length ≤ a + m then 3 else 2, if a = 0 then (s.length : Int) else 0, (s.drop a).take (min s.length (a + m) - a)⟩
def segLoop (s : List Int) (m : Nat) : Nat → List Part
  | 0 => []
  | k + 1 => segLoop s m k ++ [segAt s m (k * m)]
def segCut (s : List Int) (m : Int) : List Part :=
  if 24 < s.length ∨ ¬ (1 ≤ m ∧ m ≤ 8) then [] else if (s.length : Int) ≤ m then [⟨0, s.length, s⟩] else segLoop s m.toNat ((s.length + m.toNat - 1) / m.toNat)
theorem segLoop_len (s : List Int) (m : Nat) : ∀ k, (segLoop s m k).length = k
  | 0 => rfl
  | k + 1 => by simp [segLoop, segLoop_len s m k]
theorem seg_count {n m k : Nat} (h0 : 0 < m) (h1 : n ≤ k * m) (h2 : k * m < n + m) (hn : 0 < n) : k = (n + m - 1) / m := by
  symm
  apply Nat.div_eq_of_lt_le
  · omega
  · rw [Nat.succ_mul]; omega
theorem segCut_len (s : List Int) (m : Int) : (segCut s m).length ≤ 24 := by
  unfold segCut
  split
  · simp
  · split
    · simp
    · rw [segLoop_len]
      rename_i h1 h2
      have hm : 0 < m.toNat := by omega
      apply Nat.le_of_lt_succ
      rw [Nat.div_lt_iff_lt_mul hm]
      have h5 : m.toNat * 25 ≥ 25 := by omega
      have : s.length ≤ 24 := by omega
      have e : 25 * m.toNat = 25 * (m.toNat - 1) + 25 := by omega
      show s.length + m.toNat - 1 < (24 + 1) * m.toNat
      omega
theorem segLoop_ok {s : List Int} {m : Nat} (h1 : 1 ≤ m) (h2 : m ≤ 8) (h3 : s.length ≤ 24) (h4 : m < s.length) : ∀ k, (k - 1) * m < s.length → PartsP m (segLoop s m k)
  | 0, _ => PartsP.nil _
  | k + 1, h => by
    have hk : k * m < s.length := by simpa using h
    refine (segLoop_ok h1 h2 h3 h4 k (Nat.lt_of_le_of_lt (Nat.mul_le_mul_right m (by omega)) hk)).append (PartsP.one.2 ?_)
    have hl : ((s.drop (k * m)).take (min s.length (k * m + m) - k * m)).length = min s.length (k * m + m) - k * m := by
      rw [List.length_take, List.length_drop]; omega
    unfold segAt PartP SegP
    dsimp only
    rw [hl]
    by_cases ha : k * m = 0
    · rw [if_pos ha, if_pos ha]; omega
    · rw [if_neg ha, if_neg ha]
      split <;> omega
theorem segCut_ok (s : List Int) {m : Int} : PartsP m (segCut s m) := by
  unfold segCut
  split
  · exact PartsP.nil _
  · rename_i h
    split
    · rename_i h2
      refine PartsP.one.2 ⟨?_, h2⟩
      unfold PartP SegP
      dsimp only
      omega
    · rename_i h2
      obtain ⟨m, rfl⟩ : ∃ n : Nat, m = n := ⟨m.toNat, by omega⟩
      simp only [Int.toNat_natCast]
      refine segLoop_ok (by omega) (by omega) (by omega) (by omega) _ ?_
      have hm : 0 < m := by omega
      have h5 := Nat.div_mul_le_self (s.length + m - 1) m
      generalize (s.length + m - 1) / m = q at h5
      cases q with
      | zero => simp; omega
      | succ q =>
        rw [Nat.succ_mul] at h5
        simp only [Nat.add_sub_cancel]
        omega
theorem segCut_data (s : List Int) (m : Int) : ∀ p ∈ segCut s m, p.data.length ≤ 24 := by
  intro p hp
  have h := (segCut_ok s (m := m) p hp).1
  unfold PartP SegP at h
  omega

/-! (impl.CfgOpts).partsOk$1 -/
def c_impl_CfgOpts_partsOk_1 : Ent := ctr (α := (Part) × (Cfg)) (ρ := (Bool) × (Cfg)) [] [] (rs rPart (rs1 rPCfg)) (fun x_ => (fun (p : Part) (c : Cfg) => (True)) x_.1 x_.2) (fun x_ r_ => (fun x_ => (fun (p : Part) (c : Cfg) => ((fun r_ => (fun (r : Bool) (q : Cfg) => (q = c ∧ r = !decide (PartP p ∧ (p.data.length : Int) ≤ c.mps))) r_.1 r_.2))) x_.1 x_.2) x_ r_) (fun r_ => (fun (r : Bool) (q : Cfg) => ([rB.to r])) r_.1 r_.2) (fun r_ => (fun (r : Bool) (q : Cfg) => ([(cfgC q).map .d])) r_.1 r_.2)
def V_impl_CfgOpts_partsOk_1 : Env := ⟨tys, [(72, c_impl_PartOk)], [], [(2, 1)], [], [], [500007], [], []⟩
/-! slices.IndexFunc[[]impl.SegPart,impl.SegPart] -/
def c_slices_IndexFunc_impl_SegPart_impl_SegPart : Ent := ctr (α := (List Part) × (Cfg)) (ρ := (Int) × (Cfg)) [] [] (rs (rR .part) (rs1 rPCfg)) (fun x_ => (fun (l : List Part) (c : Cfg) => (l.length ≤ 1000)) x_.1 x_.2) (fun x_ r_ => (fun x_ => (fun (l : List Part) (c : Cfg) => ((fun r_ => (fun (r : Int) (q : Cfg) => (q = c ∧ decide (r ≥ 0) = !decide (PartsP c.mps l))) r_.1 r_.2))) x_.1 x_.2) x_ r_) (fun r_ => (fun (r : Int) (q : Cfg) => ([rInt.to r])) r_.1 r_.2) (fun r_ => (fun (r : Int) (q : Cfg) => ([(cfgC q).map .d])) r_.1 r_.2) (some (71, true))
def l_slices_IndexFunc_impl_SegPart_impl_SegPart_0 : LoopD ((List Part) × (Cfg) × (Int) × (Int)) ((Cfg)) ((Cfg) × (Int)) where
  n := 19
  head := ⟨[0, 1, 7, 8], [0], []⟩
  st := fun x_ => (fun (l : List Part) (c : Cfg) (m : Int) (i : Int) => (⟨true, [(0, .v false [.d (.r .part l)]), (1, .fn 71 (some (0, 0))), (7, num .i64 m), (8, num .i64 i)], [], [⟨0, some ((cfgC c).map .d)⟩]⟩)) x_.1 x_.2.1 x_.2.2.1 x_.2.2.2
  pre := fun x_ => (fun (l : List Part) (c : Cfg) (m : Int) (i : Int) => (l.length ≤ 1000 ∧ m = l.length ∧ i = 0)) x_.1 x_.2.1 x_.2.2.1 x_.2.2.2
  nk := ⟨[], [0], []⟩
  nst := fun r_ => (fun (c : Cfg) => (⟨true, [], [], [⟨0, some ((cfgC c).map .d)⟩]⟩)) r_
  npost := fun x_ r_ => (fun x_ => (fun (l0 : List Part) (c0 : Cfg) (m0 : Int) (i0 : Int) => ((fun r_ => (fun (c : Cfg) => (c = c0 ∧ PartsP c0.mps l0)) r_))) x_.1 x_.2.1 x_.2.2.1 x_.2.2.2) x_ r_
  rk := ⟨[4], [0], []⟩
  rst := fun r_ => (fun (c : Cfg) (i : Int) => (⟨true, [(4, num .i64 i)], [], [⟨0, some ((cfgC c).map .d)⟩]⟩)) r_.1 r_.2
  rpost := fun x_ r_ => (fun x_ => (fun (l0 : List Part) (c0 : Cfg) (m0 : Int) (i0 : Int) => ((fun r_ => (fun (c : Cfg) (i : Int) => (c = c0 ∧ 0 ≤ i ∧ ¬ PartsP c0.mps l0)) r_.1 r_.2))) x_.1 x_.2.1 x_.2.2.1 x_.2.2.2) x_ r_
def i_slices_IndexFunc_impl_SegPart_impl_SegPart_0 (x : (List Part) × (Cfg) × (Int) × (Int)) (n : Nat) (s : (List Part) × (Cfg) × (Int) × (Int)) : Prop := (fun x_ => (fun (l0 : List Part) (c0 : Cfg) (m0 : Int) (i0 : Int) => ((fun s_ => (fun (l : List Part) (c : Cfg) (m : Int) (i : Int) => (l = l0 ∧ c = c0 ∧ m = l.length ∧ l.length ≤ 1000 ∧ 0 ≤ i ∧ i + n = l.length ∧ PartsP c.mps (l.take i.toNat))) s_.1 s_.2.1 s_.2.2.1 s_.2.2.2))) x_.1 x_.2.1 x_.2.2.1 x_.2.2.2) x s
def V_slices_IndexFunc_impl_SegPart_impl_SegPart : Env := ⟨tys, [(71, c_impl_CfgOpts_partsOk_1)], [], [], [], [(0, l_slices_IndexFunc_impl_SegPart_impl_SegPart_0.L)], [], [], []⟩
/-! slices.ContainsFunc[[]impl.SegPart,impl.SegPart] -/
def c_slices_ContainsFunc_impl_SegPart_impl_SegPart : Ent := ctr (α := (List Part) × (Cfg)) (ρ := (Bool) × (Cfg)) [] [] (rs (rR .part) (rs1 rPCfg)) (fun x_ => (fun (l : List Part) (c : Cfg) => (l.length ≤ 1000)) x_.1 x_.2) (fun x_ r_ => (fun x_ => (fun (l : List Part) (c : Cfg) => ((fun r_ => (fun (r : Bool) (q : Cfg) => (q = c ∧ r = !decide (PartsP c.mps l))) r_.1 r_.2))) x_.1 x_.2) x_ r_) (fun r_ => (fun (r : Bool) (q : Cfg) => ([rB.to r])) r_.1 r_.2) (fun r_ => (fun (r : Bool) (q : Cfg) => ([(cfgC q).map .d])) r_.1 r_.2) (some (71, true))
def V_slices_ContainsFunc_impl_SegPart_impl_SegPart : Env := ⟨tys, [(80, c_slices_IndexFunc_impl_SegPart_impl_SegPart)], [], [], [], [], [], [], []⟩
/-! (impl.CfgOpts).partsOk -/
def c_impl_CfgOpts_partsOk : Ent := ctr (α := (Cfg) × (List Part)) (ρ := (Bool)) [] [] (rs rCfg (rs1 (rR .part))) (fun x_ => (fun (c : Cfg) (l : List Part) => (l.length ≤ 1000)) x_.1 x_.2) (fun x_ r_ => (fun x_ => (fun (c : Cfg) (l : List Part) => ((fun r_ => (fun (r : Bool) => (r = decide (PartsP c.mps l))) r_))) x_.1 x_.2) x_ r_) (fun r_ => (fun (r : Bool) => ([rB.to r])) r_) (fun r_ => (fun (r : Bool) => ([])) r_)
def V_impl_CfgOpts_partsOk : Env := ⟨tys, [(70, c_slices_ContainsFunc_impl_SegPart_impl_SegPart)], [], [(2, 0)], [], [], [], [], []⟩
theorem seg_done {s : List Int} {m k : Nat} (h1 : 1 ≤ m) (h2 : m ≤ 8) (h3 : s.length ≤ 24) (h4 : m < s.length) (h5 : s.length ≤ k * m) (h6 : k * m < s.length + m) : segLoop s m k = segCut s m := by
  unfold segCut
  rw [if_neg (by omega), if_neg (by omega), Int.toNat_natCast, ← seg_count h1 h5 h6 (by omega)]
theorem segCut_small {s : List Int} {m : Int} (h3 : s.length ≤ 24) (h1 : 1 ≤ m ∧ m ≤ 8) (h : (s.length : Int) ≤ m) : segCut s m = [⟨0, s.length, s⟩] := by
  unfold segCut
  rw [if_neg (by omega), if_pos h]
theorem segCut_no {s : List Int} {m : Int} (h : 24 < s.length ∨ ¬ (1 ≤ m ∧ m ≤ 8)) : segCut s m = [] := by
  unfold segCut
  rw [if_pos h]

end Go.Proofs.YtkencmgcibbfaaaE

/- Calls answer what is promised: N. Conditions: none. -/
set_option linter.unusedVariables false
set_option maxHeartbeats 1600000
namespace Go.Proofs.YtkencmgcibbfaaaE
open Go
theorem vF_impl_CfgOpts_partsOk_1 (p:Part) (c:Cfg) (K:List Arg→List (List AC)→Prop) (hp:True) (hk:∀ (r:Bool) (q:Cfg),(q=c∧r=!decide (PartP p∧(p.data.length:Int)≤c.mps))→K ([rB.to r]) ([(cfgC q).map .d])):(true=true)∧(True∧(∀ r:Bool,(r=(decide (PartP p)))→(true=true)∧(if ((!r)=true) then ((true=true)∧(K [(aB true)] [[(AC.d (D.i IntKind.i64 c.mode)),(AC.d (D.i IntKind.i64 c.win)),(AC.d (D.i IntKind.i64 c.mps)),(AC.d (D.i IntKind.i64 c.mtu)),(AC.d (D.i IntKind.i64 c.try_))]])) else ((true=true)∧(K [(aB (decide ((((List.length p.data):Nat):Int) > c.mps)))] [[(AC.d (D.i IntKind.i64 c.mode)),(AC.d (D.i IntKind.i64 c.win)),(AC.d (D.i IntKind.i64 c.mps)),(AC.d (D.i IntKind.i64 c.mtu)),(AC.d (D.i IntKind.i64 c.try_))]]))))) := by
  repeat' first
    | exact rfl
    | exact True.intro
    | with_reducible apply And.intro
    | (with_reducible intro y_ hy_; subst hy_)
    | with_reducible intro y_
    | (refine iteI (fun h => ?_) (fun h => ?_))
  all_goals try simp only [Bool.not_eq_true', decide_eq_false_iff_not, decide_eq_true_eq, Bool.not_eq_true, bne_iff_ne, beq_iff_eq, ne_eq, Decidable.not_not, Bool.not_eq_false, gt_iff_lt, ge_iff_le, Int.not_le, Int.not_lt, beq_eq_false_iff_ne, bne_eq_false_iff_eq, Bool.and_eq_true, Bool.or_eq_true, Bool.true_eq_false, Bool.false_eq_true] at *
  all_goals try simp (disch := first | omega | grind []) only [wr] at *
  all_goals first
    | assumption
    | omega
    | exact hk _ c ⟨rfl, by grind⟩
    | exact hk _ (by grind [])
    | (simp only [LIM] at *; omega)
    | grind [LIM]
theorem w_impl_CfgOpts_partsOk_1 : Valid Try.prog 71 c_impl_CfgOpts_partsOk_1 :=
  valid_ctr2 (V := V_impl_CfgOpts_partsOk_1) (tysB_ok tys_ok) ⟨(CallsL.cons w_impl_PartOk (CallsL.nil _)), (IosL.nil _)⟩ mixed 0 1 Try.func71 rfl (by kernel_rfl)
    (fun c hc => by
      obtain rfl := Option.some.inj hc
      exact ⟨trivial, ⟨trivial, trivial⟩⟩)
    (fun x K hp hk => ⟨_, by kernel_rfl, vF_impl_CfgOpts_partsOk_1 x.1 x.2 K hp (fun r q h => hk (r, q) h)⟩)
theorem vF_slices_IndexFunc_impl_SegPart_impl_SegPart (l:List Part) (c:Cfg) (K:List Arg→List (List AC)→Prop) (hp:l.length≤1000) (hk:∀ (r:Int) (q:Cfg),(q=c∧decide (r ≥ 0)=!decide (PartsP c.mps l))→K ([rInt.to r]) ([(cfgC q).map .d])):∃ s:(Prod (List Part) (Prod Cfg (Prod Int Int))),((KS.mk true [(Prod.mk (0:Nat) (T.v false [(Cm.d (D.r RK.part l))])),(Prod.mk (1:Nat) (T.fn (71:Nat) (Option.some (Prod.mk (0:Nat) (0:Nat))))),(Prod.mk (7:Nat) (num IntKind.i64 (((List.length l):Nat):Int))),(Prod.mk (8:Nat) (num IntKind.i64 (0:Int)))] [] [(Box.mk (Min.min (0:Nat) (1:Nat)) (Option.some [(Cm.d (D.i IntKind.i64 c.mode)),(Cm.d (D.i IntKind.i64 c.win)),(Cm.d (D.i IntKind.i64 c.mps)),(Cm.d (D.i IntKind.i64 c.mtu)),(Cm.d (D.i IntKind.i64 c.try_))]))])=(KS.mk true [(Prod.mk (0:Nat) (T.v false [(Cm.d (D.r RK.part s.fst))])),(Prod.mk (1:Nat) (T.fn (71:Nat) (Option.some (Prod.mk (0:Nat) (0:Nat))))),(Prod.mk (7:Nat) (num IntKind.i64 s.snd.snd.fst)),(Prod.mk (8:Nat) (num IntKind.i64 s.snd.snd.snd))] [] [(Box.mk (0:Nat) (Option.some [(Cm.d (D.i IntKind.i64 s.snd.fst.mode)),(Cm.d (D.i IntKind.i64 s.snd.fst.win)),(Cm.d (D.i IntKind.i64 s.snd.fst.mps)),(Cm.d (D.i IntKind.i64 s.snd.fst.mtu)),(Cm.d (D.i IntKind.i64 s.snd.fst.try_))]))]))∧((((List.length s.fst)≤(1000:Nat))∧((s.snd.snd.fst=(((List.length s.fst):Nat):Int))∧(s.snd.snd.snd=(0:Int))))∧((∀ r:Cfg,((r=s.snd.fst)∧(PartsP s.snd.fst.mps s.fst))→(true=true)∧(K [(aI IntKind.i64 (-1:Int))] [[(AC.d (D.i IntKind.i64 r.mode)),(AC.d (D.i IntKind.i64 r.win)),(AC.d (D.i IntKind.i64 r.mps)),(AC.d (D.i IntKind.i64 r.mtu)),(AC.d (D.i IntKind.i64 r.try_))]]))∧(∀ r:(Prod Cfg Int),((r.fst=s.snd.fst)∧(((0:Int)≤r.snd)∧(¬ (PartsP s.snd.fst.mps s.fst))))→(true=true)∧(K [(aI IntKind.i64 r.snd)] [[(AC.d (D.i IntKind.i64 r.fst.mode)),(AC.d (D.i IntKind.i64 r.fst.win)),(AC.d (D.i IntKind.i64 r.fst.mps)),(AC.d (D.i IntKind.i64 r.fst.mtu)),(AC.d (D.i IntKind.i64 r.fst.try_))]])))) := by
  refine ⟨(l, c, (l.length : Int), 0), rfl, ⟨hp, rfl, rfl⟩, ?_, ?_⟩
  · rintro q ⟨rfl, h⟩
    exact ⟨by trivial, hk (-1) q ⟨rfl, by simp [h]⟩⟩
  · rintro ⟨q, i⟩ ⟨rfl, h0, h⟩
    exact ⟨by trivial, hk i q ⟨rfl, by dsimp only at h h0; simp [h, h0]⟩⟩
theorem vL_slices_IndexFunc_impl_SegPart_impl_SegPart_0 (l0:List Part) (c0:Cfg) (m0:Int) (i0:Int) (l:List Part) (c:Cfg) (m:Int) (i:Int) (n:Nat) (hp:(fun (l:List Part) (c:Cfg) (m:Int) (i:Int) => (l.length≤1000∧m=l.length∧i=0)) l0 c0 m0 i0) (hi:l=l0∧c=c0∧m=l.length∧l.length≤1000∧0≤i∧i + n=l.length∧PartsP c.mps (l.take i.toNat)):if ((decide (i < m))=true) then ((((0:Int)≤i)∧(i < (((List.length l):Nat):Int)))∧((true=true)∧(True∧(∀ r:(Prod Bool Cfg),((r.snd=c)∧(r.fst=(!(decide ((PartP (at_part l (Int.toNat i)))∧((((List.length (at_part l (Int.toNat i)).data):Nat):Int)≤c.mps))))))→(true=true)∧(if (r.fst=true) then (∃ r1:(Prod Cfg Int),((KS.mk true [(Prod.mk (4:Nat) (num IntKind.i64 i))] [] [(Box.mk (Min.min (0:Nat) (1:Nat)) (Option.some [(Cm.d (D.i IntKind.i64 r.snd.mode)),(Cm.d (D.i IntKind.i64 r.snd.win)),(Cm.d (D.i IntKind.i64 r.snd.mps)),(Cm.d (D.i IntKind.i64 r.snd.mtu)),(Cm.d (D.i IntKind.i64 r.snd.try_))]))])=(KS.mk true [(Prod.mk (4:Nat) (num IntKind.i64 r1.snd))] [] [(Box.mk (0:Nat) (Option.some [(Cm.d (D.i IntKind.i64 r1.fst.mode)),(Cm.d (D.i IntKind.i64 r1.fst.win)),(Cm.d (D.i IntKind.i64 r1.fst.mps)),(Cm.d (D.i IntKind.i64 r1.fst.mtu)),(Cm.d (D.i IntKind.i64 r1.fst.try_))]))]))∧((r1.fst=c0)∧(((0:Int)≤r1.snd)∧(¬ (PartsP c0.mps l0))))) else (∃ s:(Prod (List Part) (Prod Cfg (Prod Int Int))),((KS.mk true [(Prod.mk (0:Nat) (T.v false [(Cm.d (D.r RK.part l))])),(Prod.mk (1:Nat) (T.fn (71:Nat) (Option.some (Prod.mk (0:Nat) (0:Nat))))),(Prod.mk (7:Nat) (num IntKind.i64 m)),(Prod.mk (8:Nat) (num IntKind.i64 (IntKind.wrap IntKind.i64 (i + (1:Int)))))] [] [(Box.mk (Min.min (0:Nat) (1:Nat)) (Option.some [(Cm.d (D.i IntKind.i64 r.snd.mode)),(Cm.d (D.i IntKind.i64 r.snd.win)),(Cm.d (D.i IntKind.i64 r.snd.mps)),(Cm.d (D.i IntKind.i64 r.snd.mtu)),(Cm.d (D.i IntKind.i64 r.snd.try_))]))])=(KS.mk true [(Prod.mk (0:Nat) (T.v false [(Cm.d (D.r RK.part s.fst))])),(Prod.mk (1:Nat) (T.fn (71:Nat) (Option.some (Prod.mk (0:Nat) (0:Nat))))),(Prod.mk (7:Nat) (num IntKind.i64 s.snd.snd.fst)),(Prod.mk (8:Nat) (num IntKind.i64 s.snd.snd.snd))] [] [(Box.mk (0:Nat) (Option.some [(Cm.d (D.i IntKind.i64 s.snd.fst.mode)),(Cm.d (D.i IntKind.i64 s.snd.fst.win)),(Cm.d (D.i IntKind.i64 s.snd.fst.mps)),(Cm.d (D.i IntKind.i64 s.snd.fst.mtu)),(Cm.d (D.i IntKind.i64 s.snd.fst.try_))]))]))∧(∃ m1:Nat,(m1 < n)∧((s.fst=l0)∧((s.snd.fst=c0)∧((s.snd.snd.fst=(((List.length s.fst):Nat):Int))∧(((List.length s.fst)≤(1000:Nat))∧(((0:Int)≤s.snd.snd.snd)∧(((s.snd.snd.snd + ((m1:Nat):Int))=(((List.length s.fst):Nat):Int))∧(∀ p:Part,(List.Mem p (List.take (Int.toNat s.snd.snd.snd) s.fst))→(PartP p)∧((((List.length p.data):Nat):Int)≤s.snd.fst.mps))))))))))))))) else (∃ r:Cfg,((KS.mk true [] [] [(Box.mk (Min.min (0:Nat) (1:Nat)) (Option.some [(Cm.d (D.i IntKind.i64 c.mode)),(Cm.d (D.i IntKind.i64 c.win)),(Cm.d (D.i IntKind.i64 c.mps)),(Cm.d (D.i IntKind.i64 c.mtu)),(Cm.d (D.i IntKind.i64 c.try_))]))])=(KS.mk true [] [] [(Box.mk (0:Nat) (Option.some [(Cm.d (D.i IntKind.i64 r.mode)),(Cm.d (D.i IntKind.i64 r.win)),(Cm.d (D.i IntKind.i64 r.mps)),(Cm.d (D.i IntKind.i64 r.mtu)),(Cm.d (D.i IntKind.i64 r.try_))]))]))∧((r=c0)∧(∀ p:Part,(List.Mem p l0)→(PartP p)∧((((List.length p.data):Nat):Int)≤c0.mps)))) := by
  try dsimp only at hp
  obtain ⟨rfl, rfl, rfl, h1, h2, h3, h4⟩ := hi
  obtain ⟨i, rfl⟩ : ∃ k : Nat, i = k := ⟨i.toNat, by omega⟩
  rw [wr (x := (i : Int) + 1) (by omega) (by omega)]
  simp only [Int.toNat_natCast] at h4 ⊢
  refine iteI (fun h => ?_) (fun h => ?_)
  · have hi : i < l.length := by simp at h; omega
    refine ⟨⟨by omega, by omega⟩, by trivial, by trivial, ?_⟩
    rintro ⟨r, q⟩ ⟨hq, hr⟩
    dsimp only at hq hr ⊢
    subst hq
    refine ⟨by trivial, iteI (fun hx => ?_) (fun hx => ?_)⟩
    · refine ⟨(q, (i : Int)), rfl, rfl, by dsimp only; omega, fun hP => ?_⟩
      have h5 := hP _ (at_mem .part l i hi)
      have h6 : ¬ (PartP (at_part l i) ∧ ((at_part l i).data.length : Int) ≤ q.mps) := by grind
      exact h6 h5
    · refine ⟨(l, q, (l.length : Int), (i : Int) + 1), rfl, n - 1, by omega, rfl, rfl, rfl, h1, by dsimp only; omega, by dsimp only; omega, ?_⟩
      have e : l.take (i + 1) = l.take i ++ [at_part l i] := take_at .part l i hi
      show PartsP q.mps (l.take ((i : Int) + 1).toNat)
      rw [show ((i : Int) + 1).toNat = i + 1 by omega, e]
      exact h4.append (PartsP.one.2 (by grind))
  · refine ⟨c, rfl, rfl, ?_⟩
    have hi : i = l.length := by simp at h; omega
    subst hi
    rw [List.take_length] at h4
    exact h4
theorem vS_slices_IndexFunc_impl_SegPart_impl_SegPart_0 (l0 : List Part) (c0 : Cfg) (m0 : Int) (i0 : Int) (hp : (fun (l : List Part) (c : Cfg) (m : Int) (i : Int) => (l.length ≤ 1000 ∧ m = l.length ∧ i = 0)) l0 c0 m0 i0) : ∃ n : Nat, (fun (l : List Part) (c : Cfg) (m : Int) (i : Int) => (l = l0 ∧ c = c0 ∧ m = l.length ∧ l.length ≤ 1000 ∧ 0 ≤ i ∧ i + n = l.length ∧ PartsP c.mps (l.take i.toNat))) l0 c0 m0 i0 := by
  try dsimp only at hp
  try dsimp only
  obtain ⟨h1, rfl, rfl⟩ := hp
  exact ⟨l0.length, rfl, rfl, rfl, h1, by omega, by omega, by simp [PartsP]⟩
theorem w_slices_IndexFunc_impl_SegPart_impl_SegPart : Valid Try.prog 80 c_slices_IndexFunc_impl_SegPart_impl_SegPart :=
  valid_ctr2 (V := V_slices_IndexFunc_impl_SegPart_impl_SegPart) (tysB_ok tys_ok) ⟨(CallsL.cons w_impl_CfgOpts_partsOk_1 (CallsL.nil _)), (IosL.nil _)⟩ mixed 0 0 Try.func80 rfl (by kernel_rfl)
    (fun c hc => by
      obtain rfl := Option.some.inj hc
      exact ⟨trivial, ⟨⟨trivial, ⟨LoopD.ok2 (V := V_slices_IndexFunc_impl_SegPart_impl_SegPart) l_slices_IndexFunc_impl_SegPart_impl_SegPart_0 (LoopsM.cons 0 l_slices_IndexFunc_impl_SegPart_impl_SegPart_0 LoopsM.nil) 0 _ i_slices_IndexFunc_impl_SegPart_impl_SegPart_0 (fun x hx => vS_slices_IndexFunc_impl_SegPart_impl_SegPart_0 x.1 x.2.1 x.2.2.1 x.2.2.2 hx) (fun x hx n s hi => ⟨_, by kernel_rfl, vL_slices_IndexFunc_impl_SegPart_impl_SegPart_0 x.1 x.2.1 x.2.2.1 x.2.2.2 s.1 s.2.1 s.2.2.1 s.2.2.2 n hx hi⟩), ⟨trivial, ⟨⟨trivial, trivial⟩, ⟨⟨trivial, ⟨trivial, ⟨⟨trivial, trivial⟩, trivial⟩⟩⟩, trivial⟩⟩⟩⟩⟩, ⟨trivial, trivial⟩⟩⟩)
    (fun x K hp hk => ⟨_, by kernel_rfl, vF_slices_IndexFunc_impl_SegPart_impl_SegPart x.1 x.2 K hp (fun r q h => hk (r, q) h)⟩)
theorem vF_slices_ContainsFunc_impl_SegPart_impl_SegPart (l:List Part) (c:Cfg) (K:List Arg→List (List AC)→Prop) (hp:l.length≤1000) (hk:∀ (r:Bool) (q:Cfg),(q=c∧r=!decide (PartsP c.mps l))→K ([rB.to r]) ([(cfgC q).map .d])):(true=true)∧(((List.length l)≤(1000:Nat))∧(∀ r:(Prod Int Cfg),((r.snd=c)∧((decide (r.fst ≥ (0:Int)))=(!(decide (PartsP c.mps l)))))→(true=true)∧((true=true)∧(K [(aB (decide (r.fst ≥ (0:Int))))] [[(AC.d (D.i IntKind.i64 r.snd.mode)),(AC.d (D.i IntKind.i64 r.snd.win)),(AC.d (D.i IntKind.i64 r.snd.mps)),(AC.d (D.i IntKind.i64 r.snd.mtu)),(AC.d (D.i IntKind.i64 r.snd.try_))]])))) := by
  refine ⟨by trivial, hp, ?_⟩
  rintro ⟨r, q⟩ ⟨rfl, h⟩
  exact ⟨by trivial, by trivial, hk _ q ⟨rfl, h⟩⟩
theorem w_slices_ContainsFunc_impl_SegPart_impl_SegPart : Valid Try.prog 70 c_slices_ContainsFunc_impl_SegPart_impl_SegPart :=
  valid_ctr2 (V := V_slices_ContainsFunc_impl_SegPart_impl_SegPart) (tysB_ok tys_ok) ⟨(CallsL.cons w_slices_IndexFunc_impl_SegPart_impl_SegPart (CallsL.nil _)), (IosL.nil _)⟩ mixed 0 0 Try.func70 rfl (by kernel_rfl)
    (fun c hc => by
      obtain rfl := Option.some.inj hc
      exact ⟨trivial, ⟨trivial, trivial⟩⟩)
    (fun x K hp hk => ⟨_, by kernel_rfl, vF_slices_ContainsFunc_impl_SegPart_impl_SegPart x.1 x.2 K hp (fun r q h => hk (r, q) h)⟩)
theorem vF_impl_CfgOpts_partsOk (c:Cfg) (l:List Part) (K:List Arg→List (List AC)→Prop) (hp:l.length≤1000) (hk:∀ (r:Bool),(r=decide (PartsP c.mps l))→K ([rB.to r]) ([])):(true=true)∧(((List.length l)≤(1000:Nat))∧(∀ r:(Prod Bool Cfg),((r.snd=c)∧(r.fst=(!(decide (PartsP c.mps l)))))→(true=true)∧((true=true)∧(K [(aB (!r.fst))] [])))) := by
  refine ⟨by trivial, hp, ?_⟩
  rintro ⟨r, q⟩ ⟨rfl, h⟩
  exact ⟨by trivial, by trivial, hk _ (by dsimp only at h ⊢; rw [h]; simp)⟩
theorem w_impl_CfgOpts_partsOk : Valid Try.prog 53 c_impl_CfgOpts_partsOk :=
  valid_ctr2 (V := V_impl_CfgOpts_partsOk) (tysB_ok tys_ok) ⟨(CallsL.cons w_slices_ContainsFunc_impl_SegPart_impl_SegPart (CallsL.nil _)), (IosL.nil _)⟩ mixed 0 1 Try.func53 rfl (by kernel_rfl)
    (fun c hc => by
      obtain rfl := Option.some.inj hc
      exact ⟨trivial, ⟨trivial, trivial⟩⟩)
    (fun x K hp hk => ⟨_, by kernel_rfl, vF_impl_CfgOpts_partsOk x.1 x.2 K hp (fun r h => hk r h)⟩)
end Go.Proofs.YtkencmgcibbfaaaE
