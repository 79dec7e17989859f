/- A part of the proof of laws of the program: what calls of the program answer. Conditions: none. -/
import Derived.Test.YtkencmgcibbfaaaM8f2140dd
set_option linter.unusedVariables false
set_option linter.unusedSimpArgs false
set_option linter.unusedSectionVars false
/- Contracts: LawXN. Conditions: none. -/
set_option linter.unusedVariables false
set_option maxHeartbeats 1600000
namespace Go.Proofs.YtkencmgcibbfaaaE
open Go
theorem mk_self {l x : List Int} {k : Int} (h : l = markB x k) : l = markB l k := by rw [h, markB_idem]
theorem Wf.row {k : RK} {l : List k.El} (h : Wf (.r k l)) : l.length ≤ maxLen ∧ ∀ y ∈ flat k l, Wf y := by
  cases h with
  | r _ _ h1 h2 => exact ⟨h1, h2⟩
theorem Wf.bytes {l : List Int} (h : Wf (.r .u8 l)) : l.length ≤ 9223372036854775807 ∧ Bytes l := by
  obtain ⟨h1, h2⟩ := Wf.row (k := .u8) h
  refine ⟨h1, Bytes.of_wf fun y hy => ?_⟩
  have h3 : D.i .u8 y ∈ flat .u8 l := List.mem_flatMap.2 ⟨y, hy, List.mem_singleton.2 rfl⟩
  have h4 := h2 _ h3
  cases h4 with
  | i _ _ h5 => exact h5
theorem wf_frm {f : Frm} (h : ∀ d ∈ RK.cells .frm f, Wf d) : f.data.length ≤ 9223372036854775807 ∧ Bytes f.data := Wf.bytes (h (.r .u8 f.data) (by simp [RK.cells]))
theorem mem_flat {k : RK} {l : List k.El} {x : k.El} (hx : x ∈ l) {d : D} (hd : d ∈ k.cells x) : d ∈ flat k l := List.mem_flatMap.2 ⟨x, hx, hd⟩
theorem Wf.parts {l : List Part} (h : Wf (.r .part l)) : l.length ≤ 9223372036854775807 ∧ ∀ p ∈ l, p.data.length ≤ 9223372036854775807 := by
  obtain ⟨h1, h2⟩ := Wf.row (k := .part) h
  exact ⟨h1, fun p hp => (Wf.bytes (h2 _ (mem_flat (k := .part) hp (d := .r .u8 p.data) (by simp [RK.cells])))).1⟩
theorem Wf.partsB {l : List Part} (h : Wf (.r .part l)) : ∀ p ∈ l, Bytes p.data := by
  obtain ⟨h1, h2⟩ := Wf.row (k := .part) h
  exact fun p hp => (Wf.bytes (h2 _ (mem_flat (k := .part) hp (d := .r .u8 p.data) (by simp [RK.cells])))).2
theorem wf_tx {t : TxS} (h : ∀ d ∈ txC t, Wf d) : (t.flight.length ≤ 9223372036854775807 ∧ ∀ p ∈ t.flight, p.data.length ≤ 9223372036854775807) ∧ (t.queue.length ≤ 9223372036854775807 ∧ ∀ p ∈ t.queue, p.data.length ≤ 9223372036854775807) :=
  ⟨Wf.parts (h (.r .part t.flight) (by simp [txC])), Wf.parts (h (.r .part t.queue) (by simp [txC]))⟩
theorem wf_ct {t : CtS} (h : ∀ d ∈ ctC t, Wf d) : t.queue.length ≤ 9223372036854775807 ∧ ∀ p ∈ t.queue, p.data.length ≤ 9223372036854775807 := Wf.parts (h (.r .part t.queue) (by simp [ctC]))
theorem wf_rx {t : RxS} (h : ∀ d ∈ rxC t, Wf d) : t.join.got.length ≤ 9223372036854775807 ∧ Bytes t.join.got := Wf.bytes (h (.r .u8 t.join.got) (by simp [rxC]))
theorem wf_cr {t : CrS} (h : ∀ d ∈ crC t, Wf d) : t.join.got.length ≤ 9223372036854775807 ∧ Bytes t.join.got := Wf.bytes (h (.r .u8 t.join.got) (by simp [crC]))
theorem wf_num {k : IntKind} {x : Int} (h : Wf (.i k x)) : (Lit.int k x).wf = true := by
  cases h; assumption
theorem wn_cases (c : Cfg) : ((wldNew c).ends = [] ∧ (wldNew c).net = []) ∨ ((wldNew c).ends = [zEnd, zEnd] ∧ (wldNew c).net = [[], []]) := by
  by_cases h : CfgP c
  · rw [wldNew_ok h]; exact .inr ⟨rfl, rfl⟩
  · rw [wldNew_no h]; exact .inl ⟨rfl, rfl⟩
theorem zEnd_m : EndM 137438953472 zEnd := ⟨by decide, fun _ h => (by cases h), by decide, fun _ h => (by cases h), by decide, by decide, fun _ h => (by cases h), by decide, by decide, fun _ h => (by cases h), by decide, fun _ h => (by cases h)⟩
theorem wn_m (c : Cfg) : WldM 137438953472 (wldNew c) := by
  rcases wn_cases c with ⟨h1, h2⟩ | ⟨h1, h2⟩
  · exact ⟨by rw [h1]; decide, fun e he => (by rw [h1] at he; cases he), by rw [h2]; decide, fun e he => (by rw [h2] at he; cases he)⟩
  · refine ⟨by rw [h1]; decide, fun e he => ?_, by rw [h2]; decide, fun e he => ?_⟩
    · rw [h1] at he
      have : e = zEnd := by simpa using he
      rw [this]; exact zEnd_m
    · rw [h2] at he
      have : e = [] := by simpa using he
      rw [this]; exact ⟨by decide, fun x hx => (by cases hx)⟩

/-! laws.FnExactWldNew -/
def c_laws_FnExactWldNew : Ent := ctr (α := (Cfg)) (ρ := (Bool)) [] [] (rs1 rCfg) (fun x_ => (fun (c : Cfg) => (∀ d ∈ cfgC c, Wf d)) x_) (fun x_ r_ => (fun x_ => (fun (c : Cfg) => ((fun r_ => (fun (r : Bool) => (r = true)) r_))) x_) x_ r_) (fun r_ => (fun (r : Bool) => ([rB.to r])) r_) (fun r_ => (fun (r : Bool) => ([])) r_)
def V_laws_FnExactWldNew : Env := ⟨tys, [(6, c_impl_WldNew_x), (8, c_spec_WldNew), (14, c_laws_toCfgOpts), (15, c_laws_eqWldWorld), (17, c_laws_heldWldWorld)], [(13, [0, 1]), (31, [2, 3])], [(1, 0), (3, 1), (4, 2), (7, 3)], [], [], [], [(16, c_laws_markWldWorld)], []⟩
end Go.Proofs.YtkencmgcibbfaaaE

/- Calls answer what is promised: LawXN. Conditions: none. -/
set_option linter.unusedVariables false
set_option maxHeartbeats 1600000
namespace Go.Proofs.YtkencmgcibbfaaaE
open Go
theorem vF_laws_FnExactWldNew (c:Cfg) (K:List Arg→List (List AC)→Prop) (hp:∀ d ∈ cfgC c,Wf d) (hk:∀ (r:Bool),(r=true)→K ([rB.to r]) ([])):(true=true)∧(True∧(∀ r:Cfg,(r=c)→(true=true)∧((true=true)∧(True∧(∀ r1:WldS,(r1=(wldNew r))→(true=true)∧((true=true)∧(True∧(∀ r2:Cfg,(r2=c)→(true=true)∧((true=true)∧(True∧(∀ r3:WldS,(r3=(wldNew r2))→(true=true)∧((true=true)∧((WldM (137438953472:Nat) (WldS.mk r3.cfg r3.ends r3.net r3.link))∧(∀ r4:Bool,(r4=(decide ((WldS.mk r3.cfg r3.ends r3.net r3.link)=r1)))→(true=true)∧(if ((!r4)=true) then ((true=true)∧(K [(aB false)] [])) else ((true=true)∧(((((r3.ends=([]:(List EndS)))∧(r3.net=([]:(List (List NetS)))))∨((r3.ends=(zEnd :: (zEnd :: ([]:(List EndS)):(List EndS)):(List EndS)))∧(r3.net=(([]:(List NetS)) :: (([]:(List NetS)) :: ([]:(List (List NetS))):(List (List NetS))):(List (List NetS))))))∧((1:Int)=(1:Int)))∧(∀ r5:(Prod Int (Prod (List EndS) (List (List NetS)))),((((r3.ends=([]:(List EndS)))∧((r5.snd.fst=([]:(List EndS)))∧(r5.fst=(1:Int))))∨((r3.ends=(zEnd :: (zEnd :: ([]:(List EndS)):(List EndS)):(List EndS)))∧((r5.snd.fst=((mkE (1:Int)) :: ((mkE (22:Int)) :: ([]:(List EndS)):(List EndS)):(List EndS)))∧(r5.fst=(43:Int)))))∧(r5.snd.snd=r3.net))→(true=true)∧((true=true)∧(((((r5.snd.fst=([]:(List EndS)))∧(r5.snd.snd=([]:(List (List NetS)))))∨((r5.snd.fst=((mkE (1:Int)) :: ((mkE (22:Int)) :: ([]:(List EndS)):(List EndS)):(List EndS)))∧(r5.snd.snd=(([]:(List NetS)) :: (([]:(List NetS)) :: ([]:(List (List NetS))):(List (List NetS))):(List (List NetS))))))∧((1:Int)=(1:Int)))∧(∀ r6:Int,(((r5.snd.fst=([]:(List EndS)))∧(r6=(1:Int)))∨((r5.snd.fst=((mkE (1:Int)) :: ((mkE (22:Int)) :: ([]:(List EndS)):(List EndS)):(List EndS)))∧(r6=(43:Int))))→(true=true)∧(if ((decide (r6 < (0:Int)))=true) then ((true=true)∧(K [(aB false)] [])) else (if ((r6 != r5.fst)=true) then ((true=true)∧(K [(aB false)] [])) else ((true=true)∧(True∧(∀ r7:Cfg,(r7=c)→(true=true)∧((true=true)∧(True∧(∀ r8:WldS,(r8=(wldNew r7))→(true=true)∧((true=true)∧((WldM (137438953472:Nat) (WldS.mk r8.cfg r8.ends r8.net r8.link))∧(∀ r9:Bool,(r9=(decide ((WldS.mk r8.cfg r8.ends r8.net r8.link)=r1)))→(true=true)∧(if ((!r9)=true) then ((true=true)∧(K [(aB false)] [])) else ((true=true)∧(((((r5.snd.fst=([]:(List EndS)))∧(r5.snd.snd=([]:(List (List NetS)))))∨((r5.snd.fst=((mkE (1:Int)) :: ((mkE (22:Int)) :: ([]:(List EndS)):(List EndS)):(List EndS)))∧(r5.snd.snd=(([]:(List NetS)) :: (([]:(List NetS)) :: ([]:(List (List NetS))):(List (List NetS))):(List (List NetS))))))∧((1:Int)=(1:Int)))∧(∀ r10:Int,(((r5.snd.fst=([]:(List EndS)))∧(r10=(1:Int)))∨((r5.snd.fst=((mkE (1:Int)) :: ((mkE (22:Int)) :: ([]:(List EndS)):(List EndS)):(List EndS)))∧(r10=(43:Int))))→(true=true)∧(if ((decide (r10 < (0:Int)))=true) then ((true=true)∧(K [(aB false)] [])) else (if ((r10 != r5.fst)=true) then ((true=true)∧(K [(aB false)] [])) else ((true=true)∧(K [(aB true)] [])))))))))))))))))))))))))))))))))))))))) := by
  have hW := wn_m c
  have hC := wn_cases c
  refine ⟨rfl, trivial, fun r hr => ?_⟩
  subst hr
  refine ⟨rfl, rfl, trivial, fun r1 hr1 => ?_⟩
  subst hr1
  refine ⟨rfl, rfl, trivial, fun r2 hr2 => ?_⟩
  subst hr2
  refine ⟨rfl, rfl, trivial, fun r3 hr3 => ?_⟩
  subst hr3
  refine ⟨rfl, rfl, hW, fun r4 hr4 => ⟨rfl, ?_⟩⟩
  have e4 : r4 = true := by rw [hr4]; exact decide_eq_true rfl
  clear hr4
  subst e4
  rw [if_neg (by decide)]
  refine ⟨rfl, ⟨hC, rfl⟩, fun r5 hr5 => ?_⟩
  obtain ⟨p5, q5, s5⟩ := r5
  dsimp only at hr5 ⊢
  obtain ⟨h5, h6⟩ := hr5
  subst h6
  have h7 : ((q5 = [] ∧ (wldNew r2).net = []) ∨ (q5 = [mkE 1, mkE 22] ∧ (wldNew r2).net = [[], []])) ∧ ∀ r : Int, (q5 = [] ∧ r = 1) ∨ (q5 = [mkE 1, mkE 22] ∧ r = 43) → r = p5 ∧ 0 ≤ r := by
    rcases h5 with ⟨a1, a2, a3⟩ | ⟨a1, a2, a3⟩
    · rcases hC with ⟨b1, b2⟩ | ⟨b1, b2⟩
      · exact ⟨.inl ⟨a2, b2⟩, fun r h => by
          rcases h with ⟨c1, c2⟩ | ⟨c1, c2⟩
          · omega
          · rw [a2] at c1; cases c1⟩
      · rw [a1] at b1; cases b1
    · rcases hC with ⟨b1, b2⟩ | ⟨b1, b2⟩
      · rw [a1] at b1; cases b1
      · exact ⟨.inr ⟨a2, b2⟩, fun r h => by
          rcases h with ⟨c1, c2⟩ | ⟨c1, c2⟩
          · rw [a2] at c1; cases c1
          · omega⟩
  obtain ⟨h7, h8⟩ := h7
  refine ⟨rfl, rfl, ⟨h7, rfl⟩, fun r6 hr6 => ⟨rfl, ?_⟩⟩
  obtain ⟨e6, g6⟩ := h8 r6 hr6
  rw [if_neg (by simp; omega), if_neg (by simp; omega)]
  refine ⟨rfl, trivial, fun r7 hr7 => ?_⟩
  subst hr7
  refine ⟨rfl, rfl, trivial, fun r8 hr8 => ?_⟩
  subst hr8
  refine ⟨rfl, rfl, hW, fun r9 hr9 => ⟨rfl, ?_⟩⟩
  have e9 : r9 = true := by rw [hr9]; exact decide_eq_true rfl
  clear hr9
  subst e9
  rw [if_neg (by decide)]
  refine ⟨rfl, ⟨h7, rfl⟩, fun r10 hr10 => ⟨rfl, ?_⟩⟩
  obtain ⟨e10, g10⟩ := h8 r10 hr10
  rw [if_neg (by simp; omega), if_neg (by simp; omega)]
  first
    | exact ⟨rfl, hk _ rfl⟩
    | exact hk _ rfl
theorem w_laws_FnExactWldNew : Valid Try.prog 4 c_laws_FnExactWldNew :=
  valid_ctr2 (V := V_laws_FnExactWldNew) (tysB_ok tys_ok) ⟨(CallsL.cons w_impl_WldNew_x (CallsL.cons w_spec_WldNew (CallsL.cons w_laws_toCfgOpts (CallsL.cons w_laws_eqWldWorld (CallsL.cons w_laws_heldWldWorld (CallsL.nil _)))))), (IosL.cons w_laws_markWldWorld (IosL.nil _))⟩ mixed 4 4 Try.func4 rfl (by kernel_rfl)
    (fun c hc => by
      obtain rfl := Option.some.inj hc
      exact ⟨trivial, ⟨trivial, ⟨trivial, ⟨⟨trivial, ⟨⟨trivial, trivial⟩, trivial⟩⟩, ⟨trivial, ⟨trivial, ⟨trivial, ⟨trivial, ⟨⟨trivial, ⟨⟨trivial, trivial⟩, trivial⟩⟩, ⟨⟨trivial, ⟨⟨trivial, trivial⟩, trivial⟩⟩, ⟨trivial, ⟨⟨trivial, ⟨⟨trivial, trivial⟩, trivial⟩⟩, ⟨trivial, ⟨trivial, ⟨⟨trivial, ⟨⟨trivial, trivial⟩, trivial⟩⟩, ⟨⟨trivial, ⟨⟨trivial, trivial⟩, trivial⟩⟩, ⟨trivial, trivial⟩⟩⟩⟩⟩⟩⟩⟩⟩⟩⟩⟩⟩⟩⟩⟩⟩)
    (fun x K hp hk => ⟨_, by kernel_rfl, vF_laws_FnExactWldNew x K hp (fun r h => hk r h)⟩)
end Go.Proofs.YtkencmgcibbfaaaE
