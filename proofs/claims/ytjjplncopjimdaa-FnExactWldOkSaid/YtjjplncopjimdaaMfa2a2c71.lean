/- A part of the proof of laws of the program: what calls of the program answer. Conditions: none. -/
import Derived.Test.YtjjplncopjimdaaMe41408e4
set_option linter.unusedVariables false
set_option linter.unusedSimpArgs false
set_option linter.unusedSectionVars false
/- Contracts: LawXWo. Conditions: none. -/
set_option linter.unusedVariables false
set_option maxHeartbeats 1600000
namespace Go.Proofs.YtjjplncopjimdaaE
open Go
theorem mk_self {l x : List Int} {k : Int} (h : l = markB x k) : l = markB l k := by rw [h, markB_idem]
theorem Wf.row {k : RK} {l : List k.El} (h : Wf (.r k l)) : l.length ≤ maxLen ∧ ∀ y ∈ flat k l, Wf y := by
  cases h with
  | r _ _ h1 h2 => exact ⟨h1, h2⟩
theorem Wf.bytes {l : List Int} (h : Wf (.r .u8 l)) : l.length ≤ 9223372036854775807 ∧ Bytes l := by
  obtain ⟨h1, h2⟩ := Wf.row (k := .u8) h
  refine ⟨h1, Bytes.of_wf fun y hy => ?_⟩
  have h3 : D.i .u8 y ∈ flat .u8 l := List.mem_flatMap.2 ⟨y, hy, List.mem_singleton.2 rfl⟩
  have h4 := h2 _ h3
  cases h4 with
  | i _ _ h5 => exact h5
theorem wf_frm {f : Frm} (h : ∀ d ∈ RK.cells .frm f, Wf d) : f.data.length ≤ 9223372036854775807 ∧ Bytes f.data := Wf.bytes (h (.r .u8 f.data) (by simp [RK.cells]))
theorem mem_flat {k : RK} {l : List k.El} {x : k.El} (hx : x ∈ l) {d : D} (hd : d ∈ k.cells x) : d ∈ flat k l := List.mem_flatMap.2 ⟨x, hx, hd⟩
theorem Wf.parts {l : List Part} (h : Wf (.r .part l)) : l.length ≤ 9223372036854775807 ∧ ∀ p ∈ l, p.data.length ≤ 9223372036854775807 := by
  obtain ⟨h1, h2⟩ := Wf.row (k := .part) h
  exact ⟨h1, fun p hp => (Wf.bytes (h2 _ (mem_flat (k := .part) hp (d := .r .u8 p.data) (by simp [RK.cells])))).1⟩
theorem Wf.partsB {l : List Part} (h : Wf (.r .part l)) : ∀ p ∈ l, Bytes p.data := by
  obtain ⟨h1, h2⟩ := Wf.row (k := .part) h
  exact fun p hp => (Wf.bytes (h2 _ (mem_flat (k := .part) hp (d := .r .u8 p.data) (by simp [RK.cells])))).2
theorem wf_tx {t : TxS} (h : ∀ d ∈ txC t, Wf d) : (t.flight.length ≤ 9223372036854775807 ∧ ∀ p ∈ t.flight, p.data.length ≤ 9223372036854775807) ∧ (t.queue.length ≤ 9223372036854775807 ∧ ∀ p ∈ t.queue, p.data.length ≤ 9223372036854775807) :=
  ⟨Wf.parts (h (.r .part t.flight) (by simp [txC])), Wf.parts (h (.r .part t.queue) (by simp [txC]))⟩
theorem wf_ct {t : CtS} (h : ∀ d ∈ ctC t, Wf d) : t.queue.length ≤ 9223372036854775807 ∧ ∀ p ∈ t.queue, p.data.length ≤ 9223372036854775807 := Wf.parts (h (.r .part t.queue) (by simp [ctC]))
theorem wf_rx {t : RxS} (h : ∀ d ∈ rxC t, Wf d) : t.join.got.length ≤ 9223372036854775807 ∧ Bytes t.join.got := Wf.bytes (h (.r .u8 t.join.got) (by simp [rxC]))
theorem wf_cr {t : CrS} (h : ∀ d ∈ crC t, Wf d) : t.join.got.length ≤ 9223372036854775807 ∧ Bytes t.join.got := Wf.bytes (h (.r .u8 t.join.got) (by simp [crC]))
theorem wf_num {k : IntKind} {x : Int} (h : Wf (.i k x)) : (Lit.int k x).wf = true := by
  cases h; assumption
theorem Wf.byrs {l : List (List Int)} (h : Wf (.r .byr l)) : l.length ≤ 9223372036854775807 ∧ ∀ y ∈ l, y.length ≤ 9223372036854775807 := by
  obtain ⟨h1, h2⟩ := Wf.row (k := .byr) h
  exact ⟨h1, fun y hy => (Wf.bytes (h2 _ (mem_flat (k := .byr) hy (d := .r .u8 y) (by simp [RK.cells])))).1⟩
theorem Wf.nets {l : List NetS} (h : Wf (.r .netm l)) : NetM 9223372036854775807 l := by
  obtain ⟨h1, h2⟩ := Wf.row (k := .netm) h
  exact ⟨h1, fun y hy => (Wf.bytes (h2 _ (mem_flat (k := .netm) hy (d := .r .u8 y.bytes) (by simp [RK.cells])))).1⟩
theorem wf_end {e : EndS} (h : ∀ d ∈ RK.cells .wend e, Wf d) : EndM 9223372036854775807 e := by
  have h' : ∀ d ∈ txC e.tx ++ (rxC e.rx ++ (ctC e.ctx ++ (crC e.crx ++ [.r .byr e.put, .r .byr e.got]))), Wf d := h
  obtain ⟨⟨t1, t2⟩, t3, t4⟩ := wf_tx (t := e.tx) fun d hd => h' d (List.mem_append_left _ hd)
  obtain ⟨r1, _⟩ := wf_rx (t := e.rx) fun d hd => h' d (List.mem_append_right _ (List.mem_append_left _ hd))
  obtain ⟨c1, c2⟩ := wf_ct (t := e.ctx) fun d hd => h' d (List.mem_append_right _ (List.mem_append_right _ (List.mem_append_left _ hd)))
  obtain ⟨g1, _⟩ := wf_cr (t := e.crx) fun d hd => h' d (List.mem_append_right _ (List.mem_append_right _ (List.mem_append_right _ (List.mem_append_left _ hd))))
  obtain ⟨p1, p2⟩ := Wf.byrs (h' (.r .byr e.put) (List.mem_append_right _ (List.mem_append_right _ (List.mem_append_right _ (List.mem_append_right _ (by simp))))))
  obtain ⟨q1, q2⟩ := Wf.byrs (h' (.r .byr e.got) (List.mem_append_right _ (List.mem_append_right _ (List.mem_append_right _ (List.mem_append_right _ (by simp))))))
  exact ⟨t1, t2, t3, t4, r1, c1, c2, g1, p1, p2, q1, q2⟩
theorem wf_wld {w : WldS} (h : ∀ d ∈ wldC w, Wf d) : WldM 9223372036854775807 w := by
  obtain ⟨h1, h2⟩ := Wf.row (k := .wend) (h (.r .wend w.ends) (by simp [wldC, cfgC]))
  obtain ⟨h3, h4⟩ := Wf.row (k := .nets) (h (.r .nets w.net) (by simp [wldC, cfgC]))
  exact ⟨h1, fun e he => wf_end fun d hd => h2 d (mem_flat (k := .wend) he hd), h3, fun l hl => Wf.nets (h4 _ (mem_flat (k := .nets) hl (d := .r .netm l) (by simp [RK.cells])))⟩
theorem or_wld {r l : Int} {P : Prop} (h : (0 ≤ r ∧ r ≤ l ∧ P) ∨ r = -1) (h2 : 0 ≤ r) : P := by
  rcases h with h | h
  · exact h.2.2
  · omega
theorem or_wldM {r l : Int} {w : WldS} (h : (0 ≤ r ∧ r ≤ l ∧ WldM 1048576 w) ∨ r = -1) (h2 : 0 ≤ r) : WldM 1048576 w := or_wld h h2
theorem WldM.le {m k : Nat} {w : WldS} (h : WldM m w) (hk : m ≤ k) : WldM k w := ⟨Nat.le_trans h.el hk, fun e he => (h.ed e he).le hk, Nat.le_trans h.nl hk, fun l hl => (h.nd l hl).le hk⟩
theorem WldS.eta (w : WldS) : (⟨⟨w.cfg.mode, w.cfg.win, w.cfg.mps, w.cfg.mtu, w.cfg.try_⟩, w.ends, w.net, w.link⟩ : WldS) = w := rfl

/-! laws.FnExactWldOk -/
def c_laws_FnExactWldOk : Ent := ctr (α := (WldS)) (ρ := (Bool)) [] [] (rs1 rWld) (fun x_ => (fun (w : WldS) => (∀ d ∈ wldC w, Wf d)) x_) (fun x_ r_ => (fun x_ => (fun (w : WldS) => ((fun r_ => (fun (r : Bool) => (r = true)) r_))) x_) x_ r_) (fun r_ => (fun (r : Bool) => ([rB.to r])) r_) (fun r_ => (fun (r : Bool) => ([])) r_)
def V_laws_FnExactWldOk : Env := ⟨tys, [(5, c_laws_szWldWorld), (6, c_spec_WldOk), (7, c_laws_toWldWorld), (8, c_impl_WldOk), (9, c_laws_eqWldWorld)], [], [(1, 0), (5, 1)], [], [], [], [], [(10, [(0, false), (1, false), (2, true), (3, true), (4, false)])]⟩
end Go.Proofs.YtjjplncopjimdaaE

/- Calls answer what is promised: LawXWo. Conditions: none. -/
set_option linter.unusedVariables false
set_option maxHeartbeats 1600000
namespace Go.Proofs.YtjjplncopjimdaaE
open Go
set_option maxRecDepth 40000 in
theorem vF_laws_FnExactWldOk (w:WldS) (K:List Arg→List (List AC)→Prop) (hp:∀ d ∈ wldC w,Wf d) (hk:∀ (r:Bool),(r=true)→K ([rB.to r]) ([])):(true=true)∧(((WldM (9223372036854775807:Nat) w)∧(((0:Int)≤(1048576:Int))∧((1048576:Int)≤(1048576:Int))))∧(∀ r:Int,((((0:Int)≤r)∧((r≤(1048576:Int))∧(WldM (1048576:Nat) w)))∨(r=(-1:Int)))→(true=true)∧(if ((decide (r < (0:Int)))=true) then ((true=true)∧(K [(aB true)] [])) else ((true=true)∧((WldM (1048576:Nat) w)∧(∀ r1:WldS,(r1=w)→(true=true)∧((true=true)∧((WldM (1048576:Nat) r1)∧(∀ r2:Bool,(r2=(decide (WldP r1)))→(true=true)∧((true=true)∧((WldM (1048576:Nat) w)∧(∀ r3:WldS,(r3=w)→(true=true)∧((true=true)∧((WldM (1048576:Nat) r3)∧(∀ r4:Bool,(r4=(decide (WldP r3)))→(true=true)∧(if ((r4 != r2)=true) then ((true=true)∧(K [(aB false)] [])) else ((true=true)∧((WldM (1048576:Nat) w)∧(∀ r5:WldS,(r5=w)→(true=true)∧((true=true)∧((true=true)∧((WldM (137438953472:Nat) r3)∧(∀ r6:Bool,(r6=(decide (r3=r5)))→(true=true)∧((true=true)∧(if ((!r6)=true) then ((true=true)∧(K [(aB false)] [])) else ((true=true)∧(K [(aB true)] []))))))))))))))))))))))))))) := by
  have hM := wf_wld hp
  clear hp

  repeat' first
    | exact rfl
    | exact True.intro
    | exact hk _ rfl
    | with_reducible apply And.intro
    | with_reducible refine andI ?_
    | (with_reducible intro y_ hy_; subst hy_; try simp only [WldS.eta])
    | with_reducible intro y_
    | with_reducible assumption
    | refine ifTr ?_
    | refine ifEq rfl ?_
    | refine ifNeB rfl ?_
    | refine ifLt (by omega) ?_
    | refine ifNe (by omega) ?_
    | refine ifLtB (fun h => ?_) (fun h => ?_)
    | omega
    | exact hM
    | exact or_wldM (by assumption) (by omega)
    | exact (or_wldM (by assumption) (by omega)).le (by decide)
    | exact Nat.le_trans (or_wldM (by assumption) (by omega)).el (by decide)
theorem w_laws_FnExactWldOk : Valid Try.prog 3 c_laws_FnExactWldOk :=
  valid_ctr2 (V := V_laws_FnExactWldOk) (tysB_ok tys_ok) ⟨(CallsL.cons w_laws_szWldWorld (CallsL.cons w_spec_WldOk (CallsL.cons w_laws_toWldWorld (CallsL.cons w_impl_WldOk (CallsL.cons w_laws_eqWldWorld (CallsL.nil _)))))), (IosL.nil _)⟩ mixed 0 2 Try.func3 rfl (by kernel_rfl)
    (fun c hc => by
      obtain rfl := Option.some.inj hc
      exact ⟨trivial, ⟨trivial, ⟨trivial, ⟨⟨trivial, ⟨⟨trivial, trivial⟩, trivial⟩⟩, ⟨trivial, ⟨trivial, ⟨trivial, ⟨⟨trivial, ⟨⟨trivial, trivial⟩, trivial⟩⟩, ⟨⟨trivial, ⟨⟨trivial, trivial⟩, trivial⟩⟩, ⟨trivial, trivial⟩⟩⟩⟩⟩⟩⟩⟩⟩⟩)
    (fun x K hp hk => ⟨_, by kernel_rfl, vF_laws_FnExactWldOk x K hp (fun r h => hk r h)⟩)
end Go.Proofs.YtjjplncopjimdaaE
