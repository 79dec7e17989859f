/- A part of the proof of laws of the program: what calls of the program answer. Conditions: none. -/
import Derived.Test.YtjjcjpmfkbfdfaaM1adce54d
import Derived.ChangeSlices
import Derived.Deep.Slices
set_option linter.unusedVariables false
set_option linter.unusedSimpArgs false
set_option linter.unusedSectionVars false

/- Contracts: arguments as plain data, what must hold ahead, what is answered. Conditions: none. -/
set_option linter.unusedVariables false
namespace Go.Proofs.YtjjcjpmfkbfdfaaE
open Go Go.RowKit
def aI (k : IntKind) (x : Int) : Arg := .v false [.d (.i k x)]
def aB (x : Bool) : Arg := .v false [.d (.b x)]
def aR (k : RK) (l : List k.El) : Arg := .v false [.d (.r k l)]
def at_u8 (l : List Int) (i : Nat) : Int := l.getD i 0
def at_i64 (l : List Int) (i : Nat) : Int := l.getD i 0
structure Rep (α : Type) where
  to : α → Arg
  of : Arg → Option α
  sd : Option (Arg → Prop) := none
  inv : ∀ a x, of a = some x → (∀ p, sd = some p → p a) → a = to x
def val1 : Arg → Option D
  | .v false [.d x] => some x
  | _ => none
theorem val1_spec {a : Arg} {x : D} (h : val1 a = some x) : a = .v false [.d x] := by
  unfold val1 at h
  split at h
  · cases h; rfl
  · simp at h
def oI (k : IntKind) (a : Arg) : Option Int := match val1 a with
  | some (.i k' x) => if k = k' then some x else none
  | _ => none
def rI (k : IntKind) : Rep Int where
  to x := .v false [.d (.i k x)]
  of := oI k
  inv a x h _ := by
    unfold oI at h
    split at h
    · rename_i k' y hv
      split at h
      · rename_i hk; cases h; subst hk; exact val1_spec hv
      · simp at h
    · simp at h
def oB (a : Arg) : Option Bool := match val1 a with
  | some (.b x) => some x
  | _ => none
def rB : Rep Bool where
  to x := .v false [.d (.b x)]
  of := oB
  inv a x h _ := by
    unfold oB at h
    split at h
    · rename_i y hv; cases h; exact val1_spec hv
    · simp at h
def oR (k : RK) (a : Arg) : Option (List k.El) := match val1 a with
  | some (.r k' l) => if h : k' = k then some (castL h l) else none
  | _ => none
def rR (k : RK) : Rep (List k.El) where
  to x := .v false [.d (.r k x)]
  of := oR k
  inv a x h _ := by
    unfold oR at h
    split at h
    · rename_i k' l hv
      split at h
      · rename_i hk; subst hk; cases h; exact val1_spec hv
      · simp at h
    · simp at h
def dats : List AC → Option (List D)
  | [] => some []
  | .d x :: r => match dats r with
    | some xs => some (x :: xs)
    | none => none
  | .own _ :: _ => none
  | .xx :: _ => none
theorem dats_spec : ∀ {cs : List AC} {ds : List D}, dats cs = some ds → cs = ds.map .d
  | [], ds, h => by simp only [dats, Option.some.injEq] at h; subst h; rfl
  | .d x :: r, ds, h => by
    simp only [dats] at h
    split at h
    · rename_i xs hx; cases h; rw [dats_spec hx]; rfl
    · simp at h
  | .own _ :: _, ds, h => by simp [dats] at h
  | .xx :: _, ds, h => by simp [dats] at h
def valS : Arg → Option (List D)
  | .v true cs => dats cs
  | _ => none
theorem valS_spec {a : Arg} {x : List D} (h : valS a = some x) : a = .v true (x.map .d) := by
  unfold valS at h
  split at h
  · rw [dats_spec h]
  · simp at h
def oS {α : Type} (mk : List D → Option α) (a : Arg) : Option α := match valS a with
  | some ds => mk ds
  | none => none
def rS {α : Type} (cells : α → List D) (mk : List D → Option α) (h : ∀ ds e, mk ds = some e → cells e = ds) : Rep α where
  to x := .v true ((cells x).map .d)
  of := oS mk
  inv a x hx _ := by
    unfold oS at hx
    split at hx
    · rename_i ds hv; rw [h ds x hx]; exact valS_spec hv
    · simp at hx
def oP {α : Type} (mk : List D → Option α) : Arg → Option α
  | .p cs => match dats cs with
    | some ds => mk ds
    | none => none
  | _ => none
def rP {α : Type} (cells : α → List D) (mk : List D → Option α) (h : ∀ ds e, mk ds = some e → cells e = ds) : Rep α where
  to x := .p ((cells x).map .d)
  of := oP mk
  inv a x hx _ := by
    unfold oP at hx
    split at hx
    · split at hx
      · rename_i ds hv; rw [h ds x hx, dats_spec hv]
      · simp at hx
    · simp at hx
def cfgC (c : Cfg) : List D := [.i .i64 c.mode, .i .i64 c.win, .i .i64 c.mps, .i .i64 c.mtu, .i .i64 c.try_]
def mkCfg : List D → Option Cfg
  | [.i .i64 a, .i .i64 b, .i .i64 c, .i .i64 d, .i .i64 e] => some ⟨a, b, c, d, e⟩
  | _ => none
theorem mkCfg_cells (ds : List D) (e : Cfg) (h : mkCfg ds = some e) : cfgC e = ds := by unfold mkCfg at h; split at h <;> first | (cases h; rfl) | simp at h
structure RdS where
  b : List Int
  p : Int
def rdC (r : RdS) : List D := [.r .u8 r.b, .i .i64 r.p]
def mkRd : List D → Option RdS
  | [.r .u8 b, .i .i64 p] => some ⟨b, p⟩
  | _ => none
theorem mkRd_cells (ds : List D) (e : RdS) (h : mkRd ds = some e) : rdC e = ds := by unfold mkRd at h; split at h <;> first | (cases h; rfl) | simp at h
structure WldS where
  cfg : Cfg
  ends : List EndS
  net : List (List NetS)
  link : Int
def rInt : Rep Int := rI .i64
def rByte : Rep Int := rI .u8
def rBytes : Rep (List Int) := rR .u8
def rCfg : Rep Cfg := rS cfgC mkCfg mkCfg_cells
def rRd : Rep RdS := rP rdC mkRd mkRd_cells
/-! ### arguments, one behind the other -/
structure Reps (α : Type) where
  to : α → List Arg
  of : List Arg → Option α
  sd : Option (List Arg → Prop) := none
  inv : ∀ a x, of a = some x → (∀ p, sd = some p → p a) → a = to x
def rs0 : Reps Unit where
  to _ := []
  of | [] => some ()
     | _ => none
  inv a x h _ := by
    split at h
    · rfl
    · simp at h
def sd1 : Option (Arg → Prop) → Option (List Arg → Prop)
  | none => none
  | some p => some fun
    | a :: _ => p a
    | [] => False
def sd2 : Option (Arg → Prop) → Option (List Arg → Prop) → Option (List Arg → Prop)
  | none, none => none
  | some p, none => some fun
    | a :: _ => p a
    | [] => False
  | none, some q => some fun
    | _ :: as => q as
    | [] => False
  | some p, some q => some fun
    | a :: as => p a ∧ q as
    | [] => False
def rs1 {α : Type} (A : Rep α) : Reps α where
  to x := [A.to x]
  of | [a] => A.of a
     | _ => none
  sd := sd1 A.sd
  inv a x h hs := by
    split at h
    · rw [A.inv _ _ h fun p hp => by
        have := hs _ (by rw [hp]; rfl)
        exact this]
    · simp at h
def rs {α β : Type} (A : Rep α) (B : Reps β) : Reps (α × β) where
  to x := A.to x.1 :: B.to x.2
  of | a :: as => match A.of a, B.of as with
       | some x, some y => some (x, y)
       | _, _ => none
     | _ => none
  sd := sd2 A.sd B.sd
  inv a x h hs := by
    split at h
    · split at h
      · rename_i h1 h2
        cases h
        rw [A.inv _ _ h1 fun p hp => ?_, B.inv _ _ h2 fun q hq => ?_]
        · cases hA : A.sd with
          | none => have := hs _ (by rw [hA, hq]; rfl); exact this
          | some p => have := hs _ (by rw [hA, hq]; rfl); exact this.2
        · cases hB : B.sd with
          | none => have := hs _ (by rw [hp, hB]; rfl); exact this
          | some q => have := hs _ (by rw [hp, hB]; rfl); exact this.1
      · simp at h
    · simp at h
def sideP : Option (List Arg → Prop) → List Arg → Prop → Prop
  | none, _, p => p
  | some q, as, p => q as ∧ p
theorem sideP_ok {s : Option (List Arg → Prop)} {as : List Arg} {p : Prop} (h : sideP s as p) : (∀ q, s = some q → q as) ∧ p := by
  cases s with
  | none => exact ⟨fun q hq => (by cases hq), h⟩
  | some q => exact ⟨fun q' hq => (by cases hq; exact h.1), h.2⟩
theorem sideP_mono {s : Option (List Arg → Prop)} {as : List Arg} {p p' : Prop} (h : sideP s as p) (hm : p → p') : sideP s as p' := by
  cases s with
  | none => exact hm h
  | some q => exact ⟨h.1, hm h.2⟩
def ctr {α ρ : Type} (own res : List (Nat × Nat)) (A : Reps α) (pre : α → Prop) (post : α → ρ → Prop) (out : ρ → List Arg) (bs : ρ → List (List AC)) (clo : Option (Nat × Bool) := none) (skip : List (Nat × Nat) := []) : Ent where
  own := own
  res := res
  clo := clo
  skip := skip
  F as K := match A.of as with
    | some x => sideP A.sd as (pre x ∧ ∀ r, post x r → K (out r) (bs r))
    | none => False
  mono as K K' hm h := by
    split at h
    · exact sideP_mono h fun h => ⟨h.1, fun r hr => hm _ _ (h.2 r hr)⟩
    · exact h
theorem valid_ctr {P : Program} {V : Env} (hV : TysOk P V) (hC : AllOk P V) (hm : P.follows .mixedOrders = true) {f : Nat} {fn : Func} {α ρ : Type} {own res : List (Nat × Nat)} {A : Reps α} {pre : α → Prop} {post : α → ρ → Prop} {out : ρ → List Arg} {bs : ρ → List (List AC)} {clo : Option (Nat × Bool)} {skip : List (Nat × Nat)} (nr nb : Nat)
    (hf : P.funcs[f]? = some fn) (hbody : fn.body.isSome = true) (hname : (fn.name == "runtime.NumGoroutine") = false)
    (hl : ∀ c, fn.body = some c → LoopsIn V c) (H : ∀ x K, pre x → (∀ r, post x r → K (out r) (bs r)) → evF V (ctr own res A pre post out bs clo skip) fn nr nb (A.to x) K) : Valid P f (ctr own res A pre post out bs clo skip) :=
  valid_of hV hC hm nr nb hf hbody hname hl fun as K h => by
    have h' : (match A.of as with
      | some x => sideP A.sd as (pre x ∧ ∀ r, post x r → K (out r) (bs r))
      | none => False) := h
    split at h'
    · rename_i x hx
      obtain ⟨h1, h2⟩ := sideP_ok h'
      rw [A.inv _ _ hx h1]
      exact H x K h2.1 h2.2
    · exact h'.elim
theorem valid_ctr2 {P : Program} {V : Env} (hV : TysOk P V) (hC : AllOk P V) (hm : P.follows .mixedOrders = true) {f : Nat} {fn : Func} {α ρ : Type} {own res : List (Nat × Nat)} {A : Reps α} {pre : α → Prop} {post : α → ρ → Prop} {out : ρ → List Arg} {bs : ρ → List (List AC)} {clo : Option (Nat × Bool)} {skip : List (Nat × Nat)} (nr nb : Nat)
    (hf : P.funcs[f]? = some fn) (hbody : fn.body.isSome = true) (hname : (fn.name == "runtime.NumGoroutine") = false)
    (hl : ∀ c, fn.body = some c → LoopsIn V c) (H : ∀ x K, pre x → (∀ r, post x r → K (out r) (bs r)) → ∃ p : Prop, evF V (ctr own res A pre post out bs clo skip) fn nr nb (A.to x) K = p ∧ p) : Valid P f (ctr own res A pre post out bs clo skip) :=
  valid_ctr hV hC hm nr nb hf hbody hname hl fun x K hp hk => by
    obtain ⟨p, h1, h2⟩ := H x K hp hk
    rw [h1]; exact h2
end Go.Proofs.YtjjcjpmfkbfdfaaE


/- Loops by data: what stands at a loop's head, what stands behind it. Conditions: none. -/
set_option linter.unusedVariables false
namespace Go.Proofs.YtjjcjpmfkbfdfaaE
open Go Go.RowKit
structure Kept where
  s : List Nat
  b : List Nat
  r : List Nat
structure KS where
  ok : Bool
  s : List (Nat × T)
  r : List Row
  b : List Box
def lenB : List T → Nat → Bool
  | [], n => n == 0
  | _ :: l, n + 1 => lenB l n
  | _ :: _, 0 => false
def St.keep (S : St) (k : Kept) (n : Nat) : KS := ⟨lenB S.slots n, k.s.map fun t => (t, S.cutT k.b k.r (S.slots.getD t .un)), (S.cut [] k.b k.r).rows, (S.cut [] k.b k.r).boxes⟩
def KS.st (x : KS) (n : Nat) : St := ⟨mkSlots n x.s, x.r, x.b⟩
theorem lenB_eq : ∀ {l : List T} {n : Nat}, lenB l n = true → l.length = n
  | [], n, h => by simp [lenB] at h; simp [h]
  | _ :: l, n + 1, h => by simp [lenB_eq (l := l) (n := n) h]
  | _ :: _, 0, h => by simp [lenB] at h
theorem foldS_len : ∀ (l : List (Nat × T)) (s : List T), (l.foldl (fun s p => s.set p.1 p.2) s).length = s.length
  | [], s => rfl
  | p :: l, s => by rw [List.foldl_cons, foldS_len l]; simp
theorem foldS_get : ∀ (l : List (Nat × T)) (s : List T) (t : Nat) (x : T), (l.foldl (fun s p => s.set p.1 p.2) s)[t]? = some x → s[t]? = some x ∨ (t, x) ∈ l
  | [], s, t, x, h => .inl h
  | p :: l, s, t, x, h => by
    rw [List.foldl_cons] at h
    rcases foldS_get l _ t x h with h | h
    · rw [List.getElem?_set] at h
      split at h
      · rename_i hp
        split at h
        · cases h; subst hp; exact .inr (List.mem_cons_self)
        · simp at h
      · exact .inl h
    · exact .inr (List.mem_cons_of_mem _ h)
theorem Le.slots {S S' : St} (hr : S'.rows = S.rows) (hb : S'.boxes = S.boxes) (hl : S'.slots.length = S.slots.length) (hs : ∀ (t : Nat) (x : T), S'.slots[t]? = some x → x = T.un ∨ S.slots[t]? = some x) : Le S S' := by
  intro w0 prot G a w h
  obtain ⟨s', r', b'⟩ := S'
  dsimp only at hr hb hl hs
  subst hr; subst hb
  refine ⟨h.len.trans hl.symm, ?_, h.box, h.row, h.lt, h.kp, h.pr, h.prl, h.df, h.hb, h.hr, h.so, h.sw, h.ps, h.pn⟩
  intro t x hx
  rcases hs t x hx with rfl | hx
  · trivial
  · exact h.slot t x hx
theorem Le.keep {S : St} {k : Kept} {n : Nat} {x : KS} (h : S.keep k n = { x with ok := true }) : Le S (x.st n) := by
  have hx : (S.keep k n).ok = true := by rw [h]
  have e : x.st n = (S.keep k n).st n := by rw [h]; rfl
  rw [e]
  clear h e
  have hlen := lenB_eq hx
  refine Le.trans (Le.cut S k.s k.b k.r) (Le.slots rfl rfl ?_ ?_)
  · simp only [KS.st, mkSlots, foldS_len, List.length_replicate, St.cut, mapI_len]
    exact hlen.symm
  · intro t y hy
    rcases foldS_get _ _ t y hy with h | h
    · rw [List.getElem?_replicate] at h
      split at h
      · cases h; exact .inl rfl
      · simp at h
    · simp only [St.keep, List.mem_map, Prod.mk.injEq] at h
      obtain ⟨t', ht, rfl, rfl⟩ := h
      have hlt : t' < S.slots.length := by
        rw [hlen]
        have := (List.getElem?_eq_some_iff.1 hy).1
        simpa [KS.st, mkSlots, foldS_len] using this
      right
      simp only [St.cut, mapI_get, List.getElem?_eq_getElem hlt, Option.map_some, Nat.zero_add, List.getD_eq_getElem?_getD, Option.getD_some]
      rw [List.contains_iff_mem.2 ht]
      rfl
structure LoopD (σ ρ η : Type) where
  n : Nat
  head : Kept
  st : σ → KS
  pre : σ → Prop
  nk : Kept
  nst : ρ → KS
  npost : σ → ρ → Prop
  rk : Kept
  rst : η → KS
  rpost : σ → η → Prop
def LoopD.L {σ ρ η : Type} (l : LoopD σ ρ η) (S : St) (K : Ex → St → Prop) : Prop :=
  ∃ s, S.keep l.head l.n = { l.st s with ok := true } ∧ l.pre s ∧ (∀ r, l.npost s r → K .normal ((l.nst r).st l.n)) ∧ ∀ r, l.rpost s r → K .ret ((l.rst r).st l.n)
def LoopD.K {σ ρ η : Type} (l : LoopD σ ρ η) (id : Nat) (s0 : σ) (inv : Nat → σ → Prop) (n : Nat) : Ex → St → Prop
  | .normal, S => ∃ s, S.keep l.head l.n = { l.st s with ok := true } ∧ ∃ m, m < n ∧ inv m s
  | .exit j, S => if j = id then ∃ r, S.keep l.nk l.n = { l.nst r with ok := true } ∧ l.npost s0 r else False
  | .ret, S => ∃ r, S.keep l.rk l.n = { l.rst r with ok := true } ∧ l.rpost s0 r
section
variable {V : Env}
theorem evOps_mono {ops : Array Oper} : ∀ {l : List Oper} {S : St} {K K' : St → Prop}, evOps V ops l S K → (∀ S, K S → K' S) → evOps V ops l S K'
  | [], S, K, K', h, hm => hm _ h
  | o :: l, S, K, K', h, hm => by
    change stepO V S ops o (fun out => S.appK o.dst out fun S' => evOps V ops l S' K) at h
    show stepO V S ops o (fun out => S.appK o.dst out fun S' => evOps V ops l S' K')
    exact stepO_mono h fun out ho => by rw [St.appK_eq] at ho ⊢; exact evOps_mono ho hm
theorem conjL_mono {f g : Nat → Prop} (h : ∀ i, f i → g i) : ∀ {l : List Nat}, conjL l f → conjL l g
  | [], _ => trivial
  | [i], hk => h i hk
  | i :: j :: l, hk => ⟨h i hk.1, conjL_mono h hk.2⟩
theorem evR_mono {u : List Nat × List Nat} {ops : Array Oper} : ∀ {n : Nat} {listed : Array Bool} {S : St} {K K' : St → Prop}, evR V u ops n listed S K → (∀ S, K S → K' S) → evR V u ops n listed S K'
  | 0, listed, S, K, K', h, hm => by
    simp only [evR] at h ⊢
    split at h
    · exact hm _ h
    · exact h.elim
  | n + 1, listed, S, K, K', h, hm => by
    simp only [evR] at h ⊢
    split at h
    · exact hm _ h
    · split at h
      · split at h
        · exact stepO_mono h fun out ho => evR_mono ho hm
        · exact h.elim
      · refine conjL_mono (fun i hi => ?_) h
        split at hi
        · exact stepO_mono hi fun out ho => ⟨ho.1, evR_mono ho.2 hm⟩
        · exact hi.elim
theorem evP_mono {u : List Nat × List Nat} {ops : Array Oper} : ∀ {pl : List (Nat × Bool)} {S : St} {K K' : St → Prop}, evP V u ops pl S K → (∀ S, K S → K' S) → evP V u ops pl S K'
  | [], S, K, K', h, hm => hm _ h
  | (i, s) :: pl, S, K, K', h, hm => by
    change (match fget ops.toList i with
      | some o => match (generalizing := false) s with
        | true => stepO V S ops o fun out => orB (lastF ops i o) (within S u out) = true ∧ S.appK o.dst out fun S' => evP V u ops pl S' K
        | false => match eagD V S u ops o with
          | true => stepO V S ops o fun out => S.appK o.dst out fun S' => evP V u ops pl S' K
          | false => match (generalizing := false) eagH V S ops i o with
            | true => stepO V S ops o fun out => S.appK o.dst out fun S' => evP V u ops pl S' K
            | false => False
      | none => False) at h
    show (match fget ops.toList i with
      | some o => match (generalizing := false) s with
        | true => stepO V S ops o fun out => orB (lastF ops i o) (within S u out) = true ∧ S.appK o.dst out fun S' => evP V u ops pl S' K'
        | false => match eagD V S u ops o with
          | true => stepO V S ops o fun out => S.appK o.dst out fun S' => evP V u ops pl S' K'
          | false => match (generalizing := false) eagH V S ops i o with
            | true => stepO V S ops o fun out => S.appK o.dst out fun S' => evP V u ops pl S' K'
            | false => False
      | none => False)
    split at h
    · rename_i o _
      cases s with
      | true => exact stepO_mono h fun out ho => ⟨ho.1, by have := ho.2; rw [St.appK_eq] at this ⊢; exact evP_mono this hm⟩
      | false =>
        dsimp only at h ⊢
        split at h
        · exact stepO_mono h fun out ho => by rw [St.appK_eq] at ho ⊢; exact evP_mono ho hm
        · split at h
          · exact stepO_mono h fun out ho => by rw [St.appK_eq] at ho ⊢; exact evP_mono ho hm
          · exact h.elim
    · exact h.elim
theorem evD_mono {id : Nat} {ops : Array Oper} {S : St} {K K' : St → Prop} (h : evD V id ops S K) (hm : ∀ S, K S → K' S) : evD V id ops S K' := by
  unfold evD at h ⊢
  split at h
  · split at h
    · exact evP_mono h hm
    · exact h.elim
  · exact evR_mono h fun S hS => by rw [forceS_eq] at hS ⊢; exact hm _ hS
def LoopMono (V : Env) : Prop := ∀ id L, look id V.loops = some L → ∀ S (K K' : Ex → St → Prop), (∀ e S, K e S → K' e S) → L S K → L S K'
theorem inB_mono {id : Nat} {K K' : Ex → St → Prop} (hm : ∀ e S, K e S → K' e S) : ∀ e S, inB id K e S → inB id K' e S := fun e S h => by
  cases e with
  | normal => exact hm _ _ h
  | ret => exact hm _ _ h
  | exit j =>
    simp only [inB] at h ⊢
    split at h
    · rename_i hj; rw [if_pos hj]; exact hm _ _ h
    · rename_i hj; rw [if_neg hj]; exact hm _ _ h
theorem evC_mono (hl : LoopMono V) : ∀ (c : Code) {S : St} {K K' : Ex → St → Prop}, evC V c S K → (∀ e S, K e S → K' e S) → evC V c S K'
  | .skip, _, _, _, h, hm => hm _ _ h
  | .label _, _, _, _, h, hm => hm _ _ h
  | .exit _, _, _, _, h, hm => hm _ _ h
  | .ret, _, _, _, h, hm => hm _ _ h
  | .region id ops d, _, _, _, h, hm => by
    cases d with
    | false => exact evOps_mono h fun S hS => hm _ S hS
    | true => exact evD_mono h fun S hS => hm _ S hS
  | .seq x y, S, K, K', h, hm => by
    refine evC_mono hl x (K := fun e S' => match e with
      | .normal => evC V y S' K
      | .exit j => K (.exit j) S'
      | .ret => K .ret S') h fun e S' hk => ?_
    cases e with
    | normal => exact evC_mono hl y hk hm
    | exit j => exact hm _ _ hk
    | ret => exact hm _ _ hk
  | .cond c x y, S, K, K', h, hm => by
    simp only [evC] at h ⊢
    split at h
    · split at h
      · rename_i t _ ht; rw [if_pos ht]; exact evC_mono hl x h hm
      · rename_i t _ ht; rw [if_neg ht]; exact evC_mono hl y h hm
    · exact h.elim
  | .block id c, S, K, K', h, hm => by
    simp only [evC] at h ⊢
    split at h
    · rename_i L hL; exact hl id L hL _ _ _ hm h
    · exact evC_mono hl c h (inB_mono hm)
  | .loop b, _, _, _, h, _ => h.elim
  | .goto l, _, _, _, h, _ => h.elim
theorem LoopD.mono {σ ρ η : Type} (l : LoopD σ ρ η) (S : St) (K K' : Ex → St → Prop) (hm : ∀ e S, K e S → K' e S) (h : l.L S K) : l.L S K' := by
  obtain ⟨s, h1, h2, h3, h4⟩ := h
  exact ⟨s, h1, h2, fun r hr => hm _ _ (h3 r hr), fun r hr => hm _ _ (h4 r hr)⟩
theorem LoopMono.nil {V : Env} (h : V.loops = []) : LoopMono V := fun id L hL => by rw [h] at hL; cases hL
def LoopsM (l : List (Nat × (St → (Ex → St → Prop) → Prop))) : Prop := ∀ id L, look id l = some L → ∀ S (K K' : Ex → St → Prop), (∀ e S, K e S → K' e S) → L S K → L S K'
theorem LoopsM.nil : LoopsM [] := fun id L hL => by cases hL
theorem LoopsM.cons {σ ρ η : Type} (id : Nat) (l : LoopD σ ρ η) {r : List (Nat × (St → (Ex → St → Prop) → Prop))} (h : LoopsM r) : LoopsM ((id, l.L) :: r) := fun j L hL => by
  rw [look_cons] at hL
  split at hL
  · cases hL; exact l.mono
  · exact h j L hL
theorem LoopD.ok {σ ρ η : Type} (l : LoopD σ ρ η) (hl : LoopMono V) (id : Nat) (b : Code) (inv : σ → Nat → σ → Prop) (hstart : ∀ s0, l.pre s0 → ∃ n, inv s0 n s0)
    (hround : ∀ s0, l.pre s0 → ∀ n s, inv s0 n s → evC V b ((l.st s).st l.n) (l.K id s0 (inv s0) n)) : ∀ S K, l.L S K → evLoop V b S (inB id K) := by
  rintro S K ⟨s0, hcut, hpre, hN, hR⟩
  obtain ⟨n0, hn0⟩ := hstart s0 hpre
  refine ⟨fun n S => ∃ s, S = (l.st s).st l.n ∧ inv s0 n s, n0, (l.st s0).st l.n, Le.keep hcut, ⟨s0, rfl, hn0⟩, ?_⟩
  rintro n S1 ⟨s, rfl, hi⟩
  refine evC_mono hl b (hround s0 hpre n s hi) fun e S' hk => ?_
  cases e with
  | normal =>
    obtain ⟨s', h1, m, hm, h2⟩ := hk
    exact ⟨m, (l.st s').st l.n, hm, Le.keep h1, s', rfl, h2⟩
  | exit j =>
    simp only [LoopD.K] at hk
    split at hk
    · rename_i hj
      obtain ⟨r, h1, h2⟩ := hk
      exact ⟨(l.nst r).st l.n, Le.keep h1, by simp only [inB]; rw [if_pos hj]; exact hN r h2⟩
    · exact hk.elim
  | ret =>
    obtain ⟨r, h1, h2⟩ := hk
    exact ⟨(l.rst r).st l.n, Le.keep h1, hR r h2⟩
theorem LoopD.ok2 {σ ρ η : Type} (l : LoopD σ ρ η) (hl : LoopMono V) (id : Nat) (b : Code) (inv : σ → Nat → σ → Prop) (hstart : ∀ s0, l.pre s0 → ∃ n, inv s0 n s0)
    (hround : ∀ s0, l.pre s0 → ∀ n s, inv s0 n s → ∃ p : Prop, evC V b ((l.st s).st l.n) (l.K id s0 (inv s0) n) = p ∧ p) : ∀ S K, l.L S K → evLoop V b S (inB id K) :=
  l.ok hl id b inv hstart fun s0 hp n s hi => by
    obtain ⟨p, h1, h2⟩ := hround s0 hp n s hi
    rw [h1]; exact h2
end
end Go.Proofs.YtjjcjpmfkbfdfaaE


/- Plain numbers and bytes: no program in sight. Conditions: none. -/
set_option linter.unusedVariables false
namespace Go.Proofs.YtjjcjpmfkbfdfaaE
open Go
theorem iteI {c : Prop} [Decidable c] {a b : Prop} (h1 : c → a) (h2 : ¬ c → b) : if c then a else b := by split <;> rename_i h <;> first | exact h1 h | exact h2 h
def rd (l : List Int) (i : Int) : Int := l.getD i.toNat 0
theorem take_at (k : RK) (l : List k.El) (i : Nat) (h : i < l.length) : l.take (i + 1) = l.take i ++ [k.at l i] := by
  rw [List.take_succ_eq_append_getElem h]; congr 2
  show _ = l.getD i k.z
  rw [List.getD_eq_getElem?_getD, List.getElem?_eq_getElem h]; rfl
theorem at_mem (k : RK) (l : List k.El) (i : Nat) (h : i < l.length) : k.at l i ∈ l := by
  have : k.at l i = l[i] := by
    show l.getD i k.z = _
    rw [List.getD_eq_getElem?_getD, List.getElem?_eq_getElem h]; rfl
  rw [this]; exact List.getElem_mem h
theorem wr {x : Int} (h1 : -9223372036854775808 ≤ x) (h2 : x ≤ 9223372036854775807) : IntKind.i64.wrap x = x := by rw [IntKind.wrap_i64]; omega
theorem wr8m (x : Int) : IntKind.u8.wrap x = x % 256 := by rw [IntKind.wrap_u8]
/-! ### numbers -/
theorem xor64 (a b : Nat) (ha : a < 2 ^ 62) (hb : b < 2 ^ 62) : Go.bits .xor .i64 (a : Int) (b : Int) = ((a ^^^ b : Nat) : Int) := by
  have h := Nat.xor_lt_two_pow ha hb
  simp only [Go.bits, BitVec.ofInt_natCast, BitVec.toNat_xor, BitVec.toNat_ofNat]
  rw [Nat.mod_eq_of_lt (Nat.lt_trans ha (by decide)), Nat.mod_eq_of_lt (Nat.lt_trans hb (by decide)), IntKind.wrap_i64]
  omega
def Bytes (l : List Int) : Prop := ∀ x ∈ l, 0 ≤ x ∧ x ≤ 255
theorem Bytes.nil : Bytes [] := fun x h => by simp at h
theorem Bytes.cons {a : Int} {l : List Int} (h1 : 0 ≤ a) (h2 : a ≤ 255) (h : Bytes l) : Bytes (a :: l) := fun x hx => by
  rcases List.mem_cons.1 hx with rfl | hx
  · exact ⟨h1, h2⟩
  · exact h x hx
theorem Bytes.append {l m : List Int} (h : Bytes l) (k : Bytes m) : Bytes (l ++ m) := fun x hx => by
  rcases List.mem_append.1 hx with hx | hx
  · exact h x hx
  · exact k x hx
theorem Bytes.take {l : List Int} (h : Bytes l) (n : Nat) : Bytes (l.take n) := fun x hx => h x (List.mem_of_mem_take hx)
theorem Bytes.drop {l : List Int} (h : Bytes l) (n : Nat) : Bytes (l.drop n) := fun x hx => h x (List.mem_of_mem_drop hx)
theorem Bytes.set {l : List Int} (h : Bytes l) (n : Nat) {a : Int} (h1 : 0 ≤ a) (h2 : a ≤ 255) : Bytes (l.set n a) := fun x hx => by
  rcases List.mem_or_eq_of_mem_set hx with hx | rfl
  · exact h x hx
  · exact ⟨h1, h2⟩
theorem Bytes.at_ {l : List Int} (h : Bytes l) (i : Int) : 0 ≤ rd l i ∧ rd l i ≤ 255 := by
  unfold rd
  rw [List.getD_eq_getElem?_getD]
  by_cases hi : i.toNat < l.length
  · rw [List.getElem?_eq_getElem hi]
    exact h _ (List.getElem_mem hi)
  · rw [List.getElem?_eq_none (by omega)]
    exact ⟨by simp, by simp⟩
theorem Bytes.of_wf {l : List Int} (h : ∀ x ∈ l, (Lit.int .u8 x).wf = true) : Bytes l := fun x hx => by
  have := h x hx
  simp only [Lit.wf, IntKind.min, IntKind.max, IntKind.signed, IntKind.bits, Bool.and_eq_true, decide_eq_true_eq] at this
  simp at this
  omega
/-! ### sums: sh1 bit, eight bits, a byte, bytes -/
def sh1 (x : Nat) : Nat := if x % 2 = 1 then (x / 2) ^^^ 40961 else x / 2
def ones : Nat → Nat → Nat
  | 0, x => x
  | n + 1, x => ones n (sh1 x)
def stp (s b : Nat) : Nat := ones 8 (s ^^^ b)
def crc (s : Nat) (l : List Int) : Nat := l.foldl (fun s b => stp s b.toNat) s
end Go.Proofs.YtjjcjpmfkbfdfaaE


/- The program's functions as plain functions: frames, pieces, who hears, what one wants. Conditions: none. -/
set_option linter.unusedVariables false
namespace Go.Proofs.YtjjcjpmfkbfdfaaE
open Go
/-! ### what one wants -/
def CfgP (c : Cfg) : Prop := 1 ≤ c.mode ∧ c.mode ≤ 2 ∧ 1 ≤ c.win ∧ c.win ≤ 4 ∧ 1 ≤ c.mps ∧ c.mps ≤ 8 ∧ 1 ≤ c.mtu ∧ c.mtu ≤ 24 ∧ 1 ≤ c.try_ ∧ c.try_ ≤ 5
instance (c : Cfg) : Decidable (CfgP c) := by unfold CfgP; infer_instance
/-! ### frames -/
def SegP (seg len n : Int) : Prop := (seg = 0 ∧ n ≤ 8 ∧ len = n) ∨ (seg = 1 ∧ 1 ≤ n ∧ n ≤ 8 ∧ n + 1 ≤ len ∧ len ≤ 24) ∨ ((seg = 2 ∨ seg = 3) ∧ 1 ≤ n ∧ n ≤ 8 ∧ len = 0)
instance (seg len n : Int) : Decidable (SegP seg len n) := by unfold SegP; infer_instance
def FrmP (f : Frm) : Prop :=
  (f.kind = 1 ∧ (0 ≤ f.seq ∧ f.seq ≤ 7) ∧ (0 ≤ f.ack ∧ f.ack ≤ 7) ∧ f.poll = false ∧ f.say = 0 ∧ SegP f.seg f.len f.data.length) ∨
  (f.kind = 2 ∧ f.seq = 0 ∧ (0 ≤ f.ack ∧ f.ack ≤ 7) ∧ (f.poll && f.final) = false ∧ (0 ≤ f.say ∧ f.say ≤ 2) ∧ f.seg = 0 ∧ f.len = 0 ∧ f.data.length = 0) ∨
  (f.kind = 3 ∧ f.seq = 0 ∧ f.ack = 0 ∧ f.poll = false ∧ f.final = false ∧ f.say = 0 ∧ SegP f.seg f.len f.data.length) ∨
  (f.kind = 4 ∧ f.seq = 0 ∧ f.ack = 0 ∧ f.poll = false ∧ f.final = false ∧ f.say = 0 ∧ f.seg = 0 ∧ (1 ≤ f.len ∧ f.len ≤ 255) ∧ f.data.length = 0)
instance (f : Frm) : Decidable (FrmP f) := by unfold FrmP; infer_instance
def bit (b : Bool) : Int := if b = true then 1 else 0
def CutP (l : List Int) : Prop := 2 ≤ l.length ∧ ((crc 0 (l.take (l.length - 2)) : Nat) : Int) = rd l (l.length - 2) + rd l (l.length - 1) * 256
instance (l : List Int) : Decidable (CutP l) := by unfold CutP; infer_instance
def crcCut (l : List Int) : List Int := if CutP l then l.take (l.length - 2) else []
def frmOf (b : List Int) : Frm := ⟨rd b 0, rd b 1 / 16, rd b 1 % 16, rd b 2 % 2 == 1, rd b 2 / 2 % 2 == 1, rd b 2 / 4 % 4, rd b 2 / 16, rd b 3, b.drop 5⟩
def ReadP (l : List Int) : Prop := CutP l ∧ 5 ≤ (crcCut l).length ∧ rd (crcCut l) 4 = (crcCut l).length - 5 ∧ FrmP (frmOf (crcCut l))
instance (l : List Int) : Decidable (ReadP l) := by unfold ReadP; infer_instance
/-! ### pieces -/
def PartP (p : Part) : Prop := SegP p.seg p.len p.data.length
instance (p : Part) : Decidable (PartP p) := by unfold PartP; infer_instance
def JoinP (j : JoinS) : Prop := (j.len = 0 ∧ j.got.length = 0) ∨ (2 ≤ j.len ∧ j.len ≤ 24 ∧ 1 ≤ j.got.length ∧ (j.got.length : Int) ≤ j.len - 1)
instance (j : JoinS) : Decidable (JoinP j) := by unfold JoinP; infer_instance
structure PutR where
  j : JoinS
  sdu : List Int
  how : Int
/-! ### who hears -/
def RxP (r : RxS) : Prop := (0 ≤ r.expect ∧ r.expect ≤ 7) ∧ (0 ≤ r.count ∧ r.count ≤ 9999) ∧ r.count % 8 = r.expect ∧ JoinP r.join
instance (r : RxS) : Decidable (RxP r) := by unfold RxP; infer_instance
structure HearR where
  r : RxS
  sdus : List (List Int)
  says : List Frm
def RxIn (c : Cfg) (r : RxS) (f : Frm) : Prop := CfgP c ∧ RxP r ∧ FrmP f ∧ (f.kind = 1 ∨ f.kind = 2)
instance (c : Cfg) (r : RxS) (f : Frm) : Decidable (RxIn c r f) := by unfold RxIn; infer_instance
structure BusyR where
  r : RxS
  says : List Frm
/-! ### who grants credits -/
def CrP (r : CrS) : Prop := (0 ≤ r.out ∧ r.out ≤ 255) ∧ JoinP r.join
instance (r : CrS) : Decidable (CrP r) := by unfold CrP; infer_instance
structure GrantR where
  r : CrS
  f : Frm
  ok : Bool
structure CrHearR where
  r : CrS
  sdus : List (List Int)
def CrIn (c : Cfg) (r : CrS) (f : Frm) : Prop := CfgP c ∧ CrP r ∧ FrmP f ∧ f.kind = 3
instance (c : Cfg) (r : CrS) (f : Frm) : Decidable (CrIn c r f) := by unfold CrIn; infer_instance
end Go.Proofs.YtjjcjpmfkbfdfaaE


/- A law of bytes: out of its contract. Conditions: none. -/
set_option linter.unusedVariables false
namespace Go.Proofs.YtjjcjpmfkbfdfaaE
open Go Go.RowKit
def IsRow (w : World) (a : Option Addr) (len cap : Nat) (zs : List Int) : Prop :=
  (a = none ∧ len = 0 ∧ cap = 0 ∧ zs = []) ∨
  ∃ x, a = some x ∧ len ≤ cap ∧ cap ≤ maxLen ∧ zs.length = cap ∧ (∀ i, i < zs.length → w.cell? (x.add i) = some (.int .u8 (zs.getD i 0))) ∧ ∀ n ∈ zs, (Lit.int .u8 n).wf = true
theorem spot_none {w : World} {x : Addr} {v : Value} (h : w.cell? x = some v) : x.spot = none := by
  unfold World.cell? at h
  split at h
  · split at h
    · simp at h
    · rename_i hs; simpa using hs
  · simp at h
theorem flat_u8 : ∀ l : List RK.u8.El, flat .u8 l = l.map (fun x => D.i .u8 x)
  | [] => rfl
  | x :: l => by
    have h := flat_u8 l
    show RK.cells .u8 x ++ flat .u8 l = _
    rw [h]; rfl
theorem map_getD (f : Int → D) (l : List Int) (j : Nat) (h : j < l.length) : (l.map f).getD j (.b false) = f (l.getD j 0) := by
  rw [List.getD_eq_getElem?_getD, List.getElem?_map, List.getD_eq_getElem?_getD, List.getElem?_eq_getElem h]; rfl
theorem take_getD (l : List Int) (n j : Nat) (h : j < n) : l.getD j 0 = (l.take n).getD j 0 := by
  rw [List.getD_eq_getElem?_getD, List.getD_eq_getElem?_getD, List.getElem?_take_of_lt h]
theorem rd_bytes {w : World} {F : HF → Prop} (l : List RK.u8.El) (n : Nat) {g off cap : Nat} (hg : F g) (hn : l.length = n) (h0 : n ≤ cap) (hc : ∀ j, j < n → w.cell? ⟨g, off + j, none⟩ = some (.int .u8 (l.getD j (0 : Int)))) :
    Rd w F (.slice (some ⟨g, off, none⟩) n cap) (.r .u8 l) := by
  subst hn
  refine .row .u8 l g off cap (fun j => .int .u8 (l.getD j (0 : Int))) hg h0 (fun j hj => hc j (by simpa [RK.size] using hj)) fun j hj => ?_
  have hj' : j < l.length := by simpa [RK.size] using hj
  have e : (flat .u8 l).getD j (.b false) = .i .u8 (l.getD j (0 : Int)) := by
    rw [flat_u8]; exact map_getD _ l j hj'
  rw [e]; exact .i _ _
theorem IsRow.rd {w : World} {F : HF → Prop} {a : Option Addr} {len cap : Nat} {zs : List Int} (h : IsRow w a len cap zs) (hF : ∀ x, a = some x → 0 < cap → F x.block) : ∀ l : List RK.u8.El, l = zs.take len → Rd w F (.slice a len cap) (.r .u8 l) := by
  intro l hl0
  rcases h with ⟨rfl, rfl, rfl, rfl⟩ | ⟨x, rfl, hl, hm, hz, hc, hw⟩
  · subst hl0; exact .nil _ _
  · by_cases h0 : cap = 0
    · have h1 : len = 0 := by omega
      subst h1; subst h0; subst hl0
      exact .nil _ _
    · have hx0 := hc 0 (by omega)
      have hs : x.spot = none := spot_none (w := w) (x := x) (by simpa [Addr.add] using hx0)
      obtain ⟨g, off, sp⟩ := x
      dsimp only at hs
      subst hs
      have hlen : (zs.take len).length = len := by rw [List.length_take]; omega
      subst hl0
      refine rd_bytes _ len (hF _ rfl (by omega)) hlen hl fun j hj => ?_
      have := hc j (by omega)
      rw [add_lit] at this
      rw [this]
      exact congrArg (fun z => some (Value.int .u8 z)) (take_getD zs len j hj)
theorem cell_lt {w : World} {x : Addr} {v : Value} (h : w.cell? x = some v) : x.block < w.heap.size := by
  unfold World.cell? at h
  split at h
  · rename_i c _ _ hb
    have := (Array.getElem?_eq_some_iff.1 hb).1
    exact this
  · simp at h
theorem IsRow.lt {w : World} {a : Option Addr} {len cap : Nat} {zs : List Int} (h : IsRow w a len cap zs) {x : Addr} (hx : a = some x) (hc : 0 < cap) : x.block < w.heap.size := by
  rcases h with ⟨rfl, rfl, rfl, rfl⟩ | ⟨y, rfl, hl, hm, hz, hcell, hw⟩
  · cases hx
  · cases hx
    exact cell_lt (w := w) (by simpa [Addr.add] using hcell 0 (by omega))
theorem IsRow.bytes {w : World} {a : Option Addr} {len cap : Nat} {zs : List Int} (h : IsRow w a len cap zs) : Bytes (zs.take len) := by
  rcases h with ⟨rfl, rfl, rfl, rfl⟩ | ⟨x, rfl, hl, hm, hz, hc, hw⟩
  · exact Bytes.nil.take _
  · exact (Bytes.of_wf hw).take _
theorem argR_d {w : World} {F : HF → Prop} {v : Value} {x : D} (h : Rd w F v x) : ArgR w F v [] [] (.v false [.d x]) :=
  ⟨[v], rfl, h.cells, fun _ => rfl, ⟨[], [], ⟨h, rfl⟩, rfl, rfl⟩, rfl⟩
theorem argsR_nil (w : World) (F : HF → Prop) : ArgsR w F [] [] [] [] := ⟨rfl, rfl⟩
theorem argsR_cons {w : World} {F : HF → Prop} {v : Value} {vs : List Value} {x : Arg} {xs : List Arg} (h : ArgR w F v [] [] x) (k : ArgsR w F vs xs [] []) : ArgsR w F (v :: vs) (x :: xs) [] [] := ⟨[], [], [], [], h, k, rfl, rfl⟩
def inW (w : World) : HF → Prop
  | .b b => b < w.heap.size
  | .h _ _ _ => False
theorem inW_sh (w : World) : ShOk w (inW w) := ⟨fun k g s h => h.elim, fun k g s k' s' h _ => h.elim, fun k g s h _ => h.elim⟩
theorem law_of {P : Program} {f : Nat} {c : Ent} (h : Valid P f c) (hcl : c.clo = none) {w : World} {vs : List Value} {ys : List Arg} (ha : ArgsR w (inW w) vs ys [] []) (hF : ∀ K, K [aB true] [] → c.F ys K) :
    Calls P f vs.toArray w fun e w' => e = .returned (.bool true) ∧ Below w.heap.size w w' := by
  have e0 : vs = wrapV c.clo vs := by rw [hcl, wrapV_none]
  rw [e0]
  refine (h.2 w _ vs ys [] [] (fun rs bs => rs = [aB true] ∧ bs = []) ha List.nodup_nil (fun b hb => by cases hb) (fun b hb => hb) (inW_sh w) (hF _ ⟨rfl, rfl⟩)).mono ?_
  rintro e w' ⟨rv, rs, bs, F', B', hb', rfl, ⟨rfl, rfl⟩, hR, hlen, -, -, -, -, hk, -, -⟩
  refine ⟨?_, hk.os, hk.tape, hk.output, hk.size, fun b hb => hk.block b ⟨hb, by simp, fun _ _ h => h⟩⟩
  match rv, hlen, hR with
  | [v], _, hR =>
    obtain ⟨B1, B2, h1, h2, ⟨xs, q1, q2, q3, q4, -⟩, -⟩ := hR
    match xs, q3 rfl, q1, q4 with
    | [u], _, q1, ⟨C1, C2, ⟨hr, _⟩, _⟩ =>
      have := hr.bool
      subst this
      rw [q1]; rfl
end Go.Proofs.YtjjcjpmfkbfdfaaE


/- Arguments as a claim hands them over: what they read as. Conditions: none. -/
set_option linter.unusedVariables false
namespace Go.Proofs.YtjjcjpmfkbfdfaaE
open Go Go.RowKit Go.ChangeShapes Go.WideShapes
def sameB : D → D → Bool
  | .i k _, .i k' _ => decide (k = k')
  | .b _, .b _ => true
  | .r k _, .r k' _ => decide (k = k')
  | _, _ => false
def samesB : List D → List D → Bool
  | [], [] => true
  | a :: l, b :: m => sameB a b && samesB l m
  | _, _ => false
inductive Wf : D → Prop
  | i (k : IntKind) (x : Int) : (Lit.int k x).wf = true → Wf (.i k x)
  | b (x : Bool) : Wf (.b x)
  | r (k : RK) (l : List k.El) : l.length ≤ maxLen → (∀ y ∈ flat k l, Wf y) → Wf (.r k l)
noncomputable def fitB (tys : List (Nat × TyI)) (fs : List (Nat × Nat)) : Nat → List D → Bool := List.rec (motive := fun _ => Nat → List D → Bool) (fun _ zs => zs.isEmpty) (fun p _ ih o zs => match look p.2 tys with
  | some J => Nat.beq p.1 o && samesB (zs.take J.zc.length) J.zc && ih (o + J.zc.length) (zs.drop J.zc.length)
  | none => false) fs
noncomputable def shapeB (tys : List (Nat × TyI)) (I : TyI) : Bool := match I.agg with
  | true => fitB tys I.fs 0 I.zc
  | false => match I.zc with
    | [.i _ _] => true
    | [.b _] => true
    | [.r k _] => match I.el with
      | some (k', _) => decide (k = k')
      | none => false
    | _ => false
noncomputable def shapesB (tys : List (Nat × TyI)) : Bool := tys.all fun p => shapeB tys p.2
section
variable {H : Type} {enc : TypeId × Value → H} {P : Program} {V : Env} (hV : TysOk P V) (hS : shapesB V.tys = true) {w : World}
include hV hS
end
end Go.Proofs.YtjjcjpmfkbfdfaaE
