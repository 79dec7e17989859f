/- A part of the proof of laws of the program: what calls of the program answer. Conditions: none. -/
import Derived.Test.YtjjcjpmfkbfdfaaMc56a49b4
set_option linter.unusedVariables false
set_option linter.unusedSimpArgs false
set_option linter.unusedSectionVars false

/- Contracts: N8. Conditions: none. -/
set_option linter.unusedVariables false
set_option maxHeartbeats 1600000
namespace Go.Proofs.YtjjcjpmfkbfdfaaE
open Go
theorem at64_2 {a b lo hi : Int} {i : Nat} (h : i < 2) (ha : lo ≤ a ∧ a ≤ hi) (hb : lo ≤ b ∧ b ≤ hi) : lo ≤ at_i64 [a, b] i ∧ at_i64 [a, b] i ≤ hi := by
  match i, h with
  | 0, _ => exact ha
  | 1, _ => exact hb
theorem at64_3 {a b c lo hi : Int} {i : Nat} (h : i < 3) (ha : lo ≤ a ∧ a ≤ hi) (hb : lo ≤ b ∧ b ≤ hi) (hc : lo ≤ c ∧ c ≤ hi) : lo ≤ at_i64 [a, b, c] i ∧ at_i64 [a, b, c] i ≤ hi := by
  match i, h with
  | 0, _ => exact ha
  | 1, _ => exact hb
  | 2, _ => exact hc

/-! spec.l20Bytes -/
def c_spec_l20Bytes : Ent := ctr (α := (RdS) × (Int)) (ρ := (Nat) × (RdS)) [] [] (rs rRd (rs1 rInt)) (fun x_ => (fun (r : RdS) (n : Int) => (RdOk r 100000000 ∧ 0 ≤ n ∧ n ≤ 900)) x_.1 x_.2) (fun x_ r_ => (fun x_ => (fun (r : RdS) (n : Int) => ((fun r_ => (fun (m : Nat) (q : RdS) => (RdOn r q (1 + 3 * n) ∧ (m : Int) ≤ n)) r_.1 r_.2))) x_.1 x_.2) x_ r_) (fun r_ => (fun (m : Nat) (q : RdS) => ([(rH .u8).to m])) r_.1 r_.2) (fun r_ => (fun (m : Nat) (q : RdS) => ([(rdC q).map .d])) r_.1 r_.2)
def l_spec_l20Bytes_0 : LoopD ((Nat) × (Int) × (RdS)) ((Nat) × (RdS)) ((Empty)) where
  n := 30
  head := ⟨[0, 5, 6], [0], []⟩
  st := fun x_ => (fun (o : Nat) (k : Int) (r : RdS) => (⟨true, [(0, .pb 0 0 0), (5, .v false [.d (.h .u8 o)]), (6, num .i64 k)], [], [⟨0, some ((rdC r).map .d)⟩]⟩)) x_.1 x_.2.1 x_.2.2
  pre := fun x_ => (fun (o : Nat) (k : Int) (r : RdS) => (RdOk r 200000000 ∧ o = 0 ∧ 0 ≤ k ∧ k ≤ 900)) x_.1 x_.2.1 x_.2.2
  nk := ⟨[0, 5], [0], []⟩
  nst := fun r_ => (fun (o : Nat) (r : RdS) => (⟨true, [(0, .pb 0 0 0), (5, .v false [.d (.h .u8 o)])], [], [⟨0, some ((rdC r).map .d)⟩]⟩)) r_.1 r_.2
  npost := fun x_ r_ => (fun x_ => (fun (o0 : Nat) (k0 : Int) (r0 : RdS) => ((fun r_ => (fun (o : Nat) (r : RdS) => (RdOn r0 r (3 * k0) ∧ (o : Int) = k0)) r_.1 r_.2))) x_.1 x_.2.1 x_.2.2) x_ r_
  rk := ⟨[], [], []⟩
  rst := fun _ => ⟨true, [], [], []⟩
  rpost := fun _ _ => False
def i_spec_l20Bytes_0 (x : (Nat) × (Int) × (RdS)) (n : Nat) (s : (Nat) × (Int) × (RdS)) : Prop := (fun x_ => (fun (o0 : Nat) (k0 : Int) (r0 : RdS) => ((fun s_ => (fun (o : Nat) (k : Int) (r : RdS) => ((n : Int) = k ∧ (o : Int) = k0 - k ∧ k ≤ k0 ∧ k0 ≤ 900 ∧ RdOk r0 200000000 ∧ RdOn r0 r (3 * (k0 - k)))) s_.1 s_.2.1 s_.2.2))) x_.1 x_.2.1 x_.2.2) x s
def V_spec_l20Bytes : Env := ⟨tys2, [(14, c_spec_l20Rd_pick)], [], [], [], [(0, l_spec_l20Bytes_0.L)], [], [], []⟩
/-! spec.l20Cfg -/
def c_spec_l20Cfg : Ent := ctr (α := (RdS) × (Int)) (ρ := (Cfg) × (RdS)) [] [] (rs rRd (rs1 rInt)) (fun x_ => (fun (r : RdS) (n : Int) => (RdOk r 40000000 ∧ n ≤ 1000)) x_.1 x_.2) (fun x_ r_ => (fun x_ => (fun (r : RdS) (n : Int) => ((fun r_ => (fun (c : Cfg) (q : RdS) => (RdOn r q 20 ∧ (n ≤ 0 → CfgP c))) r_.1 r_.2))) x_.1 x_.2) x_ r_) (fun r_ => (fun (c : Cfg) (q : RdS) => ([rCfg.to c])) r_.1 r_.2) (fun r_ => (fun (c : Cfg) (q : RdS) => ([(rdC q).map .d])) r_.1 r_.2)
def V_spec_l20Cfg : Env := ⟨tys2, [(14, c_spec_l20Rd_pick), (15, c_spec_l20Rd_odd)], [], [(4, 1), (5, 2)], [(1, ([0], []))], [], [], [], [(1, [(0, false), (3, false), (6, false), (10, false), (14, false), (18, false), (22, false), (26, false), (1, true), (2, false), (4, true), (5, false), (7, true), (8, false), (9, false), (11, true), (12, false), (13, false), (15, true), (16, false), (17, false), (19, true), (20, false), (21, false), (23, true), (24, false), (25, false), (27, true)])]⟩
/-! spec.l20Part -/
def c_spec_l20Part : Ent := ctr (α := (RdS)) (ρ := (PartN) × (RdS)) [] [] (rs1 rRd) (fun x_ => (fun (r : RdS) => (RdOk r 45000000)) x_) (fun x_ r_ => (fun x_ => (fun (r : RdS) => ((fun r_ => (fun (p : PartN) (q : RdS) => (RdOn r q 50 ∧ p.data ≤ 8)) r_.1 r_.2))) x_) x_ r_) (fun r_ => (fun (p : PartN) (q : RdS) => ([rPartN.to p])) r_.1 r_.2) (fun r_ => (fun (p : PartN) (q : RdS) => ([(rdC q).map .d])) r_.1 r_.2)
def V_spec_l20Part : Env := ⟨tys2, [(14, c_spec_l20Rd_pick), (28, c_spec_l20Bytes)], [], [(2, 1), (3, 2)], [(7, ([0], []))], [], [500012], [], [(7, [(0, false), (1, false), (2, false), (3, false), (4, false), (5, false), (6, false), (7, false), (8, false), (9, true), (10, false), (11, false), (12, true)])]⟩
/-! spec.l20PartOr -/
def c_spec_l20PartOr : Ent := ctr (α := (RdS) × (Int)) (ρ := (PartN) × (RdS)) [] [] (rs rRd (rs1 rInt)) (fun x_ => (fun (r : RdS) (n : Int) => (RdOk r 45000000 ∧ n ≤ 1000)) x_.1 x_.2) (fun x_ r_ => (fun x_ => (fun (r : RdS) (n : Int) => ((fun r_ => (fun (p : PartN) (q : RdS) => (RdOn r q 60 ∧ p.data ≤ 16)) r_.1 r_.2))) x_.1 x_.2) x_ r_) (fun r_ => (fun (p : PartN) (q : RdS) => ([rPartN.to p])) r_.1 r_.2) (fun r_ => (fun (p : PartN) (q : RdS) => ([(rdC q).map .d])) r_.1 r_.2)
def V_spec_l20PartOr : Env := ⟨tys2, [(14, c_spec_l20Rd_pick), (15, c_spec_l20Rd_odd), (34, c_spec_l20Part)], [], [(4, 1), (5, 2)], [], [], [], [], []⟩
/-! spec.l20Frame -/
def c_spec_l20Frame : Ent := ctr (α := (RdS) × (Int)) (ρ := (FrmN) × (RdS)) [] [] (rs rRd (rs1 rInt)) (fun x_ => (fun (r : RdS) (n : Int) => (RdOk r 44000000 ∧ n ≤ 1000)) x_.1 x_.2) (fun x_ r_ => (fun x_ => (fun (r : RdS) (n : Int) => ((fun r_ => (fun (f : FrmN) (q : RdS) => (RdOn r q 100 ∧ f.data ≤ 100)) r_.1 r_.2))) x_.1 x_.2) x_ r_) (fun r_ => (fun (f : FrmN) (q : RdS) => ([rFrmN.to f])) r_.1 r_.2) (fun r_ => (fun (f : FrmN) (q : RdS) => ([(rdC q).map .d])) r_.1 r_.2)
def V_spec_l20Frame : Env := ⟨tys2, [(14, c_spec_l20Rd_pick), (15, c_spec_l20Rd_odd), (34, c_spec_l20Part)], [], [(4, 1), (5, 2), (6, 3), (7, 4)], [(6, ([0], []))], [], [500053], [], [(6, [(0, false), (2, false), (4, false), (7, false), (8, false), (9, false), (10, false), (11, false), (12, false), (1, true), (3, true), (5, true), (6, false), (13, false), (14, true)])]⟩
/-! spec.l20Join -/
def c_spec_l20Join : Ent := ctr (α := (RdS) × (Int)) (ρ := (JoinN) × (RdS)) [] [] (rs rRd (rs1 rInt)) (fun x_ => (fun (r : RdS) (n : Int) => (RdOk r 50000000 ∧ n ≤ 1000)) x_.1 x_.2) (fun x_ r_ => (fun x_ => (fun (r : RdS) (n : Int) => ((fun r_ => (fun (j : JoinN) (q : RdS) => (RdOn r q 500 ∧ j.got ≤ 100)) r_.1 r_.2))) x_.1 x_.2) x_ r_) (fun r_ => (fun (j : JoinN) (q : RdS) => ([rJoinN.to j])) r_.1 r_.2) (fun r_ => (fun (j : JoinN) (q : RdS) => ([(rdC q).map .d])) r_.1 r_.2)
def V_spec_l20Join : Env := ⟨tys2, [(14, c_spec_l20Rd_pick), (15, c_spec_l20Rd_odd), (28, c_spec_l20Bytes)], [], [(4, 1), (5, 2)], [], [], [], [], []⟩
/-! spec.l20Rx -/
def c_spec_l20Rx : Ent := ctr (α := (RdS) × (Int)) (ρ := (RxN) × (RdS)) [] [] (rs rRd (rs1 rInt)) (fun x_ => (fun (r : RdS) (n : Int) => (RdOk r 40000000 ∧ n ≤ 1000)) x_.1 x_.2) (fun x_ r_ => (fun x_ => (fun (r : RdS) (n : Int) => ((fun r_ => (fun (x : RxN) (q : RdS) => (RdOn r q 2000 ∧ x.got ≤ 100)) r_.1 r_.2))) x_.1 x_.2) x_ r_) (fun r_ => (fun (x : RxN) (q : RdS) => ([rRxN.to x])) r_.1 r_.2) (fun r_ => (fun (x : RxN) (q : RdS) => ([(rdC q).map .d])) r_.1 r_.2)
def V_spec_l20Rx : Env := ⟨tys2, [(14, c_spec_l20Rd_pick), (15, c_spec_l20Rd_odd), (32, c_spec_NumNext), (35, c_spec_l20Join)], [], [(4, 1), (6, 2)], [(9, ([0], []))], [], [], [], [(9, [(0, false), (1, false), (2, false), (3, false), (4, false), (5, true), (6, false), (7, false), (8, false), (9, true)])]⟩
/-! spec.l20Crx -/
def c_spec_l20Crx : Ent := ctr (α := (RdS) × (Int)) (ρ := (CrN) × (RdS)) [] [] (rs rRd (rs1 rInt)) (fun x_ => (fun (r : RdS) (n : Int) => (RdOk r 40000000 ∧ n ≤ 1000)) x_.1 x_.2) (fun x_ r_ => (fun x_ => (fun (r : RdS) (n : Int) => ((fun r_ => (fun (x : CrN) (q : RdS) => (RdOn r q 2000 ∧ x.got ≤ 100)) r_.1 r_.2))) x_.1 x_.2) x_ r_) (fun r_ => (fun (x : CrN) (q : RdS) => ([rCrN.to x])) r_.1 r_.2) (fun r_ => (fun (x : CrN) (q : RdS) => ([(rdC q).map .d])) r_.1 r_.2)
def V_spec_l20Crx : Env := ⟨tys2, [(14, c_spec_l20Rd_pick), (15, c_spec_l20Rd_odd), (35, c_spec_l20Join)], [], [(4, 1), (5, 2)], [], [], [], [], []⟩
end Go.Proofs.YtjjcjpmfkbfdfaaE


/- Calls answer what is promised: N8. Conditions: none. -/
set_option linter.unusedVariables false
set_option maxHeartbeats 1600000
namespace Go.Proofs.YtjjcjpmfkbfdfaaE
open Go
def k_722888 (s_:(Prod Nat (Prod Int RdS))) : KS := (KS.mk true [(Prod.mk 0 (T.pb 0 0 0)),(Prod.mk 5 (T.v false [(Cm.d (D.h RK.u8 s_.fst))])),(Prod.mk 6 (num IntKind.i64 s_.snd.fst))] [] [(Box.mk 0 (some [(Cm.d (D.r RK.u8 s_.snd.snd.b)),(mi s_.snd.snd.p)]))])
def k_266787 (s_:(Prod Nat RdS)) : KS := (KS.mk true [(Prod.mk 0 (T.pb 0 0 0)),(Prod.mk 5 (T.v false [(Cm.d (D.h RK.u8 s_.fst))]))] [] [(Box.mk 0 (some [(Cm.d (D.r RK.u8 s_.snd.b)),(mi s_.snd.p)]))])
theorem vF_spec_l20Bytes (r:RdS) (n:Int) (K:List Arg→List (List AC)→Prop) (hp:RdOk r 100000000∧0≤n∧n≤900) (hk:∀ (m:Nat) (q:RdS),(RdOn r q (1 + 3 * n)∧(m:Int)≤n)→K ([(rH .u8).to m]) ([(rdC q).map .d])):True∧(Tt (((RdOk r 1000000000)∧((IntKind.i64.wrap (n + 1))≤(1000000000:Int)))∧(∀ r1:(Prod Int RdS),(PkQ r (IntKind.i64.wrap (n + 1)) r1)→Tt (∃ s:(Prod Nat (Prod Int RdS)),((KS.mk true [(Prod.mk 0 (T.pb 0 0 0)),(Prod.mk 5 (T.v false [(Cm.d (D.h RK.u8 0))])),(Prod.mk 6 (num IntKind.i64 r1.fst))] [] [(Box.mk (Min.min 0 1) (some [(Cm.d (D.r RK.u8 r1.snd.b)),(mi r1.snd.p)]))])=(k_722888 s))∧(((RdOk s.snd.snd 200000000)∧((s.fst=0)∧((0≤s.snd.fst)∧(s.snd.fst≤900))))∧((∀ r2:(Prod Nat RdS),((RdOn s.snd.snd r2.snd ((3:Int) * s.snd.fst))∧(((r2.fst:Nat):Int)=s.snd.fst))→Tt (K [(Arg.v false [(AC.d (D.h RK.u8 r2.fst))])] [[(AC.d (D.r RK.u8 r2.snd.b)),(ai r2.snd.p)]]))∧(∀ r2:Empty,False→False))))))) := by
  obtain ⟨b, p⟩ := r
  have hkk := fun a1_ a2_ a3_ h_ => hk a1_ ⟨a2_, a3_⟩ h_
  dsimp only [rS, rdC, List.map] at hkk
  have g1 := hp.1.1
  try simp only [PkQ, PkQ, RdOk, RdOn] at *
  try simp (disch := omega) only [wr]
  repeat' first
    | exact rfl
    | exact True.intro
    | (intro ⟨o_, b_, p_⟩ ⟨⟨e_, h1_, h2_⟩, h3_⟩
       try dsimp only at e_
       cases e_
       try dsimp only at h1_ h2_ h3_)
    | with_reducible apply And.intro
    | (intro ⟨x_, b_, p_⟩ ⟨e_, h1_, h2_, h3_⟩
       try dsimp only at e_
       cases e_
       try dsimp only at h1_ h2_ h3_)
    | (intro ⟨x_, b_, p_⟩ ⟨⟨e_, h1_, h2_⟩, h3_⟩
       try dsimp only at e_
       cases e_
       try dsimp only at h1_ h2_ h3_)
    | (with_reducible intro y_ hy_; subst hy_)
    | with_reducible intro y_
    | (refine iteI (fun h => ?_) (fun h => ?_))
    | refine ⟨(_, _, ⟨_, _⟩), rfl, ?_⟩
    | refine ⟨n - 1, ?_⟩
    | fail
  all_goals try simp only [cq1, cq2, cq3, cq4, cq5, cq6, cq7, cq8, cq9, cq10, cq11, cq12, cq13, cq14, cq15, cq16, cq17, cq18, cq19, PkQ, RdOk, RdOn] at *
  all_goals try simp (disch := omega) only [wr] at *
  all_goals first
    | assumption
    | omega
    | exact (wr8_in _).1
    | exact (wr8_in _).2
    | (refine hkk _ _ _ ?_
       try dsimp only
       repeat' first | with_reducible apply And.intro | with_reducible intro _
       all_goals first | rfl | assumption | omega | grind [])
    | (simp only [LIM, HL] at *; omega)
    | grind [RdOk, RdOn, LIM, HL]
theorem vL_spec_l20Bytes_0 (o0:Nat) (k0:Int) (r0:RdS) (o:Nat) (k:Int) (r:RdS) (n:Nat) (hp:(fun (o:Nat) (k:Int) (r:RdS) => (RdOk r 200000000∧o=0∧0≤k∧k≤900)) o0 k0 r0) (hi:(n:Int)=k∧(o:Int)=k0 - k∧k≤k0∧k0≤900∧RdOk r0 200000000∧RdOn r0 r (3 * (k0 - k))):if ((decide (k > (0:Int)))=true) then (Tt (((RdOk r 1000000000)∧((256:Int)≤(1000000000:Int)))∧(∀ r1:(Prod Int RdS),(PkQ r (256:Int) r1)→Tt (Tt (((RdOk r1.snd 1000000000)∧((4:Int)≤(1000000000:Int)))∧(∀ r2:(Prod Int RdS),(PkQ r1.snd (4:Int) r2)→Tt (Tt (((RdOk r2.snd 1000000000)∧((3:Int)≤(1000000000:Int)))∧(∀ r3:(Prod Int RdS),(PkQ r2.snd (3:Int) r3)→Tt (((0≤r3.fst)∧(r3.fst < (((List.length (r1.fst :: (r2.fst :: ((255:Int) :: ([]:(List Int)):(List Int)):(List Int)):(List Int))):Nat):Int)))∧((((((0:Int)≤(IntKind.u8.wrap (at_i64 (r1.fst :: (r2.fst :: ((255:Int) :: ([]:(List Int)):(List Int)):(List Int)):(List Int)) r3.fst.toNat)))∧((IntKind.u8.wrap (at_i64 (r1.fst :: (r2.fst :: ((255:Int) :: ([]:(List Int)):(List Int)):(List Int)):(List Int)) r3.fst.toNat))≤(255:Int)))∧True)∧True)∧(((o + 1)≤137438953472)∧(∃ s:(Prod Nat (Prod Int RdS)),((KS.mk true [(Prod.mk 0 (T.pb 0 0 0)),(Prod.mk 5 (T.v false [(Cm.d (D.h RK.u8 (o + 1)))])),(Prod.mk 6 (num IntKind.i64 (IntKind.i64.wrap (k - 1))))] [] [(Box.mk (Min.min 0 1) (some [(Cm.d (D.r RK.u8 r3.snd.b)),(mi r3.snd.p)]))])=(k_722888 s))∧(∃ m:Nat,(m < n)∧((((m:Nat):Int)=s.snd.fst)∧((((s.fst:Nat):Int)=(k0 - s.snd.fst))∧((s.snd.fst≤k0)∧((k0≤900)∧((RdOk r0 200000000)∧((s.snd.snd.b=r0.b)∧((r0.p≤s.snd.snd.p)∧(s.snd.snd.p≤(r0.p + ((3:Int) * (k0 - s.snd.fst))))))))))))))))))))))))) else (∃ r1:(Prod Nat RdS),((KS.mk true [(Prod.mk 0 (T.pb 0 0 0)),(Prod.mk 5 (T.v false [(Cm.d (D.h RK.u8 o))]))] [] [(Box.mk (Min.min 0 1) (some [(Cm.d (D.r RK.u8 r.b)),(mi r.p)]))])=(k_266787 r1))∧(((r1.snd.b=r0.b)∧((r0.p≤r1.snd.p)∧(r1.snd.p≤(r0.p + ((3:Int) * k0)))))∧(((r1.fst:Nat):Int)=k0))) := by
  try dsimp only at hp
  obtain ⟨h2, h3, h4, h5, ⟨g1, g2, g3, g4⟩, e1, e2, e3⟩ := hi
  obtain ⟨b, p⟩ := r
  obtain ⟨b0, p0⟩ := r0
  dsimp only at *
  subst e1
  try simp only [PkQ, PkQ, RdOk, RdOn] at *
  try simp (disch := omega) only [wr]
  repeat' first
    | exact rfl
    | exact True.intro
    | with_reducible apply And.intro
    | (intro ⟨x_, b_, p_⟩ ⟨e_, h1_, h2_, h3_⟩
       try dsimp only at e_
       cases e_
       try dsimp only at h1_ h2_ h3_)
    | (intro ⟨x_, b_, p_⟩ ⟨⟨e_, h1_, h2_⟩, h3_⟩
       try dsimp only at e_
       cases e_
       try dsimp only at h1_ h2_ h3_)
    | (with_reducible intro y_ hy_; subst hy_)
    | with_reducible intro y_
    | (refine iteI (fun h => ?_) (fun h => ?_))
    | refine ⟨(_, _, ⟨_, _⟩), rfl, ?_⟩
    | refine ⟨(_, ⟨_, _⟩), rfl, ?_⟩
    | refine ⟨n - 1, ?_⟩
    | fail
  all_goals try simp only [cq1, cq2, cq3, cq4, cq5, cq6, cq7, cq8, cq9, cq10, cq11, cq12, cq13, cq14, cq15, cq16, cq17, cq18, cq19, PkQ, RdOk, RdOn] at *
  all_goals try simp (disch := omega) only [wr] at *
  all_goals first
    | assumption
    | omega
    | exact (wr8_in _).1
    | exact (wr8_in _).2
    | (refine hk ?_
       try dsimp only
       repeat' first | with_reducible apply And.intro | with_reducible intro _
       all_goals first | rfl | assumption | omega | grind [])
    | (simp only [LIM, HL] at *; omega)
    | grind [RdOk, RdOn, LIM, HL]
theorem vS_spec_l20Bytes_0 (o0 : Nat) (k0 : Int) (r0 : RdS) (hp : (fun (o : Nat) (k : Int) (r : RdS) => (RdOk r 200000000 ∧ o = 0 ∧ 0 ≤ k ∧ k ≤ 900)) o0 k0 r0) : ∃ n : Nat, (fun (o : Nat) (k : Int) (r : RdS) => ((n : Int) = k ∧ (o : Int) = k0 - k ∧ k ≤ k0 ∧ k0 ≤ 900 ∧ RdOk r0 200000000 ∧ RdOn r0 r (3 * (k0 - k)))) o0 k0 r0 := by
  try dsimp only at hp
  try dsimp only
  obtain ⟨h4, h1, h2, h3⟩ := hp
  exact ⟨k0.toNat, by omega, by omega, by omega, by omega, h4, rfl, by omega, by omega⟩
theorem w_spec_l20Bytes : Valid Try.prog 28 c_spec_l20Bytes :=
  valid_ctr2 (V := V_spec_l20Bytes) (tysB_ok tys2_ok) ⟨(CallsL.cons w_spec_l20Rd_pick (CallsL.nil _)), (IosL.nil _)⟩ mixed 0 0 Try.func28 rfl (by kernel_rfl)
    (fun c hc => by
      obtain rfl := Option.some.inj hc
      exact ⟨trivial, ⟨trivial, ⟨⟨trivial, ⟨LoopD.ok2 (V := V_spec_l20Bytes) l_spec_l20Bytes_0 (LoopsM.cons 0 l_spec_l20Bytes_0 LoopsM.nil) 0 _ i_spec_l20Bytes_0 (fun x hx => vS_spec_l20Bytes_0 x.1 x.2.1 x.2.2 hx) (fun x hx n s hi => ⟨_, by kernel_rfl, vL_spec_l20Bytes_0 x.1 x.2.1 x.2.2 s.1 s.2.1 s.2.2 n hx hi⟩), ⟨⟨trivial, ⟨trivial, trivial⟩⟩, ⟨trivial, trivial⟩⟩⟩⟩, ⟨trivial, trivial⟩⟩⟩⟩)
    (fun x K hp hk => ⟨_, by kernel_rfl, vF_spec_l20Bytes x.1 x.2 K hp (fun m q h => hk (m, q) h)⟩)
theorem vF_spec_l20Cfg (r:RdS) (n:Int) (K:List Arg→List (List AC)→Prop) (hp:RdOk r 40000000∧n≤1000) (hk:∀ (c:Cfg) (q:RdS),(RdOn r q 20∧(n≤0→CfgP c))→K ([rCfg.to c]) ([(rdC q).map .d])):Tt (((RdOk r 1000000000)∧((2:Int)≤(1000000000:Int)))∧(∀ r1:(Prod Int RdS),(PkQ r (2:Int) r1)→Tt (Tt (Tt (((RdOk r1.snd 1000000000)∧((4:Int)≤(1000000000:Int)))∧(∀ r2:(Prod Int RdS),(PkQ r1.snd (4:Int) r2)→Tt (Tt (Tt (((RdOk r2.snd 1000000000)∧((8:Int)≤(1000000000:Int)))∧(∀ r3:(Prod Int RdS),(PkQ r2.snd (8:Int) r3)→Tt (Tt (Tt (((RdOk r3.snd 1000000000)∧((3:Int)≤(1000000000:Int)))∧(∀ r4:(Prod Int RdS),(PkQ r3.snd (3:Int) r4)→Tt (Tt (((0≤r4.fst)∧(r4.fst < (((List.length ((IntKind.i64.wrap ((1:Int) + r3.fst)) :: ((3:Int) :: ((8:Int) :: ([]:(List Int)):(List Int)):(List Int)):(List Int))):Nat):Int)))∧(Tt (((RdOk r4.snd 1000000000)∧((24:Int)≤(1000000000:Int)))∧(∀ r5:(Prod Int RdS),(PkQ r4.snd (24:Int) r5)→Tt (Tt (Tt (((RdOk r5.snd 1000000000)∧((2:Int)≤(1000000000:Int)))∧(∀ r6:(Prod Int RdS),(PkQ r5.snd (2:Int) r6)→Tt (Tt (((0≤r6.fst)∧(r6.fst < (((List.length ((24:Int) :: ((IntKind.i64.wrap ((1:Int) + r5.fst)) :: ([]:(List Int)):(List Int)):(List Int))):Nat):Int)))∧(Tt (((RdOk r6.snd 1000000000)∧((5:Int)≤(1000000000:Int)))∧(∀ r7:(Prod Int RdS),(PkQ r6.snd (5:Int) r7)→Tt (Tt (Tt (Tt (((RdOk r7.snd 900000000)∧(n≤1000000000))∧(∀ r8:(Prod Bool RdS),((r8.snd.b=r7.snd.b)∧((r7.snd.p≤r8.snd.p)∧((r8.snd.p≤(r7.snd.p + 1))∧((n≤0)→(r8.fst=false)))))→Tt (if (r8.fst=true) then (Tt (((RdOk r8.snd 1000000000)∧((5:Int)≤(1000000000:Int)))∧(∀ r9:(Prod Int RdS),(PkQ r8.snd (5:Int) r9)→Tt (if ((r9.fst == 0)=true) then (Tt (((RdOk r9.snd 1000000000)∧((2:Int)≤(1000000000:Int)))∧(∀ r10:(Prod Int RdS),(PkQ r9.snd (2:Int) r10)→Tt (((0≤r10.fst)∧(r10.fst < 2))∧(Tt (K [(Arg.v true [(ai (at_i64 ((0:Int) :: ((3:Int) :: ([]:(List Int)):(List Int)):(List Int)) r10.fst.toNat)),(ai (IntKind.i64.wrap ((1:Int) + r2.fst))),(ai (at_i64 ((IntKind.i64.wrap ((1:Int) + r3.fst)) :: ((3:Int) :: ((8:Int) :: ([]:(List Int)):(List Int)):(List Int)):(List Int)) r4.fst.toNat)),(ai (at_i64 ((24:Int) :: ((IntKind.i64.wrap ((1:Int) + r5.fst)) :: ([]:(List Int)):(List Int)):(List Int)) r6.fst.toNat)),(ai (IntKind.i64.wrap ((1:Int) + r7.fst)))])] [[(AC.d (D.r RK.u8 r10.snd.b)),(ai r10.snd.p)]])))))) else (if ((r9.fst == 1)=true) then (Tt (((RdOk r9.snd 1000000000)∧((2:Int)≤(1000000000:Int)))∧(∀ r10:(Prod Int RdS),(PkQ r9.snd (2:Int) r10)→Tt (((0≤r10.fst)∧(r10.fst < 2))∧(Tt (K [(Arg.v true [(ai (IntKind.i64.wrap ((1:Int) + r1.fst))),(ai (at_i64 ((0:Int) :: ((5:Int) :: ([]:(List Int)):(List Int)):(List Int)) r10.fst.toNat)),(ai (at_i64 ((IntKind.i64.wrap ((1:Int) + r3.fst)) :: ((3:Int) :: ((8:Int) :: ([]:(List Int)):(List Int)):(List Int)):(List Int)) r4.fst.toNat)),(ai (at_i64 ((24:Int) :: ((IntKind.i64.wrap ((1:Int) + r5.fst)) :: ([]:(List Int)):(List Int)):(List Int)) r6.fst.toNat)),(ai (IntKind.i64.wrap ((1:Int) + r7.fst)))])] [[(AC.d (D.r RK.u8 r10.snd.b)),(ai r10.snd.p)]])))))) else (if ((r9.fst == 2)=true) then (Tt (((RdOk r9.snd 1000000000)∧((2:Int)≤(1000000000:Int)))∧(∀ r10:(Prod Int RdS),(PkQ r9.snd (2:Int) r10)→Tt (((0≤r10.fst)∧(r10.fst < 2))∧(Tt (K [(Arg.v true [(ai (IntKind.i64.wrap ((1:Int) + r1.fst))),(ai (IntKind.i64.wrap ((1:Int) + r2.fst))),(ai (at_i64 ((0:Int) :: ((9:Int) :: ([]:(List Int)):(List Int)):(List Int)) r10.fst.toNat)),(ai (at_i64 ((24:Int) :: ((IntKind.i64.wrap ((1:Int) + r5.fst)) :: ([]:(List Int)):(List Int)):(List Int)) r6.fst.toNat)),(ai (IntKind.i64.wrap ((1:Int) + r7.fst)))])] [[(AC.d (D.r RK.u8 r10.snd.b)),(ai r10.snd.p)]])))))) else (if ((r9.fst == 3)=true) then (Tt (((RdOk r9.snd 1000000000)∧((2:Int)≤(1000000000:Int)))∧(∀ r10:(Prod Int RdS),(PkQ r9.snd (2:Int) r10)→Tt (((0≤r10.fst)∧(r10.fst < 2))∧(Tt (K [(Arg.v true [(ai (IntKind.i64.wrap ((1:Int) + r1.fst))),(ai (IntKind.i64.wrap ((1:Int) + r2.fst))),(ai (at_i64 ((IntKind.i64.wrap ((1:Int) + r3.fst)) :: ((3:Int) :: ((8:Int) :: ([]:(List Int)):(List Int)):(List Int)):(List Int)) r4.fst.toNat)),(ai (at_i64 ((0:Int) :: ((25:Int) :: ([]:(List Int)):(List Int)):(List Int)) r10.fst.toNat)),(ai (IntKind.i64.wrap ((1:Int) + r7.fst)))])] [[(AC.d (D.r RK.u8 r10.snd.b)),(ai r10.snd.p)]])))))) else (Tt (((RdOk r9.snd 1000000000)∧((2:Int)≤(1000000000:Int)))∧(∀ r10:(Prod Int RdS),(PkQ r9.snd (2:Int) r10)→Tt (((0≤r10.fst)∧(r10.fst < 2))∧(Tt (K [(Arg.v true [(ai (IntKind.i64.wrap ((1:Int) + r1.fst))),(ai (IntKind.i64.wrap ((1:Int) + r2.fst))),(ai (at_i64 ((IntKind.i64.wrap ((1:Int) + r3.fst)) :: ((3:Int) :: ((8:Int) :: ([]:(List Int)):(List Int)):(List Int)):(List Int)) r4.fst.toNat)),(ai (at_i64 ((24:Int) :: ((IntKind.i64.wrap ((1:Int) + r5.fst)) :: ([]:(List Int)):(List Int)):(List Int)) r6.fst.toNat)),(ai (at_i64 ((0:Int) :: ((6:Int) :: ([]:(List Int)):(List Int)):(List Int)) r10.fst.toNat))])] [[(AC.d (D.r RK.u8 r10.snd.b)),(ai r10.snd.p)]]))))))))))))) else (Tt (K [(Arg.v true [(ai (IntKind.i64.wrap ((1:Int) + r1.fst))),(ai (IntKind.i64.wrap ((1:Int) + r2.fst))),(ai (at_i64 ((IntKind.i64.wrap ((1:Int) + r3.fst)) :: ((3:Int) :: ((8:Int) :: ([]:(List Int)):(List Int)):(List Int)):(List Int)) r4.fst.toNat)),(ai (at_i64 ((24:Int) :: ((IntKind.i64.wrap ((1:Int) + r5.fst)) :: ([]:(List Int)):(List Int)):(List Int)) r6.fst.toNat)),(ai (IntKind.i64.wrap ((1:Int) + r7.fst)))])] [[(AC.d (D.r RK.u8 r8.snd.b)),(ai r8.snd.p)]])))))))))))))))))))))))))))))))))))) := by
  have hkk := fun a1_ a2_ a3_ a4_ a5_ a6_ a7_ h_ => hk ⟨a1_, a2_, a3_, a4_, a5_⟩ ⟨a6_, a7_⟩ h_
  dsimp only [rS, rdC, cfgC, rCfg, List.map] at hkk
  have g1 := hp.1.1
  try simp only [PkQ, PkQ, RdOk, RdOn, CfgP] at *
  try simp (disch := omega) only [wr]
  repeat' first
    | exact rfl
    | exact True.intro
    | with_reducible apply And.intro
    | (intro ⟨x_, b_, p_⟩ ⟨e_, h1_, h2_, h3_⟩
       try dsimp only at e_
       cases e_
       try dsimp only at h1_ h2_ h3_)
    | (intro ⟨x_, b_, p_⟩ ⟨⟨e_, h1_, h2_⟩, h3_⟩
       try dsimp only at e_
       cases e_
       try dsimp only at h1_ h2_ h3_)
    | (with_reducible intro y_ hy_; subst hy_)
    | with_reducible intro y_
    | (refine iteI (fun h => ?_) (fun h => ?_))
    | fail
  all_goals try simp only [cq1, cq2, cq3, cq4, cq5, cq6, cq7, cq8, cq9, cq10, cq11, cq12, cq13, cq14, cq15, cq16, cq17, cq18, cq19, PkQ, RdOk, RdOn, CfgP] at *
  all_goals try simp (disch := omega) only [wr] at *
  all_goals first
    | assumption
    | omega
    | exact (wr8_in _).1
    | exact (wr8_in _).2
    | (refine hkk _ _ _ _ _ _ _ ?_
       try dsimp only
       repeat' first | with_reducible apply And.intro | with_reducible intro _
       all_goals first | rfl | assumption | omega | exact (at64_3 (hi := 8) (by omega) ⟨by omega, by omega⟩ ⟨by omega, by omega⟩ ⟨by omega, by omega⟩).1 | exact (at64_3 (lo := 1) (by omega) ⟨by omega, by omega⟩ ⟨by omega, by omega⟩ ⟨by omega, by omega⟩).2 | exact (at64_2 (hi := 24) (by omega) ⟨by omega, by omega⟩ ⟨by omega, by omega⟩).1 | exact (at64_2 (lo := 1) (by omega) ⟨by omega, by omega⟩ ⟨by omega, by omega⟩).2 | grind [CfgP])
    | (simp only [LIM, HL] at *; omega)
    | grind [RdOk, RdOn, CfgP, LIM, HL]
theorem w_spec_l20Cfg : Valid Try.prog 16 c_spec_l20Cfg :=
  valid_ctr2 (V := V_spec_l20Cfg) (tysB_ok tys2_ok) ⟨(CallsL.cons w_spec_l20Rd_pick (CallsL.cons w_spec_l20Rd_odd (CallsL.nil _))), (IosL.nil _)⟩ mixed 0 2 Try.func16 rfl (by kernel_rfl)
    (fun c hc => by
      obtain rfl := Option.some.inj hc
      exact ⟨trivial, ⟨trivial, ⟨⟨trivial, ⟨⟨trivial, ⟨trivial, ⟨trivial, ⟨trivial, ⟨trivial, ⟨trivial, ⟨trivial, ⟨trivial, ⟨trivial, trivial⟩⟩⟩⟩⟩⟩⟩⟩⟩, trivial⟩⟩, ⟨trivial, trivial⟩⟩⟩⟩)
    (fun x K hp hk => ⟨_, by kernel_rfl, vF_spec_l20Cfg x.1 x.2 K hp (fun c q h => hk (c, q) h)⟩)
theorem vF_spec_l20Part (r:RdS) (K:List Arg→List (List AC)→Prop) (hp:RdOk r 45000000) (hk:∀ (p:PartN) (q:RdS),(RdOn r q 50∧p.data≤8)→K ([rPartN.to p]) ([(rdC q).map .d])):Tt (((RdOk r 1000000000)∧((4:Int)≤(1000000000:Int)))∧(∀ r1:(Prod Int RdS),(PkQ r (4:Int) r1)→Tt (Tt (((RdOk r1.snd 100000000)∧(((0:Int)≤(8:Int))∧((8:Int)≤(900:Int))))∧(∀ r2:(Prod Nat RdS),((RdOn r1.snd r2.snd ((1:Int) + ((3:Int) * (8:Int))))∧(((r2.fst:Nat):Int)≤(8:Int)))→Tt (if ((r1.fst != (0:Int))=true) then (if ((((r2.fst:Nat):Int) == (0:Int))=true) then ((((((0:Int)≤(7:Int))∧((7:Int)≤(255:Int)))∧True)∧True)∧(if ((r1.fst == 0)=true) then (if ((r1.fst == 1)=true) then (Tt (((RdOk r2.snd 1000000000)∧((23:Int)≤(1000000000:Int)))∧(∀ r3:(Prod Int RdS),(PkQ r2.snd (23:Int) r3)→Tt (Tt (Tt (Tt (K [(Arg.v true [(ai r1.fst),(ai (IntKind.i64.wrap ((2:Int) + r3.fst))),(AC.d (D.h RK.u8 1))])] [[(AC.d (D.r RK.u8 r3.snd.b)),(ai r3.snd.p)]]))))))) else (Tt (K [(Arg.v true [(ai r1.fst),(ai 1),(AC.d (D.h RK.u8 1))])] [[(AC.d (D.r RK.u8 r2.snd.b)),(ai r2.snd.p)]]))) else (if ((r1.fst == 1)=true) then (Tt (((RdOk r2.snd 1000000000)∧((23:Int)≤(1000000000:Int)))∧(∀ r3:(Prod Int RdS),(PkQ r2.snd (23:Int) r3)→Tt (Tt (Tt (Tt (K [(Arg.v true [(ai r1.fst),(ai (IntKind.i64.wrap ((2:Int) + r3.fst))),(AC.d (D.h RK.u8 1))])] [[(AC.d (D.r RK.u8 r3.snd.b)),(ai r3.snd.p)]]))))))) else (Tt (K [(Arg.v true [(ai r1.fst),(ai 0),(AC.d (D.h RK.u8 1))])] [[(AC.d (D.r RK.u8 r2.snd.b)),(ai r2.snd.p)]]))))) else (if ((r1.fst == 0)=true) then (if ((r1.fst == 1)=true) then (Tt (((RdOk r2.snd 1000000000)∧((IntKind.i64.wrap ((24:Int) - ((r2.fst:Nat):Int)))≤(1000000000:Int)))∧(∀ r3:(Prod Int RdS),((r3.snd=(RdS.mk r2.snd.b (r2.snd.p + 1)))∧((0≤r3.fst)∧((((1:Int)≤(IntKind.i64.wrap ((24:Int) - ((r2.fst:Nat):Int))))→(r3.fst < (IntKind.i64.wrap ((24:Int) - ((r2.fst:Nat):Int)))))∧(((IntKind.i64.wrap ((24:Int) - ((r2.fst:Nat):Int))) < (1:Int))→(r3.fst=0)))))→Tt (Tt (Tt (Tt (K [(Arg.v true [(ai r1.fst),(ai (IntKind.i64.wrap ((IntKind.i64.wrap (((r2.fst:Nat):Int) + (1:Int))) + r3.fst))),(AC.d (D.h RK.u8 r2.fst))])] [[(AC.d (D.r RK.u8 r3.snd.b)),(ai r3.snd.p)]]))))))) else (Tt (K [(Arg.v true [(ai r1.fst),(ai ((r2.fst:Nat):Int)),(AC.d (D.h RK.u8 r2.fst))])] [[(AC.d (D.r RK.u8 r2.snd.b)),(ai r2.snd.p)]]))) else (if ((r1.fst == 1)=true) then (Tt (((RdOk r2.snd 1000000000)∧((IntKind.i64.wrap ((24:Int) - ((r2.fst:Nat):Int)))≤(1000000000:Int)))∧(∀ r3:(Prod Int RdS),((r3.snd=(RdS.mk r2.snd.b (r2.snd.p + 1)))∧((0≤r3.fst)∧((((1:Int)≤(IntKind.i64.wrap ((24:Int) - ((r2.fst:Nat):Int))))→(r3.fst < (IntKind.i64.wrap ((24:Int) - ((r2.fst:Nat):Int)))))∧(((IntKind.i64.wrap ((24:Int) - ((r2.fst:Nat):Int))) < (1:Int))→(r3.fst=0)))))→Tt (Tt (Tt (Tt (K [(Arg.v true [(ai r1.fst),(ai (IntKind.i64.wrap ((IntKind.i64.wrap (((r2.fst:Nat):Int) + (1:Int))) + r3.fst))),(AC.d (D.h RK.u8 r2.fst))])] [[(AC.d (D.r RK.u8 r3.snd.b)),(ai r3.snd.p)]]))))))) else (Tt (K [(Arg.v true [(ai r1.fst),(ai 0),(AC.d (D.h RK.u8 r2.fst))])] [[(AC.d (D.r RK.u8 r2.snd.b)),(ai r2.snd.p)]]))))) else (if ((r1.fst == 0)=true) then (if ((r1.fst == 1)=true) then (Tt (((RdOk r2.snd 1000000000)∧((IntKind.i64.wrap ((24:Int) - ((r2.fst:Nat):Int)))≤(1000000000:Int)))∧(∀ r3:(Prod Int RdS),((r3.snd=(RdS.mk r2.snd.b (r2.snd.p + 1)))∧((0≤r3.fst)∧((((1:Int)≤(IntKind.i64.wrap ((24:Int) - ((r2.fst:Nat):Int))))→(r3.fst < (IntKind.i64.wrap ((24:Int) - ((r2.fst:Nat):Int)))))∧(((IntKind.i64.wrap ((24:Int) - ((r2.fst:Nat):Int))) < (1:Int))→(r3.fst=0)))))→Tt (Tt (Tt (Tt (K [(Arg.v true [(ai r1.fst),(ai (IntKind.i64.wrap ((IntKind.i64.wrap (((r2.fst:Nat):Int) + (1:Int))) + r3.fst))),(AC.d (D.h RK.u8 r2.fst))])] [[(AC.d (D.r RK.u8 r3.snd.b)),(ai r3.snd.p)]]))))))) else (Tt (K [(Arg.v true [(ai r1.fst),(ai ((r2.fst:Nat):Int)),(AC.d (D.h RK.u8 r2.fst))])] [[(AC.d (D.r RK.u8 r2.snd.b)),(ai r2.snd.p)]]))) else (if ((r1.fst == 1)=true) then (Tt (((RdOk r2.snd 1000000000)∧((IntKind.i64.wrap ((24:Int) - ((r2.fst:Nat):Int)))≤(1000000000:Int)))∧(∀ r3:(Prod Int RdS),((r3.snd=(RdS.mk r2.snd.b (r2.snd.p + 1)))∧((0≤r3.fst)∧((((1:Int)≤(IntKind.i64.wrap ((24:Int) - ((r2.fst:Nat):Int))))→(r3.fst < (IntKind.i64.wrap ((24:Int) - ((r2.fst:Nat):Int)))))∧(((IntKind.i64.wrap ((24:Int) - ((r2.fst:Nat):Int))) < (1:Int))→(r3.fst=0)))))→Tt (Tt (Tt (Tt (K [(Arg.v true [(ai r1.fst),(ai (IntKind.i64.wrap ((IntKind.i64.wrap (((r2.fst:Nat):Int) + (1:Int))) + r3.fst))),(AC.d (D.h RK.u8 r2.fst))])] [[(AC.d (D.r RK.u8 r3.snd.b)),(ai r3.snd.p)]]))))))) else (Tt (K [(Arg.v true [(ai r1.fst),(ai 0),(AC.d (D.h RK.u8 r2.fst))])] [[(AC.d (D.r RK.u8 r2.snd.b)),(ai r2.snd.p)]])))))))))) := by
  have hkk := fun a1_ a2_ a3_ a4_ a5_ h_ => hk ⟨a1_, a2_, a3_⟩ ⟨a4_, a5_⟩ h_
  dsimp only [rPartN, rS, partNC, rdC, List.map] at hkk
  have g1 := hp.1
  try simp only [PkQ, PkQ, RdOk, RdOn] at *
  try simp (disch := omega) only [wr]
  repeat' first
    | exact rfl
    | exact True.intro
    | with_reducible apply And.intro
    | (intro ⟨x_, b_, p_⟩ ⟨e_, h1_, h2_, h3_⟩
       try dsimp only at e_
       cases e_
       try dsimp only at h1_ h2_ h3_)
    | (intro ⟨x_, b_, p_⟩ ⟨⟨e_, h1_, h2_⟩, h3_⟩
       try dsimp only at e_
       cases e_
       try dsimp only at h1_ h2_ h3_)
    | (with_reducible intro y_ hy_; subst hy_)
    | with_reducible intro y_
    | (refine iteI (fun h => ?_) (fun h => ?_))
    | fail
  all_goals try simp only [cq1, cq2, cq3, cq4, cq5, cq6, cq7, cq8, cq9, cq10, cq11, cq12, cq13, cq14, cq15, cq16, cq17, cq18, cq19, PkQ, RdOk, RdOn] at *
  all_goals try simp (disch := omega) only [wr] at *
  all_goals first
    | assumption
    | omega
    | exact (wr8_in _).1
    | exact (wr8_in _).2
    | (refine hkk _ _ _ _ _ ?_
       try dsimp only
       repeat' first | with_reducible apply And.intro | with_reducible intro _
       all_goals first | rfl | assumption | omega | grind [])
    | (simp only [LIM, HL] at *; omega)
    | grind [RdOk, RdOn, LIM, HL]
theorem w_spec_l20Part : Valid Try.prog 34 c_spec_l20Part :=
  valid_ctr2 (V := V_spec_l20Part) (tysB_ok tys2_ok) ⟨(CallsL.cons w_spec_l20Rd_pick (CallsL.cons w_spec_l20Bytes (CallsL.nil _))), (IosL.nil _)⟩ mixed 0 2 Try.func34 rfl (by kernel_rfl)
    (fun c hc => by
      obtain rfl := Option.some.inj hc
      exact ⟨trivial, ⟨trivial, ⟨⟨trivial, ⟨trivial, trivial⟩⟩, ⟨⟨trivial, ⟨trivial, trivial⟩⟩, ⟨⟨trivial, ⟨trivial, trivial⟩⟩, ⟨trivial, trivial⟩⟩⟩⟩⟩⟩)
    (fun x K hp hk => ⟨_, by kernel_rfl, vF_spec_l20Part x K hp (fun p q h => hk (p, q) h)⟩)
theorem vF_spec_l20PartOr (r:RdS) (n:Int) (K:List Arg→List (List AC)→Prop) (hp:RdOk r 45000000∧n≤1000) (hk:∀ (p:PartN) (q:RdS),(RdOn r q 60∧p.data≤16)→K ([rPartN.to p]) ([(rdC q).map .d])):Tt ((RdOk r 45000000)∧(∀ r1:(Prod PartN RdS),((RdOn r r1.snd (50:Int))∧(r1.fst.data≤8))→Tt (Tt (((RdOk r1.snd 900000000)∧(n≤1000000000))∧(∀ r2:(Prod Bool RdS),((r2.snd.b=r1.snd.b)∧((r1.snd.p≤r2.snd.p)∧((r2.snd.p≤(r1.snd.p + 1))∧((n≤0)→(r2.fst=false)))))→Tt (if (r2.fst=true) then (Tt (((RdOk r2.snd 1000000000)∧((3:Int)≤(1000000000:Int)))∧(∀ r3:(Prod Int RdS),(PkQ r2.snd (3:Int) r3)→Tt (if ((r3.fst == 0)=true) then (Tt (((RdOk r3.snd 1000000000)∧((3:Int)≤(1000000000:Int)))∧(∀ r4:(Prod Int RdS),(PkQ r3.snd (3:Int) r4)→Tt (((0≤r4.fst)∧(r4.fst < 3))∧(Tt (K [(Arg.v true [(ai (at_i64 ((-1:Int) :: ((4:Int) :: ((1:Int) :: ([]:(List Int)):(List Int)):(List Int)):(List Int)) r4.fst.toNat)),(ai r1.fst.len),(AC.d (D.h RK.u8 r1.fst.data))])] [[(AC.d (D.r RK.u8 r4.snd.b)),(ai r4.snd.p)]])))))) else (if ((r3.fst == 1)=true) then (Tt (((RdOk r3.snd 1000000000)∧((3:Int)≤(1000000000:Int)))∧(∀ r4:(Prod Int RdS),(PkQ r3.snd (3:Int) r4)→Tt (((0≤r4.fst)∧(r4.fst < 3))∧(Tt (K [(Arg.v true [(ai r1.fst.seg),(ai (at_i64 ((-1:Int) :: ((25:Int) :: ((3:Int) :: ([]:(List Int)):(List Int)):(List Int)):(List Int)) r4.fst.toNat)),(AC.d (D.h RK.u8 r1.fst.data))])] [[(AC.d (D.r RK.u8 r4.snd.b)),(ai r4.snd.p)]])))))) else ((((((0:Int)≤(1:Int))∧((1:Int)≤(255:Int)))∧True)∧(((((0:Int)≤(2:Int))∧((2:Int)≤(255:Int)))∧True)∧(((((0:Int)≤(3:Int))∧((3:Int)≤(255:Int)))∧True)∧(((((0:Int)≤(4:Int))∧((4:Int)≤(255:Int)))∧True)∧(((((0:Int)≤(5:Int))∧((5:Int)≤(255:Int)))∧True)∧(((((0:Int)≤(6:Int))∧((6:Int)≤(255:Int)))∧True)∧(((((0:Int)≤(7:Int))∧((7:Int)≤(255:Int)))∧True)∧(((((0:Int)≤(8:Int))∧((8:Int)≤(255:Int)))∧True)∧True))))))))∧(((r1.fst.data + 8)≤137438953472)∧(Tt (K [(Arg.v true [(ai r1.fst.seg),(ai r1.fst.len),(AC.d (D.h RK.u8 (r1.fst.data + 8)))])] [[(AC.d (D.r RK.u8 r3.snd.b)),(ai r3.snd.p)]]))))))))) else (Tt (K [(Arg.v true [(ai r1.fst.seg),(ai r1.fst.len),(AC.d (D.h RK.u8 r1.fst.data))])] [[(AC.d (D.r RK.u8 r2.snd.b)),(ai r2.snd.p)]])))))))) := by
  have hkk := fun a1_ a2_ a3_ a4_ a5_ h_ => hk ⟨a1_, a2_, a3_⟩ ⟨a4_, a5_⟩ h_
  dsimp only [rPartN, rS, partNC, rdC, List.map] at hkk
  have g1 := hp.1.1
  try simp only [PkQ, PkQ, RdOk, RdOn] at *
  try simp (disch := omega) only [wr]
  repeat' first
    | exact rfl
    | exact True.intro
    | with_reducible apply And.intro
    | (intro ⟨x_, b_, p_⟩ ⟨e_, h1_, h2_, h3_⟩
       try dsimp only at e_
       cases e_
       try dsimp only at h1_ h2_ h3_)
    | (intro ⟨x_, b_, p_⟩ ⟨⟨e_, h1_, h2_⟩, h3_⟩
       try dsimp only at e_
       cases e_
       try dsimp only at h1_ h2_ h3_)
    | (with_reducible intro y_ hy_; subst hy_)
    | with_reducible intro y_
    | (refine iteI (fun h => ?_) (fun h => ?_))
    | fail
  all_goals try simp only [cq1, cq2, cq3, cq4, cq5, cq6, cq7, cq8, cq9, cq10, cq11, cq12, cq13, cq14, cq15, cq16, cq17, cq18, cq19, PkQ, RdOk, RdOn] at *
  all_goals try simp (disch := omega) only [wr] at *
  all_goals first
    | assumption
    | omega
    | exact (wr8_in _).1
    | exact (wr8_in _).2
    | (refine hkk _ _ _ _ _ ?_
       try dsimp only
       repeat' first | with_reducible apply And.intro | with_reducible intro _
       all_goals first | rfl | assumption | omega | grind [])
    | (simp only [LIM, HL] at *; omega)
    | grind [RdOk, RdOn, LIM, HL]
theorem w_spec_l20PartOr : Valid Try.prog 33 c_spec_l20PartOr :=
  valid_ctr2 (V := V_spec_l20PartOr) (tysB_ok tys2_ok) ⟨(CallsL.cons w_spec_l20Rd_pick (CallsL.cons w_spec_l20Rd_odd (CallsL.cons w_spec_l20Part (CallsL.nil _)))), (IosL.nil _)⟩ mixed 0 2 Try.func33 rfl (by kernel_rfl)
    (fun c hc => by
      obtain rfl := Option.some.inj hc
      exact ⟨trivial, ⟨trivial, ⟨⟨trivial, ⟨⟨trivial, ⟨trivial, ⟨trivial, ⟨trivial, ⟨trivial, trivial⟩⟩⟩⟩⟩, trivial⟩⟩, ⟨trivial, trivial⟩⟩⟩⟩)
    (fun x K hp hk => ⟨_, by kernel_rfl, vF_spec_l20PartOr x.1 x.2 K hp (fun p q h => hk (p, q) h)⟩)
theorem vF_spec_l20Frame (r:RdS) (n:Int) (K:List Arg→List (List AC)→Prop) (hp:RdOk r 44000000∧n≤1000) (hk:∀ (f:FrmN) (q:RdS),(RdOn r q 100∧f.data≤100)→K ([rFrmN.to f]) ([(rdC q).map .d])):Tt (((RdOk r 1000000000)∧((4:Int)≤(1000000000:Int)))∧(∀ r1:(Prod Int RdS),(PkQ r (4:Int) r1)→Tt (if (((IntKind.i64.wrap ((1:Int) + r1.fst)) == (1:Int))=true) then (Tt ((RdOk r1.snd 45000000)∧(∀ r2:(Prod PartN RdS),((RdOn r1.snd r2.snd (50:Int))∧(r2.fst.data≤8))→Tt (Tt (((RdOk r2.snd 1000000000)∧((8:Int)≤(1000000000:Int)))∧(∀ r3:(Prod Int RdS),(PkQ r2.snd (8:Int) r3)→Tt (Tt (Tt (((RdOk r3.snd 1000000000)∧((8:Int)≤(1000000000:Int)))∧(∀ r4:(Prod Int RdS),(PkQ r3.snd (8:Int) r4)→Tt (Tt (Tt (((RdOk r4.snd 1000000000)∧((9:Int)≤(1000000000:Int)))∧(∀ r5:(Prod Int RdS),(PkQ r4.snd (9:Int) r5)→Tt (Tt (Tt (Tt (((RdOk r5.snd 900000000)∧(n≤1000000000))∧(∀ r6:(Prod Bool RdS),((r6.snd.b=r5.snd.b)∧((r5.snd.p≤r6.snd.p)∧((r6.snd.p≤(r5.snd.p + 1))∧((n≤0)→(r6.fst=false)))))→Tt (if (r6.fst=true) then (Tt (((RdOk r6.snd 1000000000)∧((8:Int)≤(1000000000:Int)))∧(∀ r7:(Prod Int RdS),(PkQ r6.snd (8:Int) r7)→Tt (if ((r7.fst == 0)=true) then (Tt (((RdOk r7.snd 1000000000)∧((2:Int)≤(1000000000:Int)))∧(∀ r8:(Prod Int RdS),(PkQ r7.snd (2:Int) r8)→Tt (((0≤r8.fst)∧(r8.fst < 2))∧(Tt (K [(Arg.v true [(ai (at_i64 ((0:Int) :: ((5:Int) :: ([]:(List Int)):(List Int)):(List Int)) r8.fst.toNat)),(ai r3.fst),(ai r4.fst),(AC.d (D.b false)),(AC.d (D.b (r5.fst == 0))),(ai 0),(ai r2.fst.seg),(ai r2.fst.len),(AC.d (D.h RK.u8 r2.fst.data))])] [[(AC.d (D.r RK.u8 r8.snd.b)),(ai r8.snd.p)]])))))) else (if ((r7.fst == 1)=true) then (Tt (((RdOk r7.snd 1000000000)∧((3:Int)≤(1000000000:Int)))∧(∀ r8:(Prod Int RdS),(PkQ r7.snd (3:Int) r8)→Tt (((0≤r8.fst)∧(r8.fst < 3))∧(Tt (K [(Arg.v true [(ai 1),(ai (at_i64 ((-1:Int) :: ((8:Int) :: ((1:Int) :: ([]:(List Int)):(List Int)):(List Int)):(List Int)) r8.fst.toNat)),(ai r4.fst),(AC.d (D.b false)),(AC.d (D.b (r5.fst == 0))),(ai 0),(ai r2.fst.seg),(ai r2.fst.len),(AC.d (D.h RK.u8 r2.fst.data))])] [[(AC.d (D.r RK.u8 r8.snd.b)),(ai r8.snd.p)]])))))) else (if ((r7.fst == 2)=true) then (Tt (((RdOk r7.snd 1000000000)∧((3:Int)≤(1000000000:Int)))∧(∀ r8:(Prod Int RdS),(PkQ r7.snd (3:Int) r8)→Tt (((0≤r8.fst)∧(r8.fst < 3))∧(Tt (K [(Arg.v true [(ai 1),(ai r3.fst),(ai (at_i64 ((-1:Int) :: ((8:Int) :: ((1:Int) :: ([]:(List Int)):(List Int)):(List Int)):(List Int)) r8.fst.toNat)),(AC.d (D.b false)),(AC.d (D.b (r5.fst == 0))),(ai 0),(ai r2.fst.seg),(ai r2.fst.len),(AC.d (D.h RK.u8 r2.fst.data))])] [[(AC.d (D.r RK.u8 r8.snd.b)),(ai r8.snd.p)]])))))) else (if ((r7.fst == 3)=true) then (Tt (K [(Arg.v true [(ai 1),(ai r3.fst),(ai r4.fst),(AC.d (D.b true)),(AC.d (D.b true)),(ai 0),(ai r2.fst.seg),(ai r2.fst.len),(AC.d (D.h RK.u8 r2.fst.data))])] [[(AC.d (D.r RK.u8 r7.snd.b)),(ai r7.snd.p)]])) else (if ((r7.fst == 4)=true) then (Tt (((RdOk r7.snd 1000000000)∧((3:Int)≤(1000000000:Int)))∧(∀ r8:(Prod Int RdS),(PkQ r7.snd (3:Int) r8)→Tt (((0≤r8.fst)∧(r8.fst < 3))∧(Tt (K [(Arg.v true [(ai 1),(ai r3.fst),(ai r4.fst),(AC.d (D.b false)),(AC.d (D.b (r5.fst == 0))),(ai (at_i64 ((-1:Int) :: ((3:Int) :: ((1:Int) :: ([]:(List Int)):(List Int)):(List Int)):(List Int)) r8.fst.toNat)),(ai r2.fst.seg),(ai r2.fst.len),(AC.d (D.h RK.u8 r2.fst.data))])] [[(AC.d (D.r RK.u8 r8.snd.b)),(ai r8.snd.p)]])))))) else (if ((r7.fst == 5)=true) then (Tt (((RdOk r7.snd 1000000000)∧((4:Int)≤(1000000000:Int)))∧(∀ r8:(Prod Int RdS),(PkQ r7.snd (4:Int) r8)→Tt (((0≤r8.fst)∧(r8.fst < 4))∧(Tt (K [(Arg.v true [(ai 1),(ai r3.fst),(ai r4.fst),(AC.d (D.b false)),(AC.d (D.b (r5.fst == 0))),(ai 0),(ai r2.fst.seg),(ai (at_i64 ((-1:Int) :: ((0:Int) :: ((256:Int) :: ((30:Int) :: ([]:(List Int)):(List Int)):(List Int)):(List Int)):(List Int)) r8.fst.toNat)),(AC.d (D.h RK.u8 r2.fst.data))])] [[(AC.d (D.r RK.u8 r8.snd.b)),(ai r8.snd.p)]])))))) else (if ((r7.fst == 6)=true) then ((((((0:Int)≤(1:Int))∧((1:Int)≤(255:Int)))∧True)∧(((((0:Int)≤(2:Int))∧((2:Int)≤(255:Int)))∧True)∧(((((0:Int)≤(3:Int))∧((3:Int)≤(255:Int)))∧True)∧(((((0:Int)≤(4:Int))∧((4:Int)≤(255:Int)))∧True)∧(((((0:Int)≤(5:Int))∧((5:Int)≤(255:Int)))∧True)∧(((((0:Int)≤(6:Int))∧((6:Int)≤(255:Int)))∧True)∧(((((0:Int)≤(7:Int))∧((7:Int)≤(255:Int)))∧True)∧(((((0:Int)≤(8:Int))∧((8:Int)≤(255:Int)))∧True)∧(((((0:Int)≤(9:Int))∧((9:Int)≤(255:Int)))∧True)∧True)))))))))∧(((r2.fst.data + 9)≤137438953472)∧(Tt (K [(Arg.v true [(ai 1),(ai r3.fst),(ai r4.fst),(AC.d (D.b false)),(AC.d (D.b (r5.fst == 0))),(ai 0),(ai r2.fst.seg),(ai r2.fst.len),(AC.d (D.h RK.u8 (r2.fst.data + 9)))])] [[(AC.d (D.r RK.u8 r7.snd.b)),(ai r7.snd.p)]])))) else (Tt (((RdOk r7.snd 1000000000)∧((3:Int)≤(1000000000:Int)))∧(∀ r8:(Prod Int RdS),(PkQ r7.snd (3:Int) r8)→Tt (((0≤r8.fst)∧(r8.fst < 3))∧(Tt (K [(Arg.v true [(ai 1),(ai r3.fst),(ai r4.fst),(AC.d (D.b false)),(AC.d (D.b (r5.fst == 0))),(ai 0),(ai (at_i64 ((-1:Int) :: ((4:Int) :: ((2:Int) :: ([]:(List Int)):(List Int)):(List Int)):(List Int)) r8.fst.toNat)),(ai r2.fst.len),(AC.d (D.h RK.u8 r2.fst.data))])] [[(AC.d (D.r RK.u8 r8.snd.b)),(ai r8.snd.p)]])))))))))))))))) else (Tt (K [(Arg.v true [(ai 1),(ai r3.fst),(ai r4.fst),(AC.d (D.b false)),(AC.d (D.b (r5.fst == 0))),(ai 0),(ai r2.fst.seg),(ai r2.fst.len),(AC.d (D.h RK.u8 r2.fst.data))])] [[(AC.d (D.r RK.u8 r6.snd.b)),(ai r6.snd.p)]])))))))))))))))))))))) else (if (((IntKind.i64.wrap ((1:Int) + r1.fst)) == (2:Int))=true) then (Tt (((RdOk r1.snd 1000000000)∧((8:Int)≤(1000000000:Int)))∧(∀ r2:(Prod Int RdS),(PkQ r1.snd (8:Int) r2)→Tt (Tt (((RdOk r2.snd 1000000000)∧((3:Int)≤(1000000000:Int)))∧(∀ r3:(Prod Int RdS),(PkQ r2.snd (3:Int) r3)→Tt (if ((!(r3.fst == 0))=true) then (Tt (((RdOk r3.snd 1000000000)∧((3:Int)≤(1000000000:Int)))∧(∀ r4:(Prod Int RdS),(PkQ r3.snd (3:Int) r4)→Tt (Tt (((RdOk r4.snd 1000000000)∧((3:Int)≤(1000000000:Int)))∧(∀ r5:(Prod Int RdS),(PkQ r4.snd (3:Int) r5)→Tt (Tt (((RdOk r5.snd 900000000)∧(n≤1000000000))∧(∀ r6:(Prod Bool RdS),((r6.snd.b=r5.snd.b)∧((r5.snd.p≤r6.snd.p)∧((r6.snd.p≤(r5.snd.p + 1))∧((n≤0)→(r6.fst=false)))))→Tt (if (r6.fst=true) then (Tt (((RdOk r6.snd 1000000000)∧((8:Int)≤(1000000000:Int)))∧(∀ r7:(Prod Int RdS),(PkQ r6.snd (8:Int) r7)→Tt (if ((r7.fst == 0)=true) then (Tt (((RdOk r7.snd 1000000000)∧((2:Int)≤(1000000000:Int)))∧(∀ r8:(Prod Int RdS),(PkQ r7.snd (2:Int) r8)→Tt (((0≤r8.fst)∧(r8.fst < 2))∧(Tt (K [(Arg.v true [(ai (at_i64 ((0:Int) :: ((5:Int) :: ([]:(List Int)):(List Int)):(List Int)) r8.fst.toNat)),(ai 0),(ai r2.fst),(AC.d (D.b (r3.fst == 0))),(AC.d (D.b (r4.fst == 0))),(ai r5.fst),(ai 0),(ai 0),(AC.d (D.h RK.u8 0))])] [[(AC.d (D.r RK.u8 r8.snd.b)),(ai r8.snd.p)]])))))) else (if ((r7.fst == 1)=true) then (Tt (((RdOk r7.snd 1000000000)∧((3:Int)≤(1000000000:Int)))∧(∀ r8:(Prod Int RdS),(PkQ r7.snd (3:Int) r8)→Tt (((0≤r8.fst)∧(r8.fst < 3))∧(Tt (K [(Arg.v true [(ai (IntKind.i64.wrap ((1:Int) + r1.fst))),(ai (at_i64 ((-1:Int) :: ((8:Int) :: ((1:Int) :: ([]:(List Int)):(List Int)):(List Int)):(List Int)) r8.fst.toNat)),(ai r2.fst),(AC.d (D.b (r3.fst == 0))),(AC.d (D.b (r4.fst == 0))),(ai r5.fst),(ai 0),(ai 0),(AC.d (D.h RK.u8 0))])] [[(AC.d (D.r RK.u8 r8.snd.b)),(ai r8.snd.p)]])))))) else (if ((r7.fst == 2)=true) then (Tt (((RdOk r7.snd 1000000000)∧((3:Int)≤(1000000000:Int)))∧(∀ r8:(Prod Int RdS),(PkQ r7.snd (3:Int) r8)→Tt (((0≤r8.fst)∧(r8.fst < 3))∧(Tt (K [(Arg.v true [(ai (IntKind.i64.wrap ((1:Int) + r1.fst))),(ai 0),(ai (at_i64 ((-1:Int) :: ((8:Int) :: ((1:Int) :: ([]:(List Int)):(List Int)):(List Int)):(List Int)) r8.fst.toNat)),(AC.d (D.b (r3.fst == 0))),(AC.d (D.b (r4.fst == 0))),(ai r5.fst),(ai 0),(ai 0),(AC.d (D.h RK.u8 0))])] [[(AC.d (D.r RK.u8 r8.snd.b)),(ai r8.snd.p)]])))))) else (if ((r7.fst == 3)=true) then (Tt (K [(Arg.v true [(ai (IntKind.i64.wrap ((1:Int) + r1.fst))),(ai 0),(ai r2.fst),(AC.d (D.b true)),(AC.d (D.b true)),(ai r5.fst),(ai 0),(ai 0),(AC.d (D.h RK.u8 0))])] [[(AC.d (D.r RK.u8 r7.snd.b)),(ai r7.snd.p)]])) else (if ((r7.fst == 4)=true) then (Tt (((RdOk r7.snd 1000000000)∧((3:Int)≤(1000000000:Int)))∧(∀ r8:(Prod Int RdS),(PkQ r7.snd (3:Int) r8)→Tt (((0≤r8.fst)∧(r8.fst < 3))∧(Tt (K [(Arg.v true [(ai (IntKind.i64.wrap ((1:Int) + r1.fst))),(ai 0),(ai r2.fst),(AC.d (D.b (r3.fst == 0))),(AC.d (D.b (r4.fst == 0))),(ai (at_i64 ((-1:Int) :: ((3:Int) :: ((1:Int) :: ([]:(List Int)):(List Int)):(List Int)):(List Int)) r8.fst.toNat)),(ai 0),(ai 0),(AC.d (D.h RK.u8 0))])] [[(AC.d (D.r RK.u8 r8.snd.b)),(ai r8.snd.p)]])))))) else (if ((r7.fst == 5)=true) then (Tt (((RdOk r7.snd 1000000000)∧((4:Int)≤(1000000000:Int)))∧(∀ r8:(Prod Int RdS),(PkQ r7.snd (4:Int) r8)→Tt (((0≤r8.fst)∧(r8.fst < 4))∧(Tt (K [(Arg.v true [(ai (IntKind.i64.wrap ((1:Int) + r1.fst))),(ai 0),(ai r2.fst),(AC.d (D.b (r3.fst == 0))),(AC.d (D.b (r4.fst == 0))),(ai r5.fst),(ai 0),(ai (at_i64 ((-1:Int) :: ((0:Int) :: ((256:Int) :: ((30:Int) :: ([]:(List Int)):(List Int)):(List Int)):(List Int)):(List Int)) r8.fst.toNat)),(AC.d (D.h RK.u8 0))])] [[(AC.d (D.r RK.u8 r8.snd.b)),(ai r8.snd.p)]])))))) else (if ((r7.fst == 6)=true) then ((((((0:Int)≤(1:Int))∧((1:Int)≤(255:Int)))∧True)∧(((((0:Int)≤(2:Int))∧((2:Int)≤(255:Int)))∧True)∧(((((0:Int)≤(3:Int))∧((3:Int)≤(255:Int)))∧True)∧(((((0:Int)≤(4:Int))∧((4:Int)≤(255:Int)))∧True)∧(((((0:Int)≤(5:Int))∧((5:Int)≤(255:Int)))∧True)∧(((((0:Int)≤(6:Int))∧((6:Int)≤(255:Int)))∧True)∧(((((0:Int)≤(7:Int))∧((7:Int)≤(255:Int)))∧True)∧(((((0:Int)≤(8:Int))∧((8:Int)≤(255:Int)))∧True)∧(((((0:Int)≤(9:Int))∧((9:Int)≤(255:Int)))∧True)∧True)))))))))∧((9≤137438953472)∧(Tt (K [(Arg.v true [(ai (IntKind.i64.wrap ((1:Int) + r1.fst))),(ai 0),(ai r2.fst),(AC.d (D.b (r3.fst == 0))),(AC.d (D.b (r4.fst == 0))),(ai r5.fst),(ai 0),(ai 0),(AC.d (D.h RK.u8 9))])] [[(AC.d (D.r RK.u8 r7.snd.b)),(ai r7.snd.p)]])))) else (Tt (((RdOk r7.snd 1000000000)∧((3:Int)≤(1000000000:Int)))∧(∀ r8:(Prod Int RdS),(PkQ r7.snd (3:Int) r8)→Tt (((0≤r8.fst)∧(r8.fst < 3))∧(Tt (K [(Arg.v true [(ai (IntKind.i64.wrap ((1:Int) + r1.fst))),(ai 0),(ai r2.fst),(AC.d (D.b (r3.fst == 0))),(AC.d (D.b (r4.fst == 0))),(ai r5.fst),(ai (at_i64 ((-1:Int) :: ((4:Int) :: ((2:Int) :: ([]:(List Int)):(List Int)):(List Int)):(List Int)) r8.fst.toNat)),(ai 0),(AC.d (D.h RK.u8 0))])] [[(AC.d (D.r RK.u8 r8.snd.b)),(ai r8.snd.p)]])))))))))))))))) else (Tt (K [(Arg.v true [(ai (IntKind.i64.wrap ((1:Int) + r1.fst))),(ai 0),(ai r2.fst),(AC.d (D.b (r3.fst == 0))),(AC.d (D.b (r4.fst == 0))),(ai r5.fst),(ai 0),(ai 0),(AC.d (D.h RK.u8 0))])] [[(AC.d (D.r RK.u8 r6.snd.b)),(ai r6.snd.p)]])))))))))))) else (Tt (((RdOk r3.snd 1000000000)∧((3:Int)≤(1000000000:Int)))∧(∀ r4:(Prod Int RdS),(PkQ r3.snd (3:Int) r4)→Tt (Tt (((RdOk r4.snd 900000000)∧(n≤1000000000))∧(∀ r5:(Prod Bool RdS),((r5.snd.b=r4.snd.b)∧((r4.snd.p≤r5.snd.p)∧((r5.snd.p≤(r4.snd.p + 1))∧((n≤0)→(r5.fst=false)))))→Tt (if (r5.fst=true) then (Tt (((RdOk r5.snd 1000000000)∧((8:Int)≤(1000000000:Int)))∧(∀ r6:(Prod Int RdS),(PkQ r5.snd (8:Int) r6)→Tt (if ((r6.fst == 0)=true) then (Tt (((RdOk r6.snd 1000000000)∧((2:Int)≤(1000000000:Int)))∧(∀ r7:(Prod Int RdS),(PkQ r6.snd (2:Int) r7)→Tt (((0≤r7.fst)∧(r7.fst < 2))∧(Tt (K [(Arg.v true [(ai (at_i64 ((0:Int) :: ((5:Int) :: ([]:(List Int)):(List Int)):(List Int)) r7.fst.toNat)),(ai 0),(ai r2.fst),(AC.d (D.b (r3.fst == 0))),(AC.d (D.b false)),(ai r4.fst),(ai 0),(ai 0),(AC.d (D.h RK.u8 0))])] [[(AC.d (D.r RK.u8 r7.snd.b)),(ai r7.snd.p)]])))))) else (if ((r6.fst == 1)=true) then (Tt (((RdOk r6.snd 1000000000)∧((3:Int)≤(1000000000:Int)))∧(∀ r7:(Prod Int RdS),(PkQ r6.snd (3:Int) r7)→Tt (((0≤r7.fst)∧(r7.fst < 3))∧(Tt (K [(Arg.v true [(ai (IntKind.i64.wrap ((1:Int) + r1.fst))),(ai (at_i64 ((-1:Int) :: ((8:Int) :: ((1:Int) :: ([]:(List Int)):(List Int)):(List Int)):(List Int)) r7.fst.toNat)),(ai r2.fst),(AC.d (D.b (r3.fst == 0))),(AC.d (D.b false)),(ai r4.fst),(ai 0),(ai 0),(AC.d (D.h RK.u8 0))])] [[(AC.d (D.r RK.u8 r7.snd.b)),(ai r7.snd.p)]])))))) else (if ((r6.fst == 2)=true) then (Tt (((RdOk r6.snd 1000000000)∧((3:Int)≤(1000000000:Int)))∧(∀ r7:(Prod Int RdS),(PkQ r6.snd (3:Int) r7)→Tt (((0≤r7.fst)∧(r7.fst < 3))∧(Tt (K [(Arg.v true [(ai (IntKind.i64.wrap ((1:Int) + r1.fst))),(ai 0),(ai (at_i64 ((-1:Int) :: ((8:Int) :: ((1:Int) :: ([]:(List Int)):(List Int)):(List Int)):(List Int)) r7.fst.toNat)),(AC.d (D.b (r3.fst == 0))),(AC.d (D.b false)),(ai r4.fst),(ai 0),(ai 0),(AC.d (D.h RK.u8 0))])] [[(AC.d (D.r RK.u8 r7.snd.b)),(ai r7.snd.p)]])))))) else (if ((r6.fst == 3)=true) then (Tt (K [(Arg.v true [(ai (IntKind.i64.wrap ((1:Int) + r1.fst))),(ai 0),(ai r2.fst),(AC.d (D.b true)),(AC.d (D.b true)),(ai r4.fst),(ai 0),(ai 0),(AC.d (D.h RK.u8 0))])] [[(AC.d (D.r RK.u8 r6.snd.b)),(ai r6.snd.p)]])) else (if ((r6.fst == 4)=true) then (Tt (((RdOk r6.snd 1000000000)∧((3:Int)≤(1000000000:Int)))∧(∀ r7:(Prod Int RdS),(PkQ r6.snd (3:Int) r7)→Tt (((0≤r7.fst)∧(r7.fst < 3))∧(Tt (K [(Arg.v true [(ai (IntKind.i64.wrap ((1:Int) + r1.fst))),(ai 0),(ai r2.fst),(AC.d (D.b (r3.fst == 0))),(AC.d (D.b false)),(ai (at_i64 ((-1:Int) :: ((3:Int) :: ((1:Int) :: ([]:(List Int)):(List Int)):(List Int)):(List Int)) r7.fst.toNat)),(ai 0),(ai 0),(AC.d (D.h RK.u8 0))])] [[(AC.d (D.r RK.u8 r7.snd.b)),(ai r7.snd.p)]])))))) else (if ((r6.fst == 5)=true) then (Tt (((RdOk r6.snd 1000000000)∧((4:Int)≤(1000000000:Int)))∧(∀ r7:(Prod Int RdS),(PkQ r6.snd (4:Int) r7)→Tt (((0≤r7.fst)∧(r7.fst < 4))∧(Tt (K [(Arg.v true [(ai (IntKind.i64.wrap ((1:Int) + r1.fst))),(ai 0),(ai r2.fst),(AC.d (D.b (r3.fst == 0))),(AC.d (D.b false)),(ai r4.fst),(ai 0),(ai (at_i64 ((-1:Int) :: ((0:Int) :: ((256:Int) :: ((30:Int) :: ([]:(List Int)):(List Int)):(List Int)):(List Int)):(List Int)) r7.fst.toNat)),(AC.d (D.h RK.u8 0))])] [[(AC.d (D.r RK.u8 r7.snd.b)),(ai r7.snd.p)]])))))) else (if ((r6.fst == 6)=true) then ((((((0:Int)≤(1:Int))∧((1:Int)≤(255:Int)))∧True)∧(((((0:Int)≤(2:Int))∧((2:Int)≤(255:Int)))∧True)∧(((((0:Int)≤(3:Int))∧((3:Int)≤(255:Int)))∧True)∧(((((0:Int)≤(4:Int))∧((4:Int)≤(255:Int)))∧True)∧(((((0:Int)≤(5:Int))∧((5:Int)≤(255:Int)))∧True)∧(((((0:Int)≤(6:Int))∧((6:Int)≤(255:Int)))∧True)∧(((((0:Int)≤(7:Int))∧((7:Int)≤(255:Int)))∧True)∧(((((0:Int)≤(8:Int))∧((8:Int)≤(255:Int)))∧True)∧(((((0:Int)≤(9:Int))∧((9:Int)≤(255:Int)))∧True)∧True)))))))))∧((9≤137438953472)∧(Tt (K [(Arg.v true [(ai (IntKind.i64.wrap ((1:Int) + r1.fst))),(ai 0),(ai r2.fst),(AC.d (D.b (r3.fst == 0))),(AC.d (D.b false)),(ai r4.fst),(ai 0),(ai 0),(AC.d (D.h RK.u8 9))])] [[(AC.d (D.r RK.u8 r6.snd.b)),(ai r6.snd.p)]])))) else (Tt (((RdOk r6.snd 1000000000)∧((3:Int)≤(1000000000:Int)))∧(∀ r7:(Prod Int RdS),(PkQ r6.snd (3:Int) r7)→Tt (((0≤r7.fst)∧(r7.fst < 3))∧(Tt (K [(Arg.v true [(ai (IntKind.i64.wrap ((1:Int) + r1.fst))),(ai 0),(ai r2.fst),(AC.d (D.b (r3.fst == 0))),(AC.d (D.b false)),(ai r4.fst),(ai (at_i64 ((-1:Int) :: ((4:Int) :: ((2:Int) :: ([]:(List Int)):(List Int)):(List Int)):(List Int)) r7.fst.toNat)),(ai 0),(AC.d (D.h RK.u8 0))])] [[(AC.d (D.r RK.u8 r7.snd.b)),(ai r7.snd.p)]])))))))))))))))) else (Tt (K [(Arg.v true [(ai (IntKind.i64.wrap ((1:Int) + r1.fst))),(ai 0),(ai r2.fst),(AC.d (D.b (r3.fst == 0))),(AC.d (D.b false)),(ai r4.fst),(ai 0),(ai 0),(AC.d (D.h RK.u8 0))])] [[(AC.d (D.r RK.u8 r5.snd.b)),(ai r5.snd.p)]])))))))))))))))) else (if (((IntKind.i64.wrap ((1:Int) + r1.fst)) == (3:Int))=true) then (Tt ((RdOk r1.snd 45000000)∧(∀ r2:(Prod PartN RdS),((RdOn r1.snd r2.snd (50:Int))∧(r2.fst.data≤8))→Tt (Tt (((RdOk r2.snd 900000000)∧(n≤1000000000))∧(∀ r3:(Prod Bool RdS),((r3.snd.b=r2.snd.b)∧((r2.snd.p≤r3.snd.p)∧((r3.snd.p≤(r2.snd.p + 1))∧((n≤0)→(r3.fst=false)))))→Tt (if (r3.fst=true) then (Tt (((RdOk r3.snd 1000000000)∧((8:Int)≤(1000000000:Int)))∧(∀ r4:(Prod Int RdS),(PkQ r3.snd (8:Int) r4)→Tt (if ((r4.fst == 0)=true) then (Tt (((RdOk r4.snd 1000000000)∧((2:Int)≤(1000000000:Int)))∧(∀ r5:(Prod Int RdS),(PkQ r4.snd (2:Int) r5)→Tt (((0≤r5.fst)∧(r5.fst < 2))∧(Tt (K [(Arg.v true [(ai (at_i64 ((0:Int) :: ((5:Int) :: ([]:(List Int)):(List Int)):(List Int)) r5.fst.toNat)),(ai 0),(ai 0),(AC.d (D.b false)),(AC.d (D.b false)),(ai 0),(ai r2.fst.seg),(ai r2.fst.len),(AC.d (D.h RK.u8 r2.fst.data))])] [[(AC.d (D.r RK.u8 r5.snd.b)),(ai r5.snd.p)]])))))) else (if ((r4.fst == 1)=true) then (Tt (((RdOk r4.snd 1000000000)∧((3:Int)≤(1000000000:Int)))∧(∀ r5:(Prod Int RdS),(PkQ r4.snd (3:Int) r5)→Tt (((0≤r5.fst)∧(r5.fst < 3))∧(Tt (K [(Arg.v true [(ai 3),(ai (at_i64 ((-1:Int) :: ((8:Int) :: ((1:Int) :: ([]:(List Int)):(List Int)):(List Int)):(List Int)) r5.fst.toNat)),(ai 0),(AC.d (D.b false)),(AC.d (D.b false)),(ai 0),(ai r2.fst.seg),(ai r2.fst.len),(AC.d (D.h RK.u8 r2.fst.data))])] [[(AC.d (D.r RK.u8 r5.snd.b)),(ai r5.snd.p)]])))))) else (if ((r4.fst == 2)=true) then (Tt (((RdOk r4.snd 1000000000)∧((3:Int)≤(1000000000:Int)))∧(∀ r5:(Prod Int RdS),(PkQ r4.snd (3:Int) r5)→Tt (((0≤r5.fst)∧(r5.fst < 3))∧(Tt (K [(Arg.v true [(ai 3),(ai 0),(ai (at_i64 ((-1:Int) :: ((8:Int) :: ((1:Int) :: ([]:(List Int)):(List Int)):(List Int)):(List Int)) r5.fst.toNat)),(AC.d (D.b false)),(AC.d (D.b false)),(ai 0),(ai r2.fst.seg),(ai r2.fst.len),(AC.d (D.h RK.u8 r2.fst.data))])] [[(AC.d (D.r RK.u8 r5.snd.b)),(ai r5.snd.p)]])))))) else (if ((r4.fst == 3)=true) then (Tt (K [(Arg.v true [(ai 3),(ai 0),(ai 0),(AC.d (D.b true)),(AC.d (D.b true)),(ai 0),(ai r2.fst.seg),(ai r2.fst.len),(AC.d (D.h RK.u8 r2.fst.data))])] [[(AC.d (D.r RK.u8 r4.snd.b)),(ai r4.snd.p)]])) else (if ((r4.fst == 4)=true) then (Tt (((RdOk r4.snd 1000000000)∧((3:Int)≤(1000000000:Int)))∧(∀ r5:(Prod Int RdS),(PkQ r4.snd (3:Int) r5)→Tt (((0≤r5.fst)∧(r5.fst < 3))∧(Tt (K [(Arg.v true [(ai 3),(ai 0),(ai 0),(AC.d (D.b false)),(AC.d (D.b false)),(ai (at_i64 ((-1:Int) :: ((3:Int) :: ((1:Int) :: ([]:(List Int)):(List Int)):(List Int)):(List Int)) r5.fst.toNat)),(ai r2.fst.seg),(ai r2.fst.len),(AC.d (D.h RK.u8 r2.fst.data))])] [[(AC.d (D.r RK.u8 r5.snd.b)),(ai r5.snd.p)]])))))) else (if ((r4.fst == 5)=true) then (Tt (((RdOk r4.snd 1000000000)∧((4:Int)≤(1000000000:Int)))∧(∀ r5:(Prod Int RdS),(PkQ r4.snd (4:Int) r5)→Tt (((0≤r5.fst)∧(r5.fst < 4))∧(Tt (K [(Arg.v true [(ai 3),(ai 0),(ai 0),(AC.d (D.b false)),(AC.d (D.b false)),(ai 0),(ai r2.fst.seg),(ai (at_i64 ((-1:Int) :: ((0:Int) :: ((256:Int) :: ((30:Int) :: ([]:(List Int)):(List Int)):(List Int)):(List Int)):(List Int)) r5.fst.toNat)),(AC.d (D.h RK.u8 r2.fst.data))])] [[(AC.d (D.r RK.u8 r5.snd.b)),(ai r5.snd.p)]])))))) else (if ((r4.fst == 6)=true) then ((((((0:Int)≤(1:Int))∧((1:Int)≤(255:Int)))∧True)∧(((((0:Int)≤(2:Int))∧((2:Int)≤(255:Int)))∧True)∧(((((0:Int)≤(3:Int))∧((3:Int)≤(255:Int)))∧True)∧(((((0:Int)≤(4:Int))∧((4:Int)≤(255:Int)))∧True)∧(((((0:Int)≤(5:Int))∧((5:Int)≤(255:Int)))∧True)∧(((((0:Int)≤(6:Int))∧((6:Int)≤(255:Int)))∧True)∧(((((0:Int)≤(7:Int))∧((7:Int)≤(255:Int)))∧True)∧(((((0:Int)≤(8:Int))∧((8:Int)≤(255:Int)))∧True)∧(((((0:Int)≤(9:Int))∧((9:Int)≤(255:Int)))∧True)∧True)))))))))∧(((r2.fst.data + 9)≤137438953472)∧(Tt (K [(Arg.v true [(ai 3),(ai 0),(ai 0),(AC.d (D.b false)),(AC.d (D.b false)),(ai 0),(ai r2.fst.seg),(ai r2.fst.len),(AC.d (D.h RK.u8 (r2.fst.data + 9)))])] [[(AC.d (D.r RK.u8 r4.snd.b)),(ai r4.snd.p)]])))) else (Tt (((RdOk r4.snd 1000000000)∧((3:Int)≤(1000000000:Int)))∧(∀ r5:(Prod Int RdS),(PkQ r4.snd (3:Int) r5)→Tt (((0≤r5.fst)∧(r5.fst < 3))∧(Tt (K [(Arg.v true [(ai 3),(ai 0),(ai 0),(AC.d (D.b false)),(AC.d (D.b false)),(ai 0),(ai (at_i64 ((-1:Int) :: ((4:Int) :: ((2:Int) :: ([]:(List Int)):(List Int)):(List Int)):(List Int)) r5.fst.toNat)),(ai r2.fst.len),(AC.d (D.h RK.u8 r2.fst.data))])] [[(AC.d (D.r RK.u8 r5.snd.b)),(ai r5.snd.p)]])))))))))))))))) else (Tt (K [(Arg.v true [(ai 3),(ai 0),(ai 0),(AC.d (D.b false)),(AC.d (D.b false)),(ai 0),(ai r2.fst.seg),(ai r2.fst.len),(AC.d (D.h RK.u8 r2.fst.data))])] [[(AC.d (D.r RK.u8 r3.snd.b)),(ai r3.snd.p)]]))))))))) else (Tt (((RdOk r1.snd 1000000000)∧((9:Int)≤(1000000000:Int)))∧(∀ r2:(Prod Int RdS),(PkQ r1.snd (9:Int) r2)→Tt (Tt (((RdOk r2.snd 1000000000)∧((2:Int)≤(1000000000:Int)))∧(∀ r3:(Prod Int RdS),(PkQ r2.snd (2:Int) r3)→Tt (((0≤r3.fst)∧(r3.fst < (((List.length ((IntKind.i64.wrap ((1:Int) + r2.fst)) :: ((255:Int) :: ([]:(List Int)):(List Int)):(List Int))):Nat):Int)))∧(Tt (((RdOk r3.snd 900000000)∧(n≤1000000000))∧(∀ r4:(Prod Bool RdS),((r4.snd.b=r3.snd.b)∧((r3.snd.p≤r4.snd.p)∧((r4.snd.p≤(r3.snd.p + 1))∧((n≤0)→(r4.fst=false)))))→Tt (if (r4.fst=true) then (Tt (((RdOk r4.snd 1000000000)∧((8:Int)≤(1000000000:Int)))∧(∀ r5:(Prod Int RdS),(PkQ r4.snd (8:Int) r5)→Tt (if ((r5.fst == 0)=true) then (Tt (((RdOk r5.snd 1000000000)∧((2:Int)≤(1000000000:Int)))∧(∀ r6:(Prod Int RdS),(PkQ r5.snd (2:Int) r6)→Tt (((0≤r6.fst)∧(r6.fst < 2))∧(Tt (K [(Arg.v true [(ai (at_i64 ((0:Int) :: ((5:Int) :: ([]:(List Int)):(List Int)):(List Int)) r6.fst.toNat)),(ai 0),(ai 0),(AC.d (D.b false)),(AC.d (D.b false)),(ai 0),(ai 0),(ai (at_i64 ((IntKind.i64.wrap ((1:Int) + r2.fst)) :: ((255:Int) :: ([]:(List Int)):(List Int)):(List Int)) r3.fst.toNat)),(AC.d (D.h RK.u8 0))])] [[(AC.d (D.r RK.u8 r6.snd.b)),(ai r6.snd.p)]])))))) else (if ((r5.fst == 1)=true) then (Tt (((RdOk r5.snd 1000000000)∧((3:Int)≤(1000000000:Int)))∧(∀ r6:(Prod Int RdS),(PkQ r5.snd (3:Int) r6)→Tt (((0≤r6.fst)∧(r6.fst < 3))∧(Tt (K [(Arg.v true [(ai (IntKind.i64.wrap ((1:Int) + r1.fst))),(ai (at_i64 ((-1:Int) :: ((8:Int) :: ((1:Int) :: ([]:(List Int)):(List Int)):(List Int)):(List Int)) r6.fst.toNat)),(ai 0),(AC.d (D.b false)),(AC.d (D.b false)),(ai 0),(ai 0),(ai (at_i64 ((IntKind.i64.wrap ((1:Int) + r2.fst)) :: ((255:Int) :: ([]:(List Int)):(List Int)):(List Int)) r3.fst.toNat)),(AC.d (D.h RK.u8 0))])] [[(AC.d (D.r RK.u8 r6.snd.b)),(ai r6.snd.p)]])))))) else (if ((r5.fst == 2)=true) then (Tt (((RdOk r5.snd 1000000000)∧((3:Int)≤(1000000000:Int)))∧(∀ r6:(Prod Int RdS),(PkQ r5.snd (3:Int) r6)→Tt (((0≤r6.fst)∧(r6.fst < 3))∧(Tt (K [(Arg.v true [(ai (IntKind.i64.wrap ((1:Int) + r1.fst))),(ai 0),(ai (at_i64 ((-1:Int) :: ((8:Int) :: ((1:Int) :: ([]:(List Int)):(List Int)):(List Int)):(List Int)) r6.fst.toNat)),(AC.d (D.b false)),(AC.d (D.b false)),(ai 0),(ai 0),(ai (at_i64 ((IntKind.i64.wrap ((1:Int) + r2.fst)) :: ((255:Int) :: ([]:(List Int)):(List Int)):(List Int)) r3.fst.toNat)),(AC.d (D.h RK.u8 0))])] [[(AC.d (D.r RK.u8 r6.snd.b)),(ai r6.snd.p)]])))))) else (if ((r5.fst == 3)=true) then (Tt (K [(Arg.v true [(ai (IntKind.i64.wrap ((1:Int) + r1.fst))),(ai 0),(ai 0),(AC.d (D.b true)),(AC.d (D.b true)),(ai 0),(ai 0),(ai (at_i64 ((IntKind.i64.wrap ((1:Int) + r2.fst)) :: ((255:Int) :: ([]:(List Int)):(List Int)):(List Int)) r3.fst.toNat)),(AC.d (D.h RK.u8 0))])] [[(AC.d (D.r RK.u8 r5.snd.b)),(ai r5.snd.p)]])) else (if ((r5.fst == 4)=true) then (Tt (((RdOk r5.snd 1000000000)∧((3:Int)≤(1000000000:Int)))∧(∀ r6:(Prod Int RdS),(PkQ r5.snd (3:Int) r6)→Tt (((0≤r6.fst)∧(r6.fst < 3))∧(Tt (K [(Arg.v true [(ai (IntKind.i64.wrap ((1:Int) + r1.fst))),(ai 0),(ai 0),(AC.d (D.b false)),(AC.d (D.b false)),(ai (at_i64 ((-1:Int) :: ((3:Int) :: ((1:Int) :: ([]:(List Int)):(List Int)):(List Int)):(List Int)) r6.fst.toNat)),(ai 0),(ai (at_i64 ((IntKind.i64.wrap ((1:Int) + r2.fst)) :: ((255:Int) :: ([]:(List Int)):(List Int)):(List Int)) r3.fst.toNat)),(AC.d (D.h RK.u8 0))])] [[(AC.d (D.r RK.u8 r6.snd.b)),(ai r6.snd.p)]])))))) else (if ((r5.fst == 5)=true) then (Tt (((RdOk r5.snd 1000000000)∧((4:Int)≤(1000000000:Int)))∧(∀ r6:(Prod Int RdS),(PkQ r5.snd (4:Int) r6)→Tt (((0≤r6.fst)∧(r6.fst < 4))∧(Tt (K [(Arg.v true [(ai (IntKind.i64.wrap ((1:Int) + r1.fst))),(ai 0),(ai 0),(AC.d (D.b false)),(AC.d (D.b false)),(ai 0),(ai 0),(ai (at_i64 ((-1:Int) :: ((0:Int) :: ((256:Int) :: ((30:Int) :: ([]:(List Int)):(List Int)):(List Int)):(List Int)):(List Int)) r6.fst.toNat)),(AC.d (D.h RK.u8 0))])] [[(AC.d (D.r RK.u8 r6.snd.b)),(ai r6.snd.p)]])))))) else (if ((r5.fst == 6)=true) then ((((((0:Int)≤(1:Int))∧((1:Int)≤(255:Int)))∧True)∧(((((0:Int)≤(2:Int))∧((2:Int)≤(255:Int)))∧True)∧(((((0:Int)≤(3:Int))∧((3:Int)≤(255:Int)))∧True)∧(((((0:Int)≤(4:Int))∧((4:Int)≤(255:Int)))∧True)∧(((((0:Int)≤(5:Int))∧((5:Int)≤(255:Int)))∧True)∧(((((0:Int)≤(6:Int))∧((6:Int)≤(255:Int)))∧True)∧(((((0:Int)≤(7:Int))∧((7:Int)≤(255:Int)))∧True)∧(((((0:Int)≤(8:Int))∧((8:Int)≤(255:Int)))∧True)∧(((((0:Int)≤(9:Int))∧((9:Int)≤(255:Int)))∧True)∧True)))))))))∧((9≤137438953472)∧(Tt (K [(Arg.v true [(ai (IntKind.i64.wrap ((1:Int) + r1.fst))),(ai 0),(ai 0),(AC.d (D.b false)),(AC.d (D.b false)),(ai 0),(ai 0),(ai (at_i64 ((IntKind.i64.wrap ((1:Int) + r2.fst)) :: ((255:Int) :: ([]:(List Int)):(List Int)):(List Int)) r3.fst.toNat)),(AC.d (D.h RK.u8 9))])] [[(AC.d (D.r RK.u8 r5.snd.b)),(ai r5.snd.p)]])))) else (Tt (((RdOk r5.snd 1000000000)∧((3:Int)≤(1000000000:Int)))∧(∀ r6:(Prod Int RdS),(PkQ r5.snd (3:Int) r6)→Tt (((0≤r6.fst)∧(r6.fst < 3))∧(Tt (K [(Arg.v true [(ai (IntKind.i64.wrap ((1:Int) + r1.fst))),(ai 0),(ai 0),(AC.d (D.b false)),(AC.d (D.b false)),(ai 0),(ai (at_i64 ((-1:Int) :: ((4:Int) :: ((2:Int) :: ([]:(List Int)):(List Int)):(List Int)):(List Int)) r6.fst.toNat)),(ai (at_i64 ((IntKind.i64.wrap ((1:Int) + r2.fst)) :: ((255:Int) :: ([]:(List Int)):(List Int)):(List Int)) r3.fst.toNat)),(AC.d (D.h RK.u8 0))])] [[(AC.d (D.r RK.u8 r6.snd.b)),(ai r6.snd.p)]])))))))))))))))) else (Tt (K [(Arg.v true [(ai (IntKind.i64.wrap ((1:Int) + r1.fst))),(ai 0),(ai 0),(AC.d (D.b false)),(AC.d (D.b false)),(ai 0),(ai 0),(ai (at_i64 ((IntKind.i64.wrap ((1:Int) + r2.fst)) :: ((255:Int) :: ([]:(List Int)):(List Int)):(List Int)) r3.fst.toNat)),(AC.d (D.h RK.u8 0))])] [[(AC.d (D.r RK.u8 r4.snd.b)),(ai r4.snd.p)]])))))))))))))))))) := by
  have hkk := fun a1_ a2_ a3_ a4_ a5_ a6_ a7_ a8_ a9_ a10_ a11_ h_ => hk ⟨a1_, a2_, a3_, a4_, a5_, a6_, a7_, a8_, a9_⟩ ⟨a10_, a11_⟩ h_
  dsimp only [rFrmN, rS, frmNC, rdC, List.map] at hkk
  have g1 := hp.1.1
  try simp only [PkQ, PkQ, RdOk, RdOn] at *
  try simp (disch := omega) only [wr]
  repeat' first
    | exact rfl
    | exact True.intro
    | with_reducible apply And.intro
    | (intro ⟨x_, b_, p_⟩ ⟨e_, h1_, h2_, h3_⟩
       try dsimp only at e_
       cases e_
       try dsimp only at h1_ h2_ h3_)
    | (intro ⟨x_, b_, p_⟩ ⟨⟨e_, h1_, h2_⟩, h3_⟩
       try dsimp only at e_
       cases e_
       try dsimp only at h1_ h2_ h3_)
    | (with_reducible intro y_ hy_; subst hy_)
    | with_reducible intro y_
    | (refine iteI (fun h => ?_) (fun h => ?_))
    | fail
  all_goals try simp only [cq1, cq2, cq3, cq4, cq5, cq6, cq7, cq8, cq9, cq10, cq11, cq12, cq13, cq14, cq15, cq16, cq17, cq18, cq19, PkQ, RdOk, RdOn] at *
  all_goals try simp (disch := omega) only [wr] at *
  all_goals first
    | assumption
    | omega
    | exact (wr8_in _).1
    | exact (wr8_in _).2
    | (refine hkk _ _ _ _ _ _ _ _ _ _ _ ?_
       try dsimp only
       repeat' first | with_reducible apply And.intro | with_reducible intro _
       all_goals first | rfl | assumption | omega | grind [])
    | (simp only [LIM, HL] at *; omega)
    | grind [RdOk, RdOn, LIM, HL]
theorem w_spec_l20Frame : Valid Try.prog 41 c_spec_l20Frame :=
  valid_ctr2 (V := V_spec_l20Frame) (tysB_ok tys2_ok) ⟨(CallsL.cons w_spec_l20Rd_pick (CallsL.cons w_spec_l20Rd_odd (CallsL.cons w_spec_l20Part (CallsL.nil _)))), (IosL.nil _)⟩ mixed 0 4 Try.func41 rfl (by kernel_rfl)
    (fun c hc => by
      obtain rfl := Option.some.inj hc
      exact ⟨trivial, ⟨trivial, ⟨⟨trivial, ⟨trivial, ⟨⟨trivial, trivial⟩, ⟨trivial, ⟨⟨trivial, ⟨trivial, ⟨trivial, trivial⟩⟩⟩, ⟨trivial, ⟨⟨trivial, trivial⟩, trivial⟩⟩⟩⟩⟩⟩⟩, ⟨⟨trivial, ⟨⟨trivial, ⟨trivial, ⟨trivial, ⟨trivial, ⟨trivial, ⟨trivial, ⟨trivial, ⟨trivial, ⟨⟨trivial, trivial⟩, ⟨trivial, ⟨trivial, ⟨trivial, ⟨trivial, ⟨trivial, ⟨trivial, trivial⟩⟩⟩⟩⟩⟩⟩⟩⟩⟩⟩⟩⟩⟩⟩, trivial⟩⟩, ⟨trivial, trivial⟩⟩⟩⟩⟩)
    (fun x K hp hk => ⟨_, by kernel_rfl, vF_spec_l20Frame x.1 x.2 K hp (fun f q h => hk (f, q) h)⟩)
theorem vF_spec_l20Join (r:RdS) (n:Int) (K:List Arg→List (List AC)→Prop) (hp:RdOk r 50000000∧n≤1000) (hk:∀ (j:JoinN) (q:RdS),(RdOn r q 500∧j.got≤100)→K ([rJoinN.to j]) ([(rdC q).map .d])):Tt (((RdOk r 1000000000)∧((2:Int)≤(1000000000:Int)))∧(∀ r1:(Prod Int RdS),(PkQ r (2:Int) r1)→Tt (if ((r1.fst == 0)=true) then (Tt (((RdOk r1.snd 1000000000)∧((23:Int)≤(1000000000:Int)))∧(∀ r2:(Prod Int RdS),(PkQ r1.snd (23:Int) r2)→Tt (Tt (((RdOk r2.snd 100000000)∧(((0:Int)≤(IntKind.i64.wrap ((IntKind.i64.wrap ((2:Int) + r2.fst)) - (1:Int))))∧((IntKind.i64.wrap ((IntKind.i64.wrap ((2:Int) + r2.fst)) - (1:Int)))≤(900:Int))))∧(∀ r3:(Prod Nat RdS),((RdOn r2.snd r3.snd ((1:Int) + ((3:Int) * (IntKind.i64.wrap ((IntKind.i64.wrap ((2:Int) + r2.fst)) - (1:Int))))))∧(((r3.fst:Nat):Int)≤(IntKind.i64.wrap ((IntKind.i64.wrap ((2:Int) + r2.fst)) - (1:Int)))))→Tt (if ((((r3.fst:Nat):Int) == (0:Int))=true) then ((((((0:Int)≤(1:Int))∧((1:Int)≤(255:Int)))∧True)∧True)∧(Tt (((RdOk r3.snd 900000000)∧(n≤1000000000))∧(∀ r4:(Prod Bool RdS),((r4.snd.b=r3.snd.b)∧((r3.snd.p≤r4.snd.p)∧((r4.snd.p≤(r3.snd.p + 1))∧((n≤0)→(r4.fst=false)))))→Tt (if (r4.fst=true) then (Tt (((RdOk r4.snd 1000000000)∧((3:Int)≤(1000000000:Int)))∧(∀ r5:(Prod Int RdS),(PkQ r4.snd (3:Int) r5)→Tt (if ((r5.fst == 0)=true) then (Tt (((RdOk r5.snd 1000000000)∧((3:Int)≤(1000000000:Int)))∧(∀ r6:(Prod Int RdS),(PkQ r5.snd (3:Int) r6)→Tt (((0≤r6.fst)∧(r6.fst < 3))∧(Tt (K [(Arg.v true [(ai (at_i64 ((-1:Int) :: ((1:Int) :: ((25:Int) :: ([]:(List Int)):(List Int)):(List Int)):(List Int)) r6.fst.toNat)),(AC.d (D.h RK.u8 1))])] [[(AC.d (D.r RK.u8 r6.snd.b)),(ai r6.snd.p)]])))))) else (if ((r5.fst == 1)=true) then (True∧(Tt (K [(Arg.v true [(ai (IntKind.i64.wrap ((2:Int) + r2.fst))),(AC.d (D.h RK.u8 0))])] [[(AC.d (D.r RK.u8 r5.snd.b)),(ai r5.snd.p)]]))) else (Tt (((RdOk r5.snd 100000000)∧(((0:Int)≤(25:Int))∧((25:Int)≤(900:Int))))∧(∀ r6:(Prod Nat RdS),((RdOn r5.snd r6.snd ((1:Int) + ((3:Int) * (25:Int))))∧(((r6.fst:Nat):Int)≤(25:Int)))→Tt (Tt (K [(Arg.v true [(ai (IntKind.i64.wrap ((2:Int) + r2.fst))),(AC.d (D.h RK.u8 r6.fst))])] [[(AC.d (D.r RK.u8 r6.snd.b)),(ai r6.snd.p)]])))))))))) else (Tt (K [(Arg.v true [(ai (IntKind.i64.wrap ((2:Int) + r2.fst))),(AC.d (D.h RK.u8 1))])] [[(AC.d (D.r RK.u8 r4.snd.b)),(ai r4.snd.p)]]))))))) else (Tt (((RdOk r3.snd 900000000)∧(n≤1000000000))∧(∀ r4:(Prod Bool RdS),((r4.snd.b=r3.snd.b)∧((r3.snd.p≤r4.snd.p)∧((r4.snd.p≤(r3.snd.p + 1))∧((n≤0)→(r4.fst=false)))))→Tt (if (r4.fst=true) then (Tt (((RdOk r4.snd 1000000000)∧((3:Int)≤(1000000000:Int)))∧(∀ r5:(Prod Int RdS),(PkQ r4.snd (3:Int) r5)→Tt (if ((r5.fst == 0)=true) then (Tt (((RdOk r5.snd 1000000000)∧((3:Int)≤(1000000000:Int)))∧(∀ r6:(Prod Int RdS),(PkQ r5.snd (3:Int) r6)→Tt (((0≤r6.fst)∧(r6.fst < 3))∧(Tt (K [(Arg.v true [(ai (at_i64 ((-1:Int) :: ((1:Int) :: ((25:Int) :: ([]:(List Int)):(List Int)):(List Int)):(List Int)) r6.fst.toNat)),(AC.d (D.h RK.u8 r3.fst))])] [[(AC.d (D.r RK.u8 r6.snd.b)),(ai r6.snd.p)]])))))) else (if ((r5.fst == 1)=true) then (True∧(Tt (K [(Arg.v true [(ai (IntKind.i64.wrap ((2:Int) + r2.fst))),(AC.d (D.h RK.u8 0))])] [[(AC.d (D.r RK.u8 r5.snd.b)),(ai r5.snd.p)]]))) else (Tt (((RdOk r5.snd 100000000)∧(((0:Int)≤(25:Int))∧((25:Int)≤(900:Int))))∧(∀ r6:(Prod Nat RdS),((RdOn r5.snd r6.snd ((1:Int) + ((3:Int) * (25:Int))))∧(((r6.fst:Nat):Int)≤(25:Int)))→Tt (Tt (K [(Arg.v true [(ai (IntKind.i64.wrap ((2:Int) + r2.fst))),(AC.d (D.h RK.u8 r6.fst))])] [[(AC.d (D.r RK.u8 r6.snd.b)),(ai r6.snd.p)]])))))))))) else (Tt (K [(Arg.v true [(ai (IntKind.i64.wrap ((2:Int) + r2.fst))),(AC.d (D.h RK.u8 r3.fst))])] [[(AC.d (D.r RK.u8 r4.snd.b)),(ai r4.snd.p)]]))))))))))))) else (Tt (((RdOk r1.snd 900000000)∧(n≤1000000000))∧(∀ r2:(Prod Bool RdS),((r2.snd.b=r1.snd.b)∧((r1.snd.p≤r2.snd.p)∧((r2.snd.p≤(r1.snd.p + 1))∧((n≤0)→(r2.fst=false)))))→Tt (if (r2.fst=true) then (Tt (((RdOk r2.snd 1000000000)∧((3:Int)≤(1000000000:Int)))∧(∀ r3:(Prod Int RdS),(PkQ r2.snd (3:Int) r3)→Tt (if ((r3.fst == 0)=true) then (Tt (((RdOk r3.snd 1000000000)∧((3:Int)≤(1000000000:Int)))∧(∀ r4:(Prod Int RdS),(PkQ r3.snd (3:Int) r4)→Tt (((0≤r4.fst)∧(r4.fst < 3))∧(Tt (K [(Arg.v true [(ai (at_i64 ((-1:Int) :: ((1:Int) :: ((25:Int) :: ([]:(List Int)):(List Int)):(List Int)):(List Int)) r4.fst.toNat)),(AC.d (D.h RK.u8 0))])] [[(AC.d (D.r RK.u8 r4.snd.b)),(ai r4.snd.p)]])))))) else (if ((r3.fst == 1)=true) then (True∧(Tt (K [(Arg.v true [(ai 0),(AC.d (D.h RK.u8 0))])] [[(AC.d (D.r RK.u8 r3.snd.b)),(ai r3.snd.p)]]))) else (Tt (((RdOk r3.snd 100000000)∧(((0:Int)≤(25:Int))∧((25:Int)≤(900:Int))))∧(∀ r4:(Prod Nat RdS),((RdOn r3.snd r4.snd ((1:Int) + ((3:Int) * (25:Int))))∧(((r4.fst:Nat):Int)≤(25:Int)))→Tt (Tt (K [(Arg.v true [(ai 0),(AC.d (D.h RK.u8 r4.fst))])] [[(AC.d (D.r RK.u8 r4.snd.b)),(ai r4.snd.p)]])))))))))) else (Tt (K [(Arg.v true [(ai 0),(AC.d (D.h RK.u8 0))])] [[(AC.d (D.r RK.u8 r2.snd.b)),(ai r2.snd.p)]]))))))))) := by
  have hkk := fun a1_ a2_ a3_ a4_ h_ => hk ⟨a1_, a2_⟩ ⟨a3_, a4_⟩ h_
  dsimp only [rJoinN, rS, joinNC, rdC, List.map] at hkk
  have g1 := hp.1.1
  try simp only [PkQ, PkQ, RdOk, RdOn] at *
  try simp (disch := omega) only [wr]
  repeat' first
    | exact rfl
    | exact True.intro
    | with_reducible apply And.intro
    | (intro ⟨x_, b_, p_⟩ ⟨e_, h1_, h2_, h3_⟩
       try dsimp only at e_
       cases e_
       try dsimp only at h1_ h2_ h3_)
    | (intro ⟨x_, b_, p_⟩ ⟨⟨e_, h1_, h2_⟩, h3_⟩
       try dsimp only at e_
       cases e_
       try dsimp only at h1_ h2_ h3_)
    | (with_reducible intro y_ hy_; subst hy_)
    | with_reducible intro y_
    | (refine iteI (fun h => ?_) (fun h => ?_))
    | fail
  all_goals try simp only [cq1, cq2, cq3, cq4, cq5, cq6, cq7, cq8, cq9, cq10, cq11, cq12, cq13, cq14, cq15, cq16, cq17, cq18, cq19, PkQ, RdOk, RdOn] at *
  all_goals try simp (disch := omega) only [wr] at *
  all_goals first
    | assumption
    | omega
    | exact (wr8_in _).1
    | exact (wr8_in _).2
    | (refine hkk _ _ _ _ ?_
       try dsimp only
       repeat' first | with_reducible apply And.intro | with_reducible intro _
       all_goals first | rfl | assumption | omega | grind [])
    | (simp only [LIM, HL] at *; omega)
    | grind [RdOk, RdOn, LIM, HL]
theorem w_spec_l20Join : Valid Try.prog 35 c_spec_l20Join :=
  valid_ctr2 (V := V_spec_l20Join) (tysB_ok tys2_ok) ⟨(CallsL.cons w_spec_l20Rd_pick (CallsL.cons w_spec_l20Rd_odd (CallsL.cons w_spec_l20Bytes (CallsL.nil _)))), (IosL.nil _)⟩ mixed 0 2 Try.func35 rfl (by kernel_rfl)
    (fun c hc => by
      obtain rfl := Option.some.inj hc
      exact ⟨trivial, ⟨trivial, ⟨⟨trivial, ⟨⟨trivial, ⟨trivial, ⟨⟨trivial, ⟨trivial, trivial⟩⟩, trivial⟩⟩⟩, trivial⟩⟩, ⟨⟨trivial, ⟨⟨trivial, ⟨trivial, ⟨trivial, ⟨trivial, ⟨trivial, trivial⟩⟩⟩⟩⟩, trivial⟩⟩, ⟨trivial, trivial⟩⟩⟩⟩⟩)
    (fun x K hp hk => ⟨_, by kernel_rfl, vF_spec_l20Join x.1 x.2 K hp (fun j q h => hk (j, q) h)⟩)
theorem vF_spec_l20Rx (r:RdS) (n:Int) (K:List Arg→List (List AC)→Prop) (hp:RdOk r 40000000∧n≤1000) (hk:∀ (x:RxN) (q:RdS),(RdOn r q 2000∧x.got≤100)→K ([rRxN.to x]) ([(rdC q).map .d])):Tt (((RdOk r 1000000000)∧((40:Int)≤(1000000000:Int)))∧(∀ r1:(Prod Int RdS),(PkQ r (40:Int) r1)→Tt (((8:Int) ≠ (0:Int))∧(Tt (((RdOk r1.snd 50000000)∧((0:Int)≤(1000:Int)))∧(∀ r2:(Prod JoinN RdS),((RdOn r1.snd r2.snd (500:Int))∧(r2.fst.got≤100))→Tt (Tt (((RdOk r2.snd 1000000000)∧((3:Int)≤(1000000000:Int)))∧(∀ r3:(Prod Int RdS),(PkQ r2.snd (3:Int) r3)→Tt (Tt (((RdOk r3.snd 1000000000)∧((4:Int)≤(1000000000:Int)))∧(∀ r4:(Prod Int RdS),(PkQ r3.snd (4:Int) r4)→Tt (Tt (((RdOk r4.snd 1000000000)∧((12:Int)≤(1000000000:Int)))∧(∀ r5:(Prod Int RdS),(PkQ r4.snd (12:Int) r5)→Tt (Tt (((RdOk r5.snd 900000000)∧(n≤1000000000))∧(∀ r6:(Prod Bool RdS),((r6.snd.b=r5.snd.b)∧((r5.snd.p≤r6.snd.p)∧((r6.snd.p≤(r5.snd.p + 1))∧((n≤0)→(r6.fst=false)))))→Tt (if (r6.fst=true) then (Tt (((RdOk r6.snd 1000000000)∧((3:Int)≤(1000000000:Int)))∧(∀ r7:(Prod Int RdS),(PkQ r6.snd (3:Int) r7)→Tt (if ((r7.fst == 0)=true) then (Tt (True∧(∀ r8:Int,True→Tt (Tt (((RdOk r7.snd 1000000000)∧((3:Int)≤(1000000000:Int)))∧(∀ r9:(Prod Int RdS),(PkQ r7.snd (3:Int) r9)→Tt (((0≤r9.fst)∧(r9.fst < (((List.length ((-1:Int) :: ((8:Int) :: (r8 :: ([]:(List Int)):(List Int)):(List Int)):(List Int))):Nat):Int)))∧(Tt (K [(Arg.v true [(ai (at_i64 ((-1:Int) :: ((8:Int) :: (r8 :: ([]:(List Int)):(List Int)):(List Int)):(List Int)) r9.fst.toNat)),(ai r1.fst),(ai r2.fst.len),(AC.d (D.h RK.u8 r2.fst.got)),(AC.d (D.b (r3.fst == 0))),(AC.d (D.b (r4.fst == 0))),(AC.d (D.b (r5.fst == 0)))])] [[(AC.d (D.r RK.u8 r9.snd.b)),(ai r9.snd.p)]]))))))))) else (if ((r7.fst == 1)=true) then (Tt (((RdOk r7.snd 1000000000)∧((3:Int)≤(1000000000:Int)))∧(∀ r8:(Prod Int RdS),(PkQ r7.snd (3:Int) r8)→Tt (Tt (((0≤r8.fst)∧(r8.fst < (((List.length ((-1:Int) :: ((10000:Int) :: ((IntKind.i64.wrap (r1.fst + 8)) :: ([]:(List Int)):(List Int)):(List Int)):(List Int))):Nat):Int)))∧(Tt (Tt (K [(Arg.v true [(ai (Int.tmod r1.fst (8:Int))),(ai (at_i64 ((-1:Int) :: ((10000:Int) :: ((IntKind.i64.wrap (r1.fst + 8)) :: ([]:(List Int)):(List Int)):(List Int)):(List Int)) r8.fst.toNat)),(ai r2.fst.len),(AC.d (D.h RK.u8 r2.fst.got)),(AC.d (D.b (r3.fst == 0))),(AC.d (D.b (r4.fst == 0))),(AC.d (D.b (r5.fst == 0)))])] [[(AC.d (D.r RK.u8 r8.snd.b)),(ai r8.snd.p)]])))))))) else (Tt (((RdOk r7.snd 50000000)∧((1:Int)≤(1000:Int)))∧(∀ r8:(Prod JoinN RdS),((RdOn r7.snd r8.snd (500:Int))∧(r8.fst.got≤100))→Tt (Tt (K [(Arg.v true [(ai (Int.tmod r1.fst (8:Int))),(ai r1.fst),(ai r8.fst.len),(AC.d (D.h RK.u8 r8.fst.got)),(AC.d (D.b (r3.fst == 0))),(AC.d (D.b (r4.fst == 0))),(AC.d (D.b (r5.fst == 0)))])] [[(AC.d (D.r RK.u8 r8.snd.b)),(ai r8.snd.p)]])))))))))) else (Tt (K [(Arg.v true [(ai (Int.tmod r1.fst (8:Int))),(ai r1.fst),(ai r2.fst.len),(AC.d (D.h RK.u8 r2.fst.got)),(AC.d (D.b (r3.fst == 0))),(AC.d (D.b (r4.fst == 0))),(AC.d (D.b (r5.fst == 0)))])] [[(AC.d (D.r RK.u8 r6.snd.b)),(ai r6.snd.p)]]))))))))))))))))))))) := by
  have hkk := fun a1_ a2_ a3_ a4_ a5_ a6_ a7_ a8_ a9_ h_ => hk ⟨a1_, a2_, a3_, a4_, a5_, a6_, a7_⟩ ⟨a8_, a9_⟩ h_
  dsimp only [rRxN, rS, rxNC, rdC, List.map] at hkk
  have g1 := hp.1.1
  try simp only [PkQ, PkQ, RdOk, RdOn] at *
  try simp (disch := omega) only [wr]
  repeat' first
    | exact rfl
    | exact True.intro
    | with_reducible apply And.intro
    | (intro ⟨x_, b_, p_⟩ ⟨e_, h1_, h2_, h3_⟩
       try dsimp only at e_
       cases e_
       try dsimp only at h1_ h2_ h3_)
    | (intro ⟨x_, b_, p_⟩ ⟨⟨e_, h1_, h2_⟩, h3_⟩
       try dsimp only at e_
       cases e_
       try dsimp only at h1_ h2_ h3_)
    | (with_reducible intro y_ hy_; subst hy_)
    | with_reducible intro y_
    | (refine iteI (fun h => ?_) (fun h => ?_))
    | fail
  all_goals try simp only [cq1, cq2, cq3, cq4, cq5, cq6, cq7, cq8, cq9, cq10, cq11, cq12, cq13, cq14, cq15, cq16, cq17, cq18, cq19, PkQ, RdOk, RdOn] at *
  all_goals try simp (disch := omega) only [wr] at *
  all_goals first
    | assumption
    | omega
    | exact (wr8_in _).1
    | exact (wr8_in _).2
    | (refine hkk _ _ _ _ _ _ _ _ _ ?_
       try dsimp only
       repeat' first | with_reducible apply And.intro | with_reducible intro _
       all_goals first | rfl | assumption | omega | grind [])
    | (simp only [LIM, HL] at *; omega)
    | grind [RdOk, RdOn, LIM, HL]
theorem w_spec_l20Rx : Valid Try.prog 18 c_spec_l20Rx :=
  valid_ctr2 (V := V_spec_l20Rx) (tysB_ok tys2_ok) ⟨(CallsL.cons w_spec_l20Rd_pick (CallsL.cons w_spec_l20Rd_odd (CallsL.cons w_spec_NumNext (CallsL.cons w_spec_l20Join (CallsL.nil _))))), (IosL.nil _)⟩ mixed 0 2 Try.func18 rfl (by kernel_rfl)
    (fun c hc => by
      obtain rfl := Option.some.inj hc
      exact ⟨trivial, ⟨trivial, ⟨trivial, ⟨⟨trivial, ⟨⟨trivial, ⟨trivial, ⟨trivial, ⟨trivial, ⟨trivial, trivial⟩⟩⟩⟩⟩, trivial⟩⟩, ⟨trivial, trivial⟩⟩⟩⟩⟩)
    (fun x K hp hk => ⟨_, by kernel_rfl, vF_spec_l20Rx x.1 x.2 K hp (fun x q h => hk (x, q) h)⟩)
theorem vF_spec_l20Crx (r:RdS) (n:Int) (K:List Arg→List (List AC)→Prop) (hp:RdOk r 40000000∧n≤1000) (hk:∀ (x:CrN) (q:RdS),(RdOn r q 2000∧x.got≤100)→K ([rCrN.to x]) ([(rdC q).map .d])):Tt (((RdOk r 1000000000)∧((7:Int)≤(1000000000:Int)))∧(∀ r1:(Prod Int RdS),(PkQ r (7:Int) r1)→Tt (Tt (((RdOk r1.snd 50000000)∧((0:Int)≤(1000:Int)))∧(∀ r2:(Prod JoinN RdS),((RdOn r1.snd r2.snd (500:Int))∧(r2.fst.got≤100))→Tt (Tt (((RdOk r2.snd 1000000000)∧((12:Int)≤(1000000000:Int)))∧(∀ r3:(Prod Int RdS),(PkQ r2.snd (12:Int) r3)→Tt (Tt (((RdOk r3.snd 900000000)∧(n≤1000000000))∧(∀ r4:(Prod Bool RdS),((r4.snd.b=r3.snd.b)∧((r3.snd.p≤r4.snd.p)∧((r4.snd.p≤(r3.snd.p + 1))∧((n≤0)→(r4.fst=false)))))→Tt (if (r4.fst=true) then (Tt (((RdOk r4.snd 1000000000)∧((2:Int)≤(1000000000:Int)))∧(∀ r5:(Prod Int RdS),(PkQ r4.snd (2:Int) r5)→Tt (if ((r5.fst == 0)=true) then (Tt (((RdOk r5.snd 1000000000)∧((3:Int)≤(1000000000:Int)))∧(∀ r6:(Prod Int RdS),(PkQ r5.snd (3:Int) r6)→Tt (((0≤r6.fst)∧(r6.fst < 3))∧(Tt (K [(Arg.v true [(ai (at_i64 ((-1:Int) :: ((256:Int) :: ((255:Int) :: ([]:(List Int)):(List Int)):(List Int)):(List Int)) r6.fst.toNat)),(ai r2.fst.len),(AC.d (D.h RK.u8 r2.fst.got)),(AC.d (D.b (r3.fst == 0)))])] [[(AC.d (D.r RK.u8 r6.snd.b)),(ai r6.snd.p)]])))))) else (Tt (((RdOk r5.snd 50000000)∧((1:Int)≤(1000:Int)))∧(∀ r6:(Prod JoinN RdS),((RdOn r5.snd r6.snd (500:Int))∧(r6.fst.got≤100))→Tt (Tt (K [(Arg.v true [(ai r1.fst),(ai r6.fst.len),(AC.d (D.h RK.u8 r6.fst.got)),(AC.d (D.b (r3.fst == 0)))])] [[(AC.d (D.r RK.u8 r6.snd.b)),(ai r6.snd.p)]]))))))))) else (Tt (K [(Arg.v true [(ai r1.fst),(ai r2.fst.len),(AC.d (D.h RK.u8 r2.fst.got)),(AC.d (D.b (r3.fst == 0)))])] [[(AC.d (D.r RK.u8 r4.snd.b)),(ai r4.snd.p)]])))))))))))))) := by
  have hkk := fun a1_ a2_ a3_ a4_ a5_ a6_ h_ => hk ⟨a1_, a2_, a3_, a4_⟩ ⟨a5_, a6_⟩ h_
  dsimp only [rCrN, rS, crNC, rdC, List.map] at hkk
  have g1 := hp.1.1
  try simp only [PkQ, PkQ, RdOk, RdOn] at *
  try simp (disch := omega) only [wr]
  repeat' first
    | exact rfl
    | exact True.intro
    | with_reducible apply And.intro
    | (intro ⟨x_, b_, p_⟩ ⟨e_, h1_, h2_, h3_⟩
       try dsimp only at e_
       cases e_
       try dsimp only at h1_ h2_ h3_)
    | (intro ⟨x_, b_, p_⟩ ⟨⟨e_, h1_, h2_⟩, h3_⟩
       try dsimp only at e_
       cases e_
       try dsimp only at h1_ h2_ h3_)
    | (with_reducible intro y_ hy_; subst hy_)
    | with_reducible intro y_
    | (refine iteI (fun h => ?_) (fun h => ?_))
    | fail
  all_goals try simp only [cq1, cq2, cq3, cq4, cq5, cq6, cq7, cq8, cq9, cq10, cq11, cq12, cq13, cq14, cq15, cq16, cq17, cq18, cq19, PkQ, RdOk, RdOn] at *
  all_goals try simp (disch := omega) only [wr] at *
  all_goals first
    | assumption
    | omega
    | exact (wr8_in _).1
    | exact (wr8_in _).2
    | (refine hkk _ _ _ _ _ _ ?_
       try dsimp only
       repeat' first | with_reducible apply And.intro | with_reducible intro _
       all_goals first | rfl | assumption | omega | grind [])
    | (simp only [LIM, HL] at *; omega)
    | grind [RdOk, RdOn, LIM, HL]
theorem w_spec_l20Crx : Valid Try.prog 20 c_spec_l20Crx :=
  valid_ctr2 (V := V_spec_l20Crx) (tysB_ok tys2_ok) ⟨(CallsL.cons w_spec_l20Rd_pick (CallsL.cons w_spec_l20Rd_odd (CallsL.cons w_spec_l20Join (CallsL.nil _)))), (IosL.nil _)⟩ mixed 0 2 Try.func20 rfl (by kernel_rfl)
    (fun c hc => by
      obtain rfl := Option.some.inj hc
      exact ⟨trivial, ⟨trivial, ⟨⟨trivial, ⟨⟨trivial, ⟨trivial, trivial⟩⟩, trivial⟩⟩, ⟨trivial, trivial⟩⟩⟩⟩)
    (fun x K hp hk => ⟨_, by kernel_rfl, vF_spec_l20Crx x.1 x.2 K hp (fun x q h => hk (x, q) h)⟩)
end Go.Proofs.YtjjcjpmfkbfdfaaE
