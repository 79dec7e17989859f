/- A part of the proof of laws of the program: what calls of the program answer. Conditions: none. -/
import Derived.Test.YtlapeiijghebjaaM51ab044c
set_option linter.unusedVariables false
set_option linter.unusedSimpArgs false
set_option linter.unusedSectionVars false
/- Contracts: O2. Conditions: none. -/
set_option linter.unusedVariables false
set_option maxHeartbeats 1600000
namespace Go.Proofs.YtlapeiijghebjaaE
open Go
/-! spec.l20PartOr -/
def c_spec_l20PartOr : Ent := ctr (α := (RdS) × (Int)) (ρ := (Part) × (RdS)) [] [] (rs rRd (rs1 rInt)) (fun x_ => (fun (r : RdS) (n : Int) => (RdOk r 45000000 ∧ n ≤ 1000)) x_.1 x_.2) (fun x_ r_ => (fun x_ => (fun (r : RdS) (n : Int) => ((fun r_ => (fun (p : Part) (q : RdS) => (p.data.length ≤ 200 ∧ RdOn r q 60)) r_.1 r_.2))) x_.1 x_.2) x_ r_) (fun r_ => (fun (p : Part) (q : RdS) => ([rPart.to p])) r_.1 r_.2) (fun r_ => (fun (p : Part) (q : RdS) => ([(rdC q).map .d])) r_.1 r_.2)
def V_spec_l20PartOr : Env := ⟨tys, [(101, c_spec_l20Rd_pick), (105, c_spec_l20Part), (106, c_spec_l20Rd_odd)], [(7, [0])], [(4, 1), (5, 2)], [], [], []⟩
def QOk (t : CtS) : Prop := t.queue.length ≤ 24 ∧ ∀ p ∈ t.queue, p.data.length ≤ 24
theorem QOk.z : QOk zCt := ⟨by simp [zCt], fun p h => by simp [zCt] at h⟩
theorem crdPut_q {c : Cfg} {t : CtS} (s : List Int) (h : QOk t) : QOk (crdPut c t s).t := by
  unfold crdPut
  split
  · rename_i hc
    split
    · exact h
    · rename_i hn
      refine ⟨?_, fun p hp => ?_⟩
      · show (t.queue ++ segCut s c.mps).length ≤ 24
        rw [List.length_append]; omega
      · rcases List.mem_append.1 hp with hp | hp
        · exact h.2 p hp
        · exact segCut_data _ _ p hp
  · exact QOk.z
theorem crdSend_q {c : Cfg} {t : CtS} (h : QOk t) : QOk (crdSend c t).t := by
  unfold crdSend
  split
  · split
    · exact h
    · refine ⟨?_, fun p hp => h.2 p (List.mem_of_mem_drop hp)⟩
      show (t.queue.drop 1).length ≤ 24
      have := h.1
      rw [List.length_drop]; omega
  · exact QOk.z
theorem crdTake_q {c : Cfg} {t : CtS} (n : Int) (h : QOk t) : QOk (crdTake c t n) := by
  unfold crdTake
  split
  · split
    · exact h
    · split <;> exact h
  · exact QOk.z

/-! spec.l20Ctx -/
def c_spec_l20Ctx : Ent := ctr (α := (RdS) × (Cfg) × (Int)) (ρ := (CtS) × (RdS)) [] [] (rs rRd (rs rCfg (rs1 rInt))) (fun x_ => (fun (r : RdS) (c : Cfg) (m : Int) => (RdOk r 40000000 ∧ m ≤ 1000 ∧ 0 ≤ c.mtu ∧ c.mtu ≤ 25)) x_.1 x_.2.1 x_.2.2) (fun x_ r_ => (fun x_ => (fun (r : RdS) (c : Cfg) (m : Int) => ((fun r_ => (fun (t : CtS) (q : RdS) => (t.queue.length ≤ 30 ∧ (∀ p ∈ t.queue, p.data.length ≤ 200) ∧ RdOn r q 2000)) r_.1 r_.2))) x_.1 x_.2.1 x_.2.2) x_ r_) (fun r_ => (fun (t : CtS) (q : RdS) => ([rCt.to t])) r_.1 r_.2) (fun r_ => (fun (t : CtS) (q : RdS) => ([(rdC q).map .d])) r_.1 r_.2)
def l_spec_l20Ctx_0 : LoopD ((RdS) × (Cfg) × (Int) × (CtS) × (Int)) ((RdS) × (Cfg) × (Int) × (CtS)) ((Empty)) where
  n := 97
  head := ⟨[0, 2, 4, 6, 7, 8], [0, 1, 2, 3], [0]⟩
  st := fun x_ => (fun (r : RdS) (c : Cfg) (m : Int) (t : CtS) (k : Int) => (⟨true, [(0, .pb 0 0 0), (2, num .i64 m), (4, .pb 1 1 0), (6, .pb 2 1 0), (7, .pb 3 1 0), (8, num .i64 k)], [⟨0, some ⟨82, .part, t.queue⟩⟩], [⟨0, some ((rdC r).map .d)⟩, ⟨1, some ((cfgC c).map .d)⟩, ⟨1, some ((ctC zCt).map .d)⟩, ⟨1, some [.d (.i .i64 t.have_), .ref 0 0, .d (.i .i64 t.granted), .d (.i .i64 t.sent), .d (.b t.dead)]⟩]⟩)) x_.1 x_.2.1 x_.2.2.1 x_.2.2.2.1 x_.2.2.2.2
  pre := fun x_ => (fun (r : RdS) (c : Cfg) (m : Int) (t : CtS) (k : Int) => (RdOk r 40000100 ∧ 0 ≤ c.mtu ∧ c.mtu ≤ 25 ∧ t.queue = [] ∧ 0 ≤ k ∧ k ≤ 15)) x_.1 x_.2.1 x_.2.2.1 x_.2.2.2.1 x_.2.2.2.2
  nk := ⟨[0, 2, 4, 6, 7], [0, 1, 2, 3], [0]⟩
  nst := fun r_ => (fun (r : RdS) (c : Cfg) (m : Int) (t : CtS) => (⟨true, [(0, .pb 0 0 0), (2, num .i64 m), (4, .pb 1 1 0), (6, .pb 2 1 0), (7, .pb 3 1 0)], [⟨0, some ⟨82, .part, t.queue⟩⟩], [⟨0, some ((rdC r).map .d)⟩, ⟨1, some ((cfgC c).map .d)⟩, ⟨1, some ((ctC zCt).map .d)⟩, ⟨1, some [.d (.i .i64 t.have_), .ref 0 0, .d (.i .i64 t.granted), .d (.i .i64 t.sent), .d (.b t.dead)]⟩]⟩)) r_.1 r_.2.1 r_.2.2.1 r_.2.2.2
  npost := fun x_ r_ => (fun x_ => (fun (r0 : RdS) (c0 : Cfg) (m0 : Int) (t0 : CtS) (k0 : Int) => ((fun r_ => (fun (r : RdS) (c : Cfg) (m : Int) (t : CtS) => (m = m0 ∧ t.queue.length ≤ 24 ∧ (∀ p ∈ t.queue, p.data.length ≤ 24) ∧ RdOn r0 r (80 * k0))) r_.1 r_.2.1 r_.2.2.1 r_.2.2.2))) x_.1 x_.2.1 x_.2.2.1 x_.2.2.2.1 x_.2.2.2.2) x_ r_
  rk := ⟨[], [], []⟩
  rst := fun _ => ⟨true, [], [], []⟩
  rpost := fun _ _ => False
def i_spec_l20Ctx_0 (x : (RdS) × (Cfg) × (Int) × (CtS) × (Int)) (n : Nat) (s : (RdS) × (Cfg) × (Int) × (CtS) × (Int)) : Prop := (fun x_ => (fun (r0 : RdS) (c0 : Cfg) (m0 : Int) (t0 : CtS) (k0 : Int) => ((fun s_ => (fun (r : RdS) (c : Cfg) (m : Int) (t : CtS) (k : Int) => (c = c0 ∧ m = m0 ∧ t.queue.length ≤ 24 ∧ (∀ p ∈ t.queue, p.data.length ≤ 24) ∧ (n : Int) = k ∧ RdOk r0 40000100 ∧ RdOn r0 r (80 * (k0 - k)) ∧ k ≤ k0 ∧ k0 ≤ 15)) s_.1 s_.2.1 s_.2.2.1 s_.2.2.2.1 s_.2.2.2.2))) x_.1 x_.2.1 x_.2.2.1 x_.2.2.2.1 x_.2.2.2.2) x s
def V_spec_l20Ctx : Env := ⟨tys, [(36, c_spec_CrdTake), (48, c_spec_CrdPut), (53, c_spec_CrdSend), (101, c_spec_l20Rd_pick), (102, c_spec_l20Bytes), (106, c_spec_l20Rd_odd), (117, c_spec_l20PartOr)], [(9, [0]), (21, [0]), (35, [0]), (53, [0])], [(4, 1), (6, 2), (7, 3)], [(9, ([0, 3], [0])), (11, ([0, 3], [0])), (16, ([0, 3], [])), (18, ([0, 3], [])), (20, ([0, 3], [0]))], [(0, l_spec_l20Ctx_0.L)], []⟩
/-! spec.DrawCrdTxOk -/
def c_spec_DrawCrdTxOk : Ent := ctr (α := (List Int)) (ρ := (Cfg) × (CtS)) [] [] (rs1 rBytes) (fun x_ => (fun (l : List Int) => (Bytes l)) x_) (fun x_ r_ => (fun x_ => (fun (l : List Int) => ((fun r_ => (fun (c : Cfg) (x : CtS) => (x.queue.length ≤ 30 ∧ (∀ p ∈ x.queue, p.data.length ≤ 200))) r_.1 r_.2))) x_) x_ r_) (fun r_ => (fun (c : Cfg) (x : CtS) => ([rCfg.to c, rCt.to x])) r_.1 r_.2) (fun r_ => (fun (c : Cfg) (x : CtS) => ([])) r_.1 r_.2)
def V_spec_DrawCrdTxOk : Env := ⟨tys, [(71, c_spec_l20Open), (88, c_spec_l20Cfg), (89, c_spec_l20Ctx)], [], [(2, 0), (3, 1), (7, 2), (5, 3)], [(3, ([0, 1, 2], []))], [], []⟩
/-! spec.DrawCrdSend -/
def c_spec_DrawCrdSend : Ent := ctr (α := (List Int)) (ρ := (Cfg) × (CtS)) [] [] (rs1 rBytes) (fun x_ => (fun (l : List Int) => (Bytes l)) x_) (fun x_ r_ => (fun x_ => (fun (l : List Int) => ((fun r_ => (fun (c : Cfg) (x : CtS) => (x.queue.length ≤ 30 ∧ (∀ p ∈ x.queue, p.data.length ≤ 200))) r_.1 r_.2))) x_) x_ r_) (fun r_ => (fun (c : Cfg) (x : CtS) => ([rCfg.to c, rCt.to x])) r_.1 r_.2) (fun r_ => (fun (c : Cfg) (x : CtS) => ([])) r_.1 r_.2)
def V_spec_DrawCrdSend : Env := ⟨tys, [(71, c_spec_l20Open), (88, c_spec_l20Cfg), (89, c_spec_l20Ctx)], [], [(2, 0), (3, 1), (7, 2), (5, 3)], [(3, ([0, 1, 2], []))], [], []⟩
/-! spec.DrawCrdPut -/
def c_spec_DrawCrdPut : Ent := ctr (α := (List Int)) (ρ := (Cfg) × (CtS) × (List Int)) [] [] (rs1 rBytes) (fun x_ => (fun (l : List Int) => (Bytes l)) x_) (fun x_ r_ => (fun x_ => (fun (l : List Int) => ((fun r_ => (fun (c : Cfg) (x : CtS) (s : List Int) => (x.queue.length ≤ 30 ∧ (∀ p ∈ x.queue, p.data.length ≤ 200) ∧ s.length ≤ 25)) r_.1 r_.2.1 r_.2.2))) x_) x_ r_) (fun r_ => (fun (c : Cfg) (x : CtS) (s : List Int) => ([rCfg.to c, rCt.to x, rBytes.to s])) r_.1 r_.2.1 r_.2.2) (fun r_ => (fun (c : Cfg) (x : CtS) (s : List Int) => ([])) r_.1 r_.2.1 r_.2.2)
def V_spec_DrawCrdPut : Env := ⟨tys, [(71, c_spec_l20Open), (88, c_spec_l20Cfg), (89, c_spec_l20Ctx), (102, c_spec_l20Bytes)], [], [(2, 0), (3, 1), (8, 2), (6, 3)], [(3, ([0, 1, 2], []))], [], []⟩
/-! spec.DrawCrdTake -/
def c_spec_DrawCrdTake : Ent := ctr (α := (List Int)) (ρ := (Cfg) × (CtS) × (Int)) [] [] (rs1 rBytes) (fun x_ => (fun (l : List Int) => (Bytes l)) x_) (fun x_ r_ => (fun x_ => (fun (l : List Int) => ((fun r_ => (fun (c : Cfg) (x : CtS) (n : Int) => (x.queue.length ≤ 30 ∧ (∀ p ∈ x.queue, p.data.length ≤ 200))) r_.1 r_.2.1 r_.2.2))) x_) x_ r_) (fun r_ => (fun (c : Cfg) (x : CtS) (n : Int) => ([rCfg.to c, rCt.to x, rInt.to n])) r_.1 r_.2.1 r_.2.2) (fun r_ => (fun (c : Cfg) (x : CtS) (n : Int) => ([])) r_.1 r_.2.1 r_.2.2)
def V_spec_DrawCrdTake : Env := ⟨tys, [(71, c_spec_l20Open), (88, c_spec_l20Cfg), (89, c_spec_l20Ctx), (101, c_spec_l20Rd_pick)], [], [(2, 0), (3, 1), (8, 2), (6, 3)], [(3, ([0, 1, 2], []))], [], []⟩
end Go.Proofs.YtlapeiijghebjaaE

/- Calls answer what is promised: O2. Conditions: none. -/
set_option linter.unusedVariables false
set_option maxHeartbeats 1600000
namespace Go.Proofs.YtlapeiijghebjaaE
open Go
theorem vF_spec_l20PartOr (r : RdS) (n : Int) (K : List Arg → List (List AC) → Prop) (hp : RdOk r 45000000 ∧ n ≤ 1000) (hk : ∀ (p : Part) (q : RdS), (p.data.length ≤ 200 ∧ RdOn r q 60) → K ([rPart.to p]) ([(rdC q).map .d])) :
 (true = true) ∧
 (((Bytes r.b) ∧
 (((List.length r.b) ≤ (2000 : Nat)) ∧
 (((0 : Int) ≤ r.p) ∧
 (r.p ≤ (45000000 : Int))))) ∧
 (∀ r1 : (Prod Part RdS),
 ((Bytes r1.fst.data) ∧ (((List.length r1.fst.data) ≤ (100 : Nat)) ∧ (RdOn r r1.snd (50 : Int)))) →
 (true = true) ∧
 ((true = true) ∧
 ((((Bytes r1.snd.b) ∧
 (((List.length r1.snd.b) ≤ (2000 : Nat)) ∧
 (((0 : Int) ≤ r1.snd.p) ∧
 (r1.snd.p ≤ (900000000 : Int))))) ∧
 (n ≤ (1000000000 : Int))) ∧
 (∀ r2 : (Prod Bool RdS),
 ((r2.snd.b = r1.snd.b) ∧ ((r1.snd.p ≤ r2.snd.p) ∧ (r2.snd.p ≤ (r1.snd.p + (1 : Int))))) →
 (true = true) ∧
 (if (r2.fst = true) then
 ((true = true) ∧
 ((((Bytes r2.snd.b) ∧
 (((List.length r2.snd.b) ≤ (2000 : Nat)) ∧
 (((0 : Int) ≤ r2.snd.p) ∧
 (r2.snd.p ≤ (1000000000 : Int))))) ∧
 ((3 : Int) ≤ (1000000000 : Int))) ∧
 (∀ r3 : (Prod Int RdS),
 ((r3.snd = (RdS.mk r2.snd.b (r2.snd.p + (1 : Int)))) ∧ (((0 : Int) ≤ r3.fst) ∧ ((((1 : Int) ≤ (3 : Int)) → (r3.fst < (3 : Int))) ∧ (((3 : Int) < (1 : Int)) → (r3.fst = (0 : Int)))))) →
 (true = true) ∧
 (if ((r3.fst == (0 : Int)) = true) then
 ((true = true) ∧
 ((((Bytes r3.snd.b) ∧
 (((List.length r3.snd.b) ≤ (2000 : Nat)) ∧
 (((0 : Int) ≤ r3.snd.p) ∧
 (r3.snd.p ≤ (1000000000 : Int))))) ∧
 ((3 : Int) ≤ (1000000000 : Int))) ∧
 (∀ r4 : (Prod Int RdS),
 ((r4.snd = (RdS.mk r3.snd.b (r3.snd.p + (1 : Int)))) ∧ (((0 : Int) ≤ r4.fst) ∧ ((((1 : Int) ≤ (3 : Int)) → (r4.fst < (3 : Int))) ∧ (((3 : Int) < (1 : Int)) → (r4.fst = (0 : Int)))))) →
 (true = true) ∧
 ((((0 : Int) ≤ r4.fst) ∧
 (r4.fst < (3 : Int))) ∧
 ((true = true) ∧
 (K [(Arg.v true [(AC.d (D.i IntKind.i64 (at_i64 ((-1 : Int) :: ((4 : Int) :: ((1 : Int) :: ([] : (List Int)) : (List Int)) : (List Int)) : (List Int)) (Int.toNat r4.fst)))), (AC.d (D.i IntKind.i64 r1.fst.len)), (AC.d (D.r RK.u8 r1.fst.data))])] [[(AC.d (D.r RK.u8 r4.snd.b)), (AC.d (D.i IntKind.i64 r4.snd.p))]]))))))
 else
 (if ((r3.fst == (1 : Int)) = true) then
 ((true = true) ∧
 ((((Bytes r3.snd.b) ∧
 (((List.length r3.snd.b) ≤ (2000 : Nat)) ∧
 (((0 : Int) ≤ r3.snd.p) ∧
 (r3.snd.p ≤ (1000000000 : Int))))) ∧
 ((3 : Int) ≤ (1000000000 : Int))) ∧
 (∀ r4 : (Prod Int RdS),
 ((r4.snd = (RdS.mk r3.snd.b (r3.snd.p + (1 : Int)))) ∧ (((0 : Int) ≤ r4.fst) ∧ ((((1 : Int) ≤ (3 : Int)) → (r4.fst < (3 : Int))) ∧ (((3 : Int) < (1 : Int)) → (r4.fst = (0 : Int)))))) →
 (true = true) ∧
 ((((0 : Int) ≤ r4.fst) ∧
 (r4.fst < (3 : Int))) ∧
 ((true = true) ∧
 (K [(Arg.v true [(AC.d (D.i IntKind.i64 r1.fst.seg)), (AC.d (D.i IntKind.i64 (at_i64 ((-1 : Int) :: ((25 : Int) :: ((3 : Int) :: ([] : (List Int)) : (List Int)) : (List Int)) : (List Int)) (Int.toNat r4.fst)))), (AC.d (D.r RK.u8 r1.fst.data))])] [[(AC.d (D.r RK.u8 r4.snd.b)), (AC.d (D.i IntKind.i64 r4.snd.p))]]))))))
 else
 ((((List.length r1.fst.data) + (8 : Nat)) ≤ (137438953472 : Nat)) ∧
 ((true = true) ∧
 (K [(Arg.v true [(AC.d (D.i IntKind.i64 r1.fst.seg)), (AC.d (D.i IntKind.i64 r1.fst.len)), (AC.d (D.r RK.u8 (r1.fst.data ++ ((1 : Int) :: ((2 : Int) :: ((3 : Int) :: ((4 : Int) :: ((5 : Int) :: ((6 : Int) :: ((7 : Int) :: ((8 : Int) :: ([] : (List Int)) : (List Int)) : (List Int)) : (List Int)) : (List Int)) : (List Int)) : (List Int)) : (List Int)) : (List Int)) : (List Int))))])] [[(AC.d (D.r RK.u8 r3.snd.b)), (AC.d (D.i IntKind.i64 r3.snd.p))]]))))))))
 else
 ((true = true) ∧
 (K [(Arg.v true [(AC.d (D.i IntKind.i64 r1.fst.seg)), (AC.d (D.i IntKind.i64 r1.fst.len)), (AC.d (D.r RK.u8 r1.fst.data))])] [[(AC.d (D.r RK.u8 r2.snd.b)), (AC.d (D.i IntKind.i64 r2.snd.p))]])))))))) := by
  repeat' first
    | exact rfl
    | exact True.intro
    | with_reducible apply And.intro
    | (with_reducible intro r hr; subst hr)
    | with_reducible intro r
    | (refine iteI (fun h => ?_) (fun h => ?_))
  all_goals try simp (disch := omega) only [wr] at *
  all_goals first
    | assumption
    | (generalize at_i64 _ _ = z
       first
       | exact hk ⟨z, _, _⟩ ⟨_, _⟩ (by (try dsimp only); grind [RdOk, RdOn])
       | exact hk ⟨_, z, _⟩ ⟨_, _⟩ (by (try dsimp only); grind [RdOk, RdOn]))
    | (refine hk ⟨_, _, (_ ++ [1, 2, 3, 4, 5, 6, 7, 8] : List Int)⟩ ⟨_, _⟩ ⟨?_, ?_⟩
       · show (List.length (α := Int) (_ ++ _)) ≤ 200
         rw [List.length_append]
         simp
         omega
       · grind [RdOk, RdOn])
    | omega
    | exact hk ⟨_, _, _⟩ ⟨_, _⟩ (by (try dsimp only); grind [RdOk, RdOn, Bytes.cons, Bytes.nil, Bytes.take])
    | grind [RdOk, RdOn, Bytes.cons, Bytes.nil, Bytes.take]
    | exact hk ⟨_, _, _⟩ ⟨_, _⟩ (by (try dsimp only); refine ⟨?_, ?_, ?_⟩; all_goals first | (grind [RdOk, RdOn, Bytes.cons, Bytes.nil, Bytes.take]; done) | (simp; done) | (simp; omega))
theorem w_spec_l20PartOr : Valid Try.prog 117 c_spec_l20PartOr :=
  valid_ctr2 (V := V_spec_l20PartOr) (tysB_ok tys_ok) (CallsL.cons w_spec_l20Rd_pick (CallsL.cons w_spec_l20Part (CallsL.cons w_spec_l20Rd_odd (CallsL.nil _)))) mixed 1 2 Try.func117 rfl (by kernel_rfl)
    (fun c hc => by
      obtain rfl := Option.some.inj hc
      exact ⟨trivial, ⟨trivial, ⟨⟨trivial, ⟨⟨trivial, ⟨trivial, ⟨trivial, ⟨trivial, ⟨trivial, trivial⟩⟩⟩⟩⟩, trivial⟩⟩, ⟨trivial, trivial⟩⟩⟩⟩)
    (fun x K hp hk => ⟨_, by kernel_rfl, vF_spec_l20PartOr x.1 x.2 K hp (fun p q h => hk (p, q) h)⟩)
theorem vF_spec_l20Ctx (r : RdS) (c : Cfg) (m : Int) (K : List Arg → List (List AC) → Prop) (hp : RdOk r 40000000 ∧ m ≤ 1000 ∧ 0 ≤ c.mtu ∧ c.mtu ≤ 25) (hk : ∀ (t : CtS) (q : RdS), (t.queue.length ≤ 30 ∧ (∀ p ∈ t.queue, p.data.length ≤ 200) ∧ RdOn r q 2000) → K ([rCt.to t]) ([(rdC q).map .d])) :
 (true = true) ∧
 ((((Bytes r.b) ∧
 (((List.length r.b) ≤ (2000 : Nat)) ∧
 (((0 : Int) ≤ r.p) ∧
 (r.p ≤ (1000000000 : Int))))) ∧
 ((16 : Int) ≤ (1000000000 : Int))) ∧
 (∀ r1 : (Prod Int RdS),
 ((r1.snd = (RdS.mk r.b (r.p + (1 : Int)))) ∧ (((0 : Int) ≤ r1.fst) ∧ ((((1 : Int) ≤ (16 : Int)) → (r1.fst < (16 : Int))) ∧ (((16 : Int) < (1 : Int)) → (r1.fst = (0 : Int)))))) →
 (true = true) ∧
 (∃ s : (Prod RdS (Prod Cfg (Prod Int (Prod CtS Int)))),
 ((KS.mk true [(Prod.mk (0 : Nat) (T.pb (0 : Nat) (0 : Nat) (0 : Nat))), (Prod.mk (2 : Nat) (num IntKind.i64 m)), (Prod.mk (4 : Nat) (T.pb (1 : Nat) (1 : Nat) (0 : Nat))), (Prod.mk (6 : Nat) (T.pb (2 : Nat) (1 : Nat) (0 : Nat))), (Prod.mk (7 : Nat) (T.pb (3 : Nat) (1 : Nat) (0 : Nat))), (Prod.mk (8 : Nat) (num IntKind.i64 r1.fst))] [(Row.mk (0 : Nat) (Option.some (RC.mk (82 : Nat) RK.part ([] : (List Part)))))] [(Box.mk (Min.min (0 : Nat) (1 : Nat)) (Option.some [(Cm.d (D.r RK.u8 r1.snd.b)), (Cm.d (D.i IntKind.i64 r1.snd.p))])), (Box.mk (Min.min (1 : Nat) (1 : Nat)) (Option.some [(Cm.d (D.i IntKind.i64 c.mode)), (Cm.d (D.i IntKind.i64 c.win)), (Cm.d (D.i IntKind.i64 c.mps)), (Cm.d (D.i IntKind.i64 c.mtu)), (Cm.d (D.i IntKind.i64 c.try_))])), (Box.mk (1 : Nat) (Option.some [(Cm.d (D.i IntKind.i64 (0 : Int))), (Cm.d (D.r RK.part ([] : (List Part)))), (Cm.d (D.i IntKind.i64 (0 : Int))), (Cm.d (D.i IntKind.i64 (0 : Int))), (Cm.d (D.b false))])), (Box.mk (1 : Nat) (Option.some [(Cm.d (D.i IntKind.i64 (0 : Int))), (Cm.ref (0 : Nat) (0 : Nat)), (Cm.d (D.i IntKind.i64 (0 : Int))), (Cm.d (D.i IntKind.i64 (0 : Int))), (Cm.d (D.b false))]))]) = (KS.mk true [(Prod.mk (0 : Nat) (T.pb (0 : Nat) (0 : Nat) (0 : Nat))), (Prod.mk (2 : Nat) (num IntKind.i64 s.snd.snd.fst)), (Prod.mk (4 : Nat) (T.pb (1 : Nat) (1 : Nat) (0 : Nat))), (Prod.mk (6 : Nat) (T.pb (2 : Nat) (1 : Nat) (0 : Nat))), (Prod.mk (7 : Nat) (T.pb (3 : Nat) (1 : Nat) (0 : Nat))), (Prod.mk (8 : Nat) (num IntKind.i64 s.snd.snd.snd.snd))] [(Row.mk (0 : Nat) (Option.some (RC.mk (82 : Nat) RK.part s.snd.snd.snd.fst.queue)))] [(Box.mk (0 : Nat) (Option.some [(Cm.d (D.r RK.u8 s.fst.b)), (Cm.d (D.i IntKind.i64 s.fst.p))])), (Box.mk (1 : Nat) (Option.some [(Cm.d (D.i IntKind.i64 s.snd.fst.mode)), (Cm.d (D.i IntKind.i64 s.snd.fst.win)), (Cm.d (D.i IntKind.i64 s.snd.fst.mps)), (Cm.d (D.i IntKind.i64 s.snd.fst.mtu)), (Cm.d (D.i IntKind.i64 s.snd.fst.try_))])), (Box.mk (1 : Nat) (Option.some [(Cm.d (D.i IntKind.i64 (0 : Int))), (Cm.d (D.r RK.part ([] : (List Part)))), (Cm.d (D.i IntKind.i64 (0 : Int))), (Cm.d (D.i IntKind.i64 (0 : Int))), (Cm.d (D.b false))])), (Box.mk (1 : Nat) (Option.some [(Cm.d (D.i IntKind.i64 s.snd.snd.snd.fst.have_)), (Cm.ref (0 : Nat) (0 : Nat)), (Cm.d (D.i IntKind.i64 s.snd.snd.snd.fst.granted)), (Cm.d (D.i IntKind.i64 s.snd.snd.snd.fst.sent)), (Cm.d (D.b s.snd.snd.snd.fst.dead))]))])) ∧
 ((((Bytes s.fst.b) ∧
 (((List.length s.fst.b) ≤ (2000 : Nat)) ∧
 (((0 : Int) ≤ s.fst.p) ∧
 (s.fst.p ≤ (40000100 : Int))))) ∧
 (((0 : Int) ≤ s.snd.fst.mtu) ∧
 ((s.snd.fst.mtu ≤ (25 : Int)) ∧
 ((s.snd.snd.snd.fst.queue = ([] : (List Part))) ∧
 (((0 : Int) ≤ s.snd.snd.snd.snd) ∧
 (s.snd.snd.snd.snd ≤ (15 : Int))))))) ∧
 ((∀ r2 : (Prod RdS (Prod Cfg (Prod Int CtS))),
 ((r2.snd.snd.fst = s.snd.snd.fst) ∧ (((List.length r2.snd.snd.snd.queue) ≤ (24 : Nat)) ∧ ((∀ p : Part, ((Membership.mem r2.snd.snd.snd.queue p) → ((List.length p.data) ≤ (24 : Nat)))) ∧ (RdOn s.fst r2.fst ((80 : Int) * s.snd.snd.snd.snd))))) →
 (true = true) ∧
 ((((Bytes r2.fst.b) ∧
 (((List.length r2.fst.b) ≤ (2000 : Nat)) ∧
 (((0 : Int) ≤ r2.fst.p) ∧
 (r2.fst.p ≤ (900000000 : Int))))) ∧
 (r2.snd.snd.fst ≤ (1000000000 : Int))) ∧
 (∀ r3 : (Prod Bool RdS),
 ((r3.snd.b = r2.fst.b) ∧ ((r2.fst.p ≤ r3.snd.p) ∧ (r3.snd.p ≤ (r2.fst.p + (1 : Int))))) →
 (true = true) ∧
 (if (r3.fst = true) then
 ((true = true) ∧
 ((((Bytes r3.snd.b) ∧
 (((List.length r3.snd.b) ≤ (2000 : Nat)) ∧
 (((0 : Int) ≤ r3.snd.p) ∧
 (r3.snd.p ≤ (1000000000 : Int))))) ∧
 ((4 : Int) ≤ (1000000000 : Int))) ∧
 (∀ r4 : (Prod Int RdS),
 ((r4.snd = (RdS.mk r3.snd.b (r3.snd.p + (1 : Int)))) ∧ (((0 : Int) ≤ r4.fst) ∧ ((((1 : Int) ≤ (4 : Int)) → (r4.fst < (4 : Int))) ∧ (((4 : Int) < (1 : Int)) → (r4.fst = (0 : Int)))))) →
 (true = true) ∧
 (if ((r4.fst == (0 : Int)) = true) then
 (((true = true) ∧
 (((true = true) ∧
 ((true = true) ∧
 ((((Bytes r4.snd.b) ∧
 (((List.length r4.snd.b) ≤ (2000 : Nat)) ∧
 (((0 : Int) ≤ r4.snd.p) ∧
 (r4.snd.p ≤ (1000000000 : Int))))) ∧
 ((3 : Int) ≤ (1000000000 : Int))) ∧
 (∀ r5 : (Prod Int RdS),
 ((r5.snd = (RdS.mk r4.snd.b (r4.snd.p + (1 : Int)))) ∧ (((0 : Int) ≤ r5.fst) ∧ ((((1 : Int) ≤ (3 : Int)) → (r5.fst < (3 : Int))) ∧ (((3 : Int) < (1 : Int)) → (r5.fst = (0 : Int)))))) →
 (true = true) ∧
 ((true = true) ∧
 ((((0 : Int) ≤ r5.fst) ∧
 (r5.fst < (((List.length ((-1 : Int) :: ((256 : Int) :: ((IntKind.wrap IntKind.i64 (r2.snd.snd.snd.have_ + (1 : Int))) :: ([] : (List Int)) : (List Int)) : (List Int)) : (List Int))) : Nat) : Int))) ∧
 ((true = true) ∧
 ((true = true) ∧
 ((true = true) ∧
 (K [(Arg.v true [(AC.d (D.i IntKind.i64 (at_i64 ((-1 : Int) :: ((256 : Int) :: ((IntKind.wrap IntKind.i64 (r2.snd.snd.snd.have_ + (1 : Int))) :: ([] : (List Int)) : (List Int)) : (List Int)) : (List Int)) (Int.toNat r5.fst)))), (AC.d (D.r RK.part r2.snd.snd.snd.queue)), (AC.d (D.i IntKind.i64 r2.snd.snd.snd.granted)), (AC.d (D.i IntKind.i64 r2.snd.snd.snd.sent)), (AC.d (D.b r2.snd.snd.snd.dead))])] [[(AC.d (D.r RK.u8 r5.snd.b)), (AC.d (D.i IntKind.i64 r5.snd.p))]])))))))))) ∧
 ((true = true) ∧
 ((((Bytes r4.snd.b) ∧
 (((List.length r4.snd.b) ≤ (2000 : Nat)) ∧
 (((0 : Int) ≤ r4.snd.p) ∧
 (r4.snd.p ≤ (1000000000 : Int))))) ∧
 ((3 : Int) ≤ (1000000000 : Int))) ∧
 (∀ r5 : (Prod Int RdS),
 ((r5.snd = (RdS.mk r4.snd.b (r4.snd.p + (1 : Int)))) ∧ (((0 : Int) ≤ r5.fst) ∧ ((((1 : Int) ≤ (3 : Int)) → (r5.fst < (3 : Int))) ∧ (((3 : Int) < (1 : Int)) → (r5.fst = (0 : Int)))))) →
 (true = true) ∧
 ((true = true) ∧
 ((true = true) ∧
 ((((0 : Int) ≤ r5.fst) ∧
 (r5.fst < (((List.length ((-1 : Int) :: ((256 : Int) :: ((IntKind.wrap IntKind.i64 (r2.snd.snd.snd.have_ + (1 : Int))) :: ([] : (List Int)) : (List Int)) : (List Int)) : (List Int))) : Nat) : Int))) ∧
 ((true = true) ∧
 ((true = true) ∧
 ((true = true) ∧
 (K [(Arg.v true [(AC.d (D.i IntKind.i64 (at_i64 ((-1 : Int) :: ((256 : Int) :: ((IntKind.wrap IntKind.i64 (r2.snd.snd.snd.have_ + (1 : Int))) :: ([] : (List Int)) : (List Int)) : (List Int)) : (List Int)) (Int.toNat r5.fst)))), (AC.d (D.r RK.part r2.snd.snd.snd.queue)), (AC.d (D.i IntKind.i64 r2.snd.snd.snd.granted)), (AC.d (D.i IntKind.i64 r2.snd.snd.snd.sent)), (AC.d (D.b r2.snd.snd.snd.dead))])] [[(AC.d (D.r RK.u8 r5.snd.b)), (AC.d (D.i IntKind.i64 r5.snd.p))]])))))))))))) ∧
 ((true = true) ∧
 ((((Bytes r4.snd.b) ∧
 (((List.length r4.snd.b) ≤ (2000 : Nat)) ∧
 (((0 : Int) ≤ r4.snd.p) ∧
 (r4.snd.p ≤ (1000000000 : Int))))) ∧
 ((3 : Int) ≤ (1000000000 : Int))) ∧
 (∀ r5 : (Prod Int RdS),
 ((r5.snd = (RdS.mk r4.snd.b (r4.snd.p + (1 : Int)))) ∧ (((0 : Int) ≤ r5.fst) ∧ ((((1 : Int) ≤ (3 : Int)) → (r5.fst < (3 : Int))) ∧ (((3 : Int) < (1 : Int)) → (r5.fst = (0 : Int)))))) →
 (true = true) ∧
 ((true = true) ∧
 ((true = true) ∧
 ((true = true) ∧
 ((((0 : Int) ≤ r5.fst) ∧
 (r5.fst < (((List.length ((-1 : Int) :: ((256 : Int) :: ((IntKind.wrap IntKind.i64 (r2.snd.snd.snd.have_ + (1 : Int))) :: ([] : (List Int)) : (List Int)) : (List Int)) : (List Int))) : Nat) : Int))) ∧
 ((true = true) ∧
 ((true = true) ∧
 ((true = true) ∧
 (K [(Arg.v true [(AC.d (D.i IntKind.i64 (at_i64 ((-1 : Int) :: ((256 : Int) :: ((IntKind.wrap IntKind.i64 (r2.snd.snd.snd.have_ + (1 : Int))) :: ([] : (List Int)) : (List Int)) : (List Int)) : (List Int)) (Int.toNat r5.fst)))), (AC.d (D.r RK.part r2.snd.snd.snd.queue)), (AC.d (D.i IntKind.i64 r2.snd.snd.snd.granted)), (AC.d (D.i IntKind.i64 r2.snd.snd.snd.sent)), (AC.d (D.b r2.snd.snd.snd.dead))])] [[(AC.d (D.r RK.u8 r5.snd.b)), (AC.d (D.i IntKind.i64 r5.snd.p))]]))))))))))))
 else
 (if ((r4.fst == (1 : Int)) = true) then
 (((true = true) ∧
 (((true = true) ∧
 ((true = true) ∧
 ((((Bytes r4.snd.b) ∧
 (((List.length r4.snd.b) ≤ (2000 : Nat)) ∧
 (((0 : Int) ≤ r4.snd.p) ∧
 (r4.snd.p ≤ (1000000000 : Int))))) ∧
 ((3 : Int) ≤ (1000000000 : Int))) ∧
 (∀ r5 : (Prod Int RdS),
 ((r5.snd = (RdS.mk r4.snd.b (r4.snd.p + (1 : Int)))) ∧ (((0 : Int) ≤ r5.fst) ∧ ((((1 : Int) ≤ (3 : Int)) → (r5.fst < (3 : Int))) ∧ (((3 : Int) < (1 : Int)) → (r5.fst = (0 : Int)))))) →
 (true = true) ∧
 ((true = true) ∧
 ((((0 : Int) ≤ r5.fst) ∧
 (r5.fst < (((List.length ((-1 : Int) :: ((10000 : Int) :: ((IntKind.wrap IntKind.i64 (r2.snd.snd.snd.sent + (1 : Int))) :: ([] : (List Int)) : (List Int)) : (List Int)) : (List Int))) : Nat) : Int))) ∧
 ((true = true) ∧
 ((true = true) ∧
 ((true = true) ∧
 (K [(Arg.v true [(AC.d (D.i IntKind.i64 r2.snd.snd.snd.have_)), (AC.d (D.r RK.part r2.snd.snd.snd.queue)), (AC.d (D.i IntKind.i64 r2.snd.snd.snd.granted)), (AC.d (D.i IntKind.i64 (at_i64 ((-1 : Int) :: ((10000 : Int) :: ((IntKind.wrap IntKind.i64 (r2.snd.snd.snd.sent + (1 : Int))) :: ([] : (List Int)) : (List Int)) : (List Int)) : (List Int)) (Int.toNat r5.fst)))), (AC.d (D.b r2.snd.snd.snd.dead))])] [[(AC.d (D.r RK.u8 r5.snd.b)), (AC.d (D.i IntKind.i64 r5.snd.p))]])))))))))) ∧
 ((true = true) ∧
 ((((Bytes r4.snd.b) ∧
 (((List.length r4.snd.b) ≤ (2000 : Nat)) ∧
 (((0 : Int) ≤ r4.snd.p) ∧
 (r4.snd.p ≤ (1000000000 : Int))))) ∧
 ((3 : Int) ≤ (1000000000 : Int))) ∧
 (∀ r5 : (Prod Int RdS),
 ((r5.snd = (RdS.mk r4.snd.b (r4.snd.p + (1 : Int)))) ∧ (((0 : Int) ≤ r5.fst) ∧ ((((1 : Int) ≤ (3 : Int)) → (r5.fst < (3 : Int))) ∧ (((3 : Int) < (1 : Int)) → (r5.fst = (0 : Int)))))) →
 (true = true) ∧
 ((true = true) ∧
 ((true = true) ∧
 ((((0 : Int) ≤ r5.fst) ∧
 (r5.fst < (((List.length ((-1 : Int) :: ((10000 : Int) :: ((IntKind.wrap IntKind.i64 (r2.snd.snd.snd.sent + (1 : Int))) :: ([] : (List Int)) : (List Int)) : (List Int)) : (List Int))) : Nat) : Int))) ∧
 ((true = true) ∧
 ((true = true) ∧
 ((true = true) ∧
 (K [(Arg.v true [(AC.d (D.i IntKind.i64 r2.snd.snd.snd.have_)), (AC.d (D.r RK.part r2.snd.snd.snd.queue)), (AC.d (D.i IntKind.i64 r2.snd.snd.snd.granted)), (AC.d (D.i IntKind.i64 (at_i64 ((-1 : Int) :: ((10000 : Int) :: ((IntKind.wrap IntKind.i64 (r2.snd.snd.snd.sent + (1 : Int))) :: ([] : (List Int)) : (List Int)) : (List Int)) : (List Int)) (Int.toNat r5.fst)))), (AC.d (D.b r2.snd.snd.snd.dead))])] [[(AC.d (D.r RK.u8 r5.snd.b)), (AC.d (D.i IntKind.i64 r5.snd.p))]])))))))))))) ∧
 ((true = true) ∧
 ((((Bytes r4.snd.b) ∧
 (((List.length r4.snd.b) ≤ (2000 : Nat)) ∧
 (((0 : Int) ≤ r4.snd.p) ∧
 (r4.snd.p ≤ (1000000000 : Int))))) ∧
 ((3 : Int) ≤ (1000000000 : Int))) ∧
 (∀ r5 : (Prod Int RdS),
 ((r5.snd = (RdS.mk r4.snd.b (r4.snd.p + (1 : Int)))) ∧ (((0 : Int) ≤ r5.fst) ∧ ((((1 : Int) ≤ (3 : Int)) → (r5.fst < (3 : Int))) ∧ (((3 : Int) < (1 : Int)) → (r5.fst = (0 : Int)))))) →
 (true = true) ∧
 ((true = true) ∧
 ((true = true) ∧
 ((true = true) ∧
 ((((0 : Int) ≤ r5.fst) ∧
 (r5.fst < (((List.length ((-1 : Int) :: ((10000 : Int) :: ((IntKind.wrap IntKind.i64 (r2.snd.snd.snd.sent + (1 : Int))) :: ([] : (List Int)) : (List Int)) : (List Int)) : (List Int))) : Nat) : Int))) ∧
 ((true = true) ∧
 ((true = true) ∧
 ((true = true) ∧
 (K [(Arg.v true [(AC.d (D.i IntKind.i64 r2.snd.snd.snd.have_)), (AC.d (D.r RK.part r2.snd.snd.snd.queue)), (AC.d (D.i IntKind.i64 r2.snd.snd.snd.granted)), (AC.d (D.i IntKind.i64 (at_i64 ((-1 : Int) :: ((10000 : Int) :: ((IntKind.wrap IntKind.i64 (r2.snd.snd.snd.sent + (1 : Int))) :: ([] : (List Int)) : (List Int)) : (List Int)) : (List Int)) (Int.toNat r5.fst)))), (AC.d (D.b r2.snd.snd.snd.dead))])] [[(AC.d (D.r RK.u8 r5.snd.b)), (AC.d (D.i IntKind.i64 r5.snd.p))]]))))))))))))
 else
 (if ((r4.fst == (2 : Int)) = true) then
 (((true = true) ∧
 (((true = true) ∧
 ((true = true) ∧
 ((((Bytes r4.snd.b) ∧
 (((List.length r4.snd.b) ≤ (2000 : Nat)) ∧
 (((0 : Int) ≤ r4.snd.p) ∧
 (r4.snd.p ≤ (45000000 : Int))))) ∧
 ((2 : Int) ≤ (1000 : Int))) ∧
 (∀ r5 : (Prod Part RdS),
 (((List.length r5.fst.data) ≤ (200 : Nat)) ∧ (RdOn r4.snd r5.snd (60 : Int))) →
 (true = true) ∧
 ((true = true) ∧
 ((((List.length r2.snd.snd.snd.queue) + (List.length (r5.fst :: ([] : (List Part)) : (List Part)))) ≤ (137438953472 : Nat)) ∧
 ((true = true) ∧
 ((true = true) ∧
 ((true = true) ∧
 ((true = true) ∧
 (K [(Arg.v true [(AC.d (D.i IntKind.i64 r2.snd.snd.snd.have_)), (AC.d (D.r RK.part (r2.snd.snd.snd.queue ++ (r5.fst :: ([] : (List Part)) : (List Part)) : (List Part)))), (AC.d (D.i IntKind.i64 r2.snd.snd.snd.granted)), (AC.d (D.i IntKind.i64 r2.snd.snd.snd.sent)), (AC.d (D.b r2.snd.snd.snd.dead))])] [[(AC.d (D.r RK.u8 r5.snd.b)), (AC.d (D.i IntKind.i64 r5.snd.p))]]))))))))))) ∧
 ((true = true) ∧
 ((((Bytes r4.snd.b) ∧
 (((List.length r4.snd.b) ≤ (2000 : Nat)) ∧
 (((0 : Int) ≤ r4.snd.p) ∧
 (r4.snd.p ≤ (45000000 : Int))))) ∧
 ((2 : Int) ≤ (1000 : Int))) ∧
 (∀ r5 : (Prod Part RdS),
 (((List.length r5.fst.data) ≤ (200 : Nat)) ∧ (RdOn r4.snd r5.snd (60 : Int))) →
 (true = true) ∧
 ((true = true) ∧
 ((true = true) ∧
 ((((List.length r2.snd.snd.snd.queue) + (List.length (r5.fst :: ([] : (List Part)) : (List Part)))) ≤ (137438953472 : Nat)) ∧
 ((true = true) ∧
 ((true = true) ∧
 ((true = true) ∧
 ((true = true) ∧
 (K [(Arg.v true [(AC.d (D.i IntKind.i64 r2.snd.snd.snd.have_)), (AC.d (D.r RK.part (r2.snd.snd.snd.queue ++ (r5.fst :: ([] : (List Part)) : (List Part)) : (List Part)))), (AC.d (D.i IntKind.i64 r2.snd.snd.snd.granted)), (AC.d (D.i IntKind.i64 r2.snd.snd.snd.sent)), (AC.d (D.b r2.snd.snd.snd.dead))])] [[(AC.d (D.r RK.u8 r5.snd.b)), (AC.d (D.i IntKind.i64 r5.snd.p))]]))))))))))))) ∧
 ((true = true) ∧
 ((((Bytes r4.snd.b) ∧
 (((List.length r4.snd.b) ≤ (2000 : Nat)) ∧
 (((0 : Int) ≤ r4.snd.p) ∧
 (r4.snd.p ≤ (45000000 : Int))))) ∧
 ((2 : Int) ≤ (1000 : Int))) ∧
 (∀ r5 : (Prod Part RdS),
 (((List.length r5.fst.data) ≤ (200 : Nat)) ∧ (RdOn r4.snd r5.snd (60 : Int))) →
 (true = true) ∧
 ((true = true) ∧
 ((true = true) ∧
 ((true = true) ∧
 ((((List.length r2.snd.snd.snd.queue) + (List.length (r5.fst :: ([] : (List Part)) : (List Part)))) ≤ (137438953472 : Nat)) ∧
 ((true = true) ∧
 ((true = true) ∧
 ((true = true) ∧
 ((true = true) ∧
 (K [(Arg.v true [(AC.d (D.i IntKind.i64 r2.snd.snd.snd.have_)), (AC.d (D.r RK.part (r2.snd.snd.snd.queue ++ (r5.fst :: ([] : (List Part)) : (List Part)) : (List Part)))), (AC.d (D.i IntKind.i64 r2.snd.snd.snd.granted)), (AC.d (D.i IntKind.i64 r2.snd.snd.snd.sent)), (AC.d (D.b r2.snd.snd.snd.dead))])] [[(AC.d (D.r RK.u8 r5.snd.b)), (AC.d (D.i IntKind.i64 r5.snd.p))]])))))))))))))
 else
 ((true = true) ∧
 ((((Bytes r4.snd.b) ∧
 (((List.length r4.snd.b) ≤ (2000 : Nat)) ∧
 (((0 : Int) ≤ r4.snd.p) ∧
 (r4.snd.p ≤ (1000000000 : Int))))) ∧
 ((2 : Int) ≤ (1000000000 : Int))) ∧
 (∀ r5 : (Prod Int RdS),
 ((r5.snd = (RdS.mk r4.snd.b (r4.snd.p + (1 : Int)))) ∧ (((0 : Int) ≤ r5.fst) ∧ ((((1 : Int) ≤ (2 : Int)) → (r5.fst < (2 : Int))) ∧ (((2 : Int) < (1 : Int)) → (r5.fst = (0 : Int)))))) →
 (true = true) ∧
 ((((0 : Int) ≤ r5.fst) ∧
 (r5.fst < (2 : Int))) ∧
 ((true = true) ∧
 (K [(Arg.v true [(AC.d (D.i IntKind.i64 r2.snd.snd.snd.have_)), (AC.d (D.r RK.part r2.snd.snd.snd.queue)), (AC.d (D.i IntKind.i64 (at_i64 ((-1 : Int) :: ((10000 : Int) :: ([] : (List Int)) : (List Int)) : (List Int)) (Int.toNat r5.fst)))), (AC.d (D.i IntKind.i64 r2.snd.snd.snd.sent)), (AC.d (D.b r2.snd.snd.snd.dead))])] [[(AC.d (D.r RK.u8 r5.snd.b)), (AC.d (D.i IntKind.i64 r5.snd.p))]]))))))))))))
 else
 ((true = true) ∧
 (K [(Arg.v true [(AC.d (D.i IntKind.i64 r2.snd.snd.snd.have_)), (AC.d (D.r RK.part r2.snd.snd.snd.queue)), (AC.d (D.i IntKind.i64 r2.snd.snd.snd.granted)), (AC.d (D.i IntKind.i64 r2.snd.snd.snd.sent)), (AC.d (D.b r2.snd.snd.snd.dead))])] [[(AC.d (D.r RK.u8 r3.snd.b)), (AC.d (D.i IntKind.i64 r3.snd.p))]])))))) ∧
 (∀ r2 : Empty,
 False →
 False)))))) := by
  obtain ⟨⟨g1, g2, g3, g4⟩, hm, c1, c2⟩ := hp
  repeat' first
    | exact rfl
    | exact True.intro
    | with_reducible apply And.intro
    | (with_reducible intro y_ hy_; subst y_)
    | with_reducible intro y_
    | (refine iteI (fun h => ?_) (fun h => ?_))
  all_goals try simp (disch := omega) only [wr] at *
  all_goals first
    | assumption
    | omega
    | (rename_i y0
       refine ⟨(⟨_, _⟩, c, m, zCt, _), rfl, ?_, ?_, fun _ h => h.elim⟩
       · dsimp only
         refine ⟨⟨?_, ?_, ?_, ?_⟩, c1, c2, rfl, ?_, ?_⟩
         all_goals grind
       · rintro ⟨r1, c1, m1, t1⟩ ⟨q1, q2, q3, q4, q5, q6⟩
         dsimp only at q1 q2 q3 q4 q5 q6 ⊢
         have q4 : r1.b = y0.snd.b := q4
         have q5 : y0.snd.p ≤ r1.p := q5
         have q6 : r1.p ≤ y0.snd.p + 80 * y0.fst := q6
         have q7 : ∀ p ∈ t1.queue, p.data.length ≤ 200 := fun p hp => Nat.le_trans (q3 p hp) (by decide)
         repeat' first
           | exact True.intro
           | exact rfl
           | with_reducible apply And.intro
           | with_reducible intro z_
           | (refine iteI (fun h => ?_) (fun h => ?_))
         all_goals first
           | assumption
           | omega
           | (generalize at_i64 _ _ = z
              first
              | exact hk ⟨z, t1.queue, _, _, _⟩ (Prod.snd _) ⟨Nat.le_trans q2 (by decide), q7, by grind [RdOn]⟩
              | exact hk ⟨_, t1.queue, z, _, _⟩ (Prod.snd _) ⟨Nat.le_trans q2 (by decide), q7, by grind [RdOn]⟩
              | exact hk ⟨_, t1.queue, _, z, _⟩ (Prod.snd _) ⟨Nat.le_trans q2 (by decide), q7, by grind [RdOn]⟩)
           | exact hk ⟨_, t1.queue, _, _, _⟩ (Prod.snd _) ⟨Nat.le_trans q2 (by decide), q7, by grind [RdOn]⟩
           | (refine hk ⟨_, t1.queue ++ [Prod.fst _], _, _, _⟩ (Prod.snd _) ⟨?_, ?_, ?_⟩
              · show (t1.queue ++ [_]).length ≤ 30
                rw [List.length_append]
                simp
                omega
              · intro p hp
                rcases List.mem_append.1 (show p ∈ t1.queue ++ [_] from hp) with hp | hp
                · exact q7 p hp
                · have hp2 := List.mem_singleton.1 hp
                  subst hp2
                  grind
              · grind [RdOn])
           | grind [RdOk, RdOn]
           | (trace_state; sorry))
theorem vL_spec_l20Ctx_0 (r0 : RdS) (c0 : Cfg) (m0 : Int) (t0 : CtS) (k0 : Int) (r : RdS) (c : Cfg) (m : Int) (t : CtS) (k : Int) (n : Nat) (hp : (fun (r : RdS) (c : Cfg) (m : Int) (t : CtS) (k : Int) => (RdOk r 40000100 ∧ 0 ≤ c.mtu ∧ c.mtu ≤ 25 ∧ t.queue = [] ∧ 0 ≤ k ∧ k ≤ 15)) r0 c0 m0 t0 k0) (hi : c = c0 ∧ m = m0 ∧ t.queue.length ≤ 24 ∧ (∀ p ∈ t.queue, p.data.length ≤ 24) ∧ (n : Int) = k ∧ RdOk r0 40000100 ∧ RdOn r0 r (80 * (k0 - k)) ∧ k ≤ k0 ∧ k0 ≤ 15) :
 if ((decide (k > (0 : Int))) = true) then
 ((true = true) ∧
 ((((Bytes r.b) ∧
 (((List.length r.b) ≤ (2000 : Nat)) ∧
 (((0 : Int) ≤ r.p) ∧
 (r.p ≤ (1000000000 : Int))))) ∧
 ((4 : Int) ≤ (1000000000 : Int))) ∧
 (∀ r1 : (Prod Int RdS),
 ((r1.snd = (RdS.mk r.b (r.p + (1 : Int)))) ∧ (((0 : Int) ≤ r1.fst) ∧ ((((1 : Int) ≤ (4 : Int)) → (r1.fst < (4 : Int))) ∧ (((4 : Int) < (1 : Int)) → (r1.fst = (0 : Int)))))) →
 (true = true) ∧
 (if ((r1.fst == (0 : Int)) = true) then
 (if ((r1.fst == (0 : Int)) = true) then
 (((true = true) ∧
 ((true = true) ∧
 ((((Bytes r1.snd.b) ∧
 (((List.length r1.snd.b) ≤ (2000 : Nat)) ∧
 (((0 : Int) ≤ r1.snd.p) ∧
 (r1.snd.p ≤ (100000000 : Int))))) ∧
 (((0 : Int) ≤ c.mtu) ∧
 (c.mtu ≤ (900 : Int)))) ∧
 (∀ r2 : (Prod (List Int) RdS),
 ((Bytes r2.fst) ∧ (((((List.length r2.fst) : Nat) : Int) ≤ c.mtu) ∧ (RdOn r1.snd r2.snd ((1 : Int) + ((3 : Int) * c.mtu))))) →
 (true = true) ∧
 ((true = true) ∧
 ((true = true) ∧
 (((List.length r2.fst) ≤ (1000 : Nat)) ∧
 (∀ r3 : CtPutR,
 (r3 = (crdPut c (CtS.mk t.have_ t.queue t.granted t.sent t.dead) r2.fst)) →
 (true = true) ∧
 ((true = true) ∧
 ((true = true) ∧
 (∃ s : (Prod RdS (Prod Cfg (Prod Int (Prod CtS Int)))),
 ((KS.mk true [(Prod.mk (0 : Nat) (T.pb (0 : Nat) (0 : Nat) (0 : Nat))), (Prod.mk (2 : Nat) (num IntKind.i64 m)), (Prod.mk (4 : Nat) (T.pb (1 : Nat) (1 : Nat) (0 : Nat))), (Prod.mk (6 : Nat) (T.pb (2 : Nat) (1 : Nat) (0 : Nat))), (Prod.mk (7 : Nat) (T.pb (3 : Nat) (1 : Nat) (0 : Nat))), (Prod.mk (8 : Nat) (num IntKind.i64 (IntKind.wrap IntKind.i64 (k - (1 : Int)))))] [(Row.mk (0 : Nat) (Option.some (RC.mk (82 : Nat) RK.part r3.t.queue)))] [(Box.mk (Min.min (0 : Nat) (1 : Nat)) (Option.some [(Cm.d (D.r RK.u8 r2.snd.b)), (Cm.d (D.i IntKind.i64 r2.snd.p))])), (Box.mk (Min.min (1 : Nat) (1 : Nat)) (Option.some [(Cm.d (D.i IntKind.i64 c.mode)), (Cm.d (D.i IntKind.i64 c.win)), (Cm.d (D.i IntKind.i64 c.mps)), (Cm.d (D.i IntKind.i64 c.mtu)), (Cm.d (D.i IntKind.i64 c.try_))])), (Box.mk (1 : Nat) (Option.some [(Cm.d (D.i IntKind.i64 (0 : Int))), (Cm.d (D.r RK.part ([] : (List Part)))), (Cm.d (D.i IntKind.i64 (0 : Int))), (Cm.d (D.i IntKind.i64 (0 : Int))), (Cm.d (D.b false))])), (Box.mk (Min.min (1 : Nat) (1 : Nat)) (Option.some [(Cm.d (D.i IntKind.i64 r3.t.have_)), (Cm.ref (0 : Nat) (0 : Nat)), (Cm.d (D.i IntKind.i64 r3.t.granted)), (Cm.d (D.i IntKind.i64 r3.t.sent)), (Cm.d (D.b r3.t.dead))]))]) = (KS.mk true [(Prod.mk (0 : Nat) (T.pb (0 : Nat) (0 : Nat) (0 : Nat))), (Prod.mk (2 : Nat) (num IntKind.i64 s.snd.snd.fst)), (Prod.mk (4 : Nat) (T.pb (1 : Nat) (1 : Nat) (0 : Nat))), (Prod.mk (6 : Nat) (T.pb (2 : Nat) (1 : Nat) (0 : Nat))), (Prod.mk (7 : Nat) (T.pb (3 : Nat) (1 : Nat) (0 : Nat))), (Prod.mk (8 : Nat) (num IntKind.i64 s.snd.snd.snd.snd))] [(Row.mk (0 : Nat) (Option.some (RC.mk (82 : Nat) RK.part s.snd.snd.snd.fst.queue)))] [(Box.mk (0 : Nat) (Option.some [(Cm.d (D.r RK.u8 s.fst.b)), (Cm.d (D.i IntKind.i64 s.fst.p))])), (Box.mk (1 : Nat) (Option.some [(Cm.d (D.i IntKind.i64 s.snd.fst.mode)), (Cm.d (D.i IntKind.i64 s.snd.fst.win)), (Cm.d (D.i IntKind.i64 s.snd.fst.mps)), (Cm.d (D.i IntKind.i64 s.snd.fst.mtu)), (Cm.d (D.i IntKind.i64 s.snd.fst.try_))])), (Box.mk (1 : Nat) (Option.some [(Cm.d (D.i IntKind.i64 (0 : Int))), (Cm.d (D.r RK.part ([] : (List Part)))), (Cm.d (D.i IntKind.i64 (0 : Int))), (Cm.d (D.i IntKind.i64 (0 : Int))), (Cm.d (D.b false))])), (Box.mk (1 : Nat) (Option.some [(Cm.d (D.i IntKind.i64 s.snd.snd.snd.fst.have_)), (Cm.ref (0 : Nat) (0 : Nat)), (Cm.d (D.i IntKind.i64 s.snd.snd.snd.fst.granted)), (Cm.d (D.i IntKind.i64 s.snd.snd.snd.fst.sent)), (Cm.d (D.b s.snd.snd.snd.fst.dead))]))])) ∧
 (∃ m1 : Nat,
 (m1 < n) ∧
 ((s.snd.fst = c0) ∧
 ((s.snd.snd.fst = m0) ∧
 (((List.length s.snd.snd.snd.fst.queue) ≤ (24 : Nat)) ∧
 ((∀ p : Part,
 (List.Mem p s.snd.snd.snd.fst.queue) →
 ((List.length p.data) ≤ (24 : Nat))) ∧
 ((((m1 : Nat) : Int) = s.snd.snd.snd.snd) ∧
 (((Bytes r0.b) ∧
 (((List.length r0.b) ≤ (2000 : Nat)) ∧
 (((0 : Int) ≤ r0.p) ∧
 (r0.p ≤ (40000100 : Int))))) ∧
 (((s.fst.b = r0.b) ∧
 ((r0.p ≤ s.fst.p) ∧
 (s.fst.p ≤ (r0.p + ((80 : Int) * (k0 - s.snd.snd.snd.snd)))))) ∧
 ((s.snd.snd.snd.snd ≤ k0) ∧
 (k0 ≤ (15 : Int)))))))))))))))))))))) ∧
 ((true = true) ∧
 ((((Bytes r1.snd.b) ∧
 (((List.length r1.snd.b) ≤ (2000 : Nat)) ∧
 (((0 : Int) ≤ r1.snd.p) ∧
 (r1.snd.p ≤ (100000000 : Int))))) ∧
 (((0 : Int) ≤ c.mtu) ∧
 (c.mtu ≤ (900 : Int)))) ∧
 (∀ r2 : (Prod (List Int) RdS),
 ((Bytes r2.fst) ∧ (((((List.length r2.fst) : Nat) : Int) ≤ c.mtu) ∧ (RdOn r1.snd r2.snd ((1 : Int) + ((3 : Int) * c.mtu))))) →
 (true = true) ∧
 ((true = true) ∧
 ((true = true) ∧
 ((true = true) ∧
 (((List.length r2.fst) ≤ (1000 : Nat)) ∧
 (∀ r3 : CtPutR,
 (r3 = (crdPut c (CtS.mk t.have_ t.queue t.granted t.sent t.dead) r2.fst)) →
 (true = true) ∧
 ((true = true) ∧
 ((true = true) ∧
 (∃ s : (Prod RdS (Prod Cfg (Prod Int (Prod CtS Int)))),
 ((KS.mk true [(Prod.mk (0 : Nat) (T.pb (0 : Nat) (0 : Nat) (0 : Nat))), (Prod.mk (2 : Nat) (num IntKind.i64 m)), (Prod.mk (4 : Nat) (T.pb (1 : Nat) (1 : Nat) (0 : Nat))), (Prod.mk (6 : Nat) (T.pb (2 : Nat) (1 : Nat) (0 : Nat))), (Prod.mk (7 : Nat) (T.pb (3 : Nat) (1 : Nat) (0 : Nat))), (Prod.mk (8 : Nat) (num IntKind.i64 (IntKind.wrap IntKind.i64 (k - (1 : Int)))))] [(Row.mk (0 : Nat) (Option.some (RC.mk (82 : Nat) RK.part r3.t.queue)))] [(Box.mk (Min.min (0 : Nat) (1 : Nat)) (Option.some [(Cm.d (D.r RK.u8 r2.snd.b)), (Cm.d (D.i IntKind.i64 r2.snd.p))])), (Box.mk (Min.min (1 : Nat) (1 : Nat)) (Option.some [(Cm.d (D.i IntKind.i64 c.mode)), (Cm.d (D.i IntKind.i64 c.win)), (Cm.d (D.i IntKind.i64 c.mps)), (Cm.d (D.i IntKind.i64 c.mtu)), (Cm.d (D.i IntKind.i64 c.try_))])), (Box.mk (1 : Nat) (Option.some [(Cm.d (D.i IntKind.i64 (0 : Int))), (Cm.d (D.r RK.part ([] : (List Part)))), (Cm.d (D.i IntKind.i64 (0 : Int))), (Cm.d (D.i IntKind.i64 (0 : Int))), (Cm.d (D.b false))])), (Box.mk (Min.min (1 : Nat) (1 : Nat)) (Option.some [(Cm.d (D.i IntKind.i64 r3.t.have_)), (Cm.ref (0 : Nat) (0 : Nat)), (Cm.d (D.i IntKind.i64 r3.t.granted)), (Cm.d (D.i IntKind.i64 r3.t.sent)), (Cm.d (D.b r3.t.dead))]))]) = (KS.mk true [(Prod.mk (0 : Nat) (T.pb (0 : Nat) (0 : Nat) (0 : Nat))), (Prod.mk (2 : Nat) (num IntKind.i64 s.snd.snd.fst)), (Prod.mk (4 : Nat) (T.pb (1 : Nat) (1 : Nat) (0 : Nat))), (Prod.mk (6 : Nat) (T.pb (2 : Nat) (1 : Nat) (0 : Nat))), (Prod.mk (7 : Nat) (T.pb (3 : Nat) (1 : Nat) (0 : Nat))), (Prod.mk (8 : Nat) (num IntKind.i64 s.snd.snd.snd.snd))] [(Row.mk (0 : Nat) (Option.some (RC.mk (82 : Nat) RK.part s.snd.snd.snd.fst.queue)))] [(Box.mk (0 : Nat) (Option.some [(Cm.d (D.r RK.u8 s.fst.b)), (Cm.d (D.i IntKind.i64 s.fst.p))])), (Box.mk (1 : Nat) (Option.some [(Cm.d (D.i IntKind.i64 s.snd.fst.mode)), (Cm.d (D.i IntKind.i64 s.snd.fst.win)), (Cm.d (D.i IntKind.i64 s.snd.fst.mps)), (Cm.d (D.i IntKind.i64 s.snd.fst.mtu)), (Cm.d (D.i IntKind.i64 s.snd.fst.try_))])), (Box.mk (1 : Nat) (Option.some [(Cm.d (D.i IntKind.i64 (0 : Int))), (Cm.d (D.r RK.part ([] : (List Part)))), (Cm.d (D.i IntKind.i64 (0 : Int))), (Cm.d (D.i IntKind.i64 (0 : Int))), (Cm.d (D.b false))])), (Box.mk (1 : Nat) (Option.some [(Cm.d (D.i IntKind.i64 s.snd.snd.snd.fst.have_)), (Cm.ref (0 : Nat) (0 : Nat)), (Cm.d (D.i IntKind.i64 s.snd.snd.snd.fst.granted)), (Cm.d (D.i IntKind.i64 s.snd.snd.snd.fst.sent)), (Cm.d (D.b s.snd.snd.snd.fst.dead))]))])) ∧
 (∃ m1 : Nat,
 (m1 < n) ∧
 ((s.snd.fst = c0) ∧
 ((s.snd.snd.fst = m0) ∧
 (((List.length s.snd.snd.snd.fst.queue) ≤ (24 : Nat)) ∧
 ((∀ p : Part,
 (List.Mem p s.snd.snd.snd.fst.queue) →
 ((List.length p.data) ≤ (24 : Nat))) ∧
 ((((m1 : Nat) : Int) = s.snd.snd.snd.snd) ∧
 (((Bytes r0.b) ∧
 (((List.length r0.b) ≤ (2000 : Nat)) ∧
 (((0 : Int) ≤ r0.p) ∧
 (r0.p ≤ (40000100 : Int))))) ∧
 (((s.fst.b = r0.b) ∧
 ((r0.p ≤ s.fst.p) ∧
 (s.fst.p ≤ (r0.p + ((80 : Int) * (k0 - s.snd.snd.snd.snd)))))) ∧
 ((s.snd.snd.snd.snd ≤ k0) ∧
 (k0 ≤ (15 : Int)))))))))))))))))))))))
 else
 (if ((r1.fst == (2 : Int)) = true) then
 (((true = true) ∧
 ((true = true) ∧
 ((((Bytes r1.snd.b) ∧
 (((List.length r1.snd.b) ≤ (2000 : Nat)) ∧
 (((0 : Int) ≤ r1.snd.p) ∧
 (r1.snd.p ≤ (1000000000 : Int))))) ∧
 ((6 : Int) ≤ (1000000000 : Int))) ∧
 (∀ r2 : (Prod Int RdS),
 ((r2.snd = (RdS.mk r1.snd.b (r1.snd.p + (1 : Int)))) ∧ (((0 : Int) ≤ r2.fst) ∧ ((((1 : Int) ≤ (6 : Int)) → (r2.fst < (6 : Int))) ∧ (((6 : Int) < (1 : Int)) → (r2.fst = (0 : Int)))))) →
 (true = true) ∧
 ((true = true) ∧
 ((true = true) ∧
 ((((Bytes r2.snd.b) ∧
 (((List.length r2.snd.b) ≤ (2000 : Nat)) ∧
 (((0 : Int) ≤ r2.snd.p) ∧
 (r2.snd.p ≤ (1000000000 : Int))))) ∧
 ((250 : Int) ≤ (1000000000 : Int))) ∧
 (∀ r3 : (Prod Int RdS),
 ((r3.snd = (RdS.mk r2.snd.b (r2.snd.p + (1 : Int)))) ∧ (((0 : Int) ≤ r3.fst) ∧ ((((1 : Int) ≤ (250 : Int)) → (r3.fst < (250 : Int))) ∧ (((250 : Int) < (1 : Int)) → (r3.fst = (0 : Int)))))) →
 (true = true) ∧
 ((true = true) ∧
 ((true = true) ∧
 ((((Bytes r3.snd.b) ∧
 (((List.length r3.snd.b) ≤ (2000 : Nat)) ∧
 (((0 : Int) ≤ r3.snd.p) ∧
 (r3.snd.p ≤ (1000000000 : Int))))) ∧
 ((2 : Int) ≤ (1000000000 : Int))) ∧
 (∀ r4 : (Prod Int RdS),
 ((r4.snd = (RdS.mk r3.snd.b (r3.snd.p + (1 : Int)))) ∧ (((0 : Int) ≤ r4.fst) ∧ ((((1 : Int) ≤ (2 : Int)) → (r4.fst < (2 : Int))) ∧ (((2 : Int) < (1 : Int)) → (r4.fst = (0 : Int)))))) →
 (true = true) ∧
 ((true = true) ∧
 ((((0 : Int) ≤ r4.fst) ∧
 (r4.fst < (((List.length ((IntKind.wrap IntKind.i64 ((1 : Int) + r2.fst)) :: ((IntKind.wrap IntKind.i64 ((1 : Int) + r3.fst)) :: ([] : (List Int)) : (List Int)) : (List Int))) : Nat) : Int))) ∧
 ((true = true) ∧
 (True ∧
 (∀ r5 : CtS,
 (r5 = (crdTake c (CtS.mk t.have_ t.queue t.granted t.sent t.dead) (at_i64 ((IntKind.wrap IntKind.i64 ((1 : Int) + r2.fst)) :: ((IntKind.wrap IntKind.i64 ((1 : Int) + r3.fst)) :: ([] : (List Int)) : (List Int)) : (List Int)) (Int.toNat r4.fst)))) →
 (true = true) ∧
 ((true = true) ∧
 ((true = true) ∧
 (∃ s : (Prod RdS (Prod Cfg (Prod Int (Prod CtS Int)))),
 ((KS.mk true [(Prod.mk (0 : Nat) (T.pb (0 : Nat) (0 : Nat) (0 : Nat))), (Prod.mk (2 : Nat) (num IntKind.i64 m)), (Prod.mk (4 : Nat) (T.pb (1 : Nat) (1 : Nat) (0 : Nat))), (Prod.mk (6 : Nat) (T.pb (2 : Nat) (1 : Nat) (0 : Nat))), (Prod.mk (7 : Nat) (T.pb (3 : Nat) (1 : Nat) (0 : Nat))), (Prod.mk (8 : Nat) (num IntKind.i64 (IntKind.wrap IntKind.i64 (k - (1 : Int)))))] [(Row.mk (0 : Nat) (Option.some (RC.mk (82 : Nat) RK.part r5.queue)))] [(Box.mk (Min.min (0 : Nat) (1 : Nat)) (Option.some [(Cm.d (D.r RK.u8 r4.snd.b)), (Cm.d (D.i IntKind.i64 r4.snd.p))])), (Box.mk (Min.min (1 : Nat) (1 : Nat)) (Option.some [(Cm.d (D.i IntKind.i64 c.mode)), (Cm.d (D.i IntKind.i64 c.win)), (Cm.d (D.i IntKind.i64 c.mps)), (Cm.d (D.i IntKind.i64 c.mtu)), (Cm.d (D.i IntKind.i64 c.try_))])), (Box.mk (1 : Nat) (Option.some [(Cm.d (D.i IntKind.i64 (0 : Int))), (Cm.d (D.r RK.part ([] : (List Part)))), (Cm.d (D.i IntKind.i64 (0 : Int))), (Cm.d (D.i IntKind.i64 (0 : Int))), (Cm.d (D.b false))])), (Box.mk (Min.min (1 : Nat) (1 : Nat)) (Option.some [(Cm.d (D.i IntKind.i64 r5.have_)), (Cm.ref (0 : Nat) (0 : Nat)), (Cm.d (D.i IntKind.i64 r5.granted)), (Cm.d (D.i IntKind.i64 r5.sent)), (Cm.d (D.b r5.dead))]))]) = (KS.mk true [(Prod.mk (0 : Nat) (T.pb (0 : Nat) (0 : Nat) (0 : Nat))), (Prod.mk (2 : Nat) (num IntKind.i64 s.snd.snd.fst)), (Prod.mk (4 : Nat) (T.pb (1 : Nat) (1 : Nat) (0 : Nat))), (Prod.mk (6 : Nat) (T.pb (2 : Nat) (1 : Nat) (0 : Nat))), (Prod.mk (7 : Nat) (T.pb (3 : Nat) (1 : Nat) (0 : Nat))), (Prod.mk (8 : Nat) (num IntKind.i64 s.snd.snd.snd.snd))] [(Row.mk (0 : Nat) (Option.some (RC.mk (82 : Nat) RK.part s.snd.snd.snd.fst.queue)))] [(Box.mk (0 : Nat) (Option.some [(Cm.d (D.r RK.u8 s.fst.b)), (Cm.d (D.i IntKind.i64 s.fst.p))])), (Box.mk (1 : Nat) (Option.some [(Cm.d (D.i IntKind.i64 s.snd.fst.mode)), (Cm.d (D.i IntKind.i64 s.snd.fst.win)), (Cm.d (D.i IntKind.i64 s.snd.fst.mps)), (Cm.d (D.i IntKind.i64 s.snd.fst.mtu)), (Cm.d (D.i IntKind.i64 s.snd.fst.try_))])), (Box.mk (1 : Nat) (Option.some [(Cm.d (D.i IntKind.i64 (0 : Int))), (Cm.d (D.r RK.part ([] : (List Part)))), (Cm.d (D.i IntKind.i64 (0 : Int))), (Cm.d (D.i IntKind.i64 (0 : Int))), (Cm.d (D.b false))])), (Box.mk (1 : Nat) (Option.some [(Cm.d (D.i IntKind.i64 s.snd.snd.snd.fst.have_)), (Cm.ref (0 : Nat) (0 : Nat)), (Cm.d (D.i IntKind.i64 s.snd.snd.snd.fst.granted)), (Cm.d (D.i IntKind.i64 s.snd.snd.snd.fst.sent)), (Cm.d (D.b s.snd.snd.snd.fst.dead))]))])) ∧
 (∃ m1 : Nat,
 (m1 < n) ∧
 ((s.snd.fst = c0) ∧
 ((s.snd.snd.fst = m0) ∧
 (((List.length s.snd.snd.snd.fst.queue) ≤ (24 : Nat)) ∧
 ((∀ p : Part,
 (List.Mem p s.snd.snd.snd.fst.queue) →
 ((List.length p.data) ≤ (24 : Nat))) ∧
 ((((m1 : Nat) : Int) = s.snd.snd.snd.snd) ∧
 (((Bytes r0.b) ∧
 (((List.length r0.b) ≤ (2000 : Nat)) ∧
 (((0 : Int) ≤ r0.p) ∧
 (r0.p ≤ (40000100 : Int))))) ∧
 (((s.fst.b = r0.b) ∧
 ((r0.p ≤ s.fst.p) ∧
 (s.fst.p ≤ (r0.p + ((80 : Int) * (k0 - s.snd.snd.snd.snd)))))) ∧
 ((s.snd.snd.snd.snd ≤ k0) ∧
 (k0 ≤ (15 : Int))))))))))))))))))))))))))))))) ∧
 ((true = true) ∧
 ((((Bytes r1.snd.b) ∧
 (((List.length r1.snd.b) ≤ (2000 : Nat)) ∧
 (((0 : Int) ≤ r1.snd.p) ∧
 (r1.snd.p ≤ (1000000000 : Int))))) ∧
 ((6 : Int) ≤ (1000000000 : Int))) ∧
 (∀ r2 : (Prod Int RdS),
 ((r2.snd = (RdS.mk r1.snd.b (r1.snd.p + (1 : Int)))) ∧ (((0 : Int) ≤ r2.fst) ∧ ((((1 : Int) ≤ (6 : Int)) → (r2.fst < (6 : Int))) ∧ (((6 : Int) < (1 : Int)) → (r2.fst = (0 : Int)))))) →
 (true = true) ∧
 ((true = true) ∧
 (((true = true) ∧
 ((true = true) ∧
 ((((Bytes r2.snd.b) ∧
 (((List.length r2.snd.b) ≤ (2000 : Nat)) ∧
 (((0 : Int) ≤ r2.snd.p) ∧
 (r2.snd.p ≤ (1000000000 : Int))))) ∧
 ((250 : Int) ≤ (1000000000 : Int))) ∧
 (∀ r3 : (Prod Int RdS),
 ((r3.snd = (RdS.mk r2.snd.b (r2.snd.p + (1 : Int)))) ∧ (((0 : Int) ≤ r3.fst) ∧ ((((1 : Int) ≤ (250 : Int)) → (r3.fst < (250 : Int))) ∧ (((250 : Int) < (1 : Int)) → (r3.fst = (0 : Int)))))) →
 (true = true) ∧
 ((true = true) ∧
 ((true = true) ∧
 ((((Bytes r3.snd.b) ∧
 (((List.length r3.snd.b) ≤ (2000 : Nat)) ∧
 (((0 : Int) ≤ r3.snd.p) ∧
 (r3.snd.p ≤ (1000000000 : Int))))) ∧
 ((2 : Int) ≤ (1000000000 : Int))) ∧
 (∀ r4 : (Prod Int RdS),
 ((r4.snd = (RdS.mk r3.snd.b (r3.snd.p + (1 : Int)))) ∧ (((0 : Int) ≤ r4.fst) ∧ ((((1 : Int) ≤ (2 : Int)) → (r4.fst < (2 : Int))) ∧ (((2 : Int) < (1 : Int)) → (r4.fst = (0 : Int)))))) →
 (true = true) ∧
 ((true = true) ∧
 ((((0 : Int) ≤ r4.fst) ∧
 (r4.fst < (((List.length ((IntKind.wrap IntKind.i64 ((1 : Int) + r2.fst)) :: ((IntKind.wrap IntKind.i64 ((1 : Int) + r3.fst)) :: ([] : (List Int)) : (List Int)) : (List Int))) : Nat) : Int))) ∧
 ((true = true) ∧
 (True ∧
 (∀ r5 : CtS,
 (r5 = (crdTake c (CtS.mk t.have_ t.queue t.granted t.sent t.dead) (at_i64 ((IntKind.wrap IntKind.i64 ((1 : Int) + r2.fst)) :: ((IntKind.wrap IntKind.i64 ((1 : Int) + r3.fst)) :: ([] : (List Int)) : (List Int)) : (List Int)) (Int.toNat r4.fst)))) →
 (true = true) ∧
 ((true = true) ∧
 ((true = true) ∧
 (∃ s : (Prod RdS (Prod Cfg (Prod Int (Prod CtS Int)))),
 ((KS.mk true [(Prod.mk (0 : Nat) (T.pb (0 : Nat) (0 : Nat) (0 : Nat))), (Prod.mk (2 : Nat) (num IntKind.i64 m)), (Prod.mk (4 : Nat) (T.pb (1 : Nat) (1 : Nat) (0 : Nat))), (Prod.mk (6 : Nat) (T.pb (2 : Nat) (1 : Nat) (0 : Nat))), (Prod.mk (7 : Nat) (T.pb (3 : Nat) (1 : Nat) (0 : Nat))), (Prod.mk (8 : Nat) (num IntKind.i64 (IntKind.wrap IntKind.i64 (k - (1 : Int)))))] [(Row.mk (0 : Nat) (Option.some (RC.mk (82 : Nat) RK.part r5.queue)))] [(Box.mk (Min.min (0 : Nat) (1 : Nat)) (Option.some [(Cm.d (D.r RK.u8 r4.snd.b)), (Cm.d (D.i IntKind.i64 r4.snd.p))])), (Box.mk (Min.min (1 : Nat) (1 : Nat)) (Option.some [(Cm.d (D.i IntKind.i64 c.mode)), (Cm.d (D.i IntKind.i64 c.win)), (Cm.d (D.i IntKind.i64 c.mps)), (Cm.d (D.i IntKind.i64 c.mtu)), (Cm.d (D.i IntKind.i64 c.try_))])), (Box.mk (1 : Nat) (Option.some [(Cm.d (D.i IntKind.i64 (0 : Int))), (Cm.d (D.r RK.part ([] : (List Part)))), (Cm.d (D.i IntKind.i64 (0 : Int))), (Cm.d (D.i IntKind.i64 (0 : Int))), (Cm.d (D.b false))])), (Box.mk (Min.min (1 : Nat) (1 : Nat)) (Option.some [(Cm.d (D.i IntKind.i64 r5.have_)), (Cm.ref (0 : Nat) (0 : Nat)), (Cm.d (D.i IntKind.i64 r5.granted)), (Cm.d (D.i IntKind.i64 r5.sent)), (Cm.d (D.b r5.dead))]))]) = (KS.mk true [(Prod.mk (0 : Nat) (T.pb (0 : Nat) (0 : Nat) (0 : Nat))), (Prod.mk (2 : Nat) (num IntKind.i64 s.snd.snd.fst)), (Prod.mk (4 : Nat) (T.pb (1 : Nat) (1 : Nat) (0 : Nat))), (Prod.mk (6 : Nat) (T.pb (2 : Nat) (1 : Nat) (0 : Nat))), (Prod.mk (7 : Nat) (T.pb (3 : Nat) (1 : Nat) (0 : Nat))), (Prod.mk (8 : Nat) (num IntKind.i64 s.snd.snd.snd.snd))] [(Row.mk (0 : Nat) (Option.some (RC.mk (82 : Nat) RK.part s.snd.snd.snd.fst.queue)))] [(Box.mk (0 : Nat) (Option.some [(Cm.d (D.r RK.u8 s.fst.b)), (Cm.d (D.i IntKind.i64 s.fst.p))])), (Box.mk (1 : Nat) (Option.some [(Cm.d (D.i IntKind.i64 s.snd.fst.mode)), (Cm.d (D.i IntKind.i64 s.snd.fst.win)), (Cm.d (D.i IntKind.i64 s.snd.fst.mps)), (Cm.d (D.i IntKind.i64 s.snd.fst.mtu)), (Cm.d (D.i IntKind.i64 s.snd.fst.try_))])), (Box.mk (1 : Nat) (Option.some [(Cm.d (D.i IntKind.i64 (0 : Int))), (Cm.d (D.r RK.part ([] : (List Part)))), (Cm.d (D.i IntKind.i64 (0 : Int))), (Cm.d (D.i IntKind.i64 (0 : Int))), (Cm.d (D.b false))])), (Box.mk (1 : Nat) (Option.some [(Cm.d (D.i IntKind.i64 s.snd.snd.snd.fst.have_)), (Cm.ref (0 : Nat) (0 : Nat)), (Cm.d (D.i IntKind.i64 s.snd.snd.snd.fst.granted)), (Cm.d (D.i IntKind.i64 s.snd.snd.snd.fst.sent)), (Cm.d (D.b s.snd.snd.snd.fst.dead))]))])) ∧
 (∃ m1 : Nat,
 (m1 < n) ∧
 ((s.snd.fst = c0) ∧
 ((s.snd.snd.fst = m0) ∧
 (((List.length s.snd.snd.snd.fst.queue) ≤ (24 : Nat)) ∧
 ((∀ p : Part,
 (List.Mem p s.snd.snd.snd.fst.queue) →
 ((List.length p.data) ≤ (24 : Nat))) ∧
 ((((m1 : Nat) : Int) = s.snd.snd.snd.snd) ∧
 (((Bytes r0.b) ∧
 (((List.length r0.b) ≤ (2000 : Nat)) ∧
 (((0 : Int) ≤ r0.p) ∧
 (r0.p ≤ (40000100 : Int))))) ∧
 (((s.fst.b = r0.b) ∧
 ((r0.p ≤ s.fst.p) ∧
 (s.fst.p ≤ (r0.p + ((80 : Int) * (k0 - s.snd.snd.snd.snd)))))) ∧
 ((s.snd.snd.snd.snd ≤ k0) ∧
 (k0 ≤ (15 : Int))))))))))))))))))))))))))) ∧
 ((true = true) ∧
 ((((Bytes r2.snd.b) ∧
 (((List.length r2.snd.b) ≤ (2000 : Nat)) ∧
 (((0 : Int) ≤ r2.snd.p) ∧
 (r2.snd.p ≤ (1000000000 : Int))))) ∧
 ((250 : Int) ≤ (1000000000 : Int))) ∧
 (∀ r3 : (Prod Int RdS),
 ((r3.snd = (RdS.mk r2.snd.b (r2.snd.p + (1 : Int)))) ∧ (((0 : Int) ≤ r3.fst) ∧ ((((1 : Int) ≤ (250 : Int)) → (r3.fst < (250 : Int))) ∧ (((250 : Int) < (1 : Int)) → (r3.fst = (0 : Int)))))) →
 (true = true) ∧
 ((true = true) ∧
 (((true = true) ∧
 ((true = true) ∧
 ((((Bytes r3.snd.b) ∧
 (((List.length r3.snd.b) ≤ (2000 : Nat)) ∧
 (((0 : Int) ≤ r3.snd.p) ∧
 (r3.snd.p ≤ (1000000000 : Int))))) ∧
 ((2 : Int) ≤ (1000000000 : Int))) ∧
 (∀ r4 : (Prod Int RdS),
 ((r4.snd = (RdS.mk r3.snd.b (r3.snd.p + (1 : Int)))) ∧ (((0 : Int) ≤ r4.fst) ∧ ((((1 : Int) ≤ (2 : Int)) → (r4.fst < (2 : Int))) ∧ (((2 : Int) < (1 : Int)) → (r4.fst = (0 : Int)))))) →
 (true = true) ∧
 ((true = true) ∧
 ((((0 : Int) ≤ r4.fst) ∧
 (r4.fst < (((List.length ((IntKind.wrap IntKind.i64 ((1 : Int) + r2.fst)) :: ((IntKind.wrap IntKind.i64 ((1 : Int) + r3.fst)) :: ([] : (List Int)) : (List Int)) : (List Int))) : Nat) : Int))) ∧
 ((true = true) ∧
 (True ∧
 (∀ r5 : CtS,
 (r5 = (crdTake c (CtS.mk t.have_ t.queue t.granted t.sent t.dead) (at_i64 ((IntKind.wrap IntKind.i64 ((1 : Int) + r2.fst)) :: ((IntKind.wrap IntKind.i64 ((1 : Int) + r3.fst)) :: ([] : (List Int)) : (List Int)) : (List Int)) (Int.toNat r4.fst)))) →
 (true = true) ∧
 ((true = true) ∧
 ((true = true) ∧
 (∃ s : (Prod RdS (Prod Cfg (Prod Int (Prod CtS Int)))),
 ((KS.mk true [(Prod.mk (0 : Nat) (T.pb (0 : Nat) (0 : Nat) (0 : Nat))), (Prod.mk (2 : Nat) (num IntKind.i64 m)), (Prod.mk (4 : Nat) (T.pb (1 : Nat) (1 : Nat) (0 : Nat))), (Prod.mk (6 : Nat) (T.pb (2 : Nat) (1 : Nat) (0 : Nat))), (Prod.mk (7 : Nat) (T.pb (3 : Nat) (1 : Nat) (0 : Nat))), (Prod.mk (8 : Nat) (num IntKind.i64 (IntKind.wrap IntKind.i64 (k - (1 : Int)))))] [(Row.mk (0 : Nat) (Option.some (RC.mk (82 : Nat) RK.part r5.queue)))] [(Box.mk (Min.min (0 : Nat) (1 : Nat)) (Option.some [(Cm.d (D.r RK.u8 r4.snd.b)), (Cm.d (D.i IntKind.i64 r4.snd.p))])), (Box.mk (Min.min (1 : Nat) (1 : Nat)) (Option.some [(Cm.d (D.i IntKind.i64 c.mode)), (Cm.d (D.i IntKind.i64 c.win)), (Cm.d (D.i IntKind.i64 c.mps)), (Cm.d (D.i IntKind.i64 c.mtu)), (Cm.d (D.i IntKind.i64 c.try_))])), (Box.mk (1 : Nat) (Option.some [(Cm.d (D.i IntKind.i64 (0 : Int))), (Cm.d (D.r RK.part ([] : (List Part)))), (Cm.d (D.i IntKind.i64 (0 : Int))), (Cm.d (D.i IntKind.i64 (0 : Int))), (Cm.d (D.b false))])), (Box.mk (Min.min (1 : Nat) (1 : Nat)) (Option.some [(Cm.d (D.i IntKind.i64 r5.have_)), (Cm.ref (0 : Nat) (0 : Nat)), (Cm.d (D.i IntKind.i64 r5.granted)), (Cm.d (D.i IntKind.i64 r5.sent)), (Cm.d (D.b r5.dead))]))]) = (KS.mk true [(Prod.mk (0 : Nat) (T.pb (0 : Nat) (0 : Nat) (0 : Nat))), (Prod.mk (2 : Nat) (num IntKind.i64 s.snd.snd.fst)), (Prod.mk (4 : Nat) (T.pb (1 : Nat) (1 : Nat) (0 : Nat))), (Prod.mk (6 : Nat) (T.pb (2 : Nat) (1 : Nat) (0 : Nat))), (Prod.mk (7 : Nat) (T.pb (3 : Nat) (1 : Nat) (0 : Nat))), (Prod.mk (8 : Nat) (num IntKind.i64 s.snd.snd.snd.snd))] [(Row.mk (0 : Nat) (Option.some (RC.mk (82 : Nat) RK.part s.snd.snd.snd.fst.queue)))] [(Box.mk (0 : Nat) (Option.some [(Cm.d (D.r RK.u8 s.fst.b)), (Cm.d (D.i IntKind.i64 s.fst.p))])), (Box.mk (1 : Nat) (Option.some [(Cm.d (D.i IntKind.i64 s.snd.fst.mode)), (Cm.d (D.i IntKind.i64 s.snd.fst.win)), (Cm.d (D.i IntKind.i64 s.snd.fst.mps)), (Cm.d (D.i IntKind.i64 s.snd.fst.mtu)), (Cm.d (D.i IntKind.i64 s.snd.fst.try_))])), (Box.mk (1 : Nat) (Option.some [(Cm.d (D.i IntKind.i64 (0 : Int))), (Cm.d (D.r RK.part ([] : (List Part)))), (Cm.d (D.i IntKind.i64 (0 : Int))), (Cm.d (D.i IntKind.i64 (0 : Int))), (Cm.d (D.b false))])), (Box.mk (1 : Nat) (Option.some [(Cm.d (D.i IntKind.i64 s.snd.snd.snd.fst.have_)), (Cm.ref (0 : Nat) (0 : Nat)), (Cm.d (D.i IntKind.i64 s.snd.snd.snd.fst.granted)), (Cm.d (D.i IntKind.i64 s.snd.snd.snd.fst.sent)), (Cm.d (D.b s.snd.snd.snd.fst.dead))]))])) ∧
 (∃ m1 : Nat,
 (m1 < n) ∧
 ((s.snd.fst = c0) ∧
 ((s.snd.snd.fst = m0) ∧
 (((List.length s.snd.snd.snd.fst.queue) ≤ (24 : Nat)) ∧
 ((∀ p : Part,
 (List.Mem p s.snd.snd.snd.fst.queue) →
 ((List.length p.data) ≤ (24 : Nat))) ∧
 ((((m1 : Nat) : Int) = s.snd.snd.snd.snd) ∧
 (((Bytes r0.b) ∧
 (((List.length r0.b) ≤ (2000 : Nat)) ∧
 (((0 : Int) ≤ r0.p) ∧
 (r0.p ≤ (40000100 : Int))))) ∧
 (((s.fst.b = r0.b) ∧
 ((r0.p ≤ s.fst.p) ∧
 (s.fst.p ≤ (r0.p + ((80 : Int) * (k0 - s.snd.snd.snd.snd)))))) ∧
 ((s.snd.snd.snd.snd ≤ k0) ∧
 (k0 ≤ (15 : Int))))))))))))))))))))))) ∧
 ((true = true) ∧
 ((((Bytes r3.snd.b) ∧
 (((List.length r3.snd.b) ≤ (2000 : Nat)) ∧
 (((0 : Int) ≤ r3.snd.p) ∧
 (r3.snd.p ≤ (1000000000 : Int))))) ∧
 ((2 : Int) ≤ (1000000000 : Int))) ∧
 (∀ r4 : (Prod Int RdS),
 ((r4.snd = (RdS.mk r3.snd.b (r3.snd.p + (1 : Int)))) ∧ (((0 : Int) ≤ r4.fst) ∧ ((((1 : Int) ≤ (2 : Int)) → (r4.fst < (2 : Int))) ∧ (((2 : Int) < (1 : Int)) → (r4.fst = (0 : Int)))))) →
 (true = true) ∧
 ((true = true) ∧
 ((((0 : Int) ≤ r4.fst) ∧
 (r4.fst < (((List.length ((IntKind.wrap IntKind.i64 ((1 : Int) + r2.fst)) :: ((IntKind.wrap IntKind.i64 ((1 : Int) + r3.fst)) :: ([] : (List Int)) : (List Int)) : (List Int))) : Nat) : Int))) ∧
 ((true = true) ∧
 ((true = true) ∧
 (True ∧
 (∀ r5 : CtS,
 (r5 = (crdTake c (CtS.mk t.have_ t.queue t.granted t.sent t.dead) (at_i64 ((IntKind.wrap IntKind.i64 ((1 : Int) + r2.fst)) :: ((IntKind.wrap IntKind.i64 ((1 : Int) + r3.fst)) :: ([] : (List Int)) : (List Int)) : (List Int)) (Int.toNat r4.fst)))) →
 (true = true) ∧
 ((true = true) ∧
 ((true = true) ∧
 (∃ s : (Prod RdS (Prod Cfg (Prod Int (Prod CtS Int)))),
 ((KS.mk true [(Prod.mk (0 : Nat) (T.pb (0 : Nat) (0 : Nat) (0 : Nat))), (Prod.mk (2 : Nat) (num IntKind.i64 m)), (Prod.mk (4 : Nat) (T.pb (1 : Nat) (1 : Nat) (0 : Nat))), (Prod.mk (6 : Nat) (T.pb (2 : Nat) (1 : Nat) (0 : Nat))), (Prod.mk (7 : Nat) (T.pb (3 : Nat) (1 : Nat) (0 : Nat))), (Prod.mk (8 : Nat) (num IntKind.i64 (IntKind.wrap IntKind.i64 (k - (1 : Int)))))] [(Row.mk (0 : Nat) (Option.some (RC.mk (82 : Nat) RK.part r5.queue)))] [(Box.mk (Min.min (0 : Nat) (1 : Nat)) (Option.some [(Cm.d (D.r RK.u8 r4.snd.b)), (Cm.d (D.i IntKind.i64 r4.snd.p))])), (Box.mk (Min.min (1 : Nat) (1 : Nat)) (Option.some [(Cm.d (D.i IntKind.i64 c.mode)), (Cm.d (D.i IntKind.i64 c.win)), (Cm.d (D.i IntKind.i64 c.mps)), (Cm.d (D.i IntKind.i64 c.mtu)), (Cm.d (D.i IntKind.i64 c.try_))])), (Box.mk (1 : Nat) (Option.some [(Cm.d (D.i IntKind.i64 (0 : Int))), (Cm.d (D.r RK.part ([] : (List Part)))), (Cm.d (D.i IntKind.i64 (0 : Int))), (Cm.d (D.i IntKind.i64 (0 : Int))), (Cm.d (D.b false))])), (Box.mk (Min.min (1 : Nat) (1 : Nat)) (Option.some [(Cm.d (D.i IntKind.i64 r5.have_)), (Cm.ref (0 : Nat) (0 : Nat)), (Cm.d (D.i IntKind.i64 r5.granted)), (Cm.d (D.i IntKind.i64 r5.sent)), (Cm.d (D.b r5.dead))]))]) = (KS.mk true [(Prod.mk (0 : Nat) (T.pb (0 : Nat) (0 : Nat) (0 : Nat))), (Prod.mk (2 : Nat) (num IntKind.i64 s.snd.snd.fst)), (Prod.mk (4 : Nat) (T.pb (1 : Nat) (1 : Nat) (0 : Nat))), (Prod.mk (6 : Nat) (T.pb (2 : Nat) (1 : Nat) (0 : Nat))), (Prod.mk (7 : Nat) (T.pb (3 : Nat) (1 : Nat) (0 : Nat))), (Prod.mk (8 : Nat) (num IntKind.i64 s.snd.snd.snd.snd))] [(Row.mk (0 : Nat) (Option.some (RC.mk (82 : Nat) RK.part s.snd.snd.snd.fst.queue)))] [(Box.mk (0 : Nat) (Option.some [(Cm.d (D.r RK.u8 s.fst.b)), (Cm.d (D.i IntKind.i64 s.fst.p))])), (Box.mk (1 : Nat) (Option.some [(Cm.d (D.i IntKind.i64 s.snd.fst.mode)), (Cm.d (D.i IntKind.i64 s.snd.fst.win)), (Cm.d (D.i IntKind.i64 s.snd.fst.mps)), (Cm.d (D.i IntKind.i64 s.snd.fst.mtu)), (Cm.d (D.i IntKind.i64 s.snd.fst.try_))])), (Box.mk (1 : Nat) (Option.some [(Cm.d (D.i IntKind.i64 (0 : Int))), (Cm.d (D.r RK.part ([] : (List Part)))), (Cm.d (D.i IntKind.i64 (0 : Int))), (Cm.d (D.i IntKind.i64 (0 : Int))), (Cm.d (D.b false))])), (Box.mk (1 : Nat) (Option.some [(Cm.d (D.i IntKind.i64 s.snd.snd.snd.fst.have_)), (Cm.ref (0 : Nat) (0 : Nat)), (Cm.d (D.i IntKind.i64 s.snd.snd.snd.fst.granted)), (Cm.d (D.i IntKind.i64 s.snd.snd.snd.fst.sent)), (Cm.d (D.b s.snd.snd.snd.fst.dead))]))])) ∧
 (∃ m1 : Nat,
 (m1 < n) ∧
 ((s.snd.fst = c0) ∧
 ((s.snd.snd.fst = m0) ∧
 (((List.length s.snd.snd.snd.fst.queue) ≤ (24 : Nat)) ∧
 ((∀ p : Part,
 (List.Mem p s.snd.snd.snd.fst.queue) →
 ((List.length p.data) ≤ (24 : Nat))) ∧
 ((((m1 : Nat) : Int) = s.snd.snd.snd.snd) ∧
 (((Bytes r0.b) ∧
 (((List.length r0.b) ≤ (2000 : Nat)) ∧
 (((0 : Int) ≤ r0.p) ∧
 (r0.p ≤ (40000100 : Int))))) ∧
 (((s.fst.b = r0.b) ∧
 ((r0.p ≤ s.fst.p) ∧
 (s.fst.p ≤ (r0.p + ((80 : Int) * (k0 - s.snd.snd.snd.snd)))))) ∧
 ((s.snd.snd.snd.snd ≤ k0) ∧
 (k0 ≤ (15 : Int))))))))))))))))))))))))))))))))))
 else
 ((true = true) ∧
 (True ∧
 (∀ r2 : CtSendR,
 (r2 = (crdSend c (CtS.mk t.have_ t.queue t.granted t.sent t.dead))) →
 (true = true) ∧
 (∃ s : (Prod RdS (Prod Cfg (Prod Int (Prod CtS Int)))),
 ((KS.mk true [(Prod.mk (0 : Nat) (T.pb (0 : Nat) (0 : Nat) (0 : Nat))), (Prod.mk (2 : Nat) (num IntKind.i64 m)), (Prod.mk (4 : Nat) (T.pb (1 : Nat) (1 : Nat) (0 : Nat))), (Prod.mk (6 : Nat) (T.pb (2 : Nat) (1 : Nat) (0 : Nat))), (Prod.mk (7 : Nat) (T.pb (3 : Nat) (1 : Nat) (0 : Nat))), (Prod.mk (8 : Nat) (num IntKind.i64 (IntKind.wrap IntKind.i64 (k - (1 : Int)))))] [(Row.mk (0 : Nat) (Option.some (RC.mk (82 : Nat) RK.part r2.t.queue)))] [(Box.mk (Min.min (0 : Nat) (1 : Nat)) (Option.some [(Cm.d (D.r RK.u8 r1.snd.b)), (Cm.d (D.i IntKind.i64 r1.snd.p))])), (Box.mk (Min.min (1 : Nat) (1 : Nat)) (Option.some [(Cm.d (D.i IntKind.i64 c.mode)), (Cm.d (D.i IntKind.i64 c.win)), (Cm.d (D.i IntKind.i64 c.mps)), (Cm.d (D.i IntKind.i64 c.mtu)), (Cm.d (D.i IntKind.i64 c.try_))])), (Box.mk (1 : Nat) (Option.some [(Cm.d (D.i IntKind.i64 (0 : Int))), (Cm.d (D.r RK.part ([] : (List Part)))), (Cm.d (D.i IntKind.i64 (0 : Int))), (Cm.d (D.i IntKind.i64 (0 : Int))), (Cm.d (D.b false))])), (Box.mk (Min.min (1 : Nat) (1 : Nat)) (Option.some [(Cm.d (D.i IntKind.i64 r2.t.have_)), (Cm.ref (0 : Nat) (0 : Nat)), (Cm.d (D.i IntKind.i64 r2.t.granted)), (Cm.d (D.i IntKind.i64 r2.t.sent)), (Cm.d (D.b r2.t.dead))]))]) = (KS.mk true [(Prod.mk (0 : Nat) (T.pb (0 : Nat) (0 : Nat) (0 : Nat))), (Prod.mk (2 : Nat) (num IntKind.i64 s.snd.snd.fst)), (Prod.mk (4 : Nat) (T.pb (1 : Nat) (1 : Nat) (0 : Nat))), (Prod.mk (6 : Nat) (T.pb (2 : Nat) (1 : Nat) (0 : Nat))), (Prod.mk (7 : Nat) (T.pb (3 : Nat) (1 : Nat) (0 : Nat))), (Prod.mk (8 : Nat) (num IntKind.i64 s.snd.snd.snd.snd))] [(Row.mk (0 : Nat) (Option.some (RC.mk (82 : Nat) RK.part s.snd.snd.snd.fst.queue)))] [(Box.mk (0 : Nat) (Option.some [(Cm.d (D.r RK.u8 s.fst.b)), (Cm.d (D.i IntKind.i64 s.fst.p))])), (Box.mk (1 : Nat) (Option.some [(Cm.d (D.i IntKind.i64 s.snd.fst.mode)), (Cm.d (D.i IntKind.i64 s.snd.fst.win)), (Cm.d (D.i IntKind.i64 s.snd.fst.mps)), (Cm.d (D.i IntKind.i64 s.snd.fst.mtu)), (Cm.d (D.i IntKind.i64 s.snd.fst.try_))])), (Box.mk (1 : Nat) (Option.some [(Cm.d (D.i IntKind.i64 (0 : Int))), (Cm.d (D.r RK.part ([] : (List Part)))), (Cm.d (D.i IntKind.i64 (0 : Int))), (Cm.d (D.i IntKind.i64 (0 : Int))), (Cm.d (D.b false))])), (Box.mk (1 : Nat) (Option.some [(Cm.d (D.i IntKind.i64 s.snd.snd.snd.fst.have_)), (Cm.ref (0 : Nat) (0 : Nat)), (Cm.d (D.i IntKind.i64 s.snd.snd.snd.fst.granted)), (Cm.d (D.i IntKind.i64 s.snd.snd.snd.fst.sent)), (Cm.d (D.b s.snd.snd.snd.fst.dead))]))])) ∧
 (∃ m1 : Nat,
 (m1 < n) ∧
 ((s.snd.fst = c0) ∧
 ((s.snd.snd.fst = m0) ∧
 (((List.length s.snd.snd.snd.fst.queue) ≤ (24 : Nat)) ∧
 ((∀ p : Part,
 (List.Mem p s.snd.snd.snd.fst.queue) →
 ((List.length p.data) ≤ (24 : Nat))) ∧
 ((((m1 : Nat) : Int) = s.snd.snd.snd.snd) ∧
 (((Bytes r0.b) ∧
 (((List.length r0.b) ≤ (2000 : Nat)) ∧
 (((0 : Int) ≤ r0.p) ∧
 (r0.p ≤ (40000100 : Int))))) ∧
 (((s.fst.b = r0.b) ∧
 ((r0.p ≤ s.fst.p) ∧
 (s.fst.p ≤ (r0.p + ((80 : Int) * (k0 - s.snd.snd.snd.snd)))))) ∧
 ((s.snd.snd.snd.snd ≤ k0) ∧
 (k0 ≤ (15 : Int)))))))))))))))))
 else
 (if ((r1.fst == (1 : Int)) = true) then
 (((true = true) ∧
 ((true = true) ∧
 ((((Bytes r1.snd.b) ∧
 (((List.length r1.snd.b) ≤ (2000 : Nat)) ∧
 (((0 : Int) ≤ r1.snd.p) ∧
 (r1.snd.p ≤ (100000000 : Int))))) ∧
 (((0 : Int) ≤ c.mtu) ∧
 (c.mtu ≤ (900 : Int)))) ∧
 (∀ r2 : (Prod (List Int) RdS),
 ((Bytes r2.fst) ∧ (((((List.length r2.fst) : Nat) : Int) ≤ c.mtu) ∧ (RdOn r1.snd r2.snd ((1 : Int) + ((3 : Int) * c.mtu))))) →
 (true = true) ∧
 ((true = true) ∧
 ((true = true) ∧
 (((List.length r2.fst) ≤ (1000 : Nat)) ∧
 (∀ r3 : CtPutR,
 (r3 = (crdPut c (CtS.mk t.have_ t.queue t.granted t.sent t.dead) r2.fst)) →
 (true = true) ∧
 ((true = true) ∧
 ((true = true) ∧
 (∃ s : (Prod RdS (Prod Cfg (Prod Int (Prod CtS Int)))),
 ((KS.mk true [(Prod.mk (0 : Nat) (T.pb (0 : Nat) (0 : Nat) (0 : Nat))), (Prod.mk (2 : Nat) (num IntKind.i64 m)), (Prod.mk (4 : Nat) (T.pb (1 : Nat) (1 : Nat) (0 : Nat))), (Prod.mk (6 : Nat) (T.pb (2 : Nat) (1 : Nat) (0 : Nat))), (Prod.mk (7 : Nat) (T.pb (3 : Nat) (1 : Nat) (0 : Nat))), (Prod.mk (8 : Nat) (num IntKind.i64 (IntKind.wrap IntKind.i64 (k - (1 : Int)))))] [(Row.mk (0 : Nat) (Option.some (RC.mk (82 : Nat) RK.part r3.t.queue)))] [(Box.mk (Min.min (0 : Nat) (1 : Nat)) (Option.some [(Cm.d (D.r RK.u8 r2.snd.b)), (Cm.d (D.i IntKind.i64 r2.snd.p))])), (Box.mk (Min.min (1 : Nat) (1 : Nat)) (Option.some [(Cm.d (D.i IntKind.i64 c.mode)), (Cm.d (D.i IntKind.i64 c.win)), (Cm.d (D.i IntKind.i64 c.mps)), (Cm.d (D.i IntKind.i64 c.mtu)), (Cm.d (D.i IntKind.i64 c.try_))])), (Box.mk (1 : Nat) (Option.some [(Cm.d (D.i IntKind.i64 (0 : Int))), (Cm.d (D.r RK.part ([] : (List Part)))), (Cm.d (D.i IntKind.i64 (0 : Int))), (Cm.d (D.i IntKind.i64 (0 : Int))), (Cm.d (D.b false))])), (Box.mk (Min.min (1 : Nat) (1 : Nat)) (Option.some [(Cm.d (D.i IntKind.i64 r3.t.have_)), (Cm.ref (0 : Nat) (0 : Nat)), (Cm.d (D.i IntKind.i64 r3.t.granted)), (Cm.d (D.i IntKind.i64 r3.t.sent)), (Cm.d (D.b r3.t.dead))]))]) = (KS.mk true [(Prod.mk (0 : Nat) (T.pb (0 : Nat) (0 : Nat) (0 : Nat))), (Prod.mk (2 : Nat) (num IntKind.i64 s.snd.snd.fst)), (Prod.mk (4 : Nat) (T.pb (1 : Nat) (1 : Nat) (0 : Nat))), (Prod.mk (6 : Nat) (T.pb (2 : Nat) (1 : Nat) (0 : Nat))), (Prod.mk (7 : Nat) (T.pb (3 : Nat) (1 : Nat) (0 : Nat))), (Prod.mk (8 : Nat) (num IntKind.i64 s.snd.snd.snd.snd))] [(Row.mk (0 : Nat) (Option.some (RC.mk (82 : Nat) RK.part s.snd.snd.snd.fst.queue)))] [(Box.mk (0 : Nat) (Option.some [(Cm.d (D.r RK.u8 s.fst.b)), (Cm.d (D.i IntKind.i64 s.fst.p))])), (Box.mk (1 : Nat) (Option.some [(Cm.d (D.i IntKind.i64 s.snd.fst.mode)), (Cm.d (D.i IntKind.i64 s.snd.fst.win)), (Cm.d (D.i IntKind.i64 s.snd.fst.mps)), (Cm.d (D.i IntKind.i64 s.snd.fst.mtu)), (Cm.d (D.i IntKind.i64 s.snd.fst.try_))])), (Box.mk (1 : Nat) (Option.some [(Cm.d (D.i IntKind.i64 (0 : Int))), (Cm.d (D.r RK.part ([] : (List Part)))), (Cm.d (D.i IntKind.i64 (0 : Int))), (Cm.d (D.i IntKind.i64 (0 : Int))), (Cm.d (D.b false))])), (Box.mk (1 : Nat) (Option.some [(Cm.d (D.i IntKind.i64 s.snd.snd.snd.fst.have_)), (Cm.ref (0 : Nat) (0 : Nat)), (Cm.d (D.i IntKind.i64 s.snd.snd.snd.fst.granted)), (Cm.d (D.i IntKind.i64 s.snd.snd.snd.fst.sent)), (Cm.d (D.b s.snd.snd.snd.fst.dead))]))])) ∧
 (∃ m1 : Nat,
 (m1 < n) ∧
 ((s.snd.fst = c0) ∧
 ((s.snd.snd.fst = m0) ∧
 (((List.length s.snd.snd.snd.fst.queue) ≤ (24 : Nat)) ∧
 ((∀ p : Part,
 (List.Mem p s.snd.snd.snd.fst.queue) →
 ((List.length p.data) ≤ (24 : Nat))) ∧
 ((((m1 : Nat) : Int) = s.snd.snd.snd.snd) ∧
 (((Bytes r0.b) ∧
 (((List.length r0.b) ≤ (2000 : Nat)) ∧
 (((0 : Int) ≤ r0.p) ∧
 (r0.p ≤ (40000100 : Int))))) ∧
 (((s.fst.b = r0.b) ∧
 ((r0.p ≤ s.fst.p) ∧
 (s.fst.p ≤ (r0.p + ((80 : Int) * (k0 - s.snd.snd.snd.snd)))))) ∧
 ((s.snd.snd.snd.snd ≤ k0) ∧
 (k0 ≤ (15 : Int)))))))))))))))))))))) ∧
 ((true = true) ∧
 ((((Bytes r1.snd.b) ∧
 (((List.length r1.snd.b) ≤ (2000 : Nat)) ∧
 (((0 : Int) ≤ r1.snd.p) ∧
 (r1.snd.p ≤ (100000000 : Int))))) ∧
 (((0 : Int) ≤ c.mtu) ∧
 (c.mtu ≤ (900 : Int)))) ∧
 (∀ r2 : (Prod (List Int) RdS),
 ((Bytes r2.fst) ∧ (((((List.length r2.fst) : Nat) : Int) ≤ c.mtu) ∧ (RdOn r1.snd r2.snd ((1 : Int) + ((3 : Int) * c.mtu))))) →
 (true = true) ∧
 ((true = true) ∧
 ((true = true) ∧
 ((true = true) ∧
 (((List.length r2.fst) ≤ (1000 : Nat)) ∧
 (∀ r3 : CtPutR,
 (r3 = (crdPut c (CtS.mk t.have_ t.queue t.granted t.sent t.dead) r2.fst)) →
 (true = true) ∧
 ((true = true) ∧
 ((true = true) ∧
 (∃ s : (Prod RdS (Prod Cfg (Prod Int (Prod CtS Int)))),
 ((KS.mk true [(Prod.mk (0 : Nat) (T.pb (0 : Nat) (0 : Nat) (0 : Nat))), (Prod.mk (2 : Nat) (num IntKind.i64 m)), (Prod.mk (4 : Nat) (T.pb (1 : Nat) (1 : Nat) (0 : Nat))), (Prod.mk (6 : Nat) (T.pb (2 : Nat) (1 : Nat) (0 : Nat))), (Prod.mk (7 : Nat) (T.pb (3 : Nat) (1 : Nat) (0 : Nat))), (Prod.mk (8 : Nat) (num IntKind.i64 (IntKind.wrap IntKind.i64 (k - (1 : Int)))))] [(Row.mk (0 : Nat) (Option.some (RC.mk (82 : Nat) RK.part r3.t.queue)))] [(Box.mk (Min.min (0 : Nat) (1 : Nat)) (Option.some [(Cm.d (D.r RK.u8 r2.snd.b)), (Cm.d (D.i IntKind.i64 r2.snd.p))])), (Box.mk (Min.min (1 : Nat) (1 : Nat)) (Option.some [(Cm.d (D.i IntKind.i64 c.mode)), (Cm.d (D.i IntKind.i64 c.win)), (Cm.d (D.i IntKind.i64 c.mps)), (Cm.d (D.i IntKind.i64 c.mtu)), (Cm.d (D.i IntKind.i64 c.try_))])), (Box.mk (1 : Nat) (Option.some [(Cm.d (D.i IntKind.i64 (0 : Int))), (Cm.d (D.r RK.part ([] : (List Part)))), (Cm.d (D.i IntKind.i64 (0 : Int))), (Cm.d (D.i IntKind.i64 (0 : Int))), (Cm.d (D.b false))])), (Box.mk (Min.min (1 : Nat) (1 : Nat)) (Option.some [(Cm.d (D.i IntKind.i64 r3.t.have_)), (Cm.ref (0 : Nat) (0 : Nat)), (Cm.d (D.i IntKind.i64 r3.t.granted)), (Cm.d (D.i IntKind.i64 r3.t.sent)), (Cm.d (D.b r3.t.dead))]))]) = (KS.mk true [(Prod.mk (0 : Nat) (T.pb (0 : Nat) (0 : Nat) (0 : Nat))), (Prod.mk (2 : Nat) (num IntKind.i64 s.snd.snd.fst)), (Prod.mk (4 : Nat) (T.pb (1 : Nat) (1 : Nat) (0 : Nat))), (Prod.mk (6 : Nat) (T.pb (2 : Nat) (1 : Nat) (0 : Nat))), (Prod.mk (7 : Nat) (T.pb (3 : Nat) (1 : Nat) (0 : Nat))), (Prod.mk (8 : Nat) (num IntKind.i64 s.snd.snd.snd.snd))] [(Row.mk (0 : Nat) (Option.some (RC.mk (82 : Nat) RK.part s.snd.snd.snd.fst.queue)))] [(Box.mk (0 : Nat) (Option.some [(Cm.d (D.r RK.u8 s.fst.b)), (Cm.d (D.i IntKind.i64 s.fst.p))])), (Box.mk (1 : Nat) (Option.some [(Cm.d (D.i IntKind.i64 s.snd.fst.mode)), (Cm.d (D.i IntKind.i64 s.snd.fst.win)), (Cm.d (D.i IntKind.i64 s.snd.fst.mps)), (Cm.d (D.i IntKind.i64 s.snd.fst.mtu)), (Cm.d (D.i IntKind.i64 s.snd.fst.try_))])), (Box.mk (1 : Nat) (Option.some [(Cm.d (D.i IntKind.i64 (0 : Int))), (Cm.d (D.r RK.part ([] : (List Part)))), (Cm.d (D.i IntKind.i64 (0 : Int))), (Cm.d (D.i IntKind.i64 (0 : Int))), (Cm.d (D.b false))])), (Box.mk (1 : Nat) (Option.some [(Cm.d (D.i IntKind.i64 s.snd.snd.snd.fst.have_)), (Cm.ref (0 : Nat) (0 : Nat)), (Cm.d (D.i IntKind.i64 s.snd.snd.snd.fst.granted)), (Cm.d (D.i IntKind.i64 s.snd.snd.snd.fst.sent)), (Cm.d (D.b s.snd.snd.snd.fst.dead))]))])) ∧
 (∃ m1 : Nat,
 (m1 < n) ∧
 ((s.snd.fst = c0) ∧
 ((s.snd.snd.fst = m0) ∧
 (((List.length s.snd.snd.snd.fst.queue) ≤ (24 : Nat)) ∧
 ((∀ p : Part,
 (List.Mem p s.snd.snd.snd.fst.queue) →
 ((List.length p.data) ≤ (24 : Nat))) ∧
 ((((m1 : Nat) : Int) = s.snd.snd.snd.snd) ∧
 (((Bytes r0.b) ∧
 (((List.length r0.b) ≤ (2000 : Nat)) ∧
 (((0 : Int) ≤ r0.p) ∧
 (r0.p ≤ (40000100 : Int))))) ∧
 (((s.fst.b = r0.b) ∧
 ((r0.p ≤ s.fst.p) ∧
 (s.fst.p ≤ (r0.p + ((80 : Int) * (k0 - s.snd.snd.snd.snd)))))) ∧
 ((s.snd.snd.snd.snd ≤ k0) ∧
 (k0 ≤ (15 : Int)))))))))))))))))))))))
 else
 (if ((r1.fst == (2 : Int)) = true) then
 (((true = true) ∧
 ((true = true) ∧
 ((((Bytes r1.snd.b) ∧
 (((List.length r1.snd.b) ≤ (2000 : Nat)) ∧
 (((0 : Int) ≤ r1.snd.p) ∧
 (r1.snd.p ≤ (1000000000 : Int))))) ∧
 ((6 : Int) ≤ (1000000000 : Int))) ∧
 (∀ r2 : (Prod Int RdS),
 ((r2.snd = (RdS.mk r1.snd.b (r1.snd.p + (1 : Int)))) ∧ (((0 : Int) ≤ r2.fst) ∧ ((((1 : Int) ≤ (6 : Int)) → (r2.fst < (6 : Int))) ∧ (((6 : Int) < (1 : Int)) → (r2.fst = (0 : Int)))))) →
 (true = true) ∧
 ((true = true) ∧
 ((true = true) ∧
 ((((Bytes r2.snd.b) ∧
 (((List.length r2.snd.b) ≤ (2000 : Nat)) ∧
 (((0 : Int) ≤ r2.snd.p) ∧
 (r2.snd.p ≤ (1000000000 : Int))))) ∧
 ((250 : Int) ≤ (1000000000 : Int))) ∧
 (∀ r3 : (Prod Int RdS),
 ((r3.snd = (RdS.mk r2.snd.b (r2.snd.p + (1 : Int)))) ∧ (((0 : Int) ≤ r3.fst) ∧ ((((1 : Int) ≤ (250 : Int)) → (r3.fst < (250 : Int))) ∧ (((250 : Int) < (1 : Int)) → (r3.fst = (0 : Int)))))) →
 (true = true) ∧
 ((true = true) ∧
 ((true = true) ∧
 ((((Bytes r3.snd.b) ∧
 (((List.length r3.snd.b) ≤ (2000 : Nat)) ∧
 (((0 : Int) ≤ r3.snd.p) ∧
 (r3.snd.p ≤ (1000000000 : Int))))) ∧
 ((2 : Int) ≤ (1000000000 : Int))) ∧
 (∀ r4 : (Prod Int RdS),
 ((r4.snd = (RdS.mk r3.snd.b (r3.snd.p + (1 : Int)))) ∧ (((0 : Int) ≤ r4.fst) ∧ ((((1 : Int) ≤ (2 : Int)) → (r4.fst < (2 : Int))) ∧ (((2 : Int) < (1 : Int)) → (r4.fst = (0 : Int)))))) →
 (true = true) ∧
 ((true = true) ∧
 ((((0 : Int) ≤ r4.fst) ∧
 (r4.fst < (((List.length ((IntKind.wrap IntKind.i64 ((1 : Int) + r2.fst)) :: ((IntKind.wrap IntKind.i64 ((1 : Int) + r3.fst)) :: ([] : (List Int)) : (List Int)) : (List Int))) : Nat) : Int))) ∧
 ((true = true) ∧
 (True ∧
 (∀ r5 : CtS,
 (r5 = (crdTake c (CtS.mk t.have_ t.queue t.granted t.sent t.dead) (at_i64 ((IntKind.wrap IntKind.i64 ((1 : Int) + r2.fst)) :: ((IntKind.wrap IntKind.i64 ((1 : Int) + r3.fst)) :: ([] : (List Int)) : (List Int)) : (List Int)) (Int.toNat r4.fst)))) →
 (true = true) ∧
 ((true = true) ∧
 ((true = true) ∧
 (∃ s : (Prod RdS (Prod Cfg (Prod Int (Prod CtS Int)))),
 ((KS.mk true [(Prod.mk (0 : Nat) (T.pb (0 : Nat) (0 : Nat) (0 : Nat))), (Prod.mk (2 : Nat) (num IntKind.i64 m)), (Prod.mk (4 : Nat) (T.pb (1 : Nat) (1 : Nat) (0 : Nat))), (Prod.mk (6 : Nat) (T.pb (2 : Nat) (1 : Nat) (0 : Nat))), (Prod.mk (7 : Nat) (T.pb (3 : Nat) (1 : Nat) (0 : Nat))), (Prod.mk (8 : Nat) (num IntKind.i64 (IntKind.wrap IntKind.i64 (k - (1 : Int)))))] [(Row.mk (0 : Nat) (Option.some (RC.mk (82 : Nat) RK.part r5.queue)))] [(Box.mk (Min.min (0 : Nat) (1 : Nat)) (Option.some [(Cm.d (D.r RK.u8 r4.snd.b)), (Cm.d (D.i IntKind.i64 r4.snd.p))])), (Box.mk (Min.min (1 : Nat) (1 : Nat)) (Option.some [(Cm.d (D.i IntKind.i64 c.mode)), (Cm.d (D.i IntKind.i64 c.win)), (Cm.d (D.i IntKind.i64 c.mps)), (Cm.d (D.i IntKind.i64 c.mtu)), (Cm.d (D.i IntKind.i64 c.try_))])), (Box.mk (1 : Nat) (Option.some [(Cm.d (D.i IntKind.i64 (0 : Int))), (Cm.d (D.r RK.part ([] : (List Part)))), (Cm.d (D.i IntKind.i64 (0 : Int))), (Cm.d (D.i IntKind.i64 (0 : Int))), (Cm.d (D.b false))])), (Box.mk (Min.min (1 : Nat) (1 : Nat)) (Option.some [(Cm.d (D.i IntKind.i64 r5.have_)), (Cm.ref (0 : Nat) (0 : Nat)), (Cm.d (D.i IntKind.i64 r5.granted)), (Cm.d (D.i IntKind.i64 r5.sent)), (Cm.d (D.b r5.dead))]))]) = (KS.mk true [(Prod.mk (0 : Nat) (T.pb (0 : Nat) (0 : Nat) (0 : Nat))), (Prod.mk (2 : Nat) (num IntKind.i64 s.snd.snd.fst)), (Prod.mk (4 : Nat) (T.pb (1 : Nat) (1 : Nat) (0 : Nat))), (Prod.mk (6 : Nat) (T.pb (2 : Nat) (1 : Nat) (0 : Nat))), (Prod.mk (7 : Nat) (T.pb (3 : Nat) (1 : Nat) (0 : Nat))), (Prod.mk (8 : Nat) (num IntKind.i64 s.snd.snd.snd.snd))] [(Row.mk (0 : Nat) (Option.some (RC.mk (82 : Nat) RK.part s.snd.snd.snd.fst.queue)))] [(Box.mk (0 : Nat) (Option.some [(Cm.d (D.r RK.u8 s.fst.b)), (Cm.d (D.i IntKind.i64 s.fst.p))])), (Box.mk (1 : Nat) (Option.some [(Cm.d (D.i IntKind.i64 s.snd.fst.mode)), (Cm.d (D.i IntKind.i64 s.snd.fst.win)), (Cm.d (D.i IntKind.i64 s.snd.fst.mps)), (Cm.d (D.i IntKind.i64 s.snd.fst.mtu)), (Cm.d (D.i IntKind.i64 s.snd.fst.try_))])), (Box.mk (1 : Nat) (Option.some [(Cm.d (D.i IntKind.i64 (0 : Int))), (Cm.d (D.r RK.part ([] : (List Part)))), (Cm.d (D.i IntKind.i64 (0 : Int))), (Cm.d (D.i IntKind.i64 (0 : Int))), (Cm.d (D.b false))])), (Box.mk (1 : Nat) (Option.some [(Cm.d (D.i IntKind.i64 s.snd.snd.snd.fst.have_)), (Cm.ref (0 : Nat) (0 : Nat)), (Cm.d (D.i IntKind.i64 s.snd.snd.snd.fst.granted)), (Cm.d (D.i IntKind.i64 s.snd.snd.snd.fst.sent)), (Cm.d (D.b s.snd.snd.snd.fst.dead))]))])) ∧
 (∃ m1 : Nat,
 (m1 < n) ∧
 ((s.snd.fst = c0) ∧
 ((s.snd.snd.fst = m0) ∧
 (((List.length s.snd.snd.snd.fst.queue) ≤ (24 : Nat)) ∧
 ((∀ p : Part,
 (List.Mem p s.snd.snd.snd.fst.queue) →
 ((List.length p.data) ≤ (24 : Nat))) ∧
 ((((m1 : Nat) : Int) = s.snd.snd.snd.snd) ∧
 (((Bytes r0.b) ∧
 (((List.length r0.b) ≤ (2000 : Nat)) ∧
 (((0 : Int) ≤ r0.p) ∧
 (r0.p ≤ (40000100 : Int))))) ∧
 (((s.fst.b = r0.b) ∧
 ((r0.p ≤ s.fst.p) ∧
 (s.fst.p ≤ (r0.p + ((80 : Int) * (k0 - s.snd.snd.snd.snd)))))) ∧
 ((s.snd.snd.snd.snd ≤ k0) ∧
 (k0 ≤ (15 : Int))))))))))))))))))))))))))))))) ∧
 ((true = true) ∧
 ((((Bytes r1.snd.b) ∧
 (((List.length r1.snd.b) ≤ (2000 : Nat)) ∧
 (((0 : Int) ≤ r1.snd.p) ∧
 (r1.snd.p ≤ (1000000000 : Int))))) ∧
 ((6 : Int) ≤ (1000000000 : Int))) ∧
 (∀ r2 : (Prod Int RdS),
 ((r2.snd = (RdS.mk r1.snd.b (r1.snd.p + (1 : Int)))) ∧ (((0 : Int) ≤ r2.fst) ∧ ((((1 : Int) ≤ (6 : Int)) → (r2.fst < (6 : Int))) ∧ (((6 : Int) < (1 : Int)) → (r2.fst = (0 : Int)))))) →
 (true = true) ∧
 ((true = true) ∧
 (((true = true) ∧
 ((true = true) ∧
 ((((Bytes r2.snd.b) ∧
 (((List.length r2.snd.b) ≤ (2000 : Nat)) ∧
 (((0 : Int) ≤ r2.snd.p) ∧
 (r2.snd.p ≤ (1000000000 : Int))))) ∧
 ((250 : Int) ≤ (1000000000 : Int))) ∧
 (∀ r3 : (Prod Int RdS),
 ((r3.snd = (RdS.mk r2.snd.b (r2.snd.p + (1 : Int)))) ∧ (((0 : Int) ≤ r3.fst) ∧ ((((1 : Int) ≤ (250 : Int)) → (r3.fst < (250 : Int))) ∧ (((250 : Int) < (1 : Int)) → (r3.fst = (0 : Int)))))) →
 (true = true) ∧
 ((true = true) ∧
 ((true = true) ∧
 ((((Bytes r3.snd.b) ∧
 (((List.length r3.snd.b) ≤ (2000 : Nat)) ∧
 (((0 : Int) ≤ r3.snd.p) ∧
 (r3.snd.p ≤ (1000000000 : Int))))) ∧
 ((2 : Int) ≤ (1000000000 : Int))) ∧
 (∀ r4 : (Prod Int RdS),
 ((r4.snd = (RdS.mk r3.snd.b (r3.snd.p + (1 : Int)))) ∧ (((0 : Int) ≤ r4.fst) ∧ ((((1 : Int) ≤ (2 : Int)) → (r4.fst < (2 : Int))) ∧ (((2 : Int) < (1 : Int)) → (r4.fst = (0 : Int)))))) →
 (true = true) ∧
 ((true = true) ∧
 ((((0 : Int) ≤ r4.fst) ∧
 (r4.fst < (((List.length ((IntKind.wrap IntKind.i64 ((1 : Int) + r2.fst)) :: ((IntKind.wrap IntKind.i64 ((1 : Int) + r3.fst)) :: ([] : (List Int)) : (List Int)) : (List Int))) : Nat) : Int))) ∧
 ((true = true) ∧
 (True ∧
 (∀ r5 : CtS,
 (r5 = (crdTake c (CtS.mk t.have_ t.queue t.granted t.sent t.dead) (at_i64 ((IntKind.wrap IntKind.i64 ((1 : Int) + r2.fst)) :: ((IntKind.wrap IntKind.i64 ((1 : Int) + r3.fst)) :: ([] : (List Int)) : (List Int)) : (List Int)) (Int.toNat r4.fst)))) →
 (true = true) ∧
 ((true = true) ∧
 ((true = true) ∧
 (∃ s : (Prod RdS (Prod Cfg (Prod Int (Prod CtS Int)))),
 ((KS.mk true [(Prod.mk (0 : Nat) (T.pb (0 : Nat) (0 : Nat) (0 : Nat))), (Prod.mk (2 : Nat) (num IntKind.i64 m)), (Prod.mk (4 : Nat) (T.pb (1 : Nat) (1 : Nat) (0 : Nat))), (Prod.mk (6 : Nat) (T.pb (2 : Nat) (1 : Nat) (0 : Nat))), (Prod.mk (7 : Nat) (T.pb (3 : Nat) (1 : Nat) (0 : Nat))), (Prod.mk (8 : Nat) (num IntKind.i64 (IntKind.wrap IntKind.i64 (k - (1 : Int)))))] [(Row.mk (0 : Nat) (Option.some (RC.mk (82 : Nat) RK.part r5.queue)))] [(Box.mk (Min.min (0 : Nat) (1 : Nat)) (Option.some [(Cm.d (D.r RK.u8 r4.snd.b)), (Cm.d (D.i IntKind.i64 r4.snd.p))])), (Box.mk (Min.min (1 : Nat) (1 : Nat)) (Option.some [(Cm.d (D.i IntKind.i64 c.mode)), (Cm.d (D.i IntKind.i64 c.win)), (Cm.d (D.i IntKind.i64 c.mps)), (Cm.d (D.i IntKind.i64 c.mtu)), (Cm.d (D.i IntKind.i64 c.try_))])), (Box.mk (1 : Nat) (Option.some [(Cm.d (D.i IntKind.i64 (0 : Int))), (Cm.d (D.r RK.part ([] : (List Part)))), (Cm.d (D.i IntKind.i64 (0 : Int))), (Cm.d (D.i IntKind.i64 (0 : Int))), (Cm.d (D.b false))])), (Box.mk (Min.min (1 : Nat) (1 : Nat)) (Option.some [(Cm.d (D.i IntKind.i64 r5.have_)), (Cm.ref (0 : Nat) (0 : Nat)), (Cm.d (D.i IntKind.i64 r5.granted)), (Cm.d (D.i IntKind.i64 r5.sent)), (Cm.d (D.b r5.dead))]))]) = (KS.mk true [(Prod.mk (0 : Nat) (T.pb (0 : Nat) (0 : Nat) (0 : Nat))), (Prod.mk (2 : Nat) (num IntKind.i64 s.snd.snd.fst)), (Prod.mk (4 : Nat) (T.pb (1 : Nat) (1 : Nat) (0 : Nat))), (Prod.mk (6 : Nat) (T.pb (2 : Nat) (1 : Nat) (0 : Nat))), (Prod.mk (7 : Nat) (T.pb (3 : Nat) (1 : Nat) (0 : Nat))), (Prod.mk (8 : Nat) (num IntKind.i64 s.snd.snd.snd.snd))] [(Row.mk (0 : Nat) (Option.some (RC.mk (82 : Nat) RK.part s.snd.snd.snd.fst.queue)))] [(Box.mk (0 : Nat) (Option.some [(Cm.d (D.r RK.u8 s.fst.b)), (Cm.d (D.i IntKind.i64 s.fst.p))])), (Box.mk (1 : Nat) (Option.some [(Cm.d (D.i IntKind.i64 s.snd.fst.mode)), (Cm.d (D.i IntKind.i64 s.snd.fst.win)), (Cm.d (D.i IntKind.i64 s.snd.fst.mps)), (Cm.d (D.i IntKind.i64 s.snd.fst.mtu)), (Cm.d (D.i IntKind.i64 s.snd.fst.try_))])), (Box.mk (1 : Nat) (Option.some [(Cm.d (D.i IntKind.i64 (0 : Int))), (Cm.d (D.r RK.part ([] : (List Part)))), (Cm.d (D.i IntKind.i64 (0 : Int))), (Cm.d (D.i IntKind.i64 (0 : Int))), (Cm.d (D.b false))])), (Box.mk (1 : Nat) (Option.some [(Cm.d (D.i IntKind.i64 s.snd.snd.snd.fst.have_)), (Cm.ref (0 : Nat) (0 : Nat)), (Cm.d (D.i IntKind.i64 s.snd.snd.snd.fst.granted)), (Cm.d (D.i IntKind.i64 s.snd.snd.snd.fst.sent)), (Cm.d (D.b s.snd.snd.snd.fst.dead))]))])) ∧
 (∃ m1 : Nat,
 (m1 < n) ∧
 ((s.snd.fst = c0) ∧
 ((s.snd.snd.fst = m0) ∧
 (((List.length s.snd.snd.snd.fst.queue) ≤ (24 : Nat)) ∧
 ((∀ p : Part,
 (List.Mem p s.snd.snd.snd.fst.queue) →
 ((List.length p.data) ≤ (24 : Nat))) ∧
 ((((m1 : Nat) : Int) = s.snd.snd.snd.snd) ∧
 (((Bytes r0.b) ∧
 (((List.length r0.b) ≤ (2000 : Nat)) ∧
 (((0 : Int) ≤ r0.p) ∧
 (r0.p ≤ (40000100 : Int))))) ∧
 (((s.fst.b = r0.b) ∧
 ((r0.p ≤ s.fst.p) ∧
 (s.fst.p ≤ (r0.p + ((80 : Int) * (k0 - s.snd.snd.snd.snd)))))) ∧
 ((s.snd.snd.snd.snd ≤ k0) ∧
 (k0 ≤ (15 : Int))))))))))))))))))))))))))) ∧
 ((true = true) ∧
 ((((Bytes r2.snd.b) ∧
 (((List.length r2.snd.b) ≤ (2000 : Nat)) ∧
 (((0 : Int) ≤ r2.snd.p) ∧
 (r2.snd.p ≤ (1000000000 : Int))))) ∧
 ((250 : Int) ≤ (1000000000 : Int))) ∧
 (∀ r3 : (Prod Int RdS),
 ((r3.snd = (RdS.mk r2.snd.b (r2.snd.p + (1 : Int)))) ∧ (((0 : Int) ≤ r3.fst) ∧ ((((1 : Int) ≤ (250 : Int)) → (r3.fst < (250 : Int))) ∧ (((250 : Int) < (1 : Int)) → (r3.fst = (0 : Int)))))) →
 (true = true) ∧
 ((true = true) ∧
 (((true = true) ∧
 ((true = true) ∧
 ((((Bytes r3.snd.b) ∧
 (((List.length r3.snd.b) ≤ (2000 : Nat)) ∧
 (((0 : Int) ≤ r3.snd.p) ∧
 (r3.snd.p ≤ (1000000000 : Int))))) ∧
 ((2 : Int) ≤ (1000000000 : Int))) ∧
 (∀ r4 : (Prod Int RdS),
 ((r4.snd = (RdS.mk r3.snd.b (r3.snd.p + (1 : Int)))) ∧ (((0 : Int) ≤ r4.fst) ∧ ((((1 : Int) ≤ (2 : Int)) → (r4.fst < (2 : Int))) ∧ (((2 : Int) < (1 : Int)) → (r4.fst = (0 : Int)))))) →
 (true = true) ∧
 ((true = true) ∧
 ((((0 : Int) ≤ r4.fst) ∧
 (r4.fst < (((List.length ((IntKind.wrap IntKind.i64 ((1 : Int) + r2.fst)) :: ((IntKind.wrap IntKind.i64 ((1 : Int) + r3.fst)) :: ([] : (List Int)) : (List Int)) : (List Int))) : Nat) : Int))) ∧
 ((true = true) ∧
 (True ∧
 (∀ r5 : CtS,
 (r5 = (crdTake c (CtS.mk t.have_ t.queue t.granted t.sent t.dead) (at_i64 ((IntKind.wrap IntKind.i64 ((1 : Int) + r2.fst)) :: ((IntKind.wrap IntKind.i64 ((1 : Int) + r3.fst)) :: ([] : (List Int)) : (List Int)) : (List Int)) (Int.toNat r4.fst)))) →
 (true = true) ∧
 ((true = true) ∧
 ((true = true) ∧
 (∃ s : (Prod RdS (Prod Cfg (Prod Int (Prod CtS Int)))),
 ((KS.mk true [(Prod.mk (0 : Nat) (T.pb (0 : Nat) (0 : Nat) (0 : Nat))), (Prod.mk (2 : Nat) (num IntKind.i64 m)), (Prod.mk (4 : Nat) (T.pb (1 : Nat) (1 : Nat) (0 : Nat))), (Prod.mk (6 : Nat) (T.pb (2 : Nat) (1 : Nat) (0 : Nat))), (Prod.mk (7 : Nat) (T.pb (3 : Nat) (1 : Nat) (0 : Nat))), (Prod.mk (8 : Nat) (num IntKind.i64 (IntKind.wrap IntKind.i64 (k - (1 : Int)))))] [(Row.mk (0 : Nat) (Option.some (RC.mk (82 : Nat) RK.part r5.queue)))] [(Box.mk (Min.min (0 : Nat) (1 : Nat)) (Option.some [(Cm.d (D.r RK.u8 r4.snd.b)), (Cm.d (D.i IntKind.i64 r4.snd.p))])), (Box.mk (Min.min (1 : Nat) (1 : Nat)) (Option.some [(Cm.d (D.i IntKind.i64 c.mode)), (Cm.d (D.i IntKind.i64 c.win)), (Cm.d (D.i IntKind.i64 c.mps)), (Cm.d (D.i IntKind.i64 c.mtu)), (Cm.d (D.i IntKind.i64 c.try_))])), (Box.mk (1 : Nat) (Option.some [(Cm.d (D.i IntKind.i64 (0 : Int))), (Cm.d (D.r RK.part ([] : (List Part)))), (Cm.d (D.i IntKind.i64 (0 : Int))), (Cm.d (D.i IntKind.i64 (0 : Int))), (Cm.d (D.b false))])), (Box.mk (Min.min (1 : Nat) (1 : Nat)) (Option.some [(Cm.d (D.i IntKind.i64 r5.have_)), (Cm.ref (0 : Nat) (0 : Nat)), (Cm.d (D.i IntKind.i64 r5.granted)), (Cm.d (D.i IntKind.i64 r5.sent)), (Cm.d (D.b r5.dead))]))]) = (KS.mk true [(Prod.mk (0 : Nat) (T.pb (0 : Nat) (0 : Nat) (0 : Nat))), (Prod.mk (2 : Nat) (num IntKind.i64 s.snd.snd.fst)), (Prod.mk (4 : Nat) (T.pb (1 : Nat) (1 : Nat) (0 : Nat))), (Prod.mk (6 : Nat) (T.pb (2 : Nat) (1 : Nat) (0 : Nat))), (Prod.mk (7 : Nat) (T.pb (3 : Nat) (1 : Nat) (0 : Nat))), (Prod.mk (8 : Nat) (num IntKind.i64 s.snd.snd.snd.snd))] [(Row.mk (0 : Nat) (Option.some (RC.mk (82 : Nat) RK.part s.snd.snd.snd.fst.queue)))] [(Box.mk (0 : Nat) (Option.some [(Cm.d (D.r RK.u8 s.fst.b)), (Cm.d (D.i IntKind.i64 s.fst.p))])), (Box.mk (1 : Nat) (Option.some [(Cm.d (D.i IntKind.i64 s.snd.fst.mode)), (Cm.d (D.i IntKind.i64 s.snd.fst.win)), (Cm.d (D.i IntKind.i64 s.snd.fst.mps)), (Cm.d (D.i IntKind.i64 s.snd.fst.mtu)), (Cm.d (D.i IntKind.i64 s.snd.fst.try_))])), (Box.mk (1 : Nat) (Option.some [(Cm.d (D.i IntKind.i64 (0 : Int))), (Cm.d (D.r RK.part ([] : (List Part)))), (Cm.d (D.i IntKind.i64 (0 : Int))), (Cm.d (D.i IntKind.i64 (0 : Int))), (Cm.d (D.b false))])), (Box.mk (1 : Nat) (Option.some [(Cm.d (D.i IntKind.i64 s.snd.snd.snd.fst.have_)), (Cm.ref (0 : Nat) (0 : Nat)), (Cm.d (D.i IntKind.i64 s.snd.snd.snd.fst.granted)), (Cm.d (D.i IntKind.i64 s.snd.snd.snd.fst.sent)), (Cm.d (D.b s.snd.snd.snd.fst.dead))]))])) ∧
 (∃ m1 : Nat,
 (m1 < n) ∧
 ((s.snd.fst = c0) ∧
 ((s.snd.snd.fst = m0) ∧
 (((List.length s.snd.snd.snd.fst.queue) ≤ (24 : Nat)) ∧
 ((∀ p : Part,
 (List.Mem p s.snd.snd.snd.fst.queue) →
 ((List.length p.data) ≤ (24 : Nat))) ∧
 ((((m1 : Nat) : Int) = s.snd.snd.snd.snd) ∧
 (((Bytes r0.b) ∧
 (((List.length r0.b) ≤ (2000 : Nat)) ∧
 (((0 : Int) ≤ r0.p) ∧
 (r0.p ≤ (40000100 : Int))))) ∧
 (((s.fst.b = r0.b) ∧
 ((r0.p ≤ s.fst.p) ∧
 (s.fst.p ≤ (r0.p + ((80 : Int) * (k0 - s.snd.snd.snd.snd)))))) ∧
 ((s.snd.snd.snd.snd ≤ k0) ∧
 (k0 ≤ (15 : Int))))))))))))))))))))))) ∧
 ((true = true) ∧
 ((((Bytes r3.snd.b) ∧
 (((List.length r3.snd.b) ≤ (2000 : Nat)) ∧
 (((0 : Int) ≤ r3.snd.p) ∧
 (r3.snd.p ≤ (1000000000 : Int))))) ∧
 ((2 : Int) ≤ (1000000000 : Int))) ∧
 (∀ r4 : (Prod Int RdS),
 ((r4.snd = (RdS.mk r3.snd.b (r3.snd.p + (1 : Int)))) ∧ (((0 : Int) ≤ r4.fst) ∧ ((((1 : Int) ≤ (2 : Int)) → (r4.fst < (2 : Int))) ∧ (((2 : Int) < (1 : Int)) → (r4.fst = (0 : Int)))))) →
 (true = true) ∧
 ((true = true) ∧
 ((((0 : Int) ≤ r4.fst) ∧
 (r4.fst < (((List.length ((IntKind.wrap IntKind.i64 ((1 : Int) + r2.fst)) :: ((IntKind.wrap IntKind.i64 ((1 : Int) + r3.fst)) :: ([] : (List Int)) : (List Int)) : (List Int))) : Nat) : Int))) ∧
 ((true = true) ∧
 ((true = true) ∧
 (True ∧
 (∀ r5 : CtS,
 (r5 = (crdTake c (CtS.mk t.have_ t.queue t.granted t.sent t.dead) (at_i64 ((IntKind.wrap IntKind.i64 ((1 : Int) + r2.fst)) :: ((IntKind.wrap IntKind.i64 ((1 : Int) + r3.fst)) :: ([] : (List Int)) : (List Int)) : (List Int)) (Int.toNat r4.fst)))) →
 (true = true) ∧
 ((true = true) ∧
 ((true = true) ∧
 (∃ s : (Prod RdS (Prod Cfg (Prod Int (Prod CtS Int)))),
 ((KS.mk true [(Prod.mk (0 : Nat) (T.pb (0 : Nat) (0 : Nat) (0 : Nat))), (Prod.mk (2 : Nat) (num IntKind.i64 m)), (Prod.mk (4 : Nat) (T.pb (1 : Nat) (1 : Nat) (0 : Nat))), (Prod.mk (6 : Nat) (T.pb (2 : Nat) (1 : Nat) (0 : Nat))), (Prod.mk (7 : Nat) (T.pb (3 : Nat) (1 : Nat) (0 : Nat))), (Prod.mk (8 : Nat) (num IntKind.i64 (IntKind.wrap IntKind.i64 (k - (1 : Int)))))] [(Row.mk (0 : Nat) (Option.some (RC.mk (82 : Nat) RK.part r5.queue)))] [(Box.mk (Min.min (0 : Nat) (1 : Nat)) (Option.some [(Cm.d (D.r RK.u8 r4.snd.b)), (Cm.d (D.i IntKind.i64 r4.snd.p))])), (Box.mk (Min.min (1 : Nat) (1 : Nat)) (Option.some [(Cm.d (D.i IntKind.i64 c.mode)), (Cm.d (D.i IntKind.i64 c.win)), (Cm.d (D.i IntKind.i64 c.mps)), (Cm.d (D.i IntKind.i64 c.mtu)), (Cm.d (D.i IntKind.i64 c.try_))])), (Box.mk (1 : Nat) (Option.some [(Cm.d (D.i IntKind.i64 (0 : Int))), (Cm.d (D.r RK.part ([] : (List Part)))), (Cm.d (D.i IntKind.i64 (0 : Int))), (Cm.d (D.i IntKind.i64 (0 : Int))), (Cm.d (D.b false))])), (Box.mk (Min.min (1 : Nat) (1 : Nat)) (Option.some [(Cm.d (D.i IntKind.i64 r5.have_)), (Cm.ref (0 : Nat) (0 : Nat)), (Cm.d (D.i IntKind.i64 r5.granted)), (Cm.d (D.i IntKind.i64 r5.sent)), (Cm.d (D.b r5.dead))]))]) = (KS.mk true [(Prod.mk (0 : Nat) (T.pb (0 : Nat) (0 : Nat) (0 : Nat))), (Prod.mk (2 : Nat) (num IntKind.i64 s.snd.snd.fst)), (Prod.mk (4 : Nat) (T.pb (1 : Nat) (1 : Nat) (0 : Nat))), (Prod.mk (6 : Nat) (T.pb (2 : Nat) (1 : Nat) (0 : Nat))), (Prod.mk (7 : Nat) (T.pb (3 : Nat) (1 : Nat) (0 : Nat))), (Prod.mk (8 : Nat) (num IntKind.i64 s.snd.snd.snd.snd))] [(Row.mk (0 : Nat) (Option.some (RC.mk (82 : Nat) RK.part s.snd.snd.snd.fst.queue)))] [(Box.mk (0 : Nat) (Option.some [(Cm.d (D.r RK.u8 s.fst.b)), (Cm.d (D.i IntKind.i64 s.fst.p))])), (Box.mk (1 : Nat) (Option.some [(Cm.d (D.i IntKind.i64 s.snd.fst.mode)), (Cm.d (D.i IntKind.i64 s.snd.fst.win)), (Cm.d (D.i IntKind.i64 s.snd.fst.mps)), (Cm.d (D.i IntKind.i64 s.snd.fst.mtu)), (Cm.d (D.i IntKind.i64 s.snd.fst.try_))])), (Box.mk (1 : Nat) (Option.some [(Cm.d (D.i IntKind.i64 (0 : Int))), (Cm.d (D.r RK.part ([] : (List Part)))), (Cm.d (D.i IntKind.i64 (0 : Int))), (Cm.d (D.i IntKind.i64 (0 : Int))), (Cm.d (D.b false))])), (Box.mk (1 : Nat) (Option.some [(Cm.d (D.i IntKind.i64 s.snd.snd.snd.fst.have_)), (Cm.ref (0 : Nat) (0 : Nat)), (Cm.d (D.i IntKind.i64 s.snd.snd.snd.fst.granted)), (Cm.d (D.i IntKind.i64 s.snd.snd.snd.fst.sent)), (Cm.d (D.b s.snd.snd.snd.fst.dead))]))])) ∧
 (∃ m1 : Nat,
 (m1 < n) ∧
 ((s.snd.fst = c0) ∧
 ((s.snd.snd.fst = m0) ∧
 (((List.length s.snd.snd.snd.fst.queue) ≤ (24 : Nat)) ∧
 ((∀ p : Part,
 (List.Mem p s.snd.snd.snd.fst.queue) →
 ((List.length p.data) ≤ (24 : Nat))) ∧
 ((((m1 : Nat) : Int) = s.snd.snd.snd.snd) ∧
 (((Bytes r0.b) ∧
 (((List.length r0.b) ≤ (2000 : Nat)) ∧
 (((0 : Int) ≤ r0.p) ∧
 (r0.p ≤ (40000100 : Int))))) ∧
 (((s.fst.b = r0.b) ∧
 ((r0.p ≤ s.fst.p) ∧
 (s.fst.p ≤ (r0.p + ((80 : Int) * (k0 - s.snd.snd.snd.snd)))))) ∧
 ((s.snd.snd.snd.snd ≤ k0) ∧
 (k0 ≤ (15 : Int))))))))))))))))))))))))))))))))))
 else
 ((true = true) ∧
 (True ∧
 (∀ r2 : CtSendR,
 (r2 = (crdSend c (CtS.mk t.have_ t.queue t.granted t.sent t.dead))) →
 (true = true) ∧
 (∃ s : (Prod RdS (Prod Cfg (Prod Int (Prod CtS Int)))),
 ((KS.mk true [(Prod.mk (0 : Nat) (T.pb (0 : Nat) (0 : Nat) (0 : Nat))), (Prod.mk (2 : Nat) (num IntKind.i64 m)), (Prod.mk (4 : Nat) (T.pb (1 : Nat) (1 : Nat) (0 : Nat))), (Prod.mk (6 : Nat) (T.pb (2 : Nat) (1 : Nat) (0 : Nat))), (Prod.mk (7 : Nat) (T.pb (3 : Nat) (1 : Nat) (0 : Nat))), (Prod.mk (8 : Nat) (num IntKind.i64 (IntKind.wrap IntKind.i64 (k - (1 : Int)))))] [(Row.mk (0 : Nat) (Option.some (RC.mk (82 : Nat) RK.part r2.t.queue)))] [(Box.mk (Min.min (0 : Nat) (1 : Nat)) (Option.some [(Cm.d (D.r RK.u8 r1.snd.b)), (Cm.d (D.i IntKind.i64 r1.snd.p))])), (Box.mk (Min.min (1 : Nat) (1 : Nat)) (Option.some [(Cm.d (D.i IntKind.i64 c.mode)), (Cm.d (D.i IntKind.i64 c.win)), (Cm.d (D.i IntKind.i64 c.mps)), (Cm.d (D.i IntKind.i64 c.mtu)), (Cm.d (D.i IntKind.i64 c.try_))])), (Box.mk (1 : Nat) (Option.some [(Cm.d (D.i IntKind.i64 (0 : Int))), (Cm.d (D.r RK.part ([] : (List Part)))), (Cm.d (D.i IntKind.i64 (0 : Int))), (Cm.d (D.i IntKind.i64 (0 : Int))), (Cm.d (D.b false))])), (Box.mk (Min.min (1 : Nat) (1 : Nat)) (Option.some [(Cm.d (D.i IntKind.i64 r2.t.have_)), (Cm.ref (0 : Nat) (0 : Nat)), (Cm.d (D.i IntKind.i64 r2.t.granted)), (Cm.d (D.i IntKind.i64 r2.t.sent)), (Cm.d (D.b r2.t.dead))]))]) = (KS.mk true [(Prod.mk (0 : Nat) (T.pb (0 : Nat) (0 : Nat) (0 : Nat))), (Prod.mk (2 : Nat) (num IntKind.i64 s.snd.snd.fst)), (Prod.mk (4 : Nat) (T.pb (1 : Nat) (1 : Nat) (0 : Nat))), (Prod.mk (6 : Nat) (T.pb (2 : Nat) (1 : Nat) (0 : Nat))), (Prod.mk (7 : Nat) (T.pb (3 : Nat) (1 : Nat) (0 : Nat))), (Prod.mk (8 : Nat) (num IntKind.i64 s.snd.snd.snd.snd))] [(Row.mk (0 : Nat) (Option.some (RC.mk (82 : Nat) RK.part s.snd.snd.snd.fst.queue)))] [(Box.mk (0 : Nat) (Option.some [(Cm.d (D.r RK.u8 s.fst.b)), (Cm.d (D.i IntKind.i64 s.fst.p))])), (Box.mk (1 : Nat) (Option.some [(Cm.d (D.i IntKind.i64 s.snd.fst.mode)), (Cm.d (D.i IntKind.i64 s.snd.fst.win)), (Cm.d (D.i IntKind.i64 s.snd.fst.mps)), (Cm.d (D.i IntKind.i64 s.snd.fst.mtu)), (Cm.d (D.i IntKind.i64 s.snd.fst.try_))])), (Box.mk (1 : Nat) (Option.some [(Cm.d (D.i IntKind.i64 (0 : Int))), (Cm.d (D.r RK.part ([] : (List Part)))), (Cm.d (D.i IntKind.i64 (0 : Int))), (Cm.d (D.i IntKind.i64 (0 : Int))), (Cm.d (D.b false))])), (Box.mk (1 : Nat) (Option.some [(Cm.d (D.i IntKind.i64 s.snd.snd.snd.fst.have_)), (Cm.ref (0 : Nat) (0 : Nat)), (Cm.d (D.i IntKind.i64 s.snd.snd.snd.fst.granted)), (Cm.d (D.i IntKind.i64 s.snd.snd.snd.fst.sent)), (Cm.d (D.b s.snd.snd.snd.fst.dead))]))])) ∧
 (∃ m1 : Nat,
 (m1 < n) ∧
 ((s.snd.fst = c0) ∧
 ((s.snd.snd.fst = m0) ∧
 (((List.length s.snd.snd.snd.fst.queue) ≤ (24 : Nat)) ∧
 ((∀ p : Part,
 (List.Mem p s.snd.snd.snd.fst.queue) →
 ((List.length p.data) ≤ (24 : Nat))) ∧
 ((((m1 : Nat) : Int) = s.snd.snd.snd.snd) ∧
 (((Bytes r0.b) ∧
 (((List.length r0.b) ≤ (2000 : Nat)) ∧
 (((0 : Int) ≤ r0.p) ∧
 (r0.p ≤ (40000100 : Int))))) ∧
 (((s.fst.b = r0.b) ∧
 ((r0.p ≤ s.fst.p) ∧
 (s.fst.p ≤ (r0.p + ((80 : Int) * (k0 - s.snd.snd.snd.snd)))))) ∧
 ((s.snd.snd.snd.snd ≤ k0) ∧
 (k0 ≤ (15 : Int)))))))))))))))))))))
 else
 (∃ r1 : (Prod RdS (Prod Cfg (Prod Int CtS))),
 ((KS.mk true [(Prod.mk (0 : Nat) (T.pb (0 : Nat) (0 : Nat) (0 : Nat))), (Prod.mk (2 : Nat) (num IntKind.i64 m)), (Prod.mk (4 : Nat) (T.pb (1 : Nat) (1 : Nat) (0 : Nat))), (Prod.mk (6 : Nat) (T.pb (2 : Nat) (1 : Nat) (0 : Nat))), (Prod.mk (7 : Nat) (T.pb (3 : Nat) (1 : Nat) (0 : Nat)))] [(Row.mk (0 : Nat) (Option.some (RC.mk (82 : Nat) RK.part t.queue)))] [(Box.mk (Min.min (0 : Nat) (1 : Nat)) (Option.some [(Cm.d (D.r RK.u8 r.b)), (Cm.d (D.i IntKind.i64 r.p))])), (Box.mk (Min.min (1 : Nat) (1 : Nat)) (Option.some [(Cm.d (D.i IntKind.i64 c.mode)), (Cm.d (D.i IntKind.i64 c.win)), (Cm.d (D.i IntKind.i64 c.mps)), (Cm.d (D.i IntKind.i64 c.mtu)), (Cm.d (D.i IntKind.i64 c.try_))])), (Box.mk (1 : Nat) (Option.some [(Cm.d (D.i IntKind.i64 (0 : Int))), (Cm.d (D.r RK.part ([] : (List Part)))), (Cm.d (D.i IntKind.i64 (0 : Int))), (Cm.d (D.i IntKind.i64 (0 : Int))), (Cm.d (D.b false))])), (Box.mk (Min.min (1 : Nat) (1 : Nat)) (Option.some [(Cm.d (D.i IntKind.i64 t.have_)), (Cm.ref (0 : Nat) (0 : Nat)), (Cm.d (D.i IntKind.i64 t.granted)), (Cm.d (D.i IntKind.i64 t.sent)), (Cm.d (D.b t.dead))]))]) = (KS.mk true [(Prod.mk (0 : Nat) (T.pb (0 : Nat) (0 : Nat) (0 : Nat))), (Prod.mk (2 : Nat) (num IntKind.i64 r1.snd.snd.fst)), (Prod.mk (4 : Nat) (T.pb (1 : Nat) (1 : Nat) (0 : Nat))), (Prod.mk (6 : Nat) (T.pb (2 : Nat) (1 : Nat) (0 : Nat))), (Prod.mk (7 : Nat) (T.pb (3 : Nat) (1 : Nat) (0 : Nat)))] [(Row.mk (0 : Nat) (Option.some (RC.mk (82 : Nat) RK.part r1.snd.snd.snd.queue)))] [(Box.mk (0 : Nat) (Option.some [(Cm.d (D.r RK.u8 r1.fst.b)), (Cm.d (D.i IntKind.i64 r1.fst.p))])), (Box.mk (1 : Nat) (Option.some [(Cm.d (D.i IntKind.i64 r1.snd.fst.mode)), (Cm.d (D.i IntKind.i64 r1.snd.fst.win)), (Cm.d (D.i IntKind.i64 r1.snd.fst.mps)), (Cm.d (D.i IntKind.i64 r1.snd.fst.mtu)), (Cm.d (D.i IntKind.i64 r1.snd.fst.try_))])), (Box.mk (1 : Nat) (Option.some [(Cm.d (D.i IntKind.i64 (0 : Int))), (Cm.d (D.r RK.part ([] : (List Part)))), (Cm.d (D.i IntKind.i64 (0 : Int))), (Cm.d (D.i IntKind.i64 (0 : Int))), (Cm.d (D.b false))])), (Box.mk (1 : Nat) (Option.some [(Cm.d (D.i IntKind.i64 r1.snd.snd.snd.have_)), (Cm.ref (0 : Nat) (0 : Nat)), (Cm.d (D.i IntKind.i64 r1.snd.snd.snd.granted)), (Cm.d (D.i IntKind.i64 r1.snd.snd.snd.sent)), (Cm.d (D.b r1.snd.snd.snd.dead))]))])) ∧
 ((r1.snd.snd.fst = m0) ∧
 (((List.length r1.snd.snd.snd.queue) ≤ (24 : Nat)) ∧
 ((∀ p : Part,
 (List.Mem p r1.snd.snd.snd.queue) →
 ((List.length p.data) ≤ (24 : Nat))) ∧
 ((r1.fst.b = r0.b) ∧
 ((r0.p ≤ r1.fst.p) ∧
 (r1.fst.p ≤ (r0.p + ((80 : Int) * k0))))))))) := by
  try dsimp only at hp
  try dsimp only at hp
  obtain ⟨rfl, rfl, h1, h2, h3, ⟨g1, g2, g3, g4⟩, ⟨e1, e2, e3⟩, h6, h7⟩ := hi
  obtain ⟨p1, p2, p3, p4, p5, p6⟩ := hp
  have hq : QOk t := ⟨h1, h2⟩
  repeat' first
    | exact rfl
    | exact True.intro
    | with_reducible apply And.intro
    | (with_reducible intro y_ hy_; subst y_)
    | with_reducible intro y_
    | (refine iteI (fun h => ?_) (fun h => ?_))
  all_goals try have hk0 : 0 < k := of_decide_eq_true ‹decide (k > 0) = true›
  all_goals try simp (disch := omega) only [wr] at *
  all_goals first
    | assumption
    | omega
    | (refine ⟨(⟨_, _⟩, c, m, ⟨_, _, _, _, _⟩, k - 1), rfl, n - 1, by omega, rfl, rfl, ?_, ?_, by (show _ = k - 1; omega), ⟨g1, g2, g3, g4⟩, ⟨?_, ?_, ?_⟩, by (show k - 1 ≤ k0; omega), h7⟩
       · first | exact (crdPut_q _ hq).1 | exact (crdSend_q hq).1 | exact (crdTake_q _ hq).1
       · first | exact (crdPut_q _ hq).2 | exact (crdSend_q hq).2 | exact (crdTake_q _ hq).2
       · grind [RdOn]
       · grind [RdOn]
       · grind [RdOn])
    | exact ⟨(r, c, m, t), rfl, rfl, h1, h2, ⟨e1, e2, by (show r.p ≤ r0.p + 80 * k0); omega⟩⟩
    | grind [RdOk, RdOn]
theorem vS_spec_l20Ctx_0 (r0 : RdS) (c0 : Cfg) (m0 : Int) (t0 : CtS) (k0 : Int) (hp : (fun (r : RdS) (c : Cfg) (m : Int) (t : CtS) (k : Int) => (RdOk r 40000100 ∧ 0 ≤ c.mtu ∧ c.mtu ≤ 25 ∧ t.queue = [] ∧ 0 ≤ k ∧ k ≤ 15)) r0 c0 m0 t0 k0) : ∃ n : Nat, (fun (r : RdS) (c : Cfg) (m : Int) (t : CtS) (k : Int) => (c = c0 ∧ m = m0 ∧ t.queue.length ≤ 24 ∧ (∀ p ∈ t.queue, p.data.length ≤ 24) ∧ (n : Int) = k ∧ RdOk r0 40000100 ∧ RdOn r0 r (80 * (k0 - k)) ∧ k ≤ k0 ∧ k0 ≤ 15)) r0 c0 m0 t0 k0 := by
  try dsimp only at hp
  try dsimp only
  obtain ⟨h1, h2, h3, h4, h5, h6⟩ := hp
  exact ⟨k0.toNat, rfl, rfl, by rw [h4]; simp, by rw [h4]; simp, by omega, h1, ⟨rfl, by omega, by omega⟩, by omega, h6⟩
theorem w_spec_l20Ctx : Valid Try.prog 89 c_spec_l20Ctx :=
  valid_ctr2 (V := V_spec_l20Ctx) (tysB_ok tys_ok) (CallsL.cons w_spec_CrdTake (CallsL.cons w_spec_CrdPut (CallsL.cons w_spec_CrdSend (CallsL.cons w_spec_l20Rd_pick (CallsL.cons w_spec_l20Bytes (CallsL.cons w_spec_l20Rd_odd (CallsL.cons w_spec_l20PartOr (CallsL.nil _)))))))) mixed 1 3 Try.func89 rfl (by kernel_rfl)
    (fun c hc => by
      obtain rfl := Option.some.inj hc
      exact ⟨trivial, ⟨trivial, ⟨⟨trivial, ⟨LoopD.ok2 (V := V_spec_l20Ctx) l_spec_l20Ctx_0 (LoopsM.cons 0 l_spec_l20Ctx_0 LoopsM.nil) 0 _ i_spec_l20Ctx_0 (fun x hx => vS_spec_l20Ctx_0 x.1 x.2.1 x.2.2.1 x.2.2.2.1 x.2.2.2.2 hx) (fun x hx n s hi => ⟨_, by kernel_rfl, vL_spec_l20Ctx_0 x.1 x.2.1 x.2.2.1 x.2.2.2.1 x.2.2.2.2 s.1 s.2.1 s.2.2.1 s.2.2.2.1 s.2.2.2.2 n hx hi⟩), ⟨⟨trivial, ⟨trivial, trivial⟩⟩, ⟨⟨trivial, ⟨⟨trivial, ⟨trivial, trivial⟩⟩, ⟨trivial, ⟨trivial, ⟨trivial, trivial⟩⟩⟩⟩⟩, trivial⟩⟩⟩⟩, ⟨⟨trivial, ⟨⟨trivial, ⟨trivial, ⟨trivial, ⟨trivial, ⟨trivial, ⟨trivial, ⟨trivial, trivial⟩⟩⟩⟩⟩⟩⟩, trivial⟩⟩, ⟨trivial, trivial⟩⟩⟩⟩⟩)
    (fun x K hp hk => ⟨_, by kernel_rfl, vF_spec_l20Ctx x.1 x.2.1 x.2.2 K hp (fun t q h => hk (t, q) h)⟩)
theorem vF_spec_DrawCrdTxOk (l : List Int) (K : List Arg → List (List AC) → Prop) (hp : Bytes l) (hk : ∀ (c : Cfg) (x : CtS), (x.queue.length ≤ 30 ∧ (∀ p ∈ x.queue, p.data.length ≤ 200)) → K ([rCfg.to c, rCt.to x]) ([])) :
 (true = true) ∧
 ((Bytes l) ∧
 (∀ r : RdS,
 (r = (RdS.mk (List.take (2000 : Nat) l) (0 : Int))) →
 (true = true) ∧
 ((true = true) ∧
 ((((Bytes r.b) ∧
 (((List.length r.b) ≤ (2000 : Nat)) ∧
 (((0 : Int) ≤ r.p) ∧
 (r.p ≤ (40000000 : Int))))) ∧
 ((12 : Int) ≤ (1000 : Int))) ∧
 (∀ r1 : (Prod Cfg RdS),
 ((RdOn r r1.snd (20 : Int)) ∧ (((0 : Int) ≤ r1.fst.mtu) ∧ (r1.fst.mtu ≤ (25 : Int)))) →
 (true = true) ∧
 ((true = true) ∧
 ((((Bytes r1.snd.b) ∧
 (((List.length r1.snd.b) ≤ (2000 : Nat)) ∧
 (((0 : Int) ≤ r1.snd.p) ∧
 (r1.snd.p ≤ (40000000 : Int))))) ∧
 (((2 : Int) ≤ (1000 : Int)) ∧
 (((0 : Int) ≤ r1.fst.mtu) ∧
 (r1.fst.mtu ≤ (25 : Int))))) ∧
 (∀ r2 : (Prod CtS RdS),
 (((List.length r2.fst.queue) ≤ (30 : Nat)) ∧ ((∀ p : Part, ((Membership.mem r2.fst.queue p) → ((List.length p.data) ≤ (200 : Nat)))) ∧ (RdOn r1.snd r2.snd (2000 : Int)))) →
 (true = true) ∧
 ((true = true) ∧
 ((true = true) ∧
 ((true = true) ∧
 ((true = true) ∧
 (K [(Arg.v true [(AC.d (D.i IntKind.i64 r1.fst.mode)), (AC.d (D.i IntKind.i64 r1.fst.win)), (AC.d (D.i IntKind.i64 r1.fst.mps)), (AC.d (D.i IntKind.i64 r1.fst.mtu)), (AC.d (D.i IntKind.i64 r1.fst.try_))]), (Arg.v true [(AC.d (D.i IntKind.i64 r2.fst.have_)), (AC.d (D.r RK.part r2.fst.queue)), (AC.d (D.i IntKind.i64 r2.fst.granted)), (AC.d (D.i IntKind.i64 r2.fst.sent)), (AC.d (D.b r2.fst.dead))])] []))))))))))))) := by
  repeat' first
    | exact rfl
    | exact True.intro
    | with_reducible apply And.intro
    | (with_reducible intro r hr; subst hr)
    | with_reducible intro r
    | (refine iteI (fun h => ?_) (fun h => ?_))
  all_goals try simp (disch := omega) only [wr] at *
  all_goals first
    | assumption
    | omega
    | exact hk (Prod.fst _) (Prod.fst _) (by (try dsimp only); grind [RdOk, RdOn, Bytes.cons, Bytes.nil, Bytes.take])
    | grind [RdOk, RdOn, Bytes.cons, Bytes.nil, Bytes.take]
    | exact hk (Prod.fst _) (Prod.fst _) (by (try dsimp only); refine ⟨?_, ?_, ?_⟩; all_goals first | (grind [RdOk, RdOn, Bytes.cons, Bytes.nil, Bytes.take]; done) | (simp; done) | (simp; omega))
theorem w_spec_DrawCrdTxOk : Valid Try.prog 31 c_spec_DrawCrdTxOk :=
  valid_ctr2 (V := V_spec_DrawCrdTxOk) (tysB_ok tys_ok) (CallsL.cons w_spec_l20Open (CallsL.cons w_spec_l20Cfg (CallsL.cons w_spec_l20Ctx (CallsL.nil _)))) mixed 0 4 Try.func31 rfl (by kernel_rfl)
    (fun c hc => by
      obtain rfl := Option.some.inj hc
      exact ⟨trivial, ⟨trivial, ⟨trivial, ⟨trivial, trivial⟩⟩⟩⟩)
    (fun x K hp hk => ⟨_, by kernel_rfl, vF_spec_DrawCrdTxOk x K hp (fun c x h => hk (c, x) h)⟩)
theorem vF_spec_DrawCrdSend (l : List Int) (K : List Arg → List (List AC) → Prop) (hp : Bytes l) (hk : ∀ (c : Cfg) (x : CtS), (x.queue.length ≤ 30 ∧ (∀ p ∈ x.queue, p.data.length ≤ 200)) → K ([rCfg.to c, rCt.to x]) ([])) :
 (true = true) ∧
 ((Bytes l) ∧
 (∀ r : RdS,
 (r = (RdS.mk (List.take (2000 : Nat) l) (0 : Int))) →
 (true = true) ∧
 ((true = true) ∧
 ((((Bytes r.b) ∧
 (((List.length r.b) ≤ (2000 : Nat)) ∧
 (((0 : Int) ≤ r.p) ∧
 (r.p ≤ (40000000 : Int))))) ∧
 ((20 : Int) ≤ (1000 : Int))) ∧
 (∀ r1 : (Prod Cfg RdS),
 ((RdOn r r1.snd (20 : Int)) ∧ (((0 : Int) ≤ r1.fst.mtu) ∧ (r1.fst.mtu ≤ (25 : Int)))) →
 (true = true) ∧
 ((true = true) ∧
 ((((Bytes r1.snd.b) ∧
 (((List.length r1.snd.b) ≤ (2000 : Nat)) ∧
 (((0 : Int) ≤ r1.snd.p) ∧
 (r1.snd.p ≤ (40000000 : Int))))) ∧
 (((9 : Int) ≤ (1000 : Int)) ∧
 (((0 : Int) ≤ r1.fst.mtu) ∧
 (r1.fst.mtu ≤ (25 : Int))))) ∧
 (∀ r2 : (Prod CtS RdS),
 (((List.length r2.fst.queue) ≤ (30 : Nat)) ∧ ((∀ p : Part, ((Membership.mem r2.fst.queue p) → ((List.length p.data) ≤ (200 : Nat)))) ∧ (RdOn r1.snd r2.snd (2000 : Int)))) →
 (true = true) ∧
 ((true = true) ∧
 ((true = true) ∧
 ((true = true) ∧
 ((true = true) ∧
 (K [(Arg.v true [(AC.d (D.i IntKind.i64 r1.fst.mode)), (AC.d (D.i IntKind.i64 r1.fst.win)), (AC.d (D.i IntKind.i64 r1.fst.mps)), (AC.d (D.i IntKind.i64 r1.fst.mtu)), (AC.d (D.i IntKind.i64 r1.fst.try_))]), (Arg.v true [(AC.d (D.i IntKind.i64 r2.fst.have_)), (AC.d (D.r RK.part r2.fst.queue)), (AC.d (D.i IntKind.i64 r2.fst.granted)), (AC.d (D.i IntKind.i64 r2.fst.sent)), (AC.d (D.b r2.fst.dead))])] []))))))))))))) := by
  repeat' first
    | exact rfl
    | exact True.intro
    | with_reducible apply And.intro
    | (with_reducible intro r hr; subst hr)
    | with_reducible intro r
    | (refine iteI (fun h => ?_) (fun h => ?_))
  all_goals try simp (disch := omega) only [wr] at *
  all_goals first
    | assumption
    | omega
    | exact hk (Prod.fst _) (Prod.fst _) (by (try dsimp only); grind [RdOk, RdOn, Bytes.cons, Bytes.nil, Bytes.take])
    | grind [RdOk, RdOn, Bytes.cons, Bytes.nil, Bytes.take]
    | exact hk (Prod.fst _) (Prod.fst _) (by (try dsimp only); refine ⟨?_, ?_, ?_⟩; all_goals first | (grind [RdOk, RdOn, Bytes.cons, Bytes.nil, Bytes.take]; done) | (simp; done) | (simp; omega))
theorem w_spec_DrawCrdSend : Valid Try.prog 54 c_spec_DrawCrdSend :=
  valid_ctr2 (V := V_spec_DrawCrdSend) (tysB_ok tys_ok) (CallsL.cons w_spec_l20Open (CallsL.cons w_spec_l20Cfg (CallsL.cons w_spec_l20Ctx (CallsL.nil _)))) mixed 0 4 Try.func54 rfl (by kernel_rfl)
    (fun c hc => by
      obtain rfl := Option.some.inj hc
      exact ⟨trivial, ⟨trivial, ⟨trivial, ⟨trivial, trivial⟩⟩⟩⟩)
    (fun x K hp hk => ⟨_, by kernel_rfl, vF_spec_DrawCrdSend x K hp (fun c x h => hk (c, x) h)⟩)
theorem vF_spec_DrawCrdPut (l : List Int) (K : List Arg → List (List AC) → Prop) (hp : Bytes l) (hk : ∀ (c : Cfg) (x : CtS) (s : List Int), (x.queue.length ≤ 30 ∧ (∀ p ∈ x.queue, p.data.length ≤ 200) ∧ s.length ≤ 25) → K ([rCfg.to c, rCt.to x, rBytes.to s]) ([])) :
 (true = true) ∧
 ((Bytes l) ∧
 (∀ r : RdS,
 (r = (RdS.mk (List.take (2000 : Nat) l) (0 : Int))) →
 (true = true) ∧
 ((true = true) ∧
 ((((Bytes r.b) ∧
 (((List.length r.b) ≤ (2000 : Nat)) ∧
 (((0 : Int) ≤ r.p) ∧
 (r.p ≤ (40000000 : Int))))) ∧
 ((20 : Int) ≤ (1000 : Int))) ∧
 (∀ r1 : (Prod Cfg RdS),
 ((RdOn r r1.snd (20 : Int)) ∧ (((0 : Int) ≤ r1.fst.mtu) ∧ (r1.fst.mtu ≤ (25 : Int)))) →
 (true = true) ∧
 ((true = true) ∧
 ((((Bytes r1.snd.b) ∧
 (((List.length r1.snd.b) ≤ (2000 : Nat)) ∧
 (((0 : Int) ≤ r1.snd.p) ∧
 (r1.snd.p ≤ (40000000 : Int))))) ∧
 (((9 : Int) ≤ (1000 : Int)) ∧
 (((0 : Int) ≤ r1.fst.mtu) ∧
 (r1.fst.mtu ≤ (25 : Int))))) ∧
 (∀ r2 : (Prod CtS RdS),
 (((List.length r2.fst.queue) ≤ (30 : Nat)) ∧ ((∀ p : Part, ((Membership.mem r2.fst.queue p) → ((List.length p.data) ≤ (200 : Nat)))) ∧ (RdOn r1.snd r2.snd (2000 : Int)))) →
 (true = true) ∧
 ((true = true) ∧
 ((true = true) ∧
 ((((Bytes r2.snd.b) ∧
 (((List.length r2.snd.b) ≤ (2000 : Nat)) ∧
 (((0 : Int) ≤ r2.snd.p) ∧
 (r2.snd.p ≤ (100000000 : Int))))) ∧
 (((0 : Int) ≤ (25 : Int)) ∧
 ((25 : Int) ≤ (900 : Int)))) ∧
 (∀ r3 : (Prod (List Int) RdS),
 ((Bytes r3.fst) ∧ (((((List.length r3.fst) : Nat) : Int) ≤ (25 : Int)) ∧ (RdOn r2.snd r3.snd ((1 : Int) + ((3 : Int) * (25 : Int)))))) →
 (true = true) ∧
 ((true = true) ∧
 ((true = true) ∧
 ((true = true) ∧
 ((true = true) ∧
 (K [(Arg.v true [(AC.d (D.i IntKind.i64 r1.fst.mode)), (AC.d (D.i IntKind.i64 r1.fst.win)), (AC.d (D.i IntKind.i64 r1.fst.mps)), (AC.d (D.i IntKind.i64 r1.fst.mtu)), (AC.d (D.i IntKind.i64 r1.fst.try_))]), (Arg.v true [(AC.d (D.i IntKind.i64 r2.fst.have_)), (AC.d (D.r RK.part r2.fst.queue)), (AC.d (D.i IntKind.i64 r2.fst.granted)), (AC.d (D.i IntKind.i64 r2.fst.sent)), (AC.d (D.b r2.fst.dead))]), (aR RK.u8 r3.fst)] []))))))))))))))))) := by
  repeat' first
    | exact rfl
    | exact True.intro
    | with_reducible apply And.intro
    | (with_reducible intro r hr; subst hr)
    | with_reducible intro r
    | (refine iteI (fun h => ?_) (fun h => ?_))
  all_goals try simp (disch := omega) only [wr] at *
  all_goals first
    | assumption
    | omega
    | exact hk (Prod.fst _) (Prod.fst _) _ (by (try dsimp only); grind [RdOk, RdOn, Bytes.cons, Bytes.nil, Bytes.take])
    | grind [RdOk, RdOn, Bytes.cons, Bytes.nil, Bytes.take]
    | exact hk (Prod.fst _) (Prod.fst _) _ (by (try dsimp only); refine ⟨?_, ?_, ?_⟩; all_goals first | (grind [RdOk, RdOn, Bytes.cons, Bytes.nil, Bytes.take]; done) | (simp; done) | (simp; omega))
theorem w_spec_DrawCrdPut : Valid Try.prog 46 c_spec_DrawCrdPut :=
  valid_ctr2 (V := V_spec_DrawCrdPut) (tysB_ok tys_ok) (CallsL.cons w_spec_l20Open (CallsL.cons w_spec_l20Cfg (CallsL.cons w_spec_l20Ctx (CallsL.cons w_spec_l20Bytes (CallsL.nil _))))) mixed 0 4 Try.func46 rfl (by kernel_rfl)
    (fun c hc => by
      obtain rfl := Option.some.inj hc
      exact ⟨trivial, ⟨trivial, ⟨trivial, ⟨trivial, trivial⟩⟩⟩⟩)
    (fun x K hp hk => ⟨_, by kernel_rfl, vF_spec_DrawCrdPut x K hp (fun c x s h => hk (c, x, s) h)⟩)
theorem vF_spec_DrawCrdTake (l : List Int) (K : List Arg → List (List AC) → Prop) (hp : Bytes l) (hk : ∀ (c : Cfg) (x : CtS) (n : Int), (x.queue.length ≤ 30 ∧ (∀ p ∈ x.queue, p.data.length ≤ 200)) → K ([rCfg.to c, rCt.to x, rInt.to n]) ([])) :
 (true = true) ∧
 ((Bytes l) ∧
 (∀ r : RdS,
 (r = (RdS.mk (List.take (2000 : Nat) l) (0 : Int))) →
 (true = true) ∧
 ((true = true) ∧
 ((((Bytes r.b) ∧
 (((List.length r.b) ≤ (2000 : Nat)) ∧
 (((0 : Int) ≤ r.p) ∧
 (r.p ≤ (40000000 : Int))))) ∧
 ((20 : Int) ≤ (1000 : Int))) ∧
 (∀ r1 : (Prod Cfg RdS),
 ((RdOn r r1.snd (20 : Int)) ∧ (((0 : Int) ≤ r1.fst.mtu) ∧ (r1.fst.mtu ≤ (25 : Int)))) →
 (true = true) ∧
 ((true = true) ∧
 ((((Bytes r1.snd.b) ∧
 (((List.length r1.snd.b) ≤ (2000 : Nat)) ∧
 (((0 : Int) ≤ r1.snd.p) ∧
 (r1.snd.p ≤ (40000000 : Int))))) ∧
 (((9 : Int) ≤ (1000 : Int)) ∧
 (((0 : Int) ≤ r1.fst.mtu) ∧
 (r1.fst.mtu ≤ (25 : Int))))) ∧
 (∀ r2 : (Prod CtS RdS),
 (((List.length r2.fst.queue) ≤ (30 : Nat)) ∧ ((∀ p : Part, ((Membership.mem r2.fst.queue p) → ((List.length p.data) ≤ (200 : Nat)))) ∧ (RdOn r1.snd r2.snd (2000 : Int)))) →
 (true = true) ∧
 ((true = true) ∧
 ((true = true) ∧
 ((((Bytes r2.snd.b) ∧
 (((List.length r2.snd.b) ≤ (2000 : Nat)) ∧
 (((0 : Int) ≤ r2.snd.p) ∧
 (r2.snd.p ≤ (1000000000 : Int))))) ∧
 ((9 : Int) ≤ (1000000000 : Int))) ∧
 (∀ r3 : (Prod Int RdS),
 ((r3.snd = (RdS.mk r2.snd.b (r2.snd.p + (1 : Int)))) ∧ (((0 : Int) ≤ r3.fst) ∧ ((((1 : Int) ≤ (9 : Int)) → (r3.fst < (9 : Int))) ∧ (((9 : Int) < (1 : Int)) → (r3.fst = (0 : Int)))))) →
 (true = true) ∧
 ((true = true) ∧
 ((true = true) ∧
 ((((Bytes r3.snd.b) ∧
 (((List.length r3.snd.b) ≤ (2000 : Nat)) ∧
 (((0 : Int) ≤ r3.snd.p) ∧
 (r3.snd.p ≤ (1000000000 : Int))))) ∧
 ((255 : Int) ≤ (1000000000 : Int))) ∧
 (∀ r4 : (Prod Int RdS),
 ((r4.snd = (RdS.mk r3.snd.b (r3.snd.p + (1 : Int)))) ∧ (((0 : Int) ≤ r4.fst) ∧ ((((1 : Int) ≤ (255 : Int)) → (r4.fst < (255 : Int))) ∧ (((255 : Int) < (1 : Int)) → (r4.fst = (0 : Int)))))) →
 (true = true) ∧
 ((true = true) ∧
 ((true = true) ∧
 ((((Bytes r4.snd.b) ∧
 (((List.length r4.snd.b) ≤ (2000 : Nat)) ∧
 (((0 : Int) ≤ r4.snd.p) ∧
 (r4.snd.p ≤ (1000000000 : Int))))) ∧
 ((5 : Int) ≤ (1000000000 : Int))) ∧
 (∀ r5 : (Prod Int RdS),
 ((r5.snd = (RdS.mk r4.snd.b (r4.snd.p + (1 : Int)))) ∧ (((0 : Int) ≤ r5.fst) ∧ ((((1 : Int) ≤ (5 : Int)) → (r5.fst < (5 : Int))) ∧ (((5 : Int) < (1 : Int)) → (r5.fst = (0 : Int)))))) →
 (true = true) ∧
 ((true = true) ∧
 ((((0 : Int) ≤ r5.fst) ∧
 (r5.fst < (((List.length ((IntKind.wrap IntKind.i64 ((1 : Int) + r3.fst)) :: ((0 : Int) :: ((256 : Int) :: ((255 : Int) :: ((IntKind.wrap IntKind.i64 ((1 : Int) + r4.fst)) :: ([] : (List Int)) : (List Int)) : (List Int)) : (List Int)) : (List Int)) : (List Int))) : Nat) : Int))) ∧
 ((true = true) ∧
 ((true = true) ∧
 ((true = true) ∧
 (K [(Arg.v true [(AC.d (D.i IntKind.i64 r1.fst.mode)), (AC.d (D.i IntKind.i64 r1.fst.win)), (AC.d (D.i IntKind.i64 r1.fst.mps)), (AC.d (D.i IntKind.i64 r1.fst.mtu)), (AC.d (D.i IntKind.i64 r1.fst.try_))]), (Arg.v true [(AC.d (D.i IntKind.i64 r2.fst.have_)), (AC.d (D.r RK.part r2.fst.queue)), (AC.d (D.i IntKind.i64 r2.fst.granted)), (AC.d (D.i IntKind.i64 r2.fst.sent)), (AC.d (D.b r2.fst.dead))]), (aI IntKind.i64 (at_i64 ((IntKind.wrap IntKind.i64 ((1 : Int) + r3.fst)) :: ((0 : Int) :: ((256 : Int) :: ((255 : Int) :: ((IntKind.wrap IntKind.i64 ((1 : Int) + r4.fst)) :: ([] : (List Int)) : (List Int)) : (List Int)) : (List Int)) : (List Int)) : (List Int)) (Int.toNat r5.fst)))] [])))))))))))))))))))))))))) := by
  repeat' first
    | exact rfl
    | exact True.intro
    | with_reducible apply And.intro
    | (with_reducible intro r hr; subst hr)
    | with_reducible intro r
    | (refine iteI (fun h => ?_) (fun h => ?_))
  all_goals try simp (disch := omega) only [wr] at *
  all_goals first
    | assumption
    | (generalize at_i64 _ _ = z; exact hk (Prod.fst _) (Prod.fst _) z (by (try dsimp only); grind))
    | omega
    | exact hk (Prod.fst _) (Prod.fst _) _ (by (try dsimp only); grind [RdOk, RdOn, Bytes.cons, Bytes.nil, Bytes.take])
    | grind [RdOk, RdOn, Bytes.cons, Bytes.nil, Bytes.take]
    | exact hk (Prod.fst _) (Prod.fst _) _ (by (try dsimp only); refine ⟨?_, ?_, ?_⟩; all_goals first | (grind [RdOk, RdOn, Bytes.cons, Bytes.nil, Bytes.take]; done) | (simp; done) | (simp; omega))
theorem w_spec_DrawCrdTake : Valid Try.prog 43 c_spec_DrawCrdTake :=
  valid_ctr2 (V := V_spec_DrawCrdTake) (tysB_ok tys_ok) (CallsL.cons w_spec_l20Open (CallsL.cons w_spec_l20Cfg (CallsL.cons w_spec_l20Ctx (CallsL.cons w_spec_l20Rd_pick (CallsL.nil _))))) mixed 0 4 Try.func43 rfl (by kernel_rfl)
    (fun c hc => by
      obtain rfl := Option.some.inj hc
      exact ⟨trivial, ⟨trivial, ⟨trivial, ⟨trivial, trivial⟩⟩⟩⟩)
    (fun x K hp hk => ⟨_, by kernel_rfl, vF_spec_DrawCrdTake x K hp (fun c x n h => hk (c, x, n) h)⟩)
end Go.Proofs.YtlapeiijghebjaaE
