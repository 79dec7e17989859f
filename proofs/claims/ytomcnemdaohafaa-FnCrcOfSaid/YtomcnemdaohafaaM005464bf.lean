/- A part of the proof of laws of the program: what calls of the program answer. Conditions: none. -/
import Derived.Test.YtomcnemdaohafaaMd59e4ec7
set_option linter.unusedVariables false
set_option linter.unusedSimpArgs false
set_option linter.unusedSectionVars false
/- Contracts: D. Conditions: none. -/
set_option linter.unusedVariables false
set_option maxHeartbeats 1600000
namespace Go.Proofs.YtomcnemdaohafaaE
open Go
/-! spec.l20Bytes -/
def c_spec_l20Bytes : Ent := ctr (α := (RdS) × (Int)) (ρ := (List Int) × (RdS)) [] [(0, 0)] (rs rRd (rs1 rInt)) (fun x_ => (fun (r : RdS) (n : Int) => (RdOk r 100000000 ∧ 0 ≤ n ∧ n ≤ 900)) x_.1 x_.2) (fun x_ r_ => (fun x_ => (fun (r : RdS) (n : Int) => ((fun r_ => (fun (l : List Int) (q : RdS) => (Bytes l ∧ (l.length : Int) ≤ n ∧ RdOn r q (1 + 3 * n))) r_.1 r_.2))) x_.1 x_.2) x_ r_) (fun r_ => (fun (l : List Int) (q : RdS) => ([(rO 5 .u8).to l])) r_.1 r_.2) (fun r_ => (fun (l : List Int) (q : RdS) => ([(rdC q).map .d])) r_.1 r_.2)
def l_spec_l20Bytes_0 : LoopD ((List Int) × (Int) × (RdS)) ((List Int) × (RdS)) ((Empty)) where
  n := 30
  head := ⟨[0, 5, 6], [0], [0]⟩
  st := fun x_ => (fun (o : List Int) (k : Int) (r : RdS) => (⟨true, [(0, .pb 0 0 0), (5, .v false [.ref 0 0]), (6, num .i64 k)], [⟨0, some ⟨5, .u8, o, m0⟩⟩], [⟨0, some ((rdC r).map .d)⟩]⟩)) x_.1 x_.2.1 x_.2.2
  pre := fun x_ => (fun (o : List Int) (k : Int) (r : RdS) => (Bytes o ∧ o.length = 0 ∧ 0 ≤ k ∧ k ≤ 900 ∧ RdOk r 200000000)) x_.1 x_.2.1 x_.2.2
  nk := ⟨[0, 5], [0], [0]⟩
  nst := fun r_ => (fun (o : List Int) (r : RdS) => (⟨true, [(0, .pb 0 0 0), (5, .v false [.ref 0 0])], [⟨0, some ⟨5, .u8, o, m0⟩⟩], [⟨0, some ((rdC r).map .d)⟩]⟩)) r_.1 r_.2
  npost := fun x_ r_ => (fun x_ => (fun (o0 : List Int) (k0 : Int) (r0 : RdS) => ((fun r_ => (fun (o : List Int) (r : RdS) => (Bytes o ∧ (o.length : Int) = k0 ∧ RdOn r0 r (3 * k0))) r_.1 r_.2))) x_.1 x_.2.1 x_.2.2) x_ r_
  rk := ⟨[], [], []⟩
  rst := fun _ => ⟨true, [], [], []⟩
  rpost := fun _ _ => False
def i_spec_l20Bytes_0 (x : (List Int) × (Int) × (RdS)) (n : Nat) (s : (List Int) × (Int) × (RdS)) : Prop := (fun x_ => (fun (o0 : List Int) (k0 : Int) (r0 : RdS) => ((fun s_ => (fun (o : List Int) (k : Int) (r : RdS) => (Bytes o ∧ (n : Int) = k ∧ (o.length : Int) = k0 - k ∧ k ≤ k0 ∧ k0 ≤ 900 ∧ RdOk r0 200000000 ∧ RdOn r0 r (3 * (k0 - k)))) s_.1 s_.2.1 s_.2.2))) x_.1 x_.2.1 x_.2.2) x s
def V_spec_l20Bytes : Env := ⟨tys, [(25, c_spec_l20Rd_pick)], [(7, [0])], [], [], [(0, l_spec_l20Bytes_0.L)], [], [], []⟩
end Go.Proofs.YtomcnemdaohafaaE

/- Calls answer what is promised: D. Conditions: none. -/
set_option linter.unusedVariables false
set_option maxHeartbeats 1600000
namespace Go.Proofs.YtomcnemdaohafaaE
open Go
theorem vF_spec_l20Bytes (r:RdS) (n:Int) (K:List Arg→List (List AC)→Prop) (hp:RdOk r 100000000∧0≤n∧n≤900) (hk:∀ (l:List Int) (q:RdS),(Bytes l∧(l.length:Int)≤n∧RdOn r q (1 + 3 * n))→K ([(rO 5 .u8).to l]) ([(rdC q).map .d])):(true=true)∧((((Bytes r.b)∧(((List.length r.b)≤(2000:Nat))∧(((0:Int)≤r.p)∧(r.p≤(1000000000:Int)))))∧((IntKind.wrap IntKind.i64 (n + (1:Int)))≤(1000000000:Int)))∧(∀ r1:(Prod Int RdS),((r1.snd=(RdS.mk r.b (r.p + (1:Int))))∧(((0:Int)≤r1.fst)∧((((1:Int)≤(IntKind.wrap IntKind.i64 (n + (1:Int))))→(r1.fst < (IntKind.wrap IntKind.i64 (n + (1:Int)))))∧(((IntKind.wrap IntKind.i64 (n + (1:Int))) < (1:Int))→(r1.fst=(0:Int))))))→(true=true)∧(∃ s:(Prod (List Int) (Prod Int RdS)),((KS.mk true [(Prod.mk (0:Nat) (T.pb (0:Nat) (0:Nat) (0:Nat))),(Prod.mk (5:Nat) (T.v false [(Cm.ref (0:Nat) (0:Nat))])),(Prod.mk (6:Nat) (num IntKind.i64 r1.fst))] [(Row.mk (0:Nat) (Option.some (RC.mk (5:Nat) RK.u8 ([]:(List Int)) (RM.mk (Option.none) false (0:Nat) false))))] [(Box.mk (Min.min (0:Nat) (1:Nat)) (Option.some [(Cm.d (D.r RK.u8 r1.snd.b)),(Cm.d (D.i IntKind.i64 r1.snd.p))]))])=(KS.mk true [(Prod.mk (0:Nat) (T.pb (0:Nat) (0:Nat) (0:Nat))),(Prod.mk (5:Nat) (T.v false [(Cm.ref (0:Nat) (0:Nat))])),(Prod.mk (6:Nat) (num IntKind.i64 s.snd.fst))] [(Row.mk (0:Nat) (Option.some (RC.mk (5:Nat) RK.u8 s.fst (RM.mk (Option.none) false (0:Nat) false))))] [(Box.mk (0:Nat) (Option.some [(Cm.d (D.r RK.u8 s.snd.snd.b)),(Cm.d (D.i IntKind.i64 s.snd.snd.p))]))]))∧(((Bytes s.fst)∧(((List.length s.fst)=(0:Nat))∧(((0:Int)≤s.snd.fst)∧((s.snd.fst≤(900:Int))∧((Bytes s.snd.snd.b)∧(((List.length s.snd.snd.b)≤(2000:Nat))∧(((0:Int)≤s.snd.snd.p)∧(s.snd.snd.p≤(200000000:Int)))))))))∧((∀ r2:(Prod (List Int) RdS),((Bytes r2.fst)∧(((((List.length r2.fst):Nat):Int)=s.snd.fst)∧(RdOn s.snd.snd r2.snd ((3:Int) * s.snd.fst))))→(true=true)∧(K [(Arg.v false [(AC.own (RC.mk (5:Nat) RK.u8 r2.fst (RM.mk (dpM false (Option.none)) false (0:Nat) false)))])] [[(AC.d (D.r RK.u8 r2.snd.b)),(AC.d (D.i IntKind.i64 r2.snd.p))]]))∧(∀ r2:Empty,False→False)))))) := by
  obtain ⟨⟨g1, g2, g3, g4⟩, h1, h2⟩ := hp
  obtain ⟨b, p⟩ := r
  dsimp only at *
  rw [wr (x := n + 1) (by omega) (by omega)]
  refine ⟨rfl, ⟨⟨g1, g2, g3, by omega⟩, by omega⟩, fun ⟨x1, q1⟩ ⟨a1, a2, a3, _⟩ => ?_⟩
  dsimp only at a1 a2 a3 ⊢
  subst a1
  have a4 := a3 (by omega)
  refine ⟨rfl, ([], x1, ⟨b, p + 1⟩), rfl, ⟨.nil, rfl, a2, by dsimp only; omega, g1, g2, by dsimp only; omega, by dsimp only; omega⟩, fun ⟨o, q⟩ ⟨b1, b2, b3⟩ => ⟨rfl, hk o q ⟨b1, ?_, ?_⟩⟩, fun r h => h⟩
  · dsimp only at b2; omega
  · obtain ⟨d1, d2, d3⟩ := b3
    dsimp only at d1 d2 d3
    exact ⟨d1, by dsimp only; omega, by dsimp only; omega⟩
theorem vL_spec_l20Bytes_0 (o0:List Int) (k0:Int) (r0:RdS) (o:List Int) (k:Int) (r:RdS) (n:Nat) (hp:(fun (o:List Int) (k:Int) (r:RdS) => (Bytes o∧o.length=0∧0≤k∧k≤900∧RdOk r 200000000)) o0 k0 r0) (hi:Bytes o∧(n:Int)=k∧(o.length:Int)=k0 - k∧k≤k0∧k0≤900∧RdOk r0 200000000∧RdOn r0 r (3 * (k0 - k))):if ((decide (k > (0:Int)))=true) then ((true=true)∧((((Bytes r.b)∧(((List.length r.b)≤(2000:Nat))∧(((0:Int)≤r.p)∧(r.p≤(1000000000:Int)))))∧((256:Int)≤(1000000000:Int)))∧(∀ r1:(Prod Int RdS),((r1.snd=(RdS.mk r.b (r.p + (1:Int))))∧(((0:Int)≤r1.fst)∧((((1:Int)≤(256:Int))→(r1.fst < (256:Int)))∧(((256:Int) < (1:Int))→(r1.fst=(0:Int))))))→(true=true)∧((true=true)∧((((Bytes r1.snd.b)∧(((List.length r1.snd.b)≤(2000:Nat))∧(((0:Int)≤r1.snd.p)∧(r1.snd.p≤(1000000000:Int)))))∧((4:Int)≤(1000000000:Int)))∧(∀ r2:(Prod Int RdS),((r2.snd=(RdS.mk r1.snd.b (r1.snd.p + (1:Int))))∧(((0:Int)≤r2.fst)∧((((1:Int)≤(4:Int))→(r2.fst < (4:Int)))∧(((4:Int) < (1:Int))→(r2.fst=(0:Int))))))→(true=true)∧((true=true)∧((((Bytes r2.snd.b)∧(((List.length r2.snd.b)≤(2000:Nat))∧(((0:Int)≤r2.snd.p)∧(r2.snd.p≤(1000000000:Int)))))∧((3:Int)≤(1000000000:Int)))∧(∀ r3:(Prod Int RdS),((r3.snd=(RdS.mk r2.snd.b (r2.snd.p + (1:Int))))∧(((0:Int)≤r3.fst)∧((((1:Int)≤(3:Int))→(r3.fst < (3:Int)))∧(((3:Int) < (1:Int))→(r3.fst=(0:Int))))))→(true=true)∧((((0:Int)≤r3.fst)∧(r3.fst < (((List.length (r1.fst :: (r2.fst :: ((255:Int) :: ([]:(List Int)):(List Int)):(List Int)):(List Int))):Nat):Int)))∧((((List.length o) + (List.length ((IntKind.wrap IntKind.u8 (at_i64 (r1.fst :: (r2.fst :: ((255:Int) :: ([]:(List Int)):(List Int)):(List Int)):(List Int)) (Int.toNat r3.fst))) :: ([]:(List Int)):(List Int))))≤(137438953472:Nat))∧(∃ s:(Prod (List Int) (Prod Int RdS)),((KS.mk true [(Prod.mk (0:Nat) (T.pb (0:Nat) (0:Nat) (0:Nat))),(Prod.mk (5:Nat) (T.v false [(Cm.ref (0:Nat) (0:Nat))])),(Prod.mk (6:Nat) (num IntKind.i64 (IntKind.wrap IntKind.i64 (k - (1:Int)))))] [(Row.mk (0:Nat) (Option.some (RC.mk (5:Nat) RK.u8 (o ++ ((IntKind.wrap IntKind.u8 (at_i64 (r1.fst :: (r2.fst :: ((255:Int) :: ([]:(List Int)):(List Int)):(List Int)):(List Int)) (Int.toNat r3.fst))) :: ([]:(List Int)):(List Int)):(List Int)) (RM.mk (Option.none) false (0:Nat) false))))] [(Box.mk (Min.min (0:Nat) (1:Nat)) (Option.some [(Cm.d (D.r RK.u8 r3.snd.b)),(Cm.d (D.i IntKind.i64 r3.snd.p))]))])=(KS.mk true [(Prod.mk (0:Nat) (T.pb (0:Nat) (0:Nat) (0:Nat))),(Prod.mk (5:Nat) (T.v false [(Cm.ref (0:Nat) (0:Nat))])),(Prod.mk (6:Nat) (num IntKind.i64 s.snd.fst))] [(Row.mk (0:Nat) (Option.some (RC.mk (5:Nat) RK.u8 s.fst (RM.mk (Option.none) false (0:Nat) false))))] [(Box.mk (0:Nat) (Option.some [(Cm.d (D.r RK.u8 s.snd.snd.b)),(Cm.d (D.i IntKind.i64 s.snd.snd.p))]))]))∧(∃ m:Nat,(m < n)∧((Bytes s.fst)∧((((m:Nat):Int)=s.snd.fst)∧(((((List.length s.fst):Nat):Int)=(k0 - s.snd.fst))∧((s.snd.fst≤k0)∧((k0≤(900:Int))∧(((Bytes r0.b)∧(((List.length r0.b)≤(2000:Nat))∧(((0:Int)≤r0.p)∧(r0.p≤(200000000:Int)))))∧((s.snd.snd.b=r0.b)∧((r0.p≤s.snd.snd.p)∧(s.snd.snd.p≤(r0.p + ((3:Int) * (k0 - s.snd.fst))))))))))))))))))))))))) else (∃ r1:(Prod (List Int) RdS),((KS.mk true [(Prod.mk (0:Nat) (T.pb (0:Nat) (0:Nat) (0:Nat))),(Prod.mk (5:Nat) (T.v false [(Cm.ref (0:Nat) (0:Nat))]))] [(Row.mk (0:Nat) (Option.some (RC.mk (5:Nat) RK.u8 o (RM.mk (Option.none) false (0:Nat) false))))] [(Box.mk (Min.min (0:Nat) (1:Nat)) (Option.some [(Cm.d (D.r RK.u8 r.b)),(Cm.d (D.i IntKind.i64 r.p))]))])=(KS.mk true [(Prod.mk (0:Nat) (T.pb (0:Nat) (0:Nat) (0:Nat))),(Prod.mk (5:Nat) (T.v false [(Cm.ref (0:Nat) (0:Nat))]))] [(Row.mk (0:Nat) (Option.some (RC.mk (5:Nat) RK.u8 r1.fst (RM.mk (Option.none) false (0:Nat) false))))] [(Box.mk (0:Nat) (Option.some [(Cm.d (D.r RK.u8 r1.snd.b)),(Cm.d (D.i IntKind.i64 r1.snd.p))]))]))∧((Bytes r1.fst)∧(((((List.length r1.fst):Nat):Int)=k0)∧((r1.snd.b=r0.b)∧((r0.p≤r1.snd.p)∧(r1.snd.p≤(r0.p + ((3:Int) * k0)))))))) := by
  try dsimp only at hp
  obtain ⟨h1, h2, h3, h4, h5, ⟨g1, g2, g3, g4⟩, e1, e2, e3⟩ := hi
  obtain ⟨b, p⟩ := r
  obtain ⟨b0, p0⟩ := r0
  dsimp only at *
  subst e1
  split
  · rename_i hk
    have hk : 0 < k := by simpa using hk
    refine ⟨rfl, ⟨⟨g1, g2, by omega, by omega⟩, by omega⟩, fun ⟨x1, q1⟩ ⟨a1, a2, a3, _⟩ => ?_⟩
    dsimp only at a1 a2 a3 ⊢
    subst a1
    refine ⟨rfl, rfl, ⟨⟨g1, g2, by dsimp only; omega, by dsimp only; omega⟩, by omega⟩, fun ⟨x2, q2⟩ ⟨b1, b2, b3, _⟩ => ?_⟩
    dsimp only at b1 b2 b3 ⊢
    subst b1
    refine ⟨rfl, rfl, ⟨⟨g1, g2, by dsimp only; omega, by dsimp only; omega⟩, by omega⟩, fun ⟨x3, q3⟩ ⟨c1, c2, c3, _⟩ => ?_⟩
    dsimp only at c1 c2 c3 ⊢
    subst c1
    have c4 := c3 (by omega)
    refine ⟨rfl, ⟨c2, by simp; omega⟩, by simp; omega, ?_⟩
    rw [wr8m, wr (by omega) (by omega)]
    generalize at_i64 [x1, x2, 255] x3.toNat = v
    exact ⟨(o ++ [v % 256], k - 1, ⟨b, p + 1 + 1 + 1⟩), rfl, n - 1, by omega, h1.snoc (by omega) (by omega), by dsimp only; omega, by simp; omega, by dsimp only; omega, h5, ⟨g1, g2, g3, g4⟩, rfl, by dsimp only; omega, by dsimp only; omega⟩
  · rename_i hk
    have hk : ¬ 0 < k := by simpa using hk
    exact ⟨(o, ⟨b, p⟩), rfl, h1, by dsimp only; omega, rfl, by dsimp only; omega, by dsimp only; omega⟩
theorem vS_spec_l20Bytes_0 (o0 : List Int) (k0 : Int) (r0 : RdS) (hp : (fun (o : List Int) (k : Int) (r : RdS) => (Bytes o ∧ o.length = 0 ∧ 0 ≤ k ∧ k ≤ 900 ∧ RdOk r 200000000)) o0 k0 r0) : ∃ n : Nat, (fun (o : List Int) (k : Int) (r : RdS) => (Bytes o ∧ (n : Int) = k ∧ (o.length : Int) = k0 - k ∧ k ≤ k0 ∧ k0 ≤ 900 ∧ RdOk r0 200000000 ∧ RdOn r0 r (3 * (k0 - k)))) o0 k0 r0 := by
  try dsimp only at hp
  try dsimp only
  obtain ⟨h1, h2, h3, h4, h5⟩ := hp
  exact ⟨k0.toNat, h1, by omega, by omega, by omega, by omega, h5, rfl, by omega, by omega⟩
theorem w_spec_l20Bytes : Valid Try.prog 17 c_spec_l20Bytes :=
  valid_ctr2 (V := V_spec_l20Bytes) (tysB_ok tys_ok) ⟨(CallsL.cons w_spec_l20Rd_pick (CallsL.nil _)), (IosL.nil _)⟩ mixed 1 0 Try.func17 rfl (by kernel_rfl)
    (fun c hc => by
      obtain rfl := Option.some.inj hc
      exact ⟨trivial, ⟨trivial, ⟨⟨trivial, ⟨LoopD.ok2 (V := V_spec_l20Bytes) l_spec_l20Bytes_0 (LoopsM.cons 0 l_spec_l20Bytes_0 LoopsM.nil) 0 _ i_spec_l20Bytes_0 (fun x hx => vS_spec_l20Bytes_0 x.1 x.2.1 x.2.2 hx) (fun x hx n s hi => ⟨_, by kernel_rfl, vL_spec_l20Bytes_0 x.1 x.2.1 x.2.2 s.1 s.2.1 s.2.2 n hx hi⟩), ⟨⟨trivial, ⟨trivial, trivial⟩⟩, ⟨trivial, trivial⟩⟩⟩⟩, ⟨trivial, trivial⟩⟩⟩⟩)
    (fun x K hp hk => ⟨_, by kernel_rfl, vF_spec_l20Bytes x.1 x.2 K hp (fun l q h => hk (l, q) h)⟩)
end Go.Proofs.YtomcnemdaohafaaE
