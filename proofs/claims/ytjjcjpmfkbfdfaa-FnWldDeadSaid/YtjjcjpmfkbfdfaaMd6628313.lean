/- A part of the proof of laws of the program: what calls of the program answer. Conditions: none. -/
import Derived.Test.YtjjcjpmfkbfdfaaM2905f3b8
set_option linter.unusedVariables false
set_option linter.unusedSimpArgs false
set_option linter.unusedSectionVars false

/- Contracts: LawWD. Conditions: none. -/
set_option linter.unusedVariables false
set_option maxHeartbeats 1600000
namespace Go.Proofs.YtjjcjpmfkbfdfaaE
open Go
/-! laws.FnWldDead -/
def c_laws_FnWldDead : Ent := ctr (α := (List Int)) (ρ := (Bool)) [] [] (rs1 rBytes) (fun x_ => (fun (l : List Int) => (Bytes l)) x_) (fun x_ r_ => (fun x_ => (fun (l : List Int) => ((fun r_ => (fun (r : Bool) => (r = true)) r_))) x_) x_ r_) (fun r_ => (fun (r : Bool) => ([rB.to r])) r_) (fun r_ => (fun (r : Bool) => ([])) r_)
def l_laws_FnWldDead_0 : LoopD ((WldN) × (Bool) × (Bool) × (Int)) ((Bool) × (Bool)) ((Empty)) where
  n := 58
  head := ⟨[3, 4, 5, 6], [0], []⟩
  st := fun x_ => (fun (w : WldN) (ok : Bool) (an : Bool) (k : Int) => (⟨true, [(3, .pb 0 1 0), (4, boo ok), (5, boo an), (6, num .i64 k)], [], [⟨1, some ((wldNC w).map .d)⟩, ⟨0, none⟩]⟩)) x_.1 x_.2.1 x_.2.2.1 x_.2.2.2
  pre := fun x_ => (fun (w : WldN) (ok : Bool) (an : Bool) (k : Int) => (w.ends.length ≤ LIM ∧ ok = w.ends.any deadN ∧ an = false ∧ k = 0)) x_.1 x_.2.1 x_.2.2.1 x_.2.2.2
  nk := ⟨[4, 5], [], []⟩
  nst := fun r_ => (fun (ok : Bool) (an : Bool) => (⟨true, [(4, boo ok), (5, boo an)], [], [⟨0, none⟩, ⟨0, none⟩]⟩)) r_.1 r_.2
  npost := fun x_ r_ => (fun x_ => (fun (w0 : WldN) (ok0 : Bool) (an0 : Bool) (k0 : Int) => ((fun r_ => (fun (ok : Bool) (an : Bool) => (ok = ok0 ∧ an = w0.ends.any deadN)) r_.1 r_.2))) x_.1 x_.2.1 x_.2.2.1 x_.2.2.2) x_ r_
  rk := ⟨[], [], []⟩
  rst := fun _ => ⟨true, [], [], []⟩
  rpost := fun _ _ => False
def i_laws_FnWldDead_0 (x : (WldN) × (Bool) × (Bool) × (Int)) (n : Nat) (s : (WldN) × (Bool) × (Bool) × (Int)) : Prop := (fun x_ => (fun (w0 : WldN) (ok0 : Bool) (an0 : Bool) (k0 : Int) => ((fun s_ => (fun (w : WldN) (ok : Bool) (an : Bool) (k : Int) => (w = w0 ∧ ok = ok0 ∧ w.ends.length ≤ LIM ∧ 0 ≤ k ∧ k + n = w.ends.length ∧ an = (w.ends.take k.toNat).any deadN)) s_.1 s_.2.1 s_.2.2.1 s_.2.2.2))) x_.1 x_.2.1 x_.2.2.1 x_.2.2.2) x s
def V_laws_FnWldDead : Env := ⟨tys3, [(4, c_spec_DrawWldDead), (5, c_impl_WldDead), (6, c_spec_WldDead), (7, c_laws_liOk)], [], [(3, 0), (7, 1)], [], [(0, l_laws_FnWldDead_0.L)], [500032, 500037, 500042, 500047, 500055], [], []⟩
end Go.Proofs.YtjjcjpmfkbfdfaaE


/- Calls answer what is promised: LawWD. Conditions: none. -/
set_option linter.unusedVariables false
set_option maxHeartbeats 1600000
namespace Go.Proofs.YtjjcjpmfkbfdfaaE
open Go
def k_f3cba1 (s_:(Prod WldN (Prod Bool (Prod Bool Int)))) : KS := (KS.mk true [(Prod.mk 3 (T.pb 0 1 0)),(Prod.mk 4 (boo s_.snd.fst)),(Prod.mk 5 (boo s_.snd.snd.fst)),(Prod.mk 6 (num IntKind.i64 s_.snd.snd.snd))] [] [(Box.mk 1 (some [(mi s_.fst.cfg.mode),(mi s_.fst.cfg.win),(mi s_.fst.cfg.mps),(mi s_.fst.cfg.mtu),(mi s_.fst.cfg.try_),(Cm.d (D.r RK.hend s_.fst.ends)),(Cm.d (D.r RK.hnet s_.fst.net)),(mi s_.fst.link)])),(Box.mk 0 none)])
theorem vF_laws_FnWldDead (l:List Int) (K:List Arg→List (List AC)→Prop) (hp:Bytes l) (hk:∀ (r:Bool),(r=true)→K ([rB.to r]) ([])):if ((decide (((l.length:Nat):Int) > (1048576:Int)))=true) then (Tt (K [(aB true)] [])) else (Tt ((Bytes l)∧(∀ r:WldN,(r.ends.length≤2)→Tt (Tt ((r.ends.length≤137438953472)∧(∀ r1:Bool,(r1=(List.any r.ends deadN))→Tt (Tt ((r.ends.length≤137438953472)∧(∀ r2:Bool,(r2=(List.any r.ends deadN))→Tt (if ((r1 != r2)=true) then (Tt (K [(aB false)] [])) else (∃ s:(Prod WldN (Prod Bool (Prod Bool Int))),((KS.mk true [(Prod.mk 3 (T.pb 0 1 0)),(Prod.mk 4 (boo r1)),(Prod.mk 5 (boo false)),(Prod.mk 6 (num IntKind.i64 0))] [] [(Box.mk (Min.min 1 1) (some [(mi r.cfg.mode),(mi r.cfg.win),(mi r.cfg.mps),(mi r.cfg.mtu),(mi r.cfg.try_),(Cm.d (D.r RK.hend r.ends)),(Cm.d (D.r RK.hnet r.net)),(mi r.link)])),(Box.mk 0 none)])=(k_f3cba1 s))∧(((s.fst.ends.length≤137438953472)∧((s.snd.fst=(List.any s.fst.ends deadN))∧((s.snd.snd.fst=false)∧(s.snd.snd.snd=0))))∧((∀ r3:(Prod Bool Bool),((r3.fst=s.snd.fst)∧(r3.snd=(List.any s.fst.ends deadN)))→if ((r3.fst == r3.snd)=true) then (Tt (True∧(∀ r4:Bool,(r4=true)→Tt (Tt (K [(aB r4)] []))))) else (Tt (K [(aB false)] [])))∧(∀ r3:Empty,False→False)))))))))))))) := by
  refine iteI (fun h => ⟨rfl, hk _ rfl⟩) (fun h => ?_)
  refine ⟨rfl, hp, fun w hw => ⟨rfl, rfl, by omega, fun r1 h1 => ⟨rfl, rfl, by omega, fun r2 h2 => ⟨rfl, ?_⟩⟩⟩⟩
  have e12 : r1 = r2 := by rw [h1, h2]
  subst e12
  rw [if_neg (by simp)]
  refine ⟨(⟨⟨_, _, _, _, _⟩, _, _, _⟩, _, _, _), rfl, ⟨by dsimp only; omega, h1, rfl, rfl⟩, fun r3 h3 => ?_, fun _ h => h⟩
  have e3 : r3.1 = r3.2 := by rw [h3.1, h3.2]; exact h1
  rw [if_pos (by simp [e3])]
  exact ⟨rfl, trivial, fun r4 h4 => ⟨rfl, rfl, hk _ h4⟩⟩
theorem vL_laws_FnWldDead_0 (w0:WldN) (ok0:Bool) (an0:Bool) (k0:Int) (w:WldN) (ok:Bool) (an:Bool) (k:Int) (n:Nat) (hp:(fun (w:WldN) (ok:Bool) (an:Bool) (k:Int) => (w.ends.length≤LIM∧ok=w.ends.any deadN∧an=false∧k=0)) w0 ok0 an0 k0) (hi:w=w0∧ok=ok0∧w.ends.length≤LIM∧0≤k∧k + n=w.ends.length∧an=(w.ends.take k.toNat).any deadN):if ((decide (k < ((w.ends.length:Nat):Int)))=true) then (((0≤k)∧(k < ((w.ends.length:Nat):Int)))∧(if (an=true) then (∃ s:(Prod WldN (Prod Bool (Prod Bool Int))),((KS.mk true [(Prod.mk 3 (T.pb 0 1 0)),(Prod.mk 4 (boo ok)),(Prod.mk 5 (boo true)),(Prod.mk 6 (num IntKind.i64 (IntKind.i64.wrap (k + 1))))] [] [(Box.mk (Min.min 1 1) (some [(mi w.cfg.mode),(mi w.cfg.win),(mi w.cfg.mps),(mi w.cfg.mtu),(mi w.cfg.try_),(Cm.d (D.r RK.hend w.ends)),(Cm.d (D.r RK.hnet w.net)),(mi w.link)])),(Box.mk 0 none)])=(k_f3cba1 s))∧(∃ m:Nat,(m < n)∧((s.fst=w0)∧((s.snd.fst=ok0)∧((s.fst.ends.length≤137438953472)∧((0≤s.snd.snd.snd)∧(((s.snd.snd.snd + ((m:Nat):Int))=((s.fst.ends.length:Nat):Int))∧(s.snd.snd.fst=(List.any (List.take s.snd.snd.snd.toNat s.fst.ends) deadN))))))))) else (if ((at_hend w.ends k.toNat).tx.dead=true) then (∃ s:(Prod WldN (Prod Bool (Prod Bool Int))),((KS.mk true [(Prod.mk 3 (T.pb 0 1 0)),(Prod.mk 4 (boo ok)),(Prod.mk 5 (boo true)),(Prod.mk 6 (num IntKind.i64 (IntKind.i64.wrap (k + 1))))] [] [(Box.mk (Min.min 1 1) (some [(mi w.cfg.mode),(mi w.cfg.win),(mi w.cfg.mps),(mi w.cfg.mtu),(mi w.cfg.try_),(Cm.d (D.r RK.hend w.ends)),(Cm.d (D.r RK.hnet w.net)),(mi w.link)])),(Box.mk 0 none)])=(k_f3cba1 s))∧(∃ m:Nat,(m < n)∧((s.fst=w0)∧((s.snd.fst=ok0)∧((s.fst.ends.length≤137438953472)∧((0≤s.snd.snd.snd)∧(((s.snd.snd.snd + ((m:Nat):Int))=((s.fst.ends.length:Nat):Int))∧(s.snd.snd.fst=(List.any (List.take s.snd.snd.snd.toNat s.fst.ends) deadN))))))))) else (if ((at_hend w.ends k.toNat).rx.dead=true) then (∃ s:(Prod WldN (Prod Bool (Prod Bool Int))),((KS.mk true [(Prod.mk 3 (T.pb 0 1 0)),(Prod.mk 4 (boo ok)),(Prod.mk 5 (boo true)),(Prod.mk 6 (num IntKind.i64 (IntKind.i64.wrap (k + 1))))] [] [(Box.mk (Min.min 1 1) (some [(mi w.cfg.mode),(mi w.cfg.win),(mi w.cfg.mps),(mi w.cfg.mtu),(mi w.cfg.try_),(Cm.d (D.r RK.hend w.ends)),(Cm.d (D.r RK.hnet w.net)),(mi w.link)])),(Box.mk 0 none)])=(k_f3cba1 s))∧(∃ m:Nat,(m < n)∧((s.fst=w0)∧((s.snd.fst=ok0)∧((s.fst.ends.length≤137438953472)∧((0≤s.snd.snd.snd)∧(((s.snd.snd.snd + ((m:Nat):Int))=((s.fst.ends.length:Nat):Int))∧(s.snd.snd.fst=(List.any (List.take s.snd.snd.snd.toNat s.fst.ends) deadN))))))))) else (if ((at_hend w.ends k.toNat).ctx.dead=true) then (∃ s:(Prod WldN (Prod Bool (Prod Bool Int))),((KS.mk true [(Prod.mk 3 (T.pb 0 1 0)),(Prod.mk 4 (boo ok)),(Prod.mk 5 (boo true)),(Prod.mk 6 (num IntKind.i64 (IntKind.i64.wrap (k + 1))))] [] [(Box.mk (Min.min 1 1) (some [(mi w.cfg.mode),(mi w.cfg.win),(mi w.cfg.mps),(mi w.cfg.mtu),(mi w.cfg.try_),(Cm.d (D.r RK.hend w.ends)),(Cm.d (D.r RK.hnet w.net)),(mi w.link)])),(Box.mk 0 none)])=(k_f3cba1 s))∧(∃ m:Nat,(m < n)∧((s.fst=w0)∧((s.snd.fst=ok0)∧((s.fst.ends.length≤137438953472)∧((0≤s.snd.snd.snd)∧(((s.snd.snd.snd + ((m:Nat):Int))=((s.fst.ends.length:Nat):Int))∧(s.snd.snd.fst=(List.any (List.take s.snd.snd.snd.toNat s.fst.ends) deadN))))))))) else (∃ s:(Prod WldN (Prod Bool (Prod Bool Int))),((KS.mk true [(Prod.mk 3 (T.pb 0 1 0)),(Prod.mk 4 (boo ok)),(Prod.mk 5 (boo (at_hend w.ends k.toNat).crx.dead)),(Prod.mk 6 (num IntKind.i64 (IntKind.i64.wrap (k + 1))))] [] [(Box.mk (Min.min 1 1) (some [(mi w.cfg.mode),(mi w.cfg.win),(mi w.cfg.mps),(mi w.cfg.mtu),(mi w.cfg.try_),(Cm.d (D.r RK.hend w.ends)),(Cm.d (D.r RK.hnet w.net)),(mi w.link)])),(Box.mk 0 none)])=(k_f3cba1 s))∧(∃ m:Nat,(m < n)∧((s.fst=w0)∧((s.snd.fst=ok0)∧((s.fst.ends.length≤137438953472)∧((0≤s.snd.snd.snd)∧(((s.snd.snd.snd + ((m:Nat):Int))=((s.fst.ends.length:Nat):Int))∧(s.snd.snd.fst=(List.any (List.take s.snd.snd.snd.toNat s.fst.ends) deadN)))))))))))))) else (∃ r:(Prod Bool Bool),((KS.mk true [(Prod.mk 4 (boo ok)),(Prod.mk 5 (boo an))] [] [(Box.mk 0 none),(Box.mk 0 none)])=(KS.mk true [(Prod.mk 4 (boo r.fst)),(Prod.mk 5 (boo r.snd))] [] [(Box.mk 0 none),(Box.mk 0 none)]))∧((r.fst=ok0)∧(r.snd=(List.any w0.ends deadN)))) := by
  try dsimp only at hp
  obtain ⟨rfl, rfl, h1, h2, h3, h4⟩ := hi
  have hL : w.ends.length ≤ 137438953472 := h1
  obtain ⟨i, rfl⟩ : ∃ m : Nat, k = m := ⟨k.toNat, by omega⟩
  rw [wr (x := (i : Int) + 1) (by omega) (by omega)]
  simp only [Int.toNat_natCast] at h4 ⊢
  refine iteI (fun h => ?_) (fun h => ?_)
  · have hi : i < w.ends.length := by simp at h; omega
    have e : w.ends.take (i + 1) = w.ends.take i ++ [at_hend w.ends i] := take_at .hend w.ends i hi
    have e1 : (w.ends.take (i + 1)).any deadN = (an || deadN (at_hend w.ends i)) := by rw [e, List.any_append, h4]; simp
    have key : ∀ b : Bool, b = (an || deadN (at_hend w.ends i)) → b = (w.ends.take ((i : Int) + 1).toNat).any deadN := fun b hb => by
      rw [show ((i : Int) + 1).toNat = i + 1 by omega, e1]; exact hb
    refine ⟨⟨by omega, by omega⟩, ?_⟩
    repeat' first
      | refine iteI (fun hx => ?_) (fun hx => ?_)
    all_goals exact ⟨(w, ok, _, (i : Int) + 1), rfl, n - 1, by omega, rfl, rfl, h1, by (try dsimp only); omega, by (try dsimp only); omega, key _ (by clear key h4 e1 e hL h1 hp; unfold deadN; generalize at_hend w.ends i = x at *; simp_all)⟩
  · have hi : i = w.ends.length := by simp at h; omega
    subst hi
    rw [List.take_length] at h4
    exact ⟨(ok, an), rfl, rfl, h4⟩
theorem vS_laws_FnWldDead_0 (w0 : WldN) (ok0 : Bool) (an0 : Bool) (k0 : Int) (hp : (fun (w : WldN) (ok : Bool) (an : Bool) (k : Int) => (w.ends.length ≤ LIM ∧ ok = w.ends.any deadN ∧ an = false ∧ k = 0)) w0 ok0 an0 k0) : ∃ n : Nat, (fun (w : WldN) (ok : Bool) (an : Bool) (k : Int) => (w = w0 ∧ ok = ok0 ∧ w.ends.length ≤ LIM ∧ 0 ≤ k ∧ k + n = w.ends.length ∧ an = (w.ends.take k.toNat).any deadN)) w0 ok0 an0 k0 := by
  try dsimp only at hp
  try dsimp only
  obtain ⟨h1, h2, rfl, rfl⟩ := hp
  exact ⟨w0.ends.length, rfl, rfl, h1, by omega, by omega, rfl⟩
theorem w_laws_FnWldDead : Valid Try.prog 3 c_laws_FnWldDead :=
  valid_ctr2 (V := V_laws_FnWldDead) (tysB_ok tys3_ok) ⟨(CallsL.cons w_spec_DrawWldDead (CallsL.cons w_impl_WldDead (CallsL.cons w_spec_WldDead (CallsL.cons w_laws_liOk (CallsL.nil _))))), (IosL.nil _)⟩ mixed 0 2 Try.func3 rfl (by kernel_rfl)
    (fun c hc => by
      obtain rfl := Option.some.inj hc
      exact ⟨trivial, ⟨⟨trivial, ⟨⟨trivial, trivial⟩, trivial⟩⟩, ⟨trivial, ⟨trivial, ⟨⟨trivial, ⟨⟨trivial, trivial⟩, trivial⟩⟩, ⟨trivial, ⟨⟨trivial, ⟨LoopD.ok2 (V := V_laws_FnWldDead) l_laws_FnWldDead_0 (LoopsM.cons 0 l_laws_FnWldDead_0 LoopsM.nil) 0 _ i_laws_FnWldDead_0 (fun x hx => vS_laws_FnWldDead_0 x.1 x.2.1 x.2.2.1 x.2.2.2 hx) (fun x hx n s hi => ⟨_, by kernel_rfl, vL_laws_FnWldDead_0 x.1 x.2.1 x.2.2.1 x.2.2.2 s.1 s.2.1 s.2.2.1 s.2.2.2 n hx hi⟩), ⟨⟨trivial, ⟨trivial, trivial⟩⟩, ⟨⟨trivial, trivial⟩, trivial⟩⟩⟩⟩, ⟨trivial, trivial⟩⟩⟩⟩⟩⟩⟩⟩)
    (fun x K hp hk => ⟨_, by kernel_rfl, vF_laws_FnWldDead x K hp (fun r h => hk r h)⟩)
end Go.Proofs.YtjjcjpmfkbfdfaaE
