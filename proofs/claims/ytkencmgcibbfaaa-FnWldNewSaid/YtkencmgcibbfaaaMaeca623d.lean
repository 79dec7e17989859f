/- A part of the proof of laws of the program: what calls of the program answer. Conditions: none. -/
import Derived.Test.YtkencmgcibbfaaaM8f2140dd
set_option linter.unusedVariables false
set_option linter.unusedSimpArgs false
set_option linter.unusedSectionVars false
/- Contracts: LawWN. Conditions: none. -/
set_option linter.unusedVariables false
set_option maxHeartbeats 1600000
namespace Go.Proofs.YtkencmgcibbfaaaE
open Go
theorem zEnd_m : EndM 1048576 zEnd := ⟨by decide, fun _ h => (by cases h), by decide, fun _ h => (by cases h), by decide, by decide, fun _ h => (by cases h), by decide, by decide, fun _ h => (by cases h), by decide, fun _ h => (by cases h)⟩
theorem wn_m (c : Cfg) : WldM 1048576 (wldNew c) := by
  by_cases h : CfgP c
  · rw [wldNew_ok h]
    refine ⟨show 2 ≤ 1048576 by decide, fun e he => ?_, show 2 ≤ 1048576 by decide, fun e he => ?_⟩
    · have : e = zEnd := by simpa [newWld] using he
      rw [this]; exact zEnd_m
    · have : e = [] := by simpa [newWld] using he
      rw [this]; exact ⟨by decide, fun x hx => (by cases hx)⟩
  · rw [wldNew_no h]
    exact ⟨by decide, fun e he => (by cases he), by decide, fun e he => (by cases he)⟩
theorem zEnd_p {c : Cfg} (h : CfgP c) : EndP c zEnd := by
  have h' := h
  obtain ⟨a1, a2, a3, a4, a5, a6, a7, a8, a9, b1⟩ := h'
  refine ⟨?_, ?_, ?_, ?_, by decide, by decide⟩
  · exact ⟨h, by decide, by decide, by decide, by (show ((0 : Nat) : Int) ≤ c.win); omega, by decide, by decide, ⟨by decide, by (show (0 : Int) ≤ c.try_); omega⟩, by decide, by decide, PartsP.nil _, PartsP.nil _⟩
  · exact ⟨by decide, by decide, by decide, .inl ⟨rfl, rfl⟩⟩
  · exact ⟨h, by decide, by decide, by decide, by decide, by decide, PartsP.nil _⟩
  · exact ⟨by decide, .inl ⟨rfl, rfl⟩⟩
theorem new_p {c : Cfg} (h : CfgP c) : WldP (newWld c) :=
  ⟨h, rfl, rfl, (show (0 : Int) ≤ 0 ∧ (0 : Int) ≤ 1 by decide), ⟨zEnd_p h, Nat.zero_le 30, rfl⟩, ⟨zEnd_p h, Nat.zero_le 30, rfl⟩⟩
theorem wn_m2 (c : Cfg) : WldM 137438953472 (wldNew c) := ⟨Nat.le_trans (wn_m c).el (by decide), fun e he => ((wn_m c).ed e he).le (by decide), Nat.le_trans (wn_m c).nl (by decide), fun e he => ((wn_m c).nd e he).le (by decide)⟩

/-! laws.FnWldNew -/
def c_laws_FnWldNew : Ent := ctr (α := (List Int)) (ρ := (Bool)) [] [] (rs1 rBytes) (fun x_ => (fun (l : List Int) => (Bytes l)) x_) (fun x_ r_ => (fun x_ => (fun (l : List Int) => ((fun r_ => (fun (r : Bool) => (r = true)) r_))) x_) x_ r_) (fun r_ => (fun (r : Bool) => ([rB.to r])) r_) (fun r_ => (fun (r : Bool) => ([])) r_)
def l_laws_FnWldNew_0 : LoopD ((Cfg) × (WldS) × (Int)) ((Cfg) × (WldS)) ((Empty)) where
  n := 67
  head := ⟨[3, 4, 5], [0, 1], []⟩
  st := fun x_ => (fun (c : Cfg) (w : WldS) (k : Int) => (⟨true, [(3, .pb 0 1 0), (4, .pb 1 1 0), (5, num .i64 k)], [], [⟨1, some ((cfgC c).map .d)⟩, ⟨1, some ((wldC w).map .d)⟩]⟩)) x_.1 x_.2.1 x_.2.2
  pre := fun x_ => (fun (c : Cfg) (w : WldS) (k : Int) => (CfgP c ∧ w = newWld c ∧ k = 0)) x_.1 x_.2.1 x_.2.2
  nk := ⟨[3, 4], [0, 1], []⟩
  nst := fun r_ => (fun (c : Cfg) (w : WldS) => (⟨true, [(3, .pb 0 1 0), (4, .pb 1 1 0)], [], [⟨1, some ((cfgC c).map .d)⟩, ⟨1, some ((wldC w).map .d)⟩]⟩)) r_.1 r_.2
  npost := fun x_ r_ => (fun x_ => (fun (c0 : Cfg) (w0 : WldS) (k0 : Int) => ((fun r_ => (fun (c : Cfg) (w : WldS) => (c = c0 ∧ w = w0)) r_.1 r_.2))) x_.1 x_.2.1 x_.2.2) x_ r_
  rk := ⟨[], [], []⟩
  rst := fun _ => ⟨true, [], [], []⟩
  rpost := fun _ _ => False
def i_laws_FnWldNew_0 (x : (Cfg) × (WldS) × (Int)) (n : Nat) (s : (Cfg) × (WldS) × (Int)) : Prop := (fun x_ => (fun (c0 : Cfg) (w0 : WldS) (k0 : Int) => ((fun s_ => (fun (c : Cfg) (w : WldS) (k : Int) => (c = c0 ∧ w = w0 ∧ 0 ≤ k ∧ k + n = 2)) s_.1 s_.2.1 s_.2.2))) x_.1 x_.2.1 x_.2.2) x s
def V_laws_FnWldNew : Env := ⟨tys, [(5, c_spec_DrawWldNew), (6, c_impl_WldNew), (7, c_laws_liWorld), (8, c_spec_WldNew), (9, c_spec_CfgOk), (10, c_laws_liOk), (11, c_laws_liEnd), (12, c_impl_WldOk), (13, c_impl_WldDead)], [], [(3, 0), (4, 1)], [], [(0, l_laws_FnWldNew_0.L)], [500025, 500040, 500051, 500057, 500062], [], [(5, [(0, false), (1, false), (2, true), (3, true), (4, false)])]⟩
end Go.Proofs.YtkencmgcibbfaaaE

/- Calls answer what is promised: LawWN. Conditions: none. -/
set_option linter.unusedVariables false
set_option maxHeartbeats 1600000
namespace Go.Proofs.YtkencmgcibbfaaaE
open Go
theorem vF_laws_FnWldNew (l:List Int) (K:List Arg→List (List AC)→Prop) (hp:Bytes l) (hk:∀ (r:Bool),(r=true)→K ([rB.to r]) ([])):if ((decide ((((List.length l):Nat):Int) > (1048576:Int)))=true) then ((true=true)∧(K [(aB true)] [])) else ((true=true)∧((Bytes l)∧(∀ r:Cfg,True→(true=true)∧((true=true)∧(True∧(∀ r1:WldS,(r1=(wldNew r))→(true=true)∧((true=true)∧(True∧(∀ r2:WldS,(r2=(wldNew r))→(true=true)∧((true=true)∧((true=true)∧((WldM (137438953472:Nat) r1)∧(∀ r3:Bool,(r3=(decide (r1=r2)))→(true=true)∧((true=true)∧(if ((!r3)=true) then ((true=true)∧(K [(aB false)] [])) else ((true=true)∧(True∧(∀ r4:Bool,(r4=(decide (CfgP r)))→(true=true)∧(if ((!r4)=true) then (if (((((List.length r1.ends):Nat):Int) == (0:Int))=true) then ((true=true)∧(True∧(∀ r5:Bool,(r5=true)→(true=true)∧((true=true)∧(K [(aB r5)] []))))) else ((true=true)∧(K [(aB false)] []))) else (∃ s:(Prod Cfg (Prod WldS Int)),((KS.mk true [(Prod.mk (3:Nat) (T.pb (0:Nat) (1:Nat) (0:Nat))),(Prod.mk (4:Nat) (T.pb (1:Nat) (1:Nat) (0:Nat))),(Prod.mk (5:Nat) (num IntKind.i64 (0:Int)))] [] [(Box.mk (Min.min (1:Nat) (1:Nat)) (Option.some [(Cm.d (D.i IntKind.i64 r.mode)),(Cm.d (D.i IntKind.i64 r.win)),(Cm.d (D.i IntKind.i64 r.mps)),(Cm.d (D.i IntKind.i64 r.mtu)),(Cm.d (D.i IntKind.i64 r.try_))])),(Box.mk (Min.min (1:Nat) (1:Nat)) (Option.some [(Cm.d (D.i IntKind.i64 r1.cfg.mode)),(Cm.d (D.i IntKind.i64 r1.cfg.win)),(Cm.d (D.i IntKind.i64 r1.cfg.mps)),(Cm.d (D.i IntKind.i64 r1.cfg.mtu)),(Cm.d (D.i IntKind.i64 r1.cfg.try_)),(Cm.d (D.r RK.wend r1.ends)),(Cm.d (D.r RK.nets r1.net)),(Cm.d (D.i IntKind.i64 r1.link))]))])=(KS.mk true [(Prod.mk (3:Nat) (T.pb (0:Nat) (1:Nat) (0:Nat))),(Prod.mk (4:Nat) (T.pb (1:Nat) (1:Nat) (0:Nat))),(Prod.mk (5:Nat) (num IntKind.i64 s.snd.snd))] [] [(Box.mk (1:Nat) (Option.some [(Cm.d (D.i IntKind.i64 s.fst.mode)),(Cm.d (D.i IntKind.i64 s.fst.win)),(Cm.d (D.i IntKind.i64 s.fst.mps)),(Cm.d (D.i IntKind.i64 s.fst.mtu)),(Cm.d (D.i IntKind.i64 s.fst.try_))])),(Box.mk (1:Nat) (Option.some [(Cm.d (D.i IntKind.i64 s.snd.fst.cfg.mode)),(Cm.d (D.i IntKind.i64 s.snd.fst.cfg.win)),(Cm.d (D.i IntKind.i64 s.snd.fst.cfg.mps)),(Cm.d (D.i IntKind.i64 s.snd.fst.cfg.mtu)),(Cm.d (D.i IntKind.i64 s.snd.fst.cfg.try_)),(Cm.d (D.r RK.wend s.snd.fst.ends)),(Cm.d (D.r RK.nets s.snd.fst.net)),(Cm.d (D.i IntKind.i64 s.snd.fst.link))]))]))∧(((CfgP s.fst)∧((s.snd.fst=(newWld s.fst))∧(s.snd.snd=(0:Int))))∧((∀ r5:(Prod Cfg WldS),((r5.fst=s.fst)∧(r5.snd=s.snd.fst))→(true=true)∧((WldM (1048576:Nat) r5.snd)∧(∀ r6:Bool,(r6=(decide (WldP r5.snd)))→(true=true)∧(if (r6=true) then (if (((r5.snd.cfg.mode == r5.fst.mode) && ((r5.snd.cfg.win == r5.fst.win) && ((r5.snd.cfg.mps == r5.fst.mps) && ((r5.snd.cfg.mtu == r5.fst.mtu) && (r5.snd.cfg.try_ == r5.fst.try_)))))=true) then (if ((r5.snd.link == (0:Int))=true) then ((true=true)∧(((List.length r5.snd.ends)≤(137438953472:Nat))∧(∀ r7:Bool,(r7=(List.any r5.snd.ends deadE))→(true=true)∧((true=true)∧(K [(aB (!r7))] []))))) else ((true=true)∧(K [(aB false)] []))) else ((true=true)∧(K [(aB false)] []))) else ((true=true)∧(K [(aB false)] []))))))∧(∀ r5:Empty,False→False))))))))))))))))))))))) := by
  refine iteI (fun h => ⟨rfl, hk _ rfl⟩) (fun h => ?_)
  refine ⟨rfl, hp, fun r _ => ⟨rfl, rfl, trivial, fun r1 hr1 => ⟨rfl, rfl, trivial, fun r2 hr2 => ⟨rfl, rfl, rfl, hr1 ▸ wn_m2 r, fun r3 hr3 => ⟨rfl, rfl, ?_⟩⟩⟩⟩⟩
  have e3 : r3 = true := by rw [hr3, hr1, hr2]; exact decide_eq_true rfl
  clear hr3
  subst e3
  rw [if_neg (by decide)]
  refine ⟨rfl, trivial, fun r4 hr4 => ⟨rfl, ?_⟩⟩
  by_cases hc : CfgP r
  · have e4 : r4 = true := by rw [hr4]; exact decide_eq_true hc
    clear hr4
    subst e4
    rw [if_neg (by decide)]
    rw [wldNew_ok hc] at hr1
    subst hr1
    refine ⟨(r, newWld r, 0), rfl, ⟨hc, rfl, rfl⟩, fun r5 hr5 => ?_, fun _ h => h⟩
    obtain ⟨c5, w5⟩ := r5
    obtain ⟨e5, e6⟩ := hr5
    dsimp only at e5 e6 ⊢
    subst e5 e6
    refine ⟨rfl, wldNew_ok hc ▸ wn_m c5, fun r6 hr6 => ⟨rfl, ?_⟩⟩
    have e6 : r6 = true := by rw [hr6]; exact decide_eq_true (new_p hc)
    clear hr6
    subst e6
    rw [if_pos rfl, if_pos (by simp [newWld]), if_pos (by simp [newWld])]
    refine ⟨rfl, (by show 2 ≤ 137438953472; decide), fun r7 hr7 => ⟨rfl, rfl, hk _ ?_⟩⟩
    rw [hr7]
    rfl
  · have e4 : r4 = false := by rw [hr4]; exact decide_eq_false hc
    clear hr4
    subst e4
    rw [if_pos (by decide)]
    rw [wldNew_no hc] at hr1
    subst hr1
    rw [if_pos (by decide)]
    exact ⟨rfl, trivial, fun r5 hr5 => ⟨rfl, rfl, hk _ hr5⟩⟩
theorem vL_laws_FnWldNew_0 (c0:Cfg) (w0:WldS) (k0:Int) (c:Cfg) (w:WldS) (k:Int) (n:Nat) (hp:(fun (c:Cfg) (w:WldS) (k:Int) => (CfgP c∧w=newWld c∧k=0)) c0 w0 k0) (hi:c=c0∧w=w0∧0≤k∧k + n=2):if ((decide (k < (2:Int)))=true) then ((((0:Int)≤k)∧(k < (((List.length w.ends):Nat):Int)))∧((true=true)∧((EndM (137438953472:Nat) (at_wend w.ends (Int.toNat k)))∧(∀ r:Bool,(r=(decide ((at_wend w.ends (Int.toNat k))=(EndS.mk (TxS.mk (0:Int) (0:Int) ([]:(List Part)) (0:Int) ([]:(List Part)) false (0:Int) false (0:Int) false) (RxS.mk (0:Int) (0:Int) (JoinS.mk (0:Int) ([]:(List Int))) false false false) (CtS.mk (0:Int) ([]:(List Part)) (0:Int) (0:Int) false) (CrS.mk (0:Int) (JoinS.mk (0:Int) ([]:(List Int))) false) ([]:(List (List Int))) ([]:(List (List Int)))))))→(true=true)∧(if ((!r)=true) then (∃ r1:Empty,((KS.mk true [] [] [(Box.mk (0:Nat) Option.none),(Box.mk (0:Nat) Option.none)])=(KS.mk true [] [] []))∧False) else ((((0:Int)≤k)∧(k < (((List.length w.net):Nat):Int)))∧(if (((((List.length (at_nets w.net (Int.toNat k))):Nat):Int) != (0:Int))=true) then (∃ r1:Empty,((KS.mk true [] [] [(Box.mk (0:Nat) Option.none),(Box.mk (0:Nat) Option.none)])=(KS.mk true [] [] []))∧False) else (∃ s:(Prod Cfg (Prod WldS Int)),((KS.mk true [(Prod.mk (3:Nat) (T.pb (0:Nat) (1:Nat) (0:Nat))),(Prod.mk (4:Nat) (T.pb (1:Nat) (1:Nat) (0:Nat))),(Prod.mk (5:Nat) (num IntKind.i64 (IntKind.wrap IntKind.i64 (k + (1:Int)))))] [] [(Box.mk (Min.min (1:Nat) (1:Nat)) (Option.some [(Cm.d (D.i IntKind.i64 c.mode)),(Cm.d (D.i IntKind.i64 c.win)),(Cm.d (D.i IntKind.i64 c.mps)),(Cm.d (D.i IntKind.i64 c.mtu)),(Cm.d (D.i IntKind.i64 c.try_))])),(Box.mk (Min.min (1:Nat) (1:Nat)) (Option.some [(Cm.d (D.i IntKind.i64 w.cfg.mode)),(Cm.d (D.i IntKind.i64 w.cfg.win)),(Cm.d (D.i IntKind.i64 w.cfg.mps)),(Cm.d (D.i IntKind.i64 w.cfg.mtu)),(Cm.d (D.i IntKind.i64 w.cfg.try_)),(Cm.d (D.r RK.wend w.ends)),(Cm.d (D.r RK.nets w.net)),(Cm.d (D.i IntKind.i64 w.link))]))])=(KS.mk true [(Prod.mk (3:Nat) (T.pb (0:Nat) (1:Nat) (0:Nat))),(Prod.mk (4:Nat) (T.pb (1:Nat) (1:Nat) (0:Nat))),(Prod.mk (5:Nat) (num IntKind.i64 s.snd.snd))] [] [(Box.mk (1:Nat) (Option.some [(Cm.d (D.i IntKind.i64 s.fst.mode)),(Cm.d (D.i IntKind.i64 s.fst.win)),(Cm.d (D.i IntKind.i64 s.fst.mps)),(Cm.d (D.i IntKind.i64 s.fst.mtu)),(Cm.d (D.i IntKind.i64 s.fst.try_))])),(Box.mk (1:Nat) (Option.some [(Cm.d (D.i IntKind.i64 s.snd.fst.cfg.mode)),(Cm.d (D.i IntKind.i64 s.snd.fst.cfg.win)),(Cm.d (D.i IntKind.i64 s.snd.fst.cfg.mps)),(Cm.d (D.i IntKind.i64 s.snd.fst.cfg.mtu)),(Cm.d (D.i IntKind.i64 s.snd.fst.cfg.try_)),(Cm.d (D.r RK.wend s.snd.fst.ends)),(Cm.d (D.r RK.nets s.snd.fst.net)),(Cm.d (D.i IntKind.i64 s.snd.fst.link))]))]))∧(∃ m:Nat,(m < n)∧((s.fst=c0)∧((s.snd.fst=w0)∧(((0:Int)≤s.snd.snd)∧((s.snd.snd + ((m:Nat):Int))=(2:Int)))))))))))))) else (∃ r:(Prod Cfg WldS),((KS.mk true [(Prod.mk (3:Nat) (T.pb (0:Nat) (1:Nat) (0:Nat))),(Prod.mk (4:Nat) (T.pb (1:Nat) (1:Nat) (0:Nat)))] [] [(Box.mk (Min.min (1:Nat) (1:Nat)) (Option.some [(Cm.d (D.i IntKind.i64 c.mode)),(Cm.d (D.i IntKind.i64 c.win)),(Cm.d (D.i IntKind.i64 c.mps)),(Cm.d (D.i IntKind.i64 c.mtu)),(Cm.d (D.i IntKind.i64 c.try_))])),(Box.mk (Min.min (1:Nat) (1:Nat)) (Option.some [(Cm.d (D.i IntKind.i64 w.cfg.mode)),(Cm.d (D.i IntKind.i64 w.cfg.win)),(Cm.d (D.i IntKind.i64 w.cfg.mps)),(Cm.d (D.i IntKind.i64 w.cfg.mtu)),(Cm.d (D.i IntKind.i64 w.cfg.try_)),(Cm.d (D.r RK.wend w.ends)),(Cm.d (D.r RK.nets w.net)),(Cm.d (D.i IntKind.i64 w.link))]))])=(KS.mk true [(Prod.mk (3:Nat) (T.pb (0:Nat) (1:Nat) (0:Nat))),(Prod.mk (4:Nat) (T.pb (1:Nat) (1:Nat) (0:Nat)))] [] [(Box.mk (1:Nat) (Option.some [(Cm.d (D.i IntKind.i64 r.fst.mode)),(Cm.d (D.i IntKind.i64 r.fst.win)),(Cm.d (D.i IntKind.i64 r.fst.mps)),(Cm.d (D.i IntKind.i64 r.fst.mtu)),(Cm.d (D.i IntKind.i64 r.fst.try_))])),(Box.mk (1:Nat) (Option.some [(Cm.d (D.i IntKind.i64 r.snd.cfg.mode)),(Cm.d (D.i IntKind.i64 r.snd.cfg.win)),(Cm.d (D.i IntKind.i64 r.snd.cfg.mps)),(Cm.d (D.i IntKind.i64 r.snd.cfg.mtu)),(Cm.d (D.i IntKind.i64 r.snd.cfg.try_)),(Cm.d (D.r RK.wend r.snd.ends)),(Cm.d (D.r RK.nets r.snd.net)),(Cm.d (D.i IntKind.i64 r.snd.link))]))]))∧((r.fst=c0)∧(r.snd=w0))) := by
  try dsimp only at hp
  obtain ⟨h1, rfl, _⟩ := hp
  obtain ⟨rfl, rfl, h3, h4⟩ := hi
  have hz : EndM 137438953472 zEnd := zEnd_m.le (by decide)
  obtain ⟨i, rfl⟩ : ∃ m : Nat, k = m := ⟨k.toNat, by omega⟩
  have ha : i < 2 → at_wend (newWld c).ends i = zEnd ∧ at_nets (newWld c).net i = [] := fun h => by
    match i, h with
    | 0, _ => exact ⟨rfl, rfl⟩
    | 1, _ => exact ⟨rfl, rfl⟩
  have hl1 : (newWld c).ends.length = 2 := rfl
  have hl2 : (newWld c).net.length = 2 := rfl
  rw [wr (x := (i : Int) + 1) (by omega) (by omega)]
  cases n with
  | zero =>
    rw [if_neg (by simp; omega)]
    exact ⟨(c, newWld c), rfl, rfl, rfl⟩
  | succ n =>
    obtain ⟨e1, e2⟩ := ha (by omega)
    rw [if_pos (by simp; omega)]
    simp only [Int.toNat_natCast, e1, e2]
    repeat' first
      | exact rfl
      | exact True.intro
      | exact hz
      | with_reducible apply And.intro
      | omega
      | (with_reducible intro r hr
         have hr' : r = true := by rw [hr]; exact decide_eq_true rfl
         clear hr
         subst hr')
      | rw [if_neg (by decide)]
    all_goals first
      | exact ⟨(c, newWld c, (i : Int) + 1), rfl, n, by omega, rfl, rfl, by dsimp only; omega, by dsimp only; omega⟩
theorem vS_laws_FnWldNew_0 (c0 : Cfg) (w0 : WldS) (k0 : Int) (hp : (fun (c : Cfg) (w : WldS) (k : Int) => (CfgP c ∧ w = newWld c ∧ k = 0)) c0 w0 k0) : ∃ n : Nat, (fun (c : Cfg) (w : WldS) (k : Int) => (c = c0 ∧ w = w0 ∧ 0 ≤ k ∧ k + n = 2)) c0 w0 k0 := by
  try dsimp only at hp
  try dsimp only
  obtain ⟨_, _, rfl⟩ := hp
  exact ⟨2, rfl, rfl, by omega, by omega⟩
theorem w_laws_FnWldNew : Valid Try.prog 3 c_laws_FnWldNew :=
  valid_ctr2 (V := V_laws_FnWldNew) (tysB_ok tys_ok) ⟨(CallsL.cons w_spec_DrawWldNew (CallsL.cons w_impl_WldNew (CallsL.cons w_laws_liWorld (CallsL.cons w_spec_WldNew (CallsL.cons w_spec_CfgOk (CallsL.cons w_laws_liOk (CallsL.cons w_laws_liEnd (CallsL.cons w_impl_WldOk (CallsL.cons w_impl_WldDead (CallsL.nil _)))))))))), (IosL.nil _)⟩ mixed 0 2 Try.func3 rfl (by kernel_rfl)
    (fun c hc => by
      obtain rfl := Option.some.inj hc
      exact ⟨trivial, ⟨⟨trivial, ⟨⟨trivial, trivial⟩, trivial⟩⟩, ⟨trivial, ⟨trivial, ⟨⟨trivial, ⟨⟨trivial, trivial⟩, trivial⟩⟩, ⟨⟨trivial, ⟨⟨trivial, trivial⟩, trivial⟩⟩, ⟨⟨trivial, ⟨LoopD.ok2 (V := V_laws_FnWldNew) l_laws_FnWldNew_0 (LoopsM.cons 0 l_laws_FnWldNew_0 LoopsM.nil) 0 _ i_laws_FnWldNew_0 (fun x hx => vS_laws_FnWldNew_0 x.1 x.2.1 x.2.2 hx) (fun x hx n s hi => ⟨_, by kernel_rfl, vL_laws_FnWldNew_0 x.1 x.2.1 x.2.2 s.1 s.2.1 s.2.2 n hx hi⟩), ⟨⟨trivial, ⟨trivial, trivial⟩⟩, ⟨⟨trivial, ⟨⟨trivial, trivial⟩, trivial⟩⟩, trivial⟩⟩⟩⟩, ⟨trivial, trivial⟩⟩⟩⟩⟩⟩⟩⟩)
    (fun x K hp hk => ⟨_, by kernel_rfl, vF_laws_FnWldNew x K hp (fun r h => hk r h)⟩)
end Go.Proofs.YtkencmgcibbfaaaE
