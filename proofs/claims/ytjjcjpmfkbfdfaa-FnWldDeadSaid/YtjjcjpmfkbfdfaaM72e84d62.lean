/- A part of the proof of laws of the program: what calls of the program answer. Conditions: none. -/
import Derived.Test.YtjjcjpmfkbfdfaaM646dee6d
set_option linter.unusedVariables false
set_option linter.unusedSimpArgs false
set_option linter.unusedSectionVars false

/- Contracts: N5. Conditions: none. -/
set_option linter.unusedVariables false
set_option maxHeartbeats 1600000
namespace Go.Proofs.YtjjcjpmfkbfdfaaE
open Go
def zEndN : EndN := RK.z .hend
def at_hend (l : List EndN) (i : Nat) : EndN := RK.at .hend l i
def at_hnet (l : List Nat) (i : Nat) : Nat := l.getD i 0
structure WldN where
  cfg : Cfg
  ends : List EndN
  net : List Nat
  link : Int
def wldNO (w : WldN) : List AC := [.d (.i .i64 w.cfg.mode), .d (.i .i64 w.cfg.win), .d (.i .i64 w.cfg.mps), .d (.i .i64 w.cfg.mtu), .d (.i .i64 w.cfg.try_), .own ⟨44, .hend, w.ends, m0⟩, .own ⟨64, .hnet, w.net, m0⟩, .d (.i .i64 w.link)]
def wldNM (w : WldN) (p q : Nat) (a b : Nat) : List Cm := [.d (.i .i64 w.cfg.mode), .d (.i .i64 w.cfg.win), .d (.i .i64 w.cfg.mps), .d (.i .i64 w.cfg.mtu), .d (.i .i64 w.cfg.try_), .ref p a, .ref q b, .d (.i .i64 w.link)]
def wldZM : List Cm := [.d (.i .i64 0), .d (.i .i64 0), .d (.i .i64 0), .d (.i .i64 0), .d (.i .i64 0), .d (.r .hend []), .d (.r .hnet []), .d (.i .i64 0)]
def oWO : Arg → Option WldN
  | .v true [.d (.i .i64 a), .d (.i .i64 b), .d (.i .i64 c), .d (.i .i64 d), .d (.i .i64 e), .own ⟨e1, .hend, es, ⟨none, false, 0, false⟩⟩, .own ⟨e2, .hnet, ns, ⟨none, false, 0, false⟩⟩, .d (.i .i64 l)] => if e1 = 44 then if e2 = 64 then some ⟨⟨a, b, c, d, e⟩, es, ns, l⟩ else none else none
  | _ => none
def rWldNO : Rep WldN where
  to w := .v true (wldNO w)
  of := oWO
  inv a x h _ := by
    unfold oWO at h
    split at h
    · split at h
      · rename_i h1
        split at h
        · rename_i h2
          subst h1; subst h2; cases h; rfl
        · simp at h
      · simp at h
    · simp at h
def EndI (c : Cfg) (e : EndN) : Prop := TxB e.tx ∧ (e.tx.flight : Int) ≤ c.win ∧ JInv e.rx.len e.rx.got ∧ e.ctx.queue ≤ 24 ∧ JInv e.crx.len e.crx.got ∧ e.put ≤ 60 ∧ e.got ≤ 60
structure WldI (w : WldN) : Prop where
  cfg : CfgP w.cfg
  el : w.ends.length = 2
  nl : w.net.length = 2
  en : ∀ i, EndI w.cfg (at_hend w.ends i)
  nn : ∀ i, at_hnet w.net i ≤ 30

theorem hend_self {l : List EndN} {i : Nat} {e : EndN} (h : i < l.length) : at_hend (l.set i e) i = e := by
  show (l.set i e).getD i zEndN = e
  rw [List.getD_eq_getElem?_getD, List.getElem?_set_self h]; rfl
theorem hend_ne {l : List EndN} {i j : Nat} {e : EndN} (h : i ≠ j) : at_hend (l.set i e) j = at_hend l j := by
  show (l.set i e).getD j zEndN = l.getD j zEndN
  rw [List.getD_eq_getElem?_getD, List.getElem?_set_ne h, List.getD_eq_getElem?_getD]
theorem hnet_self {l : List Nat} {i n : Nat} (h : i < l.length) : at_hnet (l.set i n) i = n := by
  show (l.set i n).getD i _ = n
  rw [List.getD_eq_getElem?_getD, List.getElem?_set_self h]; rfl
theorem hnet_ne {l : List Nat} {i j n : Nat} (h : i ≠ j) : at_hnet (l.set i n) j = at_hnet l j := by
  show (l.set i n).getD j _ = l.getD j _
  rw [List.getD_eq_getElem?_getD, List.getElem?_set_ne h, List.getD_eq_getElem?_getD]
theorem lenE_set {l : List EndN} {i n : Nat} {e : EndN} (h : l.length = n) : (l.set i e).length = n := List.length_set.trans h
theorem lenN_set {l : List Nat} {i n e : Nat} (h : l.length = n) : (l.set i e).length = n := List.length_set.trans h
theorem endI_set {c : Cfg} {l : List EndN} {i : Nat} {e : EndN} (h : ∀ j, EndI c (at_hend l j)) (he : EndI c e) : ∀ j, EndI c (at_hend (l.set i e) j) := fun j => by
  by_cases hl : i < l.length
  · by_cases hij : i = j
    · subst hij; rw [hend_self hl]; exact he
    · rw [hend_ne hij]; exact h j
  · rw [List.set_eq_of_length_le (by omega)]; exact h j
theorem netI_set {l : List Nat} {i n : Nat} (h : ∀ j, at_hnet l j ≤ 30) (hn : n ≤ 30) : ∀ j, at_hnet (l.set i n) j ≤ 30 := fun j => by
  by_cases hl : i < l.length
  · by_cases hij : i = j
    · subst hij; rw [hnet_self hl]; exact hn
    · rw [hnet_ne hij]; exact h j
  · rw [List.set_eq_of_length_le (by omega)]; exact h j

/-! spec.l9Way -/
def c_spec_l9Way : Ent := ctr (α := (WldN) × (Int) × (FrmN)) (ρ := (WldN)) [(0, 5), (0, 6)] [(0, 5), (0, 6)] (rs rWldNO (rs rInt (rs1 rFrmN))) (fun x_ => (fun (w : WldN) (who : Int) (f : FrmN) => (WldI w ∧ f.data ≤ 1000 ∧ 0 ≤ who ∧ who ≤ 1)) x_.1 x_.2.1 x_.2.2) (fun x_ r_ => (fun x_ => (fun (w : WldN) (who : Int) (f : FrmN) => ((fun r_ => (fun (q : WldN) => (WldI q ∧ q.cfg = w.cfg)) r_))) x_.1 x_.2.1 x_.2.2) x_ r_) (fun r_ => (fun (q : WldN) => ([rWldNO.to q])) r_) (fun r_ => (fun (q : WldN) => ([])) r_)
def V_spec_l9Way : Env := ⟨tys2, [(40, c_spec_FrmBytes)], [], [(3, 0), (5, 1), (6, 2)], [], [], [500013], [], [(3, [(0, false), (1, false), (2, false), (3, false), (4, false), (5, false), (6, false), (7, false), (8, false), (9, false), (10, true), (11, true), (12, false), (13, true)])]⟩
/-! spec.l9Ways -/
def c_spec_l9Ways : Ent := ctr (α := (WldN) × (Int) × (Nat)) (ρ := (WldN)) [(0, 5), (0, 6)] [(0, 5), (0, 6)] (rs rWldNO (rs rInt (rs1 (rH .frm)))) (fun x_ => (fun (w : WldN) (who : Int) (m : Nat) => (WldI w ∧ m ≤ 1000 ∧ 0 ≤ who ∧ who ≤ 1)) x_.1 x_.2.1 x_.2.2) (fun x_ r_ => (fun x_ => (fun (w : WldN) (who : Int) (m : Nat) => ((fun r_ => (fun (q : WldN) => (WldI q ∧ q.cfg = w.cfg)) r_))) x_.1 x_.2.1 x_.2.2) x_ r_) (fun r_ => (fun (q : WldN) => ([rWldNO.to q])) r_) (fun r_ => (fun (q : WldN) => ([])) r_)
def l_spec_l9Ways_0 : LoopD ((WldN) × (Int) × (Nat) × (Int)) ((WldN)) ((Empty)) where
  n := 22
  head := ⟨[1, 2, 3, 6, 7], [0, 1], [0, 1]⟩
  st := fun x_ => (fun (w : WldN) (who : Int) (m : Nat) (i : Int) => (⟨true, [(1, num .i64 who), (2, .v false [.d (.h .frm m)]), (3, .pb 0 1 0), (6, .pb 1 1 0), (7, num .i64 i)], [⟨0, some ⟨44, .hend, w.ends, m0⟩⟩, ⟨0, some ⟨64, .hnet, w.net, m0⟩⟩], [⟨1, some (wldNM w 0 1 0 0)⟩, ⟨1, some wldZM⟩]⟩)) x_.1 x_.2.1 x_.2.2.1 x_.2.2.2
  pre := fun x_ => (fun (w : WldN) (who : Int) (m : Nat) (i : Int) => (WldI w ∧ m ≤ 1000 ∧ 0 ≤ who ∧ who ≤ 1 ∧ i = 0)) x_.1 x_.2.1 x_.2.2.1 x_.2.2.2
  nk := ⟨[3, 6], [0, 1], [0, 1]⟩
  nst := fun r_ => (fun (q : WldN) => (⟨true, [(3, .pb 0 1 0), (6, .pb 1 1 0)], [⟨0, some ⟨44, .hend, q.ends, m0⟩⟩, ⟨0, some ⟨64, .hnet, q.net, m0⟩⟩], [⟨1, some (wldNM q 0 1 0 0)⟩, ⟨1, some wldZM⟩]⟩)) r_
  npost := fun x_ r_ => (fun x_ => (fun (w0 : WldN) (who0 : Int) (m0 : Nat) (i0 : Int) => ((fun r_ => (fun (q : WldN) => (WldI q ∧ q.cfg = w0.cfg)) r_))) x_.1 x_.2.1 x_.2.2.1 x_.2.2.2) x_ r_
  rk := ⟨[], [], []⟩
  rst := fun _ => ⟨true, [], [], []⟩
  rpost := fun _ _ => False
def i_spec_l9Ways_0 (x : (WldN) × (Int) × (Nat) × (Int)) (n : Nat) (s : (WldN) × (Int) × (Nat) × (Int)) : Prop := (fun x_ => (fun (w0 : WldN) (who0 : Int) (m0 : Nat) (i0 : Int) => ((fun s_ => (fun (w : WldN) (who : Int) (m : Nat) (i : Int) => (WldI w ∧ w.cfg = w0.cfg ∧ who = who0 ∧ m = m0 ∧ m ≤ 1000 ∧ 0 ≤ who ∧ who ≤ 1 ∧ 0 ≤ i ∧ i + n = m)) s_.1 s_.2.1 s_.2.2.1 s_.2.2.2))) x_.1 x_.2.1 x_.2.2.1 x_.2.2.2) x s
def V_spec_l9Ways : Env := ⟨tys2, [(64, c_spec_l9Way)], [(20, [0, 1])], [(3, 0), (6, 1)], [(4, ([], [0, 1]))], [(0, l_spec_l9Ways_0.L)], [], [], [(4, [(0, false), (1, false), (2, false), (3, false), (4, false), (5, false), (6, true), (7, true)])]⟩
/-! spec.l9Tell -/
def c_spec_l9Tell : Ent := ctr (α := (WldN) × (Int) × (Nat)) (ρ := (WldN)) [(0, 5), (0, 6)] [(0, 5), (0, 6)] (rs rWldNO (rs rInt (rs1 (rH .byr)))) (fun x_ => (fun (w : WldN) (who : Int) (m : Nat) => (WldI w ∧ m ≤ 1000 ∧ 0 ≤ who ∧ who ≤ 1)) x_.1 x_.2.1 x_.2.2) (fun x_ r_ => (fun x_ => (fun (w : WldN) (who : Int) (m : Nat) => ((fun r_ => (fun (q : WldN) => (WldI q ∧ q.cfg = w.cfg)) r_))) x_.1 x_.2.1 x_.2.2) x_ r_) (fun r_ => (fun (q : WldN) => ([rWldNO.to q])) r_) (fun r_ => (fun (q : WldN) => ([])) r_)
def l_spec_l9Tell_0 : LoopD ((WldN) × (Int) × (Nat) × (Int)) ((WldN)) ((Empty)) where
  n := 40
  head := ⟨[1, 2, 3, 6, 7], [0, 1], [0, 1]⟩
  st := fun x_ => (fun (w : WldN) (who : Int) (m : Nat) (i : Int) => (⟨true, [(1, num .i64 who), (2, .v false [.d (.h .byr m)]), (3, .pb 0 1 0), (6, .pb 1 1 0), (7, num .i64 i)], [⟨0, some ⟨44, .hend, w.ends, m0⟩⟩, ⟨0, some ⟨64, .hnet, w.net, m0⟩⟩], [⟨1, some (wldNM w 0 1 0 0)⟩, ⟨1, some wldZM⟩]⟩)) x_.1 x_.2.1 x_.2.2.1 x_.2.2.2
  pre := fun x_ => (fun (w : WldN) (who : Int) (m : Nat) (i : Int) => (WldI w ∧ m ≤ 1000 ∧ 0 ≤ who ∧ who ≤ 1 ∧ i = 0)) x_.1 x_.2.1 x_.2.2.1 x_.2.2.2
  nk := ⟨[3, 6], [0, 1], [0, 1]⟩
  nst := fun r_ => (fun (q : WldN) => (⟨true, [(3, .pb 0 1 0), (6, .pb 1 1 0)], [⟨0, some ⟨44, .hend, q.ends, m0⟩⟩, ⟨0, some ⟨64, .hnet, q.net, m0⟩⟩], [⟨1, some (wldNM q 0 1 0 0)⟩, ⟨1, some wldZM⟩]⟩)) r_
  npost := fun x_ r_ => (fun x_ => (fun (w0 : WldN) (who0 : Int) (m0 : Nat) (i0 : Int) => ((fun r_ => (fun (q : WldN) => (WldI q ∧ q.cfg = w0.cfg)) r_))) x_.1 x_.2.1 x_.2.2.1 x_.2.2.2) x_ r_
  rk := ⟨[], [], []⟩
  rst := fun _ => ⟨true, [], [], []⟩
  rpost := fun _ _ => False
def i_spec_l9Tell_0 (x : (WldN) × (Int) × (Nat) × (Int)) (n : Nat) (s : (WldN) × (Int) × (Nat) × (Int)) : Prop := (fun x_ => (fun (w0 : WldN) (who0 : Int) (m0 : Nat) (i0 : Int) => ((fun s_ => (fun (w : WldN) (who : Int) (m : Nat) (i : Int) => (WldI w ∧ w.cfg = w0.cfg ∧ who = who0 ∧ m = m0 ∧ m ≤ 1000 ∧ 0 ≤ who ∧ who ≤ 1 ∧ 0 ≤ i ∧ i + n = m)) s_.1 s_.2.1 s_.2.2.1 s_.2.2.2))) x_.1 x_.2.1 x_.2.2.1 x_.2.2.2) x s
def V_spec_l9Tell : Env := ⟨tys2, [], [], [(3, 0), (6, 1)], [], [(0, l_spec_l9Tell_0.L)], [], [], [(5, [(0, false), (1, false), (2, false), (3, false), (4, false), (5, false), (6, false), (7, false), (8, false), (9, false), (10, false), (11, false), (12, false), (13, true), (14, true), (15, false), (16, false), (17, true)])]⟩
end Go.Proofs.YtjjcjpmfkbfdfaaE


/- Calls answer what is promised: N5. Conditions: none. -/
set_option linter.unusedVariables false
set_option maxHeartbeats 1600000
namespace Go.Proofs.YtjjcjpmfkbfdfaaE
open Go
def k_f6309a (s_:(Prod WldN (Prod Int (Prod Nat Int)))) : KS := (KS.mk true [(Prod.mk 1 (num IntKind.i64 s_.snd.fst)),(Prod.mk 2 (T.v false [(Cm.d (D.h RK.frm s_.snd.snd.fst))])),(Prod.mk 3 (T.pb 0 1 0)),(Prod.mk 6 (T.pb 1 1 0)),(Prod.mk 7 (num IntKind.i64 s_.snd.snd.snd))] [(Row.mk 0 (some (RC.mk 44 RK.hend s_.fst.ends (RM.mk (none) false 0 false)))),(Row.mk 0 (some (RC.mk 64 RK.hnet s_.fst.net (RM.mk (none) false 0 false))))] [(Box.mk 1 (some [(mi s_.fst.cfg.mode),(mi s_.fst.cfg.win),(mi s_.fst.cfg.mps),(mi s_.fst.cfg.mtu),(mi s_.fst.cfg.try_),(Cm.ref 0 0),(Cm.ref 1 0),(mi s_.fst.link)])),(Box.mk 1 (some [(mi 0),(mi 0),(mi 0),(mi 0),(mi 0),(Cm.d (D.r RK.hend ([]:(List EndN)))),(Cm.d (D.r RK.hnet ([]:(List Nat)))),(mi 0)]))])
def k_a3f05f (s_:WldN) : KS := (KS.mk true [(Prod.mk 3 (T.pb 0 1 0)),(Prod.mk 6 (T.pb 1 1 0))] [(Row.mk 0 (some (RC.mk 44 RK.hend s_.ends (RM.mk (none) false 0 false)))),(Row.mk 0 (some (RC.mk 64 RK.hnet s_.net (RM.mk (none) false 0 false))))] [(Box.mk 1 (some [(mi s_.cfg.mode),(mi s_.cfg.win),(mi s_.cfg.mps),(mi s_.cfg.mtu),(mi s_.cfg.try_),(Cm.ref 0 0),(Cm.ref 1 0),(mi s_.link)])),(Box.mk 1 (some [(mi 0),(mi 0),(mi 0),(mi 0),(mi 0),(Cm.d (D.r RK.hend ([]:(List EndN)))),(Cm.d (D.r RK.hnet ([]:(List Nat)))),(mi 0)]))])
def k_04303c (s_:(Prod WldN (Prod Int (Prod Nat Int)))) : KS := (KS.mk true [(Prod.mk 1 (num IntKind.i64 s_.snd.fst)),(Prod.mk 2 (T.v false [(Cm.d (D.h RK.byr s_.snd.snd.fst))])),(Prod.mk 3 (T.pb 0 1 0)),(Prod.mk 6 (T.pb 1 1 0)),(Prod.mk 7 (num IntKind.i64 s_.snd.snd.snd))] [(Row.mk 0 (some (RC.mk 44 RK.hend s_.fst.ends (RM.mk (none) false 0 false)))),(Row.mk 0 (some (RC.mk 64 RK.hnet s_.fst.net (RM.mk (none) false 0 false))))] [(Box.mk 1 (some [(mi s_.fst.cfg.mode),(mi s_.fst.cfg.win),(mi s_.fst.cfg.mps),(mi s_.fst.cfg.mtu),(mi s_.fst.cfg.try_),(Cm.ref 0 0),(Cm.ref 1 0),(mi s_.fst.link)])),(Box.mk 1 (some [(mi 0),(mi 0),(mi 0),(mi 0),(mi 0),(Cm.d (D.r RK.hend ([]:(List EndN)))),(Cm.d (D.r RK.hnet ([]:(List Nat)))),(mi 0)]))])
theorem vF_spec_l9Way (w:WldN) (who:Int) (f:FrmN) (K:List Arg→List (List AC)→Prop) (hp:WldI w∧f.data≤1000∧0≤who∧who≤1) (hk:∀ (q:WldN),(WldI q∧q.cfg=w.cfg)→K ([rWldNO.to q]) ([])):Tt ((f.data≤1000)∧(∀ r:Nat,(r≤15)→Tt (if ((decide (((r:Nat):Int) > (0:Int)))=true) then (((0≤who)∧(who < ((w.net.length:Nat):Int)))∧(if ((decide ((((at_hnet w.net who.toNat):Nat):Int) < (30:Int)))=true) then (((0≤who)∧(who < ((w.net.length:Nat):Int)))∧(((((RK.u8=RK.u8)∧(r≤1000))∧True)∧True)∧(Tt ((((at_hnet w.net who.toNat) + 1)≤137438953472)∧(Tt (((0≤who)∧(who < ((w.net.length:Nat):Int)))∧(Tt (Tt (K [(Arg.v true [(ai w.cfg.mode),(ai w.cfg.win),(ai w.cfg.mps),(ai w.cfg.mtu),(ai w.cfg.try_),(AC.own (RC.mk 44 RK.hend w.ends (RM.mk (dpM false (none)) false 0 false))),(AC.own (RC.mk 64 RK.hnet (List.set w.net who.toNat ((at_hnet w.net who.toNat) + 1)) (RM.mk (dpM false (none)) false 0 false))),(ai w.link)])] []))))))))) else (Tt (K [(Arg.v true [(ai w.cfg.mode),(ai w.cfg.win),(ai w.cfg.mps),(ai w.cfg.mtu),(ai w.cfg.try_),(AC.own (RC.mk 44 RK.hend w.ends (RM.mk (dpM false (none)) false 0 false))),(AC.own (RC.mk 64 RK.hnet w.net (RM.mk (dpM false (none)) false 0 false))),(ai w.link)])] [])))) else (Tt (K [(Arg.v true [(ai w.cfg.mode),(ai w.cfg.win),(ai w.cfg.mps),(ai w.cfg.mtu),(ai w.cfg.try_),(AC.own (RC.mk 44 RK.hend w.ends (RM.mk (dpM false (none)) false 0 false))),(AC.own (RC.mk 64 RK.hnet w.net (RM.mk (dpM false (none)) false 0 false))),(ai w.link)])] []))))) := by
  have hw := hp.1
  have hc := hw.cfg
  have hl1 := hw.el
  have hl2 := hw.nl
  have he0 := hw.en who.toNat
  have hn0 := hw.nn who.toNat
  have he1 := hw.en (1 - who).toNat
  have hn1 := hw.nn (1 - who).toNat
  have hkk := fun a1_ a2_ a3_ a4_ a5_ a6_ a7_ a8_ h_ => hk ⟨⟨a1_, a2_, a3_, a4_, a5_⟩, a6_, a7_, a8_⟩ h_
  dsimp only [rWldNO, wldNO, rS, List.map] at hkk
  try simp (disch := omega) only [wr]
  repeat' first
    | exact rfl
    | exact True.intro
    | with_reducible apply And.intro
    | (intro (hy_ : WldI _ ∧ _)
       obtain ⟨hw_, hc_⟩ := hy_
       try have hm_ := hc_.2
       try have hc_ := hc_.1
       have hl1_ := hw_.el
       have hl2_ := hw_.nl)
    | (with_reducible intro y_ hy_; subst hy_)
    | with_reducible intro y_
    | (refine iteI (fun h => ?_) (fun h => ?_))
    | fail
  all_goals try simp only [cq1, cq2, cq3, cq4, cq5, cq6, cq7, cq8, cq9, cq10, cq11, cq12, cq13, cq14, cq15, cq16, cq17, cq18, cq19] at *
  all_goals try simp (disch := omega) only [hend_self, hnet_self, List.length_set] at *
  all_goals try simp (disch := omega) only [wr] at *
  all_goals first
    | assumption
    | omega
    | exact hi.2.1
    | exact hc_
    | exact hc_.trans hi.2.1
    | (refine WldI.mk ?_ ?_ ?_ ?_ ?_
       all_goals try dsimp only
       all_goals repeat' first | (refine endI_set ?_ ?_) | (refine netI_set ?_ ?_) | (refine lenE_set ?_) | (refine lenN_set ?_)
       all_goals first
         | assumption
         | (apply WldI.cfg; assumption)
         | (apply WldI.en; assumption)
         | (apply WldI.nn; assumption)
         | exact netI_00
         | omega
         | (simp only [EndI, TxB, JInv] at *; omega)
         | grind [EndI, TxB, JInv]
         | skip)
    | (refine hkk _ _ _ _ _ _ _ _ ?_
       refine ⟨?_, ?_⟩
       · (refine WldI.mk ?_ ?_ ?_ ?_ ?_
          all_goals try dsimp only
          all_goals repeat' first | (refine endI_set ?_ ?_) | (refine netI_set ?_ ?_) | (refine lenE_set ?_) | (refine lenN_set ?_)
          all_goals first
            | assumption
            | (apply WldI.cfg; assumption)
            | (apply WldI.en; assumption)
            | (apply WldI.nn; assumption)
            | exact netI_00
            | omega
            | (simp only [EndI, TxB, JInv] at *; omega)
            | grind [EndI, TxB, JInv]
            | skip)
       · first | done | rfl | assumption | exact hi.2.1 | exact hc_ | exact hc_.trans hi.2.1 | exact hc_.trans (by assumption) | grind)
    | exact (wr8_in _).1
    | exact (wr8_in _).2
    | (simp only [EndI, TxB, JInv, LIM, HL] at *; omega)
    | grind [EndI, TxB, JInv, LIM, HL]
theorem w_spec_l9Way : Valid Try.prog 64 c_spec_l9Way :=
  valid_ctr2 (V := V_spec_l9Way) (tysB_ok tys2_ok) ⟨(CallsL.cons w_spec_FrmBytes (CallsL.nil _)), (IosL.nil _)⟩ mixed 0 3 Try.func64 rfl (by kernel_rfl)
    (fun c hc => by
      obtain rfl := Option.some.inj hc
      exact ⟨trivial, ⟨trivial, ⟨⟨trivial, ⟨trivial, trivial⟩⟩, ⟨trivial, trivial⟩⟩⟩⟩)
    (fun x K hp hk => ⟨_, by kernel_rfl, vF_spec_l9Way x.1 x.2.1 x.2.2 K hp (fun q h => hk q h)⟩)
theorem vF_spec_l9Ways (w:WldN) (who:Int) (m:Nat) (K:List Arg→List (List AC)→Prop) (hp:WldI w∧m≤1000∧0≤who∧who≤1) (hk:∀ (q:WldN),(WldI q∧q.cfg=w.cfg)→K ([rWldNO.to q]) ([])):∃ s:(Prod WldN (Prod Int (Prod Nat Int))),((KS.mk true [(Prod.mk 1 (num IntKind.i64 who)),(Prod.mk 2 (T.v false [(Cm.d (D.h RK.frm m))])),(Prod.mk 3 (T.pb 0 1 0)),(Prod.mk 6 (T.pb 1 1 0)),(Prod.mk 7 (num IntKind.i64 0))] [(Row.mk 0 (some (RC.mk 44 RK.hend w.ends (RM.mk (none) false 0 false)))),(Row.mk 0 (some (RC.mk 64 RK.hnet w.net (RM.mk (none) false 0 false))))] [(Box.mk (Min.min 1 1) (some [(mi w.cfg.mode),(mi w.cfg.win),(mi w.cfg.mps),(mi w.cfg.mtu),(mi w.cfg.try_),(Cm.ref 0 0),(Cm.ref 1 0),(mi w.link)])),(Box.mk 1 (some [(mi 0),(mi 0),(mi 0),(mi 0),(mi 0),(Cm.d (D.r RK.hend ([]:(List EndN)))),(Cm.d (D.r RK.hnet ([]:(List Nat)))),(mi 0)]))])=(k_f6309a s))∧(((WldI s.fst)∧((s.snd.snd.fst≤1000)∧((0≤s.snd.fst)∧((s.snd.fst≤1)∧(s.snd.snd.snd=0)))))∧((∀ r:WldN,((WldI r)∧(r.cfg=s.fst.cfg))→Tt (K [(Arg.v true [(ai r.cfg.mode),(ai r.cfg.win),(ai r.cfg.mps),(ai r.cfg.mtu),(ai r.cfg.try_),(AC.own (RC.mk 44 RK.hend r.ends (RM.mk (dpM false (none)) false 0 false))),(AC.own (RC.mk 64 RK.hnet r.net (RM.mk (dpM false (none)) false 0 false))),(ai r.link)])] []))∧(∀ r:Empty,False→False))) := by
  have hw := hp.1
  have hc := hw.cfg
  have hl1 := hw.el
  have hl2 := hw.nl
  have he0 := hw.en who.toNat
  have hn0 := hw.nn who.toNat
  have he1 := hw.en (1 - who).toNat
  have hn1 := hw.nn (1 - who).toNat
  have hkk := fun a1_ a2_ a3_ a4_ a5_ a6_ a7_ a8_ h_ => hk ⟨⟨a1_, a2_, a3_, a4_, a5_⟩, a6_, a7_, a8_⟩ h_
  dsimp only [rWldNO, wldNO, rS, List.map] at hkk
  try simp (disch := omega) only [wr]
  repeat' first
    | exact rfl
    | exact True.intro
    | with_reducible apply And.intro
    | (intro (hy_ : WldI _ ∧ _)
       obtain ⟨hw_, hc_⟩ := hy_
       try have hm_ := hc_.2
       try have hc_ := hc_.1
       have hl1_ := hw_.el
       have hl2_ := hw_.nl)
    | (with_reducible intro y_ hy_; subst hy_)
    | with_reducible intro y_
    | (refine iteI (fun h => ?_) (fun h => ?_))
    | refine ⟨(⟨⟨_, _, _, _, _⟩, _, _, _⟩, _, _, _), rfl, ?_⟩
    | refine ⟨n - 1, ?_⟩
    | fail
  all_goals try simp only [cq1, cq2, cq3, cq4, cq5, cq6, cq7, cq8, cq9, cq10, cq11, cq12, cq13, cq14, cq15, cq16, cq17, cq18, cq19] at *
  all_goals try simp (disch := omega) only [hend_self, hnet_self, List.length_set] at *
  all_goals try simp (disch := omega) only [wr] at *
  all_goals first
    | assumption
    | omega
    | exact hi.2.1
    | exact hc_
    | exact hc_.trans hi.2.1
    | (refine WldI.mk ?_ ?_ ?_ ?_ ?_
       all_goals try dsimp only
       all_goals repeat' first | (refine endI_set ?_ ?_) | (refine netI_set ?_ ?_) | (refine lenE_set ?_) | (refine lenN_set ?_)
       all_goals first
         | assumption
         | (apply WldI.cfg; assumption)
         | (apply WldI.en; assumption)
         | (apply WldI.nn; assumption)
         | exact netI_00
         | omega
         | (simp only [EndI, TxB, JInv] at *; omega)
         | grind [EndI, TxB, JInv]
         | skip)
    | (refine hkk _ _ _ _ _ _ _ _ ?_
       refine ⟨?_, ?_⟩
       · (refine WldI.mk ?_ ?_ ?_ ?_ ?_
          all_goals try dsimp only
          all_goals repeat' first | (refine endI_set ?_ ?_) | (refine netI_set ?_ ?_) | (refine lenE_set ?_) | (refine lenN_set ?_)
          all_goals first
            | assumption
            | (apply WldI.cfg; assumption)
            | (apply WldI.en; assumption)
            | (apply WldI.nn; assumption)
            | exact netI_00
            | omega
            | (simp only [EndI, TxB, JInv] at *; omega)
            | grind [EndI, TxB, JInv]
            | skip)
       · first | done | rfl | assumption | exact hi.2.1 | exact hc_ | exact hc_.trans hi.2.1 | exact hc_.trans (by assumption) | grind)
    | exact (wr8_in _).1
    | exact (wr8_in _).2
    | (simp only [EndI, TxB, JInv, LIM, HL] at *; omega)
    | grind [EndI, TxB, JInv, LIM, HL]
theorem vL_spec_l9Ways_0 (w0:WldN) (who0:Int) (m0:Nat) (i0:Int) (w:WldN) (who:Int) (m:Nat) (i:Int) (n:Nat) (hp:(fun (w:WldN) (who:Int) (m:Nat) (i:Int) => (WldI w∧m≤1000∧0≤who∧who≤1∧i=0)) w0 who0 m0 i0) (hi:WldI w∧w.cfg=w0.cfg∧who=who0∧m=m0∧m≤1000∧0≤who∧who≤1∧0≤i∧i + n=m):if ((decide (i < ((m:Nat):Int)))=true) then (((0≤i)∧(i < ((m:Nat):Int)))∧(∀ x:Int,∀ x1:Int,∀ x2:Int,∀ x3:Bool,∀ x4:Bool,∀ x5:Int,∀ x6:Int,∀ x7:Int,∀ n1:Nat,(n1≤1000)→Tt (((WldI (WldN.mk w.cfg w.ends w.net w.link))∧((n1≤1000)∧((0≤who)∧(who≤1))))∧(∀ r:WldN,((WldI r)∧(r.cfg=w.cfg))→Tt (Tt (Tt (∃ s:(Prod WldN (Prod Int (Prod Nat Int))),((KS.mk true [(Prod.mk 1 (num IntKind.i64 who)),(Prod.mk 2 (T.v false [(Cm.d (D.h RK.frm m))])),(Prod.mk 3 (T.pb 0 1 0)),(Prod.mk 6 (T.pb 1 1 0)),(Prod.mk 7 (num IntKind.i64 (IntKind.i64.wrap (i + 1))))] [(Row.mk 0 (some (RC.mk 44 RK.hend r.ends (RM.mk (none) false 0 false)))),(Row.mk 0 (some (RC.mk 64 RK.hnet r.net (RM.mk (none) false 0 false))))] [(Box.mk (Min.min 1 1) (some [(mi r.cfg.mode),(mi r.cfg.win),(mi r.cfg.mps),(mi r.cfg.mtu),(mi r.cfg.try_),(Cm.ref 0 0),(Cm.ref 1 0),(mi r.link)])),(Box.mk 1 (some [(mi 0),(mi 0),(mi 0),(mi 0),(mi 0),(Cm.d (D.r RK.hend ([]:(List EndN)))),(Cm.d (D.r RK.hnet ([]:(List Nat)))),(mi 0)]))])=(k_f6309a s))∧(∃ m1:Nat,(m1 < n)∧((WldI s.fst)∧((s.fst.cfg=w0.cfg)∧((s.snd.fst=who0)∧((s.snd.snd.fst=m0)∧((s.snd.snd.fst≤1000)∧((0≤s.snd.fst)∧((s.snd.fst≤1)∧((0≤s.snd.snd.snd)∧((s.snd.snd.snd + ((m1:Nat):Int))=((s.snd.snd.fst:Nat):Int)))))))))))))))))) else (∃ r:WldN,((KS.mk true [(Prod.mk 3 (T.pb 0 1 0)),(Prod.mk 6 (T.pb 1 1 0))] [(Row.mk 0 (some (RC.mk 44 RK.hend w.ends (RM.mk (none) false 0 false)))),(Row.mk 0 (some (RC.mk 64 RK.hnet w.net (RM.mk (none) false 0 false))))] [(Box.mk (Min.min 1 1) (some [(mi w.cfg.mode),(mi w.cfg.win),(mi w.cfg.mps),(mi w.cfg.mtu),(mi w.cfg.try_),(Cm.ref 0 0),(Cm.ref 1 0),(mi w.link)])),(Box.mk 1 (some [(mi 0),(mi 0),(mi 0),(mi 0),(mi 0),(Cm.d (D.r RK.hend ([]:(List EndN)))),(Cm.d (D.r RK.hnet ([]:(List Nat)))),(mi 0)]))])=(k_a3f05f r))∧((WldI r)∧(r.cfg=w0.cfg))) := by
  try dsimp only at hp
  have hw := hi.1
  have hc := hw.cfg
  have hl1 := hw.el
  have hl2 := hw.nl
  have he0 := hw.en who.toNat
  have hn0 := hw.nn who.toNat
  have he1 := hw.en (1 - who).toNat
  have hn1 := hw.nn (1 - who).toNat
  try simp (disch := omega) only [wr]
  repeat' first
    | exact rfl
    | exact True.intro
    | with_reducible apply And.intro
    | (intro (hy_ : WldI _ ∧ _)
       obtain ⟨hw_, hc_⟩ := hy_
       try have hm_ := hc_.2
       try have hc_ := hc_.1
       have hl1_ := hw_.el
       have hl2_ := hw_.nl)
    | (with_reducible intro y_ hy_; subst hy_)
    | with_reducible intro y_
    | (refine iteI (fun h => ?_) (fun h => ?_))
    | refine ⟨(⟨⟨_, _, _, _, _⟩, _, _, _⟩, _, _, _), rfl, ?_⟩
    | refine ⟨⟨⟨_, _, _, _, _⟩, _, _, _⟩, rfl, ?_⟩
    | refine ⟨n - 1, ?_⟩
    | fail
  all_goals try simp only [cq1, cq2, cq3, cq4, cq5, cq6, cq7, cq8, cq9, cq10, cq11, cq12, cq13, cq14, cq15, cq16, cq17, cq18, cq19] at *
  all_goals try simp (disch := omega) only [hend_self, hnet_self, List.length_set] at *
  all_goals try simp (disch := omega) only [wr] at *
  all_goals first
    | assumption
    | omega
    | exact hi.2.1
    | exact hc_
    | exact hc_.trans hi.2.1
    | (refine WldI.mk ?_ ?_ ?_ ?_ ?_
       all_goals try dsimp only
       all_goals repeat' first | (refine endI_set ?_ ?_) | (refine netI_set ?_ ?_) | (refine lenE_set ?_) | (refine lenN_set ?_)
       all_goals first
         | assumption
         | (apply WldI.cfg; assumption)
         | (apply WldI.en; assumption)
         | (apply WldI.nn; assumption)
         | exact netI_00
         | omega
         | (simp only [EndI, TxB, JInv] at *; omega)
         | grind [EndI, TxB, JInv]
         | skip)
    | (refine hk ?_
       refine ⟨?_, ?_⟩
       · (refine WldI.mk ?_ ?_ ?_ ?_ ?_
          all_goals try dsimp only
          all_goals repeat' first | (refine endI_set ?_ ?_) | (refine netI_set ?_ ?_) | (refine lenE_set ?_) | (refine lenN_set ?_)
          all_goals first
            | assumption
            | (apply WldI.cfg; assumption)
            | (apply WldI.en; assumption)
            | (apply WldI.nn; assumption)
            | exact netI_00
            | omega
            | (simp only [EndI, TxB, JInv] at *; omega)
            | grind [EndI, TxB, JInv]
            | skip)
       · first | done | rfl | assumption | exact hi.2.1 | exact hc_ | exact hc_.trans hi.2.1 | exact hc_.trans (by assumption) | grind)
    | exact (wr8_in _).1
    | exact (wr8_in _).2
    | (simp only [EndI, TxB, JInv, LIM, HL] at *; omega)
    | grind [EndI, TxB, JInv, LIM, HL]
theorem vS_spec_l9Ways_0 (w0 : WldN) (who0 : Int) (m0 : Nat) (i0 : Int) (hp : (fun (w : WldN) (who : Int) (m : Nat) (i : Int) => (WldI w ∧ m ≤ 1000 ∧ 0 ≤ who ∧ who ≤ 1 ∧ i = 0)) w0 who0 m0 i0) : ∃ n : Nat, (fun (w : WldN) (who : Int) (m : Nat) (i : Int) => (WldI w ∧ w.cfg = w0.cfg ∧ who = who0 ∧ m = m0 ∧ m ≤ 1000 ∧ 0 ≤ who ∧ who ≤ 1 ∧ 0 ≤ i ∧ i + n = m)) w0 who0 m0 i0 := by
  try dsimp only at hp
  try dsimp only
  exact ⟨m0, hp.1, rfl, rfl, rfl, hp.2.1, hp.2.2.1, hp.2.2.2.1, by omega, by omega⟩
theorem w_spec_l9Ways : Valid Try.prog 66 c_spec_l9Ways :=
  valid_ctr2 (V := V_spec_l9Ways) (tysB_ok tys2_ok) ⟨(CallsL.cons w_spec_l9Way (CallsL.nil _)), (IosL.nil _)⟩ mixed 0 2 Try.func66 rfl (by kernel_rfl)
    (fun c hc => by
      obtain rfl := Option.some.inj hc
      exact ⟨trivial, ⟨⟨trivial, ⟨LoopD.ok2 (V := V_spec_l9Ways) l_spec_l9Ways_0 (LoopsM.cons 0 l_spec_l9Ways_0 LoopsM.nil) 0 _ i_spec_l9Ways_0 (fun x hx => vS_spec_l9Ways_0 x.1 x.2.1 x.2.2.1 x.2.2.2 hx) (fun x hx n s hi => ⟨_, by kernel_rfl, vL_spec_l9Ways_0 x.1 x.2.1 x.2.2.1 x.2.2.2 s.1 s.2.1 s.2.2.1 s.2.2.2 n hx hi⟩), ⟨⟨trivial, ⟨trivial, trivial⟩⟩, ⟨trivial, trivial⟩⟩⟩⟩, ⟨trivial, trivial⟩⟩⟩)
    (fun x K hp hk => ⟨_, by kernel_rfl, vF_spec_l9Ways x.1 x.2.1 x.2.2 K hp (fun q h => hk q h)⟩)
theorem vF_spec_l9Tell (w:WldN) (who:Int) (m:Nat) (K:List Arg→List (List AC)→Prop) (hp:WldI w∧m≤1000∧0≤who∧who≤1) (hk:∀ (q:WldN),(WldI q∧q.cfg=w.cfg)→K ([rWldNO.to q]) ([])):∃ s:(Prod WldN (Prod Int (Prod Nat Int))),((KS.mk true [(Prod.mk 1 (num IntKind.i64 who)),(Prod.mk 2 (T.v false [(Cm.d (D.h RK.byr m))])),(Prod.mk 3 (T.pb 0 1 0)),(Prod.mk 6 (T.pb 1 1 0)),(Prod.mk 7 (num IntKind.i64 0))] [(Row.mk 0 (some (RC.mk 44 RK.hend w.ends (RM.mk (none) false 0 false)))),(Row.mk 0 (some (RC.mk 64 RK.hnet w.net (RM.mk (none) false 0 false))))] [(Box.mk (Min.min 1 1) (some [(mi w.cfg.mode),(mi w.cfg.win),(mi w.cfg.mps),(mi w.cfg.mtu),(mi w.cfg.try_),(Cm.ref 0 0),(Cm.ref 1 0),(mi w.link)])),(Box.mk 1 (some [(mi 0),(mi 0),(mi 0),(mi 0),(mi 0),(Cm.d (D.r RK.hend ([]:(List EndN)))),(Cm.d (D.r RK.hnet ([]:(List Nat)))),(mi 0)]))])=(k_04303c s))∧(((WldI s.fst)∧((s.snd.snd.fst≤1000)∧((0≤s.snd.fst)∧((s.snd.fst≤1)∧(s.snd.snd.snd=0)))))∧((∀ r:WldN,((WldI r)∧(r.cfg=s.fst.cfg))→Tt (K [(Arg.v true [(ai r.cfg.mode),(ai r.cfg.win),(ai r.cfg.mps),(ai r.cfg.mtu),(ai r.cfg.try_),(AC.own (RC.mk 44 RK.hend r.ends (RM.mk (dpM false (none)) false 0 false))),(AC.own (RC.mk 64 RK.hnet r.net (RM.mk (dpM false (none)) false 0 false))),(ai r.link)])] []))∧(∀ r:Empty,False→False))) := by
  have hw := hp.1
  have hc := hw.cfg
  have hl1 := hw.el
  have hl2 := hw.nl
  have he0 := hw.en who.toNat
  have hn0 := hw.nn who.toNat
  have he1 := hw.en (1 - who).toNat
  have hn1 := hw.nn (1 - who).toNat
  have hkk := fun a1_ a2_ a3_ a4_ a5_ a6_ a7_ a8_ h_ => hk ⟨⟨a1_, a2_, a3_, a4_, a5_⟩, a6_, a7_, a8_⟩ h_
  dsimp only [rWldNO, wldNO, rS, List.map] at hkk
  try simp (disch := omega) only [wr]
  repeat' first
    | exact rfl
    | exact True.intro
    | with_reducible apply And.intro
    | (intro (hy_ : WldI _ ∧ _)
       obtain ⟨hw_, hc_⟩ := hy_
       try have hm_ := hc_.2
       try have hc_ := hc_.1
       have hl1_ := hw_.el
       have hl2_ := hw_.nl)
    | (with_reducible intro y_ hy_; subst hy_)
    | with_reducible intro y_
    | (refine iteI (fun h => ?_) (fun h => ?_))
    | refine ⟨(⟨⟨_, _, _, _, _⟩, _, _, _⟩, _, _, _), rfl, ?_⟩
    | refine ⟨n - 1, ?_⟩
    | fail
  all_goals try simp only [cq1, cq2, cq3, cq4, cq5, cq6, cq7, cq8, cq9, cq10, cq11, cq12, cq13, cq14, cq15, cq16, cq17, cq18, cq19] at *
  all_goals try simp (disch := omega) only [hend_self, hnet_self, List.length_set] at *
  all_goals try simp (disch := omega) only [wr] at *
  all_goals first
    | assumption
    | omega
    | exact hi.2.1
    | exact hc_
    | exact hc_.trans hi.2.1
    | (refine WldI.mk ?_ ?_ ?_ ?_ ?_
       all_goals try dsimp only
       all_goals repeat' first | (refine endI_set ?_ ?_) | (refine netI_set ?_ ?_) | (refine lenE_set ?_) | (refine lenN_set ?_)
       all_goals first
         | assumption
         | (apply WldI.cfg; assumption)
         | (apply WldI.en; assumption)
         | (apply WldI.nn; assumption)
         | exact netI_00
         | omega
         | (simp only [EndI, TxB, JInv] at *; omega)
         | grind [EndI, TxB, JInv]
         | skip)
    | (refine hkk _ _ _ _ _ _ _ _ ?_
       refine ⟨?_, ?_⟩
       · (refine WldI.mk ?_ ?_ ?_ ?_ ?_
          all_goals try dsimp only
          all_goals repeat' first | (refine endI_set ?_ ?_) | (refine netI_set ?_ ?_) | (refine lenE_set ?_) | (refine lenN_set ?_)
          all_goals first
            | assumption
            | (apply WldI.cfg; assumption)
            | (apply WldI.en; assumption)
            | (apply WldI.nn; assumption)
            | exact netI_00
            | omega
            | (simp only [EndI, TxB, JInv] at *; omega)
            | grind [EndI, TxB, JInv]
            | skip)
       · first | done | rfl | assumption | exact hi.2.1 | exact hc_ | exact hc_.trans hi.2.1 | exact hc_.trans (by assumption) | grind)
    | exact (wr8_in _).1
    | exact (wr8_in _).2
    | (simp only [EndI, TxB, JInv, LIM, HL] at *; omega)
    | grind [EndI, TxB, JInv, LIM, HL]
theorem vL_spec_l9Tell_0 (w0:WldN) (who0:Int) (m0:Nat) (i0:Int) (w:WldN) (who:Int) (m:Nat) (i:Int) (n:Nat) (hp:(fun (w:WldN) (who:Int) (m:Nat) (i:Int) => (WldI w∧m≤1000∧0≤who∧who≤1∧i=0)) w0 who0 m0 i0) (hi:WldI w∧w.cfg=w0.cfg∧who=who0∧m=m0∧m≤1000∧0≤who∧who≤1∧0≤i∧i + n=m):if ((decide (i < ((m:Nat):Int)))=true) then (((0≤who)∧(who < ((w.ends.length:Nat):Int)))∧(if ((decide ((((at_hend w.ends who.toNat).got:Nat):Int) < (60:Int)))=true) then (((0≤who)∧(who < ((w.ends.length:Nat):Int)))∧(((0≤i)∧(i < ((m:Nat):Int)))∧(∀ n1:Nat,(n1≤1000)→((((RK.u8=RK.u8)∧(n1≤1000))∧True)∧True)∧(Tt ((((at_hend w.ends who.toNat).got + 1)≤137438953472)∧(Tt (((0≤who)∧(who < ((w.ends.length:Nat):Int)))∧(Tt (∃ s:(Prod WldN (Prod Int (Prod Nat Int))),((KS.mk true [(Prod.mk 1 (num IntKind.i64 who)),(Prod.mk 2 (T.v false [(Cm.d (D.h RK.byr m))])),(Prod.mk 3 (T.pb 0 1 0)),(Prod.mk 6 (T.pb 1 1 0)),(Prod.mk 7 (num IntKind.i64 (IntKind.i64.wrap (i + 1))))] [(Row.mk 0 (some (RC.mk 44 RK.hend (List.set w.ends who.toNat (EndN.mk (at_hend w.ends who.toNat).tx (at_hend w.ends who.toNat).rx (at_hend w.ends who.toNat).ctx (at_hend w.ends who.toNat).crx (at_hend w.ends who.toNat).put ((at_hend w.ends who.toNat).got + 1))) (RM.mk (none) false 0 false)))),(Row.mk 0 (some (RC.mk 64 RK.hnet w.net (RM.mk (none) false 0 false))))] [(Box.mk (Min.min 1 1) (some [(mi w.cfg.mode),(mi w.cfg.win),(mi w.cfg.mps),(mi w.cfg.mtu),(mi w.cfg.try_),(Cm.ref 0 0),(Cm.ref 1 0),(mi w.link)])),(Box.mk 1 (some [(mi 0),(mi 0),(mi 0),(mi 0),(mi 0),(Cm.d (D.r RK.hend ([]:(List EndN)))),(Cm.d (D.r RK.hnet ([]:(List Nat)))),(mi 0)]))])=(k_04303c s))∧(∃ m1:Nat,(m1 < n)∧((WldI s.fst)∧((s.fst.cfg=w0.cfg)∧((s.snd.fst=who0)∧((s.snd.snd.fst=m0)∧((s.snd.snd.fst≤1000)∧((0≤s.snd.fst)∧((s.snd.fst≤1)∧((0≤s.snd.snd.snd)∧((s.snd.snd.snd + ((m1:Nat):Int))=((s.snd.snd.fst:Nat):Int)))))))))))))))))))) else (∃ s:(Prod WldN (Prod Int (Prod Nat Int))),((KS.mk true [(Prod.mk 1 (num IntKind.i64 who)),(Prod.mk 2 (T.v false [(Cm.d (D.h RK.byr m))])),(Prod.mk 3 (T.pb 0 1 0)),(Prod.mk 6 (T.pb 1 1 0)),(Prod.mk 7 (num IntKind.i64 (IntKind.i64.wrap (i + 1))))] [(Row.mk 0 (some (RC.mk 44 RK.hend w.ends (RM.mk (none) false 0 false)))),(Row.mk 0 (some (RC.mk 64 RK.hnet w.net (RM.mk (none) false 0 false))))] [(Box.mk (Min.min 1 1) (some [(mi w.cfg.mode),(mi w.cfg.win),(mi w.cfg.mps),(mi w.cfg.mtu),(mi w.cfg.try_),(Cm.ref 0 0),(Cm.ref 1 0),(mi w.link)])),(Box.mk 1 (some [(mi 0),(mi 0),(mi 0),(mi 0),(mi 0),(Cm.d (D.r RK.hend ([]:(List EndN)))),(Cm.d (D.r RK.hnet ([]:(List Nat)))),(mi 0)]))])=(k_04303c s))∧(∃ m1:Nat,(m1 < n)∧((WldI s.fst)∧((s.fst.cfg=w0.cfg)∧((s.snd.fst=who0)∧((s.snd.snd.fst=m0)∧((s.snd.snd.fst≤1000)∧((0≤s.snd.fst)∧((s.snd.fst≤1)∧((0≤s.snd.snd.snd)∧((s.snd.snd.snd + ((m1:Nat):Int))=((s.snd.snd.fst:Nat):Int)))))))))))))) else (∃ r:WldN,((KS.mk true [(Prod.mk 3 (T.pb 0 1 0)),(Prod.mk 6 (T.pb 1 1 0))] [(Row.mk 0 (some (RC.mk 44 RK.hend w.ends (RM.mk (none) false 0 false)))),(Row.mk 0 (some (RC.mk 64 RK.hnet w.net (RM.mk (none) false 0 false))))] [(Box.mk (Min.min 1 1) (some [(mi w.cfg.mode),(mi w.cfg.win),(mi w.cfg.mps),(mi w.cfg.mtu),(mi w.cfg.try_),(Cm.ref 0 0),(Cm.ref 1 0),(mi w.link)])),(Box.mk 1 (some [(mi 0),(mi 0),(mi 0),(mi 0),(mi 0),(Cm.d (D.r RK.hend ([]:(List EndN)))),(Cm.d (D.r RK.hnet ([]:(List Nat)))),(mi 0)]))])=(k_a3f05f r))∧((WldI r)∧(r.cfg=w0.cfg))) := by
  try dsimp only at hp
  have hw := hi.1
  have hc := hw.cfg
  have hl1 := hw.el
  have hl2 := hw.nl
  have he0 := hw.en who.toNat
  have hn0 := hw.nn who.toNat
  have he1 := hw.en (1 - who).toNat
  have hn1 := hw.nn (1 - who).toNat
  try simp (disch := omega) only [wr]
  repeat' first
    | exact rfl
    | exact True.intro
    | with_reducible apply And.intro
    | (intro (hy_ : WldI _ ∧ _)
       obtain ⟨hw_, hc_⟩ := hy_
       try have hm_ := hc_.2
       try have hc_ := hc_.1
       have hl1_ := hw_.el
       have hl2_ := hw_.nl)
    | (with_reducible intro y_ hy_; subst hy_)
    | with_reducible intro y_
    | (refine iteI (fun h => ?_) (fun h => ?_))
    | refine ⟨(⟨⟨_, _, _, _, _⟩, _, _, _⟩, _, _, _), rfl, ?_⟩
    | refine ⟨⟨⟨_, _, _, _, _⟩, _, _, _⟩, rfl, ?_⟩
    | refine ⟨n - 1, ?_⟩
    | fail
  all_goals try simp only [cq1, cq2, cq3, cq4, cq5, cq6, cq7, cq8, cq9, cq10, cq11, cq12, cq13, cq14, cq15, cq16, cq17, cq18, cq19] at *
  all_goals try simp (disch := omega) only [hend_self, hnet_self, List.length_set] at *
  all_goals try simp (disch := omega) only [wr] at *
  all_goals first
    | assumption
    | omega
    | exact hi.2.1
    | exact hc_
    | exact hc_.trans hi.2.1
    | (refine WldI.mk ?_ ?_ ?_ ?_ ?_
       all_goals try dsimp only
       all_goals repeat' first | (refine endI_set ?_ ?_) | (refine netI_set ?_ ?_) | (refine lenE_set ?_) | (refine lenN_set ?_)
       all_goals first
         | assumption
         | (apply WldI.cfg; assumption)
         | (apply WldI.en; assumption)
         | (apply WldI.nn; assumption)
         | exact netI_00
         | omega
         | (simp only [EndI, TxB, JInv] at *; omega)
         | grind [EndI, TxB, JInv]
         | skip)
    | (refine hk ?_
       refine ⟨?_, ?_⟩
       · (refine WldI.mk ?_ ?_ ?_ ?_ ?_
          all_goals try dsimp only
          all_goals repeat' first | (refine endI_set ?_ ?_) | (refine netI_set ?_ ?_) | (refine lenE_set ?_) | (refine lenN_set ?_)
          all_goals first
            | assumption
            | (apply WldI.cfg; assumption)
            | (apply WldI.en; assumption)
            | (apply WldI.nn; assumption)
            | exact netI_00
            | omega
            | (simp only [EndI, TxB, JInv] at *; omega)
            | grind [EndI, TxB, JInv]
            | skip)
       · first | done | rfl | assumption | exact hi.2.1 | exact hc_ | exact hc_.trans hi.2.1 | exact hc_.trans (by assumption) | grind)
    | exact (wr8_in _).1
    | exact (wr8_in _).2
    | (simp only [EndI, TxB, JInv, LIM, HL] at *; omega)
    | grind [EndI, TxB, JInv, LIM, HL]
theorem vS_spec_l9Tell_0 (w0 : WldN) (who0 : Int) (m0 : Nat) (i0 : Int) (hp : (fun (w : WldN) (who : Int) (m : Nat) (i : Int) => (WldI w ∧ m ≤ 1000 ∧ 0 ≤ who ∧ who ≤ 1 ∧ i = 0)) w0 who0 m0 i0) : ∃ n : Nat, (fun (w : WldN) (who : Int) (m : Nat) (i : Int) => (WldI w ∧ w.cfg = w0.cfg ∧ who = who0 ∧ m = m0 ∧ m ≤ 1000 ∧ 0 ≤ who ∧ who ≤ 1 ∧ 0 ≤ i ∧ i + n = m)) w0 who0 m0 i0 := by
  try dsimp only at hp
  try dsimp only
  exact ⟨m0, hp.1, rfl, rfl, rfl, hp.2.1, hp.2.2.1, hp.2.2.2.1, by omega, by omega⟩
theorem w_spec_l9Tell : Valid Try.prog 84 c_spec_l9Tell :=
  valid_ctr2 (V := V_spec_l9Tell) (tysB_ok tys2_ok) ⟨(CallsL.nil _), (IosL.nil _)⟩ mixed 0 2 Try.func84 rfl (by kernel_rfl)
    (fun c hc => by
      obtain rfl := Option.some.inj hc
      exact ⟨trivial, ⟨⟨trivial, ⟨LoopD.ok2 (V := V_spec_l9Tell) l_spec_l9Tell_0 (LoopsM.cons 0 l_spec_l9Tell_0 LoopsM.nil) 0 _ i_spec_l9Tell_0 (fun x hx => vS_spec_l9Tell_0 x.1 x.2.1 x.2.2.1 x.2.2.2 hx) (fun x hx n s hi => ⟨_, by kernel_rfl, vL_spec_l9Tell_0 x.1 x.2.1 x.2.2.1 x.2.2.2 s.1 s.2.1 s.2.2.1 s.2.2.2 n hx hi⟩), ⟨⟨trivial, ⟨trivial, trivial⟩⟩, ⟨⟨trivial, ⟨trivial, trivial⟩⟩, trivial⟩⟩⟩⟩, ⟨trivial, trivial⟩⟩⟩)
    (fun x K hp hk => ⟨_, by kernel_rfl, vF_spec_l9Tell x.1 x.2.1 x.2.2 K hp (fun q h => hk q h)⟩)
end Go.Proofs.YtjjcjpmfkbfdfaaE
