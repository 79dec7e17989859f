/- A part of the proof of laws of the program: what calls of the program answer. Conditions: none. -/
import Derived.Test.YtjjcjpmfkbfdfaaM03c6d007
set_option linter.unusedVariables false
set_option linter.unusedSimpArgs false
set_option linter.unusedSectionVars false

/- Contracts: N7. Conditions: none. -/
set_option linter.unusedVariables false
set_option maxHeartbeats 1600000
namespace Go.Proofs.YtjjcjpmfkbfdfaaE
open Go
theorem hend_app {l : List EndN} {j : Nat} {e : EndN} : at_hend (l ++ [e]) j = if j < l.length then at_hend l j else if j = l.length then e else zEndN := by
  show (l ++ [e]).getD j zEndN = _
  rw [List.getD_eq_getElem?_getD]
  by_cases h : j < l.length
  · rw [if_pos h, List.getElem?_append_left h]
    show _ = l.getD j zEndN
    rw [List.getD_eq_getElem?_getD]
  · rw [if_neg h]
    by_cases h2 : j = l.length
    · subst h2; rw [if_pos rfl, List.getElem?_append_right (Nat.le_refl _)]; simp
    · rw [if_neg h2, List.getElem?_eq_none (by simp; omega)]; rfl
theorem hnet_app {l : List Nat} {j n : Nat} : at_hnet (l ++ [n]) j = if j < l.length then at_hnet l j else if j = l.length then n else 0 := by
  show (l ++ [n]).getD j 0 = _
  rw [List.getD_eq_getElem?_getD]
  by_cases h : j < l.length
  · rw [if_pos h, List.getElem?_append_left h]
    show _ = l.getD j 0
    rw [List.getD_eq_getElem?_getD]
  · rw [if_neg h]
    by_cases h2 : j = l.length
    · subst h2; rw [if_pos rfl, List.getElem?_append_right (Nat.le_refl _)]; simp
    · rw [if_neg h2, List.getElem?_eq_none (by simp; omega)]; rfl
theorem endI_z {c : Cfg} (h : CfgP c) : EndI c zEndN := by
  unfold CfgP at h
  refine ⟨⟨by decide, by decide, by decide, by decide, by decide, by decide⟩, ?_, .inl ⟨rfl, rfl⟩, by decide, .inl ⟨rfl, rfl⟩, by decide, by decide⟩
  show (0 : Int) ≤ c.win
  omega
theorem endI_app {c : Cfg} (hc : CfgP c) {l : List EndN} {e : EndN} (h : ∀ j, EndI c (at_hend l j)) (he : EndI c e) : ∀ j, EndI c (at_hend (l ++ [e]) j) := fun j => by
  rw [hend_app]
  split
  · exact h j
  · split
    · exact he
    · exact endI_z hc
theorem netI_app {l : List Nat} {n : Nat} (h : ∀ j, at_hnet l j ≤ 30) (hn : n ≤ 30) : ∀ j, at_hnet (l ++ [n]) j ≤ 30 := fun j => by
  rw [hnet_app]
  split
  · exact h j
  · split
    · exact hn
    · omega
theorem lenE_app {l : List EndN} {e : EndN} {k : Int} {m : Int} (h : (l.length : Int) = k) (hm : m = k + 1) : (((l ++ [e]).length : Nat) : Int) = m := by rw [List.length_append]; simp; omega
theorem lenN_app {l : List Nat} {e : Nat} {k : Int} {m : Int} (h : (l.length : Int) = k) (hm : m = k + 1) : (((l ++ [e]).length : Nat) : Int) = m := by rw [List.length_append]; simp; omega
theorem endI_nil {c : Cfg} (hc : CfgP c) : ∀ j, EndI c (at_hend [] j) := fun j => endI_z hc
theorem netI_nil : ∀ j, at_hnet [] j ≤ 30 := fun j => Nat.zero_le 30

/-! spec.WldNew -/
def c_spec_WldNew : Ent := ctr (α := (Cfg)) (ρ := (WldN)) [] [(0, 5), (0, 6)] (rs1 rCfg) (fun x_ => (fun (c : Cfg) => (CfgP c)) x_) (fun x_ r_ => (fun x_ => (fun (c : Cfg) => ((fun r_ => (fun (q : WldN) => (WldI q ∧ q.cfg = c)) r_))) x_) x_ r_) (fun r_ => (fun (q : WldN) => ([rWldNO.to q])) r_) (fun r_ => (fun (q : WldN) => ([])) r_)
def l_spec_WldNew_0 : LoopD ((Cfg) × (List EndN) × (List Nat) × (Int)) ((Cfg) × (List EndN) × (List Nat)) ((Empty)) where
  n := 28
  head := ⟨[1, 2, 3, 4], [0, 1, 2], [0, 1]⟩
  st := fun x_ => (fun (c : Cfg) (es : List EndN) (ns : List Nat) (k : Int) => (⟨true, [(1, .pb 0 1 0), (2, .pb 1 1 0), (3, .pb 2 1 0), (4, num .i64 k)], [⟨0, some ⟨44, .hend, es, m0⟩⟩, ⟨0, some ⟨64, .hnet, ns, m0⟩⟩], [⟨1, some ((cfgC c).map .d)⟩, ⟨1, some wldZM⟩, ⟨1, some (wldNM ⟨c, es, ns, 0⟩ 0 1 0 0)⟩]⟩)) x_.1 x_.2.1 x_.2.2.1 x_.2.2.2
  pre := fun x_ => (fun (c : Cfg) (es : List EndN) (ns : List Nat) (k : Int) => (CfgP c ∧ es = [] ∧ ns = [] ∧ k = 0)) x_.1 x_.2.1 x_.2.2.1 x_.2.2.2
  nk := ⟨[2, 3], [1, 2], [0, 1]⟩
  nst := fun r_ => (fun (c : Cfg) (es : List EndN) (ns : List Nat) => (⟨true, [(2, .pb 1 1 0), (3, .pb 2 1 0)], [⟨0, some ⟨44, .hend, es, m0⟩⟩, ⟨0, some ⟨64, .hnet, ns, m0⟩⟩], [⟨0, none⟩, ⟨1, some wldZM⟩, ⟨1, some (wldNM ⟨c, es, ns, 0⟩ 0 1 0 0)⟩]⟩)) r_.1 r_.2.1 r_.2.2
  npost := fun x_ r_ => (fun x_ => (fun (c0 : Cfg) (es0 : List EndN) (ns0 : List Nat) (k0 : Int) => ((fun r_ => (fun (c : Cfg) (es : List EndN) (ns : List Nat) => (c = c0 ∧ WldI ⟨c, es, ns, 0⟩)) r_.1 r_.2.1 r_.2.2))) x_.1 x_.2.1 x_.2.2.1 x_.2.2.2) x_ r_
  rk := ⟨[], [], []⟩
  rst := fun _ => ⟨true, [], [], []⟩
  rpost := fun _ _ => False
def i_spec_WldNew_0 (x : (Cfg) × (List EndN) × (List Nat) × (Int)) (n : Nat) (s : (Cfg) × (List EndN) × (List Nat) × (Int)) : Prop := (fun x_ => (fun (c0 : Cfg) (es0 : List EndN) (ns0 : List Nat) (k0 : Int) => ((fun s_ => (fun (c : Cfg) (es : List EndN) (ns : List Nat) (k : Int) => (c = c0 ∧ CfgP c ∧ (es.length : Int) = k ∧ (ns.length : Int) = k ∧ (∀ j, EndI c (at_hend es j)) ∧ (∀ j, at_hnet ns j ≤ 30) ∧ 0 ≤ k ∧ k + n = 2)) s_.1 s_.2.1 s_.2.2.1 s_.2.2.2))) x_.1 x_.2.1 x_.2.2.1 x_.2.2.2) x s
def V_spec_WldNew : Env := ⟨tys2, [(39, c_spec_CfgOk)], [(8, [0, 1]), (10, [0, 1])], [(1, 0), (2, 1), (3, 2)], [], [(0, l_spec_WldNew_0.L)], [], [], []⟩
/-! spec.l9Copy -/
def c_spec_l9Copy : Ent := ctr (α := (WldN)) (ρ := (WldN)) [(0, 5), (0, 6)] [(0, 5), (0, 6)] (rs1 rWldNO) (fun x_ => (fun (w : WldN) => (WldI w)) x_) (fun x_ r_ => (fun x_ => (fun (w : WldN) => ((fun r_ => (fun (q : WldN) => (WldI q ∧ q.cfg = w.cfg)) r_))) x_) x_ r_) (fun r_ => (fun (q : WldN) => ([rWldNO.to q])) r_) (fun r_ => (fun (q : WldN) => ([])) r_)
def l_spec_l9Copy_0 : LoopD ((WldN) × (List EndN) × (List Nat) × (Int)) ((WldN) × (List EndN) × (List Nat)) ((Empty)) where
  n := 99
  head := ⟨[1, 2, 3, 4], [0, 1, 2], [0, 1, 2, 3]⟩
  st := fun x_ => (fun (w : WldN) (es : List EndN) (ns : List Nat) (k : Int) => (⟨true, [(1, .pb 0 1 0), (2, .pb 1 1 0), (3, .pb 2 1 0), (4, num .i64 k)], [⟨0, some ⟨44, .hend, w.ends, m0⟩⟩, ⟨0, some ⟨64, .hnet, w.net, m0⟩⟩, ⟨0, some ⟨44, .hend, es, m0⟩⟩, ⟨0, some ⟨64, .hnet, ns, m0⟩⟩], [⟨1, some (wldNM w 0 1 0 0)⟩, ⟨1, some wldZM⟩, ⟨1, some (wldNM ⟨w.cfg, es, ns, w.link⟩ 2 3 0 0)⟩, ⟨0, none⟩]⟩)) x_.1 x_.2.1 x_.2.2.1 x_.2.2.2
  pre := fun x_ => (fun (w : WldN) (es : List EndN) (ns : List Nat) (k : Int) => (WldI w ∧ es = [] ∧ ns = [] ∧ k = 0)) x_.1 x_.2.1 x_.2.2.1 x_.2.2.2
  nk := ⟨[1, 2, 3], [0, 1, 2], [0, 1, 2, 3]⟩
  nst := fun r_ => (fun (w : WldN) (es : List EndN) (ns : List Nat) => (⟨true, [(1, .pb 0 1 0), (2, .pb 1 1 0), (3, .pb 2 1 0)], [⟨0, some ⟨44, .hend, w.ends, m0⟩⟩, ⟨0, some ⟨64, .hnet, w.net, m0⟩⟩, ⟨0, some ⟨44, .hend, es, m0⟩⟩, ⟨0, some ⟨64, .hnet, ns, m0⟩⟩], [⟨1, some (wldNM w 0 1 0 0)⟩, ⟨1, some wldZM⟩, ⟨1, some (wldNM ⟨w.cfg, es, ns, w.link⟩ 2 3 0 0)⟩, ⟨0, none⟩]⟩)) r_.1 r_.2.1 r_.2.2
  npost := fun x_ r_ => (fun x_ => (fun (w0 : WldN) (es0 : List EndN) (ns0 : List Nat) (k0 : Int) => ((fun r_ => (fun (w : WldN) (es : List EndN) (ns : List Nat) => (w = w0 ∧ WldI w ∧ es.length = 2 ∧ ns = [] ∧ (∀ j, EndI w.cfg (at_hend es j)))) r_.1 r_.2.1 r_.2.2))) x_.1 x_.2.1 x_.2.2.1 x_.2.2.2) x_ r_
  rk := ⟨[], [], []⟩
  rst := fun _ => ⟨true, [], [], []⟩
  rpost := fun _ _ => False
def i_spec_l9Copy_0 (x : (WldN) × (List EndN) × (List Nat) × (Int)) (n : Nat) (s : (WldN) × (List EndN) × (List Nat) × (Int)) : Prop := (fun x_ => (fun (w0 : WldN) (es0 : List EndN) (ns0 : List Nat) (k0 : Int) => ((fun s_ => (fun (w : WldN) (es : List EndN) (ns : List Nat) (k : Int) => (w = w0 ∧ WldI w ∧ (es.length : Int) = k ∧ ns = [] ∧ (∀ j, EndI w.cfg (at_hend es j)) ∧ 0 ≤ k ∧ k + n = 2)) s_.1 s_.2.1 s_.2.2.1 s_.2.2.2))) x_.1 x_.2.1 x_.2.2.1 x_.2.2.2) x s
def l_spec_l9Copy_2 : LoopD ((WldN) × (List EndN) × (List Nat) × (Int)) ((WldN) × (List EndN) × (List Nat)) ((Empty)) where
  n := 99
  head := ⟨[1, 2, 3, 6], [0, 1, 2], [0, 1, 2, 3]⟩
  st := fun x_ => (fun (w : WldN) (es : List EndN) (ns : List Nat) (k : Int) => (⟨true, [(1, .pb 0 1 0), (2, .pb 1 1 0), (3, .pb 2 1 0), (6, num .i64 k)], [⟨0, some ⟨44, .hend, w.ends, m0⟩⟩, ⟨0, some ⟨64, .hnet, w.net, m0⟩⟩, ⟨0, some ⟨44, .hend, es, m0⟩⟩, ⟨0, some ⟨64, .hnet, ns, m0⟩⟩], [⟨1, some (wldNM w 0 1 0 0)⟩, ⟨1, some wldZM⟩, ⟨1, some (wldNM ⟨w.cfg, es, ns, w.link⟩ 2 3 0 0)⟩, ⟨0, none⟩]⟩)) x_.1 x_.2.1 x_.2.2.1 x_.2.2.2
  pre := fun x_ => (fun (w : WldN) (es : List EndN) (ns : List Nat) (k : Int) => (WldI w ∧ es.length = 2 ∧ ns = [] ∧ (∀ j, EndI w.cfg (at_hend es j)) ∧ k = 0)) x_.1 x_.2.1 x_.2.2.1 x_.2.2.2
  nk := ⟨[1, 2, 3], [0, 1, 2], [0, 1, 2, 3]⟩
  nst := fun r_ => (fun (w : WldN) (es : List EndN) (ns : List Nat) => (⟨true, [(1, .pb 0 1 0), (2, .pb 1 1 0), (3, .pb 2 1 0)], [⟨0, some ⟨44, .hend, w.ends, m0⟩⟩, ⟨0, some ⟨64, .hnet, w.net, m0⟩⟩, ⟨0, some ⟨44, .hend, es, m0⟩⟩, ⟨0, some ⟨64, .hnet, ns, m0⟩⟩], [⟨1, some (wldNM w 0 1 0 0)⟩, ⟨1, some wldZM⟩, ⟨1, some (wldNM ⟨w.cfg, es, ns, w.link⟩ 2 3 0 0)⟩, ⟨0, none⟩]⟩)) r_.1 r_.2.1 r_.2.2
  npost := fun x_ r_ => (fun x_ => (fun (w0 : WldN) (es0 : List EndN) (ns0 : List Nat) (k0 : Int) => ((fun r_ => (fun (w : WldN) (es : List EndN) (ns : List Nat) => (w = w0 ∧ WldI ⟨w.cfg, es, ns, w.link⟩)) r_.1 r_.2.1 r_.2.2))) x_.1 x_.2.1 x_.2.2.1 x_.2.2.2) x_ r_
  rk := ⟨[], [], []⟩
  rst := fun _ => ⟨true, [], [], []⟩
  rpost := fun _ _ => False
def i_spec_l9Copy_2 (x : (WldN) × (List EndN) × (List Nat) × (Int)) (n : Nat) (s : (WldN) × (List EndN) × (List Nat) × (Int)) : Prop := (fun x_ => (fun (w0 : WldN) (es0 : List EndN) (ns0 : List Nat) (k0 : Int) => ((fun s_ => (fun (w : WldN) (es : List EndN) (ns : List Nat) (k : Int) => (w = w0 ∧ WldI w ∧ es.length = 2 ∧ (ns.length : Int) = k ∧ (∀ j, EndI w.cfg (at_hend es j)) ∧ (∀ j, at_hnet ns j ≤ 30) ∧ 0 ≤ k ∧ k + n = 2)) s_.1 s_.2.1 s_.2.2.1 s_.2.2.2))) x_.1 x_.2.1 x_.2.2.1 x_.2.2.2) x s
def l_spec_l9Copy_4 : LoopD ((WldN) × (List EndN) × (List Nat) × (Int) × (Nat) × (Int)) ((WldN) × (List EndN) × (List Nat) × (Int) × (Nat)) ((Empty)) where
  n := 99
  head := ⟨[1, 2, 3, 6, 7, 8], [0, 1, 2], [0, 1, 2, 3]⟩
  st := fun x_ => (fun (w : WldN) (es : List EndN) (ns : List Nat) (k : Int) (m : Nat) (i : Int) => (⟨true, [(1, .pb 0 1 0), (2, .pb 1 1 0), (3, .pb 2 1 0), (6, num .i64 k), (7, .v false [.d (.h .netm m)]), (8, num .i64 i)], [⟨0, some ⟨44, .hend, w.ends, m0⟩⟩, ⟨0, some ⟨64, .hnet, w.net, m0⟩⟩, ⟨0, some ⟨44, .hend, es, m0⟩⟩, ⟨0, some ⟨64, .hnet, ns, m0⟩⟩], [⟨1, some (wldNM w 0 1 0 0)⟩, ⟨1, some wldZM⟩, ⟨1, some (wldNM ⟨w.cfg, es, ns, w.link⟩ 2 3 0 0)⟩, ⟨0, none⟩]⟩)) x_.1 x_.2.1 x_.2.2.1 x_.2.2.2.1 x_.2.2.2.2.1 x_.2.2.2.2.2
  pre := fun x_ => (fun (w : WldN) (es : List EndN) (ns : List Nat) (k : Int) (m : Nat) (i : Int) => (WldI w ∧ 0 ≤ k ∧ k < 2 ∧ m = 0 ∧ i = 0)) x_.1 x_.2.1 x_.2.2.1 x_.2.2.2.1 x_.2.2.2.2.1 x_.2.2.2.2.2
  nk := ⟨[1, 2, 3, 6, 7], [0, 1, 2], [0, 1, 2, 3]⟩
  nst := fun r_ => (fun (w : WldN) (es : List EndN) (ns : List Nat) (k : Int) (m : Nat) => (⟨true, [(1, .pb 0 1 0), (2, .pb 1 1 0), (3, .pb 2 1 0), (6, num .i64 k), (7, .v false [.d (.h .netm m)])], [⟨0, some ⟨44, .hend, w.ends, m0⟩⟩, ⟨0, some ⟨64, .hnet, w.net, m0⟩⟩, ⟨0, some ⟨44, .hend, es, m0⟩⟩, ⟨0, some ⟨64, .hnet, ns, m0⟩⟩], [⟨1, some (wldNM w 0 1 0 0)⟩, ⟨1, some wldZM⟩, ⟨1, some (wldNM ⟨w.cfg, es, ns, w.link⟩ 2 3 0 0)⟩, ⟨0, none⟩]⟩)) r_.1 r_.2.1 r_.2.2.1 r_.2.2.2.1 r_.2.2.2.2
  npost := fun x_ r_ => (fun x_ => (fun (w0 : WldN) (es0 : List EndN) (ns0 : List Nat) (k0 : Int) (m0 : Nat) (i0 : Int) => ((fun r_ => (fun (w : WldN) (es : List EndN) (ns : List Nat) (k : Int) (m : Nat) => (w = w0 ∧ es = es0 ∧ ns = ns0 ∧ k = k0 ∧ m = at_hnet w.net k.toNat)) r_.1 r_.2.1 r_.2.2.1 r_.2.2.2.1 r_.2.2.2.2))) x_.1 x_.2.1 x_.2.2.1 x_.2.2.2.1 x_.2.2.2.2.1 x_.2.2.2.2.2) x_ r_
  rk := ⟨[], [], []⟩
  rst := fun _ => ⟨true, [], [], []⟩
  rpost := fun _ _ => False
def i_spec_l9Copy_4 (x : (WldN) × (List EndN) × (List Nat) × (Int) × (Nat) × (Int)) (n : Nat) (s : (WldN) × (List EndN) × (List Nat) × (Int) × (Nat) × (Int)) : Prop := (fun x_ => (fun (w0 : WldN) (es0 : List EndN) (ns0 : List Nat) (k0 : Int) (m0 : Nat) (i0 : Int) => ((fun s_ => (fun (w : WldN) (es : List EndN) (ns : List Nat) (k : Int) (m : Nat) (i : Int) => (w = w0 ∧ es = es0 ∧ ns = ns0 ∧ k = k0 ∧ WldI w ∧ 0 ≤ k ∧ k < 2 ∧ 0 ≤ i ∧ (m : Int) = i ∧ i + n = at_hnet w.net k.toNat)) s_.1 s_.2.1 s_.2.2.1 s_.2.2.2.1 s_.2.2.2.2.1 s_.2.2.2.2.2))) x_.1 x_.2.1 x_.2.2.1 x_.2.2.2.1 x_.2.2.2.2.1 x_.2.2.2.2.2) x s
def V_spec_l9Copy : Env := ⟨tys2, [(48, c_spec_l6Copy), (49, c_spec_l7Copy), (50, c_spec_l8Tx), (51, c_spec_l8Rx), (52, c_spec_l7Sdus)], [(13, [2, 3])], [(1, 0), (2, 1), (3, 2), (5, 3)], [(6, ([], [2]))], [(0, l_spec_l9Copy_0.L), (2, l_spec_l9Copy_2.L), (4, l_spec_l9Copy_4.L)], [], [], [(6, [(0, false), (1, false), (2, false), (3, false), (5, false), (6, false), (8, false), (9, false), (11, false), (12, false), (14, false), (15, false), (17, false), (18, false), (4, true), (7, true), (10, true), (13, true), (16, true), (19, true), (20, false), (21, false), (22, true), (23, false), (24, true)]), (14, [(0, false), (1, false), (2, false), (3, false), (4, false), (5, false), (6, false), (7, false), (8, false), (9, false), (11, false), (12, false), (13, false), (14, false), (15, false), (16, false), (17, false), (18, false), (19, false), (10, true), (20, true), (21, false), (22, true), (23, true), (24, false)])]⟩
end Go.Proofs.YtjjcjpmfkbfdfaaE


/- Calls answer what is promised: N7. Conditions: none. -/
set_option linter.unusedVariables false
set_option maxHeartbeats 1600000
namespace Go.Proofs.YtjjcjpmfkbfdfaaE
open Go
def k_acb1ee (s_:(Prod Cfg (Prod (List EndN) (Prod (List Nat) Int)))) : KS := (KS.mk true [(Prod.mk 1 (T.pb 0 1 0)),(Prod.mk 2 (T.pb 1 1 0)),(Prod.mk 3 (T.pb 2 1 0)),(Prod.mk 4 (num IntKind.i64 s_.snd.snd.snd))] [(Row.mk 0 (some (RC.mk 44 RK.hend s_.snd.fst (RM.mk (none) false 0 false)))),(Row.mk 0 (some (RC.mk 64 RK.hnet s_.snd.snd.fst (RM.mk (none) false 0 false))))] [(Box.mk 1 (some [(mi s_.fst.mode),(mi s_.fst.win),(mi s_.fst.mps),(mi s_.fst.mtu),(mi s_.fst.try_)])),(Box.mk 1 (some [(mi 0),(mi 0),(mi 0),(mi 0),(mi 0),(Cm.d (D.r RK.hend ([]:(List EndN)))),(Cm.d (D.r RK.hnet ([]:(List Nat)))),(mi 0)])),(Box.mk 1 (some [(mi s_.fst.mode),(mi s_.fst.win),(mi s_.fst.mps),(mi s_.fst.mtu),(mi s_.fst.try_),(Cm.ref 0 0),(Cm.ref 1 0),(mi 0)]))])
def k_1d5085 (s_:(Prod Cfg (Prod (List EndN) (List Nat)))) : KS := (KS.mk true [(Prod.mk 2 (T.pb 1 1 0)),(Prod.mk 3 (T.pb 2 1 0))] [(Row.mk 0 (some (RC.mk 44 RK.hend s_.snd.fst (RM.mk (none) false 0 false)))),(Row.mk 0 (some (RC.mk 64 RK.hnet s_.snd.snd (RM.mk (none) false 0 false))))] [(Box.mk 0 none),(Box.mk 1 (some [(mi 0),(mi 0),(mi 0),(mi 0),(mi 0),(Cm.d (D.r RK.hend ([]:(List EndN)))),(Cm.d (D.r RK.hnet ([]:(List Nat)))),(mi 0)])),(Box.mk 1 (some [(mi s_.fst.mode),(mi s_.fst.win),(mi s_.fst.mps),(mi s_.fst.mtu),(mi s_.fst.try_),(Cm.ref 0 0),(Cm.ref 1 0),(mi 0)]))])
def k_e36db4 (s_:(Prod WldN (Prod (List EndN) (Prod (List Nat) Int)))) : KS := (KS.mk true [(Prod.mk 1 (T.pb 0 1 0)),(Prod.mk 2 (T.pb 1 1 0)),(Prod.mk 3 (T.pb 2 1 0)),(Prod.mk 4 (num IntKind.i64 s_.snd.snd.snd))] [(Row.mk 0 (some (RC.mk 44 RK.hend s_.fst.ends (RM.mk (none) false 0 false)))),(Row.mk 0 (some (RC.mk 64 RK.hnet s_.fst.net (RM.mk (none) false 0 false)))),(Row.mk 0 (some (RC.mk 44 RK.hend s_.snd.fst (RM.mk (none) false 0 false)))),(Row.mk 0 (some (RC.mk 64 RK.hnet s_.snd.snd.fst (RM.mk (none) false 0 false))))] [(Box.mk 1 (some [(mi s_.fst.cfg.mode),(mi s_.fst.cfg.win),(mi s_.fst.cfg.mps),(mi s_.fst.cfg.mtu),(mi s_.fst.cfg.try_),(Cm.ref 0 0),(Cm.ref 1 0),(mi s_.fst.link)])),(Box.mk 1 (some [(mi 0),(mi 0),(mi 0),(mi 0),(mi 0),(Cm.d (D.r RK.hend ([]:(List EndN)))),(Cm.d (D.r RK.hnet ([]:(List Nat)))),(mi 0)])),(Box.mk 1 (some [(mi s_.fst.cfg.mode),(mi s_.fst.cfg.win),(mi s_.fst.cfg.mps),(mi s_.fst.cfg.mtu),(mi s_.fst.cfg.try_),(Cm.ref 2 0),(Cm.ref 3 0),(mi s_.fst.link)])),(Box.mk 0 none)])
def k_6890c3 (s_:(Prod WldN (Prod (List EndN) (Prod (List Nat) Int)))) : KS := (KS.mk true [(Prod.mk 1 (T.pb 0 1 0)),(Prod.mk 2 (T.pb 1 1 0)),(Prod.mk 3 (T.pb 2 1 0)),(Prod.mk 6 (num IntKind.i64 s_.snd.snd.snd))] [(Row.mk 0 (some (RC.mk 44 RK.hend s_.fst.ends (RM.mk (none) false 0 false)))),(Row.mk 0 (some (RC.mk 64 RK.hnet s_.fst.net (RM.mk (none) false 0 false)))),(Row.mk 0 (some (RC.mk 44 RK.hend s_.snd.fst (RM.mk (none) false 0 false)))),(Row.mk 0 (some (RC.mk 64 RK.hnet s_.snd.snd.fst (RM.mk (none) false 0 false))))] [(Box.mk 1 (some [(mi s_.fst.cfg.mode),(mi s_.fst.cfg.win),(mi s_.fst.cfg.mps),(mi s_.fst.cfg.mtu),(mi s_.fst.cfg.try_),(Cm.ref 0 0),(Cm.ref 1 0),(mi s_.fst.link)])),(Box.mk 1 (some [(mi 0),(mi 0),(mi 0),(mi 0),(mi 0),(Cm.d (D.r RK.hend ([]:(List EndN)))),(Cm.d (D.r RK.hnet ([]:(List Nat)))),(mi 0)])),(Box.mk 1 (some [(mi s_.fst.cfg.mode),(mi s_.fst.cfg.win),(mi s_.fst.cfg.mps),(mi s_.fst.cfg.mtu),(mi s_.fst.cfg.try_),(Cm.ref 2 0),(Cm.ref 3 0),(mi s_.fst.link)])),(Box.mk 0 none)])
def k_879450 (s_:(Prod WldN (Prod (List EndN) (List Nat)))) : KS := (KS.mk true [(Prod.mk 1 (T.pb 0 1 0)),(Prod.mk 2 (T.pb 1 1 0)),(Prod.mk 3 (T.pb 2 1 0))] [(Row.mk 0 (some (RC.mk 44 RK.hend s_.fst.ends (RM.mk (none) false 0 false)))),(Row.mk 0 (some (RC.mk 64 RK.hnet s_.fst.net (RM.mk (none) false 0 false)))),(Row.mk 0 (some (RC.mk 44 RK.hend s_.snd.fst (RM.mk (none) false 0 false)))),(Row.mk 0 (some (RC.mk 64 RK.hnet s_.snd.snd (RM.mk (none) false 0 false))))] [(Box.mk 1 (some [(mi s_.fst.cfg.mode),(mi s_.fst.cfg.win),(mi s_.fst.cfg.mps),(mi s_.fst.cfg.mtu),(mi s_.fst.cfg.try_),(Cm.ref 0 0),(Cm.ref 1 0),(mi s_.fst.link)])),(Box.mk 1 (some [(mi 0),(mi 0),(mi 0),(mi 0),(mi 0),(Cm.d (D.r RK.hend ([]:(List EndN)))),(Cm.d (D.r RK.hnet ([]:(List Nat)))),(mi 0)])),(Box.mk 1 (some [(mi s_.fst.cfg.mode),(mi s_.fst.cfg.win),(mi s_.fst.cfg.mps),(mi s_.fst.cfg.mtu),(mi s_.fst.cfg.try_),(Cm.ref 2 0),(Cm.ref 3 0),(mi s_.fst.link)])),(Box.mk 0 none)])
def k_33698a (s_:(Prod WldN (Prod (List EndN) (Prod (List Nat) (Prod Int (Prod Nat Int)))))) : KS := (KS.mk true [(Prod.mk 1 (T.pb 0 1 0)),(Prod.mk 2 (T.pb 1 1 0)),(Prod.mk 3 (T.pb 2 1 0)),(Prod.mk 6 (num IntKind.i64 s_.snd.snd.snd.fst)),(Prod.mk 7 (T.v false [(Cm.d (D.h RK.netm s_.snd.snd.snd.snd.fst))])),(Prod.mk 8 (num IntKind.i64 s_.snd.snd.snd.snd.snd))] [(Row.mk 0 (some (RC.mk 44 RK.hend s_.fst.ends (RM.mk (none) false 0 false)))),(Row.mk 0 (some (RC.mk 64 RK.hnet s_.fst.net (RM.mk (none) false 0 false)))),(Row.mk 0 (some (RC.mk 44 RK.hend s_.snd.fst (RM.mk (none) false 0 false)))),(Row.mk 0 (some (RC.mk 64 RK.hnet s_.snd.snd.fst (RM.mk (none) false 0 false))))] [(Box.mk 1 (some [(mi s_.fst.cfg.mode),(mi s_.fst.cfg.win),(mi s_.fst.cfg.mps),(mi s_.fst.cfg.mtu),(mi s_.fst.cfg.try_),(Cm.ref 0 0),(Cm.ref 1 0),(mi s_.fst.link)])),(Box.mk 1 (some [(mi 0),(mi 0),(mi 0),(mi 0),(mi 0),(Cm.d (D.r RK.hend ([]:(List EndN)))),(Cm.d (D.r RK.hnet ([]:(List Nat)))),(mi 0)])),(Box.mk 1 (some [(mi s_.fst.cfg.mode),(mi s_.fst.cfg.win),(mi s_.fst.cfg.mps),(mi s_.fst.cfg.mtu),(mi s_.fst.cfg.try_),(Cm.ref 2 0),(Cm.ref 3 0),(mi s_.fst.link)])),(Box.mk 0 none)])
def k_2cc9a0 (s_:(Prod WldN (Prod (List EndN) (Prod (List Nat) (Prod Int Nat))))) : KS := (KS.mk true [(Prod.mk 1 (T.pb 0 1 0)),(Prod.mk 2 (T.pb 1 1 0)),(Prod.mk 3 (T.pb 2 1 0)),(Prod.mk 6 (num IntKind.i64 s_.snd.snd.snd.fst)),(Prod.mk 7 (T.v false [(Cm.d (D.h RK.netm s_.snd.snd.snd.snd))]))] [(Row.mk 0 (some (RC.mk 44 RK.hend s_.fst.ends (RM.mk (none) false 0 false)))),(Row.mk 0 (some (RC.mk 64 RK.hnet s_.fst.net (RM.mk (none) false 0 false)))),(Row.mk 0 (some (RC.mk 44 RK.hend s_.snd.fst (RM.mk (none) false 0 false)))),(Row.mk 0 (some (RC.mk 64 RK.hnet s_.snd.snd.fst (RM.mk (none) false 0 false))))] [(Box.mk 1 (some [(mi s_.fst.cfg.mode),(mi s_.fst.cfg.win),(mi s_.fst.cfg.mps),(mi s_.fst.cfg.mtu),(mi s_.fst.cfg.try_),(Cm.ref 0 0),(Cm.ref 1 0),(mi s_.fst.link)])),(Box.mk 1 (some [(mi 0),(mi 0),(mi 0),(mi 0),(mi 0),(Cm.d (D.r RK.hend ([]:(List EndN)))),(Cm.d (D.r RK.hnet ([]:(List Nat)))),(mi 0)])),(Box.mk 1 (some [(mi s_.fst.cfg.mode),(mi s_.fst.cfg.win),(mi s_.fst.cfg.mps),(mi s_.fst.cfg.mtu),(mi s_.fst.cfg.try_),(Cm.ref 2 0),(Cm.ref 3 0),(mi s_.fst.link)])),(Box.mk 0 none)])
theorem vF_spec_WldNew (c:Cfg) (K:List Arg→List (List AC)→Prop) (hp:CfgP c) (hk:∀ (q:WldN),(WldI q∧q.cfg=c)→K ([rWldNO.to q]) ([])):Tt (True∧(∀ r:Bool,(r=(decide (CfgP c)))→Tt (if ((!r)=true) then (Tt (K [(Arg.v true [(ai 0),(ai 0),(ai 0),(ai 0),(ai 0),(AC.own (RC.mk 44 RK.hend ([]:(List EndN)) (RM.mk (dpM false (none)) false 0 false))),(AC.own (RC.mk 64 RK.hnet ([]:(List Nat)) (RM.mk (dpM false (none)) false 0 false))),(ai 0)])] [])) else (∃ s:(Prod Cfg (Prod (List EndN) (Prod (List Nat) Int))),((KS.mk true [(Prod.mk 1 (T.pb 0 1 0)),(Prod.mk 2 (T.pb 1 1 0)),(Prod.mk 3 (T.pb 2 1 0)),(Prod.mk 4 (num IntKind.i64 0))] [(Row.mk 0 (some (RC.mk 44 RK.hend ([]:(List EndN)) (RM.mk (none) false 0 false)))),(Row.mk 0 (some (RC.mk 64 RK.hnet ([]:(List Nat)) (RM.mk (none) false 0 false))))] [(Box.mk (Min.min 1 1) (some [(mi c.mode),(mi c.win),(mi c.mps),(mi c.mtu),(mi c.try_)])),(Box.mk 1 (some [(mi 0),(mi 0),(mi 0),(mi 0),(mi 0),(Cm.d (D.r RK.hend ([]:(List EndN)))),(Cm.d (D.r RK.hnet ([]:(List Nat)))),(mi 0)])),(Box.mk (Min.min 1 1) (some [(mi c.mode),(mi c.win),(mi c.mps),(mi c.mtu),(mi c.try_),(Cm.ref 0 0),(Cm.ref 1 0),(mi 0)]))])=(k_acb1ee s))∧(((CfgP s.fst)∧((s.snd.fst=([]:(List EndN)))∧((s.snd.snd.fst=([]:(List Nat)))∧(s.snd.snd.snd=0))))∧((∀ r1:(Prod Cfg (Prod (List EndN) (List Nat))),((r1.fst=s.fst)∧(WldI (WldN.mk r1.fst r1.snd.fst r1.snd.snd (0:Int))))→Tt (K [(Arg.v true [(ai r1.fst.mode),(ai r1.fst.win),(ai r1.fst.mps),(ai r1.fst.mtu),(ai r1.fst.try_),(AC.own (RC.mk 44 RK.hend r1.snd.fst (RM.mk (dpM false (none)) false 0 false))),(AC.own (RC.mk 64 RK.hnet r1.snd.snd (RM.mk (dpM false (none)) false 0 false))),(ai 0)])] []))∧(∀ r1:Empty,False→False))))))) := by
  refine ⟨rfl, trivial, fun r hr => ⟨rfl, ?_⟩⟩
  have hr' : r = true := by rw [hr]; exact decide_eq_true hp
  clear hr
  subst hr'
  rw [if_neg (by decide)]
  refine ⟨(⟨_, _, _, _, _⟩, _, _, _), rfl, ⟨hp, rfl, rfl, rfl⟩, fun r1 hr1 => ⟨rfl, ?_⟩, fun _ h => h⟩
  exact hk ⟨r1.1, r1.2.1, r1.2.2, 0⟩ ⟨hr1.2, hr1.1⟩
theorem vL_spec_WldNew_0 (c0:Cfg) (es0:List EndN) (ns0:List Nat) (k0:Int) (c:Cfg) (es:List EndN) (ns:List Nat) (k:Int) (n:Nat) (hp:(fun (c:Cfg) (es:List EndN) (ns:List Nat) (k:Int) => (CfgP c∧es=[]∧ns=[]∧k=0)) c0 es0 ns0 k0) (hi:c=c0∧CfgP c∧(es.length:Int)=k∧(ns.length:Int)=k∧(∀ j,EndI c (at_hend es j))∧(∀ j,at_hnet ns j≤30)∧0≤k∧k + n=2):if ((decide (k < 2))=true) then (((es.length + 1)≤137438953472)∧(True∧(((ns.length + 1)≤137438953472)∧(∃ s:(Prod Cfg (Prod (List EndN) (Prod (List Nat) Int))),((KS.mk true [(Prod.mk 1 (T.pb 0 1 0)),(Prod.mk 2 (T.pb 1 1 0)),(Prod.mk 3 (T.pb 2 1 0)),(Prod.mk 4 (num IntKind.i64 (IntKind.i64.wrap (k + 1))))] [(Row.mk 0 (some (RC.mk 44 RK.hend (es ++ ((EndN.mk (TxN.mk (0:Int) (0:Int) 0 (0:Int) 0 false (0:Int) false (0:Int) false) (RxN.mk (0:Int) (0:Int) (0:Int) 0 false false false) (CtN.mk (0:Int) 0 (0:Int) (0:Int) false) (CrN.mk (0:Int) (0:Int) 0 false) 0 0) :: ([]:(List EndN)):(List EndN)):(List EndN)) (RM.mk (none) false 0 false)))),(Row.mk 0 (some (RC.mk 64 RK.hnet (ns ++ ((0:Nat) :: ([]:(List Nat)):(List Nat)):(List Nat)) (RM.mk (none) false 0 false))))] [(Box.mk (Min.min 1 1) (some [(mi c.mode),(mi c.win),(mi c.mps),(mi c.mtu),(mi c.try_)])),(Box.mk 1 (some [(mi 0),(mi 0),(mi 0),(mi 0),(mi 0),(Cm.d (D.r RK.hend ([]:(List EndN)))),(Cm.d (D.r RK.hnet ([]:(List Nat)))),(mi 0)])),(Box.mk (Min.min 1 1) (some [(mi c.mode),(mi c.win),(mi c.mps),(mi c.mtu),(mi c.try_),(Cm.ref 0 0),(Cm.ref 1 0),(mi 0)]))])=(k_acb1ee s))∧(∃ m:Nat,(m < n)∧((s.fst=c0)∧((CfgP s.fst)∧((((s.snd.fst.length:Nat):Int)=s.snd.snd.snd)∧((((s.snd.snd.fst.length:Nat):Int)=s.snd.snd.snd)∧((∀ j:Nat,(((0:Int)≤(at_hend s.snd.fst j).tx.acked)∧(((at_hend s.snd.fst j).tx.acked≤7)∧(((0:Int)≤(at_hend s.snd.fst j).tx.sent)∧(((at_hend s.snd.fst j).tx.sent≤(((at_hend s.snd.fst j).tx.flight:Nat):Int))∧(((at_hend s.snd.fst j).tx.queue≤24)∧((at_hend s.snd.fst j).tx.flight≤1000))))))∧(((((at_hend s.snd.fst j).tx.flight:Nat):Int)≤s.fst.win)∧(((((at_hend s.snd.fst j).rx.len=0)∧((at_hend s.snd.fst j).rx.got=0))∨(((1:Int)≤(at_hend s.snd.fst j).rx.len)∧(((at_hend s.snd.fst j).rx.len≤255)∧((at_hend s.snd.fst j).rx.got≤255))))∧(((at_hend s.snd.fst j).ctx.queue≤24)∧(((((at_hend s.snd.fst j).crx.len=0)∧((at_hend s.snd.fst j).crx.got=0))∨(((1:Int)≤(at_hend s.snd.fst j).crx.len)∧(((at_hend s.snd.fst j).crx.len≤255)∧((at_hend s.snd.fst j).crx.got≤255))))∧(((at_hend s.snd.fst j).put≤60)∧((at_hend s.snd.fst j).got≤60)))))))∧((∀ j:Nat,((at_hnet s.snd.snd.fst j)≤30))∧((0≤s.snd.snd.snd)∧((s.snd.snd.snd + ((m:Nat):Int))=(2:Int)))))))))))))) else (∃ r:(Prod Cfg (Prod (List EndN) (List Nat))),((KS.mk true [(Prod.mk 2 (T.pb 1 1 0)),(Prod.mk 3 (T.pb 2 1 0))] [(Row.mk 0 (some (RC.mk 44 RK.hend es (RM.mk (none) false 0 false)))),(Row.mk 0 (some (RC.mk 64 RK.hnet ns (RM.mk (none) false 0 false))))] [(Box.mk 0 none),(Box.mk 1 (some [(mi 0),(mi 0),(mi 0),(mi 0),(mi 0),(Cm.d (D.r RK.hend ([]:(List EndN)))),(Cm.d (D.r RK.hnet ([]:(List Nat)))),(mi 0)])),(Box.mk (Min.min 1 1) (some [(mi c.mode),(mi c.win),(mi c.mps),(mi c.mtu),(mi c.try_),(Cm.ref 0 0),(Cm.ref 1 0),(mi 0)]))])=(k_1d5085 r))∧((r.fst=c0)∧(WldI (WldN.mk r.fst r.snd.fst r.snd.snd (0:Int))))) := by
  try dsimp only at hp
  obtain ⟨h1, h2, h3, h4, h5, h6, h7, h8⟩ := hi
  try simp (disch := omega) only [wr]
  repeat' first
    | exact rfl
    | exact True.intro
    | exact endI_app h2 h5 (endI_z h2)
    | exact netI_app h6 (Nat.zero_le 30)
    | with_reducible apply And.intro
    | (intro (hy_ : WldI _ ∧ _)
       obtain ⟨hw_, hc_⟩ := hy_
       try have hm_ := hc_.2
       try have hc_ := hc_.1
       have hl1_ := hw_.el
       have hl2_ := hw_.nl)
    | (with_reducible intro y_ hy_; subst hy_)
    | with_reducible intro y_
    | (refine iteI (fun h => ?_) (fun h => ?_))
    | refine ⟨(⟨_, _, _, _, _⟩, _, _, _), rfl, ?_⟩
    | refine ⟨(⟨_, _, _, _, _⟩, _, _), rfl, ?_⟩
    | refine ⟨n - 1, ?_⟩
    | fail
  all_goals try simp only [cq1, cq2, cq3, cq4, cq5, cq6, cq7, cq8, cq9, cq10, cq11, cq12, cq13, cq14, cq15, cq16, cq17, cq18, cq19] at *
  all_goals try simp (disch := omega) only [hend_self, hnet_self, List.length_set] at *
  all_goals try simp (disch := omega) only [wr] at *
  all_goals first
    | assumption
    | omega
    | exact h1
    | exact h2
    | exact lenE_app h3 rfl
    | exact lenN_app h4 rfl
    | exact endI_app h2 h5 (endI_z h2)
    | exact netI_app h6 (by omega)
    | exact ⟨h2, by dsimp only; omega, by dsimp only; omega, h5, h6⟩
    | exact hi.2.1
    | exact hc_
    | exact hc_.trans hi.2.1
    | (refine WldI.mk ?_ ?_ ?_ ?_ ?_
       all_goals try dsimp only
       all_goals repeat' first | (refine endI_set ?_ ?_) | (refine netI_set ?_ ?_) | (refine lenE_set ?_) | (refine lenN_set ?_)
       all_goals first
         | assumption
         | (apply WldI.cfg; assumption)
         | (apply WldI.en; assumption)
         | (apply WldI.nn; assumption)
         | exact netI_00
         | omega
         | (simp only [EndI, TxB, JInv] at *; omega)
         | grind [EndI, TxB, JInv]
         | skip)
    | (refine hk ?_
       refine ⟨?_, ?_⟩
       · (refine WldI.mk ?_ ?_ ?_ ?_ ?_
          all_goals try dsimp only
          all_goals repeat' first | (refine endI_set ?_ ?_) | (refine netI_set ?_ ?_) | (refine lenE_set ?_) | (refine lenN_set ?_)
          all_goals first
            | assumption
            | (apply WldI.cfg; assumption)
            | (apply WldI.en; assumption)
            | (apply WldI.nn; assumption)
            | exact netI_00
            | omega
            | (simp only [EndI, TxB, JInv] at *; omega)
            | grind [EndI, TxB, JInv]
            | skip)
       · first | done | rfl | assumption | exact hi.2.1 | exact hc_ | exact hc_.trans hi.2.1 | exact hc_.trans (by assumption) | grind)
    | exact (wr8_in _).1
    | exact (wr8_in _).2
    | (simp only [EndI, TxB, JInv, LIM, HL] at *; omega)
    | grind [EndI, TxB, JInv, LIM, HL]
theorem vS_spec_WldNew_0 (c0 : Cfg) (es0 : List EndN) (ns0 : List Nat) (k0 : Int) (hp : (fun (c : Cfg) (es : List EndN) (ns : List Nat) (k : Int) => (CfgP c ∧ es = [] ∧ ns = [] ∧ k = 0)) c0 es0 ns0 k0) : ∃ n : Nat, (fun (c : Cfg) (es : List EndN) (ns : List Nat) (k : Int) => (c = c0 ∧ CfgP c ∧ (es.length : Int) = k ∧ (ns.length : Int) = k ∧ (∀ j, EndI c (at_hend es j)) ∧ (∀ j, at_hnet ns j ≤ 30) ∧ 0 ≤ k ∧ k + n = 2)) c0 es0 ns0 k0 := by
  try dsimp only at hp
  try dsimp only
  obtain ⟨h1, rfl, rfl, rfl⟩ := hp
  exact ⟨2, rfl, h1, rfl, rfl, endI_nil h1, netI_nil, by omega, by omega⟩
theorem w_spec_WldNew : Valid Try.prog 23 c_spec_WldNew :=
  valid_ctr2 (V := V_spec_WldNew) (tysB_ok tys2_ok) ⟨(CallsL.cons w_spec_CfgOk (CallsL.nil _)), (IosL.nil _)⟩ mixed 2 3 Try.func23 rfl (by kernel_rfl)
    (fun c hc => by
      obtain rfl := Option.some.inj hc
      exact ⟨trivial, ⟨⟨trivial, ⟨⟨trivial, trivial⟩, trivial⟩⟩, ⟨trivial, ⟨⟨trivial, ⟨LoopD.ok2 (V := V_spec_WldNew) l_spec_WldNew_0 (LoopsM.cons 0 l_spec_WldNew_0 LoopsM.nil) 0 _ i_spec_WldNew_0 (fun x hx => vS_spec_WldNew_0 x.1 x.2.1 x.2.2.1 x.2.2.2 hx) (fun x hx n s hi => ⟨_, by kernel_rfl, vL_spec_WldNew_0 x.1 x.2.1 x.2.2.1 x.2.2.2 s.1 s.2.1 s.2.2.1 s.2.2.2 n hx hi⟩), ⟨⟨trivial, ⟨trivial, trivial⟩⟩, ⟨⟨trivial, trivial⟩, trivial⟩⟩⟩⟩, ⟨trivial, trivial⟩⟩⟩⟩⟩)
    (fun x K hp hk => ⟨_, by kernel_rfl, vF_spec_WldNew x K hp (fun q h => hk q h)⟩)
theorem vF_spec_l9Copy (w:WldN) (K:List Arg→List (List AC)→Prop) (hp:WldI w) (hk:∀ (q:WldN),(WldI q∧q.cfg=w.cfg)→K ([rWldNO.to q]) ([])):∃ s:(Prod WldN (Prod (List EndN) (Prod (List Nat) Int))),((KS.mk true [(Prod.mk 1 (T.pb 0 1 0)),(Prod.mk 2 (T.pb 1 1 0)),(Prod.mk 3 (T.pb 2 1 0)),(Prod.mk 4 (num IntKind.i64 0))] [(Row.mk 0 (some (RC.mk 44 RK.hend w.ends (RM.mk (none) false 0 false)))),(Row.mk 0 (some (RC.mk 64 RK.hnet w.net (RM.mk (none) false 0 false)))),(Row.mk 0 (some (RC.mk 44 RK.hend ([]:(List EndN)) (RM.mk (none) false 0 false)))),(Row.mk 0 (some (RC.mk 64 RK.hnet ([]:(List Nat)) (RM.mk (none) false 0 false))))] [(Box.mk (Min.min 1 1) (some [(mi w.cfg.mode),(mi w.cfg.win),(mi w.cfg.mps),(mi w.cfg.mtu),(mi w.cfg.try_),(Cm.ref 0 0),(Cm.ref 1 0),(mi w.link)])),(Box.mk 1 (some [(mi 0),(mi 0),(mi 0),(mi 0),(mi 0),(Cm.d (D.r RK.hend ([]:(List EndN)))),(Cm.d (D.r RK.hnet ([]:(List Nat)))),(mi 0)])),(Box.mk (Min.min 1 1) (some [(mi w.cfg.mode),(mi w.cfg.win),(mi w.cfg.mps),(mi w.cfg.mtu),(mi w.cfg.try_),(Cm.ref 2 0),(Cm.ref 3 0),(mi w.link)])),(Box.mk 0 none)])=(k_e36db4 s))∧(((WldI s.fst)∧((s.snd.fst=([]:(List EndN)))∧((s.snd.snd.fst=([]:(List Nat)))∧(s.snd.snd.snd=0))))∧((∀ r:(Prod WldN (Prod (List EndN) (List Nat))),((r.fst=s.fst)∧((WldI r.fst)∧((r.snd.fst.length=2)∧((r.snd.snd=([]:(List Nat)))∧(∀ j:Nat,(EndI r.fst.cfg (at_hend r.snd.fst j)))))))→∃ s1:(Prod WldN (Prod (List EndN) (Prod (List Nat) Int))),((KS.mk true [(Prod.mk 1 (T.pb 0 1 0)),(Prod.mk 2 (T.pb 1 1 0)),(Prod.mk 3 (T.pb 2 1 0)),(Prod.mk 6 (num IntKind.i64 0))] [(Row.mk 0 (some (RC.mk 44 RK.hend r.fst.ends (RM.mk (none) false 0 false)))),(Row.mk 0 (some (RC.mk 64 RK.hnet r.fst.net (RM.mk (none) false 0 false)))),(Row.mk 0 (some (RC.mk 44 RK.hend r.snd.fst (RM.mk (none) false 0 false)))),(Row.mk 0 (some (RC.mk 64 RK.hnet r.snd.snd (RM.mk (none) false 0 false))))] [(Box.mk (Min.min 1 1) (some [(mi r.fst.cfg.mode),(mi r.fst.cfg.win),(mi r.fst.cfg.mps),(mi r.fst.cfg.mtu),(mi r.fst.cfg.try_),(Cm.ref 0 0),(Cm.ref 1 0),(mi r.fst.link)])),(Box.mk 1 (some [(mi 0),(mi 0),(mi 0),(mi 0),(mi 0),(Cm.d (D.r RK.hend ([]:(List EndN)))),(Cm.d (D.r RK.hnet ([]:(List Nat)))),(mi 0)])),(Box.mk (Min.min 1 1) (some [(mi r.fst.cfg.mode),(mi r.fst.cfg.win),(mi r.fst.cfg.mps),(mi r.fst.cfg.mtu),(mi r.fst.cfg.try_),(Cm.ref 2 0),(Cm.ref 3 0),(mi r.fst.link)])),(Box.mk 0 none)])=(k_6890c3 s1))∧(((WldI s1.fst)∧((s1.snd.fst.length=2)∧((s1.snd.snd.fst=([]:(List Nat)))∧((∀ j:Nat,(((0:Int)≤(at_hend s1.snd.fst j).tx.acked)∧(((at_hend s1.snd.fst j).tx.acked≤7)∧(((0:Int)≤(at_hend s1.snd.fst j).tx.sent)∧(((at_hend s1.snd.fst j).tx.sent≤(((at_hend s1.snd.fst j).tx.flight:Nat):Int))∧(((at_hend s1.snd.fst j).tx.queue≤24)∧((at_hend s1.snd.fst j).tx.flight≤1000))))))∧(((((at_hend s1.snd.fst j).tx.flight:Nat):Int)≤s1.fst.cfg.win)∧(((((at_hend s1.snd.fst j).rx.len=0)∧((at_hend s1.snd.fst j).rx.got=0))∨(((1:Int)≤(at_hend s1.snd.fst j).rx.len)∧(((at_hend s1.snd.fst j).rx.len≤255)∧((at_hend s1.snd.fst j).rx.got≤255))))∧(((at_hend s1.snd.fst j).ctx.queue≤24)∧(((((at_hend s1.snd.fst j).crx.len=0)∧((at_hend s1.snd.fst j).crx.got=0))∨(((1:Int)≤(at_hend s1.snd.fst j).crx.len)∧(((at_hend s1.snd.fst j).crx.len≤255)∧((at_hend s1.snd.fst j).crx.got≤255))))∧(((at_hend s1.snd.fst j).put≤60)∧((at_hend s1.snd.fst j).got≤60)))))))∧(s1.snd.snd.snd=0)))))∧((∀ r1:(Prod WldN (Prod (List EndN) (List Nat))),((r1.fst=s1.fst)∧(WldI (WldN.mk r1.fst.cfg r1.snd.fst r1.snd.snd r1.fst.link)))→Tt (K [(Arg.v true [(ai r1.fst.cfg.mode),(ai r1.fst.cfg.win),(ai r1.fst.cfg.mps),(ai r1.fst.cfg.mtu),(ai r1.fst.cfg.try_),(AC.own (RC.mk 44 RK.hend r1.snd.fst (RM.mk (dpM false (none)) false 0 false))),(AC.own (RC.mk 64 RK.hnet r1.snd.snd (RM.mk (dpM false (none)) false 0 false))),(ai r1.fst.link)])] []))∧(∀ r1:Empty,False→False))))∧(∀ r:Empty,False→False))) := by
  refine ⟨(⟨⟨_, _, _, _, _⟩, _, _, _⟩, _, _, _), rfl, ⟨hp, rfl, rfl, rfl⟩, fun r1 hr1 => ?_, fun _ h => h⟩
  obtain ⟨w1, es1, ns1⟩ := r1
  obtain ⟨e1, hw1, h1, h2, h3⟩ := hr1
  dsimp only at e1 hw1 h1 h2 h3 ⊢
  refine ⟨(⟨⟨_, _, _, _, _⟩, _, _, _⟩, _, _, _), rfl, ⟨hw1, h1, h2, h3, rfl⟩, fun r2 hr2 => ?_, fun _ h => h⟩
  obtain ⟨w2, es2, ns2⟩ := r2
  obtain ⟨e2, hw2⟩ := hr2
  dsimp only at e2 hw2 ⊢
  refine ⟨rfl, ?_⟩
  exact hk ⟨w2.cfg, es2, ns2, w2.link⟩ ⟨hw2, show w2.cfg = w.cfg from congrArg WldN.cfg (e2.trans e1)⟩
theorem vL_spec_l9Copy_0 (w0:WldN) (es0:List EndN) (ns0:List Nat) (k0:Int) (w:WldN) (es:List EndN) (ns:List Nat) (k:Int) (n:Nat) (hp:(fun (w:WldN) (es:List EndN) (ns:List Nat) (k:Int) => (WldI w∧es=[]∧ns=[]∧k=0)) w0 es0 ns0 k0) (hi:w=w0∧WldI w∧(es.length:Int)=k∧ns=[]∧(∀ j,EndI w.cfg (at_hend es j))∧0≤k∧k + n=2):if ((decide (k < ((w.ends.length:Nat):Int)))=true) then (((0≤k)∧(k < ((w.ends.length:Nat):Int)))∧(Tt ((((at_hend w.ends k.toNat).tx.flight≤1000)∧((at_hend w.ends k.toNat).tx.queue≤1000))∧(∀ r:TxN,(r=(at_hend w.ends k.toNat).tx)→Tt (Tt (Tt (((at_hend w.ends k.toNat).rx.got≤1000)∧(∀ r1:RxN,(r1=(at_hend w.ends k.toNat).rx)→Tt (Tt (Tt (((at_hend w.ends k.toNat).ctx.queue≤1000)∧(∀ r2:CtN,(r2=(at_hend w.ends k.toNat).ctx)→Tt (Tt (Tt (((at_hend w.ends k.toNat).crx.got≤1000)∧(∀ r3:CrN,(r3=(at_hend w.ends k.toNat).crx)→Tt (Tt (Tt (((at_hend w.ends k.toNat).put≤1000)∧(∀ r4:Nat,(r4=(at_hend w.ends k.toNat).put)→Tt (Tt (Tt (((at_hend w.ends k.toNat).got≤1000)∧(∀ r5:Nat,(r5=(at_hend w.ends k.toNat).got)→Tt (Tt (((es.length + (List.length ((EndN.mk r r1 r2 r3 r4 r5) :: ([]:(List EndN)):(List EndN))))≤137438953472)∧(Tt (Tt (∃ s:(Prod WldN (Prod (List EndN) (Prod (List Nat) Int))),((KS.mk true [(Prod.mk 1 (T.pb 0 1 0)),(Prod.mk 2 (T.pb 1 1 0)),(Prod.mk 3 (T.pb 2 1 0)),(Prod.mk 4 (num IntKind.i64 (IntKind.i64.wrap (k + 1))))] [(Row.mk 0 (some (RC.mk 44 RK.hend w.ends (RM.mk (none) false 0 false)))),(Row.mk 0 (some (RC.mk 64 RK.hnet w.net (RM.mk (none) false 0 false)))),(Row.mk 0 (some (RC.mk 44 RK.hend (es ++ ((EndN.mk r r1 r2 r3 r4 r5) :: ([]:(List EndN)):(List EndN)):(List EndN)) (RM.mk (none) false 0 false)))),(Row.mk 0 (some (RC.mk 64 RK.hnet ns (RM.mk (none) false 0 false))))] [(Box.mk (Min.min 1 1) (some [(mi w.cfg.mode),(mi w.cfg.win),(mi w.cfg.mps),(mi w.cfg.mtu),(mi w.cfg.try_),(Cm.ref 0 0),(Cm.ref 1 0),(mi w.link)])),(Box.mk 1 (some [(mi 0),(mi 0),(mi 0),(mi 0),(mi 0),(Cm.d (D.r RK.hend ([]:(List EndN)))),(Cm.d (D.r RK.hnet ([]:(List Nat)))),(mi 0)])),(Box.mk (Min.min 1 1) (some [(mi w.cfg.mode),(mi w.cfg.win),(mi w.cfg.mps),(mi w.cfg.mtu),(mi w.cfg.try_),(Cm.ref 2 0),(Cm.ref 3 0),(mi w.link)])),(Box.mk 0 none)])=(k_e36db4 s))∧(∃ m:Nat,(m < n)∧((s.fst=w0)∧((WldI s.fst)∧((((s.snd.fst.length:Nat):Int)=s.snd.snd.snd)∧((s.snd.snd.fst=([]:(List Nat)))∧((∀ j:Nat,(((0:Int)≤(at_hend s.snd.fst j).tx.acked)∧(((at_hend s.snd.fst j).tx.acked≤7)∧(((0:Int)≤(at_hend s.snd.fst j).tx.sent)∧(((at_hend s.snd.fst j).tx.sent≤(((at_hend s.snd.fst j).tx.flight:Nat):Int))∧(((at_hend s.snd.fst j).tx.queue≤24)∧((at_hend s.snd.fst j).tx.flight≤1000))))))∧(((((at_hend s.snd.fst j).tx.flight:Nat):Int)≤s.fst.cfg.win)∧(((((at_hend s.snd.fst j).rx.len=0)∧((at_hend s.snd.fst j).rx.got=0))∨(((1:Int)≤(at_hend s.snd.fst j).rx.len)∧(((at_hend s.snd.fst j).rx.len≤255)∧((at_hend s.snd.fst j).rx.got≤255))))∧(((at_hend s.snd.fst j).ctx.queue≤24)∧(((((at_hend s.snd.fst j).crx.len=0)∧((at_hend s.snd.fst j).crx.got=0))∨(((1:Int)≤(at_hend s.snd.fst j).crx.len)∧(((at_hend s.snd.fst j).crx.len≤255)∧((at_hend s.snd.fst j).crx.got≤255))))∧(((at_hend s.snd.fst j).put≤60)∧((at_hend s.snd.fst j).got≤60)))))))∧((0≤s.snd.snd.snd)∧((s.snd.snd.snd + ((m:Nat):Int))=(2:Int)))))))))))))))))))))))))))))))))))))) else (∃ r:(Prod WldN (Prod (List EndN) (List Nat))),((KS.mk true [(Prod.mk 1 (T.pb 0 1 0)),(Prod.mk 2 (T.pb 1 1 0)),(Prod.mk 3 (T.pb 2 1 0))] [(Row.mk 0 (some (RC.mk 44 RK.hend w.ends (RM.mk (none) false 0 false)))),(Row.mk 0 (some (RC.mk 64 RK.hnet w.net (RM.mk (none) false 0 false)))),(Row.mk 0 (some (RC.mk 44 RK.hend es (RM.mk (none) false 0 false)))),(Row.mk 0 (some (RC.mk 64 RK.hnet ns (RM.mk (none) false 0 false))))] [(Box.mk (Min.min 1 1) (some [(mi w.cfg.mode),(mi w.cfg.win),(mi w.cfg.mps),(mi w.cfg.mtu),(mi w.cfg.try_),(Cm.ref 0 0),(Cm.ref 1 0),(mi w.link)])),(Box.mk 1 (some [(mi 0),(mi 0),(mi 0),(mi 0),(mi 0),(Cm.d (D.r RK.hend ([]:(List EndN)))),(Cm.d (D.r RK.hnet ([]:(List Nat)))),(mi 0)])),(Box.mk (Min.min 1 1) (some [(mi w.cfg.mode),(mi w.cfg.win),(mi w.cfg.mps),(mi w.cfg.mtu),(mi w.cfg.try_),(Cm.ref 2 0),(Cm.ref 3 0),(mi w.link)])),(Box.mk 0 none)])=(k_879450 r))∧((r.fst=w0)∧((WldI r.fst)∧((r.snd.fst.length=2)∧((r.snd.snd=([]:(List Nat)))∧(∀ j:Nat,(((0:Int)≤(at_hend r.snd.fst j).tx.acked)∧(((at_hend r.snd.fst j).tx.acked≤7)∧(((0:Int)≤(at_hend r.snd.fst j).tx.sent)∧(((at_hend r.snd.fst j).tx.sent≤(((at_hend r.snd.fst j).tx.flight:Nat):Int))∧(((at_hend r.snd.fst j).tx.queue≤24)∧((at_hend r.snd.fst j).tx.flight≤1000))))))∧(((((at_hend r.snd.fst j).tx.flight:Nat):Int)≤r.fst.cfg.win)∧(((((at_hend r.snd.fst j).rx.len=0)∧((at_hend r.snd.fst j).rx.got=0))∨(((1:Int)≤(at_hend r.snd.fst j).rx.len)∧(((at_hend r.snd.fst j).rx.len≤255)∧((at_hend r.snd.fst j).rx.got≤255))))∧(((at_hend r.snd.fst j).ctx.queue≤24)∧(((((at_hend r.snd.fst j).crx.len=0)∧((at_hend r.snd.fst j).crx.got=0))∨(((1:Int)≤(at_hend r.snd.fst j).crx.len)∧(((at_hend r.snd.fst j).crx.len≤255)∧((at_hend r.snd.fst j).crx.got≤255))))∧(((at_hend r.snd.fst j).put≤60)∧((at_hend r.snd.fst j).got≤60)))))))))))) := by
  try dsimp only at hp
  obtain ⟨h1, hw, h3, h4, h5, h6, h7⟩ := hi
  have hl1 := hw.el
  have he0 := hw.en k.toNat
  have he1 := he0
  simp only [EndI, TxB, JInv] at he1
  try simp (disch := omega) only [wr]
  repeat' first
    | exact rfl
    | exact True.intro
    | exact endI_app hw.cfg h5 he0
    | exact h5
    | with_reducible apply And.intro
    | (intro (hy_ : WldI _ ∧ _)
       obtain ⟨hw_, hc_⟩ := hy_
       try have hm_ := hc_.2
       try have hc_ := hc_.1
       have hl1_ := hw_.el
       have hl2_ := hw_.nl)
    | (with_reducible intro y_ hy_; subst hy_)
    | with_reducible intro y_
    | (refine iteI (fun h => ?_) (fun h => ?_))
    | refine ⟨(⟨⟨_, _, _, _, _⟩, _, _, _⟩, _, _, _), rfl, ?_⟩
    | refine ⟨(⟨⟨_, _, _, _, _⟩, _, _, _⟩, _, _), rfl, ?_⟩
    | refine ⟨(⟨⟨_, _, _, _, _⟩, _, _, _⟩, _, _, _, _, _), rfl, ?_⟩
    | refine ⟨n - 1, ?_⟩
    | fail
  all_goals try simp only [cq1, cq2, cq3, cq4, cq5, cq6, cq7, cq8, cq9, cq10, cq11, cq12, cq13, cq14, cq15, cq16, cq17, cq18, cq19] at *
  all_goals try simp (disch := omega) only [hend_self, hnet_self, List.length_set] at *
  all_goals try simp (disch := omega) only [wr] at *
  all_goals first
    | assumption
    | omega
    | exact h1
    | exact hw
    | exact lenE_app h3 rfl
    | exact hi.2.1
    | exact hc_
    | exact hc_.trans hi.2.1
    | (refine WldI.mk ?_ ?_ ?_ ?_ ?_
       all_goals try dsimp only
       all_goals repeat' first | (refine endI_set ?_ ?_) | (refine netI_set ?_ ?_) | (refine lenE_set ?_) | (refine lenN_set ?_)
       all_goals first
         | assumption
         | (apply WldI.cfg; assumption)
         | (apply WldI.en; assumption)
         | (apply WldI.nn; assumption)
         | exact netI_00
         | omega
         | (simp only [EndI, TxB, JInv] at *; omega)
         | grind [EndI, TxB, JInv]
         | skip)
    | (refine hk ?_
       refine ⟨?_, ?_⟩
       · (refine WldI.mk ?_ ?_ ?_ ?_ ?_
          all_goals try dsimp only
          all_goals repeat' first | (refine endI_set ?_ ?_) | (refine netI_set ?_ ?_) | (refine lenE_set ?_) | (refine lenN_set ?_)
          all_goals first
            | assumption
            | (apply WldI.cfg; assumption)
            | (apply WldI.en; assumption)
            | (apply WldI.nn; assumption)
            | exact netI_00
            | omega
            | (simp only [EndI, TxB, JInv] at *; omega)
            | grind [EndI, TxB, JInv]
            | skip)
       · first | done | rfl | assumption | exact hi.2.1 | exact hc_ | exact hc_.trans hi.2.1 | exact hc_.trans (by assumption) | grind)
    | exact (wr8_in _).1
    | exact (wr8_in _).2
    | (simp only [EndI, TxB, JInv, LIM, HL] at *; omega)
    | grind [EndI, TxB, JInv, LIM, HL]
theorem vS_spec_l9Copy_0 (w0 : WldN) (es0 : List EndN) (ns0 : List Nat) (k0 : Int) (hp : (fun (w : WldN) (es : List EndN) (ns : List Nat) (k : Int) => (WldI w ∧ es = [] ∧ ns = [] ∧ k = 0)) w0 es0 ns0 k0) : ∃ n : Nat, (fun (w : WldN) (es : List EndN) (ns : List Nat) (k : Int) => (w = w0 ∧ WldI w ∧ (es.length : Int) = k ∧ ns = [] ∧ (∀ j, EndI w.cfg (at_hend es j)) ∧ 0 ≤ k ∧ k + n = 2)) w0 es0 ns0 k0 := by
  try dsimp only at hp
  try dsimp only
  obtain ⟨h1, rfl, rfl, rfl⟩ := hp
  exact ⟨2, rfl, h1, rfl, rfl, endI_nil h1.cfg, by omega, by omega⟩
theorem vL_spec_l9Copy_2 (w0:WldN) (es0:List EndN) (ns0:List Nat) (k0:Int) (w:WldN) (es:List EndN) (ns:List Nat) (k:Int) (n:Nat) (hp:(fun (w:WldN) (es:List EndN) (ns:List Nat) (k:Int) => (WldI w∧es.length=2∧ns=[]∧(∀ j,EndI w.cfg (at_hend es j))∧k=0)) w0 es0 ns0 k0) (hi:w=w0∧WldI w∧es.length=2∧(ns.length:Int)=k∧(∀ j,EndI w.cfg (at_hend es j))∧(∀ j,at_hnet ns j≤30)∧0≤k∧k + n=2):if ((decide (k < ((w.net.length:Nat):Int)))=true) then (True∧(∃ s:(Prod WldN (Prod (List EndN) (Prod (List Nat) (Prod Int (Prod Nat Int))))),((KS.mk true [(Prod.mk 1 (T.pb 0 1 0)),(Prod.mk 2 (T.pb 1 1 0)),(Prod.mk 3 (T.pb 2 1 0)),(Prod.mk 6 (num IntKind.i64 k)),(Prod.mk 7 (T.v false [(Cm.d (D.h RK.netm 0))])),(Prod.mk 8 (num IntKind.i64 0))] [(Row.mk 0 (some (RC.mk 44 RK.hend w.ends (RM.mk (none) false 0 false)))),(Row.mk 0 (some (RC.mk 64 RK.hnet w.net (RM.mk (none) false 0 false)))),(Row.mk 0 (some (RC.mk 44 RK.hend es (RM.mk (none) false 0 false)))),(Row.mk 0 (some (RC.mk 64 RK.hnet ns (RM.mk (none) false 0 false))))] [(Box.mk (Min.min 1 1) (some [(mi w.cfg.mode),(mi w.cfg.win),(mi w.cfg.mps),(mi w.cfg.mtu),(mi w.cfg.try_),(Cm.ref 0 0),(Cm.ref 1 0),(mi w.link)])),(Box.mk 1 (some [(mi 0),(mi 0),(mi 0),(mi 0),(mi 0),(Cm.d (D.r RK.hend ([]:(List EndN)))),(Cm.d (D.r RK.hnet ([]:(List Nat)))),(mi 0)])),(Box.mk (Min.min 1 1) (some [(mi w.cfg.mode),(mi w.cfg.win),(mi w.cfg.mps),(mi w.cfg.mtu),(mi w.cfg.try_),(Cm.ref 2 0),(Cm.ref 3 0),(mi w.link)])),(Box.mk 0 none)])=(k_33698a s))∧(((WldI s.fst)∧((0≤s.snd.snd.snd.fst)∧((s.snd.snd.snd.fst < 2)∧((s.snd.snd.snd.snd.fst=0)∧(s.snd.snd.snd.snd.snd=0)))))∧((∀ r:(Prod WldN (Prod (List EndN) (Prod (List Nat) (Prod Int Nat)))),((r.fst=s.fst)∧((r.snd.fst=s.snd.fst)∧((r.snd.snd.fst=s.snd.snd.fst)∧((r.snd.snd.snd.fst=s.snd.snd.snd.fst)∧(r.snd.snd.snd.snd=(at_hnet r.fst.net r.snd.snd.snd.fst.toNat))))))→((r.snd.snd.fst.length + (List.length (r.snd.snd.snd.snd :: ([]:(List Nat)):(List Nat))))≤137438953472)∧(∃ s1:(Prod WldN (Prod (List EndN) (Prod (List Nat) Int))),((KS.mk true [(Prod.mk 1 (T.pb 0 1 0)),(Prod.mk 2 (T.pb 1 1 0)),(Prod.mk 3 (T.pb 2 1 0)),(Prod.mk 6 (num IntKind.i64 (IntKind.i64.wrap (r.snd.snd.snd.fst + 1))))] [(Row.mk 0 (some (RC.mk 44 RK.hend r.fst.ends (RM.mk (none) false 0 false)))),(Row.mk 0 (some (RC.mk 64 RK.hnet r.fst.net (RM.mk (none) false 0 false)))),(Row.mk 0 (some (RC.mk 44 RK.hend r.snd.fst (RM.mk (none) false 0 false)))),(Row.mk 0 (some (RC.mk 64 RK.hnet (r.snd.snd.fst ++ (r.snd.snd.snd.snd :: ([]:(List Nat)):(List Nat)):(List Nat)) (RM.mk (none) false 0 false))))] [(Box.mk (Min.min 1 1) (some [(mi r.fst.cfg.mode),(mi r.fst.cfg.win),(mi r.fst.cfg.mps),(mi r.fst.cfg.mtu),(mi r.fst.cfg.try_),(Cm.ref 0 0),(Cm.ref 1 0),(mi r.fst.link)])),(Box.mk 1 (some [(mi 0),(mi 0),(mi 0),(mi 0),(mi 0),(Cm.d (D.r RK.hend ([]:(List EndN)))),(Cm.d (D.r RK.hnet ([]:(List Nat)))),(mi 0)])),(Box.mk (Min.min 1 1) (some [(mi r.fst.cfg.mode),(mi r.fst.cfg.win),(mi r.fst.cfg.mps),(mi r.fst.cfg.mtu),(mi r.fst.cfg.try_),(Cm.ref 2 0),(Cm.ref 3 0),(mi r.fst.link)])),(Box.mk 0 none)])=(k_6890c3 s1))∧(∃ m:Nat,(m < n)∧((s1.fst=w0)∧((WldI s1.fst)∧((s1.snd.fst.length=2)∧((((s1.snd.snd.fst.length:Nat):Int)=s1.snd.snd.snd)∧((∀ j:Nat,(((0:Int)≤(at_hend s1.snd.fst j).tx.acked)∧(((at_hend s1.snd.fst j).tx.acked≤7)∧(((0:Int)≤(at_hend s1.snd.fst j).tx.sent)∧(((at_hend s1.snd.fst j).tx.sent≤(((at_hend s1.snd.fst j).tx.flight:Nat):Int))∧(((at_hend s1.snd.fst j).tx.queue≤24)∧((at_hend s1.snd.fst j).tx.flight≤1000))))))∧(((((at_hend s1.snd.fst j).tx.flight:Nat):Int)≤s1.fst.cfg.win)∧(((((at_hend s1.snd.fst j).rx.len=0)∧((at_hend s1.snd.fst j).rx.got=0))∨(((1:Int)≤(at_hend s1.snd.fst j).rx.len)∧(((at_hend s1.snd.fst j).rx.len≤255)∧((at_hend s1.snd.fst j).rx.got≤255))))∧(((at_hend s1.snd.fst j).ctx.queue≤24)∧(((((at_hend s1.snd.fst j).crx.len=0)∧((at_hend s1.snd.fst j).crx.got=0))∨(((1:Int)≤(at_hend s1.snd.fst j).crx.len)∧(((at_hend s1.snd.fst j).crx.len≤255)∧((at_hend s1.snd.fst j).crx.got≤255))))∧(((at_hend s1.snd.fst j).put≤60)∧((at_hend s1.snd.fst j).got≤60)))))))∧((∀ j:Nat,((at_hnet s1.snd.snd.fst j)≤30))∧((0≤s1.snd.snd.snd)∧((s1.snd.snd.snd + ((m:Nat):Int))=(2:Int))))))))))))∧(∀ r:Empty,False→∃ r1:Empty,((KS.mk true [] [] [])=(KS.mk true [] [] []))∧False))))) else (∃ r:(Prod WldN (Prod (List EndN) (List Nat))),((KS.mk true [(Prod.mk 1 (T.pb 0 1 0)),(Prod.mk 2 (T.pb 1 1 0)),(Prod.mk 3 (T.pb 2 1 0))] [(Row.mk 0 (some (RC.mk 44 RK.hend w.ends (RM.mk (none) false 0 false)))),(Row.mk 0 (some (RC.mk 64 RK.hnet w.net (RM.mk (none) false 0 false)))),(Row.mk 0 (some (RC.mk 44 RK.hend es (RM.mk (none) false 0 false)))),(Row.mk 0 (some (RC.mk 64 RK.hnet ns (RM.mk (none) false 0 false))))] [(Box.mk (Min.min 1 1) (some [(mi w.cfg.mode),(mi w.cfg.win),(mi w.cfg.mps),(mi w.cfg.mtu),(mi w.cfg.try_),(Cm.ref 0 0),(Cm.ref 1 0),(mi w.link)])),(Box.mk 1 (some [(mi 0),(mi 0),(mi 0),(mi 0),(mi 0),(Cm.d (D.r RK.hend ([]:(List EndN)))),(Cm.d (D.r RK.hnet ([]:(List Nat)))),(mi 0)])),(Box.mk (Min.min 1 1) (some [(mi w.cfg.mode),(mi w.cfg.win),(mi w.cfg.mps),(mi w.cfg.mtu),(mi w.cfg.try_),(Cm.ref 2 0),(Cm.ref 3 0),(mi w.link)])),(Box.mk 0 none)])=(k_879450 r))∧((r.fst=w0)∧(WldI (WldN.mk r.fst.cfg r.snd.fst r.snd.snd r.fst.link)))) := by
  try dsimp only at hp
  obtain ⟨h1, hw, h3, h4, h5, h6, h7, h8⟩ := hi
  have hl2 := hw.nl
  have hn := hw.nn k.toNat
  try simp (disch := omega) only [wr]
  repeat' first
    | exact rfl
    | exact True.intro
    | (intro ⟨w1_, es1_, ns1_, k1_, m1_⟩ ⟨e1_, e2_, e3_, e4_, e5_⟩
       dsimp only at e1_ e2_ e3_ e4_ e5_
       subst e1_ e2_ e3_ e4_ e5_
       try dsimp only
       try simp (disch := omega) only [wr])
    | exact fun (r_ : Empty) => r_.elim
    | exact h5
    | exact netI_app h6 hn
    | with_reducible apply And.intro
    | (intro (hy_ : WldI _ ∧ _)
       obtain ⟨hw_, hc_⟩ := hy_
       try have hm_ := hc_.2
       try have hc_ := hc_.1
       have hl1_ := hw_.el
       have hl2_ := hw_.nl)
    | (with_reducible intro y_ hy_; subst hy_)
    | with_reducible intro y_
    | (refine iteI (fun h => ?_) (fun h => ?_))
    | refine ⟨(⟨⟨_, _, _, _, _⟩, _, _, _⟩, _, _, _), rfl, ?_⟩
    | refine ⟨(⟨⟨_, _, _, _, _⟩, _, _, _⟩, _, _), rfl, ?_⟩
    | refine ⟨(⟨⟨_, _, _, _, _⟩, _, _, _⟩, _, _, _, _, _), rfl, ?_⟩
    | refine ⟨n - 1, ?_⟩
    | fail
  all_goals try simp only [cq1, cq2, cq3, cq4, cq5, cq6, cq7, cq8, cq9, cq10, cq11, cq12, cq13, cq14, cq15, cq16, cq17, cq18, cq19] at *
  all_goals try simp (disch := omega) only [hend_self, hnet_self, List.length_set] at *
  all_goals try simp (disch := omega) only [wr] at *
  all_goals first
    | assumption
    | omega
    | exact h1
    | exact hw
    | exact lenN_app h4 rfl
    | exact ⟨hw.cfg, h3, by dsimp only; omega, h5, h6⟩
    | exact hi.2.1
    | exact hc_
    | exact hc_.trans hi.2.1
    | (refine WldI.mk ?_ ?_ ?_ ?_ ?_
       all_goals try dsimp only
       all_goals repeat' first | (refine endI_set ?_ ?_) | (refine netI_set ?_ ?_) | (refine lenE_set ?_) | (refine lenN_set ?_)
       all_goals first
         | assumption
         | (apply WldI.cfg; assumption)
         | (apply WldI.en; assumption)
         | (apply WldI.nn; assumption)
         | exact netI_00
         | omega
         | (simp only [EndI, TxB, JInv] at *; omega)
         | grind [EndI, TxB, JInv]
         | skip)
    | (refine hk ?_
       refine ⟨?_, ?_⟩
       · (refine WldI.mk ?_ ?_ ?_ ?_ ?_
          all_goals try dsimp only
          all_goals repeat' first | (refine endI_set ?_ ?_) | (refine netI_set ?_ ?_) | (refine lenE_set ?_) | (refine lenN_set ?_)
          all_goals first
            | assumption
            | (apply WldI.cfg; assumption)
            | (apply WldI.en; assumption)
            | (apply WldI.nn; assumption)
            | exact netI_00
            | omega
            | (simp only [EndI, TxB, JInv] at *; omega)
            | grind [EndI, TxB, JInv]
            | skip)
       · first | done | rfl | assumption | exact hi.2.1 | exact hc_ | exact hc_.trans hi.2.1 | exact hc_.trans (by assumption) | grind)
    | exact (wr8_in _).1
    | exact (wr8_in _).2
    | (simp only [EndI, TxB, JInv, LIM, HL] at *; omega)
    | grind [EndI, TxB, JInv, LIM, HL]
theorem vS_spec_l9Copy_2 (w0 : WldN) (es0 : List EndN) (ns0 : List Nat) (k0 : Int) (hp : (fun (w : WldN) (es : List EndN) (ns : List Nat) (k : Int) => (WldI w ∧ es.length = 2 ∧ ns = [] ∧ (∀ j, EndI w.cfg (at_hend es j)) ∧ k = 0)) w0 es0 ns0 k0) : ∃ n : Nat, (fun (w : WldN) (es : List EndN) (ns : List Nat) (k : Int) => (w = w0 ∧ WldI w ∧ es.length = 2 ∧ (ns.length : Int) = k ∧ (∀ j, EndI w.cfg (at_hend es j)) ∧ (∀ j, at_hnet ns j ≤ 30) ∧ 0 ≤ k ∧ k + n = 2)) w0 es0 ns0 k0 := by
  try dsimp only at hp
  try dsimp only
  obtain ⟨h1, h2, rfl, h3, rfl⟩ := hp
  exact ⟨2, rfl, h1, h2, rfl, h3, netI_nil, by omega, by omega⟩
theorem vL_spec_l9Copy_4 (w0:WldN) (es0:List EndN) (ns0:List Nat) (k0:Int) (m0:Nat) (i0:Int) (w:WldN) (es:List EndN) (ns:List Nat) (k:Int) (m:Nat) (i:Int) (n:Nat) (hp:(fun (w:WldN) (es:List EndN) (ns:List Nat) (k:Int) (m:Nat) (i:Int) => (WldI w∧0≤k∧k < 2∧m=0∧i=0)) w0 es0 ns0 k0 m0 i0) (hi:w=w0∧es=es0∧ns=ns0∧k=k0∧WldI w∧0≤k∧k < 2∧0≤i∧(m:Int)=i∧i + n=at_hnet w.net k.toNat):((0≤k)∧(k < ((w.net.length:Nat):Int)))∧(if ((decide (i < (((at_hnet w.net k.toNat):Nat):Int)))=true) then (((0≤k)∧(k < ((w.net.length:Nat):Int)))∧(((0≤i)∧(i < (((at_hnet w.net k.toNat):Nat):Int)))∧(∀ x:Bool,((0≤k)∧(k < ((w.net.length:Nat):Int)))∧(((0≤i)∧(i < (((at_hnet w.net k.toNat):Nat):Int)))∧(∀ n1:Nat,(n1≤1000)→True∧(Tt (((0 + n1)≤137438953472)∧(Tt (((((RK.u8=RK.u8)∧((0 + n1)≤1000))∧True)∧True)∧(Tt (((m + 1)≤137438953472)∧(Tt (∃ s:(Prod WldN (Prod (List EndN) (Prod (List Nat) (Prod Int (Prod Nat Int))))),((KS.mk true [(Prod.mk 1 (T.pb 0 1 0)),(Prod.mk 2 (T.pb 1 1 0)),(Prod.mk 3 (T.pb 2 1 0)),(Prod.mk 6 (num IntKind.i64 k)),(Prod.mk 7 (T.v false [(Cm.d (D.h RK.netm (m + 1)))])),(Prod.mk 8 (num IntKind.i64 (IntKind.i64.wrap (i + 1))))] [(Row.mk 0 (some (RC.mk 44 RK.hend w.ends (RM.mk (none) false 0 false)))),(Row.mk 0 (some (RC.mk 64 RK.hnet w.net (RM.mk (none) false 0 false)))),(Row.mk 0 (some (RC.mk 44 RK.hend es (RM.mk (none) false 0 false)))),(Row.mk 0 (some (RC.mk 64 RK.hnet ns (RM.mk (none) false 0 false))))] [(Box.mk (Min.min 1 1) (some [(mi w.cfg.mode),(mi w.cfg.win),(mi w.cfg.mps),(mi w.cfg.mtu),(mi w.cfg.try_),(Cm.ref 0 0),(Cm.ref 1 0),(mi w.link)])),(Box.mk 1 (some [(mi 0),(mi 0),(mi 0),(mi 0),(mi 0),(Cm.d (D.r RK.hend ([]:(List EndN)))),(Cm.d (D.r RK.hnet ([]:(List Nat)))),(mi 0)])),(Box.mk (Min.min 1 1) (some [(mi w.cfg.mode),(mi w.cfg.win),(mi w.cfg.mps),(mi w.cfg.mtu),(mi w.cfg.try_),(Cm.ref 2 0),(Cm.ref 3 0),(mi w.link)])),(Box.mk 0 none)])=(k_33698a s))∧(∃ m1:Nat,(m1 < n)∧((s.fst=w0)∧((s.snd.fst=es0)∧((s.snd.snd.fst=ns0)∧((s.snd.snd.snd.fst=k0)∧((WldI s.fst)∧((0≤s.snd.snd.snd.fst)∧((s.snd.snd.snd.fst < 2)∧((0≤s.snd.snd.snd.snd.snd)∧((((s.snd.snd.snd.snd.fst:Nat):Int)=s.snd.snd.snd.snd.snd)∧((s.snd.snd.snd.snd.snd + ((m1:Nat):Int))=(((at_hnet s.fst.net s.snd.snd.snd.fst.toNat):Nat):Int))))))))))))))))))))))))) else (∃ r:(Prod WldN (Prod (List EndN) (Prod (List Nat) (Prod Int Nat)))),((KS.mk true [(Prod.mk 1 (T.pb 0 1 0)),(Prod.mk 2 (T.pb 1 1 0)),(Prod.mk 3 (T.pb 2 1 0)),(Prod.mk 6 (num IntKind.i64 k)),(Prod.mk 7 (T.v false [(Cm.d (D.h RK.netm m))]))] [(Row.mk 0 (some (RC.mk 44 RK.hend w.ends (RM.mk (none) false 0 false)))),(Row.mk 0 (some (RC.mk 64 RK.hnet w.net (RM.mk (none) false 0 false)))),(Row.mk 0 (some (RC.mk 44 RK.hend es (RM.mk (none) false 0 false)))),(Row.mk 0 (some (RC.mk 64 RK.hnet ns (RM.mk (none) false 0 false))))] [(Box.mk (Min.min 1 1) (some [(mi w.cfg.mode),(mi w.cfg.win),(mi w.cfg.mps),(mi w.cfg.mtu),(mi w.cfg.try_),(Cm.ref 0 0),(Cm.ref 1 0),(mi w.link)])),(Box.mk 1 (some [(mi 0),(mi 0),(mi 0),(mi 0),(mi 0),(Cm.d (D.r RK.hend ([]:(List EndN)))),(Cm.d (D.r RK.hnet ([]:(List Nat)))),(mi 0)])),(Box.mk (Min.min 1 1) (some [(mi w.cfg.mode),(mi w.cfg.win),(mi w.cfg.mps),(mi w.cfg.mtu),(mi w.cfg.try_),(Cm.ref 2 0),(Cm.ref 3 0),(mi w.link)])),(Box.mk 0 none)])=(k_2cc9a0 r))∧((r.fst=w0)∧((r.snd.fst=es0)∧((r.snd.snd.fst=ns0)∧((r.snd.snd.snd.fst=k0)∧(r.snd.snd.snd.snd=(at_hnet r.fst.net r.snd.snd.snd.fst.toNat)))))))) := by
  try dsimp only at hp
  obtain ⟨h1, h2, h3, h4, hw, h6, h7, h8, h9, hA⟩ := hi
  have hl2 := hw.nl
  have hn := hw.nn k.toNat
  try simp (disch := omega) only [wr]
  repeat' first
    | exact rfl
    | exact True.intro
    | with_reducible apply And.intro
    | (intro (hy_ : WldI _ ∧ _)
       obtain ⟨hw_, hc_⟩ := hy_
       try have hm_ := hc_.2
       try have hc_ := hc_.1
       have hl1_ := hw_.el
       have hl2_ := hw_.nl)
    | (with_reducible intro y_ hy_; subst hy_)
    | with_reducible intro y_
    | (refine iteI (fun h => ?_) (fun h => ?_))
    | refine ⟨(⟨⟨_, _, _, _, _⟩, _, _, _⟩, _, _, _, _, _), rfl, ?_⟩
    | refine ⟨(⟨⟨_, _, _, _, _⟩, _, _, _⟩, _, _, _, _), rfl, ?_⟩
    | refine ⟨n - 1, ?_⟩
    | fail
  all_goals try simp only [cq1, cq2, cq3, cq4, cq5, cq6, cq7, cq8, cq9, cq10, cq11, cq12, cq13, cq14, cq15, cq16, cq17, cq18, cq19] at *
  all_goals try simp (disch := omega) only [hend_self, hnet_self, List.length_set] at *
  all_goals try simp (disch := omega) only [wr] at *
  all_goals first
    | assumption
    | omega
    | exact h1
    | exact hw
    | exact hi.2.1
    | exact hc_
    | exact hc_.trans hi.2.1
    | (refine WldI.mk ?_ ?_ ?_ ?_ ?_
       all_goals try dsimp only
       all_goals repeat' first | (refine endI_set ?_ ?_) | (refine netI_set ?_ ?_) | (refine lenE_set ?_) | (refine lenN_set ?_)
       all_goals first
         | assumption
         | (apply WldI.cfg; assumption)
         | (apply WldI.en; assumption)
         | (apply WldI.nn; assumption)
         | exact netI_00
         | omega
         | (simp only [EndI, TxB, JInv] at *; omega)
         | grind [EndI, TxB, JInv]
         | skip)
    | (refine hk ?_
       refine ⟨?_, ?_⟩
       · (refine WldI.mk ?_ ?_ ?_ ?_ ?_
          all_goals try dsimp only
          all_goals repeat' first | (refine endI_set ?_ ?_) | (refine netI_set ?_ ?_) | (refine lenE_set ?_) | (refine lenN_set ?_)
          all_goals first
            | assumption
            | (apply WldI.cfg; assumption)
            | (apply WldI.en; assumption)
            | (apply WldI.nn; assumption)
            | exact netI_00
            | omega
            | (simp only [EndI, TxB, JInv] at *; omega)
            | grind [EndI, TxB, JInv]
            | skip)
       · first | done | rfl | assumption | exact hi.2.1 | exact hc_ | exact hc_.trans hi.2.1 | exact hc_.trans (by assumption) | grind)
    | exact (wr8_in _).1
    | exact (wr8_in _).2
    | (simp only [EndI, TxB, JInv, LIM, HL] at *; omega)
    | grind [EndI, TxB, JInv, LIM, HL]
theorem vS_spec_l9Copy_4 (w0 : WldN) (es0 : List EndN) (ns0 : List Nat) (k0 : Int) (m0 : Nat) (i0 : Int) (hp : (fun (w : WldN) (es : List EndN) (ns : List Nat) (k : Int) (m : Nat) (i : Int) => (WldI w ∧ 0 ≤ k ∧ k < 2 ∧ m = 0 ∧ i = 0)) w0 es0 ns0 k0 m0 i0) : ∃ n : Nat, (fun (w : WldN) (es : List EndN) (ns : List Nat) (k : Int) (m : Nat) (i : Int) => (w = w0 ∧ es = es0 ∧ ns = ns0 ∧ k = k0 ∧ WldI w ∧ 0 ≤ k ∧ k < 2 ∧ 0 ≤ i ∧ (m : Int) = i ∧ i + n = at_hnet w.net k.toNat)) w0 es0 ns0 k0 m0 i0 := by
  try dsimp only at hp
  try dsimp only
  obtain ⟨h1, h2, h3, rfl, rfl⟩ := hp
  exact ⟨at_hnet w0.net k0.toNat, rfl, rfl, rfl, rfl, h1, h2, h3, by omega, by omega, by omega⟩
theorem w_spec_l9Copy : Valid Try.prog 26 c_spec_l9Copy :=
  valid_ctr2 (V := V_spec_l9Copy) (tysB_ok tys2_ok) ⟨(CallsL.cons w_spec_l6Copy (CallsL.cons w_spec_l7Copy (CallsL.cons w_spec_l8Tx (CallsL.cons w_spec_l8Rx (CallsL.cons w_spec_l7Sdus (CallsL.nil _)))))), (IosL.nil _)⟩ mixed 2 4 Try.func26 rfl (by kernel_rfl)
    (fun c hc => by
      obtain rfl := Option.some.inj hc
      exact ⟨trivial, ⟨trivial, ⟨⟨trivial, ⟨LoopD.ok2 (V := V_spec_l9Copy) l_spec_l9Copy_0 (LoopsM.cons 0 l_spec_l9Copy_0 (LoopsM.cons 2 l_spec_l9Copy_2 (LoopsM.cons 4 l_spec_l9Copy_4 LoopsM.nil))) 0 _ i_spec_l9Copy_0 (fun x hx => vS_spec_l9Copy_0 x.1 x.2.1 x.2.2.1 x.2.2.2 hx) (fun x hx n s hi => ⟨_, by kernel_rfl, vL_spec_l9Copy_0 x.1 x.2.1 x.2.2.1 x.2.2.2 s.1 s.2.1 s.2.2.1 s.2.2.2 n hx hi⟩), ⟨⟨trivial, ⟨trivial, trivial⟩⟩, ⟨⟨trivial, trivial⟩, trivial⟩⟩⟩⟩, ⟨⟨trivial, ⟨LoopD.ok2 (V := V_spec_l9Copy) l_spec_l9Copy_2 (LoopsM.cons 0 l_spec_l9Copy_0 (LoopsM.cons 2 l_spec_l9Copy_2 (LoopsM.cons 4 l_spec_l9Copy_4 LoopsM.nil))) 2 _ i_spec_l9Copy_2 (fun x hx => vS_spec_l9Copy_2 x.1 x.2.1 x.2.2.1 x.2.2.2 hx) (fun x hx n s hi => ⟨_, by kernel_rfl, vL_spec_l9Copy_2 x.1 x.2.1 x.2.2.1 x.2.2.2 s.1 s.2.1 s.2.2.1 s.2.2.2 n hx hi⟩), ⟨⟨trivial, ⟨trivial, trivial⟩⟩, ⟨⟨trivial, ⟨⟨trivial, ⟨LoopD.ok2 (V := V_spec_l9Copy) l_spec_l9Copy_4 (LoopsM.cons 0 l_spec_l9Copy_0 (LoopsM.cons 2 l_spec_l9Copy_2 (LoopsM.cons 4 l_spec_l9Copy_4 LoopsM.nil))) 4 _ i_spec_l9Copy_4 (fun x hx => vS_spec_l9Copy_4 x.1 x.2.1 x.2.2.1 x.2.2.2.1 x.2.2.2.2.1 x.2.2.2.2.2 hx) (fun x hx n s hi => ⟨_, by kernel_rfl, vL_spec_l9Copy_4 x.1 x.2.1 x.2.2.1 x.2.2.2.1 x.2.2.2.2.1 x.2.2.2.2.2 s.1 s.2.1 s.2.2.1 s.2.2.2.1 s.2.2.2.2.1 s.2.2.2.2.2 n hx hi⟩), ⟨⟨trivial, ⟨trivial, trivial⟩⟩, ⟨trivial, trivial⟩⟩⟩⟩, trivial⟩⟩, trivial⟩⟩⟩⟩, ⟨trivial, trivial⟩⟩⟩⟩⟩)
    (fun x K hp hk => ⟨_, by kernel_rfl, vF_spec_l9Copy x K hp (fun q h => hk q h)⟩)
end Go.Proofs.YtjjcjpmfkbfdfaaE
