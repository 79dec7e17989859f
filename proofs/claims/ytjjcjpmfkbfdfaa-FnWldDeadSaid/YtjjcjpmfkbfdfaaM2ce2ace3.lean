/- A part of the proof of laws of the program: what calls of the program answer. Conditions: none. -/
import Derived.Test.YtjjcjpmfkbfdfaaM8971a8c4
set_option linter.unusedVariables false
set_option linter.unusedSimpArgs false
set_option linter.unusedSectionVars false

/- Contracts: N10. Conditions: none. -/
set_option linter.unusedVariables false
set_option maxHeartbeats 1600000
namespace Go.Proofs.YtjjcjpmfkbfdfaaE
open Go
def zCfgD : List Cm := [.d (.i .i64 0), .d (.i .i64 0), .d (.i .i64 0), .d (.i .i64 0), .d (.i .i64 0)]
def wldNC (w : WldN) : List D := [.i .i64 w.cfg.mode, .i .i64 w.cfg.win, .i .i64 w.cfg.mps, .i .i64 w.cfg.mtu, .i .i64 w.cfg.try_, .r .hend w.ends, .r .hnet w.net, .i .i64 w.link]
def mkWldN : List D → Option WldN
  | [.i .i64 a, .i .i64 b, .i .i64 c, .i .i64 d, .i .i64 e, .r .hend es, .r .hnet ns, .i .i64 l] => some ⟨⟨a, b, c, d, e⟩, es, ns, l⟩
  | _ => none
theorem mkWldN_cells (ds : List D) (e : WldN) (h : mkWldN ds = some e) : wldNC e = ds := by unfold mkWldN at h; split at h <;> first | (cases h; rfl) | simp at h
def rWldND : Rep WldN := rS wldNC mkWldN mkWldN_cells

/-! spec.l20Play -/
def c_spec_l20Play : Ent := ctr (α := (RdS) × (Int) × (Int) × (Bool) × (Bool)) (ρ := (Cfg) × (Nat) × (WldN) × (RdS)) [] [(2, 5), (2, 6)] (rs rRd (rs rInt (rs rInt (rs rB (rs1 rB))))) (fun x_ => (fun (r : RdS) (n1 : Int) (md : Int) (hd : Bool) (ij : Bool) => (RdOk r 10000000 ∧ n1 ≤ 1000 ∧ md ≤ 0)) x_.1 x_.2.1 x_.2.2.1 x_.2.2.2.1 x_.2.2.2.2) (fun x_ r_ => (fun x_ => (fun (r : RdS) (n1 : Int) (md : Int) (hd : Bool) (ij : Bool) => ((fun r_ => (fun (c : Cfg) (o : Nat) (w : WldN) (q : RdS) => (RdOn r q 800000 ∧ WldI w)) r_.1 r_.2.1 r_.2.2.1 r_.2.2.2))) x_.1 x_.2.1 x_.2.2.1 x_.2.2.2.1 x_.2.2.2.2) x_ r_) (fun r_ => (fun (c : Cfg) (o : Nat) (w : WldN) (q : RdS) => ([rCfg.to c, (rH .ev).to o, rWldNO.to w])) r_.1 r_.2.1 r_.2.2.1 r_.2.2.2) (fun r_ => (fun (c : Cfg) (o : Nat) (w : WldN) (q : RdS) => ([(rdC q).map .d])) r_.1 r_.2.1 r_.2.2.1 r_.2.2.2)
def l_spec_l20Play_0 : LoopD ((RdS) × (Int) × (Int) × (Bool) × (Bool) × (Cfg) × (WldN) × (Nat) × (Int)) ((RdS) × (Int) × (Int) × (Bool) × (Bool) × (Cfg) × (WldN) × (Nat)) ((Empty)) where
  n := 50
  head := ⟨[0, 1, 2, 3, 4, 10, 12, 13, 14, 15, 16], [0, 1, 2, 3, 4], [0, 1]⟩
  st := fun x_ => (fun (r : RdS) (n1 : Int) (md : Int) (hd : Bool) (ij : Bool) (c : Cfg) (w : WldN) (o : Nat) (k : Int) => (⟨true, [(0, .pb 0 0 0), (1, num .i64 n1), (2, num .i64 md), (3, boo hd), (4, boo ij), (10, .pb 1 1 0), (12, .pb 2 1 0), (13, .pb 3 1 0), (14, .pb 4 1 0), (15, .v false [.d (.h .ev o)]), (16, num .i64 k)], [⟨0, some ⟨44, .hend, w.ends, m0⟩⟩, ⟨0, some ⟨64, .hnet, w.net, m0⟩⟩], [⟨0, some ((rdC r).map .d)⟩, ⟨1, some zCfgD⟩, ⟨1, some wldZM⟩, ⟨1, some ((cfgC c).map .d)⟩, ⟨1, some (wldNM w 0 1 0 0)⟩, ⟨0, none⟩]⟩)) x_.1 x_.2.1 x_.2.2.1 x_.2.2.2.1 x_.2.2.2.2.1 x_.2.2.2.2.2.1 x_.2.2.2.2.2.2.1 x_.2.2.2.2.2.2.2.1 x_.2.2.2.2.2.2.2.2
  pre := fun x_ => (fun (r : RdS) (n1 : Int) (md : Int) (hd : Bool) (ij : Bool) (c : Cfg) (w : WldN) (o : Nat) (k : Int) => (RdOk r 11000000 ∧ WldI w ∧ o = 0 ∧ 0 ≤ k ∧ k ≤ 1000)) x_.1 x_.2.1 x_.2.2.1 x_.2.2.2.1 x_.2.2.2.2.1 x_.2.2.2.2.2.1 x_.2.2.2.2.2.2.1 x_.2.2.2.2.2.2.2.1 x_.2.2.2.2.2.2.2.2
  nk := ⟨[0, 1, 2, 3, 4, 10, 12, 13, 14, 15], [0, 1, 2, 3, 4], [0, 1]⟩
  nst := fun r_ => (fun (r : RdS) (n1 : Int) (md : Int) (hd : Bool) (ij : Bool) (c : Cfg) (w : WldN) (o : Nat) => (⟨true, [(0, .pb 0 0 0), (1, num .i64 n1), (2, num .i64 md), (3, boo hd), (4, boo ij), (10, .pb 1 1 0), (12, .pb 2 1 0), (13, .pb 3 1 0), (14, .pb 4 1 0), (15, .v false [.d (.h .ev o)])], [⟨0, some ⟨44, .hend, w.ends, m0⟩⟩, ⟨0, some ⟨64, .hnet, w.net, m0⟩⟩], [⟨0, some ((rdC r).map .d)⟩, ⟨1, some zCfgD⟩, ⟨1, some wldZM⟩, ⟨1, some ((cfgC c).map .d)⟩, ⟨1, some (wldNM w 0 1 0 0)⟩, ⟨0, none⟩]⟩)) r_.1 r_.2.1 r_.2.2.1 r_.2.2.2.1 r_.2.2.2.2.1 r_.2.2.2.2.2.1 r_.2.2.2.2.2.2.1 r_.2.2.2.2.2.2.2
  npost := fun x_ r_ => (fun x_ => (fun (r0 : RdS) (n10 : Int) (md0 : Int) (hd0 : Bool) (ij0 : Bool) (c0 : Cfg) (w0 : WldN) (o0 : Nat) (k0 : Int) => ((fun r_ => (fun (r : RdS) (n1 : Int) (md : Int) (hd : Bool) (ij : Bool) (c : Cfg) (w : WldN) (o : Nat) => (RdOn r0 r 700000 ∧ WldI w)) r_.1 r_.2.1 r_.2.2.1 r_.2.2.2.1 r_.2.2.2.2.1 r_.2.2.2.2.2.1 r_.2.2.2.2.2.2.1 r_.2.2.2.2.2.2.2))) x_.1 x_.2.1 x_.2.2.1 x_.2.2.2.1 x_.2.2.2.2.1 x_.2.2.2.2.2.1 x_.2.2.2.2.2.2.1 x_.2.2.2.2.2.2.2.1 x_.2.2.2.2.2.2.2.2) x_ r_
  rk := ⟨[], [], []⟩
  rst := fun _ => ⟨true, [], [], []⟩
  rpost := fun _ _ => False
def i_spec_l20Play_0 (x : (RdS) × (Int) × (Int) × (Bool) × (Bool) × (Cfg) × (WldN) × (Nat) × (Int)) (n : Nat) (s : (RdS) × (Int) × (Int) × (Bool) × (Bool) × (Cfg) × (WldN) × (Nat) × (Int)) : Prop := (fun x_ => (fun (r0 : RdS) (n10 : Int) (md0 : Int) (hd0 : Bool) (ij0 : Bool) (c0 : Cfg) (w0 : WldN) (o0 : Nat) (k0 : Int) => ((fun s_ => (fun (r : RdS) (n1 : Int) (md : Int) (hd : Bool) (ij : Bool) (c : Cfg) (w : WldN) (o : Nat) (k : Int) => (WldI w ∧ (n : Int) = k ∧ (o : Int) + k = k0 ∧ RdOk r0 11000000 ∧ RdOn r0 r (700 * (k0 - k)) ∧ k ≤ k0 ∧ k0 ≤ 1000)) s_.1 s_.2.1 s_.2.2.1 s_.2.2.2.1 s_.2.2.2.2.1 s_.2.2.2.2.2.1 s_.2.2.2.2.2.2.1 s_.2.2.2.2.2.2.2.1 s_.2.2.2.2.2.2.2.2))) x_.1 x_.2.1 x_.2.2.1 x_.2.2.2.1 x_.2.2.2.2.1 x_.2.2.2.2.2.1 x_.2.2.2.2.2.2.1 x_.2.2.2.2.2.2.2.1 x_.2.2.2.2.2.2.2.2) x s
def V_spec_l20Play : Env := ⟨tys2, [(14, c_spec_l20Rd_pick), (16, c_spec_l20Cfg), (23, c_spec_WldNew), (24, c_spec_l20Event), (25, c_spec_l9Step), (26, c_spec_l9Copy)], [(25, [0, 1]), (45, [0, 1]), (49, [0, 1])], [(10, 1), (12, 2), (13, 3), (14, 4), (17, 5)], [(12, ([1], [0, 1]))], [(0, l_spec_l20Play_0.L)], [], [], [(12, [(0, false), (1, false), (2, false), (3, true), (4, true), (5, false), (6, true)])]⟩
end Go.Proofs.YtjjcjpmfkbfdfaaE


/- Calls answer what is promised: N10. Conditions: none. -/
set_option linter.unusedVariables false
set_option maxHeartbeats 1600000
namespace Go.Proofs.YtjjcjpmfkbfdfaaE
open Go
def k_100ed3 (s_:(Prod RdS (Prod Int (Prod Int (Prod Bool (Prod Bool (Prod Cfg (Prod WldN (Prod Nat Int))))))))) : KS := (KS.mk true [(Prod.mk 0 (T.pb 0 0 0)),(Prod.mk 1 (num IntKind.i64 s_.snd.fst)),(Prod.mk 2 (num IntKind.i64 s_.snd.snd.fst)),(Prod.mk 3 (boo s_.snd.snd.snd.fst)),(Prod.mk 4 (boo s_.snd.snd.snd.snd.fst)),(Prod.mk 10 (T.pb 1 1 0)),(Prod.mk 12 (T.pb 2 1 0)),(Prod.mk 13 (T.pb 3 1 0)),(Prod.mk 14 (T.pb 4 1 0)),(Prod.mk 15 (T.v false [(Cm.d (D.h RK.ev s_.snd.snd.snd.snd.snd.snd.snd.fst))])),(Prod.mk 16 (num IntKind.i64 s_.snd.snd.snd.snd.snd.snd.snd.snd))] [(Row.mk 0 (some (RC.mk 44 RK.hend s_.snd.snd.snd.snd.snd.snd.fst.ends (RM.mk (none) false 0 false)))),(Row.mk 0 (some (RC.mk 64 RK.hnet s_.snd.snd.snd.snd.snd.snd.fst.net (RM.mk (none) false 0 false))))] [(Box.mk 0 (some [(Cm.d (D.r RK.u8 s_.fst.b)),(mi s_.fst.p)])),(Box.mk 1 (some [(mi 0),(mi 0),(mi 0),(mi 0),(mi 0)])),(Box.mk 1 (some [(mi 0),(mi 0),(mi 0),(mi 0),(mi 0),(Cm.d (D.r RK.hend ([]:(List EndN)))),(Cm.d (D.r RK.hnet ([]:(List Nat)))),(mi 0)])),(Box.mk 1 (some [(mi s_.snd.snd.snd.snd.snd.fst.mode),(mi s_.snd.snd.snd.snd.snd.fst.win),(mi s_.snd.snd.snd.snd.snd.fst.mps),(mi s_.snd.snd.snd.snd.snd.fst.mtu),(mi s_.snd.snd.snd.snd.snd.fst.try_)])),(Box.mk 1 (some [(mi s_.snd.snd.snd.snd.snd.snd.fst.cfg.mode),(mi s_.snd.snd.snd.snd.snd.snd.fst.cfg.win),(mi s_.snd.snd.snd.snd.snd.snd.fst.cfg.mps),(mi s_.snd.snd.snd.snd.snd.snd.fst.cfg.mtu),(mi s_.snd.snd.snd.snd.snd.snd.fst.cfg.try_),(Cm.ref 0 0),(Cm.ref 1 0),(mi s_.snd.snd.snd.snd.snd.snd.fst.link)])),(Box.mk 0 none)])
def k_e22f1d (s_:(Prod RdS (Prod Int (Prod Int (Prod Bool (Prod Bool (Prod Cfg (Prod WldN Nat)))))))) : KS := (KS.mk true [(Prod.mk 0 (T.pb 0 0 0)),(Prod.mk 1 (num IntKind.i64 s_.snd.fst)),(Prod.mk 2 (num IntKind.i64 s_.snd.snd.fst)),(Prod.mk 3 (boo s_.snd.snd.snd.fst)),(Prod.mk 4 (boo s_.snd.snd.snd.snd.fst)),(Prod.mk 10 (T.pb 1 1 0)),(Prod.mk 12 (T.pb 2 1 0)),(Prod.mk 13 (T.pb 3 1 0)),(Prod.mk 14 (T.pb 4 1 0)),(Prod.mk 15 (T.v false [(Cm.d (D.h RK.ev s_.snd.snd.snd.snd.snd.snd.snd))]))] [(Row.mk 0 (some (RC.mk 44 RK.hend s_.snd.snd.snd.snd.snd.snd.fst.ends (RM.mk (none) false 0 false)))),(Row.mk 0 (some (RC.mk 64 RK.hnet s_.snd.snd.snd.snd.snd.snd.fst.net (RM.mk (none) false 0 false))))] [(Box.mk 0 (some [(Cm.d (D.r RK.u8 s_.fst.b)),(mi s_.fst.p)])),(Box.mk 1 (some [(mi 0),(mi 0),(mi 0),(mi 0),(mi 0)])),(Box.mk 1 (some [(mi 0),(mi 0),(mi 0),(mi 0),(mi 0),(Cm.d (D.r RK.hend ([]:(List EndN)))),(Cm.d (D.r RK.hnet ([]:(List Nat)))),(mi 0)])),(Box.mk 1 (some [(mi s_.snd.snd.snd.snd.snd.fst.mode),(mi s_.snd.snd.snd.snd.snd.fst.win),(mi s_.snd.snd.snd.snd.snd.fst.mps),(mi s_.snd.snd.snd.snd.snd.fst.mtu),(mi s_.snd.snd.snd.snd.snd.fst.try_)])),(Box.mk 1 (some [(mi s_.snd.snd.snd.snd.snd.snd.fst.cfg.mode),(mi s_.snd.snd.snd.snd.snd.snd.fst.cfg.win),(mi s_.snd.snd.snd.snd.snd.snd.fst.cfg.mps),(mi s_.snd.snd.snd.snd.snd.snd.fst.cfg.mtu),(mi s_.snd.snd.snd.snd.snd.snd.fst.cfg.try_),(Cm.ref 0 0),(Cm.ref 1 0),(mi s_.snd.snd.snd.snd.snd.snd.fst.link)])),(Box.mk 0 none)])
theorem vF_spec_l20Play (r:RdS) (n1:Int) (md:Int) (hd:Bool) (ij:Bool) (K:List Arg→List (List AC)→Prop) (hp:RdOk r 10000000∧n1≤1000∧md≤0) (hk:∀ (c:Cfg) (o:Nat) (w:WldN) (q:RdS),(RdOn r q 800000∧WldI w)→K ([rCfg.to c,(rH .ev).to o,rWldNO.to w]) ([(rdC q).map .d])):Tt (((RdOk r 40000000)∧((0:Int)≤(1000:Int)))∧(∀ r1:(Prod Cfg RdS),((RdOn r r1.snd (20:Int))∧(((0:Int)≤(0:Int))→(CfgP r1.fst)))→Tt (if ((decide (md > (0:Int)))=true) then (Tt ((CfgP (Cfg.mk md r1.fst.win r1.fst.mps r1.fst.mtu r1.fst.try_))∧(∀ r2:WldN,((WldI r2)∧(r2.cfg=(Cfg.mk md r1.fst.win r1.fst.mps r1.fst.mtu r1.fst.try_)))→Tt (True∧(Tt (((RdOk r1.snd 1000000000)∧(n1≤1000000000))∧(∀ r3:IR,(PkQ r1.snd n1 r3)→Tt (∃ s:(Prod RdS (Prod Int (Prod Int (Prod Bool (Prod Bool (Prod Cfg (Prod WldN (Prod Nat Int)))))))),((KS.mk true [(Prod.mk 0 (T.pb 0 0 0)),(Prod.mk 1 (num IntKind.i64 n1)),(Prod.mk 2 (num IntKind.i64 md)),(Prod.mk 3 (boo hd)),(Prod.mk 4 (boo ij)),(Prod.mk 10 (T.pb 1 1 0)),(Prod.mk 12 (T.pb 2 1 0)),(Prod.mk 13 (T.pb 3 1 0)),(Prod.mk 14 (T.pb 4 1 0)),(Prod.mk 15 (T.v false [(Cm.d (D.h RK.ev 0))])),(Prod.mk 16 (num IntKind.i64 r3.fst))] [(Row.mk 0 (some (RC.mk 44 RK.hend r2.ends (RM.mk (none) false 0 false)))),(Row.mk 0 (some (RC.mk 64 RK.hnet r2.net (RM.mk (none) false 0 false))))] [(Box.mk (Min.min 0 1) (some [(Cm.d (D.r RK.u8 r3.snd.b)),(mi r3.snd.p)])),(Box.mk 1 (some [(mi 0),(mi 0),(mi 0),(mi 0),(mi 0)])),(Box.mk 1 (some [(mi 0),(mi 0),(mi 0),(mi 0),(mi 0),(Cm.d (D.r RK.hend ([]:(List EndN)))),(Cm.d (D.r RK.hnet ([]:(List Nat)))),(mi 0)])),(Box.mk (Min.min 1 1) (some [(mi md),(mi r1.fst.win),(mi r1.fst.mps),(mi r1.fst.mtu),(mi r1.fst.try_)])),(Box.mk (Min.min 1 1) (some [(mi r2.cfg.mode),(mi r2.cfg.win),(mi r2.cfg.mps),(mi r2.cfg.mtu),(mi r2.cfg.try_),(Cm.ref 0 0),(Cm.ref 1 0),(mi r2.link)])),(Box.mk 0 none)])=(k_100ed3 s))∧(((RdOk s.fst 11000000)∧((WldI s.snd.snd.snd.snd.snd.snd.fst)∧((s.snd.snd.snd.snd.snd.snd.snd.fst=0)∧((0≤s.snd.snd.snd.snd.snd.snd.snd.snd)∧(s.snd.snd.snd.snd.snd.snd.snd.snd≤1000)))))∧((∀ r4:(Prod RdS (Prod Int (Prod Int (Prod Bool (Prod Bool (Prod Cfg (Prod WldN Nat))))))),((RdOn s.fst r4.fst (700000:Int))∧(WldI r4.snd.snd.snd.snd.snd.snd.fst))→Tt ((WldI (WldN.mk r4.snd.snd.snd.snd.snd.snd.fst.cfg r4.snd.snd.snd.snd.snd.snd.fst.ends r4.snd.snd.snd.snd.snd.snd.fst.net r4.snd.snd.snd.snd.snd.snd.fst.link))∧(∀ r5:WldN,((WldI r5)∧(r5.cfg=r4.snd.snd.snd.snd.snd.snd.fst.cfg))→Tt (Tt (Tt (Tt (Tt (K [(Arg.v true [(ai r4.snd.snd.snd.snd.snd.fst.mode),(ai r4.snd.snd.snd.snd.snd.fst.win),(ai r4.snd.snd.snd.snd.snd.fst.mps),(ai r4.snd.snd.snd.snd.snd.fst.mtu),(ai r4.snd.snd.snd.snd.snd.fst.try_)]),(Arg.v false [(AC.d (D.h RK.ev r4.snd.snd.snd.snd.snd.snd.snd))]),(Arg.v true [(ai r5.cfg.mode),(ai r5.cfg.win),(ai r5.cfg.mps),(ai r5.cfg.mtu),(ai r5.cfg.try_),(AC.own (RC.mk 44 RK.hend r5.ends (RM.mk (dpM false (none)) false 0 false))),(AC.own (RC.mk 64 RK.hnet r5.net (RM.mk (dpM false (none)) false 0 false))),(ai r5.link)])] [[(AC.d (D.r RK.u8 r4.fst.b)),(ai r4.fst.p)]]))))))))∧(∀ r4:Empty,False→False))))))))))) else (Tt ((CfgP r1.fst)∧(∀ r2:WldN,((WldI r2)∧(r2.cfg=r1.fst))→Tt (True∧(Tt (((RdOk r1.snd 1000000000)∧(n1≤1000000000))∧(∀ r3:IR,(PkQ r1.snd n1 r3)→Tt (∃ s:(Prod RdS (Prod Int (Prod Int (Prod Bool (Prod Bool (Prod Cfg (Prod WldN (Prod Nat Int)))))))),((KS.mk true [(Prod.mk 0 (T.pb 0 0 0)),(Prod.mk 1 (num IntKind.i64 n1)),(Prod.mk 2 (num IntKind.i64 md)),(Prod.mk 3 (boo hd)),(Prod.mk 4 (boo ij)),(Prod.mk 10 (T.pb 1 1 0)),(Prod.mk 12 (T.pb 2 1 0)),(Prod.mk 13 (T.pb 3 1 0)),(Prod.mk 14 (T.pb 4 1 0)),(Prod.mk 15 (T.v false [(Cm.d (D.h RK.ev 0))])),(Prod.mk 16 (num IntKind.i64 r3.fst))] [(Row.mk 0 (some (RC.mk 44 RK.hend r2.ends (RM.mk (none) false 0 false)))),(Row.mk 0 (some (RC.mk 64 RK.hnet r2.net (RM.mk (none) false 0 false))))] [(Box.mk (Min.min 0 1) (some [(Cm.d (D.r RK.u8 r3.snd.b)),(mi r3.snd.p)])),(Box.mk 1 (some [(mi 0),(mi 0),(mi 0),(mi 0),(mi 0)])),(Box.mk 1 (some [(mi 0),(mi 0),(mi 0),(mi 0),(mi 0),(Cm.d (D.r RK.hend ([]:(List EndN)))),(Cm.d (D.r RK.hnet ([]:(List Nat)))),(mi 0)])),(Box.mk (Min.min 1 1) (some [(mi r1.fst.mode),(mi r1.fst.win),(mi r1.fst.mps),(mi r1.fst.mtu),(mi r1.fst.try_)])),(Box.mk (Min.min 1 1) (some [(mi r2.cfg.mode),(mi r2.cfg.win),(mi r2.cfg.mps),(mi r2.cfg.mtu),(mi r2.cfg.try_),(Cm.ref 0 0),(Cm.ref 1 0),(mi r2.link)])),(Box.mk 0 none)])=(k_100ed3 s))∧(((RdOk s.fst 11000000)∧((WldI s.snd.snd.snd.snd.snd.snd.fst)∧((s.snd.snd.snd.snd.snd.snd.snd.fst=0)∧((0≤s.snd.snd.snd.snd.snd.snd.snd.snd)∧(s.snd.snd.snd.snd.snd.snd.snd.snd≤1000)))))∧((∀ r4:(Prod RdS (Prod Int (Prod Int (Prod Bool (Prod Bool (Prod Cfg (Prod WldN Nat))))))),((RdOn s.fst r4.fst (700000:Int))∧(WldI r4.snd.snd.snd.snd.snd.snd.fst))→Tt ((WldI (WldN.mk r4.snd.snd.snd.snd.snd.snd.fst.cfg r4.snd.snd.snd.snd.snd.snd.fst.ends r4.snd.snd.snd.snd.snd.snd.fst.net r4.snd.snd.snd.snd.snd.snd.fst.link))∧(∀ r5:WldN,((WldI r5)∧(r5.cfg=r4.snd.snd.snd.snd.snd.snd.fst.cfg))→Tt (Tt (Tt (Tt (Tt (K [(Arg.v true [(ai r4.snd.snd.snd.snd.snd.fst.mode),(ai r4.snd.snd.snd.snd.snd.fst.win),(ai r4.snd.snd.snd.snd.snd.fst.mps),(ai r4.snd.snd.snd.snd.snd.fst.mtu),(ai r4.snd.snd.snd.snd.snd.fst.try_)]),(Arg.v false [(AC.d (D.h RK.ev r4.snd.snd.snd.snd.snd.snd.snd))]),(Arg.v true [(ai r5.cfg.mode),(ai r5.cfg.win),(ai r5.cfg.mps),(ai r5.cfg.mtu),(ai r5.cfg.try_),(AC.own (RC.mk 44 RK.hend r5.ends (RM.mk (dpM false (none)) false 0 false))),(AC.own (RC.mk 64 RK.hnet r5.net (RM.mk (dpM false (none)) false 0 false))),(ai r5.link)])] [[(AC.d (D.r RK.u8 r4.fst.b)),(ai r4.fst.p)]]))))))))∧(∀ r4:Empty,False→False)))))))))))))) := by
  have hkk := fun a1_ a2_ a3_ a4_ a5_ a6_ a7_ a8_ a9_ a10_ a11_ a12_ a13_ a14_ a15_ a16_ h_ => hk ⟨a1_, a2_, a3_, a4_, a5_⟩ a6_ ⟨⟨a7_, a8_, a9_, a10_, a11_⟩, a12_, a13_, a14_⟩ ⟨a15_, a16_⟩ h_
  dsimp only [rS, rdC, cfgC, rCfg, List.map] at hkk
  have g1 := hp.1.1
  obtain ⟨b, p⟩ := r
  try dsimp only at *
  try simp only [PkQ, PkQ, RdOk, RdOn] at *
  try simp (disch := omega) only [wr]
  repeat' first
    | exact rfl
    | exact True.intro
    | (intro ⟨⟨b_, p_⟩, n_, md_, hd_, ij_, c_, w_, o_⟩ ⟨⟨e_, h1_, h2_⟩, hw_⟩
       try dsimp only at e_
       cases e_
       try dsimp only at h1_ h2_ hw_)
    | (intro (w_ : WldN) (hy_ : WldI _ ∧ _)
       obtain ⟨hw_, hc_⟩ := hy_)
    | exact fun (r_ : Empty) => r_.elim
    | with_reducible apply And.intro
    | (intro ⟨x_, b_, p_⟩ ⟨e_, h1_, h2_, h3_⟩
       try dsimp only at e_
       cases e_
       try dsimp only at h1_ h2_ h3_)
    | (intro ⟨x_, b_, p_⟩ ⟨⟨e_, h1_, h2_⟩, h3_⟩
       try dsimp only at e_
       cases e_
       try dsimp only at h1_ h2_ h3_)
    | (with_reducible intro y_ hy_; subst hy_)
    | with_reducible intro y_
    | (refine iteI (fun h => ?_) (fun h => ?_))
    | refine ⟨(⟨_, _⟩, _, _, _, _, ⟨_, _, _, _, _⟩, ⟨⟨_, _, _, _, _⟩, _, _, _⟩, _, _), rfl, ?_⟩
    | refine ⟨(⟨_, _⟩, _, _, _, _, ⟨_, _, _, _, _⟩, ⟨⟨_, _, _, _, _⟩, _, _, _⟩, _), rfl, ?_⟩
    | (dsimp only; refine ⟨(⟨_, _⟩, _, _, _, _, ⟨_, _, _, _, _⟩, ⟨⟨_, _, _, _, _⟩, _, _, _⟩, _, _), rfl, ?_⟩)
    | (dsimp only; refine ⟨(⟨_, _⟩, _, _, _, _, ⟨_, _, _, _, _⟩, ⟨⟨_, _, _, _, _⟩, _, _, _⟩, _), rfl, ?_⟩)
    | refine ⟨n - 1, ?_⟩
    | fail
  all_goals try simp only [cq1, cq2, cq3, cq4, cq5, cq6, cq7, cq8, cq9, cq10, cq11, cq12, cq13, cq14, cq15, cq16, cq17, cq18, cq19, PkQ, RdOk, RdOn] at *
  all_goals try simp (disch := omega) only [wr] at *
  all_goals first
    | with_reducible assumption
    | omega
    | (exfalso; omega)
    | (apply WldI.cfg; assumption)
    | (refine ‹_ → CfgP _› ?_; omega)
    | assumption
    | exact (wr8_in _).1
    | exact (wr8_in _).2
    | (refine hkk _ _ _ _ _ _ _ _ _ _ _ _ _ _ _ _ ?_
       try dsimp only
       repeat' first | with_reducible apply And.intro | with_reducible intro _
       all_goals first | rfl | assumption | omega | assumption | (apply WldI.cfg; assumption) | grind [])
    | (simp only [LIM, HL] at *; omega)
    | grind [RdOk, RdOn, LIM, HL]
    | assumption
theorem vL_spec_l20Play_0 (r0:RdS) (n10:Int) (md0:Int) (hd0:Bool) (ij0:Bool) (c0:Cfg) (w0:WldN) (o0:Nat) (k0:Int) (r:RdS) (n1:Int) (md:Int) (hd:Bool) (ij:Bool) (c:Cfg) (w:WldN) (o:Nat) (k:Int) (n:Nat) (hp:(fun (r:RdS) (n1:Int) (md:Int) (hd:Bool) (ij:Bool) (c:Cfg) (w:WldN) (o:Nat) (k:Int) => (RdOk r 11000000∧WldI w∧o=0∧0≤k∧k≤1000)) r0 n10 md0 hd0 ij0 c0 w0 o0 k0) (hi:WldI w∧(n:Int)=k∧(o:Int) + k=k0∧RdOk r0 11000000∧RdOn r0 r (700 * (k0 - k))∧k≤k0∧k0≤1000):if ((decide (k > (0:Int)))=true) then (Tt (((RdOk r 20000000)∧(CfgP w.cfg))∧(∀ r1:ER,((RdOn r r1.snd (600:Int))∧(r1.fst.data≤100))→Tt (((((RK.u8=RK.u8)∧(r1.fst.data≤1000))∧True)∧True)∧(((o + 1)≤137438953472)∧(Tt (((WldI (WldN.mk w.cfg w.ends w.net w.link))∧(r1.fst.data≤1000))∧(∀ r2:WldN,((WldI r2)∧(r2.cfg=w.cfg))→Tt (∃ s:(Prod RdS (Prod Int (Prod Int (Prod Bool (Prod Bool (Prod Cfg (Prod WldN (Prod Nat Int)))))))),((KS.mk true [(Prod.mk 0 (T.pb 0 0 0)),(Prod.mk 1 (num IntKind.i64 n1)),(Prod.mk 2 (num IntKind.i64 md)),(Prod.mk 3 (boo hd)),(Prod.mk 4 (boo ij)),(Prod.mk 10 (T.pb 1 1 0)),(Prod.mk 12 (T.pb 2 1 0)),(Prod.mk 13 (T.pb 3 1 0)),(Prod.mk 14 (T.pb 4 1 0)),(Prod.mk 15 (T.v false [(Cm.d (D.h RK.ev (o + 1)))])),(Prod.mk 16 (num IntKind.i64 (IntKind.i64.wrap (k - 1))))] [(Row.mk 0 (some (RC.mk 44 RK.hend r2.ends (RM.mk (none) false 0 false)))),(Row.mk 0 (some (RC.mk 64 RK.hnet r2.net (RM.mk (none) false 0 false))))] [(Box.mk (Min.min 0 1) (some [(Cm.d (D.r RK.u8 r1.snd.b)),(mi r1.snd.p)])),(Box.mk 1 (some [(mi 0),(mi 0),(mi 0),(mi 0),(mi 0)])),(Box.mk 1 (some [(mi 0),(mi 0),(mi 0),(mi 0),(mi 0),(Cm.d (D.r RK.hend ([]:(List EndN)))),(Cm.d (D.r RK.hnet ([]:(List Nat)))),(mi 0)])),(Box.mk (Min.min 1 1) (some [(mi c.mode),(mi c.win),(mi c.mps),(mi c.mtu),(mi c.try_)])),(Box.mk (Min.min 1 1) (some [(mi r2.cfg.mode),(mi r2.cfg.win),(mi r2.cfg.mps),(mi r2.cfg.mtu),(mi r2.cfg.try_),(Cm.ref 0 0),(Cm.ref 1 0),(mi r2.link)])),(Box.mk 0 none)])=(k_100ed3 s))∧(∃ m:Nat,(m < n)∧((WldI s.snd.snd.snd.snd.snd.snd.fst)∧((((m:Nat):Int)=s.snd.snd.snd.snd.snd.snd.snd.snd)∧(((((s.snd.snd.snd.snd.snd.snd.snd.fst:Nat):Int) + s.snd.snd.snd.snd.snd.snd.snd.snd)=k0)∧((RdOk r0 11000000)∧(((s.fst.b=r0.b)∧((r0.p≤s.fst.p)∧(s.fst.p≤(r0.p + ((700:Int) * (k0 - s.snd.snd.snd.snd.snd.snd.snd.snd))))))∧((s.snd.snd.snd.snd.snd.snd.snd.snd≤k0)∧(k0≤1000))))))))))))))))) else (∃ r1:(Prod RdS (Prod Int (Prod Int (Prod Bool (Prod Bool (Prod Cfg (Prod WldN Nat))))))),((KS.mk true [(Prod.mk 0 (T.pb 0 0 0)),(Prod.mk 1 (num IntKind.i64 n1)),(Prod.mk 2 (num IntKind.i64 md)),(Prod.mk 3 (boo hd)),(Prod.mk 4 (boo ij)),(Prod.mk 10 (T.pb 1 1 0)),(Prod.mk 12 (T.pb 2 1 0)),(Prod.mk 13 (T.pb 3 1 0)),(Prod.mk 14 (T.pb 4 1 0)),(Prod.mk 15 (T.v false [(Cm.d (D.h RK.ev o))]))] [(Row.mk 0 (some (RC.mk 44 RK.hend w.ends (RM.mk (none) false 0 false)))),(Row.mk 0 (some (RC.mk 64 RK.hnet w.net (RM.mk (none) false 0 false))))] [(Box.mk (Min.min 0 1) (some [(Cm.d (D.r RK.u8 r.b)),(mi r.p)])),(Box.mk 1 (some [(mi 0),(mi 0),(mi 0),(mi 0),(mi 0)])),(Box.mk 1 (some [(mi 0),(mi 0),(mi 0),(mi 0),(mi 0),(Cm.d (D.r RK.hend ([]:(List EndN)))),(Cm.d (D.r RK.hnet ([]:(List Nat)))),(mi 0)])),(Box.mk (Min.min 1 1) (some [(mi c.mode),(mi c.win),(mi c.mps),(mi c.mtu),(mi c.try_)])),(Box.mk (Min.min 1 1) (some [(mi w.cfg.mode),(mi w.cfg.win),(mi w.cfg.mps),(mi w.cfg.mtu),(mi w.cfg.try_),(Cm.ref 0 0),(Cm.ref 1 0),(mi w.link)])),(Box.mk 0 none)])=(k_e22f1d r1))∧(((r1.fst.b=r0.b)∧((r0.p≤r1.fst.p)∧(r1.fst.p≤(r0.p + 700000))))∧(WldI r1.snd.snd.snd.snd.snd.snd.fst))) := by
  try dsimp only at hp
  obtain ⟨hw, h2, h3, ⟨g1, g2, g3, g4⟩, ⟨f1, f2, f3⟩, h6, h7⟩ := hi
  obtain ⟨b, p⟩ := r
  obtain ⟨b0, p0⟩ := r0
  try dsimp only at *
  cases f1
  have hkw : IntKind.wrap .i64 (k - 1) = k - 1 := wr (by omega) (by omega)
  rw [hkw]
  try simp only [PkQ, PkQ, RdOk, RdOn] at *
  try simp (disch := omega) only [wr]
  repeat' first
    | exact rfl
    | exact True.intro
    | (intro (w_ : WldN) (hy_ : WldI _ ∧ _)
       obtain ⟨hw_, hc_⟩ := hy_)
    | exact fun (r_ : Empty) => r_.elim
    | with_reducible apply And.intro
    | (intro ⟨x_, b_, p_⟩ ⟨e_, h1_, h2_, h3_⟩
       try dsimp only at e_
       cases e_
       try dsimp only at h1_ h2_ h3_)
    | (intro ⟨x_, b_, p_⟩ ⟨⟨e_, h1_, h2_⟩, h3_⟩
       try dsimp only at e_
       cases e_
       try dsimp only at h1_ h2_ h3_)
    | (with_reducible intro y_ hy_; subst hy_)
    | with_reducible intro y_
    | (refine iteI (fun h => ?_) (fun h => ?_))
    | refine ⟨(⟨_, _⟩, _, _, _, _, ⟨_, _, _, _, _⟩, ⟨⟨_, _, _, _, _⟩, _, _, _⟩, _, _), rfl, ?_⟩
    | refine ⟨(⟨_, _⟩, _, _, _, _, ⟨_, _, _, _, _⟩, ⟨⟨_, _, _, _, _⟩, _, _, _⟩, _), rfl, ?_⟩
    | (dsimp only; refine ⟨(⟨_, _⟩, _, _, _, _, ⟨_, _, _, _, _⟩, ⟨⟨_, _, _, _, _⟩, _, _, _⟩, _, _), rfl, ?_⟩)
    | (dsimp only; refine ⟨(⟨_, _⟩, _, _, _, _, ⟨_, _, _, _, _⟩, ⟨⟨_, _, _, _, _⟩, _, _, _⟩, _), rfl, ?_⟩)
    | refine ⟨n - 1, ?_⟩
    | fail
  all_goals try simp only [cq1, cq2, cq3, cq4, cq5, cq6, cq7, cq8, cq9, cq10, cq11, cq12, cq13, cq14, cq15, cq16, cq17, cq18, cq19, PkQ, RdOk, RdOn] at *
  all_goals try simp (disch := omega) only [wr] at *
  all_goals first
    | with_reducible assumption
    | omega
    | (apply WldI.cfg; assumption)
    | (refine ‹_ → CfgP _› ?_; omega)
    | assumption
    | exact (wr8_in _).1
    | exact (wr8_in _).2
    | (refine hk ?_
       try dsimp only
       repeat' first | with_reducible apply And.intro | with_reducible intro _
       all_goals first | rfl | assumption | omega | grind [])
    | (simp only [LIM, HL] at *; omega)
    | grind [RdOk, RdOn, LIM, HL]
    | assumption
theorem vS_spec_l20Play_0 (r0 : RdS) (n10 : Int) (md0 : Int) (hd0 : Bool) (ij0 : Bool) (c0 : Cfg) (w0 : WldN) (o0 : Nat) (k0 : Int) (hp : (fun (r : RdS) (n1 : Int) (md : Int) (hd : Bool) (ij : Bool) (c : Cfg) (w : WldN) (o : Nat) (k : Int) => (RdOk r 11000000 ∧ WldI w ∧ o = 0 ∧ 0 ≤ k ∧ k ≤ 1000)) r0 n10 md0 hd0 ij0 c0 w0 o0 k0) : ∃ n : Nat, (fun (r : RdS) (n1 : Int) (md : Int) (hd : Bool) (ij : Bool) (c : Cfg) (w : WldN) (o : Nat) (k : Int) => (WldI w ∧ (n : Int) = k ∧ (o : Int) + k = k0 ∧ RdOk r0 11000000 ∧ RdOn r0 r (700 * (k0 - k)) ∧ k ≤ k0 ∧ k0 ≤ 1000)) r0 n10 md0 hd0 ij0 c0 w0 o0 k0 := by
  try dsimp only at hp
  try dsimp only
  obtain ⟨h1, h2, h3, h4, h5⟩ := hp
  exact ⟨k0.toNat, h2, by omega, by omega, h1, ⟨rfl, by omega, by omega⟩, by omega, h5⟩
theorem w_spec_l20Play : Valid Try.prog 13 c_spec_l20Play :=
  valid_ctr2 (V := V_spec_l20Play) (tysB_ok tys2_ok) ⟨(CallsL.cons w_spec_l20Rd_pick (CallsL.cons w_spec_l20Cfg (CallsL.cons w_spec_WldNew (CallsL.cons w_spec_l20Event (CallsL.cons w_spec_l9Step (CallsL.cons w_spec_l9Copy (CallsL.nil _))))))), (IosL.nil _)⟩ mixed 2 5 Try.func13 rfl (by kernel_rfl)
    (fun c hc => by
      obtain rfl := Option.some.inj hc
      exact ⟨trivial, ⟨trivial, ⟨⟨trivial, ⟨trivial, trivial⟩⟩, ⟨trivial, ⟨trivial, ⟨⟨trivial, ⟨LoopD.ok2 (V := V_spec_l20Play) l_spec_l20Play_0 (LoopsM.cons 0 l_spec_l20Play_0 LoopsM.nil) 0 _ i_spec_l20Play_0 (fun x hx => vS_spec_l20Play_0 x.1 x.2.1 x.2.2.1 x.2.2.2.1 x.2.2.2.2.1 x.2.2.2.2.2.1 x.2.2.2.2.2.2.1 x.2.2.2.2.2.2.2.1 x.2.2.2.2.2.2.2.2 hx) (fun x hx n s hi => ⟨_, by kernel_rfl, vL_spec_l20Play_0 x.1 x.2.1 x.2.2.1 x.2.2.2.1 x.2.2.2.2.1 x.2.2.2.2.2.1 x.2.2.2.2.2.2.1 x.2.2.2.2.2.2.2.1 x.2.2.2.2.2.2.2.2 s.1 s.2.1 s.2.2.1 s.2.2.2.1 s.2.2.2.2.1 s.2.2.2.2.2.1 s.2.2.2.2.2.2.1 s.2.2.2.2.2.2.2.1 s.2.2.2.2.2.2.2.2 n hx hi⟩), ⟨⟨trivial, ⟨trivial, trivial⟩⟩, ⟨⟨trivial, ⟨trivial, trivial⟩⟩, trivial⟩⟩⟩⟩, ⟨trivial, trivial⟩⟩⟩⟩⟩⟩⟩)
    (fun x K hp hk => ⟨_, by kernel_rfl, vF_spec_l20Play x.1 x.2.1 x.2.2.1 x.2.2.2.1 x.2.2.2.2 K hp (fun c o w q h => hk (c, o, w, q) h)⟩)
end Go.Proofs.YtjjcjpmfkbfdfaaE
