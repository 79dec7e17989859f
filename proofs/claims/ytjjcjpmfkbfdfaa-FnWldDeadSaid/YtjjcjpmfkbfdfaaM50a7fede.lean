/- A part of the proof of laws of the program: what calls of the program answer. Conditions: none. -/
import Derived.Test.YtjjcjpmfkbfdfaaM2ce2ace3
set_option linter.unusedVariables false
set_option linter.unusedSimpArgs false
set_option linter.unusedSectionVars false

/- Contracts: N11. Conditions: none. -/
set_option linter.unusedVariables false
set_option maxHeartbeats 1600000
namespace Go.Proofs.YtjjcjpmfkbfdfaaE
open Go
/-! spec.l20World -/
def c_spec_l20World : Ent := ctr (α := (RdS) × (Int)) (ρ := (WldN) × (RdS)) [] [] (rs rRd (rs1 rInt)) (fun x_ => (fun (r : RdS) (n1 : Int) => (RdOk r 5000000 ∧ n1 ≤ 1000)) x_.1 x_.2) (fun x_ r_ => (fun x_ => (fun (r : RdS) (n1 : Int) => ((fun r_ => (fun (w : WldN) (q : RdS) => (RdOn r q 1000000 ∧ w.ends.length ≤ 2)) r_.1 r_.2))) x_.1 x_.2) x_ r_) (fun r_ => (fun (w : WldN) (q : RdS) => ([rWldND.to w])) r_.1 r_.2) (fun r_ => (fun (w : WldN) (q : RdS) => ([(rdC q).map .d])) r_.1 r_.2)
def l_spec_l20World_3 : LoopD ((RdS) × (WldN) × (Int)) ((RdS) × (WldN)) ((Empty)) where
  n := 168
  head := ⟨[0, 4, 7, 8], [0, 1, 3], [0, 1]⟩
  st := fun x_ => (fun (r : RdS) (w : WldN) (k : Int) => (⟨true, [(0, .pb 0 0 0), (4, .pb 1 1 0), (7, .pb 3 1 0), (8, num .i64 k)], [⟨0, some ⟨44, .hend, w.ends, m0⟩⟩, ⟨0, some ⟨64, .hnet, w.net, m0⟩⟩], [⟨0, some ((rdC r).map .d)⟩, ⟨1, some wldZM⟩, ⟨0, none⟩, ⟨1, some (wldNM w 0 1 0 0)⟩]⟩)) x_.1 x_.2.1 x_.2.2
  pre := fun x_ => (fun (r : RdS) (w : WldN) (k : Int) => (w.ends.length = 2 ∧ w.net.length = 2 ∧ 0 ≤ k ∧ k < 2 ∧ at_hnet w.net k.toNat ≤ 31)) x_.1 x_.2.1 x_.2.2
  nk := ⟨[0, 4, 7], [0, 1, 3], [0, 1]⟩
  nst := fun r_ => (fun (r : RdS) (w : WldN) => (⟨true, [(0, .pb 0 0 0), (4, .pb 1 1 0), (7, .pb 3 1 0)], [⟨0, some ⟨44, .hend, w.ends, m0⟩⟩, ⟨0, some ⟨64, .hnet, w.net, m0⟩⟩], [⟨0, some ((rdC r).map .d)⟩, ⟨1, some wldZM⟩, ⟨0, none⟩, ⟨1, some (wldNM w 0 1 0 0)⟩]⟩)) r_.1 r_.2
  npost := fun x_ r_ => (fun x_ => (fun (r0 : RdS) (w0 : WldN) (k0 : Int) => ((fun r_ => (fun (r : RdS) (w : WldN) => (r = r0 ∧ w.ends.length = 2)) r_.1 r_.2))) x_.1 x_.2.1 x_.2.2) x_ r_
  rk := ⟨[], [], []⟩
  rst := fun _ => ⟨true, [], [], []⟩
  rpost := fun _ _ => False
def i_spec_l20World_3 (x : (RdS) × (WldN) × (Int)) (n : Nat) (s : (RdS) × (WldN) × (Int)) : Prop := (fun x_ => (fun (r0 : RdS) (w0 : WldN) (k0 : Int) => ((fun s_ => (fun (r : RdS) (w : WldN) (k : Int) => (r = r0 ∧ k = k0 ∧ w.ends.length = 2 ∧ w.net.length = 2 ∧ 0 ≤ k ∧ k < 2 ∧ n + at_hnet w.net k.toNat = 31)) s_.1 s_.2.1 s_.2.2))) x_.1 x_.2.1 x_.2.2) x s
def l_spec_l20World_1 : LoopD ((RdS) × (WldN) × (Int)) ((RdS) × (WldN)) ((Empty)) where
  n := 168
  head := ⟨[0, 4, 7, 8], [0, 1, 3], [0, 1]⟩
  st := fun x_ => (fun (r : RdS) (w : WldN) (k : Int) => (⟨true, [(0, .pb 0 0 0), (4, .pb 1 1 0), (7, .pb 3 1 0), (8, num .i64 k)], [⟨0, some ⟨44, .hend, w.ends, m0⟩⟩, ⟨0, some ⟨64, .hnet, w.net, m0⟩⟩], [⟨0, some ((rdC r).map .d)⟩, ⟨1, some wldZM⟩, ⟨0, none⟩, ⟨1, some (wldNM w 0 1 0 0)⟩]⟩)) x_.1 x_.2.1 x_.2.2
  pre := fun x_ => (fun (r : RdS) (w : WldN) (k : Int) => (w.ends.length = 2 ∧ 0 ≤ k ∧ k < 2 ∧ (at_hend w.ends k.toNat).put ≤ 61)) x_.1 x_.2.1 x_.2.2
  nk := ⟨[0, 4, 7], [0, 1, 3], [0, 1]⟩
  nst := fun r_ => (fun (r : RdS) (w : WldN) => (⟨true, [(0, .pb 0 0 0), (4, .pb 1 1 0), (7, .pb 3 1 0)], [⟨0, some ⟨44, .hend, w.ends, m0⟩⟩, ⟨0, some ⟨64, .hnet, w.net, m0⟩⟩], [⟨0, some ((rdC r).map .d)⟩, ⟨1, some wldZM⟩, ⟨0, none⟩, ⟨1, some (wldNM w 0 1 0 0)⟩]⟩)) r_.1 r_.2
  npost := fun x_ r_ => (fun x_ => (fun (r0 : RdS) (w0 : WldN) (k0 : Int) => ((fun r_ => (fun (r : RdS) (w : WldN) => (r = r0 ∧ w.ends.length = 2)) r_.1 r_.2))) x_.1 x_.2.1 x_.2.2) x_ r_
  rk := ⟨[], [], []⟩
  rst := fun _ => ⟨true, [], [], []⟩
  rpost := fun _ _ => False
def i_spec_l20World_1 (x : (RdS) × (WldN) × (Int)) (n : Nat) (s : (RdS) × (WldN) × (Int)) : Prop := (fun x_ => (fun (r0 : RdS) (w0 : WldN) (k0 : Int) => ((fun s_ => (fun (r : RdS) (w : WldN) (k : Int) => (r = r0 ∧ k = k0 ∧ w.ends.length = 2 ∧ 0 ≤ k ∧ k < 2 ∧ n + (at_hend w.ends k.toNat).put = 61)) s_.1 s_.2.1 s_.2.2))) x_.1 x_.2.1 x_.2.2) x s
def V_spec_l20World : Env := ⟨tys2, [(13, c_spec_l20Play), (14, c_spec_l20Rd_pick), (15, c_spec_l20Rd_odd), (16, c_spec_l20Cfg), (17, c_spec_l20Tx), (18, c_spec_l20Rx), (19, c_spec_l20Ctx), (20, c_spec_l20Crx)], [(17, [0, 1])], [(4, 1), (5, 2), (7, 3)], [(16, ([0], [])), (18, ([0], [])), (20, ([0], [])), (22, ([0], []))], [(3, l_spec_l20World_3.L), (1, l_spec_l20World_1.L)], [59, 65], [], [(16, [(0, false), (1, false), (2, false), (3, false), (4, false), (5, false), (6, true), (7, false), (8, false), (9, true)]), (18, [(0, false), (1, false), (2, false), (3, false), (4, true), (5, false), (6, false), (7, true)]), (20, [(0, false), (1, false), (2, false), (3, false), (4, false), (5, false), (6, true), (7, false), (8, false), (9, true)]), (22, [(0, false), (1, false), (2, false), (3, false), (4, true), (5, false), (6, false), (7, true)]), (25, [(0, false), (1, false), (2, false), (3, false), (4, false), (5, false), (6, false), (7, false), (8, false), (9, true), (10, true), (11, false), (12, true)]), (27, [(0, false), (1, false), (2, false), (3, false), (4, false), (5, false), (6, false), (7, false), (8, true), (9, false), (10, true), (11, true), (12, false), (13, true)]), (29, [(0, false), (1, false), (2, false), (3, false), (4, false), (5, false), (6, false), (7, false), (8, false), (9, true), (10, true), (11, true), (12, false), (13, false), (14, true)]), (6, [(0, false), (1, false), (2, false), (3, false), (4, false), (5, false), (6, false), (7, false), (8, false), (9, true), (10, true), (11, true), (12, false), (13, false), (14, true)])]⟩
/-! spec.DrawWldDead -/
def c_spec_DrawWldDead : Ent := ctr (α := (List Int)) (ρ := (WldN)) [] [] (rs1 rBytes) (fun x_ => (fun (l : List Int) => (Bytes l)) x_) (fun x_ r_ => (fun x_ => (fun (l : List Int) => ((fun r_ => (fun (w : WldN) => (w.ends.length ≤ 2)) r_))) x_) x_ r_) (fun r_ => (fun (w : WldN) => ([rWldND.to w])) r_) (fun r_ => (fun (w : WldN) => ([])) r_)
def V_spec_DrawWldDead : Env := ⟨tys2, [(8, c_spec_l20World), (9, c_spec_l20Open)], [], [(2, 0), (4, 1)], [], [], [], [], []⟩
end Go.Proofs.YtjjcjpmfkbfdfaaE


/- Calls answer what is promised: N11. Conditions: none. -/
set_option linter.unusedVariables false
set_option maxHeartbeats 1600000
namespace Go.Proofs.YtjjcjpmfkbfdfaaE
open Go
def k_ba2631 (s_:(Prod RdS (Prod WldN Int))) : KS := (KS.mk true [(Prod.mk 0 (T.pb 0 0 0)),(Prod.mk 4 (T.pb 1 1 0)),(Prod.mk 7 (T.pb 3 1 0)),(Prod.mk 8 (num IntKind.i64 s_.snd.snd))] [(Row.mk 0 (some (RC.mk 44 RK.hend s_.snd.fst.ends (RM.mk (none) false 0 false)))),(Row.mk 0 (some (RC.mk 64 RK.hnet s_.snd.fst.net (RM.mk (none) false 0 false))))] [(Box.mk 0 (some [(Cm.d (D.r RK.u8 s_.fst.b)),(mi s_.fst.p)])),(Box.mk 1 (some [(mi 0),(mi 0),(mi 0),(mi 0),(mi 0),(Cm.d (D.r RK.hend ([]:(List EndN)))),(Cm.d (D.r RK.hnet ([]:(List Nat)))),(mi 0)])),(Box.mk 0 none),(Box.mk 1 (some [(mi s_.snd.fst.cfg.mode),(mi s_.snd.fst.cfg.win),(mi s_.snd.fst.cfg.mps),(mi s_.snd.fst.cfg.mtu),(mi s_.snd.fst.cfg.try_),(Cm.ref 0 0),(Cm.ref 1 0),(mi s_.snd.fst.link)]))])
def k_46b6e5 (s_:(Prod RdS WldN)) : KS := (KS.mk true [(Prod.mk 0 (T.pb 0 0 0)),(Prod.mk 4 (T.pb 1 1 0)),(Prod.mk 7 (T.pb 3 1 0))] [(Row.mk 0 (some (RC.mk 44 RK.hend s_.snd.ends (RM.mk (none) false 0 false)))),(Row.mk 0 (some (RC.mk 64 RK.hnet s_.snd.net (RM.mk (none) false 0 false))))] [(Box.mk 0 (some [(Cm.d (D.r RK.u8 s_.fst.b)),(mi s_.fst.p)])),(Box.mk 1 (some [(mi 0),(mi 0),(mi 0),(mi 0),(mi 0),(Cm.d (D.r RK.hend ([]:(List EndN)))),(Cm.d (D.r RK.hnet ([]:(List Nat)))),(mi 0)])),(Box.mk 0 none),(Box.mk 1 (some [(mi s_.snd.cfg.mode),(mi s_.snd.cfg.win),(mi s_.snd.cfg.mps),(mi s_.snd.cfg.mtu),(mi s_.snd.cfg.try_),(Cm.ref 0 0),(Cm.ref 1 0),(mi s_.snd.link)]))])
set_option maxRecDepth 40000 in
theorem vF_spec_l20World (r:RdS) (n1:Int) (K:List Arg→List (List AC)→Prop) (hp:RdOk r 5000000∧n1≤1000) (hk:∀ (w:WldN) (q:RdS),(RdOn r q 1000000∧w.ends.length≤2)→K ([rWldND.to w]) ([(rdC q).map .d])):Tt (((RdOk r 1000000000)∧((2:Int)≤(1000000000:Int)))∧(∀ r1:IR,(PkQ r (2:Int) r1)→Tt (Tt (((RdOk r1.snd 1000000000)∧((3:Int)≤(1000000000:Int)))∧(∀ r2:IR,(PkQ r1.snd (3:Int) r2)→Tt (Tt (((RdOk r2.snd 10000000)∧(((80:Int)≤(1000:Int))∧((0:Int)≤(0:Int))))∧(∀ r3:(Prod Cfg (Prod Nat (Prod WldN RdS))),((RdOn r2.snd r3.snd.snd.snd (800000:Int))∧(WldI r3.snd.snd.fst))→Tt (Tt (((RdOk r3.snd.snd.snd 900000000)∧(n1≤1000000000))∧(∀ r4:(Prod Bool RdS),((r4.snd.b=r3.snd.snd.snd.b)∧((r3.snd.snd.snd.p≤r4.snd.p)∧((r4.snd.p≤(r3.snd.snd.snd.p + 1))∧((n1≤0)→(r4.fst=false)))))→Tt (if (r4.fst=true) then (Tt (((RdOk r4.snd 1000000000)∧((2:Int)≤(1000000000:Int)))∧(∀ r5:IR,(PkQ r4.snd (2:Int) r5)→Tt (Tt (((RdOk r5.snd 1000000000)∧((12:Int)≤(1000000000:Int)))∧(∀ r6:IR,(PkQ r5.snd (12:Int) r6)→Tt (if ((r6.fst == 0)=true) then (Tt (((RdOk r6.snd 40000000)∧((2:Int)≤(1000:Int)))∧(∀ r7:(Prod Cfg RdS),((RdOn r6.snd r7.snd (20:Int))∧(((2:Int)≤(0:Int))→(CfgP r7.fst)))→Tt (Tt (K [(Arg.v true [(ai r7.fst.mode),(ai r7.fst.win),(ai r7.fst.mps),(ai r7.fst.mtu),(ai r7.fst.try_),(AC.d (D.r RK.hend r3.snd.snd.fst.ends)),(AC.d (D.r RK.hnet r3.snd.snd.fst.net)),(ai r3.snd.snd.fst.link)])] [[(AC.d (D.r RK.u8 r7.snd.b)),(ai r7.snd.p)]]))))) else (if ((r6.fst == 1)=true) then ((((0:Int)≤(1:Int))∧(((1:Int)≤((r3.snd.snd.fst.ends.length:Nat):Int))∧(((r3.snd.snd.fst.ends.length:Nat):Int)≤((r3.snd.snd.fst.ends.length:Nat):Int))))∧(Tt (K [(Arg.v true [(ai r3.snd.snd.fst.cfg.mode),(ai r3.snd.snd.fst.cfg.win),(ai r3.snd.snd.fst.cfg.mps),(ai r3.snd.snd.fst.cfg.mtu),(ai r3.snd.snd.fst.cfg.try_),(AC.d (D.r RK.hend (List.take ((Int.toNat ((r3.snd.snd.fst.ends.length:Nat):Int)) - 1) (List.drop 1 r3.snd.snd.fst.ends)))),(AC.d (D.r RK.hnet r3.snd.snd.fst.net)),(ai r3.snd.snd.fst.link)])] [[(AC.d (D.r RK.u8 r6.snd.b)),(ai r6.snd.p)]]))) else (if ((r6.fst == 2)=true) then ((((0:Int)≤(1:Int))∧(((1:Int)≤((r3.snd.snd.fst.net.length:Nat):Int))∧(((r3.snd.snd.fst.net.length:Nat):Int)≤((r3.snd.snd.fst.net.length:Nat):Int))))∧(Tt (K [(Arg.v true [(ai r3.snd.snd.fst.cfg.mode),(ai r3.snd.snd.fst.cfg.win),(ai r3.snd.snd.fst.cfg.mps),(ai r3.snd.snd.fst.cfg.mtu),(ai r3.snd.snd.fst.cfg.try_),(AC.d (D.r RK.hend r3.snd.snd.fst.ends)),(AC.d (D.r RK.hnet (List.take ((Int.toNat ((r3.snd.snd.fst.net.length:Nat):Int)) - 1) (List.drop 1 r3.snd.snd.fst.net)))),(ai r3.snd.snd.fst.link)])] [[(AC.d (D.r RK.u8 r6.snd.b)),(ai r6.snd.p)]]))) else (if ((r6.fst == 3)=true) then (Tt (((RdOk r6.snd 1000000000)∧((2:Int)≤(1000000000:Int)))∧(∀ r7:IR,(PkQ r6.snd (2:Int) r7)→Tt (((0≤r7.fst)∧(r7.fst < 2))∧(Tt (K [(Arg.v true [(ai r3.snd.snd.fst.cfg.mode),(ai r3.snd.snd.fst.cfg.win),(ai r3.snd.snd.fst.cfg.mps),(ai r3.snd.snd.fst.cfg.mtu),(ai r3.snd.snd.fst.cfg.try_),(AC.d (D.r RK.hend r3.snd.snd.fst.ends)),(AC.d (D.r RK.hnet r3.snd.snd.fst.net)),(ai (at_i64 ((-1:Int) :: ((2:Int) :: ([]:(List Int)):(List Int)):(List Int)) r7.fst.toNat))])] [[(AC.d (D.r RK.u8 r7.snd.b)),(ai r7.snd.p)]])))))) else (if ((r6.fst == 4)=true) then (Tt (((RdOk r6.snd 40000000)∧(((2:Int)≤(1000:Int))∧(CfgP r3.snd.snd.fst.cfg)))∧(∀ r7:(Prod TxN RdS),((RdOn r6.snd r7.snd (2000:Int))∧((r7.fst.flight≤100)∧(r7.fst.queue≤100)))→Tt (Tt (((0≤r5.fst)∧(r5.fst < ((r3.snd.snd.fst.ends.length:Nat):Int)))∧(Tt (Tt (K [(Arg.v true [(ai r3.snd.snd.fst.cfg.mode),(ai r3.snd.snd.fst.cfg.win),(ai r3.snd.snd.fst.cfg.mps),(ai r3.snd.snd.fst.cfg.mtu),(ai r3.snd.snd.fst.cfg.try_),(AC.d (D.r RK.hend (List.set r3.snd.snd.fst.ends r5.fst.toNat (EndN.mk r7.fst (at_hend r3.snd.snd.fst.ends r5.fst.toNat).rx (at_hend r3.snd.snd.fst.ends r5.fst.toNat).ctx (at_hend r3.snd.snd.fst.ends r5.fst.toNat).crx (at_hend r3.snd.snd.fst.ends r5.fst.toNat).put (at_hend r3.snd.snd.fst.ends r5.fst.toNat).got)))),(AC.d (D.r RK.hnet r3.snd.snd.fst.net)),(ai r3.snd.snd.fst.link)])] [[(AC.d (D.r RK.u8 r7.snd.b)),(ai r7.snd.p)]])))))))) else (if ((r6.fst == 5)=true) then (Tt (((RdOk r6.snd 40000000)∧((2:Int)≤(1000:Int)))∧(∀ r7:(Prod RxN RdS),((RdOn r6.snd r7.snd (2000:Int))∧(r7.fst.got≤100))→Tt (Tt (((0≤r5.fst)∧(r5.fst < ((r3.snd.snd.fst.ends.length:Nat):Int)))∧(Tt (Tt (K [(Arg.v true [(ai r3.snd.snd.fst.cfg.mode),(ai r3.snd.snd.fst.cfg.win),(ai r3.snd.snd.fst.cfg.mps),(ai r3.snd.snd.fst.cfg.mtu),(ai r3.snd.snd.fst.cfg.try_),(AC.d (D.r RK.hend (List.set r3.snd.snd.fst.ends r5.fst.toNat (EndN.mk (at_hend r3.snd.snd.fst.ends r5.fst.toNat).tx r7.fst (at_hend r3.snd.snd.fst.ends r5.fst.toNat).ctx (at_hend r3.snd.snd.fst.ends r5.fst.toNat).crx (at_hend r3.snd.snd.fst.ends r5.fst.toNat).put (at_hend r3.snd.snd.fst.ends r5.fst.toNat).got)))),(AC.d (D.r RK.hnet r3.snd.snd.fst.net)),(ai r3.snd.snd.fst.link)])] [[(AC.d (D.r RK.u8 r7.snd.b)),(ai r7.snd.p)]])))))))) else (if ((r6.fst == 6)=true) then (Tt (((RdOk r6.snd 40000000)∧(((2:Int)≤(1000:Int))∧(CfgP r3.snd.snd.fst.cfg)))∧(∀ r7:(Prod CtN RdS),((RdOn r6.snd r7.snd (2000:Int))∧(r7.fst.queue≤100))→Tt (Tt (((0≤r5.fst)∧(r5.fst < ((r3.snd.snd.fst.ends.length:Nat):Int)))∧(Tt (Tt (K [(Arg.v true [(ai r3.snd.snd.fst.cfg.mode),(ai r3.snd.snd.fst.cfg.win),(ai r3.snd.snd.fst.cfg.mps),(ai r3.snd.snd.fst.cfg.mtu),(ai r3.snd.snd.fst.cfg.try_),(AC.d (D.r RK.hend (List.set r3.snd.snd.fst.ends r5.fst.toNat (EndN.mk (at_hend r3.snd.snd.fst.ends r5.fst.toNat).tx (at_hend r3.snd.snd.fst.ends r5.fst.toNat).rx r7.fst (at_hend r3.snd.snd.fst.ends r5.fst.toNat).crx (at_hend r3.snd.snd.fst.ends r5.fst.toNat).put (at_hend r3.snd.snd.fst.ends r5.fst.toNat).got)))),(AC.d (D.r RK.hnet r3.snd.snd.fst.net)),(ai r3.snd.snd.fst.link)])] [[(AC.d (D.r RK.u8 r7.snd.b)),(ai r7.snd.p)]])))))))) else (if ((r6.fst == 7)=true) then (Tt (((RdOk r6.snd 40000000)∧((2:Int)≤(1000:Int)))∧(∀ r7:(Prod CrN RdS),((RdOn r6.snd r7.snd (2000:Int))∧(r7.fst.got≤100))→Tt (Tt (((0≤r5.fst)∧(r5.fst < ((r3.snd.snd.fst.ends.length:Nat):Int)))∧(Tt (Tt (K [(Arg.v true [(ai r3.snd.snd.fst.cfg.mode),(ai r3.snd.snd.fst.cfg.win),(ai r3.snd.snd.fst.cfg.mps),(ai r3.snd.snd.fst.cfg.mtu),(ai r3.snd.snd.fst.cfg.try_),(AC.d (D.r RK.hend (List.set r3.snd.snd.fst.ends r5.fst.toNat (EndN.mk (at_hend r3.snd.snd.fst.ends r5.fst.toNat).tx (at_hend r3.snd.snd.fst.ends r5.fst.toNat).rx (at_hend r3.snd.snd.fst.ends r5.fst.toNat).ctx r7.fst (at_hend r3.snd.snd.fst.ends r5.fst.toNat).put (at_hend r3.snd.snd.fst.ends r5.fst.toNat).got)))),(AC.d (D.r RK.hnet r3.snd.snd.fst.net)),(ai r3.snd.snd.fst.link)])] [[(AC.d (D.r RK.u8 r7.snd.b)),(ai r7.snd.p)]])))))))) else (if ((r6.fst == 8)=true) then (∃ s:(Prod RdS (Prod WldN Int)),((KS.mk true [(Prod.mk 0 (T.pb 0 0 0)),(Prod.mk 4 (T.pb 1 1 0)),(Prod.mk 7 (T.pb 3 1 0)),(Prod.mk 8 (num IntKind.i64 r5.fst))] [(Row.mk 0 (some (RC.mk 44 RK.hend r3.snd.snd.fst.ends (RM.mk (none) false 0 false)))),(Row.mk 0 (some (RC.mk 64 RK.hnet r3.snd.snd.fst.net (RM.mk (none) false 0 false))))] [(Box.mk (Min.min 0 1) (some [(Cm.d (D.r RK.u8 r6.snd.b)),(mi r6.snd.p)])),(Box.mk 1 (some [(mi 0),(mi 0),(mi 0),(mi 0),(mi 0),(Cm.d (D.r RK.hend ([]:(List EndN)))),(Cm.d (D.r RK.hnet ([]:(List Nat)))),(mi 0)])),(Box.mk 0 none),(Box.mk (Min.min 1 1) (some [(mi r3.snd.snd.fst.cfg.mode),(mi r3.snd.snd.fst.cfg.win),(mi r3.snd.snd.fst.cfg.mps),(mi r3.snd.snd.fst.cfg.mtu),(mi r3.snd.snd.fst.cfg.try_),(Cm.ref 0 0),(Cm.ref 1 0),(mi r3.snd.snd.fst.link)]))])=(k_ba2631 s))∧(((s.snd.fst.ends.length=2)∧((s.snd.fst.net.length=2)∧((0≤s.snd.snd)∧((s.snd.snd < 2)∧((at_hnet s.snd.fst.net s.snd.snd.toNat)≤31)))))∧((∀ r7:(Prod RdS WldN),((r7.fst=s.fst)∧(r7.snd.ends.length=2))→Tt (K [(Arg.v true [(ai r7.snd.cfg.mode),(ai r7.snd.cfg.win),(ai r7.snd.cfg.mps),(ai r7.snd.cfg.mtu),(ai r7.snd.cfg.try_),(AC.d (D.r RK.hend r7.snd.ends)),(AC.d (D.r RK.hnet r7.snd.net)),(ai r7.snd.link)])] [[(AC.d (D.r RK.u8 r7.fst.b)),(ai r7.fst.p)]]))∧(∀ r7:Empty,False→False)))) else (if ((r6.fst == 9)=true) then (((0≤r5.fst)∧(r5.fst < ((r3.snd.snd.fst.net.length:Nat):Int)))∧((((0:Int)≤(16:Int))∧(((16:Int)=(16:Int))∧(16≤137438953472)))∧(Tt (((((RK.u8=RK.u8)∧(16≤1000))∧True)∧True)∧(Tt ((((at_hnet r3.snd.snd.fst.net r5.fst.toNat) + 1)≤137438953472)∧(Tt (((0≤r5.fst)∧(r5.fst < ((r3.snd.snd.fst.net.length:Nat):Int)))∧(Tt (Tt (K [(Arg.v true [(ai r3.snd.snd.fst.cfg.mode),(ai r3.snd.snd.fst.cfg.win),(ai r3.snd.snd.fst.cfg.mps),(ai r3.snd.snd.fst.cfg.mtu),(ai r3.snd.snd.fst.cfg.try_),(AC.d (D.r RK.hend r3.snd.snd.fst.ends)),(AC.d (D.r RK.hnet (List.set r3.snd.snd.fst.net r5.fst.toNat ((at_hnet r3.snd.snd.fst.net r5.fst.toNat) + 1)))),(ai r3.snd.snd.fst.link)])] [[(AC.d (D.r RK.u8 r6.snd.b)),(ai r6.snd.p)]]))))))))))) else (if ((r6.fst == 10)=true) then (((0≤r5.fst)∧(r5.fst < ((r3.snd.snd.fst.ends.length:Nat):Int)))∧((((0:Int)≤(25:Int))∧(((25:Int)=(25:Int))∧(25≤137438953472)))∧(Tt (((((RK.u8=RK.u8)∧(25≤1000))∧True)∧True)∧(Tt ((((at_hend r3.snd.snd.fst.ends r5.fst.toNat).got + 1)≤137438953472)∧(Tt (((0≤r5.fst)∧(r5.fst < ((r3.snd.snd.fst.ends.length:Nat):Int)))∧(Tt (Tt (K [(Arg.v true [(ai r3.snd.snd.fst.cfg.mode),(ai r3.snd.snd.fst.cfg.win),(ai r3.snd.snd.fst.cfg.mps),(ai r3.snd.snd.fst.cfg.mtu),(ai r3.snd.snd.fst.cfg.try_),(AC.d (D.r RK.hend (List.set r3.snd.snd.fst.ends r5.fst.toNat (EndN.mk (at_hend r3.snd.snd.fst.ends r5.fst.toNat).tx (at_hend r3.snd.snd.fst.ends r5.fst.toNat).rx (at_hend r3.snd.snd.fst.ends r5.fst.toNat).ctx (at_hend r3.snd.snd.fst.ends r5.fst.toNat).crx (at_hend r3.snd.snd.fst.ends r5.fst.toNat).put ((at_hend r3.snd.snd.fst.ends r5.fst.toNat).got + 1))))),(AC.d (D.r RK.hnet r3.snd.snd.fst.net)),(ai r3.snd.snd.fst.link)])] [[(AC.d (D.r RK.u8 r6.snd.b)),(ai r6.snd.p)]]))))))))))) else (∃ s:(Prod RdS (Prod WldN Int)),((KS.mk true [(Prod.mk 0 (T.pb 0 0 0)),(Prod.mk 4 (T.pb 1 1 0)),(Prod.mk 7 (T.pb 3 1 0)),(Prod.mk 8 (num IntKind.i64 r5.fst))] [(Row.mk 0 (some (RC.mk 44 RK.hend r3.snd.snd.fst.ends (RM.mk (none) false 0 false)))),(Row.mk 0 (some (RC.mk 64 RK.hnet r3.snd.snd.fst.net (RM.mk (none) false 0 false))))] [(Box.mk (Min.min 0 1) (some [(Cm.d (D.r RK.u8 r6.snd.b)),(mi r6.snd.p)])),(Box.mk 1 (some [(mi 0),(mi 0),(mi 0),(mi 0),(mi 0),(Cm.d (D.r RK.hend ([]:(List EndN)))),(Cm.d (D.r RK.hnet ([]:(List Nat)))),(mi 0)])),(Box.mk 0 none),(Box.mk (Min.min 1 1) (some [(mi r3.snd.snd.fst.cfg.mode),(mi r3.snd.snd.fst.cfg.win),(mi r3.snd.snd.fst.cfg.mps),(mi r3.snd.snd.fst.cfg.mtu),(mi r3.snd.snd.fst.cfg.try_),(Cm.ref 0 0),(Cm.ref 1 0),(mi r3.snd.snd.fst.link)]))])=(k_ba2631 s))∧(((s.snd.fst.ends.length=2)∧((0≤s.snd.snd)∧((s.snd.snd < 2)∧((at_hend s.snd.fst.ends s.snd.snd.toNat).put≤61))))∧((∀ r7:(Prod RdS WldN),((r7.fst=s.fst)∧(r7.snd.ends.length=2))→Tt (K [(Arg.v true [(ai r7.snd.cfg.mode),(ai r7.snd.cfg.win),(ai r7.snd.cfg.mps),(ai r7.snd.cfg.mtu),(ai r7.snd.cfg.try_),(AC.d (D.r RK.hend r7.snd.ends)),(AC.d (D.r RK.hnet r7.snd.net)),(ai r7.snd.link)])] [[(AC.d (D.r RK.u8 r7.fst.b)),(ai r7.fst.p)]]))∧(∀ r7:Empty,False→False))))))))))))))))))))) else (Tt (K [(Arg.v true [(ai r3.snd.snd.fst.cfg.mode),(ai r3.snd.snd.fst.cfg.win),(ai r3.snd.snd.fst.cfg.mps),(ai r3.snd.snd.fst.cfg.mtu),(ai r3.snd.snd.fst.cfg.try_),(AC.d (D.r RK.hend r3.snd.snd.fst.ends)),(AC.d (D.r RK.hnet r3.snd.snd.fst.net)),(ai r3.snd.snd.fst.link)])] [[(AC.d (D.r RK.u8 r4.snd.b)),(ai r4.snd.p)]])))))))))))))) := by
  have hkk := fun a1_ a2_ a3_ a4_ a5_ a6_ a7_ a8_ a9_ a10_ h_ => hk ⟨⟨a1_, a2_, a3_, a4_, a5_⟩, a6_, a7_, a8_⟩ ⟨a9_, a10_⟩ h_
  dsimp only [rS, rdC, List.map, rWldND, wldNC] at hkk
  have g1 := hp.1.1
  obtain ⟨b, p⟩ := r
  try dsimp only at *
  try simp only [PkQ, PkQ, RdOk, RdOn] at *
  try simp (disch := omega) only [wr]
  repeat' first
    | exact rfl
    | exact True.intro
    | (intro ⟨c_, o_, w_, b_, p_⟩ ⟨⟨e_, h1_, h2_⟩, hw_⟩
       try dsimp only at e_
       cases e_
       try dsimp only at h1_ h2_ hw_
       have hl1_ := hw_.el
       have hl2_ := hw_.nl)
    | (intro ⟨⟨b_, p_⟩, w2_⟩ ⟨e_, hl_⟩
       try dsimp only at e_
       cases e_
       try dsimp only at hl_)
    | exact fun (r_ : Empty) => r_.elim
    | with_reducible apply And.intro
    | (intro ⟨x_, b_, p_⟩ ⟨e_, h1_, h2_, h3_⟩
       try dsimp only at e_
       cases e_
       try dsimp only at h1_ h2_ h3_)
    | (intro ⟨x_, b_, p_⟩ ⟨⟨e_, h1_, h2_⟩, h3_⟩
       try dsimp only at e_
       cases e_
       try dsimp only at h1_ h2_ h3_)
    | (with_reducible intro y_ hy_; subst hy_)
    | with_reducible intro y_
    | (refine iteI (fun h => ?_) (fun h => ?_))
    | refine ⟨(⟨_, _⟩, ⟨⟨_, _, _, _, _⟩, _, _, _⟩, _), rfl, ?_⟩
    | refine ⟨(⟨_, _⟩, ⟨⟨_, _, _, _, _⟩, _, _, _⟩), rfl, ?_⟩
    | (dsimp only; refine ⟨(⟨_, _⟩, ⟨⟨_, _, _, _, _⟩, _, _, _⟩, _), rfl, ?_⟩)
    | (dsimp only; refine ⟨(⟨_, _⟩, ⟨⟨_, _, _, _, _⟩, _, _, _⟩), rfl, ?_⟩)
    | refine ⟨n - 1, ?_⟩
    | fail
  all_goals try simp only [cq1, cq2, cq3, cq4, cq5, cq6, cq7, cq8, cq9, cq10, cq11, cq12, cq13, cq14, cq15, cq16, cq17, cq18, cq19, PkQ, RdOk, RdOn] at *
  all_goals try simp (disch := omega) only [wr] at *
  all_goals first
    | with_reducible assumption
    | omega
    | (apply WldI.cfg; assumption)
    | exact Nat.le_trans (WldI.nn ‹_› _) (by decide)
    | exact Nat.le_trans (WldI.en ‹_› _).2.2.2.2.2.1 (by decide)
    | exact Nat.le_trans (Nat.add_le_add_right (WldI.en ‹_› _).2.2.2.2.2.2 1) (by decide)
    | exact Nat.le_trans (Nat.add_le_add_right (WldI.nn ‹_› _) 1) (by decide)
    | assumption
    | exact (wr8_in _).1
    | exact (wr8_in _).2
    | (refine hkk _ _ _ _ _ _ _ _ _ _ ?_
       try dsimp only
       repeat' first | with_reducible apply And.intro | with_reducible intro _
       all_goals first | rfl | assumption | omega | exact Nat.le_trans (List.length_take_le _ _) (by omega) | exact Nat.le_of_eq (lenE_set (by assumption)) | exact Nat.le_of_eq (by assumption) | (simp only [List.length_drop]; omega) | (simp; omega) | grind [])
    | (simp only [LIM, HL] at *; omega)
    | grind [RdOk, RdOn, LIM, HL]
    | assumption
set_option maxRecDepth 40000 in
theorem vL_spec_l20World_3 (r0:RdS) (w0:WldN) (k0:Int) (r:RdS) (w:WldN) (k:Int) (n:Nat) (hp:(fun (r:RdS) (w:WldN) (k:Int) => (w.ends.length=2∧w.net.length=2∧0≤k∧k < 2∧at_hnet w.net k.toNat≤31)) r0 w0 k0) (hi:r=r0∧k=k0∧w.ends.length=2∧w.net.length=2∧0≤k∧k < 2∧n + at_hnet w.net k.toNat=31):((0≤k)∧(k < ((w.net.length:Nat):Int)))∧(if ((decide ((((at_hnet w.net k.toNat):Nat):Int)≤(30:Int)))=true) then (((0≤k)∧(k < ((w.net.length:Nat):Int)))∧(((((RK.u8=RK.u8)∧(0≤1000))∧True)∧True)∧(Tt ((((at_hnet w.net k.toNat) + 1)≤137438953472)∧(Tt (((0≤k)∧(k < ((w.net.length:Nat):Int)))∧(Tt (∃ s:(Prod RdS (Prod WldN Int)),((KS.mk true [(Prod.mk 0 (T.pb 0 0 0)),(Prod.mk 4 (T.pb 1 1 0)),(Prod.mk 7 (T.pb 3 1 0)),(Prod.mk 8 (num IntKind.i64 k))] [(Row.mk 0 (some (RC.mk 44 RK.hend w.ends (RM.mk (none) false 0 false)))),(Row.mk 0 (some (RC.mk 64 RK.hnet (List.set w.net k.toNat ((at_hnet w.net k.toNat) + 1)) (RM.mk (none) false 0 false))))] [(Box.mk (Min.min 0 1) (some [(Cm.d (D.r RK.u8 r.b)),(mi r.p)])),(Box.mk 1 (some [(mi 0),(mi 0),(mi 0),(mi 0),(mi 0),(Cm.d (D.r RK.hend ([]:(List EndN)))),(Cm.d (D.r RK.hnet ([]:(List Nat)))),(mi 0)])),(Box.mk 0 none),(Box.mk (Min.min 1 1) (some [(mi w.cfg.mode),(mi w.cfg.win),(mi w.cfg.mps),(mi w.cfg.mtu),(mi w.cfg.try_),(Cm.ref 0 0),(Cm.ref 1 0),(mi w.link)]))])=(k_ba2631 s))∧(∃ m:Nat,(m < n)∧((s.fst=r0)∧((s.snd.snd=k0)∧((s.snd.fst.ends.length=2)∧((s.snd.fst.net.length=2)∧((0≤s.snd.snd)∧((s.snd.snd < 2)∧((m + (at_hnet s.snd.fst.net s.snd.snd.toNat))=31)))))))))))))))) else (∃ r1:(Prod RdS WldN),((KS.mk true [(Prod.mk 0 (T.pb 0 0 0)),(Prod.mk 4 (T.pb 1 1 0)),(Prod.mk 7 (T.pb 3 1 0))] [(Row.mk 0 (some (RC.mk 44 RK.hend w.ends (RM.mk (none) false 0 false)))),(Row.mk 0 (some (RC.mk 64 RK.hnet w.net (RM.mk (none) false 0 false))))] [(Box.mk (Min.min 0 1) (some [(Cm.d (D.r RK.u8 r.b)),(mi r.p)])),(Box.mk 1 (some [(mi 0),(mi 0),(mi 0),(mi 0),(mi 0),(Cm.d (D.r RK.hend ([]:(List EndN)))),(Cm.d (D.r RK.hnet ([]:(List Nat)))),(mi 0)])),(Box.mk 0 none),(Box.mk (Min.min 1 1) (some [(mi w.cfg.mode),(mi w.cfg.win),(mi w.cfg.mps),(mi w.cfg.mtu),(mi w.cfg.try_),(Cm.ref 0 0),(Cm.ref 1 0),(mi w.link)]))])=(k_46b6e5 r1))∧((r1.fst=r0)∧(r1.snd.ends.length=2)))) := by
  try dsimp only at hp
  obtain ⟨e0, e1, h1, h2, h3, h4, h5⟩ := hi
  cases e0
  cases e1
  obtain ⟨wc, es, ns, wl⟩ := w
  try dsimp only at *
  try simp only [PkQ, PkQ, RdOk, RdOn] at *
  try simp (disch := omega) only [wr]
  repeat' first
    | exact rfl
    | exact True.intro
    | with_reducible apply And.intro
    | (intro ⟨x_, b_, p_⟩ ⟨e_, h1_, h2_, h3_⟩
       try dsimp only at e_
       cases e_
       try dsimp only at h1_ h2_ h3_)
    | (intro ⟨x_, b_, p_⟩ ⟨⟨e_, h1_, h2_⟩, h3_⟩
       try dsimp only at e_
       cases e_
       try dsimp only at h1_ h2_ h3_)
    | (with_reducible intro y_ hy_; subst hy_)
    | with_reducible intro y_
    | (refine iteI (fun h => ?_) (fun h => ?_))
    | refine ⟨(⟨_, _⟩, ⟨⟨_, _, _, _, _⟩, _, _, _⟩, _), rfl, ?_⟩
    | refine ⟨(⟨_, _⟩, ⟨⟨_, _, _, _, _⟩, _, _, _⟩), rfl, ?_⟩
    | (dsimp only; refine ⟨(⟨_, _⟩, ⟨⟨_, _, _, _, _⟩, _, _, _⟩, _), rfl, ?_⟩)
    | (dsimp only; refine ⟨(⟨_, _⟩, ⟨⟨_, _, _, _, _⟩, _, _, _⟩), rfl, ?_⟩)
    | refine ⟨n - 1, ?_⟩
    | fail
  all_goals try simp only [cq1, cq2, cq3, cq4, cq5, cq6, cq7, cq8, cq9, cq10, cq11, cq12, cq13, cq14, cq15, cq16, cq17, cq18, cq19, PkQ, RdOk, RdOn] at *
  all_goals try simp (disch := omega) only [wr] at *
  all_goals try simp (disch := omega) only [hnet_self, hend_self] at *
  all_goals first
    | with_reducible assumption
    | omega
    | exact (congrArg (fun z : Nat => n - 1 + z) (hnet_self (by omega))).trans (by (try dsimp only); omega)
    | exact (congrArg (fun z : EndN => n - 1 + z.put) (hend_self (by omega))).trans (by (try dsimp only); omega)
    | exact lenN_set (by assumption)
    | exact lenE_set (by assumption)
    | assumption
    | exact (wr8_in _).1
    | exact (wr8_in _).2
    | (refine hk ?_
       try dsimp only
       repeat' first | with_reducible apply And.intro | with_reducible intro _
       all_goals first | rfl | assumption | omega | grind [])
    | (simp only [LIM, HL] at *; omega)
    | grind [RdOk, RdOn, LIM, HL]
    | assumption
theorem vS_spec_l20World_3 (r0 : RdS) (w0 : WldN) (k0 : Int) (hp : (fun (r : RdS) (w : WldN) (k : Int) => (w.ends.length = 2 ∧ w.net.length = 2 ∧ 0 ≤ k ∧ k < 2 ∧ at_hnet w.net k.toNat ≤ 31)) r0 w0 k0) : ∃ n : Nat, (fun (r : RdS) (w : WldN) (k : Int) => (r = r0 ∧ k = k0 ∧ w.ends.length = 2 ∧ w.net.length = 2 ∧ 0 ≤ k ∧ k < 2 ∧ n + at_hnet w.net k.toNat = 31)) r0 w0 k0 := by
  try dsimp only at hp
  try dsimp only
  exact ⟨31 - at_hnet w0.net k0.toNat, rfl, rfl, hp.1, hp.2.1, hp.2.2.1, hp.2.2.2.1, by omega⟩
set_option maxRecDepth 40000 in
theorem vL_spec_l20World_1 (r0:RdS) (w0:WldN) (k0:Int) (r:RdS) (w:WldN) (k:Int) (n:Nat) (hp:(fun (r:RdS) (w:WldN) (k:Int) => (w.ends.length=2∧0≤k∧k < 2∧(at_hend w.ends k.toNat).put≤61)) r0 w0 k0) (hi:r=r0∧k=k0∧w.ends.length=2∧0≤k∧k < 2∧n + (at_hend w.ends k.toNat).put=61):((0≤k)∧(k < ((w.ends.length:Nat):Int)))∧(if ((decide ((((at_hend w.ends k.toNat).put:Nat):Int)≤(60:Int)))=true) then (((0≤k)∧(k < ((w.ends.length:Nat):Int)))∧((((((0:Int)≤(1:Int))∧((1:Int)≤(255:Int)))∧True)∧True)∧(Tt (((((RK.u8=RK.u8)∧(1≤1000))∧True)∧True)∧(Tt ((((at_hend w.ends k.toNat).put + 1)≤137438953472)∧(Tt (((0≤k)∧(k < ((w.ends.length:Nat):Int)))∧(Tt (∃ s:(Prod RdS (Prod WldN Int)),((KS.mk true [(Prod.mk 0 (T.pb 0 0 0)),(Prod.mk 4 (T.pb 1 1 0)),(Prod.mk 7 (T.pb 3 1 0)),(Prod.mk 8 (num IntKind.i64 k))] [(Row.mk 0 (some (RC.mk 44 RK.hend (List.set w.ends k.toNat (EndN.mk (at_hend w.ends k.toNat).tx (at_hend w.ends k.toNat).rx (at_hend w.ends k.toNat).ctx (at_hend w.ends k.toNat).crx ((at_hend w.ends k.toNat).put + 1) (at_hend w.ends k.toNat).got)) (RM.mk (none) false 0 false)))),(Row.mk 0 (some (RC.mk 64 RK.hnet w.net (RM.mk (none) false 0 false))))] [(Box.mk (Min.min 0 1) (some [(Cm.d (D.r RK.u8 r.b)),(mi r.p)])),(Box.mk 1 (some [(mi 0),(mi 0),(mi 0),(mi 0),(mi 0),(Cm.d (D.r RK.hend ([]:(List EndN)))),(Cm.d (D.r RK.hnet ([]:(List Nat)))),(mi 0)])),(Box.mk 0 none),(Box.mk (Min.min 1 1) (some [(mi w.cfg.mode),(mi w.cfg.win),(mi w.cfg.mps),(mi w.cfg.mtu),(mi w.cfg.try_),(Cm.ref 0 0),(Cm.ref 1 0),(mi w.link)]))])=(k_ba2631 s))∧(∃ m:Nat,(m < n)∧((s.fst=r0)∧((s.snd.snd=k0)∧((s.snd.fst.ends.length=2)∧((0≤s.snd.snd)∧((s.snd.snd < 2)∧((m + (at_hend s.snd.fst.ends s.snd.snd.toNat).put)=61))))))))))))))))) else (∃ r1:(Prod RdS WldN),((KS.mk true [(Prod.mk 0 (T.pb 0 0 0)),(Prod.mk 4 (T.pb 1 1 0)),(Prod.mk 7 (T.pb 3 1 0))] [(Row.mk 0 (some (RC.mk 44 RK.hend w.ends (RM.mk (none) false 0 false)))),(Row.mk 0 (some (RC.mk 64 RK.hnet w.net (RM.mk (none) false 0 false))))] [(Box.mk (Min.min 0 1) (some [(Cm.d (D.r RK.u8 r.b)),(mi r.p)])),(Box.mk 1 (some [(mi 0),(mi 0),(mi 0),(mi 0),(mi 0),(Cm.d (D.r RK.hend ([]:(List EndN)))),(Cm.d (D.r RK.hnet ([]:(List Nat)))),(mi 0)])),(Box.mk 0 none),(Box.mk (Min.min 1 1) (some [(mi w.cfg.mode),(mi w.cfg.win),(mi w.cfg.mps),(mi w.cfg.mtu),(mi w.cfg.try_),(Cm.ref 0 0),(Cm.ref 1 0),(mi w.link)]))])=(k_46b6e5 r1))∧((r1.fst=r0)∧(r1.snd.ends.length=2)))) := by
  try dsimp only at hp
  obtain ⟨e0, e1, h1, h2, h3, h4⟩ := hi
  cases e0
  cases e1
  obtain ⟨wc, es, ns, wl⟩ := w
  try dsimp only at *
  try simp only [PkQ, PkQ, RdOk, RdOn] at *
  try simp (disch := omega) only [wr]
  repeat' first
    | exact rfl
    | exact True.intro
    | with_reducible apply And.intro
    | (intro ⟨x_, b_, p_⟩ ⟨e_, h1_, h2_, h3_⟩
       try dsimp only at e_
       cases e_
       try dsimp only at h1_ h2_ h3_)
    | (intro ⟨x_, b_, p_⟩ ⟨⟨e_, h1_, h2_⟩, h3_⟩
       try dsimp only at e_
       cases e_
       try dsimp only at h1_ h2_ h3_)
    | (with_reducible intro y_ hy_; subst hy_)
    | with_reducible intro y_
    | (refine iteI (fun h => ?_) (fun h => ?_))
    | refine ⟨(⟨_, _⟩, ⟨⟨_, _, _, _, _⟩, _, _, _⟩, _), rfl, ?_⟩
    | refine ⟨(⟨_, _⟩, ⟨⟨_, _, _, _, _⟩, _, _, _⟩), rfl, ?_⟩
    | (dsimp only; refine ⟨(⟨_, _⟩, ⟨⟨_, _, _, _, _⟩, _, _, _⟩, _), rfl, ?_⟩)
    | (dsimp only; refine ⟨(⟨_, _⟩, ⟨⟨_, _, _, _, _⟩, _, _, _⟩), rfl, ?_⟩)
    | refine ⟨n - 1, ?_⟩
    | fail
  all_goals try simp only [cq1, cq2, cq3, cq4, cq5, cq6, cq7, cq8, cq9, cq10, cq11, cq12, cq13, cq14, cq15, cq16, cq17, cq18, cq19, PkQ, RdOk, RdOn] at *
  all_goals try simp (disch := omega) only [wr] at *
  all_goals try simp (disch := omega) only [hnet_self, hend_self] at *
  all_goals first
    | with_reducible assumption
    | omega
    | exact (congrArg (fun z : Nat => n - 1 + z) (hnet_self (by omega))).trans (by (try dsimp only); omega)
    | exact (congrArg (fun z : EndN => n - 1 + z.put) (hend_self (by omega))).trans (by (try dsimp only); omega)
    | exact lenN_set (by assumption)
    | exact lenE_set (by assumption)
    | assumption
    | exact (wr8_in _).1
    | exact (wr8_in _).2
    | (refine hk ?_
       try dsimp only
       repeat' first | with_reducible apply And.intro | with_reducible intro _
       all_goals first | rfl | assumption | omega | grind [])
    | (simp only [LIM, HL] at *; omega)
    | grind [RdOk, RdOn, LIM, HL]
    | assumption
theorem vS_spec_l20World_1 (r0 : RdS) (w0 : WldN) (k0 : Int) (hp : (fun (r : RdS) (w : WldN) (k : Int) => (w.ends.length = 2 ∧ 0 ≤ k ∧ k < 2 ∧ (at_hend w.ends k.toNat).put ≤ 61)) r0 w0 k0) : ∃ n : Nat, (fun (r : RdS) (w : WldN) (k : Int) => (r = r0 ∧ k = k0 ∧ w.ends.length = 2 ∧ 0 ≤ k ∧ k < 2 ∧ n + (at_hend w.ends k.toNat).put = 61)) r0 w0 k0 := by
  try dsimp only at hp
  try dsimp only
  exact ⟨61 - (at_hend w0.ends k0.toNat).put, rfl, rfl, hp.1, hp.2.1, hp.2.2.1, by omega⟩
theorem w_spec_l20World : Valid Try.prog 8 c_spec_l20World :=
  valid_ctr2 (V := V_spec_l20World) (tysB_ok tys2_ok) ⟨(CallsL.cons w_spec_l20Play (CallsL.cons w_spec_l20Rd_pick (CallsL.cons w_spec_l20Rd_odd (CallsL.cons w_spec_l20Cfg (CallsL.cons w_spec_l20Tx (CallsL.cons w_spec_l20Rx (CallsL.cons w_spec_l20Ctx (CallsL.cons w_spec_l20Crx (CallsL.nil _))))))))), (IosL.nil _)⟩ mixed 2 3 Try.func8 rfl (by kernel_rfl)
    (fun c hc => by
      obtain rfl := Option.some.inj hc
      exact ⟨trivial, ⟨trivial, ⟨⟨trivial, ⟨⟨trivial, ⟨trivial, ⟨trivial, ⟨trivial, ⟨trivial, ⟨trivial, ⟨trivial, ⟨trivial, ⟨trivial, ⟨trivial, ⟨trivial, ⟨trivial, ⟨trivial, ⟨trivial, ⟨trivial, ⟨trivial, ⟨trivial, ⟨trivial, ⟨trivial, ⟨⟨LoopD.ok2 (V := V_spec_l20World) l_spec_l20World_3 (LoopsM.cons 3 l_spec_l20World_3 (LoopsM.cons 1 l_spec_l20World_1 LoopsM.nil)) 3 _ i_spec_l20World_3 (fun x hx => vS_spec_l20World_3 x.1 x.2.1 x.2.2 hx) (fun x hx n s hi => ⟨_, by kernel_rfl, vL_spec_l20World_3 x.1 x.2.1 x.2.2 s.1 s.2.1 s.2.2 n hx hi⟩), ⟨⟨trivial, ⟨trivial, trivial⟩⟩, trivial⟩⟩, ⟨trivial, ⟨trivial, ⟨trivial, ⟨trivial, ⟨LoopD.ok2 (V := V_spec_l20World) l_spec_l20World_1 (LoopsM.cons 3 l_spec_l20World_3 (LoopsM.cons 1 l_spec_l20World_1 LoopsM.nil)) 1 _ i_spec_l20World_1 (fun x hx => vS_spec_l20World_1 x.1 x.2.1 x.2.2 hx) (fun x hx n s hi => ⟨_, by kernel_rfl, vL_spec_l20World_1 x.1 x.2.1 x.2.2 s.1 s.2.1 s.2.2 n hx hi⟩), ⟨⟨trivial, ⟨trivial, trivial⟩⟩, trivial⟩⟩⟩⟩⟩⟩⟩⟩⟩⟩⟩⟩⟩⟩⟩⟩⟩⟩⟩⟩⟩⟩⟩⟩⟩⟩, trivial⟩⟩, ⟨trivial, trivial⟩⟩⟩⟩)
    (fun x K hp hk => ⟨_, by kernel_rfl, vF_spec_l20World x.1 x.2 K hp (fun w q h => hk (w, q) h)⟩)
theorem vF_spec_DrawWldDead (l:List Int) (K:List Arg→List (List AC)→Prop) (hp:Bytes l) (hk:∀ (w:WldN),(w.ends.length≤2)→K ([rWldND.to w]) ([])):Tt ((Bytes l)∧(∀ r:RdS,(r=(RdS.mk (List.take 2000 l) (0:Int)))→Tt (Tt ((((Bytes r.b)∧((r.b.length≤2000)∧((0≤r.p)∧(r.p≤5000000))))∧((6:Int)≤(1000:Int)))∧(∀ r1:(Prod WldN RdS),((RdOn r r1.snd (1000000:Int))∧(r1.fst.ends.length≤2))→Tt (Tt (K [(Arg.v true [(ai r1.fst.cfg.mode),(ai r1.fst.cfg.win),(ai r1.fst.cfg.mps),(ai r1.fst.cfg.mtu),(ai r1.fst.cfg.try_),(AC.d (D.r RK.hend r1.fst.ends)),(AC.d (D.r RK.hnet r1.fst.net)),(ai r1.fst.link)])] []))))))) := by
  refine ⟨rfl, hp, fun r hr => ?_⟩
  subst hr
  refine ⟨rfl, rfl, ⟨⟨hp.take 2000, by simp; omega, by simp, by simp⟩, by decide⟩, fun r1 h1 => ⟨rfl, rfl, ?_⟩⟩
  exact hk r1.1 h1.2
theorem w_spec_DrawWldDead : Valid Try.prog 4 c_spec_DrawWldDead :=
  valid_ctr2 (V := V_spec_DrawWldDead) (tysB_ok tys2_ok) ⟨(CallsL.cons w_spec_l20World (CallsL.cons w_spec_l20Open (CallsL.nil _))), (IosL.nil _)⟩ mixed 0 2 Try.func4 rfl (by kernel_rfl)
    (fun c hc => by
      obtain rfl := Option.some.inj hc
      exact ⟨trivial, ⟨trivial, trivial⟩⟩)
    (fun x K hp hk => ⟨_, by kernel_rfl, vF_spec_DrawWldDead x K hp (fun w h => hk w h)⟩)
end Go.Proofs.YtjjcjpmfkbfdfaaE
