/- A part of the proof of laws of the program: what calls of the program answer. Conditions: none. -/
import Derived.Test.YtjjplncopjimdaaMf83cecfd
set_option linter.unusedVariables false
set_option linter.unusedSimpArgs false
set_option linter.unusedSectionVars false
/- Contracts: Y4. Conditions: none. -/
set_option linter.unusedVariables false
set_option maxHeartbeats 1600000
namespace Go.Proofs.YtjjplncopjimdaaE
open Go
/-! spec.l9End -/
def c_spec_l9End : Ent := ctr (α := (Cfg) × (EndS)) (ρ := (Bool)) [] [] (rs rCfg (rs1 rEnd)) (fun x_ => (fun (c : Cfg) (e : EndS) => (EndM 1048576 e)) x_.1 x_.2) (fun x_ r_ => (fun x_ => (fun (c : Cfg) (e : EndS) => ((fun r_ => (fun (r : Bool) => (r = decide (EndP c e))) r_))) x_.1 x_.2) x_ r_) (fun r_ => (fun (r : Bool) => ([rB.to r])) r_) (fun r_ => (fun (r : Bool) => ([])) r_)
def l_spec_l9End_0 : LoopD ((Cfg) × (EndS) × (Int)) ((Cfg) × (EndS)) ((Unit)) where
  n := 71
  head := ⟨[2, 3, 5], [0, 1], []⟩
  st := fun x_ => (fun (c : Cfg) (e : EndS) (k : Int) => (⟨true, [(2, .pb 0 1 0), (3, .pb 1 1 0), (5, num .i64 k)], [], [⟨1, some ((cfgC c).map .d)⟩, ⟨1, some ((RK.cells .wend e).map .d)⟩]⟩)) x_.1 x_.2.1 x_.2.2
  pre := fun x_ => (fun (c : Cfg) (e : EndS) (k : Int) => (e.put.length ≤ 60 ∧ k = 0)) x_.1 x_.2.1 x_.2.2
  nk := ⟨[2, 3], [0, 1], []⟩
  nst := fun r_ => (fun (c : Cfg) (e : EndS) => (⟨true, [(2, .pb 0 1 0), (3, .pb 1 1 0)], [], [⟨1, some ((cfgC c).map .d)⟩, ⟨1, some ((RK.cells .wend e).map .d)⟩]⟩)) r_.1 r_.2
  npost := fun x_ r_ => (fun x_ => (fun (c0 : Cfg) (e0 : EndS) (k0 : Int) => ((fun r_ => (fun (c : Cfg) (e : EndS) => (c = c0 ∧ e = e0 ∧ e0.put.any bigB = false)) r_.1 r_.2))) x_.1 x_.2.1 x_.2.2) x_ r_
  rk := ⟨[4], [], []⟩
  rst := fun r_ => (fun (u : Unit) => (⟨true, [(4, boo false)], [], [⟨0, none⟩, ⟨0, none⟩]⟩)) r_
  rpost := fun x_ r_ => (fun x_ => (fun (c0 : Cfg) (e0 : EndS) (k0 : Int) => ((fun r_ => (fun (u : Unit) => (e0.put.any bigB = true)) r_))) x_.1 x_.2.1 x_.2.2) x_ r_
def i_spec_l9End_0 (x : (Cfg) × (EndS) × (Int)) (n : Nat) (s : (Cfg) × (EndS) × (Int)) : Prop := (fun x_ => (fun (c0 : Cfg) (e0 : EndS) (k0 : Int) => ((fun s_ => (fun (c : Cfg) (e : EndS) (k : Int) => (c = c0 ∧ e = e0 ∧ e.put.length ≤ 60 ∧ 0 ≤ k ∧ k + n = e.put.length ∧ (e.put.take k.toNat).any bigB = false)) s_.1 s_.2.1 s_.2.2))) x_.1 x_.2.1 x_.2.2) x s
def l_spec_l9End_2 : LoopD ((Cfg) × (EndS) × (Int)) ((Unit)) ((Unit)) where
  n := 71
  head := ⟨[2, 3, 6], [0, 1], []⟩
  st := fun x_ => (fun (c : Cfg) (e : EndS) (k : Int) => (⟨true, [(2, .pb 0 1 0), (3, .pb 1 1 0), (6, num .i64 k)], [], [⟨1, some ((cfgC c).map .d)⟩, ⟨1, some ((RK.cells .wend e).map .d)⟩]⟩)) x_.1 x_.2.1 x_.2.2
  pre := fun x_ => (fun (c : Cfg) (e : EndS) (k : Int) => (e.got.length ≤ 60 ∧ k = 0)) x_.1 x_.2.1 x_.2.2
  nk := ⟨[], [], []⟩
  nst := fun r_ => (fun (u : Unit) => (⟨true, [], [], [⟨0, none⟩, ⟨0, none⟩]⟩)) r_
  npost := fun x_ r_ => (fun x_ => (fun (c0 : Cfg) (e0 : EndS) (k0 : Int) => ((fun r_ => (fun (u : Unit) => (e0.got.any bigB = false)) r_))) x_.1 x_.2.1 x_.2.2) x_ r_
  rk := ⟨[4], [], []⟩
  rst := fun r_ => (fun (u : Unit) => (⟨true, [(4, boo false)], [], [⟨0, none⟩, ⟨0, none⟩]⟩)) r_
  rpost := fun x_ r_ => (fun x_ => (fun (c0 : Cfg) (e0 : EndS) (k0 : Int) => ((fun r_ => (fun (u : Unit) => (e0.got.any bigB = true)) r_))) x_.1 x_.2.1 x_.2.2) x_ r_
def i_spec_l9End_2 (x : (Cfg) × (EndS) × (Int)) (n : Nat) (s : (Cfg) × (EndS) × (Int)) : Prop := (fun x_ => (fun (c0 : Cfg) (e0 : EndS) (k0 : Int) => ((fun s_ => (fun (c : Cfg) (e : EndS) (k : Int) => (c = c0 ∧ e = e0 ∧ e.got.length ≤ 60 ∧ 0 ≤ k ∧ k + n = e.got.length ∧ (e.got.take k.toNat).any bigB = false)) s_.1 s_.2.1 s_.2.2))) x_.1 x_.2.1 x_.2.2) x s
def V_spec_l9End : Env := ⟨tys, [(36, c_spec_TxOk), (37, c_spec_RxOk), (38, c_spec_CrdTxOk), (39, c_spec_CrdRxOk)], [], [(2, 0), (3, 1)], [], [(0, l_spec_l9End_0.L), (2, l_spec_l9End_2.L)], [500012, 500018, 500025, 500031, 500037], [], []⟩
/-! spec.WldOk -/
def c_spec_WldOk : Ent := ctr (α := (WldS)) (ρ := (Bool)) [] [] (rs1 rWld) (fun x_ => (fun (w : WldS) => (WldM 1048576 w)) x_) (fun x_ r_ => (fun x_ => (fun (w : WldS) => ((fun r_ => (fun (r : Bool) => (r = decide (WldP w))) r_))) x_) x_ r_) (fun r_ => (fun (r : Bool) => ([rB.to r])) r_) (fun r_ => (fun (r : Bool) => ([])) r_)
def l_spec_WldOk_0 : LoopD ((WldS) × (Int)) ((Unit)) ((Unit)) where
  n := 70
  head := ⟨[1, 3], [0], []⟩
  st := fun x_ => (fun (w : WldS) (k : Int) => (⟨true, [(1, .pb 0 1 0), (3, num .i64 k)], [], [⟨1, some ((wldC w).map .d)⟩]⟩)) x_.1 x_.2
  pre := fun x_ => (fun (w : WldS) (k : Int) => (WldM 1048576 w ∧ w.ends.length = 2 ∧ w.net.length = 2 ∧ k = 0)) x_.1 x_.2
  nk := ⟨[], [], []⟩
  nst := fun r_ => (fun (u : Unit) => (⟨true, [], [], [⟨0, none⟩]⟩)) r_
  npost := fun x_ r_ => (fun x_ => (fun (w0 : WldS) (k0 : Int) => ((fun r_ => (fun (u : Unit) => (∀ j : Nat, j < 2 → OkAt w0 j)) r_))) x_.1 x_.2) x_ r_
  rk := ⟨[2], [], []⟩
  rst := fun r_ => (fun (u : Unit) => (⟨true, [(2, boo false)], [], [⟨0, none⟩]⟩)) r_
  rpost := fun x_ r_ => (fun x_ => (fun (w0 : WldS) (k0 : Int) => ((fun r_ => (fun (u : Unit) => (¬ ∀ j : Nat, j < 2 → OkAt w0 j)) r_))) x_.1 x_.2) x_ r_
def i_spec_WldOk_0 (x : (WldS) × (Int)) (n : Nat) (s : (WldS) × (Int)) : Prop := (fun x_ => (fun (w0 : WldS) (k0 : Int) => ((fun s_ => (fun (w : WldS) (k : Int) => (w = w0 ∧ WldM 1048576 w ∧ w.ends.length = 2 ∧ w.net.length = 2 ∧ 0 ≤ k ∧ k + n = 2 ∧ ∀ j : Nat, j < k.toNat → OkAt w j)) s_.1 s_.2))) x_.1 x_.2) x s
def l_spec_WldOk_2 : LoopD ((WldS) × (Int) × (Int)) ((WldS) × (Int)) ((Unit)) where
  n := 70
  head := ⟨[1, 3, 4], [0], []⟩
  st := fun x_ => (fun (w : WldS) (k : Int) (j : Int) => (⟨true, [(1, .pb 0 1 0), (3, num .i64 k), (4, num .i64 j)], [], [⟨1, some ((wldC w).map .d)⟩]⟩)) x_.1 x_.2.1 x_.2.2
  pre := fun x_ => (fun (w : WldS) (k : Int) (j : Int) => (WldM 1048576 w ∧ w.net.length = 2 ∧ 0 ≤ k ∧ k < 2 ∧ j = 0)) x_.1 x_.2.1 x_.2.2
  nk := ⟨[1, 3], [0], []⟩
  nst := fun r_ => (fun (w : WldS) (k : Int) => (⟨true, [(1, .pb 0 1 0), (3, num .i64 k)], [], [⟨1, some ((wldC w).map .d)⟩]⟩)) r_.1 r_.2
  npost := fun x_ r_ => (fun x_ => (fun (w0 : WldS) (k0 : Int) (j0 : Int) => ((fun r_ => (fun (w : WldS) (k : Int) => (w = w0 ∧ k = k0 ∧ (at_nets w0.net k0.toNat).any bigN = false)) r_.1 r_.2))) x_.1 x_.2.1 x_.2.2) x_ r_
  rk := ⟨[2], [], []⟩
  rst := fun r_ => (fun (u : Unit) => (⟨true, [(2, boo false)], [], [⟨0, none⟩]⟩)) r_
  rpost := fun x_ r_ => (fun x_ => (fun (w0 : WldS) (k0 : Int) (j0 : Int) => ((fun r_ => (fun (u : Unit) => ((at_nets w0.net k0.toNat).any bigN = true)) r_))) x_.1 x_.2.1 x_.2.2) x_ r_
def i_spec_WldOk_2 (x : (WldS) × (Int) × (Int)) (n : Nat) (s : (WldS) × (Int) × (Int)) : Prop := (fun x_ => (fun (w0 : WldS) (k0 : Int) (j0 : Int) => ((fun s_ => (fun (w : WldS) (k : Int) (j : Int) => (w = w0 ∧ k = k0 ∧ WldM 1048576 w ∧ w.net.length = 2 ∧ 0 ≤ k ∧ k < 2 ∧ 0 ≤ j ∧ j + n = (at_nets w.net k.toNat).length ∧ ((at_nets w.net k.toNat).take j.toNat).any bigN = false)) s_.1 s_.2.1 s_.2.2))) x_.1 x_.2.1 x_.2.2) x s
def V_spec_WldOk : Env := ⟨tys, [(14, c_spec_CfgOk), (15, c_spec_l1In), (16, c_spec_l9End)], [], [(1, 0)], [], [(0, l_spec_WldOk_0.L), (2, l_spec_WldOk_2.L)], [500009, 500015, 500021, 500040], [], [(6, [(0, false), (1, false), (2, false), (3, false), (4, false), (5, false), (6, false), (7, true), (8, false), (9, false), (10, false), (11, false), (12, false), (13, false), (14, false), (15, false), (16, false), (17, false)])]⟩
end Go.Proofs.YtjjplncopjimdaaE

/- Calls answer what is promised: Y4. Conditions: none. -/
set_option linter.unusedVariables false
set_option maxHeartbeats 1600000
namespace Go.Proofs.YtjjplncopjimdaaE
open Go
theorem vF_spec_l9End (c:Cfg) (e:EndS) (K:List Arg→List (List AC)→Prop) (hp:EndM 1048576 e) (hk:∀ (r:Bool),(r=decide (EndP c e))→K ([rB.to r]) ([])):(true=true)∧(True∧(∀ r:Bool,(r=(decide (TxP c e.tx)))→(true=true)∧(if ((!r)=true) then ((true=true)∧(K [(aB false)] [])) else ((true=true)∧(True∧(∀ r1:Bool,(r1=(decide (RxP e.rx)))→(true=true)∧(if ((!r1)=true) then ((true=true)∧(K [(aB false)] [])) else ((true=true)∧(True∧(∀ r2:Bool,(r2=(decide (CtP c e.ctx)))→(true=true)∧(if ((!r2)=true) then ((true=true)∧(K [(aB false)] [])) else ((true=true)∧(True∧(∀ r3:Bool,(r3=(decide (CrP e.crx)))→(true=true)∧(if ((!r3)=true) then ((true=true)∧(K [(aB false)] [])) else (if ((decide ((((List.length e.put):Nat):Int) > (60:Int)))=true) then ((true=true)∧(K [(aB false)] [])) else (if ((decide ((((List.length e.got):Nat):Int) > (60:Int)))=true) then ((true=true)∧(K [(aB false)] [])) else (∃ s:(Prod Cfg (Prod EndS Int)),((KS.mk true [(Prod.mk (2:Nat) (T.pb (0:Nat) (1:Nat) (0:Nat))),(Prod.mk (3:Nat) (T.pb (1:Nat) (1:Nat) (0:Nat))),(Prod.mk (5:Nat) (num IntKind.i64 (0:Int)))] [] [(Box.mk (Min.min (1:Nat) (1:Nat)) (Option.some [(Cm.d (D.i IntKind.i64 c.mode)),(Cm.d (D.i IntKind.i64 c.win)),(Cm.d (D.i IntKind.i64 c.mps)),(Cm.d (D.i IntKind.i64 c.mtu)),(Cm.d (D.i IntKind.i64 c.try_))])),(Box.mk (Min.min (1:Nat) (1:Nat)) (Option.some [(Cm.d (D.i IntKind.i64 e.tx.next)),(Cm.d (D.i IntKind.i64 e.tx.acked)),(Cm.d (D.r RK.part e.tx.flight)),(Cm.d (D.i IntKind.i64 e.tx.sent)),(Cm.d (D.r RK.part e.tx.queue)),(Cm.d (D.b e.tx.asks)),(Cm.d (D.i IntKind.i64 e.tx.tries)),(Cm.d (D.b e.tx.held)),(Cm.d (D.i IntKind.i64 e.tx.count)),(Cm.d (D.b e.tx.dead)),(Cm.d (D.i IntKind.i64 e.rx.expect)),(Cm.d (D.i IntKind.i64 e.rx.count)),(Cm.d (D.i IntKind.i64 e.rx.join.len)),(Cm.d (D.r RK.u8 e.rx.join.got)),(Cm.d (D.b e.rx.again)),(Cm.d (D.b e.rx.busy)),(Cm.d (D.b e.rx.dead)),(Cm.d (D.i IntKind.i64 e.ctx.have_)),(Cm.d (D.r RK.part e.ctx.queue)),(Cm.d (D.i IntKind.i64 e.ctx.granted)),(Cm.d (D.i IntKind.i64 e.ctx.sent)),(Cm.d (D.b e.ctx.dead)),(Cm.d (D.i IntKind.i64 e.crx.out)),(Cm.d (D.i IntKind.i64 e.crx.join.len)),(Cm.d (D.r RK.u8 e.crx.join.got)),(Cm.d (D.b e.crx.dead)),(Cm.d (D.r RK.byr e.put)),(Cm.d (D.r RK.byr e.got))]))])=(KS.mk true [(Prod.mk (2:Nat) (T.pb (0:Nat) (1:Nat) (0:Nat))),(Prod.mk (3:Nat) (T.pb (1:Nat) (1:Nat) (0:Nat))),(Prod.mk (5:Nat) (num IntKind.i64 s.snd.snd))] [] [(Box.mk (1:Nat) (Option.some [(Cm.d (D.i IntKind.i64 s.fst.mode)),(Cm.d (D.i IntKind.i64 s.fst.win)),(Cm.d (D.i IntKind.i64 s.fst.mps)),(Cm.d (D.i IntKind.i64 s.fst.mtu)),(Cm.d (D.i IntKind.i64 s.fst.try_))])),(Box.mk (1:Nat) (Option.some [(Cm.d (D.i IntKind.i64 s.snd.fst.tx.next)),(Cm.d (D.i IntKind.i64 s.snd.fst.tx.acked)),(Cm.d (D.r RK.part s.snd.fst.tx.flight)),(Cm.d (D.i IntKind.i64 s.snd.fst.tx.sent)),(Cm.d (D.r RK.part s.snd.fst.tx.queue)),(Cm.d (D.b s.snd.fst.tx.asks)),(Cm.d (D.i IntKind.i64 s.snd.fst.tx.tries)),(Cm.d (D.b s.snd.fst.tx.held)),(Cm.d (D.i IntKind.i64 s.snd.fst.tx.count)),(Cm.d (D.b s.snd.fst.tx.dead)),(Cm.d (D.i IntKind.i64 s.snd.fst.rx.expect)),(Cm.d (D.i IntKind.i64 s.snd.fst.rx.count)),(Cm.d (D.i IntKind.i64 s.snd.fst.rx.join.len)),(Cm.d (D.r RK.u8 s.snd.fst.rx.join.got)),(Cm.d (D.b s.snd.fst.rx.again)),(Cm.d (D.b s.snd.fst.rx.busy)),(Cm.d (D.b s.snd.fst.rx.dead)),(Cm.d (D.i IntKind.i64 s.snd.fst.ctx.have_)),(Cm.d (D.r RK.part s.snd.fst.ctx.queue)),(Cm.d (D.i IntKind.i64 s.snd.fst.ctx.granted)),(Cm.d (D.i IntKind.i64 s.snd.fst.ctx.sent)),(Cm.d (D.b s.snd.fst.ctx.dead)),(Cm.d (D.i IntKind.i64 s.snd.fst.crx.out)),(Cm.d (D.i IntKind.i64 s.snd.fst.crx.join.len)),(Cm.d (D.r RK.u8 s.snd.fst.crx.join.got)),(Cm.d (D.b s.snd.fst.crx.dead)),(Cm.d (D.r RK.byr s.snd.fst.put)),(Cm.d (D.r RK.byr s.snd.fst.got))]))]))∧((((List.length s.snd.fst.put)≤(60:Nat))∧(s.snd.snd=(0:Int)))∧((∀ r4:(Prod Cfg EndS),((r4.fst=s.fst)∧((r4.snd=s.snd.fst)∧((List.any s.snd.fst.put bigB)=false)))→∃ s1:(Prod Cfg (Prod EndS Int)),((KS.mk true [(Prod.mk (2:Nat) (T.pb (0:Nat) (1:Nat) (0:Nat))),(Prod.mk (3:Nat) (T.pb (1:Nat) (1:Nat) (0:Nat))),(Prod.mk (6:Nat) (num IntKind.i64 (0:Int)))] [] [(Box.mk (Min.min (1:Nat) (1:Nat)) (Option.some [(Cm.d (D.i IntKind.i64 r4.fst.mode)),(Cm.d (D.i IntKind.i64 r4.fst.win)),(Cm.d (D.i IntKind.i64 r4.fst.mps)),(Cm.d (D.i IntKind.i64 r4.fst.mtu)),(Cm.d (D.i IntKind.i64 r4.fst.try_))])),(Box.mk (Min.min (1:Nat) (1:Nat)) (Option.some [(Cm.d (D.i IntKind.i64 r4.snd.tx.next)),(Cm.d (D.i IntKind.i64 r4.snd.tx.acked)),(Cm.d (D.r RK.part r4.snd.tx.flight)),(Cm.d (D.i IntKind.i64 r4.snd.tx.sent)),(Cm.d (D.r RK.part r4.snd.tx.queue)),(Cm.d (D.b r4.snd.tx.asks)),(Cm.d (D.i IntKind.i64 r4.snd.tx.tries)),(Cm.d (D.b r4.snd.tx.held)),(Cm.d (D.i IntKind.i64 r4.snd.tx.count)),(Cm.d (D.b r4.snd.tx.dead)),(Cm.d (D.i IntKind.i64 r4.snd.rx.expect)),(Cm.d (D.i IntKind.i64 r4.snd.rx.count)),(Cm.d (D.i IntKind.i64 r4.snd.rx.join.len)),(Cm.d (D.r RK.u8 r4.snd.rx.join.got)),(Cm.d (D.b r4.snd.rx.again)),(Cm.d (D.b r4.snd.rx.busy)),(Cm.d (D.b r4.snd.rx.dead)),(Cm.d (D.i IntKind.i64 r4.snd.ctx.have_)),(Cm.d (D.r RK.part r4.snd.ctx.queue)),(Cm.d (D.i IntKind.i64 r4.snd.ctx.granted)),(Cm.d (D.i IntKind.i64 r4.snd.ctx.sent)),(Cm.d (D.b r4.snd.ctx.dead)),(Cm.d (D.i IntKind.i64 r4.snd.crx.out)),(Cm.d (D.i IntKind.i64 r4.snd.crx.join.len)),(Cm.d (D.r RK.u8 r4.snd.crx.join.got)),(Cm.d (D.b r4.snd.crx.dead)),(Cm.d (D.r RK.byr r4.snd.put)),(Cm.d (D.r RK.byr r4.snd.got))]))])=(KS.mk true [(Prod.mk (2:Nat) (T.pb (0:Nat) (1:Nat) (0:Nat))),(Prod.mk (3:Nat) (T.pb (1:Nat) (1:Nat) (0:Nat))),(Prod.mk (6:Nat) (num IntKind.i64 s1.snd.snd))] [] [(Box.mk (1:Nat) (Option.some [(Cm.d (D.i IntKind.i64 s1.fst.mode)),(Cm.d (D.i IntKind.i64 s1.fst.win)),(Cm.d (D.i IntKind.i64 s1.fst.mps)),(Cm.d (D.i IntKind.i64 s1.fst.mtu)),(Cm.d (D.i IntKind.i64 s1.fst.try_))])),(Box.mk (1:Nat) (Option.some [(Cm.d (D.i IntKind.i64 s1.snd.fst.tx.next)),(Cm.d (D.i IntKind.i64 s1.snd.fst.tx.acked)),(Cm.d (D.r RK.part s1.snd.fst.tx.flight)),(Cm.d (D.i IntKind.i64 s1.snd.fst.tx.sent)),(Cm.d (D.r RK.part s1.snd.fst.tx.queue)),(Cm.d (D.b s1.snd.fst.tx.asks)),(Cm.d (D.i IntKind.i64 s1.snd.fst.tx.tries)),(Cm.d (D.b s1.snd.fst.tx.held)),(Cm.d (D.i IntKind.i64 s1.snd.fst.tx.count)),(Cm.d (D.b s1.snd.fst.tx.dead)),(Cm.d (D.i IntKind.i64 s1.snd.fst.rx.expect)),(Cm.d (D.i IntKind.i64 s1.snd.fst.rx.count)),(Cm.d (D.i IntKind.i64 s1.snd.fst.rx.join.len)),(Cm.d (D.r RK.u8 s1.snd.fst.rx.join.got)),(Cm.d (D.b s1.snd.fst.rx.again)),(Cm.d (D.b s1.snd.fst.rx.busy)),(Cm.d (D.b s1.snd.fst.rx.dead)),(Cm.d (D.i IntKind.i64 s1.snd.fst.ctx.have_)),(Cm.d (D.r RK.part s1.snd.fst.ctx.queue)),(Cm.d (D.i IntKind.i64 s1.snd.fst.ctx.granted)),(Cm.d (D.i IntKind.i64 s1.snd.fst.ctx.sent)),(Cm.d (D.b s1.snd.fst.ctx.dead)),(Cm.d (D.i IntKind.i64 s1.snd.fst.crx.out)),(Cm.d (D.i IntKind.i64 s1.snd.fst.crx.join.len)),(Cm.d (D.r RK.u8 s1.snd.fst.crx.join.got)),(Cm.d (D.b s1.snd.fst.crx.dead)),(Cm.d (D.r RK.byr s1.snd.fst.put)),(Cm.d (D.r RK.byr s1.snd.fst.got))]))]))∧((((List.length s1.snd.fst.got)≤(60:Nat))∧(s1.snd.snd=(0:Int)))∧((∀ r5:Unit,((List.any s1.snd.fst.got bigB)=false)→(true=true)∧(K [(aB true)] []))∧(∀ r5:Unit,((List.any s1.snd.fst.got bigB)=true)→(true=true)∧(K [(aB false)] [])))))∧(∀ r4:Unit,((List.any s.snd.fst.put bigB)=true)→(true=true)∧(K [(aB false)] [])))))))))))))))))))))) := by
  repeat' first
    | exact rfl
    | exact True.intro
    | with_reducible apply And.intro
    | (with_reducible intro r hr; subst r)
    | refine iteI (fun hx => ?_) (fun hx => ?_)
  all_goals try simp only [Bool.not_eq_true', decide_eq_false_iff_not, decide_eq_true_eq, Bool.not_eq_true, bne_iff_ne, beq_iff_eq, ne_eq, Decidable.not_not, Bool.not_eq_false, gt_iff_lt, ge_iff_le, Int.not_le, Int.not_lt, beq_eq_false_iff_ne, bne_eq_false_iff_eq, Bool.and_eq_true, Bool.or_eq_true, Bool.true_eq_false, Bool.false_eq_true] at *
  all_goals first
    | exact hk _ (decide_eq_false (fun hP => (‹¬ TxP _ _› : ¬ TxP _ _) hP.tx)).symm
    | exact hk _ (decide_eq_false (fun hP => (‹¬ RxP _› : ¬ RxP _) hP.rx)).symm
    | exact hk _ (decide_eq_false (fun hP => (‹¬ CtP _ _› : ¬ CtP _ _) hP.ct)).symm
    | exact hk _ (decide_eq_false (fun hP => (‹¬ CrP _› : ¬ CrP _) hP.cr)).symm
    | exact hk _ (decide_eq_false (fun hP => by have h1 := hP.pt.1; have h2 := hP.gt.1; omega)).symm
    | (refine ⟨(c, e, 0), rfl, ⟨by (try dsimp only); omega, rfl⟩, ?_, ?_⟩
       · rintro ⟨c', e'⟩ ⟨e1, e2, e3⟩
         dsimp only at e1 e2 e3 ⊢
         subst e1 e2
         refine ⟨(c', e', 0), rfl, ⟨by (try dsimp only); omega, rfl⟩, ?_, ?_⟩
         · intro u h
           exact ⟨by trivial, hk _ (decide_eq_true ⟨by assumption, by assumption, by assumption, by assumption, ⟨by omega, e3⟩, ⟨by omega, h⟩⟩).symm⟩
         · intro u h
           have h' : e'.got.any bigB = true := h
           exact ⟨by trivial, hk _ (decide_eq_false (fun hP => by have h2 := hP.gt.2; rw [h'] at h2; cases h2)).symm⟩
       · intro u h
         have h' : e.put.any bigB = true := h
         exact ⟨by trivial, hk _ (decide_eq_false (fun hP => by have h2 := hP.pt.2; rw [h'] at h2; cases h2)).symm⟩)
theorem vL_spec_l9End_0 (c0:Cfg) (e0:EndS) (k0:Int) (c:Cfg) (e:EndS) (k:Int) (n:Nat) (hp:(fun (c:Cfg) (e:EndS) (k:Int) => (e.put.length≤60∧k=0)) c0 e0 k0) (hi:c=c0∧e=e0∧e.put.length≤60∧0≤k∧k + n=e.put.length∧(e.put.take k.toNat).any bigB=false):if ((decide (k < (((List.length e.put):Nat):Int)))=true) then ((((0:Int)≤k)∧(k < (((List.length e.put):Nat):Int)))∧(if ((decide ((((List.length (at_byr e.put (Int.toNat k))):Nat):Int) > (24:Int)))=true) then (∃ r:Unit,((KS.mk true [(Prod.mk (4:Nat) (boo false))] [] [(Box.mk (0:Nat) Option.none),(Box.mk (0:Nat) Option.none)])=(KS.mk true [(Prod.mk (4:Nat) (boo false))] [] [(Box.mk (0:Nat) Option.none),(Box.mk (0:Nat) Option.none)]))∧((List.any e0.put bigB)=true)) else (∃ s:(Prod Cfg (Prod EndS Int)),((KS.mk true [(Prod.mk (2:Nat) (T.pb (0:Nat) (1:Nat) (0:Nat))),(Prod.mk (3:Nat) (T.pb (1:Nat) (1:Nat) (0:Nat))),(Prod.mk (5:Nat) (num IntKind.i64 (IntKind.wrap IntKind.i64 (k + (1:Int)))))] [] [(Box.mk (Min.min (1:Nat) (1:Nat)) (Option.some [(Cm.d (D.i IntKind.i64 c.mode)),(Cm.d (D.i IntKind.i64 c.win)),(Cm.d (D.i IntKind.i64 c.mps)),(Cm.d (D.i IntKind.i64 c.mtu)),(Cm.d (D.i IntKind.i64 c.try_))])),(Box.mk (Min.min (1:Nat) (1:Nat)) (Option.some [(Cm.d (D.i IntKind.i64 e.tx.next)),(Cm.d (D.i IntKind.i64 e.tx.acked)),(Cm.d (D.r RK.part e.tx.flight)),(Cm.d (D.i IntKind.i64 e.tx.sent)),(Cm.d (D.r RK.part e.tx.queue)),(Cm.d (D.b e.tx.asks)),(Cm.d (D.i IntKind.i64 e.tx.tries)),(Cm.d (D.b e.tx.held)),(Cm.d (D.i IntKind.i64 e.tx.count)),(Cm.d (D.b e.tx.dead)),(Cm.d (D.i IntKind.i64 e.rx.expect)),(Cm.d (D.i IntKind.i64 e.rx.count)),(Cm.d (D.i IntKind.i64 e.rx.join.len)),(Cm.d (D.r RK.u8 e.rx.join.got)),(Cm.d (D.b e.rx.again)),(Cm.d (D.b e.rx.busy)),(Cm.d (D.b e.rx.dead)),(Cm.d (D.i IntKind.i64 e.ctx.have_)),(Cm.d (D.r RK.part e.ctx.queue)),(Cm.d (D.i IntKind.i64 e.ctx.granted)),(Cm.d (D.i IntKind.i64 e.ctx.sent)),(Cm.d (D.b e.ctx.dead)),(Cm.d (D.i IntKind.i64 e.crx.out)),(Cm.d (D.i IntKind.i64 e.crx.join.len)),(Cm.d (D.r RK.u8 e.crx.join.got)),(Cm.d (D.b e.crx.dead)),(Cm.d (D.r RK.byr e.put)),(Cm.d (D.r RK.byr e.got))]))])=(KS.mk true [(Prod.mk (2:Nat) (T.pb (0:Nat) (1:Nat) (0:Nat))),(Prod.mk (3:Nat) (T.pb (1:Nat) (1:Nat) (0:Nat))),(Prod.mk (5:Nat) (num IntKind.i64 s.snd.snd))] [] [(Box.mk (1:Nat) (Option.some [(Cm.d (D.i IntKind.i64 s.fst.mode)),(Cm.d (D.i IntKind.i64 s.fst.win)),(Cm.d (D.i IntKind.i64 s.fst.mps)),(Cm.d (D.i IntKind.i64 s.fst.mtu)),(Cm.d (D.i IntKind.i64 s.fst.try_))])),(Box.mk (1:Nat) (Option.some [(Cm.d (D.i IntKind.i64 s.snd.fst.tx.next)),(Cm.d (D.i IntKind.i64 s.snd.fst.tx.acked)),(Cm.d (D.r RK.part s.snd.fst.tx.flight)),(Cm.d (D.i IntKind.i64 s.snd.fst.tx.sent)),(Cm.d (D.r RK.part s.snd.fst.tx.queue)),(Cm.d (D.b s.snd.fst.tx.asks)),(Cm.d (D.i IntKind.i64 s.snd.fst.tx.tries)),(Cm.d (D.b s.snd.fst.tx.held)),(Cm.d (D.i IntKind.i64 s.snd.fst.tx.count)),(Cm.d (D.b s.snd.fst.tx.dead)),(Cm.d (D.i IntKind.i64 s.snd.fst.rx.expect)),(Cm.d (D.i IntKind.i64 s.snd.fst.rx.count)),(Cm.d (D.i IntKind.i64 s.snd.fst.rx.join.len)),(Cm.d (D.r RK.u8 s.snd.fst.rx.join.got)),(Cm.d (D.b s.snd.fst.rx.again)),(Cm.d (D.b s.snd.fst.rx.busy)),(Cm.d (D.b s.snd.fst.rx.dead)),(Cm.d (D.i IntKind.i64 s.snd.fst.ctx.have_)),(Cm.d (D.r RK.part s.snd.fst.ctx.queue)),(Cm.d (D.i IntKind.i64 s.snd.fst.ctx.granted)),(Cm.d (D.i IntKind.i64 s.snd.fst.ctx.sent)),(Cm.d (D.b s.snd.fst.ctx.dead)),(Cm.d (D.i IntKind.i64 s.snd.fst.crx.out)),(Cm.d (D.i IntKind.i64 s.snd.fst.crx.join.len)),(Cm.d (D.r RK.u8 s.snd.fst.crx.join.got)),(Cm.d (D.b s.snd.fst.crx.dead)),(Cm.d (D.r RK.byr s.snd.fst.put)),(Cm.d (D.r RK.byr s.snd.fst.got))]))]))∧(∃ m:Nat,(m < n)∧((s.fst=c0)∧((s.snd.fst=e0)∧(((List.length s.snd.fst.put)≤(60:Nat))∧(((0:Int)≤s.snd.snd)∧(((s.snd.snd + ((m:Nat):Int))=(((List.length s.snd.fst.put):Nat):Int))∧((List.any (List.take (Int.toNat s.snd.snd) s.snd.fst.put) bigB)=false)))))))))) else (∃ r:(Prod Cfg EndS),((KS.mk true [(Prod.mk (2:Nat) (T.pb (0:Nat) (1:Nat) (0:Nat))),(Prod.mk (3:Nat) (T.pb (1:Nat) (1:Nat) (0:Nat)))] [] [(Box.mk (Min.min (1:Nat) (1:Nat)) (Option.some [(Cm.d (D.i IntKind.i64 c.mode)),(Cm.d (D.i IntKind.i64 c.win)),(Cm.d (D.i IntKind.i64 c.mps)),(Cm.d (D.i IntKind.i64 c.mtu)),(Cm.d (D.i IntKind.i64 c.try_))])),(Box.mk (Min.min (1:Nat) (1:Nat)) (Option.some [(Cm.d (D.i IntKind.i64 e.tx.next)),(Cm.d (D.i IntKind.i64 e.tx.acked)),(Cm.d (D.r RK.part e.tx.flight)),(Cm.d (D.i IntKind.i64 e.tx.sent)),(Cm.d (D.r RK.part e.tx.queue)),(Cm.d (D.b e.tx.asks)),(Cm.d (D.i IntKind.i64 e.tx.tries)),(Cm.d (D.b e.tx.held)),(Cm.d (D.i IntKind.i64 e.tx.count)),(Cm.d (D.b e.tx.dead)),(Cm.d (D.i IntKind.i64 e.rx.expect)),(Cm.d (D.i IntKind.i64 e.rx.count)),(Cm.d (D.i IntKind.i64 e.rx.join.len)),(Cm.d (D.r RK.u8 e.rx.join.got)),(Cm.d (D.b e.rx.again)),(Cm.d (D.b e.rx.busy)),(Cm.d (D.b e.rx.dead)),(Cm.d (D.i IntKind.i64 e.ctx.have_)),(Cm.d (D.r RK.part e.ctx.queue)),(Cm.d (D.i IntKind.i64 e.ctx.granted)),(Cm.d (D.i IntKind.i64 e.ctx.sent)),(Cm.d (D.b e.ctx.dead)),(Cm.d (D.i IntKind.i64 e.crx.out)),(Cm.d (D.i IntKind.i64 e.crx.join.len)),(Cm.d (D.r RK.u8 e.crx.join.got)),(Cm.d (D.b e.crx.dead)),(Cm.d (D.r RK.byr e.put)),(Cm.d (D.r RK.byr e.got))]))])=(KS.mk true [(Prod.mk (2:Nat) (T.pb (0:Nat) (1:Nat) (0:Nat))),(Prod.mk (3:Nat) (T.pb (1:Nat) (1:Nat) (0:Nat)))] [] [(Box.mk (1:Nat) (Option.some [(Cm.d (D.i IntKind.i64 r.fst.mode)),(Cm.d (D.i IntKind.i64 r.fst.win)),(Cm.d (D.i IntKind.i64 r.fst.mps)),(Cm.d (D.i IntKind.i64 r.fst.mtu)),(Cm.d (D.i IntKind.i64 r.fst.try_))])),(Box.mk (1:Nat) (Option.some [(Cm.d (D.i IntKind.i64 r.snd.tx.next)),(Cm.d (D.i IntKind.i64 r.snd.tx.acked)),(Cm.d (D.r RK.part r.snd.tx.flight)),(Cm.d (D.i IntKind.i64 r.snd.tx.sent)),(Cm.d (D.r RK.part r.snd.tx.queue)),(Cm.d (D.b r.snd.tx.asks)),(Cm.d (D.i IntKind.i64 r.snd.tx.tries)),(Cm.d (D.b r.snd.tx.held)),(Cm.d (D.i IntKind.i64 r.snd.tx.count)),(Cm.d (D.b r.snd.tx.dead)),(Cm.d (D.i IntKind.i64 r.snd.rx.expect)),(Cm.d (D.i IntKind.i64 r.snd.rx.count)),(Cm.d (D.i IntKind.i64 r.snd.rx.join.len)),(Cm.d (D.r RK.u8 r.snd.rx.join.got)),(Cm.d (D.b r.snd.rx.again)),(Cm.d (D.b r.snd.rx.busy)),(Cm.d (D.b r.snd.rx.dead)),(Cm.d (D.i IntKind.i64 r.snd.ctx.have_)),(Cm.d (D.r RK.part r.snd.ctx.queue)),(Cm.d (D.i IntKind.i64 r.snd.ctx.granted)),(Cm.d (D.i IntKind.i64 r.snd.ctx.sent)),(Cm.d (D.b r.snd.ctx.dead)),(Cm.d (D.i IntKind.i64 r.snd.crx.out)),(Cm.d (D.i IntKind.i64 r.snd.crx.join.len)),(Cm.d (D.r RK.u8 r.snd.crx.join.got)),(Cm.d (D.b r.snd.crx.dead)),(Cm.d (D.r RK.byr r.snd.put)),(Cm.d (D.r RK.byr r.snd.got))]))]))∧((r.fst=c0)∧((r.snd=e0)∧((List.any e0.put bigB)=false)))) := by
  try dsimp only at hp
  obtain ⟨rfl, rfl, h1, h2, h3, h4⟩ := hi
  obtain ⟨i, rfl⟩ : ∃ z : Nat, k = z := ⟨k.toNat, by omega⟩
  rw [wr (x := (i : Int) + 1) (by omega) (by omega)]
  simp only [Int.toNat_natCast] at h4 ⊢
  refine iteI (fun h => ?_) (fun h => ?_)
  · have hi : i < e.put.length := by simp at h; omega
    have ee : e.put.take (i + 1) = e.put.take i ++ [at_byr e.put i] := take_at .byr e.put i hi
    repeat' first
      | exact rfl
      | exact True.intro
      | with_reducible apply And.intro
      | omega
      | refine iteI (fun hx => ?_) (fun hx => ?_)
    all_goals first
      | exact ⟨(), by trivial, List.any_eq_true.2 ⟨at_byr e.put i, at_mem .byr e.put i hi, decide_eq_true (by simp at hx; omega)⟩⟩
      | (refine ⟨(c, e, (i : Int) + 1), rfl, n - 1, by omega, rfl, rfl, h1, by (try dsimp only); omega, by (try dsimp only); omega, ?_⟩
         show (e.put.take ((i : Int) + 1).toNat).any bigB = false
         have hx' : bigB (at_byr e.put i) = false := decide_eq_false (by simp at hx; omega)
         rw [show ((i : Int) + 1).toNat = i + 1 by omega, ee, List.any_append, h4]; simp [hx'])
  · have hi : i = e.put.length := by simp at h; omega
    subst hi
    rw [List.take_length] at h4
    first
      | exact ⟨(c, e), rfl, rfl, rfl, h4⟩
      | exact ⟨(), by trivial, h4⟩
theorem vS_spec_l9End_0 (c0 : Cfg) (e0 : EndS) (k0 : Int) (hp : (fun (c : Cfg) (e : EndS) (k : Int) => (e.put.length ≤ 60 ∧ k = 0)) c0 e0 k0) : ∃ n : Nat, (fun (c : Cfg) (e : EndS) (k : Int) => (c = c0 ∧ e = e0 ∧ e.put.length ≤ 60 ∧ 0 ≤ k ∧ k + n = e.put.length ∧ (e.put.take k.toNat).any bigB = false)) c0 e0 k0 := by
  try dsimp only at hp
  try dsimp only
  obtain ⟨h1, rfl⟩ := hp
  exact ⟨e0.put.length, rfl, rfl, h1, by omega, by omega, rfl⟩
theorem vL_spec_l9End_2 (c0:Cfg) (e0:EndS) (k0:Int) (c:Cfg) (e:EndS) (k:Int) (n:Nat) (hp:(fun (c:Cfg) (e:EndS) (k:Int) => (e.got.length≤60∧k=0)) c0 e0 k0) (hi:c=c0∧e=e0∧e.got.length≤60∧0≤k∧k + n=e.got.length∧(e.got.take k.toNat).any bigB=false):if ((decide (k < (((List.length e.got):Nat):Int)))=true) then ((((0:Int)≤k)∧(k < (((List.length e.got):Nat):Int)))∧(if ((decide ((((List.length (at_byr e.got (Int.toNat k))):Nat):Int) > (24:Int)))=true) then (∃ r:Unit,((KS.mk true [(Prod.mk (4:Nat) (boo false))] [] [(Box.mk (0:Nat) Option.none),(Box.mk (0:Nat) Option.none)])=(KS.mk true [(Prod.mk (4:Nat) (boo false))] [] [(Box.mk (0:Nat) Option.none),(Box.mk (0:Nat) Option.none)]))∧((List.any e0.got bigB)=true)) else (∃ s:(Prod Cfg (Prod EndS Int)),((KS.mk true [(Prod.mk (2:Nat) (T.pb (0:Nat) (1:Nat) (0:Nat))),(Prod.mk (3:Nat) (T.pb (1:Nat) (1:Nat) (0:Nat))),(Prod.mk (6:Nat) (num IntKind.i64 (IntKind.wrap IntKind.i64 (k + (1:Int)))))] [] [(Box.mk (Min.min (1:Nat) (1:Nat)) (Option.some [(Cm.d (D.i IntKind.i64 c.mode)),(Cm.d (D.i IntKind.i64 c.win)),(Cm.d (D.i IntKind.i64 c.mps)),(Cm.d (D.i IntKind.i64 c.mtu)),(Cm.d (D.i IntKind.i64 c.try_))])),(Box.mk (Min.min (1:Nat) (1:Nat)) (Option.some [(Cm.d (D.i IntKind.i64 e.tx.next)),(Cm.d (D.i IntKind.i64 e.tx.acked)),(Cm.d (D.r RK.part e.tx.flight)),(Cm.d (D.i IntKind.i64 e.tx.sent)),(Cm.d (D.r RK.part e.tx.queue)),(Cm.d (D.b e.tx.asks)),(Cm.d (D.i IntKind.i64 e.tx.tries)),(Cm.d (D.b e.tx.held)),(Cm.d (D.i IntKind.i64 e.tx.count)),(Cm.d (D.b e.tx.dead)),(Cm.d (D.i IntKind.i64 e.rx.expect)),(Cm.d (D.i IntKind.i64 e.rx.count)),(Cm.d (D.i IntKind.i64 e.rx.join.len)),(Cm.d (D.r RK.u8 e.rx.join.got)),(Cm.d (D.b e.rx.again)),(Cm.d (D.b e.rx.busy)),(Cm.d (D.b e.rx.dead)),(Cm.d (D.i IntKind.i64 e.ctx.have_)),(Cm.d (D.r RK.part e.ctx.queue)),(Cm.d (D.i IntKind.i64 e.ctx.granted)),(Cm.d (D.i IntKind.i64 e.ctx.sent)),(Cm.d (D.b e.ctx.dead)),(Cm.d (D.i IntKind.i64 e.crx.out)),(Cm.d (D.i IntKind.i64 e.crx.join.len)),(Cm.d (D.r RK.u8 e.crx.join.got)),(Cm.d (D.b e.crx.dead)),(Cm.d (D.r RK.byr e.put)),(Cm.d (D.r RK.byr e.got))]))])=(KS.mk true [(Prod.mk (2:Nat) (T.pb (0:Nat) (1:Nat) (0:Nat))),(Prod.mk (3:Nat) (T.pb (1:Nat) (1:Nat) (0:Nat))),(Prod.mk (6:Nat) (num IntKind.i64 s.snd.snd))] [] [(Box.mk (1:Nat) (Option.some [(Cm.d (D.i IntKind.i64 s.fst.mode)),(Cm.d (D.i IntKind.i64 s.fst.win)),(Cm.d (D.i IntKind.i64 s.fst.mps)),(Cm.d (D.i IntKind.i64 s.fst.mtu)),(Cm.d (D.i IntKind.i64 s.fst.try_))])),(Box.mk (1:Nat) (Option.some [(Cm.d (D.i IntKind.i64 s.snd.fst.tx.next)),(Cm.d (D.i IntKind.i64 s.snd.fst.tx.acked)),(Cm.d (D.r RK.part s.snd.fst.tx.flight)),(Cm.d (D.i IntKind.i64 s.snd.fst.tx.sent)),(Cm.d (D.r RK.part s.snd.fst.tx.queue)),(Cm.d (D.b s.snd.fst.tx.asks)),(Cm.d (D.i IntKind.i64 s.snd.fst.tx.tries)),(Cm.d (D.b s.snd.fst.tx.held)),(Cm.d (D.i IntKind.i64 s.snd.fst.tx.count)),(Cm.d (D.b s.snd.fst.tx.dead)),(Cm.d (D.i IntKind.i64 s.snd.fst.rx.expect)),(Cm.d (D.i IntKind.i64 s.snd.fst.rx.count)),(Cm.d (D.i IntKind.i64 s.snd.fst.rx.join.len)),(Cm.d (D.r RK.u8 s.snd.fst.rx.join.got)),(Cm.d (D.b s.snd.fst.rx.again)),(Cm.d (D.b s.snd.fst.rx.busy)),(Cm.d (D.b s.snd.fst.rx.dead)),(Cm.d (D.i IntKind.i64 s.snd.fst.ctx.have_)),(Cm.d (D.r RK.part s.snd.fst.ctx.queue)),(Cm.d (D.i IntKind.i64 s.snd.fst.ctx.granted)),(Cm.d (D.i IntKind.i64 s.snd.fst.ctx.sent)),(Cm.d (D.b s.snd.fst.ctx.dead)),(Cm.d (D.i IntKind.i64 s.snd.fst.crx.out)),(Cm.d (D.i IntKind.i64 s.snd.fst.crx.join.len)),(Cm.d (D.r RK.u8 s.snd.fst.crx.join.got)),(Cm.d (D.b s.snd.fst.crx.dead)),(Cm.d (D.r RK.byr s.snd.fst.put)),(Cm.d (D.r RK.byr s.snd.fst.got))]))]))∧(∃ m:Nat,(m < n)∧((s.fst=c0)∧((s.snd.fst=e0)∧(((List.length s.snd.fst.got)≤(60:Nat))∧(((0:Int)≤s.snd.snd)∧(((s.snd.snd + ((m:Nat):Int))=(((List.length s.snd.fst.got):Nat):Int))∧((List.any (List.take (Int.toNat s.snd.snd) s.snd.fst.got) bigB)=false)))))))))) else (∃ r:Unit,((KS.mk true [] [] [(Box.mk (0:Nat) Option.none),(Box.mk (0:Nat) Option.none)])=(KS.mk true [] [] [(Box.mk (0:Nat) Option.none),(Box.mk (0:Nat) Option.none)]))∧((List.any e0.got bigB)=false)) := by
  try dsimp only at hp
  obtain ⟨rfl, rfl, h1, h2, h3, h4⟩ := hi
  obtain ⟨i, rfl⟩ : ∃ z : Nat, k = z := ⟨k.toNat, by omega⟩
  rw [wr (x := (i : Int) + 1) (by omega) (by omega)]
  simp only [Int.toNat_natCast] at h4 ⊢
  refine iteI (fun h => ?_) (fun h => ?_)
  · have hi : i < e.got.length := by simp at h; omega
    have ee : e.got.take (i + 1) = e.got.take i ++ [at_byr e.got i] := take_at .byr e.got i hi
    repeat' first
      | exact rfl
      | exact True.intro
      | with_reducible apply And.intro
      | omega
      | refine iteI (fun hx => ?_) (fun hx => ?_)
    all_goals first
      | exact ⟨(), by trivial, List.any_eq_true.2 ⟨at_byr e.got i, at_mem .byr e.got i hi, decide_eq_true (by simp at hx; omega)⟩⟩
      | (refine ⟨(c, e, (i : Int) + 1), rfl, n - 1, by omega, rfl, rfl, h1, by (try dsimp only); omega, by (try dsimp only); omega, ?_⟩
         show (e.got.take ((i : Int) + 1).toNat).any bigB = false
         have hx' : bigB (at_byr e.got i) = false := decide_eq_false (by simp at hx; omega)
         rw [show ((i : Int) + 1).toNat = i + 1 by omega, ee, List.any_append, h4]; simp [hx'])
  · have hi : i = e.got.length := by simp at h; omega
    subst hi
    rw [List.take_length] at h4
    first
      | exact ⟨(c, e), rfl, rfl, rfl, h4⟩
      | exact ⟨(), by trivial, h4⟩
theorem vS_spec_l9End_2 (c0 : Cfg) (e0 : EndS) (k0 : Int) (hp : (fun (c : Cfg) (e : EndS) (k : Int) => (e.got.length ≤ 60 ∧ k = 0)) c0 e0 k0) : ∃ n : Nat, (fun (c : Cfg) (e : EndS) (k : Int) => (c = c0 ∧ e = e0 ∧ e.got.length ≤ 60 ∧ 0 ≤ k ∧ k + n = e.got.length ∧ (e.got.take k.toNat).any bigB = false)) c0 e0 k0 := by
  try dsimp only at hp
  try dsimp only
  obtain ⟨h1, rfl⟩ := hp
  exact ⟨e0.got.length, rfl, rfl, h1, by omega, by omega, rfl⟩
theorem w_spec_l9End : Valid Try.prog 16 c_spec_l9End :=
  valid_ctr2 (V := V_spec_l9End) (tysB_ok tys_ok) ⟨(CallsL.cons w_spec_TxOk (CallsL.cons w_spec_RxOk (CallsL.cons w_spec_CrdTxOk (CallsL.cons w_spec_CrdRxOk (CallsL.nil _))))), (IosL.nil _)⟩ mixed 0 2 Try.func16 rfl (by kernel_rfl)
    (fun c hc => by
      obtain rfl := Option.some.inj hc
      exact ⟨trivial, ⟨⟨trivial, ⟨⟨trivial, trivial⟩, trivial⟩⟩, ⟨⟨trivial, ⟨LoopD.ok2 (V := V_spec_l9End) l_spec_l9End_0 (LoopsM.cons 0 l_spec_l9End_0 (LoopsM.cons 2 l_spec_l9End_2 LoopsM.nil)) 0 _ i_spec_l9End_0 (fun x hx => vS_spec_l9End_0 x.1 x.2.1 x.2.2 hx) (fun x hx n s hi => ⟨_, by kernel_rfl, vL_spec_l9End_0 x.1 x.2.1 x.2.2 s.1 s.2.1 s.2.2 n hx hi⟩), ⟨⟨trivial, ⟨trivial, trivial⟩⟩, ⟨⟨trivial, ⟨⟨trivial, trivial⟩, trivial⟩⟩, trivial⟩⟩⟩⟩, ⟨⟨trivial, ⟨LoopD.ok2 (V := V_spec_l9End) l_spec_l9End_2 (LoopsM.cons 0 l_spec_l9End_0 (LoopsM.cons 2 l_spec_l9End_2 LoopsM.nil)) 2 _ i_spec_l9End_2 (fun x hx => vS_spec_l9End_2 x.1 x.2.1 x.2.2 hx) (fun x hx n s hi => ⟨_, by kernel_rfl, vL_spec_l9End_2 x.1 x.2.1 x.2.2 s.1 s.2.1 s.2.2 n hx hi⟩), ⟨⟨trivial, ⟨trivial, trivial⟩⟩, ⟨⟨trivial, ⟨⟨trivial, trivial⟩, trivial⟩⟩, trivial⟩⟩⟩⟩, ⟨trivial, trivial⟩⟩⟩⟩⟩)
    (fun x K hp hk => ⟨_, by kernel_rfl, vF_spec_l9End x.1 x.2 K hp (fun r h => hk r h)⟩)
theorem vF_spec_WldOk (w:WldS) (K:List Arg→List (List AC)→Prop) (hp:WldM 1048576 w) (hk:∀ (r:Bool),(r=decide (WldP w))→K ([rB.to r]) ([])):(true=true)∧(True∧(∀ r:Bool,(r=(decide (CfgP w.cfg)))→(true=true)∧(if ((!r)=true) then ((true=true)∧(K [(aB false)] [])) else (if (((((List.length w.ends):Nat):Int) != (2:Int))=true) then ((true=true)∧(K [(aB false)] [])) else (if (((((List.length w.net):Nat):Int) != (2:Int))=true) then ((true=true)∧(K [(aB false)] [])) else ((true=true)∧(True∧(∀ r1:Bool,(r1=(decide (((0:Int)≤w.link)∧(w.link≤(1:Int)))))→(true=true)∧(if ((!r1)=true) then ((true=true)∧(K [(aB false)] [])) else (∃ s:(Prod WldS Int),((KS.mk true [(Prod.mk (1:Nat) (T.pb (0:Nat) (1:Nat) (0:Nat))),(Prod.mk (3:Nat) (num IntKind.i64 (0:Int)))] [] [(Box.mk (Min.min (1:Nat) (1:Nat)) (Option.some [(Cm.d (D.i IntKind.i64 w.cfg.mode)),(Cm.d (D.i IntKind.i64 w.cfg.win)),(Cm.d (D.i IntKind.i64 w.cfg.mps)),(Cm.d (D.i IntKind.i64 w.cfg.mtu)),(Cm.d (D.i IntKind.i64 w.cfg.try_)),(Cm.d (D.r RK.wend w.ends)),(Cm.d (D.r RK.nets w.net)),(Cm.d (D.i IntKind.i64 w.link))]))])=(KS.mk true [(Prod.mk (1:Nat) (T.pb (0:Nat) (1:Nat) (0:Nat))),(Prod.mk (3:Nat) (num IntKind.i64 s.snd))] [] [(Box.mk (1:Nat) (Option.some [(Cm.d (D.i IntKind.i64 s.fst.cfg.mode)),(Cm.d (D.i IntKind.i64 s.fst.cfg.win)),(Cm.d (D.i IntKind.i64 s.fst.cfg.mps)),(Cm.d (D.i IntKind.i64 s.fst.cfg.mtu)),(Cm.d (D.i IntKind.i64 s.fst.cfg.try_)),(Cm.d (D.r RK.wend s.fst.ends)),(Cm.d (D.r RK.nets s.fst.net)),(Cm.d (D.i IntKind.i64 s.fst.link))]))]))∧(((WldM (1048576:Nat) s.fst)∧(((List.length s.fst.ends)=(2:Nat))∧(((List.length s.fst.net)=(2:Nat))∧(s.snd=(0:Int)))))∧((∀ r2:Unit,(∀ j:Nat,((j < (2:Nat))→(OkAt s.fst j)))→(true=true)∧(K [(aB true)] []))∧(∀ r2:Unit,(¬ (∀ j:Nat,((j < (2:Nat))→(OkAt s.fst j))))→(true=true)∧(K [(aB false)] [])))))))))))))) := by
  repeat' first
    | exact rfl
    | exact True.intro
    | with_reducible apply And.intro
    | (with_reducible intro r hr; subst r)
    | refine iteI (fun hx => ?_) (fun hx => ?_)
  all_goals try simp only [Bool.not_eq_true', decide_eq_false_iff_not, decide_eq_true_eq, Bool.not_eq_true, bne_iff_ne, beq_iff_eq, ne_eq, Decidable.not_not, Bool.not_eq_false, gt_iff_lt, ge_iff_le, Int.not_le, Int.not_lt, beq_eq_false_iff_ne, bne_eq_false_iff_eq, Bool.and_eq_true, Bool.or_eq_true, Bool.true_eq_false, Bool.false_eq_true] at *
  all_goals first
    | exact hk _ (decide_eq_false (fun hP => by have := hP.cfg; have := hP.el; have := hP.nl; have := hP.ln; first | contradiction | omega | simp_all)).symm
    | (refine ⟨(w, 0), rfl, ⟨hp, by (try dsimp only); omega, by (try dsimp only); omega, rfl⟩, ?_, ?_⟩
       · intro u h
         have h' := ok_two.1 h
         exact ⟨by trivial, hk _ (decide_eq_true ⟨by assumption, by omega, by omega, by omega, h'⟩).symm⟩
       · intro u h
         have h' : ¬ (OkAt w 0 ∧ OkAt w 1) := fun hh => h (ok_two.2 hh)
         exact ⟨by trivial, hk _ (decide_eq_false (fun hP => h' hP.ok)).symm⟩)
theorem vL_spec_WldOk_0 (w0:WldS) (k0:Int) (w:WldS) (k:Int) (n:Nat) (hp:(fun (w:WldS) (k:Int) => (WldM 1048576 w∧w.ends.length=2∧w.net.length=2∧k=0)) w0 k0) (hi:w=w0∧WldM 1048576 w∧w.ends.length=2∧w.net.length=2∧0≤k∧k + n=2∧∀ j:Nat,j < k.toNat→OkAt w j):if ((decide (k < (2:Int)))=true) then ((((0:Int)≤k)∧(k < (((List.length w.ends):Nat):Int)))∧((true=true)∧((EndM (1048576:Nat) (at_wend w.ends (Int.toNat k)))∧(∀ r:Bool,(r=(decide (EndP w.cfg (at_wend w.ends (Int.toNat k)))))→(true=true)∧((true=true)∧(if ((!r)=true) then (∃ r1:Unit,((KS.mk true [(Prod.mk (2:Nat) (boo false))] [] [(Box.mk (0:Nat) Option.none)])=(KS.mk true [(Prod.mk (2:Nat) (boo false))] [] [(Box.mk (0:Nat) Option.none)]))∧(¬ (∀ j:Nat,((j < (2:Nat))→(OkAt w0 j))))) else ((((0:Int)≤k)∧(k < (((List.length w.net):Nat):Int)))∧(if ((decide ((((List.length (at_nets w.net (Int.toNat k))):Nat):Int) > (30:Int)))=true) then (∃ r1:Unit,((KS.mk true [(Prod.mk (2:Nat) (boo false))] [] [(Box.mk (0:Nat) Option.none)])=(KS.mk true [(Prod.mk (2:Nat) (boo false))] [] [(Box.mk (0:Nat) Option.none)]))∧(¬ (∀ j:Nat,((j < (2:Nat))→(OkAt w0 j))))) else (∃ s:(Prod WldS (Prod Int Int)),((KS.mk true [(Prod.mk (1:Nat) (T.pb (0:Nat) (1:Nat) (0:Nat))),(Prod.mk (3:Nat) (num IntKind.i64 k)),(Prod.mk (4:Nat) (num IntKind.i64 (0:Int)))] [] [(Box.mk (Min.min (1:Nat) (1:Nat)) (Option.some [(Cm.d (D.i IntKind.i64 w.cfg.mode)),(Cm.d (D.i IntKind.i64 w.cfg.win)),(Cm.d (D.i IntKind.i64 w.cfg.mps)),(Cm.d (D.i IntKind.i64 w.cfg.mtu)),(Cm.d (D.i IntKind.i64 w.cfg.try_)),(Cm.d (D.r RK.wend w.ends)),(Cm.d (D.r RK.nets w.net)),(Cm.d (D.i IntKind.i64 w.link))]))])=(KS.mk true [(Prod.mk (1:Nat) (T.pb (0:Nat) (1:Nat) (0:Nat))),(Prod.mk (3:Nat) (num IntKind.i64 s.snd.fst)),(Prod.mk (4:Nat) (num IntKind.i64 s.snd.snd))] [] [(Box.mk (1:Nat) (Option.some [(Cm.d (D.i IntKind.i64 s.fst.cfg.mode)),(Cm.d (D.i IntKind.i64 s.fst.cfg.win)),(Cm.d (D.i IntKind.i64 s.fst.cfg.mps)),(Cm.d (D.i IntKind.i64 s.fst.cfg.mtu)),(Cm.d (D.i IntKind.i64 s.fst.cfg.try_)),(Cm.d (D.r RK.wend s.fst.ends)),(Cm.d (D.r RK.nets s.fst.net)),(Cm.d (D.i IntKind.i64 s.fst.link))]))]))∧(((WldM (1048576:Nat) s.fst)∧(((List.length s.fst.net)=(2:Nat))∧(((0:Int)≤s.snd.fst)∧((s.snd.fst < (2:Int))∧(s.snd.snd=(0:Int))))))∧((∀ r1:(Prod WldS Int),((r1.fst=s.fst)∧((r1.snd=s.snd.fst)∧((List.any (at_nets s.fst.net (Int.toNat s.snd.fst)) bigN)=false)))→∃ s1:(Prod WldS Int),((KS.mk true [(Prod.mk (1:Nat) (T.pb (0:Nat) (1:Nat) (0:Nat))),(Prod.mk (3:Nat) (num IntKind.i64 (IntKind.wrap IntKind.i64 (r1.snd + (1:Int)))))] [] [(Box.mk (Min.min (1:Nat) (1:Nat)) (Option.some [(Cm.d (D.i IntKind.i64 r1.fst.cfg.mode)),(Cm.d (D.i IntKind.i64 r1.fst.cfg.win)),(Cm.d (D.i IntKind.i64 r1.fst.cfg.mps)),(Cm.d (D.i IntKind.i64 r1.fst.cfg.mtu)),(Cm.d (D.i IntKind.i64 r1.fst.cfg.try_)),(Cm.d (D.r RK.wend r1.fst.ends)),(Cm.d (D.r RK.nets r1.fst.net)),(Cm.d (D.i IntKind.i64 r1.fst.link))]))])=(KS.mk true [(Prod.mk (1:Nat) (T.pb (0:Nat) (1:Nat) (0:Nat))),(Prod.mk (3:Nat) (num IntKind.i64 s1.snd))] [] [(Box.mk (1:Nat) (Option.some [(Cm.d (D.i IntKind.i64 s1.fst.cfg.mode)),(Cm.d (D.i IntKind.i64 s1.fst.cfg.win)),(Cm.d (D.i IntKind.i64 s1.fst.cfg.mps)),(Cm.d (D.i IntKind.i64 s1.fst.cfg.mtu)),(Cm.d (D.i IntKind.i64 s1.fst.cfg.try_)),(Cm.d (D.r RK.wend s1.fst.ends)),(Cm.d (D.r RK.nets s1.fst.net)),(Cm.d (D.i IntKind.i64 s1.fst.link))]))]))∧(∃ m:Nat,(m < n)∧((s1.fst=w0)∧((WldM (1048576:Nat) s1.fst)∧(((List.length s1.fst.ends)=(2:Nat))∧(((List.length s1.fst.net)=(2:Nat))∧(((0:Int)≤s1.snd)∧(((s1.snd + ((m:Nat):Int))=(2:Int))∧(∀ j:Nat,(j < (Int.toNat s1.snd))→(OkAt s1.fst j))))))))))∧(∀ r1:Unit,((List.any (at_nets s.fst.net (Int.toNat s.snd.fst)) bigN)=true)→∃ r2:Unit,((KS.mk true [(Prod.mk (2:Nat) (boo false))] [] [(Box.mk (0:Nat) Option.none)])=(KS.mk true [(Prod.mk (2:Nat) (boo false))] [] [(Box.mk (0:Nat) Option.none)]))∧(¬ (∀ j:Nat,((j < (2:Nat))→(OkAt w0 j)))))))))))))))) else (∃ r:Unit,((KS.mk true [] [] [(Box.mk (0:Nat) Option.none)])=(KS.mk true [] [] [(Box.mk (0:Nat) Option.none)]))∧(∀ j:Nat,(j < (2:Nat))→(OkAt w0 j))) := by
  try dsimp only at hp
  obtain ⟨rfl, hM, h1, h2, h3, h4, h5⟩ := hi
  obtain ⟨i, rfl⟩ : ∃ z : Nat, k = z := ⟨k.toNat, by omega⟩
  simp only [Int.toNat_natCast] at h5 ⊢
  refine iteI (fun h => ?_) (fun h => ?_)
  · have hi : i < 2 := by simp at h; omega
    have hE : EndM 1048576 (at_wend w.ends i) := hM.ed _ (at_mem .wend w.ends i (show i < w.ends.length from by omega))
    repeat' first
      | exact rfl
      | exact True.intro
      | with_reducible apply And.intro
      | (with_reducible intro r hr; subst r)
      | exact hE
      | omega
      | refine iteI (fun hx => ?_) (fun hx => ?_)
    all_goals simp only [Bool.not_eq_true', decide_eq_false_iff_not, decide_eq_true_eq, Bool.not_eq_true, bne_iff_ne, beq_iff_eq, ne_eq, Decidable.not_not, Bool.not_eq_false, gt_iff_lt, ge_iff_le, Int.not_le, Int.not_lt, beq_eq_false_iff_ne, bne_eq_false_iff_eq, Bool.and_eq_true, Bool.or_eq_true, Bool.true_eq_false, Bool.false_eq_true] at *
    all_goals first
      | omega
      | exact ⟨(), by trivial, fun hA => (‹¬ EndP _ _› : ¬ EndP _ _) (hA i hi).e⟩
      | exact ⟨(), by trivial, fun hA => by have := (hA i hi).n.1; omega⟩
      | (refine ⟨(w, (i : Int), 0), rfl, ⟨hM, h2, by (try dsimp only); omega, by (try dsimp only); omega, rfl⟩, ?_, ?_⟩
         · rintro ⟨w', k'⟩ ⟨e1, e2, e3⟩
           dsimp only at e1 e2 e3 ⊢
           simp only [Int.toNat_natCast] at e3
           subst e1 e2
           rw [wr (x := (i : Int) + 1) (by omega) (by omega)]
           refine ⟨(w', (i : Int) + 1), rfl, n - 1, by omega, rfl, hM, h1, h2, by (try dsimp only); omega, by (try dsimp only); omega, fun j hj => ?_⟩
           dsimp only at hj ⊢
           by_cases hji : j < i
           · exact h5 j hji
           · have e : j = i := by omega
             subst e
             exact ⟨by assumption, by omega, e3⟩
         · intro u h
           dsimp only at h
           simp only [Int.toNat_natCast] at h
           exact ⟨(), by trivial, fun hA => by have h2 := (hA i hi).n.2; rw [h] at h2; cases h2⟩)
  · exact ⟨(), by trivial, fun j hj => h5 j (by simp at h; omega)⟩
theorem vS_spec_WldOk_0 (w0 : WldS) (k0 : Int) (hp : (fun (w : WldS) (k : Int) => (WldM 1048576 w ∧ w.ends.length = 2 ∧ w.net.length = 2 ∧ k = 0)) w0 k0) : ∃ n : Nat, (fun (w : WldS) (k : Int) => (w = w0 ∧ WldM 1048576 w ∧ w.ends.length = 2 ∧ w.net.length = 2 ∧ 0 ≤ k ∧ k + n = 2 ∧ ∀ j : Nat, j < k.toNat → OkAt w j)) w0 k0 := by
  try dsimp only at hp
  try dsimp only
  obtain ⟨h0, h1, h2, rfl⟩ := hp
  exact ⟨2, rfl, h0, h1, h2, by omega, by omega, fun j hj => absurd hj (by simp)⟩
theorem vL_spec_WldOk_2 (w0:WldS) (k0:Int) (j0:Int) (w:WldS) (k:Int) (j:Int) (n:Nat) (hp:(fun (w:WldS) (k:Int) (j:Int) => (WldM 1048576 w∧w.net.length=2∧0≤k∧k < 2∧j=0)) w0 k0 j0) (hi:w=w0∧k=k0∧WldM 1048576 w∧w.net.length=2∧0≤k∧k < 2∧0≤j∧j + n=(at_nets w.net k.toNat).length∧((at_nets w.net k.toNat).take j.toNat).any bigN=false):(((0:Int)≤k)∧(k < (((List.length w.net):Nat):Int)))∧(if ((decide (j < (((List.length (at_nets w.net (Int.toNat k))):Nat):Int)))=true) then ((((0:Int)≤k)∧(k < (((List.length w.net):Nat):Int)))∧((((0:Int)≤j)∧(j < (((List.length (at_nets w.net (Int.toNat k))):Nat):Int)))∧(if ((decide ((((List.length (at_netm (at_nets w.net (Int.toNat k)) (Int.toNat j)).bytes):Nat):Int) > (15:Int)))=true) then (∃ r:Unit,((KS.mk true [(Prod.mk (2:Nat) (boo false))] [] [(Box.mk (0:Nat) Option.none)])=(KS.mk true [(Prod.mk (2:Nat) (boo false))] [] [(Box.mk (0:Nat) Option.none)]))∧((List.any (at_nets w0.net (Int.toNat k0)) bigN)=true)) else (∃ s:(Prod WldS (Prod Int Int)),((KS.mk true [(Prod.mk (1:Nat) (T.pb (0:Nat) (1:Nat) (0:Nat))),(Prod.mk (3:Nat) (num IntKind.i64 k)),(Prod.mk (4:Nat) (num IntKind.i64 (IntKind.wrap IntKind.i64 (j + (1:Int)))))] [] [(Box.mk (Min.min (1:Nat) (1:Nat)) (Option.some [(Cm.d (D.i IntKind.i64 w.cfg.mode)),(Cm.d (D.i IntKind.i64 w.cfg.win)),(Cm.d (D.i IntKind.i64 w.cfg.mps)),(Cm.d (D.i IntKind.i64 w.cfg.mtu)),(Cm.d (D.i IntKind.i64 w.cfg.try_)),(Cm.d (D.r RK.wend w.ends)),(Cm.d (D.r RK.nets w.net)),(Cm.d (D.i IntKind.i64 w.link))]))])=(KS.mk true [(Prod.mk (1:Nat) (T.pb (0:Nat) (1:Nat) (0:Nat))),(Prod.mk (3:Nat) (num IntKind.i64 s.snd.fst)),(Prod.mk (4:Nat) (num IntKind.i64 s.snd.snd))] [] [(Box.mk (1:Nat) (Option.some [(Cm.d (D.i IntKind.i64 s.fst.cfg.mode)),(Cm.d (D.i IntKind.i64 s.fst.cfg.win)),(Cm.d (D.i IntKind.i64 s.fst.cfg.mps)),(Cm.d (D.i IntKind.i64 s.fst.cfg.mtu)),(Cm.d (D.i IntKind.i64 s.fst.cfg.try_)),(Cm.d (D.r RK.wend s.fst.ends)),(Cm.d (D.r RK.nets s.fst.net)),(Cm.d (D.i IntKind.i64 s.fst.link))]))]))∧(∃ m:Nat,(m < n)∧((s.fst=w0)∧((s.snd.fst=k0)∧((WldM (1048576:Nat) s.fst)∧(((List.length s.fst.net)=(2:Nat))∧(((0:Int)≤s.snd.fst)∧((s.snd.fst < (2:Int))∧(((0:Int)≤s.snd.snd)∧(((s.snd.snd + ((m:Nat):Int))=(((List.length (at_nets s.fst.net (Int.toNat s.snd.fst))):Nat):Int))∧((List.any (List.take (Int.toNat s.snd.snd) (at_nets s.fst.net (Int.toNat s.snd.fst))) bigN)=false)))))))))))))) else (∃ r:(Prod WldS Int),((KS.mk true [(Prod.mk (1:Nat) (T.pb (0:Nat) (1:Nat) (0:Nat))),(Prod.mk (3:Nat) (num IntKind.i64 k))] [] [(Box.mk (Min.min (1:Nat) (1:Nat)) (Option.some [(Cm.d (D.i IntKind.i64 w.cfg.mode)),(Cm.d (D.i IntKind.i64 w.cfg.win)),(Cm.d (D.i IntKind.i64 w.cfg.mps)),(Cm.d (D.i IntKind.i64 w.cfg.mtu)),(Cm.d (D.i IntKind.i64 w.cfg.try_)),(Cm.d (D.r RK.wend w.ends)),(Cm.d (D.r RK.nets w.net)),(Cm.d (D.i IntKind.i64 w.link))]))])=(KS.mk true [(Prod.mk (1:Nat) (T.pb (0:Nat) (1:Nat) (0:Nat))),(Prod.mk (3:Nat) (num IntKind.i64 r.snd))] [] [(Box.mk (1:Nat) (Option.some [(Cm.d (D.i IntKind.i64 r.fst.cfg.mode)),(Cm.d (D.i IntKind.i64 r.fst.cfg.win)),(Cm.d (D.i IntKind.i64 r.fst.cfg.mps)),(Cm.d (D.i IntKind.i64 r.fst.cfg.mtu)),(Cm.d (D.i IntKind.i64 r.fst.cfg.try_)),(Cm.d (D.r RK.wend r.fst.ends)),(Cm.d (D.r RK.nets r.fst.net)),(Cm.d (D.i IntKind.i64 r.fst.link))]))]))∧((r.fst=w0)∧((r.snd=k0)∧((List.any (at_nets w0.net (Int.toNat k0)) bigN)=false))))) := by
  try dsimp only at hp
  obtain ⟨rfl, rfl, hM, h1, h2, h3, h4, h5, h6⟩ := hi
  obtain ⟨i, rfl⟩ : ∃ z : Nat, j = z := ⟨j.toNat, by omega⟩
  have hN : NetM 1048576 (at_nets w.net k.toNat) := hM.nd _ (at_mem .nets w.net k.toNat (show k.toNat < w.net.length from by omega))
  have g1 := hN.len
  rw [wr (x := (i : Int) + 1) (by omega) (by omega)]
  simp only [Int.toNat_natCast] at h6 ⊢
  repeat' first
    | exact rfl
    | exact True.intro
    | with_reducible apply And.intro
    | omega
    | refine iteI (fun hx => ?_) (fun hx => ?_)
  all_goals simp only [Bool.not_eq_true', decide_eq_false_iff_not, decide_eq_true_eq, Bool.not_eq_true, bne_iff_ne, beq_iff_eq, ne_eq, Decidable.not_not, Bool.not_eq_false, gt_iff_lt, ge_iff_le, Int.not_le, Int.not_lt, beq_eq_false_iff_ne, bne_eq_false_iff_eq, Bool.and_eq_true, Bool.or_eq_true, Bool.true_eq_false, Bool.false_eq_true] at *
  all_goals first
    | omega
    | exact ⟨(), by trivial, List.any_eq_true.2 ⟨at_netm (at_nets w.net k.toNat) i, at_mem .netm (at_nets w.net k.toNat) i (show i < (at_nets w.net k.toNat).length from by omega), decide_eq_true (by omega)⟩⟩
    | (refine ⟨(w, k, (i : Int) + 1), rfl, n - 1, by omega, rfl, rfl, hM, h1, h2, h3, by (try dsimp only); omega, by (try dsimp only); omega, ?_⟩
       show ((at_nets w.net k.toNat).take ((i : Int) + 1).toNat).any bigN = false
       have ee : (at_nets w.net k.toNat).take (i + 1) = (at_nets w.net k.toNat).take i ++ [at_netm (at_nets w.net k.toNat) i] := take_at .netm (at_nets w.net k.toNat) i (show i < (at_nets w.net k.toNat).length from by omega)
       have hx' : bigN (at_netm (at_nets w.net k.toNat) i) = false := decide_eq_false (by omega)
       rw [show ((i : Int) + 1).toNat = i + 1 by omega, ee, List.any_append, h6]; simp [hx'])
    | (have hi : i = (at_nets w.net k.toNat).length := by omega
       rw [hi, List.take_length] at h6
       exact ⟨(w, k), rfl, rfl, rfl, h6⟩)
theorem vS_spec_WldOk_2 (w0 : WldS) (k0 : Int) (j0 : Int) (hp : (fun (w : WldS) (k : Int) (j : Int) => (WldM 1048576 w ∧ w.net.length = 2 ∧ 0 ≤ k ∧ k < 2 ∧ j = 0)) w0 k0 j0) : ∃ n : Nat, (fun (w : WldS) (k : Int) (j : Int) => (w = w0 ∧ k = k0 ∧ WldM 1048576 w ∧ w.net.length = 2 ∧ 0 ≤ k ∧ k < 2 ∧ 0 ≤ j ∧ j + n = (at_nets w.net k.toNat).length ∧ ((at_nets w.net k.toNat).take j.toNat).any bigN = false)) w0 k0 j0 := by
  try dsimp only at hp
  try dsimp only
  obtain ⟨h0, h1, h2, h3, rfl⟩ := hp
  exact ⟨(at_nets w0.net k0.toNat).length, rfl, rfl, h0, h1, h2, h3, by omega, by omega, rfl⟩
theorem w_spec_WldOk : Valid Try.prog 6 c_spec_WldOk :=
  valid_ctr2 (V := V_spec_WldOk) (tysB_ok tys_ok) ⟨(CallsL.cons w_spec_CfgOk (CallsL.cons w_spec_l1In (CallsL.cons w_spec_l9End (CallsL.nil _)))), (IosL.nil _)⟩ mixed 0 1 Try.func6 rfl (by kernel_rfl)
    (fun c hc => by
      obtain rfl := Option.some.inj hc
      exact ⟨trivial, ⟨⟨trivial, ⟨⟨trivial, trivial⟩, trivial⟩⟩, ⟨⟨trivial, ⟨LoopD.ok2 (V := V_spec_WldOk) l_spec_WldOk_0 (LoopsM.cons 0 l_spec_WldOk_0 (LoopsM.cons 2 l_spec_WldOk_2 LoopsM.nil)) 0 _ i_spec_WldOk_0 (fun x hx => vS_spec_WldOk_0 x.1 x.2 hx) (fun x hx n s hi => ⟨_, by kernel_rfl, vL_spec_WldOk_0 x.1 x.2 s.1 s.2 n hx hi⟩), ⟨⟨trivial, ⟨trivial, trivial⟩⟩, ⟨⟨⟨trivial, ⟨⟨trivial, trivial⟩, trivial⟩⟩, ⟨trivial, ⟨LoopD.ok2 (V := V_spec_WldOk) l_spec_WldOk_2 (LoopsM.cons 0 l_spec_WldOk_0 (LoopsM.cons 2 l_spec_WldOk_2 LoopsM.nil)) 2 _ i_spec_WldOk_2 (fun x hx => vS_spec_WldOk_2 x.1 x.2.1 x.2.2 hx) (fun x hx n s hi => ⟨_, by kernel_rfl, vL_spec_WldOk_2 x.1 x.2.1 x.2.2 s.1 s.2.1 s.2.2 n hx hi⟩), ⟨⟨trivial, ⟨trivial, trivial⟩⟩, ⟨⟨trivial, ⟨⟨trivial, trivial⟩, trivial⟩⟩, trivial⟩⟩⟩⟩⟩, trivial⟩⟩⟩⟩, ⟨trivial, trivial⟩⟩⟩⟩)
    (fun x K hp hk => ⟨_, by kernel_rfl, vF_spec_WldOk x K hp (fun r h => hk r h)⟩)
end Go.Proofs.YtjjplncopjimdaaE
