/- A part of the proof of laws of the program: what calls of the program answer. Conditions: none. -/
import Derived.Test.YtdahhphhblbfdaaMfa474a21
set_option linter.unusedVariables false
set_option linter.unusedSimpArgs false
set_option linter.unusedSectionVars false
/- Contracts: X9C. Conditions: none. -/
set_option linter.unusedVariables false
set_option maxHeartbeats 1600000
namespace Go.Proofs.YtdahhphhblbfdaaE
open Go
/-! (impl.CrdTx).copyOf@x -/
def c_impl_CrdTx_copyOf_x : Ent := ctr (α := (CtS)) (ρ := (CtS)) [] [(0, 1)] (rs1 rCt) (fun x_ => (fun (t : CtS) => (t.queue.length ≤ 1000 ∧ ∀ p ∈ t.queue, p.data.length ≤ LIM)) x_) (fun x_ r_ => (fun x_ => (fun (t : CtS) => ((fun r_ => (fun (x : CtS) => (x = t)) r_))) x_) x_ r_) (fun r_ => (fun (x : CtS) => ([dCt x])) r_) (fun r_ => (fun (x : CtS) => ([])) r_)
def V_impl_CrdTx_copyOf_x : Env := ⟨tys, [(80, c_impl_copyParts_x)], [(5, [0])], [(1, 0), (2, 1)], [], [], [], [], []⟩
/-! impl.CrdTake@x -/
def c_impl_CrdTake_x : Ent := ctr (α := (Cfg) × (CtS) × (Int)) (ρ := (CtS)) [] [(0, 1)] (rs rCfg (rs rCt (rs1 rInt))) (fun x_ => (fun (c : Cfg) (t : CtS) (n : Int) => (True)) x_.1 x_.2.1 x_.2.2) (fun x_ r_ => (fun x_ => (fun (c : Cfg) (t : CtS) (n : Int) => ((fun r_ => (fun (q : CtS) => (q = crdTake c t n)) r_))) x_.1 x_.2.1 x_.2.2) x_ r_) (fun r_ => (fun (q : CtS) => ([dCt q])) r_) (fun r_ => (fun (q : CtS) => ([])) r_)
def V_impl_CrdTake_x : Env := ⟨tys, [(55, c_impl_CrdTxOk), (56, c_impl_in), (57, c_impl_CrdTx_copyOf_x)], [(17, [0]), (19, [0])], [(3, 0), (4, 1), (6, 2), (7, 3)], [], [], [500012, 500039, 700017], [], []⟩
/-! impl.CrdPut@x -/
def c_impl_CrdPut_x : Ent := ctr (α := (Cfg) × (CtS) × (List Int)) (ρ := (CtPutR)) [] [(0, 1)] (rs rCfg (rs rCt (rs1 rBytes))) (fun x_ => (fun (c : Cfg) (t : CtS) (s : List Int) => (s.length ≤ 1048576)) x_.1 x_.2.1 x_.2.2) (fun x_ r_ => (fun x_ => (fun (c : Cfg) (t : CtS) (s : List Int) => ((fun r_ => (fun (q : CtPutR) => (q = crdPut c t s)) r_))) x_.1 x_.2.1 x_.2.2) x_ r_) (fun r_ => (fun (q : CtPutR) => ([dCt q.t, rB.to q.ok])) r_) (fun r_ => (fun (q : CtPutR) => ([])) r_)
def V_impl_CrdPut_x : Env := ⟨tys, [(55, c_impl_CrdTxOk), (57, c_impl_CrdTx_copyOf_x), (62, c_impl_SegCut_x), (63, c_impl_clone_impl_SegPart_d)], [(14, [0]), (16, [0]), (30, [2]), (43, [1])], [(3, 0), (4, 1), (6, 2), (8, 3)], [], [], [500019, 700014], [], []⟩
/-! spec.CrdPut@x -/
def c_spec_CrdPut_x : Ent := ctr (α := (Cfg) × (CtS) × (List Int)) (ρ := (CtPutR)) [] [(0, 1)] (rs rCfg (rs rCt (rs1 rBytes))) (fun x_ => (fun (c : Cfg) (t : CtS) (s : List Int) => (s.length ≤ 1048576)) x_.1 x_.2.1 x_.2.2) (fun x_ r_ => (fun x_ => (fun (c : Cfg) (t : CtS) (s : List Int) => ((fun r_ => (fun (q : CtPutR) => (q = crdPut c t s)) r_))) x_.1 x_.2.1 x_.2.2) x_ r_) (fun r_ => (fun (q : CtPutR) => ([oCt q.t, rB.to q.ok])) r_) (fun r_ => (fun (q : CtPutR) => ([])) r_)
def V_spec_CrdPut_x : Env := ⟨tys, [(51, c_spec_CrdTxOk), (53, c_spec_l8Tx), (61, c_spec_SegCut_x)], [(14, [0]), (16, [0]), (46, [1])], [(3, 0), (4, 1), (6, 2), (8, 3)], [], [], [500023, 500030], [], []⟩
/-! impl.CrdSend@x -/
def c_impl_CrdSend_x : Ent := ctr (α := (Cfg) × (CtS)) (ρ := (CtSendR)) [] [(0, 1), (1, 8)] (rs rCfg (rs1 rCt)) (fun x_ => (fun (c : Cfg) (t : CtS) => (True)) x_.1 x_.2) (fun x_ r_ => (fun x_ => (fun (c : Cfg) (t : CtS) => ((fun r_ => (fun (q : CtSendR) => (q = crdSend c t)) r_))) x_.1 x_.2) x_ r_) (fun r_ => (fun (q : CtSendR) => ([dCt q.t, dFrm q.f, rB.to q.ok])) r_) (fun r_ => (fun (q : CtSendR) => ([])) r_)
def V_impl_CrdSend_x : Env := ⟨tys, [(55, c_impl_CrdTxOk), (57, c_impl_CrdTx_copyOf_x), (63, c_impl_clone_impl_SegPart_p), (65, c_impl_clone_byte)], [(13, [0]), (16, [0]), (44, [1]), (14, [2]), (36, [2]), (61, [2])], [(2, 0), (3, 1), (4, 2), (5, 3), (7, 4), (8, 5)], [(10, ([2, 3], [2]))], [], [500019, 500024, 500030, 700013, 600043], [], [(10, [(0, false), (1, false), (2, false), (3, false), (4, false), (5, false), (6, false), (7, true), (8, false), (9, true), (10, true), (11, false)])]⟩
/-! (impl.CrdRx).copyOf@x -/
def c_impl_CrdRx_copyOf_x : Ent := ctr (α := (CrS)) (ρ := (CrS)) [] [(0, 2)] (rs1 rCr) (fun x_ => (fun (r : CrS) => (r.join.got.length ≤ LIM)) x_) (fun x_ r_ => (fun x_ => (fun (r : CrS) => ((fun r_ => (fun (x : CrS) => (x = r)) r_))) x_) x_ r_) (fun r_ => (fun (x : CrS) => ([dCr x])) r_) (fun r_ => (fun (x : CrS) => ([])) r_)
def V_impl_CrdRx_copyOf_x : Env := ⟨tys, [(65, c_impl_clone_byte)], [(6, [0])], [(1, 0), (2, 1)], [], [], [], [], []⟩
/-! impl.CrdGrant@x -/
def c_impl_CrdGrant_x : Ent := ctr (α := (CrS)) (ρ := (GrantR)) [] [(0, 2), (1, 8)] (rs1 rCr) (fun x_ => (fun (r : CrS) => (r.join.got.length ≤ LIM)) x_) (fun x_ r_ => (fun x_ => (fun (r : CrS) => ((fun r_ => (fun (q : GrantR) => (q = crdGrant r)) r_))) x_) x_ r_) (fun r_ => (fun (q : GrantR) => ([dCr q.r, dFrm q.f, rB.to q.ok])) r_) (fun r_ => (fun (q : GrantR) => ([])) r_)
def V_impl_CrdGrant_x : Env := ⟨tys, [(44, c_impl_CrdRxOk), (45, c_impl_CrdRx_copyOf_x)], [(9, [0]), (12, [0]), (10, [1]), (21, [1]), (27, [1])], [(1, 0), (2, 1), (3, 2), (5, 3)], [(7, ([1, 2], [1]))], [], [500015], [], []⟩
/-! (impl.SegJoin).put@x -/
def c_impl_SegJoin_put_x : Ent := ctr (α := (JoinS) × (Part)) (ρ := (PutR)) [] [(0, 1), (1, 0)] (rs rJoin (rs1 rPart)) (fun x_ => (fun (j : JoinS) (p : Part) => (JoinP j ∧ 0 ≤ p.seg ∧ p.seg ≤ 3 ∧ p.data.length ≤ 1000000000)) x_.1 x_.2) (fun x_ r_ => (fun x_ => (fun (j : JoinS) (p : Part) => ((fun r_ => (fun (q : PutR) => (q = segPut j p)) r_))) x_.1 x_.2) x_ r_) (fun r_ => (fun (q : PutR) => ([dJoin q.j, (rO 5 .u8).to q.sdu, rInt.to q.how])) r_) (fun r_ => (fun (q : PutR) => ([])) r_)
def V_impl_SegJoin_put_x : Env := ⟨tys, [(65, c_impl_clone_byte)], [(10, [0]), (14, [1]), (24, [2]), (75, [2]), (77, [2]), (5, [3])], [(2, 0), (3, 1), (4, 2)], [(1, ([], [0, 1]))], [], [500019, 500030, 500043, 500048, 500063, 500068], [], [(1, [(0, false), (1, false), (3, false), (4, false), (2, true), (5, true), (6, true), (7, false)])]⟩
/-! (*impl.CrdRx).hear@x -/
def c_impl_CrdRx_hear_x : Ent := ctr (α := (CrS) × (Cfg) × (Frm)) (ρ := (CrHearR)) [] [(0, 0)] (rs rPCr (rs rCfg (rs1 rFrm))) (fun x_ => (fun (r : CrS) (c : Cfg) (f : Frm) => (CrIn c r f ∧ f.data.length ≤ 1000000000)) x_.1 x_.2.1 x_.2.2) (fun x_ r_ => (fun x_ => (fun (r : CrS) (c : Cfg) (f : Frm) => ((fun r_ => (fun (q : CrHearR) => (q = crdHear1 c r f)) r_))) x_.1 x_.2.1 x_.2.2) x_ r_) (fun r_ => (fun (q : CrHearR) => ([(rOd 22 .byr).to q.sdus])) r_) (fun r_ => (fun (q : CrHearR) => ([(crC q.r).map .d])) r_)
def V_impl_CrdRx_hear_x : Env := ⟨tys, [(91, c_impl_SegJoin_put_x)], [(6, [0]), (75, [0]), (58, [1, 2])], [(4, 1), (5, 2), (7, 3)], [(7, ([3], [1, 2]))], [], [500021, 500028, 700006], [], [(7, [(0, false), (1, false), (2, false), (3, false), (4, false), (5, false), (6, false), (7, false), (8, false), (9, false), (10, false), (16, false), (11, true), (12, false), (13, false), (14, false), (15, false), (17, true), (18, false), (19, false)])]⟩
/-! impl.CrdHear@x -/
def c_impl_CrdHear_x : Ent := ctr (α := (Cfg) × (CrS) × (Frm)) (ρ := (CrHearR)) [] [(0, 2), (1, 0)] (rs rCfg (rs rCr (rs1 rFrm))) (fun x_ => (fun (c : Cfg) (r : CrS) (f : Frm) => (f.data.length ≤ 1000000000)) x_.1 x_.2.1 x_.2.2) (fun x_ r_ => (fun x_ => (fun (c : Cfg) (r : CrS) (f : Frm) => ((fun r_ => (fun (q : CrHearR) => (q = crdHear c r f)) r_))) x_.1 x_.2.1 x_.2.2) x_ r_) (fun r_ => (fun (q : CrHearR) => ([dCr q.r, (rOd 22 .byr).to q.sdus])) r_) (fun r_ => (fun (q : CrHearR) => ([])) r_)
def V_impl_CrdHear_x : Env := ⟨tys, [(44, c_impl_CrdRxOk), (45, c_impl_CrdRx_copyOf_x), (71, c_impl_CfgOk), (72, c_impl_FrmOk), (73, c_impl_CrdRx_hear_x)], [(28, [0]), (35, [0]), (7, [1]), (33, [1])], [(3, 0), (4, 1), (5, 2), (6, 3), (8, 4)], [], [], [500013, 500018, 500023, 700007], [], []⟩
end Go.Proofs.YtdahhphhblbfdaaE

/- Calls answer what is promised: X9C. Conditions: none. -/
set_option linter.unusedVariables false
set_option maxHeartbeats 1600000
namespace Go.Proofs.YtdahhphhblbfdaaE
open Go
theorem vF_impl_CrdTx_copyOf_x (t:CtS) (K:List Arg→List (List AC)→Prop) (hp:t.queue.length≤1000∧∀ p ∈ t.queue,p.data.length≤LIM) (hk:∀ (x:CtS),(x=t)→K ([dCt x]) ([])):(true=true)∧((((List.length t.queue)≤(1000:Nat))∧(∀ p:Part,(List.Mem p t.queue)→((List.length p.data)≤(137438953472:Nat))))∧(∀ r:(List Part),(r=t.queue)→((List.length r)=(List.length r))∧((true=true)∧((true=true)∧(K [(Arg.v true [(AC.d (D.i IntKind.i64 t.have_)),(AC.own (RC.mk (93:Nat) RK.part r (RM.mk (dpM false (Option.some (List.length r))) false (0:Nat) false))),(AC.d (D.i IntKind.i64 t.granted)),(AC.d (D.i IntKind.i64 t.sent)),(AC.d (D.b t.dead))])] []))))) := by
  repeat' first
    | exact rfl
    | exact True.intro
    | with_reducible apply And.intro
    | (with_reducible intro y_ hy_; subst hy_)
    | with_reducible intro y_
    | (refine iteI (fun h => ?_) (fun h => ?_))
  all_goals try simp only [Bool.not_eq_true', decide_eq_false_iff_not, decide_eq_true_eq, Bool.not_eq_true, bne_iff_ne, beq_iff_eq, ne_eq, Decidable.not_not, Bool.not_eq_false, gt_iff_lt, ge_iff_le, Int.not_le, Int.not_lt, beq_eq_false_iff_ne, bne_eq_false_iff_eq, Bool.and_eq_true, Bool.or_eq_true, Bool.true_eq_false, Bool.false_eq_true] at *
  all_goals try simp (disch := first | omega | grind []) only [wr] at *
  all_goals first
    | assumption
    | omega
    | exact hk _ rfl
    | exact hp.2 _ ‹List.Mem _ _›
    | exact hk _ (by grind [])
    | (simp only [LIM] at *; omega)
    | grind [LIM]
theorem w_impl_CrdTx_copyOf_x : Valid Try.prog 57 c_impl_CrdTx_copyOf_x :=
  valid_ctr2 (V := V_impl_CrdTx_copyOf_x) (tysB_ok tys_ok) ⟨(CallsL.cons w_impl_copyParts_x (CallsL.nil _)), (IosL.nil _)⟩ mixed 1 2 Try.func57 rfl (by kernel_rfl)
    (fun c hc => by
      obtain rfl := Option.some.inj hc
      exact ⟨trivial, ⟨trivial, ⟨trivial, trivial⟩⟩⟩)
    (fun x K hp hk => ⟨_, by kernel_rfl, vF_impl_CrdTx_copyOf_x x K hp (fun x h => hk x h)⟩)
theorem vF_impl_CrdTake_x (c:Cfg) (t:CtS) (n:Int) (K:List Arg→List (List AC)→Prop) (hp:True) (hk:∀ (q:CtS),(q=crdTake c t n)→K ([dCt q]) ([])):(true=true)∧(True∧(∀ r:Bool,(r=(decide (CtP c t)))→(true=true)∧(if ((!r)=true) then ((true=true)∧(K [(Arg.v true [(AC.d (D.i IntKind.i64 (0:Int))),(AC.own (RC.mk (93:Nat) RK.part ([]:(List Part)) (RM.mk (dpM false (Option.some (0:Nat))) false (0:Nat) false))),(AC.d (D.i IntKind.i64 (0:Int))),(AC.d (D.i IntKind.i64 (0:Int))),(AC.d (D.b false))])] [])) else ((true=true)∧(True∧(∀ r1:Bool,(r1=(decide (((1:Int)≤n)∧(n≤(255:Int)))))→(true=true)∧(if ((!r1)=true) then ((true=true)∧(K [(Arg.v true [(AC.d (D.i IntKind.i64 (0:Int))),(AC.own (RC.mk (93:Nat) RK.part ([]:(List Part)) (RM.mk (dpM false (Option.some (0:Nat))) false (0:Nat) false))),(AC.d (D.i IntKind.i64 (0:Int))),(AC.d (D.i IntKind.i64 (0:Int))),(AC.d (D.b false))])] [])) else ((true=true)∧((((List.length t.queue)≤(1000:Nat))∧(∀ p:Part,(List.Mem p t.queue)→((List.length p.data)≤(137438953472:Nat))))∧(∀ r2:CtS,(r2=t)→((List.length r2.queue)=(List.length r2.queue))∧((true=true)∧(if (t.dead=true) then ((true=true)∧(K [(Arg.v true [(AC.d (D.i IntKind.i64 r2.have_)),(AC.own (RC.mk (93:Nat) RK.part r2.queue (RM.mk (dpM false (Option.some (List.length r2.queue))) false (0:Nat) false))),(AC.d (D.i IntKind.i64 r2.granted)),(AC.d (D.i IntKind.i64 r2.sent)),(AC.d (D.b r2.dead))])] [])) else (if ((decide ((IntKind.wrap IntKind.i64 (t.have_ + n)) > (255:Int)))=true) then ((true=true)∧(K [(Arg.v true [(AC.d (D.i IntKind.i64 r2.have_)),(AC.own (RC.mk (93:Nat) RK.part r2.queue (RM.mk (dpM false (Option.some (List.length r2.queue))) false (0:Nat) false))),(AC.d (D.i IntKind.i64 r2.granted)),(AC.d (D.i IntKind.i64 r2.sent)),(AC.d (D.b true))])] [])) else (if ((decide ((IntKind.wrap IntKind.i64 (t.granted + n)) > (9999:Int)))=true) then ((true=true)∧(K [(Arg.v true [(AC.d (D.i IntKind.i64 r2.have_)),(AC.own (RC.mk (93:Nat) RK.part r2.queue (RM.mk (dpM false (Option.some (List.length r2.queue))) false (0:Nat) false))),(AC.d (D.i IntKind.i64 r2.granted)),(AC.d (D.i IntKind.i64 r2.sent)),(AC.d (D.b true))])] [])) else ((true=true)∧(K [(Arg.v true [(AC.d (D.i IntKind.i64 (IntKind.wrap IntKind.i64 (r2.have_ + n)))),(AC.own (RC.mk (93:Nat) RK.part r2.queue (RM.mk (dpM false (Option.some (List.length r2.queue))) false (0:Nat) false))),(AC.d (D.i IntKind.i64 (IntKind.wrap IntKind.i64 (r2.granted + n)))),(AC.d (D.i IntKind.i64 r2.sent)),(AC.d (D.b r2.dead))])] [])))))))))))))))) := by
  repeat' first
    | exact rfl
    | exact True.intro
    | with_reducible apply And.intro
    | (with_reducible intro y_ hy_; subst hy_)
    | with_reducible intro y_
    | (refine iteI (fun h => ?_) (fun h => ?_))
  all_goals try simp only [Bool.not_eq_true', decide_eq_false_iff_not, decide_eq_true_eq, Bool.not_eq_true, bne_iff_ne, beq_iff_eq, ne_eq, Decidable.not_not, Bool.not_eq_false, gt_iff_lt, ge_iff_le, Int.not_le, Int.not_lt, beq_eq_false_iff_ne, bne_eq_false_iff_eq, Bool.and_eq_true, Bool.or_eq_true, Bool.true_eq_false, Bool.false_eq_true] at *
  all_goals try simp (disch := first | omega | grind [CtP]) only [wr] at *
  all_goals try have h7 := CtP.len ‹CtP _ _›
  all_goals try have h8 := (‹CtP _ _› : CtP _ _).2
  all_goals try simp (disch := omega) only [wr] at *
  all_goals first
    | assumption
    | omega
    | exact CtP.data ‹CtP _ _› _ ‹List.Mem _ _›
    | exact CtP.data ‹CtP _ _› _ (at0_mem (by omega))
    | (have h9 := CtP.data ‹CtP _ _› _ (at0_mem (by omega))
       omega)
    | (rw [List.length_take, List.length_drop]; omega)
    | exact CtP.data ‹CtP _ _› _ (List.mem_of_mem_drop (List.mem_of_mem_take ‹List.Mem _ _›))
    | (have h9 := hk _ rfl
       unfold crdSend pieceF at h9
       rw [if_pos ‹CtP _ _›, if_neg (by grind)] at h9
       dsimp only at h9
       rw [← drop1] at h9
       exact h9)
    | (have h := hk _ rfl
       unfold crdTake at h
       try dsimp only at h
       first
       | exact h
       | (repeat' split at h
          all_goals first | exact h | (exfalso; grind [CtP]) | (exfalso; simp at *; omega)))
    | exact hk _ (by grind [CtP])
    | (simp only [LIM] at *; omega)
    | grind [CtP, LIM]
theorem w_impl_CrdTake_x : Valid Try.prog 22 c_impl_CrdTake_x :=
  valid_ctr2 (V := V_impl_CrdTake_x) (tysB_ok tys_ok) ⟨(CallsL.cons w_impl_CrdTxOk (CallsL.cons w_impl_in (CallsL.cons w_impl_CrdTx_copyOf_x (CallsL.nil _)))), (IosL.nil _)⟩ mixed 1 4 Try.func22 rfl (by kernel_rfl)
    (fun c hc => by
      obtain rfl := Option.some.inj hc
      exact ⟨trivial, ⟨⟨trivial, ⟨⟨trivial, trivial⟩, trivial⟩⟩, ⟨trivial, ⟨⟨trivial, ⟨trivial, ⟨trivial, ⟨trivial, ⟨trivial, trivial⟩⟩⟩⟩⟩, ⟨trivial, trivial⟩⟩⟩⟩⟩)
    (fun x K hp hk => ⟨_, by kernel_rfl, vF_impl_CrdTake_x x.1 x.2.1 x.2.2 K hp (fun q h => hk q h)⟩)
theorem vF_impl_CrdPut_x (c:Cfg) (t:CtS) (s:List Int) (K:List Arg→List (List AC)→Prop) (hp:s.length≤1048576) (hk:∀ (q:CtPutR),(q=crdPut c t s)→K ([dCt q.t,rB.to q.ok]) ([])):(true=true)∧(True∧(∀ r:Bool,(r=(decide (CtP c t)))→(true=true)∧(if ((!r)=true) then ((true=true)∧(K [(Arg.v true [(AC.d (D.i IntKind.i64 (0:Int))),(AC.own (RC.mk (93:Nat) RK.part ([]:(List Part)) (RM.mk (dpM false (Option.some (0:Nat))) false (0:Nat) false))),(AC.d (D.i IntKind.i64 (0:Int))),(AC.d (D.i IntKind.i64 (0:Int))),(AC.d (D.b false))]),(aB false)] [])) else ((true=true)∧((((List.length t.queue)≤(1000:Nat))∧(∀ p:Part,(List.Mem p t.queue)→((List.length p.data)≤(137438953472:Nat))))∧(∀ r1:CtS,(r1=t)→((List.length r1.queue)=(List.length r1.queue))∧((true=true)∧(if (t.dead=true) then ((true=true)∧(K [(Arg.v true [(AC.d (D.i IntKind.i64 r1.have_)),(AC.own (RC.mk (93:Nat) RK.part r1.queue (RM.mk (dpM false (Option.some (List.length r1.queue))) false (0:Nat) false))),(AC.d (D.i IntKind.i64 r1.granted)),(AC.d (D.i IntKind.i64 r1.sent)),(AC.d (D.b r1.dead))]),(aB false)] [])) else (if ((decide ((((List.length s):Nat):Int) > c.mtu))=true) then ((true=true)∧(K [(Arg.v true [(AC.d (D.i IntKind.i64 r1.have_)),(AC.own (RC.mk (93:Nat) RK.part r1.queue (RM.mk (dpM false (Option.some (List.length r1.queue))) false (0:Nat) false))),(AC.d (D.i IntKind.i64 r1.granted)),(AC.d (D.i IntKind.i64 r1.sent)),(AC.d (D.b r1.dead))]),(aB false)] [])) else ((true=true)∧(((List.length s)≤(1048576:Nat))∧(∀ r2:(List Part),(r2=(segCut s c.mps))→((List.length r2)=(List.length r2))∧((true=true)∧(if ((decide ((IntKind.wrap IntKind.i64 ((((List.length t.queue):Nat):Int) + (((List.length r2):Nat):Int))) > (24:Int)))=true) then ((true=true)∧(K [(Arg.v true [(AC.d (D.i IntKind.i64 r1.have_)),(AC.own (RC.mk (93:Nat) RK.part r1.queue (RM.mk (dpM false (Option.some (List.length r1.queue))) false (0:Nat) false))),(AC.d (D.i IntKind.i64 r1.granted)),(AC.d (D.i IntKind.i64 r1.sent)),(AC.d (D.b r1.dead))]),(aB false)] [])) else ((((List.length r1.queue)=(List.length r1.queue))∧(((List.length r2)=(List.length r2))∧(((List.length r1.queue) + (List.length r2))≤(137438953472:Nat))))∧((true=true)∧((((List.length r1.queue) + (List.length r2))=(List.length (r1.queue ++ r2:(List Part))))∧(((List.length (r1.queue ++ r2:(List Part)))≤(137438953472:Nat))∧(∀ r3:(List Part),(r3=(r1.queue ++ r2:(List Part)))→((List.length r3)=(List.length r3))∧((true=true)∧((true=true)∧(K [(Arg.v true [(AC.d (D.i IntKind.i64 r1.have_)),(AC.own (RC.mk (93:Nat) RK.part r3 (RM.mk (dpM false (Option.some (List.length r3))) false (0:Nat) false))),(AC.d (D.i IntKind.i64 r1.granted)),(AC.d (D.i IntKind.i64 r1.sent)),(AC.d (D.b r1.dead))]),(aB true)] [])))))))))))))))))))))) := by
  repeat' first
    | exact rfl
    | exact True.intro
    | with_reducible apply And.intro
    | (with_reducible intro y_ hy_; subst hy_)
    | with_reducible intro y_
    | (refine iteI (fun h => ?_) (fun h => ?_))
  all_goals try simp only [Bool.not_eq_true', decide_eq_false_iff_not, decide_eq_true_eq, Bool.not_eq_true, bne_iff_ne, beq_iff_eq, ne_eq, Decidable.not_not, Bool.not_eq_false, gt_iff_lt, ge_iff_le, Int.not_le, Int.not_lt, beq_eq_false_iff_ne, bne_eq_false_iff_eq, Bool.and_eq_true, Bool.or_eq_true, Bool.true_eq_false, Bool.false_eq_true] at *
  all_goals try simp (disch := first | omega | grind [CtP]) only [wr] at *
  all_goals try have h7 := CtP.len ‹CtP _ _›
  all_goals try have h8 := segCut_len s c.mps
  all_goals try simp (disch := omega) only [wr] at *
  all_goals first
    | assumption
    | omega
    | exact CtP.data ‹CtP _ _› _ ‹List.Mem _ _›
    | (rcases List.mem_append.1 (show _ ∈ _ ++ _ from ‹List.Mem _ _›) with h9 | h9
       · exact CtP.data ‹CtP _ _› _ h9
       · exact Nat.le_trans (segCut_data _ _ _ h9) (by decide))
    | (rw [List.length_append]; omega)
    | (have h := hk _ rfl
       unfold crdPut at h
       try dsimp only at h
       first
       | exact h
       | (repeat' split at h
          all_goals first | exact h | (exfalso; grind [CtP]) | (exfalso; simp at *; omega)))
    | exact hk _ (by grind [CtP])
    | (simp only [LIM] at *; omega)
    | grind [CtP, LIM]
theorem w_impl_CrdPut_x : Valid Try.prog 28 c_impl_CrdPut_x :=
  valid_ctr2 (V := V_impl_CrdPut_x) (tysB_ok tys_ok) ⟨(CallsL.cons w_impl_CrdTxOk (CallsL.cons w_impl_CrdTx_copyOf_x (CallsL.cons w_impl_SegCut_x (CallsL.cons w_impl_clone_impl_SegPart_d (CallsL.nil _))))), (IosL.nil _)⟩ mixed 3 4 Try.func28 rfl (by kernel_rfl)
    (fun c hc => by
      obtain rfl := Option.some.inj hc
      exact ⟨trivial, ⟨⟨trivial, ⟨⟨trivial, trivial⟩, trivial⟩⟩, ⟨trivial, ⟨⟨trivial, ⟨⟨trivial, trivial⟩, trivial⟩⟩, ⟨trivial, ⟨⟨trivial, ⟨⟨trivial, trivial⟩, trivial⟩⟩, ⟨trivial, ⟨trivial, trivial⟩⟩⟩⟩⟩⟩⟩⟩)
    (fun x K hp hk => ⟨_, by kernel_rfl, vF_impl_CrdPut_x x.1 x.2.1 x.2.2 K hp (fun q h => hk q h)⟩)
theorem vF_spec_CrdPut_x (c:Cfg) (t:CtS) (s:List Int) (K:List Arg→List (List AC)→Prop) (hp:s.length≤1048576) (hk:∀ (q:CtPutR),(q=crdPut c t s)→K ([oCt q.t,rB.to q.ok]) ([])):(true=true)∧(True∧(∀ r:Bool,(r=(decide (CtP c t)))→(true=true)∧(if ((!r)=true) then ((true=true)∧(K [(Arg.v true [(AC.d (D.i IntKind.i64 (0:Int))),(AC.own (RC.mk (93:Nat) RK.part ([]:(List Part)) (RM.mk (dpM false (Option.none)) false (0:Nat) false))),(AC.d (D.i IntKind.i64 (0:Int))),(AC.d (D.i IntKind.i64 (0:Int))),(AC.d (D.b false))]),(aB false)] [])) else ((true=true)∧((((List.length t.queue)≤(1000:Nat))∧(∀ p:Part,(List.Mem p t.queue)→((List.length p.data)≤(137438953472:Nat))))∧(∀ r1:CtS,(r1=t)→(true=true)∧((true=true)∧(((List.length s)≤(1048576:Nat))∧(∀ r2:(List Part),(r2=(segCut s c.mps))→(true=true)∧(if (t.dead=true) then ((true=true)∧(K [(Arg.v true [(AC.d (D.i IntKind.i64 r1.have_)),(AC.own (RC.mk (93:Nat) RK.part r1.queue (RM.mk (dpM false (Option.none)) false (0:Nat) false))),(AC.d (D.i IntKind.i64 r1.granted)),(AC.d (D.i IntKind.i64 r1.sent)),(AC.d (D.b r1.dead))]),(aB false)] [])) else (if ((decide ((((List.length s):Nat):Int) > c.mtu))=true) then ((true=true)∧(K [(Arg.v true [(AC.d (D.i IntKind.i64 r1.have_)),(AC.own (RC.mk (93:Nat) RK.part r1.queue (RM.mk (dpM false (Option.none)) false (0:Nat) false))),(AC.d (D.i IntKind.i64 r1.granted)),(AC.d (D.i IntKind.i64 r1.sent)),(AC.d (D.b r1.dead))]),(aB false)] [])) else (if ((decide ((IntKind.wrap IntKind.i64 ((((List.length t.queue):Nat):Int) + (((List.length r2):Nat):Int))) > (24:Int)))=true) then ((true=true)∧(K [(Arg.v true [(AC.d (D.i IntKind.i64 r1.have_)),(AC.own (RC.mk (93:Nat) RK.part r1.queue (RM.mk (dpM false (Option.none)) false (0:Nat) false))),(AC.d (D.i IntKind.i64 r1.granted)),(AC.d (D.i IntKind.i64 r1.sent)),(AC.d (D.b r1.dead))]),(aB false)] [])) else ((((List.length r1.queue) + (List.length r2))≤(137438953472:Nat))∧((true=true)∧((((List.length (r1.queue ++ r2:(List Part)))≤(1000:Nat))∧(∀ p:Part,(List.Mem p (r1.queue ++ r2:(List Part)))→((List.length p.data)≤(137438953472:Nat))))∧(∀ r3:CtS,(r3=(CtS.mk r1.have_ (r1.queue ++ r2:(List Part)) r1.granted r1.sent r1.dead))→(true=true)∧((true=true)∧(K [(Arg.v true [(AC.d (D.i IntKind.i64 r3.have_)),(AC.own (RC.mk (93:Nat) RK.part r3.queue (RM.mk (dpM false (Option.none)) false (0:Nat) false))),(AC.d (D.i IntKind.i64 r3.granted)),(AC.d (D.i IntKind.i64 r3.sent)),(AC.d (D.b r3.dead))]),(aB true)] [])))))))))))))))))) := by
  repeat' first
    | exact rfl
    | exact True.intro
    | with_reducible apply And.intro
    | (with_reducible intro y_ hy_; subst hy_)
    | with_reducible intro y_
    | (refine iteI (fun h => ?_) (fun h => ?_))
  all_goals try simp only [Bool.not_eq_true', decide_eq_false_iff_not, decide_eq_true_eq, Bool.not_eq_true, bne_iff_ne, beq_iff_eq, ne_eq, Decidable.not_not, Bool.not_eq_false, gt_iff_lt, ge_iff_le, Int.not_le, Int.not_lt, beq_eq_false_iff_ne, bne_eq_false_iff_eq, Bool.and_eq_true, Bool.or_eq_true, Bool.true_eq_false, Bool.false_eq_true] at *
  all_goals try simp (disch := first | omega | grind [CtP]) only [wr] at *
  all_goals try have h7 := CtP.len ‹CtP _ _›
  all_goals try have h8 := segCut_len s c.mps
  all_goals try simp (disch := omega) only [wr] at *
  all_goals first
    | assumption
    | omega
    | exact CtP.data ‹CtP _ _› _ ‹List.Mem _ _›
    | (rcases List.mem_append.1 (show _ ∈ _ ++ _ from ‹List.Mem _ _›) with h9 | h9
       · exact CtP.data ‹CtP _ _› _ h9
       · exact Nat.le_trans (segCut_data _ _ _ h9) (by decide))
    | (rw [List.length_append]; omega)
    | (have h := hk _ rfl
       unfold crdPut at h
       try dsimp only at h
       first
       | exact h
       | (repeat' split at h
          all_goals first | exact h | (exfalso; grind [CtP]) | (exfalso; simp at *; omega)))
    | exact hk _ (by grind [CtP])
    | (simp only [LIM] at *; omega)
    | grind [CtP, LIM]
theorem w_spec_CrdPut_x : Valid Try.prog 26 c_spec_CrdPut_x :=
  valid_ctr2 (V := V_spec_CrdPut_x) (tysB_ok tys_ok) ⟨(CallsL.cons w_spec_CrdTxOk (CallsL.cons w_spec_l8Tx (CallsL.cons w_spec_SegCut_x (CallsL.nil _)))), (IosL.nil _)⟩ mixed 2 4 Try.func26 rfl (by kernel_rfl)
    (fun c hc => by
      obtain rfl := Option.some.inj hc
      exact ⟨trivial, ⟨⟨trivial, ⟨⟨trivial, trivial⟩, trivial⟩⟩, ⟨trivial, ⟨trivial, ⟨⟨trivial, ⟨⟨trivial, trivial⟩, trivial⟩⟩, ⟨trivial, ⟨trivial, trivial⟩⟩⟩⟩⟩⟩⟩)
    (fun x K hp hk => ⟨_, by kernel_rfl, vF_spec_CrdPut_x x.1 x.2.1 x.2.2 K hp (fun q h => hk q h)⟩)
theorem vF_impl_CrdSend_x (c:Cfg) (t:CtS) (K:List Arg→List (List AC)→Prop) (hp:True) (hk:∀ (q:CtSendR),(q=crdSend c t)→K ([dCt q.t,dFrm q.f,rB.to q.ok]) ([])):(true=true)∧(True∧(∀ r:Bool,(r=(decide (CtP c t)))→(true=true)∧(if ((!r)=true) then ((true=true)∧(K [(Arg.v true [(AC.d (D.i IntKind.i64 (0:Int))),(AC.own (RC.mk (93:Nat) RK.part ([]:(List Part)) (RM.mk (dpM false (Option.some (0:Nat))) false (0:Nat) false))),(AC.d (D.i IntKind.i64 (0:Int))),(AC.d (D.i IntKind.i64 (0:Int))),(AC.d (D.b false))]),(Arg.v true [(AC.d (D.i IntKind.i64 (0:Int))),(AC.d (D.i IntKind.i64 (0:Int))),(AC.d (D.i IntKind.i64 (0:Int))),(AC.d (D.b false)),(AC.d (D.b false)),(AC.d (D.i IntKind.i64 (0:Int))),(AC.d (D.i IntKind.i64 (0:Int))),(AC.d (D.i IntKind.i64 (0:Int))),(AC.own (RC.mk (5:Nat) RK.u8 ([]:(List Int)) (RM.mk (dpM false (Option.none)) false (0:Nat) false)))]),(aB false)] [])) else ((true=true)∧((((List.length t.queue)≤(1000:Nat))∧(∀ p:Part,(List.Mem p t.queue)→((List.length p.data)≤(137438953472:Nat))))∧(∀ r1:CtS,(r1=t)→((List.length r1.queue)=(List.length r1.queue))∧((true=true)∧(if (t.dead=true) then ((true=true)∧(K [(Arg.v true [(AC.d (D.i IntKind.i64 r1.have_)),(AC.own (RC.mk (93:Nat) RK.part r1.queue (RM.mk (dpM false (Option.some (List.length r1.queue))) false (0:Nat) false))),(AC.d (D.i IntKind.i64 r1.granted)),(AC.d (D.i IntKind.i64 r1.sent)),(AC.d (D.b r1.dead))]),(Arg.v true [(AC.d (D.i IntKind.i64 (0:Int))),(AC.d (D.i IntKind.i64 (0:Int))),(AC.d (D.i IntKind.i64 (0:Int))),(AC.d (D.b false)),(AC.d (D.b false)),(AC.d (D.i IntKind.i64 (0:Int))),(AC.d (D.i IntKind.i64 (0:Int))),(AC.d (D.i IntKind.i64 (0:Int))),(AC.own (RC.mk (5:Nat) RK.u8 ([]:(List Int)) (RM.mk (dpM false (Option.none)) false (0:Nat) false)))]),(aB false)] [])) else (if ((t.have_ == (0:Int))=true) then ((true=true)∧(K [(Arg.v true [(AC.d (D.i IntKind.i64 r1.have_)),(AC.own (RC.mk (93:Nat) RK.part r1.queue (RM.mk (dpM false (Option.some (List.length r1.queue))) false (0:Nat) false))),(AC.d (D.i IntKind.i64 r1.granted)),(AC.d (D.i IntKind.i64 r1.sent)),(AC.d (D.b r1.dead))]),(Arg.v true [(AC.d (D.i IntKind.i64 (0:Int))),(AC.d (D.i IntKind.i64 (0:Int))),(AC.d (D.i IntKind.i64 (0:Int))),(AC.d (D.b false)),(AC.d (D.b false)),(AC.d (D.i IntKind.i64 (0:Int))),(AC.d (D.i IntKind.i64 (0:Int))),(AC.d (D.i IntKind.i64 (0:Int))),(AC.own (RC.mk (5:Nat) RK.u8 ([]:(List Int)) (RM.mk (dpM false (Option.none)) false (0:Nat) false)))]),(aB false)] [])) else (if (((((List.length t.queue):Nat):Int) == (0:Int))=true) then ((true=true)∧(K [(Arg.v true [(AC.d (D.i IntKind.i64 r1.have_)),(AC.own (RC.mk (93:Nat) RK.part r1.queue (RM.mk (dpM false (Option.some (List.length r1.queue))) false (0:Nat) false))),(AC.d (D.i IntKind.i64 r1.granted)),(AC.d (D.i IntKind.i64 r1.sent)),(AC.d (D.b r1.dead))]),(Arg.v true [(AC.d (D.i IntKind.i64 (0:Int))),(AC.d (D.i IntKind.i64 (0:Int))),(AC.d (D.i IntKind.i64 (0:Int))),(AC.d (D.b false)),(AC.d (D.b false)),(AC.d (D.i IntKind.i64 (0:Int))),(AC.d (D.i IntKind.i64 (0:Int))),(AC.d (D.i IntKind.i64 (0:Int))),(AC.own (RC.mk (5:Nat) RK.u8 ([]:(List Int)) (RM.mk (dpM false (Option.none)) false (0:Nat) false)))]),(aB false)] [])) else (if ((t.sent == (9999:Int))=true) then ((true=true)∧(K [(Arg.v true [(AC.d (D.i IntKind.i64 r1.have_)),(AC.own (RC.mk (93:Nat) RK.part r1.queue (RM.mk (dpM false (Option.some (List.length r1.queue))) false (0:Nat) false))),(AC.d (D.i IntKind.i64 r1.granted)),(AC.d (D.i IntKind.i64 r1.sent)),(AC.d (D.b r1.dead))]),(Arg.v true [(AC.d (D.i IntKind.i64 (0:Int))),(AC.d (D.i IntKind.i64 (0:Int))),(AC.d (D.i IntKind.i64 (0:Int))),(AC.d (D.b false)),(AC.d (D.b false)),(AC.d (D.i IntKind.i64 (0:Int))),(AC.d (D.i IntKind.i64 (0:Int))),(AC.d (D.i IntKind.i64 (0:Int))),(AC.own (RC.mk (5:Nat) RK.u8 ([]:(List Int)) (RM.mk (dpM false (Option.none)) false (0:Nat) false)))]),(aB false)] [])) else ((((0:Int)≤(0:Int))∧((0:Int) < (((List.length t.queue):Nat):Int)))∧(((((0:Int)≤(1:Int))∧(((1:Int)≤(((List.length r1.queue):Nat):Int))∧((((List.length r1.queue):Nat):Int)≤(((List.length r1.queue):Nat):Int))))∧((List.length r1.queue)=(List.length r1.queue)))∧((true=true)∧(((List.length (List.take ((Int.toNat (((List.length r1.queue):Nat):Int)) - (1:Nat)) (List.drop (1:Nat) r1.queue)))=(List.length (List.take ((Int.toNat (((List.length r1.queue):Nat):Int)) - (1:Nat)) (List.drop (1:Nat) r1.queue))))∧(((List.length (List.take ((Int.toNat (((List.length r1.queue):Nat):Int)) - (1:Nat)) (List.drop (1:Nat) r1.queue)))≤(137438953472:Nat))∧(∀ r2:(List Part),(r2=(List.take ((Int.toNat (((List.length r1.queue):Nat):Int)) - (1:Nat)) (List.drop (1:Nat) r1.queue)))→((List.length r2)=(List.length r2))∧((true=true)∧((true=true)∧(((List.length (at_part t.queue (0:Nat)).data)≤(137438953472:Nat))∧(∀ r3:(List Int),(r3=(at_part t.queue (0:Nat)).data)→(true=true)∧((true=true)∧((true=true)∧((true=true)∧((true=true)∧(K [(Arg.v true [(AC.d (D.i IntKind.i64 (IntKind.wrap IntKind.i64 (r1.have_ - (1:Int))))),(AC.own (RC.mk (93:Nat) RK.part r2 (RM.mk (dpM false (Option.some (List.length r2))) false (0:Nat) false))),(AC.d (D.i IntKind.i64 r1.granted)),(AC.d (D.i IntKind.i64 (IntKind.wrap IntKind.i64 (r1.sent + (1:Int))))),(AC.d (D.b r1.dead))]),(Arg.v true [(AC.d (D.i IntKind.i64 (3:Int))),(AC.d (D.i IntKind.i64 (0:Int))),(AC.d (D.i IntKind.i64 (0:Int))),(AC.d (D.b false)),(AC.d (D.b false)),(AC.d (D.i IntKind.i64 (0:Int))),(AC.d (D.i IntKind.i64 (at_part t.queue (0:Nat)).seg)),(AC.d (D.i IntKind.i64 (at_part t.queue (0:Nat)).len)),(AC.own (RC.mk (5:Nat) RK.u8 r3 (RM.mk (dpM false (Option.none)) false (0:Nat) false)))]),(aB true)] [])))))))))))))))))))))))))) := by
  repeat' first
    | exact rfl
    | exact True.intro
    | with_reducible apply And.intro
    | (with_reducible intro y_ hy_; subst hy_)
    | with_reducible intro y_
    | (refine iteI (fun h => ?_) (fun h => ?_))
  all_goals try simp only [Bool.not_eq_true', decide_eq_false_iff_not, decide_eq_true_eq, Bool.not_eq_true, bne_iff_ne, beq_iff_eq, ne_eq, Decidable.not_not, Bool.not_eq_false, gt_iff_lt, ge_iff_le, Int.not_le, Int.not_lt, beq_eq_false_iff_ne, bne_eq_false_iff_eq, Bool.and_eq_true, Bool.or_eq_true, Bool.true_eq_false, Bool.false_eq_true] at *
  all_goals try simp (disch := first | omega | grind [CtP]) only [wr] at *
  all_goals try have h7 := CtP.len ‹CtP _ _›
  all_goals try have h8 := (‹CtP _ _› : CtP _ _).2
  all_goals try simp (disch := omega) only [wr] at *
  all_goals first
    | assumption
    | omega
    | exact CtP.data ‹CtP _ _› _ ‹List.Mem _ _›
    | exact CtP.data ‹CtP _ _› _ (at0_mem (by omega))
    | (have h9 := CtP.data ‹CtP _ _› _ (at0_mem (by omega))
       omega)
    | (rw [List.length_take, List.length_drop]; omega)
    | exact CtP.data ‹CtP _ _› _ (List.mem_of_mem_drop (List.mem_of_mem_take ‹List.Mem _ _›))
    | (have h9 := hk _ rfl
       unfold crdSend pieceF at h9
       rw [if_pos ‹CtP _ _›, if_neg (by grind)] at h9
       dsimp only at h9
       rw [← drop1] at h9
       exact h9)
    | (have h := hk _ rfl
       unfold crdSend at h
       try dsimp only at h
       first
       | exact h
       | (repeat' split at h
          all_goals first | exact h | (exfalso; grind [CtP]) | (exfalso; simp at *; omega)))
    | (have h := hk _ rfl
       unfold crdSend pieceF at h
       try dsimp only at h
       repeat' split at h
       all_goals first | exact h | (exfalso; grind [CtP]) | (exfalso; simp at *; omega))
    | exact hk _ (by grind [CtP])
    | (simp only [LIM] at *; omega)
    | grind [CtP, LIM]
theorem w_impl_CrdSend_x : Valid Try.prog 32 c_impl_CrdSend_x :=
  valid_ctr2 (V := V_impl_CrdSend_x) (tysB_ok tys_ok) ⟨(CallsL.cons w_impl_CrdTxOk (CallsL.cons w_impl_CrdTx_copyOf_x (CallsL.cons w_impl_clone_impl_SegPart_p (CallsL.cons w_impl_clone_byte (CallsL.nil _))))), (IosL.nil _)⟩ mixed 3 6 Try.func32 rfl (by kernel_rfl)
    (fun c hc => by
      obtain rfl := Option.some.inj hc
      exact ⟨trivial, ⟨⟨trivial, ⟨⟨trivial, trivial⟩, trivial⟩⟩, ⟨trivial, ⟨⟨trivial, ⟨⟨trivial, trivial⟩, trivial⟩⟩, ⟨trivial, ⟨trivial, ⟨trivial, ⟨trivial, ⟨trivial, trivial⟩⟩⟩⟩⟩⟩⟩⟩⟩)
    (fun x K hp hk => ⟨_, by kernel_rfl, vF_impl_CrdSend_x x.1 x.2 K hp (fun q h => hk q h)⟩)
theorem vF_impl_CrdRx_copyOf_x (r:CrS) (K:List Arg→List (List AC)→Prop) (hp:r.join.got.length≤LIM) (hk:∀ (x:CrS),(x=r)→K ([dCr x]) ([])):(true=true)∧(((List.length r.join.got)≤(137438953472:Nat))∧(∀ r1:(List Int),(r1=r.join.got)→(true=true)∧((true=true)∧(K [(Arg.v true [(AC.d (D.i IntKind.i64 r.out)),(AC.d (D.i IntKind.i64 r.join.len)),(AC.own (RC.mk (5:Nat) RK.u8 r1 (RM.mk (dpM false (Option.none)) false (0:Nat) false))),(AC.d (D.b r.dead))])] [])))) := by
  repeat' first
    | exact rfl
    | exact True.intro
    | with_reducible apply And.intro
    | (with_reducible intro r hr; subst hr)
    | with_reducible intro r
    | (refine iteI (fun h => ?_) (fun h => ?_))
  all_goals try simp (disch := omega) only [wr] at *
  all_goals first
    | assumption
    | exact hk r rfl
    | exact hk _ (by grind [IntKind.wrap_i64])
    | (simp only [LIM] at *; omega)
    | grind [LIM]
theorem w_impl_CrdRx_copyOf_x : Valid Try.prog 45 c_impl_CrdRx_copyOf_x :=
  valid_ctr2 (V := V_impl_CrdRx_copyOf_x) (tysB_ok tys_ok) ⟨(CallsL.cons w_impl_clone_byte (CallsL.nil _)), (IosL.nil _)⟩ mixed 1 2 Try.func45 rfl (by kernel_rfl)
    (fun c hc => by
      obtain rfl := Option.some.inj hc
      exact ⟨trivial, ⟨trivial, ⟨trivial, trivial⟩⟩⟩)
    (fun x K hp hk => ⟨_, by kernel_rfl, vF_impl_CrdRx_copyOf_x x K hp (fun x h => hk x h)⟩)
theorem vF_impl_CrdGrant_x (r:CrS) (K:List Arg→List (List AC)→Prop) (hp:r.join.got.length≤LIM) (hk:∀ (q:GrantR),(q=crdGrant r)→K ([dCr q.r,dFrm q.f,rB.to q.ok]) ([])):(true=true)∧(True∧(∀ r1:Bool,(r1=(decide (CrP r)))→(true=true)∧(if ((!r1)=true) then ((true=true)∧(K [(Arg.v true [(AC.d (D.i IntKind.i64 (0:Int))),(AC.d (D.i IntKind.i64 (0:Int))),(AC.own (RC.mk (5:Nat) RK.u8 ([]:(List Int)) (RM.mk (dpM false (Option.none)) false (0:Nat) false))),(AC.d (D.b false))]),(Arg.v true [(AC.d (D.i IntKind.i64 (0:Int))),(AC.d (D.i IntKind.i64 (0:Int))),(AC.d (D.i IntKind.i64 (0:Int))),(AC.d (D.b false)),(AC.d (D.b false)),(AC.d (D.i IntKind.i64 (0:Int))),(AC.d (D.i IntKind.i64 (0:Int))),(AC.d (D.i IntKind.i64 (0:Int))),(AC.own (RC.mk (5:Nat) RK.u8 ([]:(List Int)) (RM.mk (dpM false (Option.none)) false (0:Nat) false)))]),(aB false)] [])) else ((true=true)∧(((List.length r.join.got)≤(137438953472:Nat))∧(∀ r2:CrS,(r2=r)→(true=true)∧(if (r.dead=true) then ((true=true)∧(K [(Arg.v true [(AC.d (D.i IntKind.i64 r2.out)),(AC.d (D.i IntKind.i64 r2.join.len)),(AC.own (RC.mk (5:Nat) RK.u8 r2.join.got (RM.mk (dpM false (Option.none)) false (0:Nat) false))),(AC.d (D.b r2.dead))]),(Arg.v true [(AC.d (D.i IntKind.i64 (0:Int))),(AC.d (D.i IntKind.i64 (0:Int))),(AC.d (D.i IntKind.i64 (0:Int))),(AC.d (D.b false)),(AC.d (D.b false)),(AC.d (D.i IntKind.i64 (0:Int))),(AC.d (D.i IntKind.i64 (0:Int))),(AC.d (D.i IntKind.i64 (0:Int))),(AC.own (RC.mk (5:Nat) RK.u8 ([]:(List Int)) (RM.mk (dpM false (Option.none)) false (0:Nat) false)))]),(aB false)] [])) else (if ((decide (r.out ≥ (6:Int)))=true) then ((true=true)∧(K [(Arg.v true [(AC.d (D.i IntKind.i64 r2.out)),(AC.d (D.i IntKind.i64 r2.join.len)),(AC.own (RC.mk (5:Nat) RK.u8 r2.join.got (RM.mk (dpM false (Option.none)) false (0:Nat) false))),(AC.d (D.b r2.dead))]),(Arg.v true [(AC.d (D.i IntKind.i64 (0:Int))),(AC.d (D.i IntKind.i64 (0:Int))),(AC.d (D.i IntKind.i64 (0:Int))),(AC.d (D.b false)),(AC.d (D.b false)),(AC.d (D.i IntKind.i64 (0:Int))),(AC.d (D.i IntKind.i64 (0:Int))),(AC.d (D.i IntKind.i64 (0:Int))),(AC.own (RC.mk (5:Nat) RK.u8 ([]:(List Int)) (RM.mk (dpM false (Option.none)) false (0:Nat) false)))]),(aB false)] [])) else (((true=true)∧((true=true)∧((true=true)∧((true=true)∧(K [(Arg.v true [(AC.d (D.i IntKind.i64 (6:Int))),(AC.d (D.i IntKind.i64 r2.join.len)),(AC.own (RC.mk (5:Nat) RK.u8 r2.join.got (RM.mk (dpM false (Option.none)) false (0:Nat) false))),(AC.d (D.b r2.dead))]),(Arg.v true [(AC.d (D.i IntKind.i64 (4:Int))),(AC.d (D.i IntKind.i64 (0:Int))),(AC.d (D.i IntKind.i64 (0:Int))),(AC.d (D.b false)),(AC.d (D.b false)),(AC.d (D.i IntKind.i64 (0:Int))),(AC.d (D.i IntKind.i64 (0:Int))),(AC.d (D.i IntKind.i64 (IntKind.wrap IntKind.i64 ((6:Int) - r.out)))),(AC.own (RC.mk (5:Nat) RK.u8 ([]:(List Int)) (RM.mk (dpM false (Option.none)) false (0:Nat) false)))]),(aB true)] [])))))∧((true=true)∧((true=true)∧((true=true)∧((true=true)∧(K [(Arg.v true [(AC.d (D.i IntKind.i64 (6:Int))),(AC.d (D.i IntKind.i64 r2.join.len)),(AC.own (RC.mk (5:Nat) RK.u8 r2.join.got (RM.mk (dpM false (Option.none)) false (0:Nat) false))),(AC.d (D.b r2.dead))]),(Arg.v true [(AC.d (D.i IntKind.i64 (4:Int))),(AC.d (D.i IntKind.i64 (0:Int))),(AC.d (D.i IntKind.i64 (0:Int))),(AC.d (D.b false)),(AC.d (D.b false)),(AC.d (D.i IntKind.i64 (0:Int))),(AC.d (D.i IntKind.i64 (0:Int))),(AC.d (D.i IntKind.i64 (IntKind.wrap IntKind.i64 ((6:Int) - r.out)))),(AC.own (RC.mk (5:Nat) RK.u8 ([]:(List Int)) (RM.mk (dpM false (Option.none)) false (0:Nat) false)))]),(aB true)] [])))))))))))))) := by
  repeat' first
    | exact rfl
    | exact True.intro
    | with_reducible apply And.intro
    | (with_reducible intro y_ hy_; subst hy_)
    | with_reducible intro y_
    | (refine iteI (fun h => ?_) (fun h => ?_))
  all_goals try simp only [Bool.not_eq_true', decide_eq_false_iff_not, decide_eq_true_eq, Bool.not_eq_true, bne_iff_ne, beq_iff_eq, ne_eq, Decidable.not_not, Bool.not_eq_false, gt_iff_lt, ge_iff_le, Int.not_le, Int.not_lt, beq_eq_false_iff_ne, bne_eq_false_iff_eq, Bool.and_eq_true, Bool.or_eq_true, Bool.true_eq_false, Bool.false_eq_true] at *
  all_goals try simp (disch := first | omega | grind [crdGrant, CrP, JoinP]) only [wr] at *
  all_goals first
    | assumption
    | omega
    | (have h := hk _ rfl
       unfold crdGrant at h
       try dsimp only at h
       first
       | exact h
       | (repeat' split at h
          all_goals first | exact h | (exfalso; grind [crdGrant, CrP, JoinP]) | (exfalso; simp at *; omega)))
    | exact hk _ (by grind [crdGrant, CrP, JoinP])
    | (simp only [LIM] at *; omega)
    | grind [crdGrant, CrP, JoinP, LIM]
theorem w_impl_CrdGrant_x : Valid Try.prog 11 c_impl_CrdGrant_x :=
  valid_ctr2 (V := V_impl_CrdGrant_x) (tysB_ok tys_ok) ⟨(CallsL.cons w_impl_CrdRxOk (CallsL.cons w_impl_CrdRx_copyOf_x (CallsL.nil _))), (IosL.nil _)⟩ mixed 2 4 Try.func11 rfl (by kernel_rfl)
    (fun c hc => by
      obtain rfl := Option.some.inj hc
      exact ⟨trivial, ⟨⟨trivial, ⟨⟨trivial, trivial⟩, trivial⟩⟩, ⟨trivial, ⟨⟨trivial, ⟨⟨trivial, trivial⟩, trivial⟩⟩, ⟨trivial, ⟨trivial, trivial⟩⟩⟩⟩⟩⟩)
    (fun x K hp hk => ⟨_, by kernel_rfl, vF_impl_CrdGrant_x x K hp (fun q h => hk q h)⟩)
theorem vF_impl_SegJoin_put_x (j:JoinS) (p:Part) (K:List Arg→List (List AC)→Prop) (hp:JoinP j∧0≤p.seg∧p.seg≤3∧p.data.length≤1000000000) (hk:∀ (q:PutR),(q=segPut j p)→K ([dJoin q.j,(rO 5 .u8).to q.sdu,rInt.to q.how]) ([])):(true=true)∧(((List.length j.got)≤(137438953472:Nat))∧(∀ r:(List Int),(r=j.got)→(true=true)∧((true=true)∧((((List.length r) + (List.length p.data))≤(137438953472:Nat))∧((true=true)∧((true=true)∧(((List.length (r ++ p.data:(List Int)))≤(137438953472:Nat))∧(∀ r1:(List Int),(r1=(r ++ p.data:(List Int)))→(true=true)∧((true=true)∧(if ((p.seg == (0:Int))=true) then (if ((j.len == (0:Int))=true) then ((true=true)∧(K [(Arg.v true [(AC.d (D.i IntKind.i64 (0:Int))),(AC.own (RC.mk (5:Nat) RK.u8 ([]:(List Int)) (RM.mk (dpM false (Option.none)) false (0:Nat) false)))]),(Arg.v false [(AC.own (RC.mk (5:Nat) RK.u8 r1 (RM.mk (dpM false (Option.none)) false (0:Nat) false)))]),(aI IntKind.i64 (2:Int))] [])) else (if ((p.seg == (1:Int))=true) then (if ((j.len == (0:Int))=true) then ((true=true)∧(K [(Arg.v true [(AC.d (D.i IntKind.i64 p.len)),(AC.own (RC.mk (5:Nat) RK.u8 r1 (RM.mk (dpM false (Option.none)) false (0:Nat) false)))]),(Arg.v false [(AC.own (RC.mk (5:Nat) RK.u8 ([]:(List Int)) (RM.mk (dpM false (Option.none)) false (0:Nat) false)))]),(aI IntKind.i64 (1:Int))] [])) else (if ((p.seg == (2:Int))=true) then (if ((decide (j.len > (0:Int)))=true) then (if ((decide ((((List.length r1):Nat):Int) < j.len))=true) then ((true=true)∧(K [(Arg.v true [(AC.d (D.i IntKind.i64 j.len)),(AC.own (RC.mk (5:Nat) RK.u8 r1 (RM.mk (dpM false (Option.none)) false (0:Nat) false)))]),(Arg.v false [(AC.own (RC.mk (5:Nat) RK.u8 ([]:(List Int)) (RM.mk (dpM false (Option.none)) false (0:Nat) false)))]),(aI IntKind.i64 (1:Int))] [])) else (if ((p.seg == (3:Int))=true) then (if ((decide (j.len > (0:Int)))=true) then (if (((((List.length r1):Nat):Int) == j.len)=true) then ((true=true)∧(K [(Arg.v true [(AC.d (D.i IntKind.i64 (0:Int))),(AC.own (RC.mk (5:Nat) RK.u8 ([]:(List Int)) (RM.mk (dpM false (Option.none)) false (0:Nat) false)))]),(Arg.v false [(AC.own (RC.mk (5:Nat) RK.u8 r1 (RM.mk (dpM false (Option.none)) false (0:Nat) false)))]),(aI IntKind.i64 (2:Int))] [])) else ((true=true)∧(K [(Arg.v true [(AC.d (D.i IntKind.i64 (0:Int))),(AC.own (RC.mk (5:Nat) RK.u8 ([]:(List Int)) (RM.mk (dpM false (Option.none)) false (0:Nat) false)))]),(Arg.v false [(AC.own (RC.mk (5:Nat) RK.u8 ([]:(List Int)) (RM.mk (dpM false (Option.none)) false (0:Nat) false)))]),(aI IntKind.i64 (3:Int))] []))) else ((true=true)∧(K [(Arg.v true [(AC.d (D.i IntKind.i64 (0:Int))),(AC.own (RC.mk (5:Nat) RK.u8 ([]:(List Int)) (RM.mk (dpM false (Option.none)) false (0:Nat) false)))]),(Arg.v false [(AC.own (RC.mk (5:Nat) RK.u8 ([]:(List Int)) (RM.mk (dpM false (Option.none)) false (0:Nat) false)))]),(aI IntKind.i64 (3:Int))] []))) else ((true=true)∧(K [(Arg.v true [(AC.d (D.i IntKind.i64 (0:Int))),(AC.own (RC.mk (5:Nat) RK.u8 ([]:(List Int)) (RM.mk (dpM false (Option.none)) false (0:Nat) false)))]),(Arg.v false [(AC.own (RC.mk (5:Nat) RK.u8 ([]:(List Int)) (RM.mk (dpM false (Option.none)) false (0:Nat) false)))]),(aI IntKind.i64 (3:Int))] [])))) else (if ((p.seg == (3:Int))=true) then (if ((decide (j.len > (0:Int)))=true) then (if (((((List.length r1):Nat):Int) == j.len)=true) then ((true=true)∧(K [(Arg.v true [(AC.d (D.i IntKind.i64 (0:Int))),(AC.own (RC.mk (5:Nat) RK.u8 ([]:(List Int)) (RM.mk (dpM false (Option.none)) false (0:Nat) false)))]),(Arg.v false [(AC.own (RC.mk (5:Nat) RK.u8 r1 (RM.mk (dpM false (Option.none)) false (0:Nat) false)))]),(aI IntKind.i64 (2:Int))] [])) else ((true=true)∧(K [(Arg.v true [(AC.d (D.i IntKind.i64 (0:Int))),(AC.own (RC.mk (5:Nat) RK.u8 ([]:(List Int)) (RM.mk (dpM false (Option.none)) false (0:Nat) false)))]),(Arg.v false [(AC.own (RC.mk (5:Nat) RK.u8 ([]:(List Int)) (RM.mk (dpM false (Option.none)) false (0:Nat) false)))]),(aI IntKind.i64 (3:Int))] []))) else ((true=true)∧(K [(Arg.v true [(AC.d (D.i IntKind.i64 (0:Int))),(AC.own (RC.mk (5:Nat) RK.u8 ([]:(List Int)) (RM.mk (dpM false (Option.none)) false (0:Nat) false)))]),(Arg.v false [(AC.own (RC.mk (5:Nat) RK.u8 ([]:(List Int)) (RM.mk (dpM false (Option.none)) false (0:Nat) false)))]),(aI IntKind.i64 (3:Int))] []))) else ((true=true)∧(K [(Arg.v true [(AC.d (D.i IntKind.i64 (0:Int))),(AC.own (RC.mk (5:Nat) RK.u8 ([]:(List Int)) (RM.mk (dpM false (Option.none)) false (0:Nat) false)))]),(Arg.v false [(AC.own (RC.mk (5:Nat) RK.u8 ([]:(List Int)) (RM.mk (dpM false (Option.none)) false (0:Nat) false)))]),(aI IntKind.i64 (3:Int))] [])))) else (if ((p.seg == (3:Int))=true) then (if ((decide (j.len > (0:Int)))=true) then (if (((((List.length r1):Nat):Int) == j.len)=true) then ((true=true)∧(K [(Arg.v true [(AC.d (D.i IntKind.i64 (0:Int))),(AC.own (RC.mk (5:Nat) RK.u8 ([]:(List Int)) (RM.mk (dpM false (Option.none)) false (0:Nat) false)))]),(Arg.v false [(AC.own (RC.mk (5:Nat) RK.u8 r1 (RM.mk (dpM false (Option.none)) false (0:Nat) false)))]),(aI IntKind.i64 (2:Int))] [])) else ((true=true)∧(K [(Arg.v true [(AC.d (D.i IntKind.i64 (0:Int))),(AC.own (RC.mk (5:Nat) RK.u8 ([]:(List Int)) (RM.mk (dpM false (Option.none)) false (0:Nat) false)))]),(Arg.v false [(AC.own (RC.mk (5:Nat) RK.u8 ([]:(List Int)) (RM.mk (dpM false (Option.none)) false (0:Nat) false)))]),(aI IntKind.i64 (3:Int))] []))) else ((true=true)∧(K [(Arg.v true [(AC.d (D.i IntKind.i64 (0:Int))),(AC.own (RC.mk (5:Nat) RK.u8 ([]:(List Int)) (RM.mk (dpM false (Option.none)) false (0:Nat) false)))]),(Arg.v false [(AC.own (RC.mk (5:Nat) RK.u8 ([]:(List Int)) (RM.mk (dpM false (Option.none)) false (0:Nat) false)))]),(aI IntKind.i64 (3:Int))] []))) else ((true=true)∧(K [(Arg.v true [(AC.d (D.i IntKind.i64 (0:Int))),(AC.own (RC.mk (5:Nat) RK.u8 ([]:(List Int)) (RM.mk (dpM false (Option.none)) false (0:Nat) false)))]),(Arg.v false [(AC.own (RC.mk (5:Nat) RK.u8 ([]:(List Int)) (RM.mk (dpM false (Option.none)) false (0:Nat) false)))]),(aI IntKind.i64 (3:Int))] []))))) else (if ((p.seg == (2:Int))=true) then (if ((decide (j.len > (0:Int)))=true) then (if ((decide ((((List.length r1):Nat):Int) < j.len))=true) then ((true=true)∧(K [(Arg.v true [(AC.d (D.i IntKind.i64 j.len)),(AC.own (RC.mk (5:Nat) RK.u8 r1 (RM.mk (dpM false (Option.none)) false (0:Nat) false)))]),(Arg.v false [(AC.own (RC.mk (5:Nat) RK.u8 ([]:(List Int)) (RM.mk (dpM false (Option.none)) false (0:Nat) false)))]),(aI IntKind.i64 (1:Int))] [])) else (if ((p.seg == (3:Int))=true) then (if ((decide (j.len > (0:Int)))=true) then (if (((((List.length r1):Nat):Int) == j.len)=true) then ((true=true)∧(K [(Arg.v true [(AC.d (D.i IntKind.i64 (0:Int))),(AC.own (RC.mk (5:Nat) RK.u8 ([]:(List Int)) (RM.mk (dpM false (Option.none)) false (0:Nat) false)))]),(Arg.v false [(AC.own (RC.mk (5:Nat) RK.u8 r1 (RM.mk (dpM false (Option.none)) false (0:Nat) false)))]),(aI IntKind.i64 (2:Int))] [])) else ((true=true)∧(K [(Arg.v true [(AC.d (D.i IntKind.i64 (0:Int))),(AC.own (RC.mk (5:Nat) RK.u8 ([]:(List Int)) (RM.mk (dpM false (Option.none)) false (0:Nat) false)))]),(Arg.v false [(AC.own (RC.mk (5:Nat) RK.u8 ([]:(List Int)) (RM.mk (dpM false (Option.none)) false (0:Nat) false)))]),(aI IntKind.i64 (3:Int))] []))) else ((true=true)∧(K [(Arg.v true [(AC.d (D.i IntKind.i64 (0:Int))),(AC.own (RC.mk (5:Nat) RK.u8 ([]:(List Int)) (RM.mk (dpM false (Option.none)) false (0:Nat) false)))]),(Arg.v false [(AC.own (RC.mk (5:Nat) RK.u8 ([]:(List Int)) (RM.mk (dpM false (Option.none)) false (0:Nat) false)))]),(aI IntKind.i64 (3:Int))] []))) else ((true=true)∧(K [(Arg.v true [(AC.d (D.i IntKind.i64 (0:Int))),(AC.own (RC.mk (5:Nat) RK.u8 ([]:(List Int)) (RM.mk (dpM false (Option.none)) false (0:Nat) false)))]),(Arg.v false [(AC.own (RC.mk (5:Nat) RK.u8 ([]:(List Int)) (RM.mk (dpM false (Option.none)) false (0:Nat) false)))]),(aI IntKind.i64 (3:Int))] [])))) else (if ((p.seg == (3:Int))=true) then (if ((decide (j.len > (0:Int)))=true) then (if (((((List.length r1):Nat):Int) == j.len)=true) then ((true=true)∧(K [(Arg.v true [(AC.d (D.i IntKind.i64 (0:Int))),(AC.own (RC.mk (5:Nat) RK.u8 ([]:(List Int)) (RM.mk (dpM false (Option.none)) false (0:Nat) false)))]),(Arg.v false [(AC.own (RC.mk (5:Nat) RK.u8 r1 (RM.mk (dpM false (Option.none)) false (0:Nat) false)))]),(aI IntKind.i64 (2:Int))] [])) else ((true=true)∧(K [(Arg.v true [(AC.d (D.i IntKind.i64 (0:Int))),(AC.own (RC.mk (5:Nat) RK.u8 ([]:(List Int)) (RM.mk (dpM false (Option.none)) false (0:Nat) false)))]),(Arg.v false [(AC.own (RC.mk (5:Nat) RK.u8 ([]:(List Int)) (RM.mk (dpM false (Option.none)) false (0:Nat) false)))]),(aI IntKind.i64 (3:Int))] []))) else ((true=true)∧(K [(Arg.v true [(AC.d (D.i IntKind.i64 (0:Int))),(AC.own (RC.mk (5:Nat) RK.u8 ([]:(List Int)) (RM.mk (dpM false (Option.none)) false (0:Nat) false)))]),(Arg.v false [(AC.own (RC.mk (5:Nat) RK.u8 ([]:(List Int)) (RM.mk (dpM false (Option.none)) false (0:Nat) false)))]),(aI IntKind.i64 (3:Int))] []))) else ((true=true)∧(K [(Arg.v true [(AC.d (D.i IntKind.i64 (0:Int))),(AC.own (RC.mk (5:Nat) RK.u8 ([]:(List Int)) (RM.mk (dpM false (Option.none)) false (0:Nat) false)))]),(Arg.v false [(AC.own (RC.mk (5:Nat) RK.u8 ([]:(List Int)) (RM.mk (dpM false (Option.none)) false (0:Nat) false)))]),(aI IntKind.i64 (3:Int))] [])))) else (if ((p.seg == (3:Int))=true) then (if ((decide (j.len > (0:Int)))=true) then (if (((((List.length r1):Nat):Int) == j.len)=true) then ((true=true)∧(K [(Arg.v true [(AC.d (D.i IntKind.i64 (0:Int))),(AC.own (RC.mk (5:Nat) RK.u8 ([]:(List Int)) (RM.mk (dpM false (Option.none)) false (0:Nat) false)))]),(Arg.v false [(AC.own (RC.mk (5:Nat) RK.u8 r1 (RM.mk (dpM false (Option.none)) false (0:Nat) false)))]),(aI IntKind.i64 (2:Int))] [])) else ((true=true)∧(K [(Arg.v true [(AC.d (D.i IntKind.i64 (0:Int))),(AC.own (RC.mk (5:Nat) RK.u8 ([]:(List Int)) (RM.mk (dpM false (Option.none)) false (0:Nat) false)))]),(Arg.v false [(AC.own (RC.mk (5:Nat) RK.u8 ([]:(List Int)) (RM.mk (dpM false (Option.none)) false (0:Nat) false)))]),(aI IntKind.i64 (3:Int))] []))) else ((true=true)∧(K [(Arg.v true [(AC.d (D.i IntKind.i64 (0:Int))),(AC.own (RC.mk (5:Nat) RK.u8 ([]:(List Int)) (RM.mk (dpM false (Option.none)) false (0:Nat) false)))]),(Arg.v false [(AC.own (RC.mk (5:Nat) RK.u8 ([]:(List Int)) (RM.mk (dpM false (Option.none)) false (0:Nat) false)))]),(aI IntKind.i64 (3:Int))] []))) else ((true=true)∧(K [(Arg.v true [(AC.d (D.i IntKind.i64 (0:Int))),(AC.own (RC.mk (5:Nat) RK.u8 ([]:(List Int)) (RM.mk (dpM false (Option.none)) false (0:Nat) false)))]),(Arg.v false [(AC.own (RC.mk (5:Nat) RK.u8 ([]:(List Int)) (RM.mk (dpM false (Option.none)) false (0:Nat) false)))]),(aI IntKind.i64 (3:Int))] [])))))) else (if ((p.seg == (1:Int))=true) then (if ((j.len == (0:Int))=true) then ((true=true)∧(K [(Arg.v true [(AC.d (D.i IntKind.i64 p.len)),(AC.own (RC.mk (5:Nat) RK.u8 r1 (RM.mk (dpM false (Option.none)) false (0:Nat) false)))]),(Arg.v false [(AC.own (RC.mk (5:Nat) RK.u8 ([]:(List Int)) (RM.mk (dpM false (Option.none)) false (0:Nat) false)))]),(aI IntKind.i64 (1:Int))] [])) else (if ((p.seg == (2:Int))=true) then (if ((decide (j.len > (0:Int)))=true) then (if ((decide ((((List.length r1):Nat):Int) < j.len))=true) then ((true=true)∧(K [(Arg.v true [(AC.d (D.i IntKind.i64 j.len)),(AC.own (RC.mk (5:Nat) RK.u8 r1 (RM.mk (dpM false (Option.none)) false (0:Nat) false)))]),(Arg.v false [(AC.own (RC.mk (5:Nat) RK.u8 ([]:(List Int)) (RM.mk (dpM false (Option.none)) false (0:Nat) false)))]),(aI IntKind.i64 (1:Int))] [])) else (if ((p.seg == (3:Int))=true) then (if ((decide (j.len > (0:Int)))=true) then (if (((((List.length r1):Nat):Int) == j.len)=true) then ((true=true)∧(K [(Arg.v true [(AC.d (D.i IntKind.i64 (0:Int))),(AC.own (RC.mk (5:Nat) RK.u8 ([]:(List Int)) (RM.mk (dpM false (Option.none)) false (0:Nat) false)))]),(Arg.v false [(AC.own (RC.mk (5:Nat) RK.u8 r1 (RM.mk (dpM false (Option.none)) false (0:Nat) false)))]),(aI IntKind.i64 (2:Int))] [])) else ((true=true)∧(K [(Arg.v true [(AC.d (D.i IntKind.i64 (0:Int))),(AC.own (RC.mk (5:Nat) RK.u8 ([]:(List Int)) (RM.mk (dpM false (Option.none)) false (0:Nat) false)))]),(Arg.v false [(AC.own (RC.mk (5:Nat) RK.u8 ([]:(List Int)) (RM.mk (dpM false (Option.none)) false (0:Nat) false)))]),(aI IntKind.i64 (3:Int))] []))) else ((true=true)∧(K [(Arg.v true [(AC.d (D.i IntKind.i64 (0:Int))),(AC.own (RC.mk (5:Nat) RK.u8 ([]:(List Int)) (RM.mk (dpM false (Option.none)) false (0:Nat) false)))]),(Arg.v false [(AC.own (RC.mk (5:Nat) RK.u8 ([]:(List Int)) (RM.mk (dpM false (Option.none)) false (0:Nat) false)))]),(aI IntKind.i64 (3:Int))] []))) else ((true=true)∧(K [(Arg.v true [(AC.d (D.i IntKind.i64 (0:Int))),(AC.own (RC.mk (5:Nat) RK.u8 ([]:(List Int)) (RM.mk (dpM false (Option.none)) false (0:Nat) false)))]),(Arg.v false [(AC.own (RC.mk (5:Nat) RK.u8 ([]:(List Int)) (RM.mk (dpM false (Option.none)) false (0:Nat) false)))]),(aI IntKind.i64 (3:Int))] [])))) else (if ((p.seg == (3:Int))=true) then (if ((decide (j.len > (0:Int)))=true) then (if (((((List.length r1):Nat):Int) == j.len)=true) then ((true=true)∧(K [(Arg.v true [(AC.d (D.i IntKind.i64 (0:Int))),(AC.own (RC.mk (5:Nat) RK.u8 ([]:(List Int)) (RM.mk (dpM false (Option.none)) false (0:Nat) false)))]),(Arg.v false [(AC.own (RC.mk (5:Nat) RK.u8 r1 (RM.mk (dpM false (Option.none)) false (0:Nat) false)))]),(aI IntKind.i64 (2:Int))] [])) else ((true=true)∧(K [(Arg.v true [(AC.d (D.i IntKind.i64 (0:Int))),(AC.own (RC.mk (5:Nat) RK.u8 ([]:(List Int)) (RM.mk (dpM false (Option.none)) false (0:Nat) false)))]),(Arg.v false [(AC.own (RC.mk (5:Nat) RK.u8 ([]:(List Int)) (RM.mk (dpM false (Option.none)) false (0:Nat) false)))]),(aI IntKind.i64 (3:Int))] []))) else ((true=true)∧(K [(Arg.v true [(AC.d (D.i IntKind.i64 (0:Int))),(AC.own (RC.mk (5:Nat) RK.u8 ([]:(List Int)) (RM.mk (dpM false (Option.none)) false (0:Nat) false)))]),(Arg.v false [(AC.own (RC.mk (5:Nat) RK.u8 ([]:(List Int)) (RM.mk (dpM false (Option.none)) false (0:Nat) false)))]),(aI IntKind.i64 (3:Int))] []))) else ((true=true)∧(K [(Arg.v true [(AC.d (D.i IntKind.i64 (0:Int))),(AC.own (RC.mk (5:Nat) RK.u8 ([]:(List Int)) (RM.mk (dpM false (Option.none)) false (0:Nat) false)))]),(Arg.v false [(AC.own (RC.mk (5:Nat) RK.u8 ([]:(List Int)) (RM.mk (dpM false (Option.none)) false (0:Nat) false)))]),(aI IntKind.i64 (3:Int))] [])))) else (if ((p.seg == (3:Int))=true) then (if ((decide (j.len > (0:Int)))=true) then (if (((((List.length r1):Nat):Int) == j.len)=true) then ((true=true)∧(K [(Arg.v true [(AC.d (D.i IntKind.i64 (0:Int))),(AC.own (RC.mk (5:Nat) RK.u8 ([]:(List Int)) (RM.mk (dpM false (Option.none)) false (0:Nat) false)))]),(Arg.v false [(AC.own (RC.mk (5:Nat) RK.u8 r1 (RM.mk (dpM false (Option.none)) false (0:Nat) false)))]),(aI IntKind.i64 (2:Int))] [])) else ((true=true)∧(K [(Arg.v true [(AC.d (D.i IntKind.i64 (0:Int))),(AC.own (RC.mk (5:Nat) RK.u8 ([]:(List Int)) (RM.mk (dpM false (Option.none)) false (0:Nat) false)))]),(Arg.v false [(AC.own (RC.mk (5:Nat) RK.u8 ([]:(List Int)) (RM.mk (dpM false (Option.none)) false (0:Nat) false)))]),(aI IntKind.i64 (3:Int))] []))) else ((true=true)∧(K [(Arg.v true [(AC.d (D.i IntKind.i64 (0:Int))),(AC.own (RC.mk (5:Nat) RK.u8 ([]:(List Int)) (RM.mk (dpM false (Option.none)) false (0:Nat) false)))]),(Arg.v false [(AC.own (RC.mk (5:Nat) RK.u8 ([]:(List Int)) (RM.mk (dpM false (Option.none)) false (0:Nat) false)))]),(aI IntKind.i64 (3:Int))] []))) else ((true=true)∧(K [(Arg.v true [(AC.d (D.i IntKind.i64 (0:Int))),(AC.own (RC.mk (5:Nat) RK.u8 ([]:(List Int)) (RM.mk (dpM false (Option.none)) false (0:Nat) false)))]),(Arg.v false [(AC.own (RC.mk (5:Nat) RK.u8 ([]:(List Int)) (RM.mk (dpM false (Option.none)) false (0:Nat) false)))]),(aI IntKind.i64 (3:Int))] []))))) else (if ((p.seg == (2:Int))=true) then (if ((decide (j.len > (0:Int)))=true) then (if ((decide ((((List.length r1):Nat):Int) < j.len))=true) then ((true=true)∧(K [(Arg.v true [(AC.d (D.i IntKind.i64 j.len)),(AC.own (RC.mk (5:Nat) RK.u8 r1 (RM.mk (dpM false (Option.none)) false (0:Nat) false)))]),(Arg.v false [(AC.own (RC.mk (5:Nat) RK.u8 ([]:(List Int)) (RM.mk (dpM false (Option.none)) false (0:Nat) false)))]),(aI IntKind.i64 (1:Int))] [])) else (if ((p.seg == (3:Int))=true) then (if ((decide (j.len > (0:Int)))=true) then (if (((((List.length r1):Nat):Int) == j.len)=true) then ((true=true)∧(K [(Arg.v true [(AC.d (D.i IntKind.i64 (0:Int))),(AC.own (RC.mk (5:Nat) RK.u8 ([]:(List Int)) (RM.mk (dpM false (Option.none)) false (0:Nat) false)))]),(Arg.v false [(AC.own (RC.mk (5:Nat) RK.u8 r1 (RM.mk (dpM false (Option.none)) false (0:Nat) false)))]),(aI IntKind.i64 (2:Int))] [])) else ((true=true)∧(K [(Arg.v true [(AC.d (D.i IntKind.i64 (0:Int))),(AC.own (RC.mk (5:Nat) RK.u8 ([]:(List Int)) (RM.mk (dpM false (Option.none)) false (0:Nat) false)))]),(Arg.v false [(AC.own (RC.mk (5:Nat) RK.u8 ([]:(List Int)) (RM.mk (dpM false (Option.none)) false (0:Nat) false)))]),(aI IntKind.i64 (3:Int))] []))) else ((true=true)∧(K [(Arg.v true [(AC.d (D.i IntKind.i64 (0:Int))),(AC.own (RC.mk (5:Nat) RK.u8 ([]:(List Int)) (RM.mk (dpM false (Option.none)) false (0:Nat) false)))]),(Arg.v false [(AC.own (RC.mk (5:Nat) RK.u8 ([]:(List Int)) (RM.mk (dpM false (Option.none)) false (0:Nat) false)))]),(aI IntKind.i64 (3:Int))] []))) else ((true=true)∧(K [(Arg.v true [(AC.d (D.i IntKind.i64 (0:Int))),(AC.own (RC.mk (5:Nat) RK.u8 ([]:(List Int)) (RM.mk (dpM false (Option.none)) false (0:Nat) false)))]),(Arg.v false [(AC.own (RC.mk (5:Nat) RK.u8 ([]:(List Int)) (RM.mk (dpM false (Option.none)) false (0:Nat) false)))]),(aI IntKind.i64 (3:Int))] [])))) else (if ((p.seg == (3:Int))=true) then (if ((decide (j.len > (0:Int)))=true) then (if (((((List.length r1):Nat):Int) == j.len)=true) then ((true=true)∧(K [(Arg.v true [(AC.d (D.i IntKind.i64 (0:Int))),(AC.own (RC.mk (5:Nat) RK.u8 ([]:(List Int)) (RM.mk (dpM false (Option.none)) false (0:Nat) false)))]),(Arg.v false [(AC.own (RC.mk (5:Nat) RK.u8 r1 (RM.mk (dpM false (Option.none)) false (0:Nat) false)))]),(aI IntKind.i64 (2:Int))] [])) else ((true=true)∧(K [(Arg.v true [(AC.d (D.i IntKind.i64 (0:Int))),(AC.own (RC.mk (5:Nat) RK.u8 ([]:(List Int)) (RM.mk (dpM false (Option.none)) false (0:Nat) false)))]),(Arg.v false [(AC.own (RC.mk (5:Nat) RK.u8 ([]:(List Int)) (RM.mk (dpM false (Option.none)) false (0:Nat) false)))]),(aI IntKind.i64 (3:Int))] []))) else ((true=true)∧(K [(Arg.v true [(AC.d (D.i IntKind.i64 (0:Int))),(AC.own (RC.mk (5:Nat) RK.u8 ([]:(List Int)) (RM.mk (dpM false (Option.none)) false (0:Nat) false)))]),(Arg.v false [(AC.own (RC.mk (5:Nat) RK.u8 ([]:(List Int)) (RM.mk (dpM false (Option.none)) false (0:Nat) false)))]),(aI IntKind.i64 (3:Int))] []))) else ((true=true)∧(K [(Arg.v true [(AC.d (D.i IntKind.i64 (0:Int))),(AC.own (RC.mk (5:Nat) RK.u8 ([]:(List Int)) (RM.mk (dpM false (Option.none)) false (0:Nat) false)))]),(Arg.v false [(AC.own (RC.mk (5:Nat) RK.u8 ([]:(List Int)) (RM.mk (dpM false (Option.none)) false (0:Nat) false)))]),(aI IntKind.i64 (3:Int))] [])))) else (if ((p.seg == (3:Int))=true) then (if ((decide (j.len > (0:Int)))=true) then (if (((((List.length r1):Nat):Int) == j.len)=true) then ((true=true)∧(K [(Arg.v true [(AC.d (D.i IntKind.i64 (0:Int))),(AC.own (RC.mk (5:Nat) RK.u8 ([]:(List Int)) (RM.mk (dpM false (Option.none)) false (0:Nat) false)))]),(Arg.v false [(AC.own (RC.mk (5:Nat) RK.u8 r1 (RM.mk (dpM false (Option.none)) false (0:Nat) false)))]),(aI IntKind.i64 (2:Int))] [])) else ((true=true)∧(K [(Arg.v true [(AC.d (D.i IntKind.i64 (0:Int))),(AC.own (RC.mk (5:Nat) RK.u8 ([]:(List Int)) (RM.mk (dpM false (Option.none)) false (0:Nat) false)))]),(Arg.v false [(AC.own (RC.mk (5:Nat) RK.u8 ([]:(List Int)) (RM.mk (dpM false (Option.none)) false (0:Nat) false)))]),(aI IntKind.i64 (3:Int))] []))) else ((true=true)∧(K [(Arg.v true [(AC.d (D.i IntKind.i64 (0:Int))),(AC.own (RC.mk (5:Nat) RK.u8 ([]:(List Int)) (RM.mk (dpM false (Option.none)) false (0:Nat) false)))]),(Arg.v false [(AC.own (RC.mk (5:Nat) RK.u8 ([]:(List Int)) (RM.mk (dpM false (Option.none)) false (0:Nat) false)))]),(aI IntKind.i64 (3:Int))] []))) else ((true=true)∧(K [(Arg.v true [(AC.d (D.i IntKind.i64 (0:Int))),(AC.own (RC.mk (5:Nat) RK.u8 ([]:(List Int)) (RM.mk (dpM false (Option.none)) false (0:Nat) false)))]),(Arg.v false [(AC.own (RC.mk (5:Nat) RK.u8 ([]:(List Int)) (RM.mk (dpM false (Option.none)) false (0:Nat) false)))]),(aI IntKind.i64 (3:Int))] []))))))))))))))) := by
  have hj := hp.1
  simp only [JoinP] at hj

  repeat' first
    | exact rfl
    | exact True.intro
    | with_reducible apply And.intro
    | (with_reducible intro r hr; subst hr)
    | with_reducible intro r
    | (refine iteI (fun h => ?_) (fun h => ?_))
  all_goals try simp (disch := omega) only [wr] at *
  all_goals first
    | assumption
    | (have h := hk _ rfl
       unfold segPut at h
       try dsimp only at h
       repeat' split at h
       all_goals first | exact h | (exfalso; grind [JoinP, zJoin]) | (exfalso; simp at *; omega))
    | exact hk _ (by grind [JoinP, IntKind.wrap_i64])
    | (simp only [LIM] at *; omega)
    | grind [JoinP, LIM]
theorem w_impl_SegJoin_put_x : Valid Try.prog 91 c_impl_SegJoin_put_x :=
  valid_ctr2 (V := V_impl_SegJoin_put_x) (tysB_ok tys_ok) ⟨(CallsL.cons w_impl_clone_byte (CallsL.nil _)), (IosL.nil _)⟩ mixed 4 3 Try.func91 rfl (by kernel_rfl)
    (fun c hc => by
      obtain rfl := Option.some.inj hc
      exact ⟨trivial, ⟨trivial, ⟨⟨trivial, ⟨⟨trivial, trivial⟩, ⟨trivial, ⟨⟨trivial, trivial⟩, ⟨trivial, ⟨⟨trivial, trivial⟩, ⟨trivial, ⟨⟨trivial, trivial⟩, trivial⟩⟩⟩⟩⟩⟩⟩⟩, ⟨trivial, trivial⟩⟩⟩⟩)
    (fun x K hp hk => ⟨_, by kernel_rfl, vF_impl_SegJoin_put_x x.1 x.2 K hp (fun q h => hk q h)⟩)
theorem vF_impl_CrdRx_hear_x (r:CrS) (c:Cfg) (f:Frm) (K:List Arg→List (List AC)→Prop) (hp:CrIn c r f∧f.data.length≤1000000000) (hk:∀ (q:CrHearR),(q=crdHear1 c r f)→K ([(rOd 22 .byr).to q.sdus]) ([(crC q.r).map .d])):if (r.dead=true) then ((true=true)∧(K [(Arg.v false [(AC.own (RC.mk (22:Nat) RK.byr ([]:(List (List Int))) (RM.mk (dpM false (Option.some (0:Nat))) false (0:Nat) false)))])] [[(AC.d (D.i IntKind.i64 r.out)),(AC.d (D.i IntKind.i64 r.join.len)),(AC.d (D.r RK.u8 r.join.got)),(AC.d (D.b r.dead))]])) else (if ((r.out == (0:Int))=true) then ((true=true)∧(K [(Arg.v false [(AC.own (RC.mk (22:Nat) RK.byr ([]:(List (List Int))) (RM.mk (dpM false (Option.some (0:Nat))) false (0:Nat) false)))])] [[(AC.d (D.i IntKind.i64 r.out)),(AC.d (D.i IntKind.i64 r.join.len)),(AC.d (D.r RK.u8 r.join.got)),(AC.d (D.b true))]])) else (if ((decide (f.len > c.mtu))=true) then ((true=true)∧(K [(Arg.v false [(AC.own (RC.mk (22:Nat) RK.byr ([]:(List (List Int))) (RM.mk (dpM false (Option.some (0:Nat))) false (0:Nat) false)))])] [[(AC.d (D.i IntKind.i64 r.out)),(AC.d (D.i IntKind.i64 r.join.len)),(AC.d (D.r RK.u8 r.join.got)),(AC.d (D.b true))]])) else (if ((decide ((((List.length f.data):Nat):Int) > c.mps))=true) then ((true=true)∧(K [(Arg.v false [(AC.own (RC.mk (22:Nat) RK.byr ([]:(List (List Int))) (RM.mk (dpM false (Option.some (0:Nat))) false (0:Nat) false)))])] [[(AC.d (D.i IntKind.i64 r.out)),(AC.d (D.i IntKind.i64 r.join.len)),(AC.d (D.r RK.u8 r.join.got)),(AC.d (D.b true))]])) else ((true=true)∧(((JoinP r.join)∧(((0:Int)≤f.seg)∧((f.seg≤(3:Int))∧((List.length f.data)≤(1000000000:Nat)))))∧(∀ r1:PutR,(r1=(segPut r.join (Part.mk f.seg f.len f.data)))→(true=true)∧((true=true)∧((true=true)∧(if ((r1.how == (3:Int))=true) then ((true=true)∧(K [(Arg.v false [(AC.own (RC.mk (22:Nat) RK.byr ([]:(List (List Int))) (RM.mk (dpM false (Option.some (0:Nat))) false (0:Nat) false)))])] [[(AC.d (D.i IntKind.i64 (IntKind.wrap IntKind.i64 (r.out - (1:Int))))),(AC.d (D.i IntKind.i64 r1.j.len)),(AC.d (D.r RK.u8 r1.j.got)),(AC.d (D.b true))]])) else (if ((r1.how == (2:Int))=true) then ((true=true)∧(K [(Arg.v false [(AC.own (RC.mk (22:Nat) RK.byr (r1.sdu :: ([]:(List (List Int))):(List (List Int))) (RM.mk (dpM false (Option.some (List.length (r1.sdu :: ([]:(List (List Int))):(List (List Int)))))) false (0:Nat) false)))])] [[(AC.d (D.i IntKind.i64 (IntKind.wrap IntKind.i64 (r.out - (1:Int))))),(AC.d (D.i IntKind.i64 r1.j.len)),(AC.d (D.r RK.u8 r1.j.got)),(AC.d (D.b r.dead))]])) else ((true=true)∧(K [(Arg.v false [(AC.own (RC.mk (22:Nat) RK.byr ([]:(List (List Int))) (RM.mk (dpM false (Option.some (0:Nat))) false (0:Nat) false)))])] [[(AC.d (D.i IntKind.i64 (IntKind.wrap IntKind.i64 (r.out - (1:Int))))),(AC.d (D.i IntKind.i64 r1.j.len)),(AC.d (D.r RK.u8 r1.j.got)),(AC.d (D.b r.dead))]])))))))))))) := by
  have hseg := CrIn.seg hp.1
  have hgot := CrIn.got hp.1
  have hrx := hp.1.2.1
  simp only [CrP, JoinP] at hrx

  repeat' first
    | exact rfl
    | exact True.intro
    | with_reducible apply And.intro
    | (with_reducible intro r hr; subst hr)
    | with_reducible intro r
    | (refine iteI (fun h => ?_) (fun h => ?_))
  all_goals try simp (disch := omega) only [wr] at *
  all_goals first
    | assumption
    | exact hp.1.2.1.2
    | (have h := hk _ rfl
       unfold crdHear1 at h
       try dsimp only at h
       repeat' split at h
       all_goals first | exact h | (exfalso; grind []) | (exfalso; simp at *; omega))
    | exact hk _ (by grind [CrIn, CrP, JoinP, FrmP, IntKind.wrap_i64])
    | (simp only [LIM] at *; omega)
    | grind [CrIn, CrP, JoinP, FrmP, LIM]
theorem w_impl_CrdRx_hear_x : Valid Try.prog 73 c_impl_CrdRx_hear_x :=
  valid_ctr2 (V := V_impl_CrdRx_hear_x) (tysB_ok tys_ok) ⟨(CallsL.cons w_impl_SegJoin_put_x (CallsL.nil _)), (IosL.nil _)⟩ mixed 3 3 Try.func73 rfl (by kernel_rfl)
    (fun c hc => by
      obtain rfl := Option.some.inj hc
      exact ⟨trivial, ⟨⟨trivial, ⟨⟨trivial, trivial⟩, ⟨trivial, ⟨⟨trivial, ⟨trivial, trivial⟩⟩, trivial⟩⟩⟩⟩, ⟨trivial, ⟨trivial, ⟨trivial, ⟨⟨trivial, ⟨trivial, ⟨trivial, ⟨trivial, ⟨⟨trivial, trivial⟩, trivial⟩⟩⟩⟩⟩, ⟨trivial, trivial⟩⟩⟩⟩⟩⟩⟩)
    (fun x K hp hk => ⟨_, by kernel_rfl, vF_impl_CrdRx_hear_x x.1 x.2.1 x.2.2 K hp (fun q h => hk q h)⟩)
theorem vF_impl_CrdHear_x (c:Cfg) (r:CrS) (f:Frm) (K:List Arg→List (List AC)→Prop) (hp:f.data.length≤1000000000) (hk:∀ (q:CrHearR),(q=crdHear c r f)→K ([dCr q.r,(rOd 22 .byr).to q.sdus]) ([])):(true=true)∧(True∧(∀ r1:Bool,(r1=(decide (CfgP c)))→(true=true)∧(if ((!r1)=true) then ((true=true)∧(K [(Arg.v true [(AC.d (D.i IntKind.i64 (0:Int))),(AC.d (D.i IntKind.i64 (0:Int))),(AC.own (RC.mk (5:Nat) RK.u8 ([]:(List Int)) (RM.mk (dpM false (Option.none)) false (0:Nat) false))),(AC.d (D.b false))]),(Arg.v false [(AC.own (RC.mk (22:Nat) RK.byr ([]:(List (List Int))) (RM.mk (dpM false (Option.some (0:Nat))) false (0:Nat) false)))])] [])) else ((true=true)∧(True∧(∀ r2:Bool,(r2=(decide (CrP r)))→(true=true)∧(if ((!r2)=true) then ((true=true)∧(K [(Arg.v true [(AC.d (D.i IntKind.i64 (0:Int))),(AC.d (D.i IntKind.i64 (0:Int))),(AC.own (RC.mk (5:Nat) RK.u8 ([]:(List Int)) (RM.mk (dpM false (Option.none)) false (0:Nat) false))),(AC.d (D.b false))]),(Arg.v false [(AC.own (RC.mk (22:Nat) RK.byr ([]:(List (List Int))) (RM.mk (dpM false (Option.some (0:Nat))) false (0:Nat) false)))])] [])) else (if ((f.kind != (3:Int))=true) then ((true=true)∧(K [(Arg.v true [(AC.d (D.i IntKind.i64 (0:Int))),(AC.d (D.i IntKind.i64 (0:Int))),(AC.own (RC.mk (5:Nat) RK.u8 ([]:(List Int)) (RM.mk (dpM false (Option.none)) false (0:Nat) false))),(AC.d (D.b false))]),(Arg.v false [(AC.own (RC.mk (22:Nat) RK.byr ([]:(List (List Int))) (RM.mk (dpM false (Option.some (0:Nat))) false (0:Nat) false)))])] [])) else ((true=true)∧(((List.length f.data)≤(137438953472:Nat))∧(∀ r3:Bool,(r3=(decide (FrmP f)))→(true=true)∧(if ((!r3)=true) then ((true=true)∧(K [(Arg.v true [(AC.d (D.i IntKind.i64 (0:Int))),(AC.d (D.i IntKind.i64 (0:Int))),(AC.own (RC.mk (5:Nat) RK.u8 ([]:(List Int)) (RM.mk (dpM false (Option.none)) false (0:Nat) false))),(AC.d (D.b false))]),(Arg.v false [(AC.own (RC.mk (22:Nat) RK.byr ([]:(List (List Int))) (RM.mk (dpM false (Option.some (0:Nat))) false (0:Nat) false)))])] [])) else ((true=true)∧(((List.length r.join.got)≤(137438953472:Nat))∧(∀ r4:CrS,(r4=r)→(true=true)∧((true=true)∧(((CrIn c (CrS.mk r4.out (JoinS.mk r4.join.len r4.join.got) r4.dead) f)∧((List.length f.data)≤(1000000000:Nat)))∧(∀ r5:CrHearR,(r5=(crdHear1 c (CrS.mk r4.out (JoinS.mk r4.join.len r4.join.got) r4.dead) f))→(true=true)∧((true=true)∧(((List.length r5.r.join.got)≤(137438953472:Nat))∧(∀ r6:CrS,(r6=r5.r)→(true=true)∧((true=true)∧(K [(Arg.v true [(AC.d (D.i IntKind.i64 r6.out)),(AC.d (D.i IntKind.i64 r6.join.len)),(AC.own (RC.mk (5:Nat) RK.u8 r6.join.got (RM.mk (dpM false (Option.none)) false (0:Nat) false))),(AC.d (D.b r6.dead))]),(Arg.v false [(AC.own (RC.mk (22:Nat) RK.byr r5.sdus (RM.mk (dpM false (Option.some (List.length r5.sdus))) false (0:Nat) false)))])] []))))))))))))))))))))))) := by
  repeat' first
    | exact rfl
    | exact True.intro
    | with_reducible apply And.intro
    | (with_reducible intro y_ hy_; subst hy_)
    | with_reducible intro y_
    | (refine iteI (fun h => ?_) (fun h => ?_))
  all_goals try simp only [Bool.not_eq_true', decide_eq_false_iff_not, decide_eq_true_eq, Bool.not_eq_true, bne_iff_ne, beq_iff_eq, ne_eq, Decidable.not_not, Bool.not_eq_false, gt_iff_lt, ge_iff_le, Int.not_le, Int.not_lt, beq_eq_false_iff_ne, bne_eq_false_iff_eq, Bool.and_eq_true, Bool.or_eq_true, Bool.true_eq_false, Bool.false_eq_true] at *
  all_goals try simp (disch := first | omega | grind [CrIn, CrP, JoinP]) only [wr] at *
  all_goals first
    | assumption
    | omega
    | (have h2 : CrIn c _ f := ⟨by assumption, ‹CrP _›, by assumption, by assumption⟩
       exact Nat.le_trans (crd_got c _ f).1 (by have h4 := h2.got; omega))
    | (have h2 := CrIn.seg (c := c) (f := f) ⟨by assumption, ‹CrP _›, by assumption, by assumption⟩
       omega)
    | exact (‹CrP _› : CrP _).2
    | (have h4 := CrIn.got (c := c) (f := f) ⟨by assumption, ‹CrP _›, by assumption, by assumption⟩
       first
       | exact Nat.le_trans (segPut_got _ _).1 (by dsimp only; omega)
       | exact Nat.le_trans (segPut_got _ _).2 (by dsimp only; omega)
       | (cases ‹List.Mem _ _› with
         | head => exact Nat.le_trans (segPut_got _ _).2 (by dsimp only; omega)
         | tail _ h9 => cases h9))
    | (have h2 : CrIn c _ f := ⟨by assumption, ‹CrP _›, by assumption, by assumption⟩
       have h4 := h2.got
       refine Nat.le_trans (crd_got _ _ _).1 ?_
       dsimp only
       omega)
    | (have h := hk _ rfl
       unfold crdHear at h
       try dsimp only at h
       first
       | exact h
       | (repeat' split at h
          all_goals first | exact h | (exfalso; grind [CrIn, CrP, JoinP]) | (exfalso; simp at *; omega)))
    | (have h := hk _ rfl
       unfold crdHear crdHear1 at h
       try dsimp only at h
       repeat' split at h
       all_goals first | exact h | (exfalso; grind [CrIn, CrP, JoinP]) | (exfalso; simp at *; omega))
    | exact hk _ (by grind [CrIn, CrP, JoinP])
    | (simp only [LIM] at *; omega)
    | grind [CrIn, CrP, JoinP, LIM]
theorem w_impl_CrdHear_x : Valid Try.prog 36 c_impl_CrdHear_x :=
  valid_ctr2 (V := V_impl_CrdHear_x) (tysB_ok tys_ok) ⟨(CallsL.cons w_impl_CrdRxOk (CallsL.cons w_impl_CrdRx_copyOf_x (CallsL.cons w_impl_CfgOk (CallsL.cons w_impl_FrmOk (CallsL.cons w_impl_CrdRx_hear_x (CallsL.nil _)))))), (IosL.nil _)⟩ mixed 2 5 Try.func36 rfl (by kernel_rfl)
    (fun c hc => by
      obtain rfl := Option.some.inj hc
      exact ⟨trivial, ⟨⟨trivial, ⟨⟨trivial, trivial⟩, trivial⟩⟩, ⟨trivial, ⟨trivial, ⟨trivial, trivial⟩⟩⟩⟩⟩)
    (fun x K hp hk => ⟨_, by kernel_rfl, vF_impl_CrdHear_x x.1 x.2.1 x.2.2 K hp (fun q h => hk q h)⟩)
end Go.Proofs.YtdahhphhblbfdaaE
