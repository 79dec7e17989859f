/- A part of the proof of laws of the program: what calls of the program answer. Conditions: none. -/
import Derived.Test.YtomcnemdaohafaaM0f6f8be0
set_option linter.unusedVariables false
set_option linter.unusedSimpArgs false
set_option linter.unusedSectionVars false
/- Contracts: XCC. Conditions: none. -/
set_option linter.unusedVariables false
set_option maxHeartbeats 1600000
namespace Go.Proofs.YtomcnemdaohafaaE
open Go
/-! impl.CrcCut@x -/
def c_impl_CrcCut_x : Ent := ctr (α := (List Int)) (ρ := (CutR)) [] [(0, 0)] (rs1 rBytes) (fun x_ => (fun (l : List Int) => (Bytes l ∧ l.length ≤ 1000000000)) x_) (fun x_ r_ => (fun x_ => (fun (l : List Int) => ((fun r_ => (fun (q : CutR) => (q = crcCut2 l)) r_))) x_) x_ r_) (fun r_ => (fun (q : CutR) => ([(rO 5 .u8).to q.l, rB.to q.ok])) r_) (fun r_ => (fun (q : CutR) => ([])) r_)
def V_impl_CrcCut_x : Env := ⟨tys, [(9, c_impl_CrcPut), (22, c_impl_clone_byte), (24, c_slices_Equal_byte_byte)], [(2, [0]), (22, [1])], [], [], [], [500010], [], []⟩
end Go.Proofs.YtomcnemdaohafaaE

/- Calls answer what is promised: XCC. Conditions: none. -/
set_option linter.unusedVariables false
set_option maxHeartbeats 1600000
namespace Go.Proofs.YtomcnemdaohafaaE
open Go
theorem vF_impl_CrcCut_x (l:List Int) (K:List Arg→List (List AC)→Prop) (hp:Bytes l∧l.length≤1000000000) (hk:∀ (q:CutR),(q=crcCut2 l)→K ([(rO 5 .u8).to q.l,rB.to q.ok]) ([])):if ((decide ((IntKind.wrap IntKind.i64 ((((List.length l):Nat):Int) - (2:Int))) < (0:Int)))=true) then ((true=true)∧(K [(Arg.v false [(AC.own (RC.mk (5:Nat) RK.u8 ([]:(List Int)) (RM.mk (dpM false (Option.none)) false (0:Nat) false)))]),(aB false)] [])) else ((((0:Int)≤(0:Int))∧(((0:Int)≤(IntKind.wrap IntKind.i64 ((((List.length l):Nat):Int) - (2:Int))))∧((IntKind.wrap IntKind.i64 ((((List.length l):Nat):Int) - (2:Int)))≤(((List.length l):Nat):Int))))∧((true=true)∧(((Bytes (List.take ((Int.toNat (IntKind.wrap IntKind.i64 ((((List.length l):Nat):Int) - (2:Int)))) - (0:Nat)) (List.drop (0:Nat) l)))∧((List.length (List.take ((Int.toNat (IntKind.wrap IntKind.i64 ((((List.length l):Nat):Int) - (2:Int)))) - (0:Nat)) (List.drop (0:Nat) l)))≤(1000000000:Nat)))∧(∀ r:(List Int),(r=(crcPut (List.take ((Int.toNat (IntKind.wrap IntKind.i64 ((((List.length l):Nat):Int) - (2:Int)))) - (0:Nat)) (List.drop (0:Nat) l))))→(true=true)∧((true=true)∧(((List.length r)≤(137438953472:Nat))∧(∀ r1:Bool,(r1=(decide (r=l)))→(true=true)∧(if ((!r1)=true) then ((true=true)∧(K [(Arg.v false [(AC.own (RC.mk (5:Nat) RK.u8 ([]:(List Int)) (RM.mk (dpM false (Option.none)) false (0:Nat) false)))]),(aB false)] [])) else ((((0:Int)≤(0:Int))∧(((0:Int)≤(IntKind.wrap IntKind.i64 ((((List.length l):Nat):Int) - (2:Int))))∧((IntKind.wrap IntKind.i64 ((((List.length l):Nat):Int) - (2:Int)))≤(((List.length l):Nat):Int))))∧((true=true)∧(((List.length (List.take ((Int.toNat (IntKind.wrap IntKind.i64 ((((List.length l):Nat):Int) - (2:Int)))) - (0:Nat)) (List.drop (0:Nat) l)))≤(137438953472:Nat))∧(∀ r2:(List Int),(r2=(List.take ((Int.toNat (IntKind.wrap IntKind.i64 ((((List.length l):Nat):Int) - (2:Int)))) - (0:Nat)) (List.drop (0:Nat) l)))→(true=true)∧((true=true)∧(K [(Arg.v false [(AC.own (RC.mk (5:Nat) RK.u8 r2 (RM.mk (dpM false (Option.none)) false (0:Nat) false)))]),(aB true)] [])))))))))))))) := by
  have hL : LIM = 137438953472 := rfl
  have h9 := hp.2
  rw [wr (x := (l.length : Int) - 2) (by omega) (by omega)]
  refine iteI (fun h => ?_) (fun h => ?_)
  · have hn : ¬ CutP l := fun hc => by have := hc.1; simp at h; omega
    have h0 := hk _ rfl
    unfold crcCut2 crcCut at h0
    rw [if_neg hn, decide_eq_false hn] at h0
    (repeat' first | exact h0 | with_reducible apply And.intro | exact rfl | trivial)
  · have h2 : 2 ≤ l.length := by simp at h; omega
    have et : List.take (((l.length : Int) - 2).toNat - 0) (List.drop 0 l) = l.take (l.length - 2) := by
      rw [List.drop_zero, show ((l.length : Int) - 2).toNat - 0 = l.length - 2 by omega]
    rw [et]
    have hlt : (l.take (l.length - 2)).length ≤ l.length := by rw [List.length_take]; omega
    refine ⟨⟨by omega, by omega, by omega⟩, by trivial, ⟨hp.1.take _, by omega⟩, fun r hr => ⟨by trivial, by trivial, by rw [hr, crcPut_len]; omega, fun r1 hr1 => ⟨by trivial, ?_⟩⟩⟩
    subst hr
    subst hr1
    have hci := cut_put hp.1 h2
    refine iteI (fun hx => ?_) (fun hx => ?_)
    · have hn : ¬ CutP l := fun hc => by simp [hci.2 hc] at hx
      have h0 := hk _ rfl
      unfold crcCut2 crcCut at h0
      rw [if_neg hn, decide_eq_false hn] at h0
      (repeat' first | exact h0 | with_reducible apply And.intro | exact rfl | trivial)
    · have hc : CutP l := hci.1 (by simpa using hx)
      refine ⟨⟨by omega, by omega, by omega⟩, by trivial, by omega, fun r2 hr2 => ⟨by trivial, by trivial, ?_⟩⟩
      subst hr2
      have h0 := hk _ rfl
      unfold crcCut2 crcCut at h0
      rw [if_pos hc, decide_eq_true hc] at h0
      (repeat' first | exact h0 | with_reducible apply And.intro | exact rfl | trivial)
theorem w_impl_CrcCut_x : Valid Try.prog 13 c_impl_CrcCut_x :=
  valid_ctr2 (V := V_impl_CrcCut_x) (tysB_ok tys_ok) ⟨(CallsL.cons w_impl_CrcPut (CallsL.cons w_impl_clone_byte (CallsL.cons w_slices_Equal_byte_byte (CallsL.nil _)))), (IosL.nil _)⟩ mixed 2 0 Try.func13 rfl (by kernel_rfl)
    (fun c hc => by
      obtain rfl := Option.some.inj hc
      exact ⟨trivial, ⟨trivial, ⟨⟨trivial, ⟨⟨trivial, trivial⟩, trivial⟩⟩, ⟨trivial, trivial⟩⟩⟩⟩)
    (fun x K hp hk => ⟨_, by kernel_rfl, vF_impl_CrcCut_x x K hp (fun q h => hk q h)⟩)
end Go.Proofs.YtomcnemdaohafaaE
