/- The law FnExactCrdHear: for every input the call returns true, and each argument reads behind the call as it read before. Conditions: none. -/
import Derived.Test.YtdahhphhblbfdaaMfb563416
import Derived.Test.YtdahhphhblbfdaaRows
import Derived.WalkKit
import Derived.ProofKit
import Derived.OpenShut
import Derived.ShutString
import Derived.ChangeOld
import Derived.Below
import Derived.SizedLaws
set_option linter.unusedVariables false
set_option linter.unusedSimpArgs false
set_option linter.unusedSectionVars false
/- The law FnExactCrdHear: for every input the call returns true, and each argument reads behind the call as it read before. Conditions: none. -/
namespace Go.Proofs.Ytdahhphhblbfdaa.fnExactCrdHear
open Go.ChangeShapes Go.WideShapes Go.ChangeAt Go.RowKit Go.Proofs.YtdahhphhblbfdaaE
open Go.ChangeMaps (open_string shut_string)
set_option linter.unusedVariables false
theorem own : ownKnob Try.prog.godebug = none := by kernel_rfl
theorem laidOut : laidOutB Try.prog = true := by kernel_rfl
set_option maxRecDepth 100000 in
theorem lifted (os : Os) (started : os.Started) (H : Type) (enc : TypeId × Value → H) :
    ReturnsInHanded {} Try.checked os 7 .any (Rows.fnExactCrdHearSpec.pre6 enc Try.prog Try.f7 Rows.fnExactCrdHearRow.domain false) (Rows.fnExactCrdHearSpec.post enc Try.prog Try.f7 false true false false) := by
  refine returnsInHanded_of_change_sized (C := Try.checked) own started (by kernel_rfl) Try.func7
    (ChangeSpec.witness6 (enc := enc) (C := Try.checked) false ⟨#[], #[.agg #[.int .i64 0, .int .i64 0, .int .i64 0, .int .i64 0, .int .i64 0], .agg #[.int .i64 0, .int .i64 0, .slice none 0 0, .bool false], .agg #[.int .i64 0, .int .i64 0, .int .i64 0, .bool false, .bool false, .int .i64 0, .int .i64 0, .int .i64 0, .slice none 0 0]], []⟩ 8 (by kernel_rfl) (by kernel_rfl) (by kernel_rfl) (by kernel_rfl)) ?_
  intro W base args ds gs before hval0 hW hcnd hsz0 _
  have hval : ∀ (j : Nat) t v, Try.f7.params[j]? = some t → args[j]? = some v → Value.okWide Try.prog W .any base t v := hval0
  have hW' := hW
  obtain ⟨p, q, hA0, hV, rfl, hfz, hnd⟩ := hW
  have hA : DataW.TrodAll enc Try.prog W 0 (fun _ => true) true Try.f7.params.toList args.toList ds p := hA0
  rw [Try.params7] at hA hval
  obtain ⟨v0, vs0, d0, ds0, p0, q0, hargs, rfl, rfl, h0, r0⟩ := trodAll_cons hA
  obtain ⟨v1, vs1, d1, ds1, p1, q1, rfl, rfl, rfl, h1, r1⟩ := trodAll_cons r0
  obtain ⟨v2, vs2, d2, ds2, p2, q2, rfl, rfl, rfl, h2, r2⟩ := trodAll_cons r1
  obtain ⟨rfl, rfl, rfl⟩ := trodAll_nil r2
  obtain rfl : args = #[v0, v1, v2] := by cases args; simp_all
  obtain ⟨rfl, rfl⟩ := trodVars_none hV
  have k0 := h0
  have lt0 : ∀ x ∈ p0, x.block < W.heap.size := by obtain ⟨m, hm⟩ := k0; exact DataW.trod_lt m _ _ _ hm
  obtain ⟨e0, g0, s0, w0⟩ := arg_rd tys_ok shapes_ok (show Go.Proofs.YtdahhphhblbfdaaE.look 42 tys = some ⟨true, [.i .i64 0, .i .i64 0, .i .i64 0, .i .i64 0, .i .i64 0], none, [], [(0, 3), (1, 3), (2, 3), (3, 3), (4, 3)]⟩ from by kernel_rfl) (hval 0 42 v0 rfl rfl) h0
  obtain ⟨c0, rfl⟩ := of_cfg s0
  have k1 := h1
  have lt1 : ∀ x ∈ p1, x.block < W.heap.size := by obtain ⟨m, hm⟩ := k1; exact DataW.trod_lt m _ _ _ hm
  obtain ⟨e1, g1, s1, w1⟩ := arg_rd tys_ok shapes_ok (show Go.Proofs.YtdahhphhblbfdaaE.look 26 tys = some ⟨true, [.i .i64 0, .i .i64 0, .r .u8 [], .b false], none, [5], [(0, 3), (1, 24), (3, 4)]⟩ from by kernel_rfl) (hval 1 26 v1 rfl rfl) h1
  obtain ⟨c1, rfl⟩ := of_cr s1
  have k2 := h2
  have lt2 : ∀ x ∈ p2, x.block < W.heap.size := by obtain ⟨m, hm⟩ := k2; exact DataW.trod_lt m _ _ _ hm
  obtain ⟨e2, g2, s2, w2⟩ := arg_rd tys_ok shapes_ok (show Go.Proofs.YtdahhphhblbfdaaE.look 66 tys = some ⟨true, [.i .i64 0, .i .i64 0, .i .i64 0, .b false, .b false, .i .i64 0, .i .i64 0, .i .i64 0, .r .u8 []], none, [5], [(0, 3), (1, 3), (2, 3), (3, 4), (4, 4), (5, 3), (6, 3), (7, 3), (8, 22)]⟩ from by kernel_rfl) (hval 2 66 v2 rfl rfl) h2
  obtain ⟨c2, rfl⟩ := of_frm s2
  clear hA0 hval0 hsz0
  refine (law_of w_laws_FnExactCrdHear rfl (ys := [rCfg.to c0, rCr.to c1, rFrm.to c2]) (argsR_cons g0 (argsR_cons g1 (argsR_cons g2 (argsR_nil _ _)))) (fun K hK => ⟨⟨w0, w1, w2⟩, fun r hr => by subst hr; exact hK⟩)).mono fun e W' ⟨he, bel⟩ => ?_
  subst he
  exact ⟨_, rfl, _, _, _, [], _, [], hW', trodAll_mk1 (shut_bool Try.underlying4 _), (trodAll_cons_mk (Below.trod laidOut (by kernel_rfl) (of_decide_eq_true (by kernel_rfl)) k0 bel lt0) (trodAll_cons_mk (Below.trod laidOut (by kernel_rfl) (of_decide_eq_true (by kernel_rfl)) k1 bel lt1) (trodAll_cons_mk (Below.trod laidOut (by kernel_rfl) (of_decide_eq_true (by kernel_rfl)) k2 bel lt2) trodAll_mk0))), rfl, bel.frame _, fun h => by cases h⟩
theorem over : Rows.fnExactCrdHearRow.holds Try.pinned (OpenSpec.ofChange Rows.fnExactCrdHearSpec) :=
  OpenClaim.holds_of_wide 7 Try.f7 rfl rfl rfl rfl rfl rfl rfl ⟨rfl, rfl, rfl, rfl, rfl⟩ rfl rfl rfl rfl rfl (by kernel_rfl) Try.func7 (by kernel_rfl)
    (of_decide_eq_true (by kernel_rfl)) (by unfold Func.isWrapper; first | (rw [if_pos (by decide +kernel)]; kernel_rfl) | (rw [if_neg (by decide +kernel)]; exact ⟨rfl, rfl⟩))
    (fun os started H enc _ => lifted os started H enc)
theorem proved : Rows.FnExactCrdHearSaid := over
#print axioms proved
end Go.Proofs.Ytdahhphhblbfdaa.fnExactCrdHear
namespace Go.Proofs.Ytdahhphhblbfdaa
/-- The row, under a short name, for the claim. -/
theorem fnExactCrdHear_holds : Rows.FnExactCrdHearSaid := fnExactCrdHear.proved
end Go.Proofs.Ytdahhphhblbfdaa
