/- A part of the proof of laws of the program: what calls of the program answer. Conditions: none. -/
import Derived.Test.YtkkokenpehoffaaMb8491aed
set_option linter.unusedVariables false
set_option linter.unusedSimpArgs false
set_option linter.unusedSectionVars false
/- Contracts: LawCrc1. Conditions: none. -/
set_option linter.unusedVariables false
set_option maxHeartbeats 1600000
namespace Go.Proofs.YtkkokenpehoffaaE
open Go
/-! laws.FnCrcCut -/
def c_laws_FnCrcCut : Ent := ctr (α := (List Int) × (List Int)) (ρ := (Bool)) [] [] (rs rBytes (rs1 rBytes)) (fun x_ => (fun (l : List Int) (m : List Int) => (Bytes l ∧ Bytes m)) x_.1 x_.2) (fun x_ r_ => (fun x_ => (fun (l : List Int) (m : List Int) => ((fun r_ => (fun (r : Bool) => (r = true)) r_))) x_.1 x_.2) x_ r_) (fun r_ => (fun (r : Bool) => ([rB.to r])) r_) (fun r_ => (fun (r : Bool) => ([])) r_)
def V_laws_FnCrcCut : Env := ⟨tys, [(8, c_spec_DrawCrcPut), (9, c_spec_DrawCrcCut), (10, c_impl_CrcPut), (11, c_impl_CrcCut), (12, c_spec_CrcCut), (13, c_laws_liBytes), (14, c_spec_CrcPut)], [(105, [0])], [], [], [], [999999]⟩
end Go.Proofs.YtkkokenpehoffaaE

/- Calls answer what is promised: LawCrc1. Conditions: none. -/
set_option linter.unusedVariables false
set_option maxHeartbeats 1600000
namespace Go.Proofs.YtkkokenpehoffaaE
open Go
theorem vF_laws_FnCrcCut (l : List Int) (m : List Int) (K : List Arg → List (List AC) → Prop) (hp : Bytes l ∧ Bytes m) (hk : ∀ (r : Bool), (r = true) → K ([rB.to r]) ([])) :
 IfP (decide ((((List.length l) : Nat) : Int) > (1048576 : Int)))
 ((true = true) ∧
 (K [(aB true)] []))
 (if ((decide ((((List.length m) : Nat) : Int) > (1048576 : Int))) = true) then
 ((true = true) ∧
 (K [(aB true)] []))
 else
 ((true = true) ∧
 ((Bytes l) ∧
 (∀ r : (List Int),
 ((Bytes r) ∧ ((List.length r) ≤ (20 : Nat))) →
 (true = true) ∧
 ((true = true) ∧
 ((Bytes m) ∧
 (∀ r1 : (List Int),
 ((Bytes r1) ∧ ((List.length r1) ≤ (1001 : Nat))) →
 (true = true) ∧
 ((true = true) ∧
 (((Bytes r) ∧
 ((List.length r) ≤ (1000000000 : Nat))) ∧
 (∀ r2 : (List Int),
 (r2 = (crcPut r)) →
 (true = true) ∧
 ((true = true) ∧
 (((Bytes r1) ∧
 ((List.length r1) ≤ (1000000000 : Nat))) ∧
 (∀ r3 : CutR,
 (r3 = (crcCut2 r1)) →
 (true = true) ∧
 ((true = true) ∧
 (((Bytes r1) ∧
 ((List.length r1) ≤ (1000000000 : Nat))) ∧
 (∀ r4 : CutR,
 (r4 = (crcCut2 r1)) →
 (true = true) ∧
 ((true = true) ∧
 (((Bytes r) ∧
 ((List.length r) ≤ (1000000000 : Nat))) ∧
 (∀ r5 : (List Int),
 (r5 = (crcPut r)) →
 (true = true) ∧
 ((true = true) ∧
 ((((List.length r2) ≤ (137438953472 : Nat)) ∧
 True) ∧
 (∀ r6 : Bool,
 (r6 = (decide (r2 = r5))) →
 (true = true) ∧
 (IfP (!r6)
 (IfP true
 ((true = true) ∧
 (K [(aB false)] []))
 (if ((r3.ok != r4.ok) = true) then
 ((true = true) ∧
 (K [(aB false)] []))
 else
 (IfP r3.ok
 ((true = true) ∧
 (((Bytes r3.l) ∧
 ((List.length r3.l) ≤ (1000000000 : Nat))) ∧
 (∀ r7 : (List Int),
 (r7 = (crcPut r3.l)) →
 (true = true) ∧
 ((true = true) ∧
 ((((List.length r7) ≤ (137438953472 : Nat)) ∧
 True) ∧
 (∀ r8 : Bool,
 (r8 = (decide (r7 = r1))) →
 (true = true) ∧
 (IfP (!r8)
 ((true = true) ∧
 (K [(aB false)] []))
 (IfP (!r3.ok)
 (if (((((List.length r3.l) : Nat) : Int) != (0 : Int)) = true) then
 ((true = true) ∧
 (K [(aB false)] []))
 else
 ((true = true) ∧
 (((Bytes r2) ∧
 ((List.length r2) ≤ (1000000000 : Nat))) ∧
 (∀ r9 : CutR,
 (r9 = (crcCut2 r2)) →
 (true = true) ∧
 (IfP (!r9.ok)
 (IfP true
 ((true = true) ∧
 (K [(aB false)] []))
 (if (((((List.length r2) : Nat) : Int) != (IntKind.wrap IntKind.i64 ((((List.length r) : Nat) : Int) + (2 : Int)))) = true) then
 ((true = true) ∧
 (K [(aB false)] []))
 else
 (((((List.length r2) : Nat) : Int) ≠ (0 : Int)) ∧
 ((((0 : Nat) + (List.length r2)) ≤ (137438953472 : Nat)) ∧
 ((((0 : Int) ≤ (Int.tmod (IntKind.wrap IntKind.i64 ((IntKind.wrap IntKind.i64 ((((List.length m) : Nat) : Int) * (37 : Int))) + (((List.length l) : Nat) : Int))) (((List.length r2) : Nat) : Int))) ∧
 ((Int.tmod (IntKind.wrap IntKind.i64 ((IntKind.wrap IntKind.i64 ((((List.length m) : Nat) : Int) * (37 : Int))) + (((List.length l) : Nat) : Int))) (((List.length r2) : Nat) : Int)) < (((List.length (([] : (List Int)) ++ r2 : (List Int))) : Nat) : Int))) ∧
 (((255 : Int) ≠ (0 : Int)) ∧
 ((((0 : Int) ≤ (Int.tmod (IntKind.wrap IntKind.i64 ((IntKind.wrap IntKind.i64 ((((List.length m) : Nat) : Int) * (37 : Int))) + (((List.length l) : Nat) : Int))) (((List.length r2) : Nat) : Int))) ∧
 ((Int.tmod (IntKind.wrap IntKind.i64 ((IntKind.wrap IntKind.i64 ((((List.length m) : Nat) : Int) * (37 : Int))) + (((List.length l) : Nat) : Int))) (((List.length r2) : Nat) : Int)) < (((List.length (([] : (List Int)) ++ r2 : (List Int))) : Nat) : Int))) ∧
 ((true = true) ∧
 (((Bytes (List.set (([] : (List Int)) ++ r2 : (List Int)) (Int.toNat (Int.tmod (IntKind.wrap IntKind.i64 ((IntKind.wrap IntKind.i64 ((((List.length m) : Nat) : Int) * (37 : Int))) + (((List.length l) : Nat) : Int))) (((List.length r2) : Nat) : Int))) (bits BinOp.xor IntKind.u8 (at_u8 (([] : (List Int)) ++ r2 : (List Int)) (Int.toNat (Int.tmod (IntKind.wrap IntKind.i64 ((IntKind.wrap IntKind.i64 ((((List.length m) : Nat) : Int) * (37 : Int))) + (((List.length l) : Nat) : Int))) (((List.length r2) : Nat) : Int)))) (IntKind.wrap IntKind.u8 (IntKind.wrap IntKind.i64 ((1 : Int) + (Int.tmod (((List.length m) : Nat) : Int) (255 : Int)))))))) ∧
 ((List.length (List.set (([] : (List Int)) ++ r2 : (List Int)) (Int.toNat (Int.tmod (IntKind.wrap IntKind.i64 ((IntKind.wrap IntKind.i64 ((((List.length m) : Nat) : Int) * (37 : Int))) + (((List.length l) : Nat) : Int))) (((List.length r2) : Nat) : Int))) (bits BinOp.xor IntKind.u8 (at_u8 (([] : (List Int)) ++ r2 : (List Int)) (Int.toNat (Int.tmod (IntKind.wrap IntKind.i64 ((IntKind.wrap IntKind.i64 ((((List.length m) : Nat) : Int) * (37 : Int))) + (((List.length l) : Nat) : Int))) (((List.length r2) : Nat) : Int)))) (IntKind.wrap IntKind.u8 (IntKind.wrap IntKind.i64 ((1 : Int) + (Int.tmod (((List.length m) : Nat) : Int) (255 : Int)))))))) ≤ (1000000000 : Nat))) ∧
 (∀ r10 : CutR,
 (r10 = (crcCut2 (List.set (([] : (List Int)) ++ r2 : (List Int)) (Int.toNat (Int.tmod (IntKind.wrap IntKind.i64 ((IntKind.wrap IntKind.i64 ((((List.length m) : Nat) : Int) * (37 : Int))) + (((List.length l) : Nat) : Int))) (((List.length r2) : Nat) : Int))) (bits BinOp.xor IntKind.u8 (at_u8 (([] : (List Int)) ++ r2 : (List Int)) (Int.toNat (Int.tmod (IntKind.wrap IntKind.i64 ((IntKind.wrap IntKind.i64 ((((List.length m) : Nat) : Int) * (37 : Int))) + (((List.length l) : Nat) : Int))) (((List.length r2) : Nat) : Int)))) (IntKind.wrap IntKind.u8 (IntKind.wrap IntKind.i64 ((1 : Int) + (Int.tmod (((List.length m) : Nat) : Int) (255 : Int))))))))) →
 (true = true) ∧
 ((true = true) ∧
 (K [(aB (!r10.ok))] []))))))))))))
 ((true = true) ∧
 ((((List.length r9.l) ≤ (137438953472 : Nat)) ∧
 True) ∧
 (∀ r10 : Bool,
 (r10 = (decide (r9.l = r))) →
 (true = true) ∧
 (IfP (!r10)
 ((true = true) ∧
 (K [(aB false)] []))
 (if (((((List.length r2) : Nat) : Int) != (IntKind.wrap IntKind.i64 ((((List.length r) : Nat) : Int) + (2 : Int)))) = true) then
 ((true = true) ∧
 (K [(aB false)] []))
 else
 (((((List.length r2) : Nat) : Int) ≠ (0 : Int)) ∧
 ((((0 : Nat) + (List.length r2)) ≤ (137438953472 : Nat)) ∧
 ((((0 : Int) ≤ (Int.tmod (IntKind.wrap IntKind.i64 ((IntKind.wrap IntKind.i64 ((((List.length m) : Nat) : Int) * (37 : Int))) + (((List.length l) : Nat) : Int))) (((List.length r2) : Nat) : Int))) ∧
 ((Int.tmod (IntKind.wrap IntKind.i64 ((IntKind.wrap IntKind.i64 ((((List.length m) : Nat) : Int) * (37 : Int))) + (((List.length l) : Nat) : Int))) (((List.length r2) : Nat) : Int)) < (((List.length (([] : (List Int)) ++ r2 : (List Int))) : Nat) : Int))) ∧
 (((255 : Int) ≠ (0 : Int)) ∧
 ((((0 : Int) ≤ (Int.tmod (IntKind.wrap IntKind.i64 ((IntKind.wrap IntKind.i64 ((((List.length m) : Nat) : Int) * (37 : Int))) + (((List.length l) : Nat) : Int))) (((List.length r2) : Nat) : Int))) ∧
 ((Int.tmod (IntKind.wrap IntKind.i64 ((IntKind.wrap IntKind.i64 ((((List.length m) : Nat) : Int) * (37 : Int))) + (((List.length l) : Nat) : Int))) (((List.length r2) : Nat) : Int)) < (((List.length (([] : (List Int)) ++ r2 : (List Int))) : Nat) : Int))) ∧
 ((true = true) ∧
 (((Bytes (List.set (([] : (List Int)) ++ r2 : (List Int)) (Int.toNat (Int.tmod (IntKind.wrap IntKind.i64 ((IntKind.wrap IntKind.i64 ((((List.length m) : Nat) : Int) * (37 : Int))) + (((List.length l) : Nat) : Int))) (((List.length r2) : Nat) : Int))) (bits BinOp.xor IntKind.u8 (at_u8 (([] : (List Int)) ++ r2 : (List Int)) (Int.toNat (Int.tmod (IntKind.wrap IntKind.i64 ((IntKind.wrap IntKind.i64 ((((List.length m) : Nat) : Int) * (37 : Int))) + (((List.length l) : Nat) : Int))) (((List.length r2) : Nat) : Int)))) (IntKind.wrap IntKind.u8 (IntKind.wrap IntKind.i64 ((1 : Int) + (Int.tmod (((List.length m) : Nat) : Int) (255 : Int)))))))) ∧
 ((List.length (List.set (([] : (List Int)) ++ r2 : (List Int)) (Int.toNat (Int.tmod (IntKind.wrap IntKind.i64 ((IntKind.wrap IntKind.i64 ((((List.length m) : Nat) : Int) * (37 : Int))) + (((List.length l) : Nat) : Int))) (((List.length r2) : Nat) : Int))) (bits BinOp.xor IntKind.u8 (at_u8 (([] : (List Int)) ++ r2 : (List Int)) (Int.toNat (Int.tmod (IntKind.wrap IntKind.i64 ((IntKind.wrap IntKind.i64 ((((List.length m) : Nat) : Int) * (37 : Int))) + (((List.length l) : Nat) : Int))) (((List.length r2) : Nat) : Int)))) (IntKind.wrap IntKind.u8 (IntKind.wrap IntKind.i64 ((1 : Int) + (Int.tmod (((List.length m) : Nat) : Int) (255 : Int)))))))) ≤ (1000000000 : Nat))) ∧
 (∀ r11 : CutR,
 (r11 = (crcCut2 (List.set (([] : (List Int)) ++ r2 : (List Int)) (Int.toNat (Int.tmod (IntKind.wrap IntKind.i64 ((IntKind.wrap IntKind.i64 ((((List.length m) : Nat) : Int) * (37 : Int))) + (((List.length l) : Nat) : Int))) (((List.length r2) : Nat) : Int))) (bits BinOp.xor IntKind.u8 (at_u8 (([] : (List Int)) ++ r2 : (List Int)) (Int.toNat (Int.tmod (IntKind.wrap IntKind.i64 ((IntKind.wrap IntKind.i64 ((((List.length m) : Nat) : Int) * (37 : Int))) + (((List.length l) : Nat) : Int))) (((List.length r2) : Nat) : Int)))) (IntKind.wrap IntKind.u8 (IntKind.wrap IntKind.i64 ((1 : Int) + (Int.tmod (((List.length m) : Nat) : Int) (255 : Int))))))))) →
 (true = true) ∧
 ((true = true) ∧
 (K [(aB (!r11.ok))] []))))))))))))))))))))
 ((true = true) ∧
 (((Bytes r2) ∧
 ((List.length r2) ≤ (1000000000 : Nat))) ∧
 (∀ r9 : CutR,
 (r9 = (crcCut2 r2)) →
 (true = true) ∧
 (IfP (!r9.ok)
 (IfP true
 ((true = true) ∧
 (K [(aB false)] []))
 (if (((((List.length r2) : Nat) : Int) != (IntKind.wrap IntKind.i64 ((((List.length r) : Nat) : Int) + (2 : Int)))) = true) then
 ((true = true) ∧
 (K [(aB false)] []))
 else
 (((((List.length r2) : Nat) : Int) ≠ (0 : Int)) ∧
 ((((0 : Nat) + (List.length r2)) ≤ (137438953472 : Nat)) ∧
 ((((0 : Int) ≤ (Int.tmod (IntKind.wrap IntKind.i64 ((IntKind.wrap IntKind.i64 ((((List.length m) : Nat) : Int) * (37 : Int))) + (((List.length l) : Nat) : Int))) (((List.length r2) : Nat) : Int))) ∧
 ((Int.tmod (IntKind.wrap IntKind.i64 ((IntKind.wrap IntKind.i64 ((((List.length m) : Nat) : Int) * (37 : Int))) + (((List.length l) : Nat) : Int))) (((List.length r2) : Nat) : Int)) < (((List.length (([] : (List Int)) ++ r2 : (List Int))) : Nat) : Int))) ∧
 (((255 : Int) ≠ (0 : Int)) ∧
 ((((0 : Int) ≤ (Int.tmod (IntKind.wrap IntKind.i64 ((IntKind.wrap IntKind.i64 ((((List.length m) : Nat) : Int) * (37 : Int))) + (((List.length l) : Nat) : Int))) (((List.length r2) : Nat) : Int))) ∧
 ((Int.tmod (IntKind.wrap IntKind.i64 ((IntKind.wrap IntKind.i64 ((((List.length m) : Nat) : Int) * (37 : Int))) + (((List.length l) : Nat) : Int))) (((List.length r2) : Nat) : Int)) < (((List.length (([] : (List Int)) ++ r2 : (List Int))) : Nat) : Int))) ∧
 ((true = true) ∧
 (((Bytes (List.set (([] : (List Int)) ++ r2 : (List Int)) (Int.toNat (Int.tmod (IntKind.wrap IntKind.i64 ((IntKind.wrap IntKind.i64 ((((List.length m) : Nat) : Int) * (37 : Int))) + (((List.length l) : Nat) : Int))) (((List.length r2) : Nat) : Int))) (bits BinOp.xor IntKind.u8 (at_u8 (([] : (List Int)) ++ r2 : (List Int)) (Int.toNat (Int.tmod (IntKind.wrap IntKind.i64 ((IntKind.wrap IntKind.i64 ((((List.length m) : Nat) : Int) * (37 : Int))) + (((List.length l) : Nat) : Int))) (((List.length r2) : Nat) : Int)))) (IntKind.wrap IntKind.u8 (IntKind.wrap IntKind.i64 ((1 : Int) + (Int.tmod (((List.length m) : Nat) : Int) (255 : Int)))))))) ∧
 ((List.length (List.set (([] : (List Int)) ++ r2 : (List Int)) (Int.toNat (Int.tmod (IntKind.wrap IntKind.i64 ((IntKind.wrap IntKind.i64 ((((List.length m) : Nat) : Int) * (37 : Int))) + (((List.length l) : Nat) : Int))) (((List.length r2) : Nat) : Int))) (bits BinOp.xor IntKind.u8 (at_u8 (([] : (List Int)) ++ r2 : (List Int)) (Int.toNat (Int.tmod (IntKind.wrap IntKind.i64 ((IntKind.wrap IntKind.i64 ((((List.length m) : Nat) : Int) * (37 : Int))) + (((List.length l) : Nat) : Int))) (((List.length r2) : Nat) : Int)))) (IntKind.wrap IntKind.u8 (IntKind.wrap IntKind.i64 ((1 : Int) + (Int.tmod (((List.length m) : Nat) : Int) (255 : Int)))))))) ≤ (1000000000 : Nat))) ∧
 (∀ r10 : CutR,
 (r10 = (crcCut2 (List.set (([] : (List Int)) ++ r2 : (List Int)) (Int.toNat (Int.tmod (IntKind.wrap IntKind.i64 ((IntKind.wrap IntKind.i64 ((((List.length m) : Nat) : Int) * (37 : Int))) + (((List.length l) : Nat) : Int))) (((List.length r2) : Nat) : Int))) (bits BinOp.xor IntKind.u8 (at_u8 (([] : (List Int)) ++ r2 : (List Int)) (Int.toNat (Int.tmod (IntKind.wrap IntKind.i64 ((IntKind.wrap IntKind.i64 ((((List.length m) : Nat) : Int) * (37 : Int))) + (((List.length l) : Nat) : Int))) (((List.length r2) : Nat) : Int)))) (IntKind.wrap IntKind.u8 (IntKind.wrap IntKind.i64 ((1 : Int) + (Int.tmod (((List.length m) : Nat) : Int) (255 : Int))))))))) →
 (true = true) ∧
 ((true = true) ∧
 (K [(aB (!r10.ok))] []))))))))))))
 ((true = true) ∧
 ((((List.length r9.l) ≤ (137438953472 : Nat)) ∧
 True) ∧
 (∀ r10 : Bool,
 (r10 = (decide (r9.l = r))) →
 (true = true) ∧
 (IfP (!r10)
 ((true = true) ∧
 (K [(aB false)] []))
 (if (((((List.length r2) : Nat) : Int) != (IntKind.wrap IntKind.i64 ((((List.length r) : Nat) : Int) + (2 : Int)))) = true) then
 ((true = true) ∧
 (K [(aB false)] []))
 else
 (((((List.length r2) : Nat) : Int) ≠ (0 : Int)) ∧
 ((((0 : Nat) + (List.length r2)) ≤ (137438953472 : Nat)) ∧
 ((((0 : Int) ≤ (Int.tmod (IntKind.wrap IntKind.i64 ((IntKind.wrap IntKind.i64 ((((List.length m) : Nat) : Int) * (37 : Int))) + (((List.length l) : Nat) : Int))) (((List.length r2) : Nat) : Int))) ∧
 ((Int.tmod (IntKind.wrap IntKind.i64 ((IntKind.wrap IntKind.i64 ((((List.length m) : Nat) : Int) * (37 : Int))) + (((List.length l) : Nat) : Int))) (((List.length r2) : Nat) : Int)) < (((List.length (([] : (List Int)) ++ r2 : (List Int))) : Nat) : Int))) ∧
 (((255 : Int) ≠ (0 : Int)) ∧
 ((((0 : Int) ≤ (Int.tmod (IntKind.wrap IntKind.i64 ((IntKind.wrap IntKind.i64 ((((List.length m) : Nat) : Int) * (37 : Int))) + (((List.length l) : Nat) : Int))) (((List.length r2) : Nat) : Int))) ∧
 ((Int.tmod (IntKind.wrap IntKind.i64 ((IntKind.wrap IntKind.i64 ((((List.length m) : Nat) : Int) * (37 : Int))) + (((List.length l) : Nat) : Int))) (((List.length r2) : Nat) : Int)) < (((List.length (([] : (List Int)) ++ r2 : (List Int))) : Nat) : Int))) ∧
 ((true = true) ∧
 (((Bytes (List.set (([] : (List Int)) ++ r2 : (List Int)) (Int.toNat (Int.tmod (IntKind.wrap IntKind.i64 ((IntKind.wrap IntKind.i64 ((((List.length m) : Nat) : Int) * (37 : Int))) + (((List.length l) : Nat) : Int))) (((List.length r2) : Nat) : Int))) (bits BinOp.xor IntKind.u8 (at_u8 (([] : (List Int)) ++ r2 : (List Int)) (Int.toNat (Int.tmod (IntKind.wrap IntKind.i64 ((IntKind.wrap IntKind.i64 ((((List.length m) : Nat) : Int) * (37 : Int))) + (((List.length l) : Nat) : Int))) (((List.length r2) : Nat) : Int)))) (IntKind.wrap IntKind.u8 (IntKind.wrap IntKind.i64 ((1 : Int) + (Int.tmod (((List.length m) : Nat) : Int) (255 : Int)))))))) ∧
 ((List.length (List.set (([] : (List Int)) ++ r2 : (List Int)) (Int.toNat (Int.tmod (IntKind.wrap IntKind.i64 ((IntKind.wrap IntKind.i64 ((((List.length m) : Nat) : Int) * (37 : Int))) + (((List.length l) : Nat) : Int))) (((List.length r2) : Nat) : Int))) (bits BinOp.xor IntKind.u8 (at_u8 (([] : (List Int)) ++ r2 : (List Int)) (Int.toNat (Int.tmod (IntKind.wrap IntKind.i64 ((IntKind.wrap IntKind.i64 ((((List.length m) : Nat) : Int) * (37 : Int))) + (((List.length l) : Nat) : Int))) (((List.length r2) : Nat) : Int)))) (IntKind.wrap IntKind.u8 (IntKind.wrap IntKind.i64 ((1 : Int) + (Int.tmod (((List.length m) : Nat) : Int) (255 : Int)))))))) ≤ (1000000000 : Nat))) ∧
 (∀ r11 : CutR,
 (r11 = (crcCut2 (List.set (([] : (List Int)) ++ r2 : (List Int)) (Int.toNat (Int.tmod (IntKind.wrap IntKind.i64 ((IntKind.wrap IntKind.i64 ((((List.length m) : Nat) : Int) * (37 : Int))) + (((List.length l) : Nat) : Int))) (((List.length r2) : Nat) : Int))) (bits BinOp.xor IntKind.u8 (at_u8 (([] : (List Int)) ++ r2 : (List Int)) (Int.toNat (Int.tmod (IntKind.wrap IntKind.i64 ((IntKind.wrap IntKind.i64 ((((List.length m) : Nat) : Int) * (37 : Int))) + (((List.length l) : Nat) : Int))) (((List.length r2) : Nat) : Int)))) (IntKind.wrap IntKind.u8 (IntKind.wrap IntKind.i64 ((1 : Int) + (Int.tmod (((List.length m) : Nat) : Int) (255 : Int))))))))) →
 (true = true) ∧
 ((true = true) ∧
 (K [(aB (!r11.ok))] [])))))))))))))))))))))))))))
 (IfP false
 ((true = true) ∧
 (K [(aB false)] []))
 (IfP (!r3.ok)
 (if (((((List.length r3.l) : Nat) : Int) != (0 : Int)) = true) then
 ((true = true) ∧
 (K [(aB false)] []))
 else
 ((true = true) ∧
 (((Bytes r2) ∧
 ((List.length r2) ≤ (1000000000 : Nat))) ∧
 (∀ r7 : CutR,
 (r7 = (crcCut2 r2)) →
 (true = true) ∧
 (IfP (!r7.ok)
 (IfP true
 ((true = true) ∧
 (K [(aB false)] []))
 (if (((((List.length r2) : Nat) : Int) != (IntKind.wrap IntKind.i64 ((((List.length r) : Nat) : Int) + (2 : Int)))) = true) then
 ((true = true) ∧
 (K [(aB false)] []))
 else
 (((((List.length r2) : Nat) : Int) ≠ (0 : Int)) ∧
 ((((0 : Nat) + (List.length r2)) ≤ (137438953472 : Nat)) ∧
 ((((0 : Int) ≤ (Int.tmod (IntKind.wrap IntKind.i64 ((IntKind.wrap IntKind.i64 ((((List.length m) : Nat) : Int) * (37 : Int))) + (((List.length l) : Nat) : Int))) (((List.length r2) : Nat) : Int))) ∧
 ((Int.tmod (IntKind.wrap IntKind.i64 ((IntKind.wrap IntKind.i64 ((((List.length m) : Nat) : Int) * (37 : Int))) + (((List.length l) : Nat) : Int))) (((List.length r2) : Nat) : Int)) < (((List.length (([] : (List Int)) ++ r2 : (List Int))) : Nat) : Int))) ∧
 (((255 : Int) ≠ (0 : Int)) ∧
 ((((0 : Int) ≤ (Int.tmod (IntKind.wrap IntKind.i64 ((IntKind.wrap IntKind.i64 ((((List.length m) : Nat) : Int) * (37 : Int))) + (((List.length l) : Nat) : Int))) (((List.length r2) : Nat) : Int))) ∧
 ((Int.tmod (IntKind.wrap IntKind.i64 ((IntKind.wrap IntKind.i64 ((((List.length m) : Nat) : Int) * (37 : Int))) + (((List.length l) : Nat) : Int))) (((List.length r2) : Nat) : Int)) < (((List.length (([] : (List Int)) ++ r2 : (List Int))) : Nat) : Int))) ∧
 ((true = true) ∧
 (((Bytes (List.set (([] : (List Int)) ++ r2 : (List Int)) (Int.toNat (Int.tmod (IntKind.wrap IntKind.i64 ((IntKind.wrap IntKind.i64 ((((List.length m) : Nat) : Int) * (37 : Int))) + (((List.length l) : Nat) : Int))) (((List.length r2) : Nat) : Int))) (bits BinOp.xor IntKind.u8 (at_u8 (([] : (List Int)) ++ r2 : (List Int)) (Int.toNat (Int.tmod (IntKind.wrap IntKind.i64 ((IntKind.wrap IntKind.i64 ((((List.length m) : Nat) : Int) * (37 : Int))) + (((List.length l) : Nat) : Int))) (((List.length r2) : Nat) : Int)))) (IntKind.wrap IntKind.u8 (IntKind.wrap IntKind.i64 ((1 : Int) + (Int.tmod (((List.length m) : Nat) : Int) (255 : Int)))))))) ∧
 ((List.length (List.set (([] : (List Int)) ++ r2 : (List Int)) (Int.toNat (Int.tmod (IntKind.wrap IntKind.i64 ((IntKind.wrap IntKind.i64 ((((List.length m) : Nat) : Int) * (37 : Int))) + (((List.length l) : Nat) : Int))) (((List.length r2) : Nat) : Int))) (bits BinOp.xor IntKind.u8 (at_u8 (([] : (List Int)) ++ r2 : (List Int)) (Int.toNat (Int.tmod (IntKind.wrap IntKind.i64 ((IntKind.wrap IntKind.i64 ((((List.length m) : Nat) : Int) * (37 : Int))) + (((List.length l) : Nat) : Int))) (((List.length r2) : Nat) : Int)))) (IntKind.wrap IntKind.u8 (IntKind.wrap IntKind.i64 ((1 : Int) + (Int.tmod (((List.length m) : Nat) : Int) (255 : Int)))))))) ≤ (1000000000 : Nat))) ∧
 (∀ r8 : CutR,
 (r8 = (crcCut2 (List.set (([] : (List Int)) ++ r2 : (List Int)) (Int.toNat (Int.tmod (IntKind.wrap IntKind.i64 ((IntKind.wrap IntKind.i64 ((((List.length m) : Nat) : Int) * (37 : Int))) + (((List.length l) : Nat) : Int))) (((List.length r2) : Nat) : Int))) (bits BinOp.xor IntKind.u8 (at_u8 (([] : (List Int)) ++ r2 : (List Int)) (Int.toNat (Int.tmod (IntKind.wrap IntKind.i64 ((IntKind.wrap IntKind.i64 ((((List.length m) : Nat) : Int) * (37 : Int))) + (((List.length l) : Nat) : Int))) (((List.length r2) : Nat) : Int)))) (IntKind.wrap IntKind.u8 (IntKind.wrap IntKind.i64 ((1 : Int) + (Int.tmod (((List.length m) : Nat) : Int) (255 : Int))))))))) →
 (true = true) ∧
 ((true = true) ∧
 (K [(aB (!r8.ok))] []))))))))))))
 ((true = true) ∧
 ((((List.length r7.l) ≤ (137438953472 : Nat)) ∧
 True) ∧
 (∀ r8 : Bool,
 (r8 = (decide (r7.l = r))) →
 (true = true) ∧
 (IfP (!r8)
 ((true = true) ∧
 (K [(aB false)] []))
 (if (((((List.length r2) : Nat) : Int) != (IntKind.wrap IntKind.i64 ((((List.length r) : Nat) : Int) + (2 : Int)))) = true) then
 ((true = true) ∧
 (K [(aB false)] []))
 else
 (((((List.length r2) : Nat) : Int) ≠ (0 : Int)) ∧
 ((((0 : Nat) + (List.length r2)) ≤ (137438953472 : Nat)) ∧
 ((((0 : Int) ≤ (Int.tmod (IntKind.wrap IntKind.i64 ((IntKind.wrap IntKind.i64 ((((List.length m) : Nat) : Int) * (37 : Int))) + (((List.length l) : Nat) : Int))) (((List.length r2) : Nat) : Int))) ∧
 ((Int.tmod (IntKind.wrap IntKind.i64 ((IntKind.wrap IntKind.i64 ((((List.length m) : Nat) : Int) * (37 : Int))) + (((List.length l) : Nat) : Int))) (((List.length r2) : Nat) : Int)) < (((List.length (([] : (List Int)) ++ r2 : (List Int))) : Nat) : Int))) ∧
 (((255 : Int) ≠ (0 : Int)) ∧
 ((((0 : Int) ≤ (Int.tmod (IntKind.wrap IntKind.i64 ((IntKind.wrap IntKind.i64 ((((List.length m) : Nat) : Int) * (37 : Int))) + (((List.length l) : Nat) : Int))) (((List.length r2) : Nat) : Int))) ∧
 ((Int.tmod (IntKind.wrap IntKind.i64 ((IntKind.wrap IntKind.i64 ((((List.length m) : Nat) : Int) * (37 : Int))) + (((List.length l) : Nat) : Int))) (((List.length r2) : Nat) : Int)) < (((List.length (([] : (List Int)) ++ r2 : (List Int))) : Nat) : Int))) ∧
 ((true = true) ∧
 (((Bytes (List.set (([] : (List Int)) ++ r2 : (List Int)) (Int.toNat (Int.tmod (IntKind.wrap IntKind.i64 ((IntKind.wrap IntKind.i64 ((((List.length m) : Nat) : Int) * (37 : Int))) + (((List.length l) : Nat) : Int))) (((List.length r2) : Nat) : Int))) (bits BinOp.xor IntKind.u8 (at_u8 (([] : (List Int)) ++ r2 : (List Int)) (Int.toNat (Int.tmod (IntKind.wrap IntKind.i64 ((IntKind.wrap IntKind.i64 ((((List.length m) : Nat) : Int) * (37 : Int))) + (((List.length l) : Nat) : Int))) (((List.length r2) : Nat) : Int)))) (IntKind.wrap IntKind.u8 (IntKind.wrap IntKind.i64 ((1 : Int) + (Int.tmod (((List.length m) : Nat) : Int) (255 : Int)))))))) ∧
 ((List.length (List.set (([] : (List Int)) ++ r2 : (List Int)) (Int.toNat (Int.tmod (IntKind.wrap IntKind.i64 ((IntKind.wrap IntKind.i64 ((((List.length m) : Nat) : Int) * (37 : Int))) + (((List.length l) : Nat) : Int))) (((List.length r2) : Nat) : Int))) (bits BinOp.xor IntKind.u8 (at_u8 (([] : (List Int)) ++ r2 : (List Int)) (Int.toNat (Int.tmod (IntKind.wrap IntKind.i64 ((IntKind.wrap IntKind.i64 ((((List.length m) : Nat) : Int) * (37 : Int))) + (((List.length l) : Nat) : Int))) (((List.length r2) : Nat) : Int)))) (IntKind.wrap IntKind.u8 (IntKind.wrap IntKind.i64 ((1 : Int) + (Int.tmod (((List.length m) : Nat) : Int) (255 : Int)))))))) ≤ (1000000000 : Nat))) ∧
 (∀ r9 : CutR,
 (r9 = (crcCut2 (List.set (([] : (List Int)) ++ r2 : (List Int)) (Int.toNat (Int.tmod (IntKind.wrap IntKind.i64 ((IntKind.wrap IntKind.i64 ((((List.length m) : Nat) : Int) * (37 : Int))) + (((List.length l) : Nat) : Int))) (((List.length r2) : Nat) : Int))) (bits BinOp.xor IntKind.u8 (at_u8 (([] : (List Int)) ++ r2 : (List Int)) (Int.toNat (Int.tmod (IntKind.wrap IntKind.i64 ((IntKind.wrap IntKind.i64 ((((List.length m) : Nat) : Int) * (37 : Int))) + (((List.length l) : Nat) : Int))) (((List.length r2) : Nat) : Int)))) (IntKind.wrap IntKind.u8 (IntKind.wrap IntKind.i64 ((1 : Int) + (Int.tmod (((List.length m) : Nat) : Int) (255 : Int))))))))) →
 (true = true) ∧
 ((true = true) ∧
 (K [(aB (!r9.ok))] []))))))))))))))))))))
 ((true = true) ∧
 (((Bytes r2) ∧
 ((List.length r2) ≤ (1000000000 : Nat))) ∧
 (∀ r7 : CutR,
 (r7 = (crcCut2 r2)) →
 (true = true) ∧
 (IfP (!r7.ok)
 (IfP true
 ((true = true) ∧
 (K [(aB false)] []))
 (if (((((List.length r2) : Nat) : Int) != (IntKind.wrap IntKind.i64 ((((List.length r) : Nat) : Int) + (2 : Int)))) = true) then
 ((true = true) ∧
 (K [(aB false)] []))
 else
 (((((List.length r2) : Nat) : Int) ≠ (0 : Int)) ∧
 ((((0 : Nat) + (List.length r2)) ≤ (137438953472 : Nat)) ∧
 ((((0 : Int) ≤ (Int.tmod (IntKind.wrap IntKind.i64 ((IntKind.wrap IntKind.i64 ((((List.length m) : Nat) : Int) * (37 : Int))) + (((List.length l) : Nat) : Int))) (((List.length r2) : Nat) : Int))) ∧
 ((Int.tmod (IntKind.wrap IntKind.i64 ((IntKind.wrap IntKind.i64 ((((List.length m) : Nat) : Int) * (37 : Int))) + (((List.length l) : Nat) : Int))) (((List.length r2) : Nat) : Int)) < (((List.length (([] : (List Int)) ++ r2 : (List Int))) : Nat) : Int))) ∧
 (((255 : Int) ≠ (0 : Int)) ∧
 ((((0 : Int) ≤ (Int.tmod (IntKind.wrap IntKind.i64 ((IntKind.wrap IntKind.i64 ((((List.length m) : Nat) : Int) * (37 : Int))) + (((List.length l) : Nat) : Int))) (((List.length r2) : Nat) : Int))) ∧
 ((Int.tmod (IntKind.wrap IntKind.i64 ((IntKind.wrap IntKind.i64 ((((List.length m) : Nat) : Int) * (37 : Int))) + (((List.length l) : Nat) : Int))) (((List.length r2) : Nat) : Int)) < (((List.length (([] : (List Int)) ++ r2 : (List Int))) : Nat) : Int))) ∧
 ((true = true) ∧
 (((Bytes (List.set (([] : (List Int)) ++ r2 : (List Int)) (Int.toNat (Int.tmod (IntKind.wrap IntKind.i64 ((IntKind.wrap IntKind.i64 ((((List.length m) : Nat) : Int) * (37 : Int))) + (((List.length l) : Nat) : Int))) (((List.length r2) : Nat) : Int))) (bits BinOp.xor IntKind.u8 (at_u8 (([] : (List Int)) ++ r2 : (List Int)) (Int.toNat (Int.tmod (IntKind.wrap IntKind.i64 ((IntKind.wrap IntKind.i64 ((((List.length m) : Nat) : Int) * (37 : Int))) + (((List.length l) : Nat) : Int))) (((List.length r2) : Nat) : Int)))) (IntKind.wrap IntKind.u8 (IntKind.wrap IntKind.i64 ((1 : Int) + (Int.tmod (((List.length m) : Nat) : Int) (255 : Int)))))))) ∧
 ((List.length (List.set (([] : (List Int)) ++ r2 : (List Int)) (Int.toNat (Int.tmod (IntKind.wrap IntKind.i64 ((IntKind.wrap IntKind.i64 ((((List.length m) : Nat) : Int) * (37 : Int))) + (((List.length l) : Nat) : Int))) (((List.length r2) : Nat) : Int))) (bits BinOp.xor IntKind.u8 (at_u8 (([] : (List Int)) ++ r2 : (List Int)) (Int.toNat (Int.tmod (IntKind.wrap IntKind.i64 ((IntKind.wrap IntKind.i64 ((((List.length m) : Nat) : Int) * (37 : Int))) + (((List.length l) : Nat) : Int))) (((List.length r2) : Nat) : Int)))) (IntKind.wrap IntKind.u8 (IntKind.wrap IntKind.i64 ((1 : Int) + (Int.tmod (((List.length m) : Nat) : Int) (255 : Int)))))))) ≤ (1000000000 : Nat))) ∧
 (∀ r8 : CutR,
 (r8 = (crcCut2 (List.set (([] : (List Int)) ++ r2 : (List Int)) (Int.toNat (Int.tmod (IntKind.wrap IntKind.i64 ((IntKind.wrap IntKind.i64 ((((List.length m) : Nat) : Int) * (37 : Int))) + (((List.length l) : Nat) : Int))) (((List.length r2) : Nat) : Int))) (bits BinOp.xor IntKind.u8 (at_u8 (([] : (List Int)) ++ r2 : (List Int)) (Int.toNat (Int.tmod (IntKind.wrap IntKind.i64 ((IntKind.wrap IntKind.i64 ((((List.length m) : Nat) : Int) * (37 : Int))) + (((List.length l) : Nat) : Int))) (((List.length r2) : Nat) : Int)))) (IntKind.wrap IntKind.u8 (IntKind.wrap IntKind.i64 ((1 : Int) + (Int.tmod (((List.length m) : Nat) : Int) (255 : Int))))))))) →
 (true = true) ∧
 ((true = true) ∧
 (K [(aB (!r8.ok))] []))))))))))))
 ((true = true) ∧
 ((((List.length r7.l) ≤ (137438953472 : Nat)) ∧
 True) ∧
 (∀ r8 : Bool,
 (r8 = (decide (r7.l = r))) →
 (true = true) ∧
 (IfP (!r8)
 ((true = true) ∧
 (K [(aB false)] []))
 (if (((((List.length r2) : Nat) : Int) != (IntKind.wrap IntKind.i64 ((((List.length r) : Nat) : Int) + (2 : Int)))) = true) then
 ((true = true) ∧
 (K [(aB false)] []))
 else
 (((((List.length r2) : Nat) : Int) ≠ (0 : Int)) ∧
 ((((0 : Nat) + (List.length r2)) ≤ (137438953472 : Nat)) ∧
 ((((0 : Int) ≤ (Int.tmod (IntKind.wrap IntKind.i64 ((IntKind.wrap IntKind.i64 ((((List.length m) : Nat) : Int) * (37 : Int))) + (((List.length l) : Nat) : Int))) (((List.length r2) : Nat) : Int))) ∧
 ((Int.tmod (IntKind.wrap IntKind.i64 ((IntKind.wrap IntKind.i64 ((((List.length m) : Nat) : Int) * (37 : Int))) + (((List.length l) : Nat) : Int))) (((List.length r2) : Nat) : Int)) < (((List.length (([] : (List Int)) ++ r2 : (List Int))) : Nat) : Int))) ∧
 (((255 : Int) ≠ (0 : Int)) ∧
 ((((0 : Int) ≤ (Int.tmod (IntKind.wrap IntKind.i64 ((IntKind.wrap IntKind.i64 ((((List.length m) : Nat) : Int) * (37 : Int))) + (((List.length l) : Nat) : Int))) (((List.length r2) : Nat) : Int))) ∧
 ((Int.tmod (IntKind.wrap IntKind.i64 ((IntKind.wrap IntKind.i64 ((((List.length m) : Nat) : Int) * (37 : Int))) + (((List.length l) : Nat) : Int))) (((List.length r2) : Nat) : Int)) < (((List.length (([] : (List Int)) ++ r2 : (List Int))) : Nat) : Int))) ∧
 ((true = true) ∧
 (((Bytes (List.set (([] : (List Int)) ++ r2 : (List Int)) (Int.toNat (Int.tmod (IntKind.wrap IntKind.i64 ((IntKind.wrap IntKind.i64 ((((List.length m) : Nat) : Int) * (37 : Int))) + (((List.length l) : Nat) : Int))) (((List.length r2) : Nat) : Int))) (bits BinOp.xor IntKind.u8 (at_u8 (([] : (List Int)) ++ r2 : (List Int)) (Int.toNat (Int.tmod (IntKind.wrap IntKind.i64 ((IntKind.wrap IntKind.i64 ((((List.length m) : Nat) : Int) * (37 : Int))) + (((List.length l) : Nat) : Int))) (((List.length r2) : Nat) : Int)))) (IntKind.wrap IntKind.u8 (IntKind.wrap IntKind.i64 ((1 : Int) + (Int.tmod (((List.length m) : Nat) : Int) (255 : Int)))))))) ∧
 ((List.length (List.set (([] : (List Int)) ++ r2 : (List Int)) (Int.toNat (Int.tmod (IntKind.wrap IntKind.i64 ((IntKind.wrap IntKind.i64 ((((List.length m) : Nat) : Int) * (37 : Int))) + (((List.length l) : Nat) : Int))) (((List.length r2) : Nat) : Int))) (bits BinOp.xor IntKind.u8 (at_u8 (([] : (List Int)) ++ r2 : (List Int)) (Int.toNat (Int.tmod (IntKind.wrap IntKind.i64 ((IntKind.wrap IntKind.i64 ((((List.length m) : Nat) : Int) * (37 : Int))) + (((List.length l) : Nat) : Int))) (((List.length r2) : Nat) : Int)))) (IntKind.wrap IntKind.u8 (IntKind.wrap IntKind.i64 ((1 : Int) + (Int.tmod (((List.length m) : Nat) : Int) (255 : Int)))))))) ≤ (1000000000 : Nat))) ∧
 (∀ r9 : CutR,
 (r9 = (crcCut2 (List.set (([] : (List Int)) ++ r2 : (List Int)) (Int.toNat (Int.tmod (IntKind.wrap IntKind.i64 ((IntKind.wrap IntKind.i64 ((((List.length m) : Nat) : Int) * (37 : Int))) + (((List.length l) : Nat) : Int))) (((List.length r2) : Nat) : Int))) (bits BinOp.xor IntKind.u8 (at_u8 (([] : (List Int)) ++ r2 : (List Int)) (Int.toNat (Int.tmod (IntKind.wrap IntKind.i64 ((IntKind.wrap IntKind.i64 ((((List.length m) : Nat) : Int) * (37 : Int))) + (((List.length l) : Nat) : Int))) (((List.length r2) : Nat) : Int)))) (IntKind.wrap IntKind.u8 (IntKind.wrap IntKind.i64 ((1 : Int) + (Int.tmod (((List.length m) : Nat) : Int) (255 : Int))))))))) →
 (true = true) ∧
 ((true = true) ∧
 (K [(aB (!r9.ok))] []))))))))))))))))))))))))
 ((true = true) ∧
 ((((List.length r3.l) ≤ (137438953472 : Nat)) ∧
 True) ∧
 (∀ r7 : Bool,
 (r7 = (decide (r3.l = r4.l))) →
 (true = true) ∧
 (IfP (!r7)
 ((true = true) ∧
 (K [(aB false)] []))
 (if ((r3.ok != r4.ok) = true) then
 ((true = true) ∧
 (K [(aB false)] []))
 else
 (IfP r3.ok
 ((true = true) ∧
 (((Bytes r3.l) ∧
 ((List.length r3.l) ≤ (1000000000 : Nat))) ∧
 (∀ r8 : (List Int),
 (r8 = (crcPut r3.l)) →
 (true = true) ∧
 ((true = true) ∧
 ((((List.length r8) ≤ (137438953472 : Nat)) ∧
 True) ∧
 (∀ r9 : Bool,
 (r9 = (decide (r8 = r1))) →
 (true = true) ∧
 (IfP (!r9)
 ((true = true) ∧
 (K [(aB false)] []))
 (IfP (!r3.ok)
 (if (((((List.length r3.l) : Nat) : Int) != (0 : Int)) = true) then
 ((true = true) ∧
 (K [(aB false)] []))
 else
 ((true = true) ∧
 (((Bytes r2) ∧
 ((List.length r2) ≤ (1000000000 : Nat))) ∧
 (∀ r10 : CutR,
 (r10 = (crcCut2 r2)) →
 (true = true) ∧
 (IfP (!r10.ok)
 (IfP true
 ((true = true) ∧
 (K [(aB false)] []))
 (if (((((List.length r2) : Nat) : Int) != (IntKind.wrap IntKind.i64 ((((List.length r) : Nat) : Int) + (2 : Int)))) = true) then
 ((true = true) ∧
 (K [(aB false)] []))
 else
 (((((List.length r2) : Nat) : Int) ≠ (0 : Int)) ∧
 ((((0 : Nat) + (List.length r2)) ≤ (137438953472 : Nat)) ∧
 ((((0 : Int) ≤ (Int.tmod (IntKind.wrap IntKind.i64 ((IntKind.wrap IntKind.i64 ((((List.length m) : Nat) : Int) * (37 : Int))) + (((List.length l) : Nat) : Int))) (((List.length r2) : Nat) : Int))) ∧
 ((Int.tmod (IntKind.wrap IntKind.i64 ((IntKind.wrap IntKind.i64 ((((List.length m) : Nat) : Int) * (37 : Int))) + (((List.length l) : Nat) : Int))) (((List.length r2) : Nat) : Int)) < (((List.length (([] : (List Int)) ++ r2 : (List Int))) : Nat) : Int))) ∧
 (((255 : Int) ≠ (0 : Int)) ∧
 ((((0 : Int) ≤ (Int.tmod (IntKind.wrap IntKind.i64 ((IntKind.wrap IntKind.i64 ((((List.length m) : Nat) : Int) * (37 : Int))) + (((List.length l) : Nat) : Int))) (((List.length r2) : Nat) : Int))) ∧
 ((Int.tmod (IntKind.wrap IntKind.i64 ((IntKind.wrap IntKind.i64 ((((List.length m) : Nat) : Int) * (37 : Int))) + (((List.length l) : Nat) : Int))) (((List.length r2) : Nat) : Int)) < (((List.length (([] : (List Int)) ++ r2 : (List Int))) : Nat) : Int))) ∧
 ((true = true) ∧
 (((Bytes (List.set (([] : (List Int)) ++ r2 : (List Int)) (Int.toNat (Int.tmod (IntKind.wrap IntKind.i64 ((IntKind.wrap IntKind.i64 ((((List.length m) : Nat) : Int) * (37 : Int))) + (((List.length l) : Nat) : Int))) (((List.length r2) : Nat) : Int))) (bits BinOp.xor IntKind.u8 (at_u8 (([] : (List Int)) ++ r2 : (List Int)) (Int.toNat (Int.tmod (IntKind.wrap IntKind.i64 ((IntKind.wrap IntKind.i64 ((((List.length m) : Nat) : Int) * (37 : Int))) + (((List.length l) : Nat) : Int))) (((List.length r2) : Nat) : Int)))) (IntKind.wrap IntKind.u8 (IntKind.wrap IntKind.i64 ((1 : Int) + (Int.tmod (((List.length m) : Nat) : Int) (255 : Int)))))))) ∧
 ((List.length (List.set (([] : (List Int)) ++ r2 : (List Int)) (Int.toNat (Int.tmod (IntKind.wrap IntKind.i64 ((IntKind.wrap IntKind.i64 ((((List.length m) : Nat) : Int) * (37 : Int))) + (((List.length l) : Nat) : Int))) (((List.length r2) : Nat) : Int))) (bits BinOp.xor IntKind.u8 (at_u8 (([] : (List Int)) ++ r2 : (List Int)) (Int.toNat (Int.tmod (IntKind.wrap IntKind.i64 ((IntKind.wrap IntKind.i64 ((((List.length m) : Nat) : Int) * (37 : Int))) + (((List.length l) : Nat) : Int))) (((List.length r2) : Nat) : Int)))) (IntKind.wrap IntKind.u8 (IntKind.wrap IntKind.i64 ((1 : Int) + (Int.tmod (((List.length m) : Nat) : Int) (255 : Int)))))))) ≤ (1000000000 : Nat))) ∧
 (∀ r11 : CutR,
 (r11 = (crcCut2 (List.set (([] : (List Int)) ++ r2 : (List Int)) (Int.toNat (Int.tmod (IntKind.wrap IntKind.i64 ((IntKind.wrap IntKind.i64 ((((List.length m) : Nat) : Int) * (37 : Int))) + (((List.length l) : Nat) : Int))) (((List.length r2) : Nat) : Int))) (bits BinOp.xor IntKind.u8 (at_u8 (([] : (List Int)) ++ r2 : (List Int)) (Int.toNat (Int.tmod (IntKind.wrap IntKind.i64 ((IntKind.wrap IntKind.i64 ((((List.length m) : Nat) : Int) * (37 : Int))) + (((List.length l) : Nat) : Int))) (((List.length r2) : Nat) : Int)))) (IntKind.wrap IntKind.u8 (IntKind.wrap IntKind.i64 ((1 : Int) + (Int.tmod (((List.length m) : Nat) : Int) (255 : Int))))))))) →
 (true = true) ∧
 ((true = true) ∧
 (K [(aB (!r11.ok))] []))))))))))))
 ((true = true) ∧
 ((((List.length r10.l) ≤ (137438953472 : Nat)) ∧
 True) ∧
 (∀ r11 : Bool,
 (r11 = (decide (r10.l = r))) →
 (true = true) ∧
 (IfP (!r11)
 ((true = true) ∧
 (K [(aB false)] []))
 (if (((((List.length r2) : Nat) : Int) != (IntKind.wrap IntKind.i64 ((((List.length r) : Nat) : Int) + (2 : Int)))) = true) then
 ((true = true) ∧
 (K [(aB false)] []))
 else
 (((((List.length r2) : Nat) : Int) ≠ (0 : Int)) ∧
 ((((0 : Nat) + (List.length r2)) ≤ (137438953472 : Nat)) ∧
 ((((0 : Int) ≤ (Int.tmod (IntKind.wrap IntKind.i64 ((IntKind.wrap IntKind.i64 ((((List.length m) : Nat) : Int) * (37 : Int))) + (((List.length l) : Nat) : Int))) (((List.length r2) : Nat) : Int))) ∧
 ((Int.tmod (IntKind.wrap IntKind.i64 ((IntKind.wrap IntKind.i64 ((((List.length m) : Nat) : Int) * (37 : Int))) + (((List.length l) : Nat) : Int))) (((List.length r2) : Nat) : Int)) < (((List.length (([] : (List Int)) ++ r2 : (List Int))) : Nat) : Int))) ∧
 (((255 : Int) ≠ (0 : Int)) ∧
 ((((0 : Int) ≤ (Int.tmod (IntKind.wrap IntKind.i64 ((IntKind.wrap IntKind.i64 ((((List.length m) : Nat) : Int) * (37 : Int))) + (((List.length l) : Nat) : Int))) (((List.length r2) : Nat) : Int))) ∧
 ((Int.tmod (IntKind.wrap IntKind.i64 ((IntKind.wrap IntKind.i64 ((((List.length m) : Nat) : Int) * (37 : Int))) + (((List.length l) : Nat) : Int))) (((List.length r2) : Nat) : Int)) < (((List.length (([] : (List Int)) ++ r2 : (List Int))) : Nat) : Int))) ∧
 ((true = true) ∧
 (((Bytes (List.set (([] : (List Int)) ++ r2 : (List Int)) (Int.toNat (Int.tmod (IntKind.wrap IntKind.i64 ((IntKind.wrap IntKind.i64 ((((List.length m) : Nat) : Int) * (37 : Int))) + (((List.length l) : Nat) : Int))) (((List.length r2) : Nat) : Int))) (bits BinOp.xor IntKind.u8 (at_u8 (([] : (List Int)) ++ r2 : (List Int)) (Int.toNat (Int.tmod (IntKind.wrap IntKind.i64 ((IntKind.wrap IntKind.i64 ((((List.length m) : Nat) : Int) * (37 : Int))) + (((List.length l) : Nat) : Int))) (((List.length r2) : Nat) : Int)))) (IntKind.wrap IntKind.u8 (IntKind.wrap IntKind.i64 ((1 : Int) + (Int.tmod (((List.length m) : Nat) : Int) (255 : Int)))))))) ∧
 ((List.length (List.set (([] : (List Int)) ++ r2 : (List Int)) (Int.toNat (Int.tmod (IntKind.wrap IntKind.i64 ((IntKind.wrap IntKind.i64 ((((List.length m) : Nat) : Int) * (37 : Int))) + (((List.length l) : Nat) : Int))) (((List.length r2) : Nat) : Int))) (bits BinOp.xor IntKind.u8 (at_u8 (([] : (List Int)) ++ r2 : (List Int)) (Int.toNat (Int.tmod (IntKind.wrap IntKind.i64 ((IntKind.wrap IntKind.i64 ((((List.length m) : Nat) : Int) * (37 : Int))) + (((List.length l) : Nat) : Int))) (((List.length r2) : Nat) : Int)))) (IntKind.wrap IntKind.u8 (IntKind.wrap IntKind.i64 ((1 : Int) + (Int.tmod (((List.length m) : Nat) : Int) (255 : Int)))))))) ≤ (1000000000 : Nat))) ∧
 (∀ r12 : CutR,
 (r12 = (crcCut2 (List.set (([] : (List Int)) ++ r2 : (List Int)) (Int.toNat (Int.tmod (IntKind.wrap IntKind.i64 ((IntKind.wrap IntKind.i64 ((((List.length m) : Nat) : Int) * (37 : Int))) + (((List.length l) : Nat) : Int))) (((List.length r2) : Nat) : Int))) (bits BinOp.xor IntKind.u8 (at_u8 (([] : (List Int)) ++ r2 : (List Int)) (Int.toNat (Int.tmod (IntKind.wrap IntKind.i64 ((IntKind.wrap IntKind.i64 ((((List.length m) : Nat) : Int) * (37 : Int))) + (((List.length l) : Nat) : Int))) (((List.length r2) : Nat) : Int)))) (IntKind.wrap IntKind.u8 (IntKind.wrap IntKind.i64 ((1 : Int) + (Int.tmod (((List.length m) : Nat) : Int) (255 : Int))))))))) →
 (true = true) ∧
 ((true = true) ∧
 (K [(aB (!r12.ok))] []))))))))))))))))))))
 ((true = true) ∧
 (((Bytes r2) ∧
 ((List.length r2) ≤ (1000000000 : Nat))) ∧
 (∀ r10 : CutR,
 (r10 = (crcCut2 r2)) →
 (true = true) ∧
 (IfP (!r10.ok)
 (IfP true
 ((true = true) ∧
 (K [(aB false)] []))
 (if (((((List.length r2) : Nat) : Int) != (IntKind.wrap IntKind.i64 ((((List.length r) : Nat) : Int) + (2 : Int)))) = true) then
 ((true = true) ∧
 (K [(aB false)] []))
 else
 (((((List.length r2) : Nat) : Int) ≠ (0 : Int)) ∧
 ((((0 : Nat) + (List.length r2)) ≤ (137438953472 : Nat)) ∧
 ((((0 : Int) ≤ (Int.tmod (IntKind.wrap IntKind.i64 ((IntKind.wrap IntKind.i64 ((((List.length m) : Nat) : Int) * (37 : Int))) + (((List.length l) : Nat) : Int))) (((List.length r2) : Nat) : Int))) ∧
 ((Int.tmod (IntKind.wrap IntKind.i64 ((IntKind.wrap IntKind.i64 ((((List.length m) : Nat) : Int) * (37 : Int))) + (((List.length l) : Nat) : Int))) (((List.length r2) : Nat) : Int)) < (((List.length (([] : (List Int)) ++ r2 : (List Int))) : Nat) : Int))) ∧
 (((255 : Int) ≠ (0 : Int)) ∧
 ((((0 : Int) ≤ (Int.tmod (IntKind.wrap IntKind.i64 ((IntKind.wrap IntKind.i64 ((((List.length m) : Nat) : Int) * (37 : Int))) + (((List.length l) : Nat) : Int))) (((List.length r2) : Nat) : Int))) ∧
 ((Int.tmod (IntKind.wrap IntKind.i64 ((IntKind.wrap IntKind.i64 ((((List.length m) : Nat) : Int) * (37 : Int))) + (((List.length l) : Nat) : Int))) (((List.length r2) : Nat) : Int)) < (((List.length (([] : (List Int)) ++ r2 : (List Int))) : Nat) : Int))) ∧
 ((true = true) ∧
 (((Bytes (List.set (([] : (List Int)) ++ r2 : (List Int)) (Int.toNat (Int.tmod (IntKind.wrap IntKind.i64 ((IntKind.wrap IntKind.i64 ((((List.length m) : Nat) : Int) * (37 : Int))) + (((List.length l) : Nat) : Int))) (((List.length r2) : Nat) : Int))) (bits BinOp.xor IntKind.u8 (at_u8 (([] : (List Int)) ++ r2 : (List Int)) (Int.toNat (Int.tmod (IntKind.wrap IntKind.i64 ((IntKind.wrap IntKind.i64 ((((List.length m) : Nat) : Int) * (37 : Int))) + (((List.length l) : Nat) : Int))) (((List.length r2) : Nat) : Int)))) (IntKind.wrap IntKind.u8 (IntKind.wrap IntKind.i64 ((1 : Int) + (Int.tmod (((List.length m) : Nat) : Int) (255 : Int)))))))) ∧
 ((List.length (List.set (([] : (List Int)) ++ r2 : (List Int)) (Int.toNat (Int.tmod (IntKind.wrap IntKind.i64 ((IntKind.wrap IntKind.i64 ((((List.length m) : Nat) : Int) * (37 : Int))) + (((List.length l) : Nat) : Int))) (((List.length r2) : Nat) : Int))) (bits BinOp.xor IntKind.u8 (at_u8 (([] : (List Int)) ++ r2 : (List Int)) (Int.toNat (Int.tmod (IntKind.wrap IntKind.i64 ((IntKind.wrap IntKind.i64 ((((List.length m) : Nat) : Int) * (37 : Int))) + (((List.length l) : Nat) : Int))) (((List.length r2) : Nat) : Int)))) (IntKind.wrap IntKind.u8 (IntKind.wrap IntKind.i64 ((1 : Int) + (Int.tmod (((List.length m) : Nat) : Int) (255 : Int)))))))) ≤ (1000000000 : Nat))) ∧
 (∀ r11 : CutR,
 (r11 = (crcCut2 (List.set (([] : (List Int)) ++ r2 : (List Int)) (Int.toNat (Int.tmod (IntKind.wrap IntKind.i64 ((IntKind.wrap IntKind.i64 ((((List.length m) : Nat) : Int) * (37 : Int))) + (((List.length l) : Nat) : Int))) (((List.length r2) : Nat) : Int))) (bits BinOp.xor IntKind.u8 (at_u8 (([] : (List Int)) ++ r2 : (List Int)) (Int.toNat (Int.tmod (IntKind.wrap IntKind.i64 ((IntKind.wrap IntKind.i64 ((((List.length m) : Nat) : Int) * (37 : Int))) + (((List.length l) : Nat) : Int))) (((List.length r2) : Nat) : Int)))) (IntKind.wrap IntKind.u8 (IntKind.wrap IntKind.i64 ((1 : Int) + (Int.tmod (((List.length m) : Nat) : Int) (255 : Int))))))))) →
 (true = true) ∧
 ((true = true) ∧
 (K [(aB (!r11.ok))] []))))))))))))
 ((true = true) ∧
 ((((List.length r10.l) ≤ (137438953472 : Nat)) ∧
 True) ∧
 (∀ r11 : Bool,
 (r11 = (decide (r10.l = r))) →
 (true = true) ∧
 (IfP (!r11)
 ((true = true) ∧
 (K [(aB false)] []))
 (if (((((List.length r2) : Nat) : Int) != (IntKind.wrap IntKind.i64 ((((List.length r) : Nat) : Int) + (2 : Int)))) = true) then
 ((true = true) ∧
 (K [(aB false)] []))
 else
 (((((List.length r2) : Nat) : Int) ≠ (0 : Int)) ∧
 ((((0 : Nat) + (List.length r2)) ≤ (137438953472 : Nat)) ∧
 ((((0 : Int) ≤ (Int.tmod (IntKind.wrap IntKind.i64 ((IntKind.wrap IntKind.i64 ((((List.length m) : Nat) : Int) * (37 : Int))) + (((List.length l) : Nat) : Int))) (((List.length r2) : Nat) : Int))) ∧
 ((Int.tmod (IntKind.wrap IntKind.i64 ((IntKind.wrap IntKind.i64 ((((List.length m) : Nat) : Int) * (37 : Int))) + (((List.length l) : Nat) : Int))) (((List.length r2) : Nat) : Int)) < (((List.length (([] : (List Int)) ++ r2 : (List Int))) : Nat) : Int))) ∧
 (((255 : Int) ≠ (0 : Int)) ∧
 ((((0 : Int) ≤ (Int.tmod (IntKind.wrap IntKind.i64 ((IntKind.wrap IntKind.i64 ((((List.length m) : Nat) : Int) * (37 : Int))) + (((List.length l) : Nat) : Int))) (((List.length r2) : Nat) : Int))) ∧
 ((Int.tmod (IntKind.wrap IntKind.i64 ((IntKind.wrap IntKind.i64 ((((List.length m) : Nat) : Int) * (37 : Int))) + (((List.length l) : Nat) : Int))) (((List.length r2) : Nat) : Int)) < (((List.length (([] : (List Int)) ++ r2 : (List Int))) : Nat) : Int))) ∧
 ((true = true) ∧
 (((Bytes (List.set (([] : (List Int)) ++ r2 : (List Int)) (Int.toNat (Int.tmod (IntKind.wrap IntKind.i64 ((IntKind.wrap IntKind.i64 ((((List.length m) : Nat) : Int) * (37 : Int))) + (((List.length l) : Nat) : Int))) (((List.length r2) : Nat) : Int))) (bits BinOp.xor IntKind.u8 (at_u8 (([] : (List Int)) ++ r2 : (List Int)) (Int.toNat (Int.tmod (IntKind.wrap IntKind.i64 ((IntKind.wrap IntKind.i64 ((((List.length m) : Nat) : Int) * (37 : Int))) + (((List.length l) : Nat) : Int))) (((List.length r2) : Nat) : Int)))) (IntKind.wrap IntKind.u8 (IntKind.wrap IntKind.i64 ((1 : Int) + (Int.tmod (((List.length m) : Nat) : Int) (255 : Int)))))))) ∧
 ((List.length (List.set (([] : (List Int)) ++ r2 : (List Int)) (Int.toNat (Int.tmod (IntKind.wrap IntKind.i64 ((IntKind.wrap IntKind.i64 ((((List.length m) : Nat) : Int) * (37 : Int))) + (((List.length l) : Nat) : Int))) (((List.length r2) : Nat) : Int))) (bits BinOp.xor IntKind.u8 (at_u8 (([] : (List Int)) ++ r2 : (List Int)) (Int.toNat (Int.tmod (IntKind.wrap IntKind.i64 ((IntKind.wrap IntKind.i64 ((((List.length m) : Nat) : Int) * (37 : Int))) + (((List.length l) : Nat) : Int))) (((List.length r2) : Nat) : Int)))) (IntKind.wrap IntKind.u8 (IntKind.wrap IntKind.i64 ((1 : Int) + (Int.tmod (((List.length m) : Nat) : Int) (255 : Int)))))))) ≤ (1000000000 : Nat))) ∧
 (∀ r12 : CutR,
 (r12 = (crcCut2 (List.set (([] : (List Int)) ++ r2 : (List Int)) (Int.toNat (Int.tmod (IntKind.wrap IntKind.i64 ((IntKind.wrap IntKind.i64 ((((List.length m) : Nat) : Int) * (37 : Int))) + (((List.length l) : Nat) : Int))) (((List.length r2) : Nat) : Int))) (bits BinOp.xor IntKind.u8 (at_u8 (([] : (List Int)) ++ r2 : (List Int)) (Int.toNat (Int.tmod (IntKind.wrap IntKind.i64 ((IntKind.wrap IntKind.i64 ((((List.length m) : Nat) : Int) * (37 : Int))) + (((List.length l) : Nat) : Int))) (((List.length r2) : Nat) : Int)))) (IntKind.wrap IntKind.u8 (IntKind.wrap IntKind.i64 ((1 : Int) + (Int.tmod (((List.length m) : Nat) : Int) (255 : Int))))))))) →
 (true = true) ∧
 ((true = true) ∧
 (K [(aB (!r12.ok))] [])))))))))))))))))))))))))))
 (IfP false
 ((true = true) ∧
 (K [(aB false)] []))
 (IfP (!r3.ok)
 (if (((((List.length r3.l) : Nat) : Int) != (0 : Int)) = true) then
 ((true = true) ∧
 (K [(aB false)] []))
 else
 ((true = true) ∧
 (((Bytes r2) ∧
 ((List.length r2) ≤ (1000000000 : Nat))) ∧
 (∀ r8 : CutR,
 (r8 = (crcCut2 r2)) →
 (true = true) ∧
 (IfP (!r8.ok)
 (IfP true
 ((true = true) ∧
 (K [(aB false)] []))
 (if (((((List.length r2) : Nat) : Int) != (IntKind.wrap IntKind.i64 ((((List.length r) : Nat) : Int) + (2 : Int)))) = true) then
 ((true = true) ∧
 (K [(aB false)] []))
 else
 (((((List.length r2) : Nat) : Int) ≠ (0 : Int)) ∧
 ((((0 : Nat) + (List.length r2)) ≤ (137438953472 : Nat)) ∧
 ((((0 : Int) ≤ (Int.tmod (IntKind.wrap IntKind.i64 ((IntKind.wrap IntKind.i64 ((((List.length m) : Nat) : Int) * (37 : Int))) + (((List.length l) : Nat) : Int))) (((List.length r2) : Nat) : Int))) ∧
 ((Int.tmod (IntKind.wrap IntKind.i64 ((IntKind.wrap IntKind.i64 ((((List.length m) : Nat) : Int) * (37 : Int))) + (((List.length l) : Nat) : Int))) (((List.length r2) : Nat) : Int)) < (((List.length (([] : (List Int)) ++ r2 : (List Int))) : Nat) : Int))) ∧
 (((255 : Int) ≠ (0 : Int)) ∧
 ((((0 : Int) ≤ (Int.tmod (IntKind.wrap IntKind.i64 ((IntKind.wrap IntKind.i64 ((((List.length m) : Nat) : Int) * (37 : Int))) + (((List.length l) : Nat) : Int))) (((List.length r2) : Nat) : Int))) ∧
 ((Int.tmod (IntKind.wrap IntKind.i64 ((IntKind.wrap IntKind.i64 ((((List.length m) : Nat) : Int) * (37 : Int))) + (((List.length l) : Nat) : Int))) (((List.length r2) : Nat) : Int)) < (((List.length (([] : (List Int)) ++ r2 : (List Int))) : Nat) : Int))) ∧
 ((true = true) ∧
 (((Bytes (List.set (([] : (List Int)) ++ r2 : (List Int)) (Int.toNat (Int.tmod (IntKind.wrap IntKind.i64 ((IntKind.wrap IntKind.i64 ((((List.length m) : Nat) : Int) * (37 : Int))) + (((List.length l) : Nat) : Int))) (((List.length r2) : Nat) : Int))) (bits BinOp.xor IntKind.u8 (at_u8 (([] : (List Int)) ++ r2 : (List Int)) (Int.toNat (Int.tmod (IntKind.wrap IntKind.i64 ((IntKind.wrap IntKind.i64 ((((List.length m) : Nat) : Int) * (37 : Int))) + (((List.length l) : Nat) : Int))) (((List.length r2) : Nat) : Int)))) (IntKind.wrap IntKind.u8 (IntKind.wrap IntKind.i64 ((1 : Int) + (Int.tmod (((List.length m) : Nat) : Int) (255 : Int)))))))) ∧
 ((List.length (List.set (([] : (List Int)) ++ r2 : (List Int)) (Int.toNat (Int.tmod (IntKind.wrap IntKind.i64 ((IntKind.wrap IntKind.i64 ((((List.length m) : Nat) : Int) * (37 : Int))) + (((List.length l) : Nat) : Int))) (((List.length r2) : Nat) : Int))) (bits BinOp.xor IntKind.u8 (at_u8 (([] : (List Int)) ++ r2 : (List Int)) (Int.toNat (Int.tmod (IntKind.wrap IntKind.i64 ((IntKind.wrap IntKind.i64 ((((List.length m) : Nat) : Int) * (37 : Int))) + (((List.length l) : Nat) : Int))) (((List.length r2) : Nat) : Int)))) (IntKind.wrap IntKind.u8 (IntKind.wrap IntKind.i64 ((1 : Int) + (Int.tmod (((List.length m) : Nat) : Int) (255 : Int)))))))) ≤ (1000000000 : Nat))) ∧
 (∀ r9 : CutR,
 (r9 = (crcCut2 (List.set (([] : (List Int)) ++ r2 : (List Int)) (Int.toNat (Int.tmod (IntKind.wrap IntKind.i64 ((IntKind.wrap IntKind.i64 ((((List.length m) : Nat) : Int) * (37 : Int))) + (((List.length l) : Nat) : Int))) (((List.length r2) : Nat) : Int))) (bits BinOp.xor IntKind.u8 (at_u8 (([] : (List Int)) ++ r2 : (List Int)) (Int.toNat (Int.tmod (IntKind.wrap IntKind.i64 ((IntKind.wrap IntKind.i64 ((((List.length m) : Nat) : Int) * (37 : Int))) + (((List.length l) : Nat) : Int))) (((List.length r2) : Nat) : Int)))) (IntKind.wrap IntKind.u8 (IntKind.wrap IntKind.i64 ((1 : Int) + (Int.tmod (((List.length m) : Nat) : Int) (255 : Int))))))))) →
 (true = true) ∧
 ((true = true) ∧
 (K [(aB (!r9.ok))] []))))))))))))
 ((true = true) ∧
 ((((List.length r8.l) ≤ (137438953472 : Nat)) ∧
 True) ∧
 (∀ r9 : Bool,
 (r9 = (decide (r8.l = r))) →
 (true = true) ∧
 (IfP (!r9)
 ((true = true) ∧
 (K [(aB false)] []))
 (if (((((List.length r2) : Nat) : Int) != (IntKind.wrap IntKind.i64 ((((List.length r) : Nat) : Int) + (2 : Int)))) = true) then
 ((true = true) ∧
 (K [(aB false)] []))
 else
 (((((List.length r2) : Nat) : Int) ≠ (0 : Int)) ∧
 ((((0 : Nat) + (List.length r2)) ≤ (137438953472 : Nat)) ∧
 ((((0 : Int) ≤ (Int.tmod (IntKind.wrap IntKind.i64 ((IntKind.wrap IntKind.i64 ((((List.length m) : Nat) : Int) * (37 : Int))) + (((List.length l) : Nat) : Int))) (((List.length r2) : Nat) : Int))) ∧
 ((Int.tmod (IntKind.wrap IntKind.i64 ((IntKind.wrap IntKind.i64 ((((List.length m) : Nat) : Int) * (37 : Int))) + (((List.length l) : Nat) : Int))) (((List.length r2) : Nat) : Int)) < (((List.length (([] : (List Int)) ++ r2 : (List Int))) : Nat) : Int))) ∧
 (((255 : Int) ≠ (0 : Int)) ∧
 ((((0 : Int) ≤ (Int.tmod (IntKind.wrap IntKind.i64 ((IntKind.wrap IntKind.i64 ((((List.length m) : Nat) : Int) * (37 : Int))) + (((List.length l) : Nat) : Int))) (((List.length r2) : Nat) : Int))) ∧
 ((Int.tmod (IntKind.wrap IntKind.i64 ((IntKind.wrap IntKind.i64 ((((List.length m) : Nat) : Int) * (37 : Int))) + (((List.length l) : Nat) : Int))) (((List.length r2) : Nat) : Int)) < (((List.length (([] : (List Int)) ++ r2 : (List Int))) : Nat) : Int))) ∧
 ((true = true) ∧
 (((Bytes (List.set (([] : (List Int)) ++ r2 : (List Int)) (Int.toNat (Int.tmod (IntKind.wrap IntKind.i64 ((IntKind.wrap IntKind.i64 ((((List.length m) : Nat) : Int) * (37 : Int))) + (((List.length l) : Nat) : Int))) (((List.length r2) : Nat) : Int))) (bits BinOp.xor IntKind.u8 (at_u8 (([] : (List Int)) ++ r2 : (List Int)) (Int.toNat (Int.tmod (IntKind.wrap IntKind.i64 ((IntKind.wrap IntKind.i64 ((((List.length m) : Nat) : Int) * (37 : Int))) + (((List.length l) : Nat) : Int))) (((List.length r2) : Nat) : Int)))) (IntKind.wrap IntKind.u8 (IntKind.wrap IntKind.i64 ((1 : Int) + (Int.tmod (((List.length m) : Nat) : Int) (255 : Int)))))))) ∧
 ((List.length (List.set (([] : (List Int)) ++ r2 : (List Int)) (Int.toNat (Int.tmod (IntKind.wrap IntKind.i64 ((IntKind.wrap IntKind.i64 ((((List.length m) : Nat) : Int) * (37 : Int))) + (((List.length l) : Nat) : Int))) (((List.length r2) : Nat) : Int))) (bits BinOp.xor IntKind.u8 (at_u8 (([] : (List Int)) ++ r2 : (List Int)) (Int.toNat (Int.tmod (IntKind.wrap IntKind.i64 ((IntKind.wrap IntKind.i64 ((((List.length m) : Nat) : Int) * (37 : Int))) + (((List.length l) : Nat) : Int))) (((List.length r2) : Nat) : Int)))) (IntKind.wrap IntKind.u8 (IntKind.wrap IntKind.i64 ((1 : Int) + (Int.tmod (((List.length m) : Nat) : Int) (255 : Int)))))))) ≤ (1000000000 : Nat))) ∧
 (∀ r10 : CutR,
 (r10 = (crcCut2 (List.set (([] : (List Int)) ++ r2 : (List Int)) (Int.toNat (Int.tmod (IntKind.wrap IntKind.i64 ((IntKind.wrap IntKind.i64 ((((List.length m) : Nat) : Int) * (37 : Int))) + (((List.length l) : Nat) : Int))) (((List.length r2) : Nat) : Int))) (bits BinOp.xor IntKind.u8 (at_u8 (([] : (List Int)) ++ r2 : (List Int)) (Int.toNat (Int.tmod (IntKind.wrap IntKind.i64 ((IntKind.wrap IntKind.i64 ((((List.length m) : Nat) : Int) * (37 : Int))) + (((List.length l) : Nat) : Int))) (((List.length r2) : Nat) : Int)))) (IntKind.wrap IntKind.u8 (IntKind.wrap IntKind.i64 ((1 : Int) + (Int.tmod (((List.length m) : Nat) : Int) (255 : Int))))))))) →
 (true = true) ∧
 ((true = true) ∧
 (K [(aB (!r10.ok))] []))))))))))))))))))))
 ((true = true) ∧
 (((Bytes r2) ∧
 ((List.length r2) ≤ (1000000000 : Nat))) ∧
 (∀ r8 : CutR,
 (r8 = (crcCut2 r2)) →
 (true = true) ∧
 (IfP (!r8.ok)
 (IfP true
 ((true = true) ∧
 (K [(aB false)] []))
 (if (((((List.length r2) : Nat) : Int) != (IntKind.wrap IntKind.i64 ((((List.length r) : Nat) : Int) + (2 : Int)))) = true) then
 ((true = true) ∧
 (K [(aB false)] []))
 else
 (((((List.length r2) : Nat) : Int) ≠ (0 : Int)) ∧
 ((((0 : Nat) + (List.length r2)) ≤ (137438953472 : Nat)) ∧
 ((((0 : Int) ≤ (Int.tmod (IntKind.wrap IntKind.i64 ((IntKind.wrap IntKind.i64 ((((List.length m) : Nat) : Int) * (37 : Int))) + (((List.length l) : Nat) : Int))) (((List.length r2) : Nat) : Int))) ∧
 ((Int.tmod (IntKind.wrap IntKind.i64 ((IntKind.wrap IntKind.i64 ((((List.length m) : Nat) : Int) * (37 : Int))) + (((List.length l) : Nat) : Int))) (((List.length r2) : Nat) : Int)) < (((List.length (([] : (List Int)) ++ r2 : (List Int))) : Nat) : Int))) ∧
 (((255 : Int) ≠ (0 : Int)) ∧
 ((((0 : Int) ≤ (Int.tmod (IntKind.wrap IntKind.i64 ((IntKind.wrap IntKind.i64 ((((List.length m) : Nat) : Int) * (37 : Int))) + (((List.length l) : Nat) : Int))) (((List.length r2) : Nat) : Int))) ∧
 ((Int.tmod (IntKind.wrap IntKind.i64 ((IntKind.wrap IntKind.i64 ((((List.length m) : Nat) : Int) * (37 : Int))) + (((List.length l) : Nat) : Int))) (((List.length r2) : Nat) : Int)) < (((List.length (([] : (List Int)) ++ r2 : (List Int))) : Nat) : Int))) ∧
 ((true = true) ∧
 (((Bytes (List.set (([] : (List Int)) ++ r2 : (List Int)) (Int.toNat (Int.tmod (IntKind.wrap IntKind.i64 ((IntKind.wrap IntKind.i64 ((((List.length m) : Nat) : Int) * (37 : Int))) + (((List.length l) : Nat) : Int))) (((List.length r2) : Nat) : Int))) (bits BinOp.xor IntKind.u8 (at_u8 (([] : (List Int)) ++ r2 : (List Int)) (Int.toNat (Int.tmod (IntKind.wrap IntKind.i64 ((IntKind.wrap IntKind.i64 ((((List.length m) : Nat) : Int) * (37 : Int))) + (((List.length l) : Nat) : Int))) (((List.length r2) : Nat) : Int)))) (IntKind.wrap IntKind.u8 (IntKind.wrap IntKind.i64 ((1 : Int) + (Int.tmod (((List.length m) : Nat) : Int) (255 : Int)))))))) ∧
 ((List.length (List.set (([] : (List Int)) ++ r2 : (List Int)) (Int.toNat (Int.tmod (IntKind.wrap IntKind.i64 ((IntKind.wrap IntKind.i64 ((((List.length m) : Nat) : Int) * (37 : Int))) + (((List.length l) : Nat) : Int))) (((List.length r2) : Nat) : Int))) (bits BinOp.xor IntKind.u8 (at_u8 (([] : (List Int)) ++ r2 : (List Int)) (Int.toNat (Int.tmod (IntKind.wrap IntKind.i64 ((IntKind.wrap IntKind.i64 ((((List.length m) : Nat) : Int) * (37 : Int))) + (((List.length l) : Nat) : Int))) (((List.length r2) : Nat) : Int)))) (IntKind.wrap IntKind.u8 (IntKind.wrap IntKind.i64 ((1 : Int) + (Int.tmod (((List.length m) : Nat) : Int) (255 : Int)))))))) ≤ (1000000000 : Nat))) ∧
 (∀ r9 : CutR,
 (r9 = (crcCut2 (List.set (([] : (List Int)) ++ r2 : (List Int)) (Int.toNat (Int.tmod (IntKind.wrap IntKind.i64 ((IntKind.wrap IntKind.i64 ((((List.length m) : Nat) : Int) * (37 : Int))) + (((List.length l) : Nat) : Int))) (((List.length r2) : Nat) : Int))) (bits BinOp.xor IntKind.u8 (at_u8 (([] : (List Int)) ++ r2 : (List Int)) (Int.toNat (Int.tmod (IntKind.wrap IntKind.i64 ((IntKind.wrap IntKind.i64 ((((List.length m) : Nat) : Int) * (37 : Int))) + (((List.length l) : Nat) : Int))) (((List.length r2) : Nat) : Int)))) (IntKind.wrap IntKind.u8 (IntKind.wrap IntKind.i64 ((1 : Int) + (Int.tmod (((List.length m) : Nat) : Int) (255 : Int))))))))) →
 (true = true) ∧
 ((true = true) ∧
 (K [(aB (!r9.ok))] []))))))))))))
 ((true = true) ∧
 ((((List.length r8.l) ≤ (137438953472 : Nat)) ∧
 True) ∧
 (∀ r9 : Bool,
 (r9 = (decide (r8.l = r))) →
 (true = true) ∧
 (IfP (!r9)
 ((true = true) ∧
 (K [(aB false)] []))
 (if (((((List.length r2) : Nat) : Int) != (IntKind.wrap IntKind.i64 ((((List.length r) : Nat) : Int) + (2 : Int)))) = true) then
 ((true = true) ∧
 (K [(aB false)] []))
 else
 (((((List.length r2) : Nat) : Int) ≠ (0 : Int)) ∧
 ((((0 : Nat) + (List.length r2)) ≤ (137438953472 : Nat)) ∧
 ((((0 : Int) ≤ (Int.tmod (IntKind.wrap IntKind.i64 ((IntKind.wrap IntKind.i64 ((((List.length m) : Nat) : Int) * (37 : Int))) + (((List.length l) : Nat) : Int))) (((List.length r2) : Nat) : Int))) ∧
 ((Int.tmod (IntKind.wrap IntKind.i64 ((IntKind.wrap IntKind.i64 ((((List.length m) : Nat) : Int) * (37 : Int))) + (((List.length l) : Nat) : Int))) (((List.length r2) : Nat) : Int)) < (((List.length (([] : (List Int)) ++ r2 : (List Int))) : Nat) : Int))) ∧
 (((255 : Int) ≠ (0 : Int)) ∧
 ((((0 : Int) ≤ (Int.tmod (IntKind.wrap IntKind.i64 ((IntKind.wrap IntKind.i64 ((((List.length m) : Nat) : Int) * (37 : Int))) + (((List.length l) : Nat) : Int))) (((List.length r2) : Nat) : Int))) ∧
 ((Int.tmod (IntKind.wrap IntKind.i64 ((IntKind.wrap IntKind.i64 ((((List.length m) : Nat) : Int) * (37 : Int))) + (((List.length l) : Nat) : Int))) (((List.length r2) : Nat) : Int)) < (((List.length (([] : (List Int)) ++ r2 : (List Int))) : Nat) : Int))) ∧
 ((true = true) ∧
 (((Bytes (List.set (([] : (List Int)) ++ r2 : (List Int)) (Int.toNat (Int.tmod (IntKind.wrap IntKind.i64 ((IntKind.wrap IntKind.i64 ((((List.length m) : Nat) : Int) * (37 : Int))) + (((List.length l) : Nat) : Int))) (((List.length r2) : Nat) : Int))) (bits BinOp.xor IntKind.u8 (at_u8 (([] : (List Int)) ++ r2 : (List Int)) (Int.toNat (Int.tmod (IntKind.wrap IntKind.i64 ((IntKind.wrap IntKind.i64 ((((List.length m) : Nat) : Int) * (37 : Int))) + (((List.length l) : Nat) : Int))) (((List.length r2) : Nat) : Int)))) (IntKind.wrap IntKind.u8 (IntKind.wrap IntKind.i64 ((1 : Int) + (Int.tmod (((List.length m) : Nat) : Int) (255 : Int)))))))) ∧
 ((List.length (List.set (([] : (List Int)) ++ r2 : (List Int)) (Int.toNat (Int.tmod (IntKind.wrap IntKind.i64 ((IntKind.wrap IntKind.i64 ((((List.length m) : Nat) : Int) * (37 : Int))) + (((List.length l) : Nat) : Int))) (((List.length r2) : Nat) : Int))) (bits BinOp.xor IntKind.u8 (at_u8 (([] : (List Int)) ++ r2 : (List Int)) (Int.toNat (Int.tmod (IntKind.wrap IntKind.i64 ((IntKind.wrap IntKind.i64 ((((List.length m) : Nat) : Int) * (37 : Int))) + (((List.length l) : Nat) : Int))) (((List.length r2) : Nat) : Int)))) (IntKind.wrap IntKind.u8 (IntKind.wrap IntKind.i64 ((1 : Int) + (Int.tmod (((List.length m) : Nat) : Int) (255 : Int)))))))) ≤ (1000000000 : Nat))) ∧
 (∀ r10 : CutR,
 (r10 = (crcCut2 (List.set (([] : (List Int)) ++ r2 : (List Int)) (Int.toNat (Int.tmod (IntKind.wrap IntKind.i64 ((IntKind.wrap IntKind.i64 ((((List.length m) : Nat) : Int) * (37 : Int))) + (((List.length l) : Nat) : Int))) (((List.length r2) : Nat) : Int))) (bits BinOp.xor IntKind.u8 (at_u8 (([] : (List Int)) ++ r2 : (List Int)) (Int.toNat (Int.tmod (IntKind.wrap IntKind.i64 ((IntKind.wrap IntKind.i64 ((((List.length m) : Nat) : Int) * (37 : Int))) + (((List.length l) : Nat) : Int))) (((List.length r2) : Nat) : Int)))) (IntKind.wrap IntKind.u8 (IntKind.wrap IntKind.i64 ((1 : Int) + (Int.tmod (((List.length m) : Nat) : Int) (255 : Int))))))))) →
 (true = true) ∧
 ((true = true) ∧
 (K [(aB (!r10.ok))] [])))))))))))))))))))))))))))))))))))))))))))))))))) := by
  repeat' first
    | exact rfl
    | exact True.intro
    | with_reducible apply And.intro
    | (with_reducible intro y_ hy_; subst hy_)
    | with_reducible intro y_
    | (refine iteI (fun h => ?_) (fun h => ?_))
    | (refine ifpI (fun h => ?_) (fun h => ?_))
  all_goals try simp only [Bool.not_eq_true', decide_eq_false_iff_not, decide_eq_true_eq, Bool.not_eq_true, bne_iff_ne, beq_iff_eq, ne_eq, Decidable.not_not, Bool.not_eq_false, gt_iff_lt, ge_iff_le, Int.not_le, Int.not_lt, beq_eq_false_iff_ne, bne_eq_false_iff_eq, Bool.and_eq_true, Bool.or_eq_true, Bool.true_eq_false, Bool.false_eq_true] at *
  all_goals try simp (disch := first | omega | grind [crcPut_len, crcCut_len, crcPut_bytes, crcCut_bytes, put_cutP, put_cut, cut_put2, cut_nil, crcCut2]) only [wr] at *
  all_goals first
    | assumption
    | omega
    | exact Int.tmod_lt_of_pos _ (by rw [crcPut_len]; omega)
    | exact Bytes.setx (l := crcPut _) (crcPut_bytes (And.left (by assumption))) _ _
    | (refine hk _ ?_; rw [Bool.not_eq_true']; exact bent_put (And.left (by assumption)) _ _)
    | exact hk _ (by grind [crcPut_len, crcCut_len, crcPut_bytes, crcCut_bytes, put_cutP, put_cut, cut_put2, cut_nil, crcCut2])
    | (simp only [LIM] at *; omega)
    | grind [crcPut_len, crcCut_len, crcPut_bytes, crcCut_bytes, put_cutP, put_cut, cut_put2, cut_nil, crcCut2, LIM]
theorem w_laws_FnCrcCut : Valid Try.prog 3 c_laws_FnCrcCut :=
  valid_ctr2 (V := V_laws_FnCrcCut) (tysB_ok tys_ok) (CallsL.cons w_spec_DrawCrcPut (CallsL.cons w_spec_DrawCrcCut (CallsL.cons w_impl_CrcPut (CallsL.cons w_impl_CrcCut (CallsL.cons w_spec_CrcCut (CallsL.cons w_laws_liBytes (CallsL.cons w_spec_CrcPut (CallsL.nil _)))))))) mixed 1 0 Try.func3 rfl (by kernel_rfl)
    (fun c hc => by
      obtain rfl := Option.some.inj hc
      exact ⟨trivial, ⟨⟨trivial, ⟨⟨trivial, trivial⟩, trivial⟩⟩, ⟨trivial, ⟨trivial, ⟨trivial, ⟨trivial, ⟨trivial, ⟨⟨trivial, ⟨⟨trivial, trivial⟩, trivial⟩⟩, ⟨⟨trivial, ⟨⟨trivial, trivial⟩, trivial⟩⟩, ⟨trivial, ⟨⟨trivial, ⟨⟨trivial, trivial⟩, trivial⟩⟩, ⟨trivial, ⟨trivial, ⟨trivial, ⟨trivial, ⟨trivial, trivial⟩⟩⟩⟩⟩⟩⟩⟩⟩⟩⟩⟩⟩⟩⟩⟩)
    (fun x K hp hk => ⟨_, by kernel_rfl, vF_laws_FnCrcCut x.1 x.2 K hp (fun r h => hk r h)⟩)
end Go.Proofs.YtkkokenpehoffaaE
