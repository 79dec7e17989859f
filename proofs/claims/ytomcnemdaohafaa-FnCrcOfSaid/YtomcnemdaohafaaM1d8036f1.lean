/- A part of the proof of laws of the program: what calls of the program answer. Conditions: none. -/
import Derived.Test.YtomcnemdaohafaaMa5a6f870
set_option linter.unusedVariables false
set_option linter.unusedSimpArgs false
set_option linter.unusedSectionVars false
/- Contracts: B. Conditions: none. -/
set_option linter.unusedVariables false
set_option maxHeartbeats 1600000
namespace Go.Proofs.YtomcnemdaohafaaE
open Go
/-! impl.CrcOf -/
def c_impl_CrcOf : Ent := ctr (α := (List Int)) (ρ := (Int)) [] [] (rs1 rBytes) (fun x_ => (fun (l : List Int) => (Bytes l ∧ l.length ≤ LIM)) x_) (fun x_ r_ => (fun x_ => (fun (l : List Int) => ((fun r_ => (fun (r : Int) => (r = ((crc 0 l : Nat) : Int))) r_))) x_) x_ r_) (fun r_ => (fun (r : Int) => ([rInt.to r])) r_) (fun r_ => (fun (r : Int) => ([])) r_)
def l_impl_CrcOf_0 : LoopD ((List Int) × (Int) × (Int) × (Int)) ((Int)) ((Empty)) where
  n := 17
  head := ⟨[3, 6, 7, 8], [], []⟩
  st := fun x_ => (fun (l : List Int) (m : Int) (s : Int) (i : Int) => (⟨true, [(3, num .i64 s), (6, .v false [.d (.r .u8 l)]), (7, num .i64 m), (8, num .i64 i)], [], []⟩)) x_.1 x_.2.1 x_.2.2.1 x_.2.2.2
  pre := fun x_ => (fun (l : List Int) (m : Int) (s : Int) (i : Int) => (Bytes l ∧ l.length ≤ LIM ∧ m = l.length ∧ s = 0 ∧ i = 0)) x_.1 x_.2.1 x_.2.2.1 x_.2.2.2
  nk := ⟨[3], [], []⟩
  nst := fun r_ => (fun (r : Int) => (⟨true, [(3, num .i64 r)], [], []⟩)) r_
  npost := fun x_ r_ => (fun x_ => (fun (l0 : List Int) (m0 : Int) (s0 : Int) (i0 : Int) => ((fun r_ => (fun (r : Int) => (r = ((crc 0 l0 : Nat) : Int))) r_))) x_.1 x_.2.1 x_.2.2.1 x_.2.2.2) x_ r_
  rk := ⟨[], [], []⟩
  rst := fun _ => ⟨true, [], [], []⟩
  rpost := fun _ _ => False
def i_impl_CrcOf_0 (x : (List Int) × (Int) × (Int) × (Int)) (n : Nat) (s : (List Int) × (Int) × (Int) × (Int)) : Prop := (fun x_ => (fun (l0 : List Int) (m0 : Int) (s0 : Int) (i0 : Int) => ((fun s_ => (fun (l : List Int) (m : Int) (s : Int) (i : Int) => (l = l0 ∧ m = l.length ∧ Bytes l ∧ l.length ≤ LIM ∧ 0 ≤ s ∧ s ≤ 65535 ∧ 0 ≤ i ∧ i + n = l.length ∧ crc s.toNat (l.drop i.toNat) = crc 0 l0)) s_.1 s_.2.1 s_.2.2.1 s_.2.2.2))) x_.1 x_.2.1 x_.2.2.1 x_.2.2.2) x s
def V_impl_CrcOf : Env := ⟨tys, [(19, c_impl_step)], [], [], [], [(0, l_impl_CrcOf_0.L)], [], [], []⟩
/-! spec.CrcOf -/
def c_spec_CrcOf : Ent := ctr (α := (List Int)) (ρ := (Int)) [] [] (rs1 rBytes) (fun x_ => (fun (l : List Int) => (Bytes l ∧ l.length ≤ LIM)) x_) (fun x_ r_ => (fun x_ => (fun (l : List Int) => ((fun r_ => (fun (r : Int) => (r = ((crc 0 l : Nat) : Int))) r_))) x_) x_ r_) (fun r_ => (fun (r : Int) => ([rInt.to r])) r_) (fun r_ => (fun (r : Int) => ([])) r_)
def l_spec_CrcOf_0 : LoopD ((List Int) × (Int) × (Int)) ((Int)) ((Empty)) where
  n := 18
  head := ⟨[0, 3, 4], [], []⟩
  st := fun x_ => (fun (l : List Int) (s : Int) (i : Int) => (⟨true, [(0, .v false [.d (.r .u8 l)]), (3, num .i64 s), (4, num .i64 i)], [], []⟩)) x_.1 x_.2.1 x_.2.2
  pre := fun x_ => (fun (l : List Int) (s : Int) (i : Int) => (Bytes l ∧ l.length ≤ LIM ∧ s = 0 ∧ i = 0)) x_.1 x_.2.1 x_.2.2
  nk := ⟨[3], [], []⟩
  nst := fun r_ => (fun (r : Int) => (⟨true, [(3, num .i64 r)], [], []⟩)) r_
  npost := fun x_ r_ => (fun x_ => (fun (l0 : List Int) (s0 : Int) (i0 : Int) => ((fun r_ => (fun (r : Int) => (r = ((crc 0 l0 : Nat) : Int))) r_))) x_.1 x_.2.1 x_.2.2) x_ r_
  rk := ⟨[], [], []⟩
  rst := fun _ => ⟨true, [], [], []⟩
  rpost := fun _ _ => False
def i_spec_CrcOf_0 (x : (List Int) × (Int) × (Int)) (n : Nat) (s : (List Int) × (Int) × (Int)) : Prop := (fun x_ => (fun (l0 : List Int) (s0 : Int) (i0 : Int) => ((fun s_ => (fun (l : List Int) (s : Int) (i : Int) => (l = l0 ∧ Bytes l ∧ l.length ≤ LIM ∧ 0 ≤ s ∧ s ≤ 65535 ∧ 0 ≤ i ∧ i + n = l.length ∧ crc s.toNat (l.drop i.toNat) = crc 0 l0)) s_.1 s_.2.1 s_.2.2))) x_.1 x_.2.1 x_.2.2) x s
def V_spec_CrcOf : Env := ⟨tys, [(20, c_spec_CrcStep)], [], [], [], [(0, l_spec_CrcOf_0.L)], [], [], []⟩
/-! slices.Clone[[]byte,byte] -/
def c_slices_Clone_byte_byte : Ent := ctr (α := (List Int)) (ρ := (List Int)) [] [(0, 0)] (rs1 rBytes) (fun x_ => (fun (l : List Int) => (l.length ≤ LIM)) x_) (fun x_ r_ => (fun x_ => (fun (l : List Int) => ((fun r_ => (fun (r : List Int) => (r = l)) r_))) x_) x_ r_) (fun r_ => (fun (r : List Int) => ([(rO 5 .u8).to r])) r_) (fun r_ => (fun (r : List Int) => ([])) r_)
def V_slices_Clone_byte_byte : Env := ⟨tys, [], [(2, [0]), (5, [1])], [], [], [], [], [], []⟩
/-! slices.Clip[[]byte,byte] -/
def c_slices_Clip_byte_byte : Ent := ctr (α := (List Int)) (ρ := (List Int)) [(0, 0)] [(0, 0)] (rs1 (rO 5 .u8)) (fun x_ => (fun (l : List Int) => (True)) x_) (fun x_ r_ => (fun x_ => (fun (l : List Int) => ((fun r_ => (fun (r : List Int) => (r = l)) r_))) x_) x_ r_) (fun r_ => (fun (r : List Int) => ([(rO 5 .u8).to r])) r_) (fun r_ => (fun (r : List Int) => ([])) r_)
def V_slices_Clip_byte_byte : Env := ⟨tys, [], [], [], [], [], [], [], []⟩
/-! impl.clone[byte] -/
def c_impl_clone_byte : Ent := ctr (α := (List Int)) (ρ := (List Int)) [] [(0, 0)] (rs1 rBytes) (fun x_ => (fun (l : List Int) => (l.length ≤ LIM)) x_) (fun x_ r_ => (fun x_ => (fun (l : List Int) => ((fun r_ => (fun (r : List Int) => (r = l)) r_))) x_) x_ r_) (fun r_ => (fun (r : List Int) => ([(rO 5 .u8).to r])) r_) (fun r_ => (fun (r : List Int) => ([])) r_)
def V_impl_clone_byte : Env := ⟨tys, [(27, c_slices_Clip_byte_byte), (28, c_slices_Clone_byte_byte)], [(4, [0]), (5, [1])], [], [], [], [], [], []⟩
end Go.Proofs.YtomcnemdaohafaaE

/- Calls answer what is promised: B. Conditions: none. -/
set_option linter.unusedVariables false
set_option maxHeartbeats 1600000
namespace Go.Proofs.YtomcnemdaohafaaE
open Go
theorem vF_impl_CrcOf (l:List Int) (K:List Arg→List (List AC)→Prop) (hp:Bytes l∧l.length≤LIM) (hk:∀ (r:Int),(r=((crc 0 l:Nat):Int))→K ([rInt.to r]) ([])):∃ s:(Prod (List Int) (Prod Int (Prod Int Int))),((KS.mk true [(Prod.mk (3:Nat) (num IntKind.i64 (0:Int))),(Prod.mk (6:Nat) (T.v false [(Cm.d (D.r RK.u8 l))])),(Prod.mk (7:Nat) (num IntKind.i64 (((List.length l):Nat):Int))),(Prod.mk (8:Nat) (num IntKind.i64 (0:Int)))] [] [])=(KS.mk true [(Prod.mk (3:Nat) (num IntKind.i64 s.snd.snd.fst)),(Prod.mk (6:Nat) (T.v false [(Cm.d (D.r RK.u8 s.fst))])),(Prod.mk (7:Nat) (num IntKind.i64 s.snd.fst)),(Prod.mk (8:Nat) (num IntKind.i64 s.snd.snd.snd))] [] []))∧(((Bytes s.fst)∧(((List.length s.fst)≤(137438953472:Nat))∧((s.snd.fst=(((List.length s.fst):Nat):Int))∧((s.snd.snd.fst=(0:Int))∧(s.snd.snd.snd=(0:Int))))))∧((∀ r:Int,(r=(((crc (0:Nat) s.fst):Nat):Int))→(true=true)∧(K [(aI IntKind.i64 r)] []))∧(∀ r:Empty,False→False))) := by
  exact ⟨(l, (l.length : Int), 0, 0), rfl, ⟨hp.1, hp.2, rfl, rfl, rfl⟩, fun r hr => ⟨rfl, hk r hr⟩, fun r h => h⟩
theorem vL_impl_CrcOf_0 (l0:List Int) (m0:Int) (s0:Int) (i0:Int) (l:List Int) (m:Int) (s:Int) (i:Int) (n:Nat) (hp:(fun (l:List Int) (m:Int) (s:Int) (i:Int) => (Bytes l∧l.length≤LIM∧m=l.length∧s=0∧i=0)) l0 m0 s0 i0) (hi:l=l0∧m=l.length∧Bytes l∧l.length≤LIM∧0≤s∧s≤65535∧0≤i∧i + n=l.length∧crc s.toNat (l.drop i.toNat)=crc 0 l0):if ((decide (i < m))=true) then ((((0:Int)≤i)∧(i < (((List.length l):Nat):Int)))∧((true=true)∧((((0:Int)≤s)∧((s≤(65535:Int))∧(((0:Int)≤(at_u8 l (Int.toNat i)))∧((at_u8 l (Int.toNat i))≤(255:Int)))))∧(∀ r:Int,(r=(((stp (Int.toNat s) (Int.toNat (at_u8 l (Int.toNat i)))):Nat):Int))→(true=true)∧(∃ s1:(Prod (List Int) (Prod Int (Prod Int Int))),((KS.mk true [(Prod.mk (3:Nat) (num IntKind.i64 r)),(Prod.mk (6:Nat) (T.v false [(Cm.d (D.r RK.u8 l))])),(Prod.mk (7:Nat) (num IntKind.i64 m)),(Prod.mk (8:Nat) (num IntKind.i64 (IntKind.wrap IntKind.i64 (i + (1:Int)))))] [] [])=(KS.mk true [(Prod.mk (3:Nat) (num IntKind.i64 s1.snd.snd.fst)),(Prod.mk (6:Nat) (T.v false [(Cm.d (D.r RK.u8 s1.fst))])),(Prod.mk (7:Nat) (num IntKind.i64 s1.snd.fst)),(Prod.mk (8:Nat) (num IntKind.i64 s1.snd.snd.snd))] [] []))∧(∃ m1:Nat,(m1 < n)∧((s1.fst=l0)∧((s1.snd.fst=(((List.length s1.fst):Nat):Int))∧((Bytes s1.fst)∧(((List.length s1.fst)≤(137438953472:Nat))∧(((0:Int)≤s1.snd.snd.fst)∧((s1.snd.snd.fst≤(65535:Int))∧(((0:Int)≤s1.snd.snd.snd)∧(((s1.snd.snd.snd + ((m1:Nat):Int))=(((List.length s1.fst):Nat):Int))∧((crc (Int.toNat s1.snd.snd.fst) (List.drop (Int.toNat s1.snd.snd.snd) s1.fst))=(crc (0:Nat) l0)))))))))))))))) else (∃ r:Int,((KS.mk true [(Prod.mk (3:Nat) (num IntKind.i64 s))] [] [])=(KS.mk true [(Prod.mk (3:Nat) (num IntKind.i64 r))] [] []))∧(r=(((crc (0:Nat) l0):Nat):Int))) := by
  try dsimp only at hp
  obtain ⟨rfl, rfl, h1, h2, h3, h4, h5, h6, h7⟩ := hi
  have hL : l.length ≤ 137438953472 := h2
  obtain ⟨i, rfl⟩ : ∃ m : Nat, i = m := ⟨i.toNat, by omega⟩
  rw [wr (x := (i : Int) + 1) (by omega) (by omega)]
  simp only [Int.toNat_natCast] at h7 ⊢
  cases n with
  | zero =>
    rw [if_neg (by simp; omega)]
    rw [List.drop_of_length_le (by omega)] at h7
    exact ⟨s, rfl, by rw [← h7]; simp [crc]; omega⟩
  | succ n =>
    rw [if_pos (by simp; omega)]
    have hi : i < l.length := by omega
    obtain ⟨q1, q2⟩ := h1.at_ (i : Int)
    have hx : rd l (i : Int) = at_u8 l i := rfl
    rw [hx] at q1 q2
    have hd : l.drop i = at_u8 l i :: l.drop (i + 1) := by
      rw [List.drop_eq_getElem_cons hi]
      congr 1
      show _ = l.getD i 0
      rw [List.getD_eq_getElem?_getD, List.getElem?_eq_getElem hi]; rfl
    rw [hd, crc_cons] at h7
    generalize at_u8 l i = b at q1 q2 h7 ⊢
    have hs := stp_lt (s := s.toNat) (b := b.toNat) (by omega) (by omega)
    refine ⟨⟨by omega, by omega⟩, trivial, ⟨by omega, by omega, by omega, by omega⟩, fun r hr => ⟨trivial, ?_⟩⟩
    subst hr
    exact ⟨(l, (l.length : Int), ((stp s.toNat b.toNat : Nat) : Int), (i : Int) + 1), rfl, n, by omega, rfl, rfl, h1, h2, by dsimp only; omega, by dsimp only; omega, by dsimp only; omega, by dsimp only; omega, by dsimp only; rw [show ((i : Int) + 1).toNat = i + 1 by omega]; simpa using h7⟩
theorem vS_impl_CrcOf_0 (l0 : List Int) (m0 : Int) (s0 : Int) (i0 : Int) (hp : (fun (l : List Int) (m : Int) (s : Int) (i : Int) => (Bytes l ∧ l.length ≤ LIM ∧ m = l.length ∧ s = 0 ∧ i = 0)) l0 m0 s0 i0) : ∃ n : Nat, (fun (l : List Int) (m : Int) (s : Int) (i : Int) => (l = l0 ∧ m = l.length ∧ Bytes l ∧ l.length ≤ LIM ∧ 0 ≤ s ∧ s ≤ 65535 ∧ 0 ≤ i ∧ i + n = l.length ∧ crc s.toNat (l.drop i.toNat) = crc 0 l0)) l0 m0 s0 i0 := by
  try dsimp only at hp
  try dsimp only
  obtain ⟨h1, h2, h3, rfl, rfl⟩ := hp
  exact ⟨l0.length, rfl, h3, h1, h2, by omega, by omega, by omega, by omega, rfl⟩
theorem w_impl_CrcOf : Valid Try.prog 6 c_impl_CrcOf :=
  valid_ctr2 (V := V_impl_CrcOf) (tysB_ok tys_ok) ⟨(CallsL.cons w_impl_step (CallsL.nil _)), (IosL.nil _)⟩ mixed 0 0 Try.func6 rfl (by kernel_rfl)
    (fun c hc => by
      obtain rfl := Option.some.inj hc
      exact ⟨trivial, ⟨trivial, ⟨⟨trivial, ⟨LoopD.ok2 (V := V_impl_CrcOf) l_impl_CrcOf_0 (LoopsM.cons 0 l_impl_CrcOf_0 LoopsM.nil) 0 _ i_impl_CrcOf_0 (fun x hx => vS_impl_CrcOf_0 x.1 x.2.1 x.2.2.1 x.2.2.2 hx) (fun x hx n s hi => ⟨_, by kernel_rfl, vL_impl_CrcOf_0 x.1 x.2.1 x.2.2.1 x.2.2.2 s.1 s.2.1 s.2.2.1 s.2.2.2 n hx hi⟩), ⟨trivial, ⟨⟨trivial, trivial⟩, ⟨⟨trivial, trivial⟩, trivial⟩⟩⟩⟩⟩, ⟨trivial, trivial⟩⟩⟩⟩)
    (fun x K hp hk => ⟨_, by kernel_rfl, vF_impl_CrcOf x K hp (fun r h => hk r h)⟩)
theorem vF_spec_CrcOf (l:List Int) (K:List Arg→List (List AC)→Prop) (hp:Bytes l∧l.length≤LIM) (hk:∀ (r:Int),(r=((crc 0 l:Nat):Int))→K ([rInt.to r]) ([])):∃ s:(Prod (List Int) (Prod Int Int)),((KS.mk true [(Prod.mk (0:Nat) (T.v false [(Cm.d (D.r RK.u8 l))])),(Prod.mk (3:Nat) (num IntKind.i64 (0:Int))),(Prod.mk (4:Nat) (num IntKind.i64 (0:Int)))] [] [])=(KS.mk true [(Prod.mk (0:Nat) (T.v false [(Cm.d (D.r RK.u8 s.fst))])),(Prod.mk (3:Nat) (num IntKind.i64 s.snd.fst)),(Prod.mk (4:Nat) (num IntKind.i64 s.snd.snd))] [] []))∧(((Bytes s.fst)∧(((List.length s.fst)≤(137438953472:Nat))∧((s.snd.fst=(0:Int))∧(s.snd.snd=(0:Int)))))∧((∀ r:Int,(r=(((crc (0:Nat) s.fst):Nat):Int))→(true=true)∧(K [(aI IntKind.i64 r)] []))∧(∀ r:Empty,False→False))) := by
  exact ⟨(l, 0, 0), rfl, ⟨hp.1, hp.2, rfl, rfl⟩, fun r hr => ⟨rfl, hk r hr⟩, fun r h => h⟩
theorem vL_spec_CrcOf_0 (l0:List Int) (s0:Int) (i0:Int) (l:List Int) (s:Int) (i:Int) (n:Nat) (hp:(fun (l:List Int) (s:Int) (i:Int) => (Bytes l∧l.length≤LIM∧s=0∧i=0)) l0 s0 i0) (hi:l=l0∧Bytes l∧l.length≤LIM∧0≤s∧s≤65535∧0≤i∧i + n=l.length∧crc s.toNat (l.drop i.toNat)=crc 0 l0):if ((decide (i < (((List.length l):Nat):Int)))=true) then ((((0:Int)≤i)∧(i < (((List.length l):Nat):Int)))∧((true=true)∧((((0:Int)≤(at_u8 l (Int.toNat i)))∧((at_u8 l (Int.toNat i))≤(255:Int)))∧(∀ r:Int,(r=(if (((0:Int)≤s)∧(s≤(65535:Int))) then (((stp (Int.toNat s) (Int.toNat (at_u8 l (Int.toNat i)))):Nat):Int) else (-1:Int)))→(true=true)∧(∃ s1:(Prod (List Int) (Prod Int Int)),((KS.mk true [(Prod.mk (0:Nat) (T.v false [(Cm.d (D.r RK.u8 l))])),(Prod.mk (3:Nat) (num IntKind.i64 r)),(Prod.mk (4:Nat) (num IntKind.i64 (IntKind.wrap IntKind.i64 (i + (1:Int)))))] [] [])=(KS.mk true [(Prod.mk (0:Nat) (T.v false [(Cm.d (D.r RK.u8 s1.fst))])),(Prod.mk (3:Nat) (num IntKind.i64 s1.snd.fst)),(Prod.mk (4:Nat) (num IntKind.i64 s1.snd.snd))] [] []))∧(∃ m:Nat,(m < n)∧((s1.fst=l0)∧((Bytes s1.fst)∧(((List.length s1.fst)≤(137438953472:Nat))∧(((0:Int)≤s1.snd.fst)∧((s1.snd.fst≤(65535:Int))∧(((0:Int)≤s1.snd.snd)∧(((s1.snd.snd + ((m:Nat):Int))=(((List.length s1.fst):Nat):Int))∧((crc (Int.toNat s1.snd.fst) (List.drop (Int.toNat s1.snd.snd) s1.fst))=(crc (0:Nat) l0))))))))))))))) else (∃ r:Int,((KS.mk true [(Prod.mk (3:Nat) (num IntKind.i64 s))] [] [])=(KS.mk true [(Prod.mk (3:Nat) (num IntKind.i64 r))] [] []))∧(r=(((crc (0:Nat) l0):Nat):Int))) := by
  try dsimp only at hp
  obtain ⟨rfl, h1, h2, h3, h4, h5, h6, h7⟩ := hi
  have hL : l.length ≤ 137438953472 := h2
  obtain ⟨i, rfl⟩ : ∃ m : Nat, i = m := ⟨i.toNat, by omega⟩
  rw [wr (x := (i : Int) + 1) (by omega) (by omega)]
  simp only [Int.toNat_natCast] at h7 ⊢
  cases n with
  | zero =>
    rw [if_neg (by simp; omega)]
    rw [List.drop_of_length_le (by omega)] at h7
    exact ⟨s, rfl, by rw [← h7]; simp [crc]; omega⟩
  | succ n =>
    rw [if_pos (by simp; omega)]
    have hi : i < l.length := by omega
    obtain ⟨q1, q2⟩ := h1.at_ (i : Int)
    have hx : rd l (i : Int) = at_u8 l i := rfl
    rw [hx] at q1 q2
    have hd : l.drop i = at_u8 l i :: l.drop (i + 1) := by
      rw [List.drop_eq_getElem_cons hi]
      congr 1
      show _ = l.getD i 0
      rw [List.getD_eq_getElem?_getD, List.getElem?_eq_getElem hi]; rfl
    rw [hd, crc_cons] at h7
    generalize at_u8 l i = b at q1 q2 h7 ⊢
    have hs := stp_lt (s := s.toNat) (b := b.toNat) (by omega) (by omega)
    refine ⟨⟨by omega, by omega⟩, trivial, ⟨by omega, by omega⟩, fun r hr => ⟨trivial, ?_⟩⟩
    rw [if_pos ⟨by omega, by omega⟩] at hr
    subst hr
    exact ⟨(l, ((stp s.toNat b.toNat : Nat) : Int), (i : Int) + 1), rfl, n, by omega, rfl, h1, h2, by dsimp only; omega, by dsimp only; omega, by dsimp only; omega, by dsimp only; omega, by dsimp only; rw [show ((i : Int) + 1).toNat = i + 1 by omega]; simpa using h7⟩
theorem vS_spec_CrcOf_0 (l0 : List Int) (s0 : Int) (i0 : Int) (hp : (fun (l : List Int) (s : Int) (i : Int) => (Bytes l ∧ l.length ≤ LIM ∧ s = 0 ∧ i = 0)) l0 s0 i0) : ∃ n : Nat, (fun (l : List Int) (s : Int) (i : Int) => (l = l0 ∧ Bytes l ∧ l.length ≤ LIM ∧ 0 ≤ s ∧ s ≤ 65535 ∧ 0 ≤ i ∧ i + n = l.length ∧ crc s.toNat (l.drop i.toNat) = crc 0 l0)) l0 s0 i0 := by
  try dsimp only at hp
  try dsimp only
  obtain ⟨h1, h2, rfl, rfl⟩ := hp
  exact ⟨l0.length, rfl, h1, h2, by omega, by omega, by omega, by omega, rfl⟩
theorem w_spec_CrcOf : Valid Try.prog 7 c_spec_CrcOf :=
  valid_ctr2 (V := V_spec_CrcOf) (tysB_ok tys_ok) ⟨(CallsL.cons w_spec_CrcStep (CallsL.nil _)), (IosL.nil _)⟩ mixed 0 0 Try.func7 rfl (by kernel_rfl)
    (fun c hc => by
      obtain rfl := Option.some.inj hc
      exact ⟨trivial, ⟨trivial, ⟨⟨trivial, ⟨LoopD.ok2 (V := V_spec_CrcOf) l_spec_CrcOf_0 (LoopsM.cons 0 l_spec_CrcOf_0 LoopsM.nil) 0 _ i_spec_CrcOf_0 (fun x hx => vS_spec_CrcOf_0 x.1 x.2.1 x.2.2 hx) (fun x hx n s hi => ⟨_, by kernel_rfl, vL_spec_CrcOf_0 x.1 x.2.1 x.2.2 s.1 s.2.1 s.2.2 n hx hi⟩), ⟨⟨trivial, ⟨trivial, trivial⟩⟩, ⟨trivial, trivial⟩⟩⟩⟩, ⟨trivial, trivial⟩⟩⟩⟩)
    (fun x K hp hk => ⟨_, by kernel_rfl, vF_spec_CrcOf x K hp (fun r h => hk r h)⟩)
theorem vF_slices_Clone_byte_byte (l:List Int) (K:List Arg→List (List AC)→Prop) (hp:l.length≤LIM) (hk:∀ (r:List Int),(r=l)→K ([(rO 5 .u8).to r]) ([])):∀ b:Bool,((b=true)→(l=([]:(List Int))))→if (b=true) then ((true=true)∧(K [(Arg.v false [(AC.own (RC.mk (5:Nat) RK.u8 ([]:(List Int)) (RM.mk (dpM false (Option.none)) false (0:Nat) false)))])] [])) else ((((0:Nat) + (List.length l))≤(137438953472:Nat))∧((true=true)∧(K [(Arg.v false [(AC.own (RC.mk (5:Nat) RK.u8 (([]:(List Int)) ++ l:(List Int)) (RM.mk (dpM false (Option.none)) false (0:Nat) false)))])] []))) := by
  intro b hb
  have hL : l.length ≤ 137438953472 := hp
  split
  · rename_i h
    exact ⟨rfl, hk _ (hb h).symm⟩
  · exact ⟨by omega, rfl, hk _ rfl⟩
theorem w_slices_Clone_byte_byte : Valid Try.prog 28 c_slices_Clone_byte_byte :=
  valid_ctr2 (V := V_slices_Clone_byte_byte) (tysB_ok tys_ok) ⟨(CallsL.nil _), (IosL.nil _)⟩ mixed 2 0 Try.func28 rfl (by kernel_rfl)
    (fun c hc => by
      obtain rfl := Option.some.inj hc
      exact ⟨trivial, ⟨⟨trivial, ⟨⟨trivial, trivial⟩, trivial⟩⟩, ⟨trivial, trivial⟩⟩⟩)
    (fun x K hp hk => ⟨_, by kernel_rfl, vF_slices_Clone_byte_byte x K hp (fun r h => hk r h)⟩)
theorem vF_slices_Clip_byte_byte (l:List Int) (K:List Arg→List (List AC)→Prop) (hp:True) (hk:∀ (r:List Int),(r=l)→K ([(rO 5 .u8).to r]) ([])):(((((List.length l):Nat):Int)=(((List.length l):Nat):Int))∧((((List.length l):Nat):Int)=(((List.length l):Nat):Int)))∧((true=true)∧(K [(Arg.v false [(AC.own (RC.mk (5:Nat) RK.u8 l (RM.mk (dpM false (Option.none)) false (0:Nat) false)))])] [])) := by
  exact ⟨⟨rfl, rfl⟩, rfl, hk _ rfl⟩
theorem w_slices_Clip_byte_byte : Valid Try.prog 27 c_slices_Clip_byte_byte :=
  valid_ctr2 (V := V_slices_Clip_byte_byte) (tysB_ok tys_ok) ⟨(CallsL.nil _), (IosL.nil _)⟩ mixed 0 0 Try.func27 rfl (by kernel_rfl)
    (fun c hc => by
      obtain rfl := Option.some.inj hc
      exact ⟨trivial, ⟨trivial, trivial⟩⟩)
    (fun x K hp hk => ⟨_, by kernel_rfl, vF_slices_Clip_byte_byte x K hp (fun r h => hk r h)⟩)
theorem vF_impl_clone_byte (l:List Int) (K:List Arg→List (List AC)→Prop) (hp:l.length≤LIM) (hk:∀ (r:List Int),(r=l)→K ([(rO 5 .u8).to r]) ([])):(true=true)∧(((List.length l)≤(137438953472:Nat))∧(∀ r:(List Int),(r=l)→(true=true)∧((true=true)∧(True∧(∀ r1:(List Int),(r1=r)→(true=true)∧((true=true)∧(K [(Arg.v false [(AC.own (RC.mk (5:Nat) RK.u8 r1 (RM.mk (dpM false (Option.none)) false (0:Nat) false)))])] []))))))) := by
  exact ⟨rfl, hp, fun r hr => ⟨rfl, rfl, trivial, fun r1 hr1 => ⟨rfl, rfl, hk r1 (hr1.trans hr)⟩⟩⟩
theorem w_impl_clone_byte : Valid Try.prog 22 c_impl_clone_byte :=
  valid_ctr2 (V := V_impl_clone_byte) (tysB_ok tys_ok) ⟨(CallsL.cons w_slices_Clip_byte_byte (CallsL.cons w_slices_Clone_byte_byte (CallsL.nil _))), (IosL.nil _)⟩ mixed 2 0 Try.func22 rfl (by kernel_rfl)
    (fun c hc => by
      obtain rfl := Option.some.inj hc
      exact ⟨trivial, ⟨trivial, trivial⟩⟩)
    (fun x K hp hk => ⟨_, by kernel_rfl, vF_impl_clone_byte x K hp (fun r h => hk r h)⟩)
end Go.Proofs.YtomcnemdaohafaaE
