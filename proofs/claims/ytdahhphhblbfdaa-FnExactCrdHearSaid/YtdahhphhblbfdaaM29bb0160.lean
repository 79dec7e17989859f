/- A part of the proof of laws of the program: what calls of the program answer. Conditions: none. -/
import Derived.Test.YtdahhphhblbfdaaM188a16ec
set_option linter.unusedVariables false
set_option linter.unusedSimpArgs false
set_option linter.unusedSectionVars false
/- Contracts: K. Conditions: none. -/
set_option linter.unusedVariables false
set_option maxHeartbeats 1600000
namespace Go.Proofs.YtdahhphhblbfdaaE
open Go
/-! spec.l4Bad -/
def c_spec_l4Bad : Ent := ctr (α := Unit) (ρ := (PutR)) [] [] rs0 (fun x_ => (True)) (fun x_ r_ => (fun x_ => ((fun r_ => (fun (q : PutR) => (q = ⟨zJoin, [], 3⟩)) r_))) x_ r_) (fun r_ => (fun (q : PutR) => ([rJoin.to q.j, rBytes.to q.sdu, rInt.to q.how])) r_) (fun r_ => (fun (q : PutR) => ([])) r_)
def V_spec_l4Bad : Env := ⟨tys, [], [], [(0, 0)], [], [], [], [], []⟩
/-! (impl.SegJoin).put -/
def c_impl_SegJoin_put : Ent := ctr (α := (JoinS) × (Part)) (ρ := (PutR)) [] [] (rs rJoin (rs1 rPart)) (fun x_ => (fun (j : JoinS) (p : Part) => (JoinP j ∧ 0 ≤ p.seg ∧ p.seg ≤ 3 ∧ p.data.length ≤ 1000000000)) x_.1 x_.2) (fun x_ r_ => (fun x_ => (fun (j : JoinS) (p : Part) => ((fun r_ => (fun (q : PutR) => (q = segPut j p)) r_))) x_.1 x_.2) x_ r_) (fun r_ => (fun (q : PutR) => ([rJoin.to q.j, rBytes.to q.sdu, rInt.to q.how])) r_) (fun r_ => (fun (q : PutR) => ([])) r_)
def V_impl_SegJoin_put : Env := ⟨tys, [(65, c_impl_clone_byte)], [(10, [0])], [(2, 0), (3, 1), (4, 2)], [(1, ([], [0]))], [], [500019, 500030, 500043, 500048, 500063, 500068], [], [(1, [(0, false), (1, false), (3, false), (4, false), (2, true), (5, true), (6, true), (7, false)])]⟩
/-! spec.l4Put -/
def c_spec_l4Put : Ent := ctr (α := (JoinS) × (Part)) (ρ := (PutR)) [] [] (rs rJoin (rs1 rPart)) (fun x_ => (fun (j : JoinS) (p : Part) => (JoinP j ∧ 0 ≤ p.seg ∧ p.seg ≤ 3 ∧ p.data.length ≤ 1000000000)) x_.1 x_.2) (fun x_ r_ => (fun x_ => (fun (j : JoinS) (p : Part) => ((fun r_ => (fun (q : PutR) => (q = segPut j p)) r_))) x_.1 x_.2) x_ r_) (fun r_ => (fun (q : PutR) => ([rJoin.to q.j, rBytes.to q.sdu, rInt.to q.how])) r_) (fun r_ => (fun (q : PutR) => ([])) r_)
def V_spec_l4Put : Env := ⟨tys, [(87, c_spec_l4Bad)], [(12, [0])], [(2, 0), (3, 1), (4, 2)], [(2, ([], [0]))], [], [500046, 500064], [], [(2, [(1, false), (2, false), (4, false), (5, false), (0, true), (3, true), (6, true), (7, false)])]⟩
theorem segPut_got (j : JoinS) (p : Part) : (segPut j p).j.got.length ≤ j.got.length + p.data.length ∧ (segPut j p).sdu.length ≤ j.got.length + p.data.length := by
  unfold segPut
  repeat' split
  all_goals simp [zJoin]
theorem SegP.seg {s l n : Int} (h : SegP s l n) : 0 ≤ s ∧ s ≤ 3 := by unfold SegP at h; omega
theorem RxIn.seg {c : Cfg} {r : RxS} {f : Frm} (h : RxIn c r f) : 0 ≤ f.seg ∧ f.seg ≤ 3 := by
  obtain ⟨_, _, h, hk⟩ := h
  unfold FrmP at h
  rcases h with h | h | h | h
  · exact h.2.2.2.2.2.seg
  · omega
  · exact h.2.2.2.2.2.2.seg
  · omega
theorem RxIn.num {c : Cfg} {r : RxS} {f : Frm} (h : RxIn c r f) (hk : f.kind = 1) : 0 ≤ r.expect ∧ r.expect ≤ 7 ∧ 0 ≤ f.seq ∧ f.seq ≤ 7 := by
  obtain ⟨_, h1, h, _⟩ := h
  unfold FrmP at h
  obtain ⟨⟨h2, h3⟩, _⟩ := h1
  omega
theorem RxIn.num2 {c : Cfg} {r : RxS} {f : Frm} (h : RxIn c r f) (hk : ¬ (f.kind == 2) = true) : 0 ≤ r.expect ∧ r.expect ≤ 7 ∧ 0 ≤ f.seq ∧ f.seq ≤ 7 := h.num (by have := h.2.2.2; simp at hk; omega)
theorem take_got (c : Cfg) (r : RxS) (f : Frm) : (rxTake c r f).r.join.got.length ≤ r.join.got.length + f.data.length ∧ (rxTake c r f).sdus.length ≤ 1 ∧ ∀ y ∈ (rxTake c r f).sdus, y.length ≤ r.join.got.length + f.data.length := by
  have h := segPut_got r.join ⟨f.seg, f.len, f.data⟩
  unfold rxTake
  dsimp only at h ⊢
  repeat' split
  all_goals simp
  all_goals omega
theorem take_says (c : Cfg) (r : RxS) (f : Frm) : (rxTake c r f).says = [] := by
  unfold rxTake
  dsimp only
  repeat' split
  all_goals rfl
theorem hear_got (c : Cfg) (r : RxS) (f : Frm) : (rxHear1 c r f).r.join.got.length ≤ r.join.got.length + f.data.length ∧ (rxHear1 c r f).sdus.length ≤ 1 ∧ ∀ y ∈ (rxHear1 c r f).sdus, y.length ≤ r.join.got.length + f.data.length := by
  have h := take_got c r f
  unfold rxHear1 rxData
  repeat' split
  all_goals first | exact h | simp

/-! spec.l7Sdus -/
def c_spec_l7Sdus : Ent := ctr (α := (List (List Int))) (ρ := (List (List Int))) [] [] (rs1 (rR .byr)) (fun x_ => (fun (l : List (List Int)) => (l.length ≤ 1000 ∧ ∀ y ∈ l, y.length ≤ LIM)) x_) (fun x_ r_ => (fun x_ => (fun (l : List (List Int)) => ((fun r_ => (fun (o : List (List Int)) => (o = l)) r_))) x_) x_ r_) (fun r_ => (fun (o : List (List Int)) => ([(rR .byr).to o])) r_) (fun r_ => (fun (o : List (List Int)) => ([])) r_)
def l_spec_l7Sdus_0 : LoopD ((List (List Int)) × (List (List Int)) × (Int)) ((List (List Int))) ((Empty)) where
  n := 22
  head := ⟨[0, 3, 4], [], [1]⟩
  st := fun x_ => (fun (l : List (List Int)) (o : List (List Int)) (i : Int) => (⟨true, [(0, .v false [.d (.r .byr l)]), (3, .v false [.ref 1 0]), (4, num .i64 i)], [⟨0, none⟩, ⟨0, some ⟨22, .byr, o, m0⟩⟩], []⟩)) x_.1 x_.2.1 x_.2.2
  pre := fun x_ => (fun (l : List (List Int)) (o : List (List Int)) (i : Int) => (l.length ≤ 1000 ∧ (∀ y ∈ l, y.length ≤ LIM) ∧ o = [] ∧ i = 0)) x_.1 x_.2.1 x_.2.2
  nk := ⟨[3], [], [1]⟩
  nst := fun r_ => (fun (o : List (List Int)) => (⟨true, [(3, .v false [.ref 1 0])], [⟨0, none⟩, ⟨0, some ⟨22, .byr, o, m0⟩⟩], []⟩)) r_
  npost := fun x_ r_ => (fun x_ => (fun (l0 : List (List Int)) (o0 : List (List Int)) (i0 : Int) => ((fun r_ => (fun (o : List (List Int)) => (o = l0)) r_))) x_.1 x_.2.1 x_.2.2) x_ r_
  rk := ⟨[], [], []⟩
  rst := fun _ => ⟨true, [], [], []⟩
  rpost := fun _ _ => False
def i_spec_l7Sdus_0 (x : (List (List Int)) × (List (List Int)) × (Int)) (n : Nat) (s : (List (List Int)) × (List (List Int)) × (Int)) : Prop := (fun x_ => (fun (l0 : List (List Int)) (o0 : List (List Int)) (i0 : Int) => ((fun s_ => (fun (l : List (List Int)) (o : List (List Int)) (i : Int) => (l = l0 ∧ l.length ≤ 1000 ∧ (∀ y ∈ l, y.length ≤ LIM) ∧ 0 ≤ i ∧ i + n = l.length ∧ o = l.take i.toNat)) s_.1 s_.2.1 s_.2.2))) x_.1 x_.2.1 x_.2.2) x s
def V_spec_l7Sdus : Env := ⟨tys, [], [(13, [0]), (5, [1])], [], [], [(0, l_spec_l7Sdus_0.L)], [18], [], []⟩
end Go.Proofs.YtdahhphhblbfdaaE

/- Calls answer what is promised: K. Conditions: none. -/
set_option linter.unusedVariables false
set_option maxHeartbeats 1600000
namespace Go.Proofs.YtdahhphhblbfdaaE
open Go
theorem vF_spec_l4Bad (K:List Arg→List (List AC)→Prop) (hp:True) (hk:∀ (q:PutR),(q=⟨zJoin,[],3⟩)→K ([rJoin.to q.j,rBytes.to q.sdu,rInt.to q.how]) ([])):(true=true)∧(K [(Arg.v true [(AC.d (D.i IntKind.i64 (0:Int))),(AC.d (D.r RK.u8 ([]:(List Int))))]),(aR RK.u8 ([]:(List Int))),(aI IntKind.i64 (3:Int))] []) := by
  exact ⟨by trivial, hk _ rfl⟩
theorem w_spec_l4Bad : Valid Try.prog 87 c_spec_l4Bad :=
  valid_ctr2 (V := V_spec_l4Bad) (tysB_ok tys_ok) ⟨(CallsL.nil _), (IosL.nil _)⟩ mixed 0 1 Try.func87 rfl (by kernel_rfl)
    (fun c hc => by
      obtain rfl := Option.some.inj hc
      exact ⟨trivial, ⟨trivial, trivial⟩⟩)
    (fun x K hp hk => ⟨_, by kernel_rfl, vF_spec_l4Bad  K hp (fun q h => hk q h)⟩)
theorem vF_impl_SegJoin_put (j:JoinS) (p:Part) (K:List Arg→List (List AC)→Prop) (hp:JoinP j∧0≤p.seg∧p.seg≤3∧p.data.length≤1000000000) (hk:∀ (q:PutR),(q=segPut j p)→K ([rJoin.to q.j,rBytes.to q.sdu,rInt.to q.how]) ([])):(true=true)∧(((List.length j.got)≤(137438953472:Nat))∧(∀ r:(List Int),(r=j.got)→(true=true)∧((true=true)∧((((List.length r) + (List.length p.data))≤(137438953472:Nat))∧((true=true)∧((true=true)∧(((List.length (r ++ p.data:(List Int)))≤(137438953472:Nat))∧(∀ r1:(List Int),(r1=(r ++ p.data:(List Int)))→(true=true)∧((true=true)∧(if ((p.seg == (0:Int))=true) then (if ((j.len == (0:Int))=true) then ((true=true)∧(K [(Arg.v true [(AC.d (D.i IntKind.i64 (0:Int))),(AC.d (D.r RK.u8 ([]:(List Int))))]),(aR RK.u8 r1),(aI IntKind.i64 (2:Int))] [])) else (if ((p.seg == (1:Int))=true) then (if ((j.len == (0:Int))=true) then ((true=true)∧(K [(Arg.v true [(AC.d (D.i IntKind.i64 p.len)),(AC.d (D.r RK.u8 r1))]),(aR RK.u8 ([]:(List Int))),(aI IntKind.i64 (1:Int))] [])) else (if ((p.seg == (2:Int))=true) then (if ((decide (j.len > (0:Int)))=true) then (if ((decide ((((List.length r1):Nat):Int) < j.len))=true) then ((true=true)∧(K [(Arg.v true [(AC.d (D.i IntKind.i64 j.len)),(AC.d (D.r RK.u8 r1))]),(aR RK.u8 ([]:(List Int))),(aI IntKind.i64 (1:Int))] [])) else (if ((p.seg == (3:Int))=true) then (if ((decide (j.len > (0:Int)))=true) then (if (((((List.length r1):Nat):Int) == j.len)=true) then ((true=true)∧(K [(Arg.v true [(AC.d (D.i IntKind.i64 (0:Int))),(AC.d (D.r RK.u8 ([]:(List Int))))]),(aR RK.u8 r1),(aI IntKind.i64 (2:Int))] [])) else ((true=true)∧(K [(Arg.v true [(AC.d (D.i IntKind.i64 (0:Int))),(AC.d (D.r RK.u8 ([]:(List Int))))]),(aR RK.u8 ([]:(List Int))),(aI IntKind.i64 (3:Int))] []))) else ((true=true)∧(K [(Arg.v true [(AC.d (D.i IntKind.i64 (0:Int))),(AC.d (D.r RK.u8 ([]:(List Int))))]),(aR RK.u8 ([]:(List Int))),(aI IntKind.i64 (3:Int))] []))) else ((true=true)∧(K [(Arg.v true [(AC.d (D.i IntKind.i64 (0:Int))),(AC.d (D.r RK.u8 ([]:(List Int))))]),(aR RK.u8 ([]:(List Int))),(aI IntKind.i64 (3:Int))] [])))) else (if ((p.seg == (3:Int))=true) then (if ((decide (j.len > (0:Int)))=true) then (if (((((List.length r1):Nat):Int) == j.len)=true) then ((true=true)∧(K [(Arg.v true [(AC.d (D.i IntKind.i64 (0:Int))),(AC.d (D.r RK.u8 ([]:(List Int))))]),(aR RK.u8 r1),(aI IntKind.i64 (2:Int))] [])) else ((true=true)∧(K [(Arg.v true [(AC.d (D.i IntKind.i64 (0:Int))),(AC.d (D.r RK.u8 ([]:(List Int))))]),(aR RK.u8 ([]:(List Int))),(aI IntKind.i64 (3:Int))] []))) else ((true=true)∧(K [(Arg.v true [(AC.d (D.i IntKind.i64 (0:Int))),(AC.d (D.r RK.u8 ([]:(List Int))))]),(aR RK.u8 ([]:(List Int))),(aI IntKind.i64 (3:Int))] []))) else ((true=true)∧(K [(Arg.v true [(AC.d (D.i IntKind.i64 (0:Int))),(AC.d (D.r RK.u8 ([]:(List Int))))]),(aR RK.u8 ([]:(List Int))),(aI IntKind.i64 (3:Int))] [])))) else (if ((p.seg == (3:Int))=true) then (if ((decide (j.len > (0:Int)))=true) then (if (((((List.length r1):Nat):Int) == j.len)=true) then ((true=true)∧(K [(Arg.v true [(AC.d (D.i IntKind.i64 (0:Int))),(AC.d (D.r RK.u8 ([]:(List Int))))]),(aR RK.u8 r1),(aI IntKind.i64 (2:Int))] [])) else ((true=true)∧(K [(Arg.v true [(AC.d (D.i IntKind.i64 (0:Int))),(AC.d (D.r RK.u8 ([]:(List Int))))]),(aR RK.u8 ([]:(List Int))),(aI IntKind.i64 (3:Int))] []))) else ((true=true)∧(K [(Arg.v true [(AC.d (D.i IntKind.i64 (0:Int))),(AC.d (D.r RK.u8 ([]:(List Int))))]),(aR RK.u8 ([]:(List Int))),(aI IntKind.i64 (3:Int))] []))) else ((true=true)∧(K [(Arg.v true [(AC.d (D.i IntKind.i64 (0:Int))),(AC.d (D.r RK.u8 ([]:(List Int))))]),(aR RK.u8 ([]:(List Int))),(aI IntKind.i64 (3:Int))] []))))) else (if ((p.seg == (2:Int))=true) then (if ((decide (j.len > (0:Int)))=true) then (if ((decide ((((List.length r1):Nat):Int) < j.len))=true) then ((true=true)∧(K [(Arg.v true [(AC.d (D.i IntKind.i64 j.len)),(AC.d (D.r RK.u8 r1))]),(aR RK.u8 ([]:(List Int))),(aI IntKind.i64 (1:Int))] [])) else (if ((p.seg == (3:Int))=true) then (if ((decide (j.len > (0:Int)))=true) then (if (((((List.length r1):Nat):Int) == j.len)=true) then ((true=true)∧(K [(Arg.v true [(AC.d (D.i IntKind.i64 (0:Int))),(AC.d (D.r RK.u8 ([]:(List Int))))]),(aR RK.u8 r1),(aI IntKind.i64 (2:Int))] [])) else ((true=true)∧(K [(Arg.v true [(AC.d (D.i IntKind.i64 (0:Int))),(AC.d (D.r RK.u8 ([]:(List Int))))]),(aR RK.u8 ([]:(List Int))),(aI IntKind.i64 (3:Int))] []))) else ((true=true)∧(K [(Arg.v true [(AC.d (D.i IntKind.i64 (0:Int))),(AC.d (D.r RK.u8 ([]:(List Int))))]),(aR RK.u8 ([]:(List Int))),(aI IntKind.i64 (3:Int))] []))) else ((true=true)∧(K [(Arg.v true [(AC.d (D.i IntKind.i64 (0:Int))),(AC.d (D.r RK.u8 ([]:(List Int))))]),(aR RK.u8 ([]:(List Int))),(aI IntKind.i64 (3:Int))] [])))) else (if ((p.seg == (3:Int))=true) then (if ((decide (j.len > (0:Int)))=true) then (if (((((List.length r1):Nat):Int) == j.len)=true) then ((true=true)∧(K [(Arg.v true [(AC.d (D.i IntKind.i64 (0:Int))),(AC.d (D.r RK.u8 ([]:(List Int))))]),(aR RK.u8 r1),(aI IntKind.i64 (2:Int))] [])) else ((true=true)∧(K [(Arg.v true [(AC.d (D.i IntKind.i64 (0:Int))),(AC.d (D.r RK.u8 ([]:(List Int))))]),(aR RK.u8 ([]:(List Int))),(aI IntKind.i64 (3:Int))] []))) else ((true=true)∧(K [(Arg.v true [(AC.d (D.i IntKind.i64 (0:Int))),(AC.d (D.r RK.u8 ([]:(List Int))))]),(aR RK.u8 ([]:(List Int))),(aI IntKind.i64 (3:Int))] []))) else ((true=true)∧(K [(Arg.v true [(AC.d (D.i IntKind.i64 (0:Int))),(AC.d (D.r RK.u8 ([]:(List Int))))]),(aR RK.u8 ([]:(List Int))),(aI IntKind.i64 (3:Int))] [])))) else (if ((p.seg == (3:Int))=true) then (if ((decide (j.len > (0:Int)))=true) then (if (((((List.length r1):Nat):Int) == j.len)=true) then ((true=true)∧(K [(Arg.v true [(AC.d (D.i IntKind.i64 (0:Int))),(AC.d (D.r RK.u8 ([]:(List Int))))]),(aR RK.u8 r1),(aI IntKind.i64 (2:Int))] [])) else ((true=true)∧(K [(Arg.v true [(AC.d (D.i IntKind.i64 (0:Int))),(AC.d (D.r RK.u8 ([]:(List Int))))]),(aR RK.u8 ([]:(List Int))),(aI IntKind.i64 (3:Int))] []))) else ((true=true)∧(K [(Arg.v true [(AC.d (D.i IntKind.i64 (0:Int))),(AC.d (D.r RK.u8 ([]:(List Int))))]),(aR RK.u8 ([]:(List Int))),(aI IntKind.i64 (3:Int))] []))) else ((true=true)∧(K [(Arg.v true [(AC.d (D.i IntKind.i64 (0:Int))),(AC.d (D.r RK.u8 ([]:(List Int))))]),(aR RK.u8 ([]:(List Int))),(aI IntKind.i64 (3:Int))] [])))))) else (if ((p.seg == (1:Int))=true) then (if ((j.len == (0:Int))=true) then ((true=true)∧(K [(Arg.v true [(AC.d (D.i IntKind.i64 p.len)),(AC.d (D.r RK.u8 r1))]),(aR RK.u8 ([]:(List Int))),(aI IntKind.i64 (1:Int))] [])) else (if ((p.seg == (2:Int))=true) then (if ((decide (j.len > (0:Int)))=true) then (if ((decide ((((List.length r1):Nat):Int) < j.len))=true) then ((true=true)∧(K [(Arg.v true [(AC.d (D.i IntKind.i64 j.len)),(AC.d (D.r RK.u8 r1))]),(aR RK.u8 ([]:(List Int))),(aI IntKind.i64 (1:Int))] [])) else (if ((p.seg == (3:Int))=true) then (if ((decide (j.len > (0:Int)))=true) then (if (((((List.length r1):Nat):Int) == j.len)=true) then ((true=true)∧(K [(Arg.v true [(AC.d (D.i IntKind.i64 (0:Int))),(AC.d (D.r RK.u8 ([]:(List Int))))]),(aR RK.u8 r1),(aI IntKind.i64 (2:Int))] [])) else ((true=true)∧(K [(Arg.v true [(AC.d (D.i IntKind.i64 (0:Int))),(AC.d (D.r RK.u8 ([]:(List Int))))]),(aR RK.u8 ([]:(List Int))),(aI IntKind.i64 (3:Int))] []))) else ((true=true)∧(K [(Arg.v true [(AC.d (D.i IntKind.i64 (0:Int))),(AC.d (D.r RK.u8 ([]:(List Int))))]),(aR RK.u8 ([]:(List Int))),(aI IntKind.i64 (3:Int))] []))) else ((true=true)∧(K [(Arg.v true [(AC.d (D.i IntKind.i64 (0:Int))),(AC.d (D.r RK.u8 ([]:(List Int))))]),(aR RK.u8 ([]:(List Int))),(aI IntKind.i64 (3:Int))] [])))) else (if ((p.seg == (3:Int))=true) then (if ((decide (j.len > (0:Int)))=true) then (if (((((List.length r1):Nat):Int) == j.len)=true) then ((true=true)∧(K [(Arg.v true [(AC.d (D.i IntKind.i64 (0:Int))),(AC.d (D.r RK.u8 ([]:(List Int))))]),(aR RK.u8 r1),(aI IntKind.i64 (2:Int))] [])) else ((true=true)∧(K [(Arg.v true [(AC.d (D.i IntKind.i64 (0:Int))),(AC.d (D.r RK.u8 ([]:(List Int))))]),(aR RK.u8 ([]:(List Int))),(aI IntKind.i64 (3:Int))] []))) else ((true=true)∧(K [(Arg.v true [(AC.d (D.i IntKind.i64 (0:Int))),(AC.d (D.r RK.u8 ([]:(List Int))))]),(aR RK.u8 ([]:(List Int))),(aI IntKind.i64 (3:Int))] []))) else ((true=true)∧(K [(Arg.v true [(AC.d (D.i IntKind.i64 (0:Int))),(AC.d (D.r RK.u8 ([]:(List Int))))]),(aR RK.u8 ([]:(List Int))),(aI IntKind.i64 (3:Int))] [])))) else (if ((p.seg == (3:Int))=true) then (if ((decide (j.len > (0:Int)))=true) then (if (((((List.length r1):Nat):Int) == j.len)=true) then ((true=true)∧(K [(Arg.v true [(AC.d (D.i IntKind.i64 (0:Int))),(AC.d (D.r RK.u8 ([]:(List Int))))]),(aR RK.u8 r1),(aI IntKind.i64 (2:Int))] [])) else ((true=true)∧(K [(Arg.v true [(AC.d (D.i IntKind.i64 (0:Int))),(AC.d (D.r RK.u8 ([]:(List Int))))]),(aR RK.u8 ([]:(List Int))),(aI IntKind.i64 (3:Int))] []))) else ((true=true)∧(K [(Arg.v true [(AC.d (D.i IntKind.i64 (0:Int))),(AC.d (D.r RK.u8 ([]:(List Int))))]),(aR RK.u8 ([]:(List Int))),(aI IntKind.i64 (3:Int))] []))) else ((true=true)∧(K [(Arg.v true [(AC.d (D.i IntKind.i64 (0:Int))),(AC.d (D.r RK.u8 ([]:(List Int))))]),(aR RK.u8 ([]:(List Int))),(aI IntKind.i64 (3:Int))] []))))) else (if ((p.seg == (2:Int))=true) then (if ((decide (j.len > (0:Int)))=true) then (if ((decide ((((List.length r1):Nat):Int) < j.len))=true) then ((true=true)∧(K [(Arg.v true [(AC.d (D.i IntKind.i64 j.len)),(AC.d (D.r RK.u8 r1))]),(aR RK.u8 ([]:(List Int))),(aI IntKind.i64 (1:Int))] [])) else (if ((p.seg == (3:Int))=true) then (if ((decide (j.len > (0:Int)))=true) then (if (((((List.length r1):Nat):Int) == j.len)=true) then ((true=true)∧(K [(Arg.v true [(AC.d (D.i IntKind.i64 (0:Int))),(AC.d (D.r RK.u8 ([]:(List Int))))]),(aR RK.u8 r1),(aI IntKind.i64 (2:Int))] [])) else ((true=true)∧(K [(Arg.v true [(AC.d (D.i IntKind.i64 (0:Int))),(AC.d (D.r RK.u8 ([]:(List Int))))]),(aR RK.u8 ([]:(List Int))),(aI IntKind.i64 (3:Int))] []))) else ((true=true)∧(K [(Arg.v true [(AC.d (D.i IntKind.i64 (0:Int))),(AC.d (D.r RK.u8 ([]:(List Int))))]),(aR RK.u8 ([]:(List Int))),(aI IntKind.i64 (3:Int))] []))) else ((true=true)∧(K [(Arg.v true [(AC.d (D.i IntKind.i64 (0:Int))),(AC.d (D.r RK.u8 ([]:(List Int))))]),(aR RK.u8 ([]:(List Int))),(aI IntKind.i64 (3:Int))] [])))) else (if ((p.seg == (3:Int))=true) then (if ((decide (j.len > (0:Int)))=true) then (if (((((List.length r1):Nat):Int) == j.len)=true) then ((true=true)∧(K [(Arg.v true [(AC.d (D.i IntKind.i64 (0:Int))),(AC.d (D.r RK.u8 ([]:(List Int))))]),(aR RK.u8 r1),(aI IntKind.i64 (2:Int))] [])) else ((true=true)∧(K [(Arg.v true [(AC.d (D.i IntKind.i64 (0:Int))),(AC.d (D.r RK.u8 ([]:(List Int))))]),(aR RK.u8 ([]:(List Int))),(aI IntKind.i64 (3:Int))] []))) else ((true=true)∧(K [(Arg.v true [(AC.d (D.i IntKind.i64 (0:Int))),(AC.d (D.r RK.u8 ([]:(List Int))))]),(aR RK.u8 ([]:(List Int))),(aI IntKind.i64 (3:Int))] []))) else ((true=true)∧(K [(Arg.v true [(AC.d (D.i IntKind.i64 (0:Int))),(AC.d (D.r RK.u8 ([]:(List Int))))]),(aR RK.u8 ([]:(List Int))),(aI IntKind.i64 (3:Int))] [])))) else (if ((p.seg == (3:Int))=true) then (if ((decide (j.len > (0:Int)))=true) then (if (((((List.length r1):Nat):Int) == j.len)=true) then ((true=true)∧(K [(Arg.v true [(AC.d (D.i IntKind.i64 (0:Int))),(AC.d (D.r RK.u8 ([]:(List Int))))]),(aR RK.u8 r1),(aI IntKind.i64 (2:Int))] [])) else ((true=true)∧(K [(Arg.v true [(AC.d (D.i IntKind.i64 (0:Int))),(AC.d (D.r RK.u8 ([]:(List Int))))]),(aR RK.u8 ([]:(List Int))),(aI IntKind.i64 (3:Int))] []))) else ((true=true)∧(K [(Arg.v true [(AC.d (D.i IntKind.i64 (0:Int))),(AC.d (D.r RK.u8 ([]:(List Int))))]),(aR RK.u8 ([]:(List Int))),(aI IntKind.i64 (3:Int))] []))) else ((true=true)∧(K [(Arg.v true [(AC.d (D.i IntKind.i64 (0:Int))),(AC.d (D.r RK.u8 ([]:(List Int))))]),(aR RK.u8 ([]:(List Int))),(aI IntKind.i64 (3:Int))] []))))))))))))))) := by
  have hj := hp.1
  simp only [JoinP] at hj

  repeat' first
    | exact rfl
    | exact True.intro
    | with_reducible apply And.intro
    | (with_reducible intro r hr; subst hr)
    | with_reducible intro r
    | (refine iteI (fun h => ?_) (fun h => ?_))
  all_goals try simp (disch := omega) only [wr] at *
  all_goals first
    | assumption
    | (have h := hk _ rfl
       unfold segPut at h
       try dsimp only at h
       repeat' split at h
       all_goals first | exact h | (exfalso; grind [JoinP, zJoin]) | (exfalso; simp at *; omega))
    | exact hk _ (by grind [JoinP, IntKind.wrap_i64])
    | (simp only [LIM] at *; omega)
    | grind [JoinP, LIM]
theorem w_impl_SegJoin_put : Valid Try.prog 91 c_impl_SegJoin_put :=
  valid_ctr2 (V := V_impl_SegJoin_put) (tysB_ok tys_ok) ⟨(CallsL.cons w_impl_clone_byte (CallsL.nil _)), (IosL.nil _)⟩ mixed 1 3 Try.func91 rfl (by kernel_rfl)
    (fun c hc => by
      obtain rfl := Option.some.inj hc
      exact ⟨trivial, ⟨trivial, ⟨⟨trivial, ⟨⟨trivial, trivial⟩, ⟨trivial, ⟨⟨trivial, trivial⟩, ⟨trivial, ⟨⟨trivial, trivial⟩, ⟨trivial, ⟨⟨trivial, trivial⟩, trivial⟩⟩⟩⟩⟩⟩⟩⟩, ⟨trivial, trivial⟩⟩⟩⟩)
    (fun x K hp hk => ⟨_, by kernel_rfl, vF_impl_SegJoin_put x.1 x.2 K hp (fun q h => hk q h)⟩)
theorem vF_spec_l4Put (j:JoinS) (p:Part) (K:List Arg→List (List AC)→Prop) (hp:JoinP j∧0≤p.seg∧p.seg≤3∧p.data.length≤1000000000) (hk:∀ (q:PutR),(q=segPut j p)→K ([rJoin.to q.j,rBytes.to q.sdu,rInt.to q.how]) ([])):(true=true)∧((((0:Nat) + (List.length j.got))≤(137438953472:Nat))∧((true=true)∧((((List.length (([]:(List Int)) ++ j.got:(List Int))) + (List.length p.data))≤(137438953472:Nat))∧((true=true)∧(if ((p.seg == (0:Int))=true) then (if ((decide (j.len > (0:Int)))=true) then ((true=true)∧(True∧(∀ r:PutR,(r=(PutR.mk zJoin ([]:(List Int)) (3:Int)))→(true=true)∧((true=true)∧(K [(Arg.v true [(AC.d (D.i IntKind.i64 r.j.len)),(AC.d (D.r RK.u8 r.j.got))]),(aR RK.u8 r.sdu),(aI IntKind.i64 r.how)] []))))) else ((true=true)∧(K [(Arg.v true [(AC.d (D.i IntKind.i64 (0:Int))),(AC.d (D.r RK.u8 ([]:(List Int))))]),(aR RK.u8 ((([]:(List Int)) ++ j.got:(List Int)) ++ p.data:(List Int))),(aI IntKind.i64 (2:Int))] []))) else (if ((p.seg == (1:Int))=true) then (if ((decide (j.len > (0:Int)))=true) then ((true=true)∧(True∧(∀ r:PutR,(r=(PutR.mk zJoin ([]:(List Int)) (3:Int)))→(true=true)∧((true=true)∧(K [(Arg.v true [(AC.d (D.i IntKind.i64 r.j.len)),(AC.d (D.r RK.u8 r.j.got))]),(aR RK.u8 r.sdu),(aI IntKind.i64 r.how)] []))))) else ((true=true)∧(K [(Arg.v true [(AC.d (D.i IntKind.i64 p.len)),(AC.d (D.r RK.u8 ((([]:(List Int)) ++ j.got:(List Int)) ++ p.data:(List Int))))]),(aR RK.u8 ([]:(List Int))),(aI IntKind.i64 (1:Int))] []))) else (if ((p.seg == (2:Int))=true) then (if ((!(decide (j.len > (0:Int))))=true) then ((true=true)∧(True∧(∀ r:PutR,(r=(PutR.mk zJoin ([]:(List Int)) (3:Int)))→(true=true)∧((true=true)∧(K [(Arg.v true [(AC.d (D.i IntKind.i64 r.j.len)),(AC.d (D.r RK.u8 r.j.got))]),(aR RK.u8 r.sdu),(aI IntKind.i64 r.how)] []))))) else (if ((decide ((((List.length ((([]:(List Int)) ++ j.got:(List Int)) ++ p.data:(List Int))):Nat):Int) ≥ j.len))=true) then ((true=true)∧(True∧(∀ r:PutR,(r=(PutR.mk zJoin ([]:(List Int)) (3:Int)))→(true=true)∧((true=true)∧(K [(Arg.v true [(AC.d (D.i IntKind.i64 r.j.len)),(AC.d (D.r RK.u8 r.j.got))]),(aR RK.u8 r.sdu),(aI IntKind.i64 r.how)] []))))) else ((true=true)∧(K [(Arg.v true [(AC.d (D.i IntKind.i64 j.len)),(AC.d (D.r RK.u8 ((([]:(List Int)) ++ j.got:(List Int)) ++ p.data:(List Int))))]),(aR RK.u8 ([]:(List Int))),(aI IntKind.i64 (1:Int))] [])))) else (if ((!(decide (j.len > (0:Int))))=true) then ((true=true)∧(True∧(∀ r:PutR,(r=(PutR.mk zJoin ([]:(List Int)) (3:Int)))→(true=true)∧((true=true)∧(K [(Arg.v true [(AC.d (D.i IntKind.i64 r.j.len)),(AC.d (D.r RK.u8 r.j.got))]),(aR RK.u8 r.sdu),(aI IntKind.i64 r.how)] []))))) else (if (((((List.length ((([]:(List Int)) ++ j.got:(List Int)) ++ p.data:(List Int))):Nat):Int) != j.len)=true) then ((true=true)∧(True∧(∀ r:PutR,(r=(PutR.mk zJoin ([]:(List Int)) (3:Int)))→(true=true)∧((true=true)∧(K [(Arg.v true [(AC.d (D.i IntKind.i64 r.j.len)),(AC.d (D.r RK.u8 r.j.got))]),(aR RK.u8 r.sdu),(aI IntKind.i64 r.how)] []))))) else ((true=true)∧(K [(Arg.v true [(AC.d (D.i IntKind.i64 (0:Int))),(AC.d (D.r RK.u8 ([]:(List Int))))]),(aR RK.u8 ((([]:(List Int)) ++ j.got:(List Int)) ++ p.data:(List Int))),(aI IntKind.i64 (2:Int))] []))))))))))) := by
  have hj := hp.1
  simp only [JoinP] at hj

  repeat' first
    | exact rfl
    | exact True.intro
    | with_reducible apply And.intro
    | (with_reducible intro r hr; subst hr)
    | with_reducible intro r
    | (refine iteI (fun h => ?_) (fun h => ?_))
  all_goals try simp (disch := omega) only [wr] at *
  all_goals first
    | assumption
    | (have h := hk _ rfl
       unfold segPut at h
       try dsimp only at h
       repeat' split at h
       all_goals first | exact h | (exfalso; grind [JoinP, zJoin]) | (exfalso; simp at *; omega))
    | exact hk _ (by grind [JoinP, IntKind.wrap_i64])
    | (simp only [LIM] at *; omega)
    | grind [JoinP, LIM]
theorem w_spec_l4Put : Valid Try.prog 69 c_spec_l4Put :=
  valid_ctr2 (V := V_spec_l4Put) (tysB_ok tys_ok) ⟨(CallsL.cons w_spec_l4Bad (CallsL.nil _)), (IosL.nil _)⟩ mixed 1 3 Try.func69 rfl (by kernel_rfl)
    (fun c hc => by
      obtain rfl := Option.some.inj hc
      exact ⟨trivial, ⟨trivial, ⟨trivial, ⟨⟨trivial, ⟨trivial, ⟨⟨⟨trivial, ⟨⟨trivial, trivial⟩, trivial⟩⟩, ⟨trivial, trivial⟩⟩, ⟨trivial, ⟨⟨⟨trivial, ⟨⟨trivial, trivial⟩, trivial⟩⟩, ⟨trivial, trivial⟩⟩, ⟨trivial, ⟨⟨⟨trivial, ⟨⟨trivial, trivial⟩, trivial⟩⟩, ⟨trivial, trivial⟩⟩, trivial⟩⟩⟩⟩⟩⟩⟩, ⟨⟨trivial, ⟨⟨trivial, trivial⟩, trivial⟩⟩, ⟨trivial, trivial⟩⟩⟩⟩⟩⟩)
    (fun x K hp hk => ⟨_, by kernel_rfl, vF_spec_l4Put x.1 x.2 K hp (fun q h => hk q h)⟩)
theorem vF_spec_l7Sdus (l:List (List Int)) (K:List Arg→List (List AC)→Prop) (hp:l.length≤1000∧∀ y ∈ l,y.length≤LIM) (hk:∀ (o:List (List Int)),(o=l)→K ([(rR .byr).to o]) ([])):∃ s:(Prod (List (List Int)) (Prod (List (List Int)) Int)),((KS.mk true [(Prod.mk (0:Nat) (T.v false [(Cm.d (D.r RK.byr l))])),(Prod.mk (3:Nat) (T.v false [(Cm.ref (1:Nat) (0:Nat))])),(Prod.mk (4:Nat) (num IntKind.i64 (0:Int)))] [(Row.mk (0:Nat) Option.none),(Row.mk (0:Nat) (Option.some (RC.mk (22:Nat) RK.byr ([]:(List (List Int))) (RM.mk (Option.none) false (0:Nat) false))))] [])=(KS.mk true [(Prod.mk (0:Nat) (T.v false [(Cm.d (D.r RK.byr s.fst))])),(Prod.mk (3:Nat) (T.v false [(Cm.ref (1:Nat) (0:Nat))])),(Prod.mk (4:Nat) (num IntKind.i64 s.snd.snd))] [(Row.mk (0:Nat) Option.none),(Row.mk (0:Nat) (Option.some (RC.mk (22:Nat) RK.byr s.snd.fst (RM.mk (Option.none) false (0:Nat) false))))] []))∧((((List.length s.fst)≤(1000:Nat))∧((∀ y:(List Int),(List.Mem y s.fst)→((List.length y)≤(137438953472:Nat)))∧((s.snd.fst=([]:(List (List Int))))∧(s.snd.snd=(0:Int)))))∧((∀ r:(List (List Int)),(r=s.fst)→(true=true)∧(K [(aR RK.byr r)] []))∧(∀ r:Empty,False→False))) := by
  refine ⟨(l, [], 0), rfl, ⟨hp.1, hp.2, rfl, rfl⟩, fun o ho => ⟨by trivial, ?_⟩, fun r h => h⟩
  exact hk o ho
theorem vL_spec_l7Sdus_0 (l0:List (List Int)) (o0:List (List Int)) (i0:Int) (l:List (List Int)) (o:List (List Int)) (i:Int) (n:Nat) (hp:(fun (l:List (List Int)) (o:List (List Int)) (i:Int) => (l.length≤1000∧(∀ y ∈ l,y.length≤LIM)∧o=[]∧i=0)) l0 o0 i0) (hi:l=l0∧l.length≤1000∧(∀ y ∈ l,y.length≤LIM)∧0≤i∧i + n=l.length∧o=l.take i.toNat):if ((decide (i < (((List.length l):Nat):Int)))=true) then ((((0:Int)≤i)∧(i < (((List.length l):Nat):Int)))∧((((0:Nat) + (List.length (at_byr l (Int.toNat i))))≤(137438953472:Nat))∧((((List.length o) + (List.length ((([]:(List Int)) ++ (at_byr l (Int.toNat i)):(List Int)) :: ([]:(List (List Int))):(List (List Int)))))≤(137438953472:Nat))∧(∃ s:(Prod (List (List Int)) (Prod (List (List Int)) Int)),((KS.mk true [(Prod.mk (0:Nat) (T.v false [(Cm.d (D.r RK.byr l))])),(Prod.mk (3:Nat) (T.v false [(Cm.ref (1:Nat) (0:Nat))])),(Prod.mk (4:Nat) (num IntKind.i64 (IntKind.wrap IntKind.i64 (i + (1:Int)))))] [(Row.mk (0:Nat) Option.none),(Row.mk (0:Nat) (Option.some (RC.mk (22:Nat) RK.byr (o ++ ((([]:(List Int)) ++ (at_byr l (Int.toNat i)):(List Int)) :: ([]:(List (List Int))):(List (List Int))):(List (List Int))) (RM.mk (Option.none) false (0:Nat) false))))] [])=(KS.mk true [(Prod.mk (0:Nat) (T.v false [(Cm.d (D.r RK.byr s.fst))])),(Prod.mk (3:Nat) (T.v false [(Cm.ref (1:Nat) (0:Nat))])),(Prod.mk (4:Nat) (num IntKind.i64 s.snd.snd))] [(Row.mk (0:Nat) Option.none),(Row.mk (0:Nat) (Option.some (RC.mk (22:Nat) RK.byr s.snd.fst (RM.mk (Option.none) false (0:Nat) false))))] []))∧(∃ m:Nat,(m < n)∧((s.fst=l0)∧(((List.length s.fst)≤(1000:Nat))∧((∀ y:(List Int),(List.Mem y s.fst)→((List.length y)≤(137438953472:Nat)))∧(((0:Int)≤s.snd.snd)∧(((s.snd.snd + ((m:Nat):Int))=(((List.length s.fst):Nat):Int))∧(s.snd.fst=(List.take (Int.toNat s.snd.snd) s.fst)))))))))))) else (∃ r:(List (List Int)),((KS.mk true [(Prod.mk (3:Nat) (T.v false [(Cm.ref (1:Nat) (0:Nat))]))] [(Row.mk (0:Nat) Option.none),(Row.mk (0:Nat) (Option.some (RC.mk (22:Nat) RK.byr o (RM.mk (Option.none) false (0:Nat) false))))] [])=(KS.mk true [(Prod.mk (3:Nat) (T.v false [(Cm.ref (1:Nat) (0:Nat))]))] [(Row.mk (0:Nat) Option.none),(Row.mk (0:Nat) (Option.some (RC.mk (22:Nat) RK.byr r (RM.mk (Option.none) false (0:Nat) false))))] []))∧(r=l0)) := by
  try dsimp only at hp
  obtain ⟨rfl, h1, h2, h3, h4, rfl⟩ := hi
  obtain ⟨i, rfl⟩ : ∃ m : Nat, i = m := ⟨i.toNat, by omega⟩
  rw [wr (x := (i : Int) + 1) (by omega) (by omega)]
  simp only [Int.toNat_natCast]
  refine iteI (fun h => ?_) (fun h => ?_)
  · have hi : i < l.length := by simp at h; omega
    have ea : l.take (i + 1) = l.take i ++ [at_byr l i] := take_at .byr l i hi
    have hm : at_byr l i ∈ l := at_mem .byr l i hi
    have hy := h2 _ hm
    refine ⟨⟨by omega, by omega⟩, ?_⟩
    refine ⟨by simp only [LIM] at hy; show 0 + (at_byr l i).length ≤ _; omega, ?_⟩
    refine ⟨by rw [List.length_take]; simp; omega, ?_⟩
    refine ⟨(l, l.take (i + 1), (i : Int) + 1), ?_, n - 1, by omega, rfl, h1, h2, by dsimp only; omega, by dsimp only; omega, ?_⟩
    · dsimp only; rw [ea]; rfl
    · dsimp only; rw [show ((i : Int) + 1).toNat = i + 1 by omega]
  · have hi : i = l.length := by simp at h; omega
    subst hi
    exact ⟨l, by simp, rfl⟩
theorem vS_spec_l7Sdus_0 (l0 : List (List Int)) (o0 : List (List Int)) (i0 : Int) (hp : (fun (l : List (List Int)) (o : List (List Int)) (i : Int) => (l.length ≤ 1000 ∧ (∀ y ∈ l, y.length ≤ LIM) ∧ o = [] ∧ i = 0)) l0 o0 i0) : ∃ n : Nat, (fun (l : List (List Int)) (o : List (List Int)) (i : Int) => (l = l0 ∧ l.length ≤ 1000 ∧ (∀ y ∈ l, y.length ≤ LIM) ∧ 0 ≤ i ∧ i + n = l.length ∧ o = l.take i.toNat)) l0 o0 i0 := by
  try dsimp only at hp
  try dsimp only
  obtain ⟨h1, h2, rfl, rfl⟩ := hp
  exact ⟨l0.length, rfl, h1, h2, by omega, by omega, by simp⟩
theorem w_spec_l7Sdus : Valid Try.prog 70 c_spec_l7Sdus :=
  valid_ctr2 (V := V_spec_l7Sdus) (tysB_ok tys_ok) ⟨(CallsL.nil _), (IosL.nil _)⟩ mixed 2 0 Try.func70 rfl (by kernel_rfl)
    (fun c hc => by
      obtain rfl := Option.some.inj hc
      exact ⟨trivial, ⟨trivial, ⟨⟨trivial, ⟨LoopD.ok2 (V := V_spec_l7Sdus) l_spec_l7Sdus_0 (LoopsM.cons 0 l_spec_l7Sdus_0 LoopsM.nil) 0 _ i_spec_l7Sdus_0 (fun x hx => vS_spec_l7Sdus_0 x.1 x.2.1 x.2.2 hx) (fun x hx n s hi => ⟨_, by kernel_rfl, vL_spec_l7Sdus_0 x.1 x.2.1 x.2.2 s.1 s.2.1 s.2.2 n hx hi⟩), ⟨⟨trivial, ⟨trivial, trivial⟩⟩, ⟨trivial, trivial⟩⟩⟩⟩, ⟨trivial, trivial⟩⟩⟩⟩)
    (fun x K hp hk => ⟨_, by kernel_rfl, vF_spec_l7Sdus x K hp (fun o h => hk o h)⟩)
end Go.Proofs.YtdahhphhblbfdaaE
