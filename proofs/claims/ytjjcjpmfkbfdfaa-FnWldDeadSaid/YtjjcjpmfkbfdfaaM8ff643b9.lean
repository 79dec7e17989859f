/- A part of the proof of laws of the program: what calls of the program answer. Conditions: none. -/
import Derived.Test.YtjjcjpmfkbfdfaaM023d6654
import Derived.Maps.AppendAt
set_option linter.unusedVariables false
set_option linter.unusedSimpArgs false
set_option linter.unusedSectionVars false

/- Stores; rows of one's own. Conditions: none. -/
set_option linter.unusedVariables false
namespace Go.Proofs.YtjjcjpmfkbfdfaaE
open Go Go.RowKit
section
variable {P : Program} {V : Env} (hV : TysOk P V) {w0 : World} {prot : Pro} {S : St} {G : Gh} {a : Act} {w : World}
def After (w0 : World) (prot : Pro) (S : St) (d : Option Nat) (K : Outc → Prop) (a' : Act) (w' : World) : Prop := ∃ out G', K out ∧ Inv w0 prot (S.app d out) G' a' w'
theorem upon_val {o : Oper} {Q : Exit → Act → World → Prop} {next : Act → World → Prop} {v : Value} {w' : World} (h : (execOp a.eval o).run P w = .ok (.value v) w') (hn : next (a.put o.dst v) w') :
    o.wp P a w next Q := by
  unfold Oper.wp; rw [h]; exact hn
theorem upon_skip {o : Oper} {Q : Exit → Act → World → Prop} {next : Act → World → Prop} {w' : World} (h : (execOp a.eval o).run P w = .ok .skip w') (hn : next (a.put o.dst undef) w') :
    o.wp P a w next Q := by
  unfold Oper.wp; rw [h]; exact hn
include hV
theorem run_storeAt {t : Nat} {I : TyI} (hI : look t V.tys = some I) (g o : Nat) (v : Value) (xs : List Value) (hc : v.cells = xs.toArray) (hl : xs.length = I.zc.length) (cur : Array Value) (e : TypeId) (hg : w.heap[g]? = some (.cells cur e (0, 0)))
    (ho : o + xs.length ≤ cur.size) (h1 : ∀ u ∈ xs, u.oneCell' = true) : (Instr.storeAt t (.pointer (some ⟨g, o, none⟩)) v).run P w = .ok () (w.setRow g (putC cur.toList o xs).toArray) := by
  have hst := run_storeCells_at P g o e xs 0 cur w hg (by simpa using ho) h1
  simp only [Nat.add_zero] at hst
  simp only [Instr.storeAt, Instr.sureAddr, storeVar, Sem.run_bind, Sem.run_pure, Result.andThen_ok, run_size hV hI, hc]
  simp [hl, putC] at hst ⊢
  exact hst
theorem store_box (h : Inv w0 prot S G a w) {t : Nat} {I : TyI} (hI : look t V.tys = some I) {b ep off : Nat} {cs xs : List Cm} {p v : Value} {g : Bool} (hp : TR w G S.rows S.boxes p (.pb b ep off)) (hv : VR w G S.rows v g xs)
    (hb : S.box b ep = some cs) (h1 : xs.length = I.zc.length) (h2 : off + xs.length ≤ cs.length) (d : Option Nat) :
    ∃ w' G', (Instr.storeAt t p v).run P w = .ok () w' ∧ Inv w0 prot (S.app d ⟨.und, [], [(b, ⟨ep, some (putC cs off xs)⟩)]⟩) G' (a.put d undef) w' := by
  obtain ⟨B, hB, he, hc⟩ := box_spec hb
  obtain rfl := (hp B hB).2 he (by simp [hc])
  obtain ⟨hw, arr, ty, hh, hf⟩ := h.box b B hB cs hc
  obtain ⟨ys, rfl, hys, hcl, _⟩ := VR.open hv
  have hyl := hys.len
  have hal := hf.len
  have hbl : b < S.boxes.length := (List.getElem?_eq_some_iff.1 hB).1
  refine ⟨_, G, run_storeAt hV hI (G.bk b) off _ ys hcl (by omega) arr.toArray ty hh (by simp; omega) (cr_all_one hys), ?_⟩
  have hold : ∀ b', b' ≠ G.bk b → (w.setRow (G.bk b) (putC arr off ys).toArray).heap[b']? = w.heap[b']? := fun b' hb' => heap_setRow w _ _ hb'
  have hkeep : Keeps w G S.rows S.boxes (w.setRow (G.bk b) (putC arr off ys).toArray) G S.rows (S.boxes.set b ⟨ep, some (putC cs off xs)⟩) := by
    refine ⟨fun b' hb' => ⟨hb', hold b' fun e => by rw [e, hw] at hb'; simp at hb'⟩, fun id r' hr => ⟨r', hr, RowK.refl r' rfl fun _ => rfl⟩, fun b' B' hB' => ?_, fun _ _ _ h => h⟩
    rcases set_get hB' with ⟨rfl, rfl, _⟩ | ⟨hne, hB'⟩
    · exact ⟨B, hB, by simp [he], fun _ _ => ⟨by simp [hc], rfl⟩⟩
    · exact ⟨B', hB', Nat.le_refl _, fun _ hx => ⟨hx, rfl⟩⟩
  rw [app_box]
  refine h.step hkeep ?_ ?_ (by simpa using h.lt) ?_ h.pr (h.shs.same rfl (fun _ h => h) fun b' hb' => hold b' fun e => by rw [e, hw] at hb'; simp at hb') (v := undef) (t := .und) rfl d
  · intro b' B' hB' cs' hcs'
    rcases set_get hB' with ⟨rfl, rfl, _⟩ | ⟨hne, hB'⟩
    · cases hcs'
      exact ⟨hw, putC arr off ys, ty, setRow_heap w _ _ _ _ _ hh, (hf.put hys off).crs hkeep⟩
    · have hb' := h.box b' B' hB' cs' hcs'
      refine hb'.keep hkeep rfl rfl (hold _ fun e => ?_)
      have h3 := hb'.1
      rw [e, hw] at h3
      simp at h3
      exact hne h3
  · intro id r hr
    exact (h.row id r hr).keep hkeep rfl (fun b' hb' => hb') (fun b' hb' => hold b' fun e => by rw [e, hw] at hb'; simp at hb') fun _ => rfl
  · refine h.kp.trans (p' := prot.p) ⟨rfl, rfl, rfl, by simp, fun b' hb' => hold b' fun e => ?_⟩ fun _ hx => hx
    rcases h.pr b' hb' with ⟨e1, _⟩ | ⟨e1, _⟩ <;> (rw [e, hw] at e1; simp at e1)
theorem put_owns {g : Nat} {cap : Nat} {cur : Array Value} {e : TypeId} {size n : Nat} {zs ys : List Value} {o : Nat} (hg : w.heap[g]? = some (.cells cur e (0, 0))) (hzl : zs.length = n * size) (hnc : n ≤ cap) (hcm : cap ≤ maxLen) (hcs : cap * size ≤ cur.size) (ht : cur.toList.take (n * size) = zs) (hpos : 0 < cap) (ho : o + ys.length ≤ n * size) :
    OwnsC (w.setRow g (putC cur.toList o ys).toArray) 0 e size (.slice (some ⟨g, 0, none⟩) n cap) n (putC zs o ys) := by
  have _ := hV
  have hcap := Nat.mul_le_mul_right size hnc
  have hcur : cur.toList.length = cur.size := by simp
  refine ⟨?_, .inr ⟨g, cap, (putC cur.toList o ys).toArray, rfl, Nat.zero_le _, setRow_heap w _ _ _ _ _ hg, hnc, hcm, ?_, ?_, hpos⟩⟩
  · rw [putC_len _ _ _ (by omega)]; exact hzl
  · rw [List.size_toArray, putC_len _ _ _ (by omega)]; omega
  · rw [← ht]
    simp only [putC]
    have e1 : (cur.toList.take o).length = o := by simp; omega
    generalize n * size = T at *
    rw [List.append_assoc, List.take_append, e1, List.take_take, Nat.min_eq_right (by omega : o ≤ T), List.take_take, List.take_append, List.drop_take, List.append_assoc]
    congr 1
    · rw [Nat.min_eq_left (by omega)]
    · rw [List.take_of_length_le (by omega : ys.length ≤ T - o)]
      congr 2; omega
omit hV in
theorem cell_shape {k : RK} {x e : k.El} {off : Nat} {ds : List D} (hm : k.mk (putC (k.cells x) off ds) = some e) (ho : off + ds.length ≤ k.size) (j : Nat) (hj : j < ds.length) (y z : D) (h1 : ds[j]? = some y) (h2 : (k.cells x)[off + j]? = some z) : isRow z = isRow y := by
  have hc := mk_cells _ _ _ hm
  have hs := isRow_shape k x e
  rw [hc] at hs
  have := congrArg (fun l => l[off + j]?) hs
  simp only [List.getElem?_map, h2, putC_get _ _ _ (by rw [cells_len]; omega : off ≤ (k.cells x).length)] at this
  rw [if_neg (by omega), if_pos (by omega), show off + j - off = j by omega, h1] at this
  simpa using this
theorem store_row (h : Inv w0 prot S G a w) {t : Nat} {I : TyI} (hI : look t V.tys = some I) {id ep i off : Nat} {xs : List Cm} {ds : List D} {p v : Value} {g : Bool} {c : RC} {e : c.k.El} (hp : TR w G S.rows S.boxes p (.pr id ep i off)) (hv : VR w G S.rows v g xs)
    (hl : S.live id ep = some c) (hcp : c.m.p = false) (hd : datas xs = some ds) (h1 : ds.length = I.zc.length) (h2 : off + ds.length ≤ c.k.size) (hm : c.k.mk (putC (c.k.cells (c.k.at c.l i)) off ds) = some e) (hq : ∀ q, c.m.d = some q → ds.any isRow = true → q ≤ i) (d : Option Nat) :
    ∃ w' G', (Instr.storeAt t p v).run P w = .ok () w' ∧ Inv w0 prot (S.app d ⟨.und, [(id, ⟨ep, some ⟨c.e, c.k, c.l.set i e, c.m⟩⟩)], []⟩) G' (a.put d undef) w' := by
  obtain ⟨r, hr, he, hrc⟩ := live_spec hl
  obtain ⟨hi, g', n, cap, hh, rfl⟩ := (hp r hr).2 he c hrc
  obtain ⟨zs, B, hown, hBn, hBt, hin⟩ := h.row id r hr c hrc
  obtain ⟨hout, Bi, hdc, hB⟩ := hown
  unfold outC at hout
  rw [hcp] at hout
  obtain ⟨hzl, ho⟩ := hout
  obtain ⟨ys, rfl, hys, hcl, _⟩ := VR.open hv
  have hyd := datas_crs hys hd
  have hyl := hyd.len
  rcases ho with ⟨_, h3⟩ | ⟨g2, cap2, cur, h3, hb, hg, hnc, hcm, hcs, ht, hpos⟩
  · omega
  · rw [h3] at hh
    cases hh
    have hidx := idx_le (s := c.k.size) hi
    have hcap := Nat.mul_le_mul_right c.k.size hnc
    refine ⟨_, G, run_storeAt hV hI g' (i * c.k.size + off) _ ys hcl (by omega) cur c.e hg (by omega) (slice_all_one hyd), ?_⟩
    have hob : obB c (G.hd id) = [g'] := by unfold obB; rw [hcp, h3, ownB_pos hpos]; rfl
    rw [hob] at hB
    have hgt : G.who g' = .rw id := hBt g' (by rw [hB]; simp)
    have hgi : g' ∉ Bi := fun hm => by rw [hB] at hBn; exact (List.nodup_cons.1 hBn).1 hm
    have hold : ∀ b', b' ≠ g' → (w.setRow g' (putC cur.toList (i * c.k.size + off) ys).toArray).heap[b']? = w.heap[b']? := fun b' hb' => heap_setRow w _ _ hb'
    have hF : (∀ x, G.F x → G.F x) ∧ ∀ b' : Nat, G.F (.b b') → (w.setRow g' (putC cur.toList (i * c.k.size + off) ys).toArray).heap[b']? = w.heap[b']? := ⟨fun _ h => h, fun b' hb' => hold b' fun e => by
      have hb2 : G.who b' = .fz := hb'
      rw [e, hgt] at hb2; simp at hb2⟩
    have hcl2 := cells_len c.k (c.k.at c.l i)
    have hfl := flat_len c.k c.l
    have hfs : flat c.k (c.l.set i e) = putC (flat c.k c.l) (i * c.k.size + off) ds := by
      rw [flat_set c.k c.l i hi e, mk_cells _ _ _ hm, putC_put _ _ _ _ _ (by rw [cells_len]; exact flat_at c.k c.l i hi) (by omega) (by omega)]
    have hcell : ∀ j, j < ds.length → (flat c.k c.l)[i * c.k.size + off + j]? = (c.k.cells (c.k.at c.l i))[off + j]? := fun j hj => by
      rw [← flat_at c.k c.l i hi, List.getElem?_take, if_pos (by omega), List.getElem?_drop]; congr 1; omega
    have hnr : ∀ j, i * c.k.size + off + j < c.dn → j < ys.length → (∀ x, ds[j]? = some x → isRow x = false) ∧ ∀ x, (flat c.k c.l)[i * c.k.size + off + j]? = some x → isRow x = false := fun j hj hj2 => by
      have hany : ds.any isRow = false := by
        cases hx : ds.any isRow with
        | false => rfl
        | true =>
          exfalso
          unfold RC.dn at hj
          cases hd0 : c.m.d with
          | none => rw [hd0] at hj; simp at hj
          | some q =>
            rw [hd0] at hj
            simp only [Option.getD_some] at hj
            have := Nat.mul_le_mul_right c.k.size (hq q hd0 hx)
            omega
      rw [List.any_eq_false] at hany
      have hy : ∀ x, ds[j]? = some x → isRow x = false := fun x hx => by simpa using hany x (List.mem_of_getElem? hx)
      refine ⟨hy, fun x hx => ?_⟩
      rw [hcell j (by omega)] at hx
      obtain ⟨y, hyj⟩ : ∃ y, ds[j]? = some y := ⟨ds[j]'(by omega), List.getElem?_eq_getElem _⟩
      rw [cell_shape hm h2 j (by omega) y x hyj hx]
      exact hy y hyj
    have hcd : RC.dn ⟨c.e, c.k, c.l.set i e, c.m⟩ = c.dn := rfl
    have hnew : OwnX (w.setRow g' (putC cur.toList (i * c.k.size + off) ys).toArray) G.F (G.hd id) ⟨c.e, c.k, c.l.set i e, c.m⟩ (putC zs (i * c.k.size + off) ys) B := by
      refine ⟨?_, Bi, ?_, ?_⟩
      · unfold outC
        dsimp only
        rw [hcp, h3]
        simp only [List.length_set]
        exact put_owns hV hg hzl hnc hcm hcs ht hpos (by omega)
      · rw [hcd]
        dsimp only
        rw [hfs]
        exact (hdc.put (i * c.k.size + off) hyd (by omega) hnr).mono hF fun b hb => hold b fun e => hgi (by rw [← e]; exact hb)
      · have : obB ⟨c.e, c.k, c.l.set i e, c.m⟩ (G.hd id) = obB c (G.hd id) := rfl
        rw [this, hob]; exact hB
    have hinn : InnOk G id ⟨c.e, c.k, c.l.set i e, c.m⟩ (putC zs (i * c.k.size + off) ys) := fun j hj k' l' hkl => by
      rw [hcd] at hj
      dsimp only at hkl
      rw [hfs, putC_get _ _ _ (by omega)] at hkl
      rw [putC_get _ _ _ (by omega)]
      split at hkl
      · rename_i h5; rw [if_pos h5]; exact hin j hj k' l' hkl
      · rename_i h5
        rw [if_neg h5]
        split at hkl
        · rename_i h6
          have := (hnr (j - (i * c.k.size + off)) (by omega) (by omega)).1 _ hkl
          simp [isRow] at this
        · rename_i h6
          rw [if_neg (by omega)]
          exact hin j hj k' l' hkl
    have := h.own hr ⟨ep, some ⟨c.e, c.k, c.l.set i e, c.m⟩⟩ (w' := w.setRow g' (putC cur.toList (i * c.k.size + off) ys).toArray) (G' := G)
      ⟨by simp [he], fun _ c' hc' => by cases hc'; exact ⟨rfl, c, hrc, rfl, by simp, Nat.le_refl _, fun _ => ⟨Nat.le_refl _, fun _ _ => rfl⟩⟩, fun c' hc' hh => by cases hc'; exact ⟨c, hrc, hh, rfl⟩⟩
      (fun b' _ hne => ⟨rfl, hold b' fun e => hne (by rw [e, hgt])⟩) (by simpa using h.lt) rfl rfl (fun _ _ => ⟨rfl, fun _ => rfl⟩) ⟨rfl, rfl, rfl, by simp⟩
      (by intro c' hc'; cases hc'; exact ⟨_, B, hnew, hBn, hBt, hinn⟩)
    exact this.2 _ .und rfl d
omit hV in
theorem give_ok (h : Inv w0 prot S G a w) : ∀ {cs : List Cm} {xs : List Value} {ds : List D} {gs : List Nat}, F2 (CR w G S.rows) xs cs → giveCells S cs = some (ds, gs) →
    ∃ T, DCs w G.F ds.length xs ds T ∧ (gs.Nodup → T.Nodup) ∧ (∀ b ∈ T, ∃ g ∈ gs, G.who b = .rw g) := by
  intro cs
  induction cs with
  | nil =>
    intro xs ds gs hf hg
    cases hf
    simp only [giveCells, Option.some.injEq, Prod.mk.injEq] at hg
    obtain ⟨rfl, rfl⟩ := hg
    exact ⟨[], DCs.nil, fun _ => List.nodup_nil, fun b hb => by cases hb⟩
  | cons c cs ih =>
    intro xs ds gs hf hg
    cases hf with
    | @cons v _ xs _ hv hf =>
      cases c with
      | dead => simp [giveCells] at hg
      | d x =>
        simp only [giveCells] at hg
        split at hg
        · rename_i ds' gs' hx hg'
          cases hg
          obtain ⟨T, h1, h2, h3⟩ := ih hf hg'
          refine ⟨T, ⟨[], T, ?_, h1, rfl⟩, h2, h3⟩
          exact DC.dat (fun l e => by rw [e] at hx; simp [isRow] at hx) hv
        · simp at hg
      | ref id ep =>
        simp only [giveCells] at hg
        split at hg
        · rename_i e l hh vv ds' gs' hl hg'
          split at hg
          · rename_i he
            subst he
            cases hg
            obtain ⟨T, h1, h2, h3⟩ := ih hf hg'
            obtain ⟨r, hr, hep, hrc⟩ := live_spec hl
            have hvh := (hv.2.2 r hr).2 hep (by simp [hrc])
            obtain ⟨zs, B, ho, hBn, hBt, _⟩ := h.row id r hr _ hrc
            rw [← hvh] at ho
            obtain ⟨hf0, hB⟩ := ho.plain rfl
            have hB' : B = (ownB v).toList := hB
            refine ⟨B ++ T, ⟨B, T, ?_, h1, rfl⟩, fun hn => ?_, fun b hb => ?_⟩
            · rw [hB']
              exact DC.own ho.out hf0
            · obtain ⟨n1, n2⟩ := List.nodup_cons.1 hn
              refine List.nodup_append.2 ⟨hBn, h2 n2, fun b hb b' hb' e => ?_⟩
              subst e
              obtain ⟨g, hg, hw⟩ := h3 b hb'
              rw [hBt b hb] at hw
              cases hw
              exact n1 hg
            · rcases List.mem_append.1 hb with hb | hb
              · exact ⟨id, by simp, hBt b hb⟩
              · obtain ⟨g, hg, hw⟩ := h3 b hb
                exact ⟨g, by simp [hg], hw⟩
          · simp at hg
        · simp at hg
omit hV in
theorem app_deads (S : St) (d : Option Nat) (t : T) (l : List (Nat × Row)) (id : Nat) (r : Row) : S.app d ⟨t, l ++ [(id, r)], []⟩ = ⟨setD d t S.slots, (l.foldl (fun r p => r.set p.1 p.2) S.rows).set id r, S.boxes⟩ := by
  simp [St.app, List.foldl_append]
omit hV in
theorem deads_get {S : St} {gs : List Nat} {id : Nat} (hg : id ∉ gs) : ((deads S gs).foldl (fun r p => r.set p.1 p.2) S.rows)[id]? = S.rows[id]? := by
  cases hr : S.rows[id]? with
  | none =>
    rw [List.getElem?_eq_none_iff] at hr ⊢
    rw [fold_len]; exact hr
  | some r =>
    cases hr' : ((deads S gs).foldl (fun r p => r.set p.1 p.2) S.rows)[id]? with
    | none =>
      rw [List.getElem?_eq_none_iff, fold_len] at hr'
      have := (List.getElem?_eq_some_iff.1 hr).1
      omega
    | some r' =>
      rcases fold_get _ _ _ _ hr' with ⟨p, hp, h1, _⟩ | ⟨_, h2⟩
      · obtain ⟨_, h3, _⟩ := deads_spec hp
        rw [h1] at h3; exact absurd h3 hg
      · rw [hr] at h2; exact h2.symm ▸ rfl
theorem store_deep (h : Inv w0 prot S G a w) {t : Nat} {I : TyI} (hI : look t V.tys = some I) {id ep i off q : Nat} {xs : List Cm} {ds : List D} {gs : List Nat} {p v : Value} {g : Bool} {c : RC} {e : c.k.El} (hp : TR w G S.rows S.boxes p (.pr id ep i off)) (hv : VR w G S.rows v g xs)
    (hl : S.live id ep = some c) (hcp : c.m.p = false) (hcd : c.m.d = some q) (hd : giveCells S xs = some (ds, gs)) (h1 : ds.length = I.zc.length) (h2 : off + ds.length ≤ c.k.size) (hgs : (id :: gs).Nodup) (hb1 : ((c.k.cells (c.k.at c.l i)).take off).any isRow = false) (hb2 : ((c.k.cells (c.k.at c.l i)).drop (off + ds.length)).any isRow = false)
    (hm : c.k.mk (putC (c.k.cells (c.k.at c.l i)) off ds) = some e) (hq : i = q) (d : Option Nat) :
    ∃ w' G', (Instr.storeAt t p v).run P w = .ok () w' ∧ Inv w0 prot (S.app d ⟨.und, deads S gs ++ [(id, ⟨ep, some ⟨c.e, c.k, c.l.set i e, ⟨some (q + 1), c.m.h, c.m.v, false⟩⟩⟩)], []⟩) G' (a.put d undef) w' := by
  obtain ⟨r, hr, he, hrc⟩ := live_spec hl
  obtain ⟨hi, g', n, cap, hh, rfl⟩ := (hp r hr).2 he c hrc
  obtain ⟨hidn, hgn⟩ := List.nodup_cons.1 hgs
  obtain ⟨ys, rfl, hys, hcl, _⟩ := VR.open hv
  obtain ⟨T, hdT, hTn, hTt⟩ := give_ok h hys hd
  have hyl := (hdT.len).1
  -- what is given is this row's
  obtain ⟨hk1, hi1⟩ := h.kill gs T id hTt
  have hr1 : ((deads S gs).foldl (fun r p => r.set p.1 p.2) S.rows)[id]? = some r := by rw [deads_get hidn]; exact hr
  obtain ⟨zs, B, hown, hBn, hBt, hin⟩ := h.row id r hr c hrc
  have hBT : ∀ b ∈ B, b ∉ T := fun b hb hm => by
    obtain ⟨g, hg, hw⟩ := hTt b hm
    rw [hBt b hb] at hw
    cases hw
    exact hidn hg
  obtain ⟨hout, Bi, hdc, hB⟩ := hown
  unfold outC at hout
  rw [hcp] at hout
  obtain ⟨hzl, ho⟩ := hout
  rcases ho with ⟨_, h3⟩ | ⟨g2, cap2, cur, h3, hb, hg, hnc, hcm, hcs, ht, hpos⟩
  · omega
  · rw [h3] at hh
    cases hh
    have hidx := idx_le (s := c.k.size) hi
    have hcap := Nat.mul_le_mul_right c.k.size hnc
    have hob : obB c (G.hd id) = [g'] := by unfold obB; rw [hcp, h3, ownB_pos hpos]; rfl
    rw [hob] at hB
    have hgt : G.who g' = .rw id := hBt g' (by rw [hB]; simp)
    have hgi : g' ∉ Bi := fun hm => by rw [hB] at hBn; exact (List.nodup_cons.1 hBn).1 hm
    have hgT : g' ∉ T := hBT g' (by rw [hB]; simp)
    let zs' := putC zs (i * c.k.size + off) ys
    let G' : Gh := (G.retag T id).innFrom id c.dn zs'
    refine ⟨_, G', run_storeAt hV hI g' (i * c.k.size + off) _ ys hcl (by omega) cur c.e hg (by omega) (cr_all_one hys), ?_⟩
    have hold : ∀ b', b' ≠ g' → (w.setRow g' (putC cur.toList (i * c.k.size + off) ys).toArray).heap[b']? = w.heap[b']? := fun b' hb' => heap_setRow w _ _ hb'
    have whoF : ∀ x, G.F x → G'.F x := Gh.F_le (fun b' hb2 => by
      show (G.retag T id).who b' = .fz
      rw [Gh.retag_out G id fun hm => ?_, hb2]
      obtain ⟨g, _, hw⟩ := hTt b' hm
      rw [hb2] at hw; cases hw) fun _ _ _ h => h
    have hF : (∀ x, G.F x → G'.F x) ∧ ∀ b' : Nat, G.F (.b b') → (w.setRow g' (putC cur.toList (i * c.k.size + off) ys).toArray).heap[b']? = w.heap[b']? := ⟨whoF, fun b' hb' => hold b' fun e => by
      have hb2 : G.who b' = .fz := hb'
      rw [e, hgt] at hb2; simp at hb2⟩
    have hcl2 := cells_len c.k (c.k.at c.l i)
    have hfl := flat_len c.k c.l
    have hfs : flat c.k (c.l.set i e) = putC (flat c.k c.l) (i * c.k.size) (c.k.cells e) := flat_set c.k c.l i hi e
    have hdn : c.dn = i * c.k.size := by unfold RC.dn; rw [hcd, hq]; rfl
    -- the first ones; this one; the others
    obtain ⟨d1, d2⟩ := hdc.split
    rw [hdn] at d1 d2
    have hM : F2 (Rd w G.F) ((zs.drop (i * c.k.size)).take c.k.size) (c.k.cells (c.k.at c.l i)) := by
      have := d2.take c.k.size
      rwa [flat_at c.k c.l i hi] at this
    have hR : F2 (Rd w G.F) (zs.drop (i * c.k.size + c.k.size)) ((flat c.k c.l).drop (i * c.k.size + c.k.size)) := by
      have := d2.drop c.k.size
      rwa [List.drop_drop, List.drop_drop] at this
    have hMl := hM.len
    generalize hMM : (zs.drop (i * c.k.size)).take c.k.size = M at hM hMl
    rw [cells_len] at hMl
    have hce : c.k.cells e = putC (c.k.cells (c.k.at c.l i)) off ds := mk_cells _ _ _ hm
    have hnew1 : DCs w G.F c.k.size (putC M off ys) (c.k.cells e) T := by
      have e1 := DCs.plain (hM.take off) hb1
      have e2 := DCs.plain (hM.drop (off + ds.length)) hb2
      have e3 := DCs.app rfl e1 (DCs.app (by omega) hdT e2)
      rw [hce]
      unfold putC
      rw [hyl]
      rw [List.append_assoc, List.append_assoc]
      have e4 : (M.take off).length + (ds.length + (M.drop (off + ds.length)).length) = c.k.size := by simp; omega
      rw [e4] at e3
      simpa using e3
    have hz : zs = zs.take (i * c.k.size) ++ (M ++ zs.drop (i * c.k.size + c.k.size)) := by
      rw [← hMM, ← List.drop_drop, List.take_append_drop, List.take_append_drop]
    have hz' : zs' = zs.take (i * c.k.size) ++ (putC M off ys ++ zs.drop (i * c.k.size + c.k.size)) := by
      show putC zs (i * c.k.size + off) ys = _
      have := putC_put zs (i * c.k.size) off M ys (by rw [hMl]; exact hMM) (by omega) (by omega)
      rw [← this]
      unfold putC
      have e1 : (M.take off ++ ys ++ M.drop (off + ys.length)).length = c.k.size := by simp; omega
      rw [e1]
      simp
    have hf' : flat c.k (c.l.set i e) = (flat c.k c.l).take (i * c.k.size) ++ (c.k.cells e ++ (flat c.k c.l).drop (i * c.k.size + c.k.size)) := by
      rw [hfs]
      unfold putC
      rw [cells_len]
      simp
    have hcdn : RC.dn ⟨c.e, c.k, c.l.set i e, ⟨some (q + 1), c.m.h, c.m.v, false⟩⟩ = i * c.k.size + c.k.size := by
      unfold RC.dn
      simp only [Option.getD_some]
      rw [hq, Nat.add_mul, Nat.one_mul]
    have hnewD : DCs w G.F (i * c.k.size + c.k.size) zs' (flat c.k (c.l.set i e)) (Bi ++ T) := by
      rw [hz', hf']
      refine DCs.app (by rw [List.length_take]; omega) d1 ?_
      exact DCs.join (by rw [putC_len _ _ _ (by omega)]; exact hMl) hnew1 hR
    have hzl' : zs'.length = zs.length := putC_len _ _ _ (by omega)
    have hnew : OwnX (w.setRow g' (putC cur.toList (i * c.k.size + off) ys).toArray) G'.F (G'.hd id) ⟨c.e, c.k, c.l.set i e, ⟨some (q + 1), c.m.h, c.m.v, false⟩⟩ zs' (B ++ T) := by
      refine ⟨?_, Bi ++ T, ?_, ?_⟩
      · show OwnsC _ 0 c.e c.k.size (G.hd id) (c.l.set i e).length zs'
        rw [h3]
        simp only [List.length_set]
        exact put_owns hV hg hzl hnc hcm hcs ht hpos (by omega)
      · rw [hcdn]
        exact hnewD.mono hF fun b hb => hold b fun e => by
          rcases List.mem_append.1 hb with hb | hb
          · exact hgi (by rw [← e]; exact hb)
          · exact hgT (by rw [← e]; exact hb)
      · have : obB ⟨c.e, c.k, c.l.set i e, ⟨some (q + 1), c.m.h, c.m.v, false⟩⟩ (G'.hd id) = obB c (G.hd id) := by
          rw [hob]
          show (ownB (G.hd id)).toList = _
          rw [h3, ownB_pos hpos]; rfl
        rw [this, hob, hB]; simp
    have hBT' : (B ++ T).Nodup := List.nodup_append.2 ⟨hBn, hTn hgn, fun b hb b' hb' e => hBT b hb (by rw [e]; exact hb')⟩
    have hinn : InnOk G' id ⟨c.e, c.k, c.l.set i e, ⟨some (q + 1), c.m.h, c.m.v, false⟩⟩ zs' := fun j hj k' l' hkl => by
      rw [hcdn] at hj
      by_cases hjd : j < c.dn
      · have hv : G'.inn id j = G.inn id j := Gh.innFrom_lt _ _ _ _ hjd
        rw [hv]
        have e1 : zs'[j]? = zs[j]? := by
          show (putC zs (i * c.k.size + off) ys)[j]? = _
          rw [putC_get _ _ _ (by omega), if_pos (by omega)]
        rw [e1]
        refine hin j hjd k' l' ?_
        dsimp only at hkl
        rw [hfs, putC_get _ _ _ (by omega), if_pos (by omega)] at hkl
        exact hkl
      · exact Gh.innFrom_ge _ _ _ _ (by omega) (by omega)
    have := hi1.own hr1 ⟨ep, some ⟨c.e, c.k, c.l.set i e, ⟨some (q + 1), c.m.h, c.m.v, false⟩⟩⟩ (w' := w.setRow g' (putC cur.toList (i * c.k.size + off) ys).toArray) (G' := G')
      ⟨by simp [he], fun _ c' hc' => by
        cases hc'
        exact ⟨rfl, c, hrc, rfl, by simp, Nat.le_refl _, fun _ => ⟨by rw [hcdn, hdn]; omega, fun j hj => Gh.innFrom_lt _ _ _ _ hj⟩⟩,
       fun c' hc' hh => by cases hc'; exact ⟨c, hrc, hh, rfl⟩⟩
      (fun b' _ hne => ⟨rfl, hold b' fun e => hne (by rw [e, Gh.retag_out G id hgT, hgt])⟩) (fun b hb => by
        have := hi1.lt b hb
        simpa using this) rfl rfl (fun j hj => ⟨rfl, fun q => Gh.innFrom_other _ _ _ _ hj q⟩) ⟨rfl, rfl, rfl, by simp⟩
      (by
        intro c' hc'; cases hc'
        refine ⟨zs', B ++ T, hnew, hBT', fun b hb => ?_, hinn⟩
        rcases List.mem_append.1 hb with hb | hb
        · exact (Gh.retag_out G id (hBT b hb)).trans (hBt b hb)
        · exact Gh.retag_in G id hb)
    have key := this.2 undef .und rfl d
    rw [app_deads]
    exact key
theorem rowNew_spec {id : Nat} {c : RC} {K : Outc → Prop} (hk : rowNew S id c K) : ∃ r, S.rows[id]? = some r ∧ K ⟨.v false [.ref id (r.ep + 1)], [(id, ⟨r.ep + 1, some c⟩)], []⟩ := by
  have _ := hV
  unfold rowNew at hk
  split at hk
  · exact ⟨_, ‹_›, hk⟩
  · exact hk.elim
theorem append_cells (h : Inv w0 prot S G a w) {v : Value} {t : T} {k : RK} {l : List k.El} (ht : TR w G S.rows S.boxes v t) (he : S.elems t = some ⟨k, l⟩) (hd : deepX S t = none) :
    ((∃ x, v = .slice x 0 0) ∧ l = []) ∨ ∃ ad cap xs, v = .slice (some ad) l.length cap ∧ (∀ j u, xs[j]? = some u → w.cell? (ad.add j) = some u) ∧ F2 (Rd w G.F) xs (flat k l) := by
  rcases elems_lies hV h ht he hd with h1 | ⟨g, off, cap, xs, h1, _, h2, h3⟩
  · exact .inl h1
  · exact .inr ⟨_, cap, xs, h1, h2, h3⟩
end
end Go.Proofs.YtjjcjpmfkbfdfaaE


/- What a row of one's own grows by. Conditions: none. -/
set_option linter.unusedVariables false
namespace Go.Proofs.YtjjcjpmfkbfdfaaE
open Go Go.RowKit
section
variable {w : World} {base : Nat} {e : TypeId} {size : Nat} {v : Value} {n : Nat} {xs : List Value}
theorem setD_setD {α : Type} (d : Option Nat) (x y : α) (l : List α) : setD d x (setD d y l) = setD d x l := by cases d <;> simp [setD]
theorem put_put (a : Act) (d : Option Nat) (v : Value) : (a.put d v).put d v = a.put d v := by cases d <;> simp [Act.put]
theorem OwnsC.of (h : w.ownsRow base e size v n xs) : OwnsC w base e size v n xs := by
  refine ⟨h.1, ?_⟩
  rcases h.2 with h2 | ⟨g, cap, cur, h1, h2, h3, h4, h5, h6, h7⟩
  · exact .inl ⟨⟨_, h2.1⟩, h2.2⟩
  · rcases Nat.eq_zero_or_pos cap with h0 | hpos
    · have hn : n = 0 := by omega
      exact .inl ⟨⟨_, by rw [h1, h0, hn]⟩, hn⟩
    · exact .inr ⟨g, cap, cur, h1, h2, h3, h4, h5, Nat.le_of_eq h6.symm, h7, hpos⟩
theorem OwnsC.cells (h : OwnsC w base e size v n xs) {g : Nat} (hg : (ownB v) = some g) : ∀ j u, xs[j]? = some u → w.cell? ((⟨g, 0, none⟩ : Addr).add j) = some u := by
  intro j u hu
  rcases h.2 with ⟨⟨x, rfl⟩, _⟩ | ⟨g', cap, cur, rfl, _, hgg, _, _, _, htake, hpos⟩
  · simp [ownB_zero] at hg
  · rw [ownB_pos hpos] at hg
    cases hg
    have hadd : (⟨g', 0, none⟩ : Addr).add j = ⟨g', j, none⟩ := by unfold Addr.add; split <;> simp_all
    rw [hadd, cell_of_row w g' j cur e (0, 0) hgg]
    rw [← htake, List.getElem?_take] at hu
    split at hu
    · simpa using hu
    · cases hu
theorem OwnsC.clip {A : Option Addr} {c : Nat} (h : OwnsC w base e size (.slice A n c) n xs) : OwnsC w base e size (.slice A n n) n xs := by
  refine ⟨h.1, ?_⟩
  rcases Nat.eq_zero_or_pos n with h0 | hpos
  · exact .inl ⟨⟨A, by rw [h0]⟩, h0⟩
  · rcases h.2 with ⟨hv, hn⟩ | ⟨g, cap, cur, hv, hb, hg, hnc, hcm, hcs, ht, _⟩
    · omega
    · injection hv with h1 h2 h3
      subst h1; subst h3
      exact .inr ⟨g, n, cur, rfl, hb, hg, Nat.le_refl _, Nat.le_trans hnc hcm, Nat.le_trans (Nat.mul_le_mul_right _ hnc) hcs, ht, hpos⟩
end
section
variable {P : Program} (w : World)
theorem run_append_ownC_at (base : Nat) (t ty e : TypeId) (i : TypeInfo) (z : Value) (size bytes : Nat) (ht : P.underlying t = some (.slice e)) (hi : P.info? e = some i) (hz : i.zero = some z)
    (hsize : i.size = size) (hby : i.bytes = bytes) (hzs : z.cells.size = size) (hsz : 0 < size)
    (v : Value) (n : Nat) (xs : List Value) (hown : OwnsC w base e size v n xs)
    (a : Addr) (m c : Nat) (news : List Value) (hl : news.length = m * size) (hnews : ∀ j u, news[j]? = some u → w.cell? (a.add j) = some u) (h1 : ∀ u ∈ news, u.oneCell' = true)
    (hm : 0 < m) (h63 : n + m ≤ maxLen) (hbytes : (n + m) * bytes ≤ 140737488355328) (hbase : base ≤ w.heap.size) :
    ∃ v' w', (Builtin.append_ #[t, t] ty #[v, .slice (some a) m c]).run P w = .ok v' w' ∧ OwnsC w' base e size v' (n + m) (xs ++ news) ∧ w.grownBy w' (ownB v) ∧
      ((ownB v') = (ownB v) ∨ (ownB v') = some w.heap.size) := by
  have fresh : ∀ (ad : Addr) (cap : Nat), v = .slice (some ad) n cap → cap < n + m → (∀ j u, xs[j]? = some u → w.cell? (ad.add j) = some u) → ∃ v' w', (Builtin.append_ #[t, t] ty #[v, .slice (some a) m c]).run P w = .ok v' w' ∧ OwnsC w' base e size v' (n + m) (xs ++ news) ∧ w.grownBy w' (ownB v) ∧
      ((ownB v') = (ownB v) ∨ (ownB v') = some w.heap.size) := by
    rintro ad cap rfl hlt holds
    obtain ⟨v', w', hr, ho, hgr⟩ := run_append_arg_grows (P := P) (w := w) t ty e i z size bytes ht hi hz hsize hby hzs hsz ad n cap xs hown.1 holds a m c news hl hnews (by omega) h63 hbytes
    have ho' := OwnsC.of ho
    refine ⟨v', w', hr, ⟨ho'.1, ?_⟩, ⟨hgr.os, hgr.tape, hgr.output, hgr.size, fun k hk _ => hgr.block k hk (by simp)⟩, Or.inr ?_⟩
    · rcases ho'.2 with h2 | ⟨g2, cap2, cur2, q1, q2, q3⟩
      · exact .inl h2
      · exact .inr ⟨g2, cap2, cur2, q1, Nat.le_trans hbase q2, q3⟩
    · subst hsize
      have hr2 := run_append_grow (P := P) w t ty e i z ht hi hz ad n cap xs hown.1 holds a m c news hl hnews (by omega) (by simp only [maxLen] at h63; omega) (growslice_fits (by omega) (by rw [hby]; exact hbytes))
      rw [hr] at hr2
      injection hr2 with e1 e2
      rcases ho'.2 with h2 | ⟨g2, cap2, cur2, q1, q2, q3, _, _, _, _, hpos⟩
      · omega
      · rw [e1] at q1
        injection q1 with q1 _ q4
        rw [e1, q4]
        exact ownB_pos hpos
  rcases hown.2 with ⟨⟨x, rfl⟩, rfl⟩ | ⟨g, cap, cur, rfl, hbg, hg, hnc, hcm, hcs, htake, hpos⟩
  · cases x with
    | none =>
      obtain ⟨v', w', hr, ho, hgr, _, hloc⟩ := run_append_own_at (P := P) w base t ty e i z size bytes ht hi hz hsize hby hzs hsz (.slice none 0 0) 0 xs ⟨hown.1, .inl ⟨rfl, rfl⟩⟩ a m c news hl hnews h1 h63 hbytes hbase
      have ho' := OwnsC.of ho
      refine ⟨v', w', hr, ho', hgr, ?_⟩
      rcases ho'.2 with ⟨_, h0⟩ | ⟨g2, cap2, cur2, q1, _, _, _, _, _, _, hpos⟩
      · omega
      · rcases hloc with h2 | h2
        · rw [q1] at h2; simp [Value.ownBlock] at h2
        · rw [q1] at h2 ⊢
          rw [ownB_pos hpos]
          exact .inr h2
    | some ad =>
      refine fresh ad 0 rfl (by omega) fun j u hu => ?_
      have : xs = [] := List.length_eq_zero_iff.1 (by rw [hown.1]; omega)
      rw [this] at hu; simp at hu
  · have hlen : (xs ++ news).length = (n + m) * size := by rw [List.length_append, hown.1, hl, Nat.add_mul]
    by_cases hroom : n + m ≤ cap
    · have hfit : n * size + news.length ≤ cur.size := by
        rw [hl, ← Nat.add_mul]
        exact Nat.le_trans (Nat.mul_le_mul_right _ hroom) hcs
      subst hsize
      have hr := run_append_room (P := P) w t ty e i ht hi g n cap cur hg a m c news hl hnews h1 hroom hfit
      refine ⟨_, _, hr, ⟨hlen, .inr ⟨g, cap, _, rfl, hbg, setRow_heap w g cur _ e _ hg, hroom, hcm, ?_, ?_, hpos⟩⟩, ⟨rfl, rfl, rfl, by simp, fun k _ hk => setRow_other w g k _ (fun he => hk (by rw [he, ownB_pos hpos]))⟩, Or.inl (by rw [ownB_pos hpos, ownB_pos hpos])⟩
      · simp only [List.size_toArray, List.length_append, List.length_take, List.length_drop, Array.length_toList]
        omega
      · rw [htake, ← hlen]
        exact List.take_left
    · exact fresh ⟨g, 0, none⟩ cap rfl (by omega) (hown.cells (g := g) (ownB_pos hpos))
end
theorem run_append_nothing {P : Program} (w : World) (t ty e : TypeId) (i : TypeInfo) (ht : P.underlying t = some (.slice e)) (hi : P.info? e = some i) (A B : Option Addr) (n cap cb : Nat) (hn : n ≤ cap) :
    (Builtin.append_ #[t, t] ty #[.slice A n cap, .slice B 0 cb]).run P w = .ok (.slice A n cap) w := by
  have h0 : ∀ ad : Addr, (loadCells ad 0).run P w = .ok #[] w := fun ad => run_loadCells_list (P := P) w ad [] (fun j v h => by simp at h)
  cases A <;> cases B <;> simp [Builtin.append_, run_underlying ht, sizeOf, typeInfo, hi, Builtin.lenOf, Builtin.firstCells, hn, storeCells.eq_1, h0]
section
variable {P : Program} {V : Env} (hV : TysOk P V) {w0 : World} {prot : Pro} {S : St} {G : Gh} {a : Act} {w : World}
include hV
theorem append_core (h : Inv w0 prot S G a w) {t : Nat} {I : TyI} {k : RK} {e : Nat} (hI : look t V.tys = some I) (hel : I.el = some (k, e)) {id ep : Nat} {r : Row} {c : RC} (hr : S.rows[id]? = some r) (hep : ep = r.ep) (hrc : r.c = some c) (hce : c.e = e) (hck : c.k = k) (hcp : c.m.p = false)
    {v u : Value} (hvh : v = G.hd id) {zs ys : List Value} {Bi T : List Nat} (hown : OwnsC w 0 c.e c.k.size v c.l.length zs) (hdc : DCs w G.F c.dn zs (flat c.k c.l) Bi) (hBn : ((ownB v).toList ++ Bi).Nodup) (hBt : ∀ b ∈ (ownB v).toList ++ Bi, G.who b = .rw id) (hTn : T.Nodup) (hTt : ∀ b ∈ T, G.who b = .rw id) (hBT : ∀ b ∈ (ownB v).toList ++ Bi, b ∉ T)
    {l' : List c.k.El} (hcells : ((∃ x, u = .slice x 0 0) ∧ l' = []) ∨ ∃ ad cap, u = .slice (some ad) l'.length cap ∧ ∀ j y, ys[j]? = some y → w.cell? (ad.add j) = some y) (hyl : ys.length = l'.length * c.k.size) (hy1 : ∀ y ∈ ys, y.oneCell' = true)
    (m' : RM) (hm : m'.h = false ∧ m'.p = false) (hD : DCs w G.F (RC.dn ⟨c.e, c.k, c.l ++ l', m'⟩) (zs ++ ys) (flat c.k (c.l ++ l')) (Bi ++ T)) (hlim : c.l.length + l'.length ≤ LIM) (ty : TypeId) (d : Option Nat) :
    ∃ v' w' G', (Builtin.append_ #[t, t] ty #[v, u]).run P w = .ok v' w' ∧
      Inv w0 prot (S.app d ⟨.v false [.ref id (ep + 1)], [(id, ⟨ep + 1, some ⟨c.e, c.k, c.l ++ l', m'⟩⟩)], []⟩) G' (a.put d v') w' ∧ G'.hd id = v' := by
  obtain ⟨hun, J, hJ, hz⟩ := (hV t I hI).sl k e hel
  obtain ⟨i, z, i1, i2, i3, i4, arr, i5, i6, _⟩ := (hV e J hJ).info
  have hsz : i.size = k.size := by rw [i2, hz, cells_len]
  have hzs : z.cells.size = k.size := by rw [i5, List.size_toArray, i6.len, hz, cells_len]
  have hid : id < S.rows.length := (List.getElem?_eq_some_iff.1 hr).1
  subst hck
  subst hce
  have hL : c.l.length + l'.length ≤ 137438953472 := hlim
  have hob : ∀ v', obB ⟨c.e, c.k, c.l ++ l', m'⟩ v' = (ownB v').toList := fun v' => by unfold obB; dsimp only; rw [hm.2]
  have hzl := hown.1
  by_cases hl0 : l' = []
  · -- nothing is appended
    obtain ⟨B, cb, rfl⟩ : ∃ B cb, u = .slice B 0 cb := by
      rcases hcells with ⟨⟨x, rfl⟩, _⟩ | ⟨ad, cap, rfl, _⟩
      · exact ⟨_, _, rfl⟩
      · rw [hl0]; exact ⟨_, _, rfl⟩
    subst hl0
    obtain rfl : ys = [] := List.length_eq_zero_iff.1 (by simpa using hyl)
    have hvs : ∃ A cap, v = .slice A c.l.length cap ∧ c.l.length ≤ cap := by
      rcases hown.2 with ⟨h1, h2⟩ | ⟨g, cap, cur, h1, _, _, h2, _⟩
      · obtain ⟨x, h1⟩ := h1; exact ⟨x, 0, by rw [h2]; exact h1, by omega⟩
      · exact ⟨_, cap, h1, h2⟩
    obtain ⟨A, cap, rfl, hcap⟩ := hvs
    have ho : OwnX w G.F (.slice A c.l.length cap) ⟨c.e, c.k, c.l ++ [], m'⟩ zs ((ownB (.slice A c.l.length cap)).toList ++ (Bi ++ T)) := by
      refine ⟨?_, Bi ++ T, by simpa using hD, by rw [hob]⟩
      unfold outC
      dsimp only
      rw [hm.2]
      simpa using hown
    have := h.own hr ⟨ep + 1, some ⟨c.e, c.k, c.l ++ [], m'⟩⟩ (w' := w) (G' := G.inns id zs) (RowK.new (by dsimp only; omega) fun c' hc' => by cases hc'; exact hm.1) (fun _ _ _ => ⟨rfl, rfl⟩) h.lt rfl rfl (fun j hj => ⟨rfl, fun q => Gh.inns_other _ _ _ hj q⟩) ⟨rfl, rfl, rfl, Nat.le_refl _⟩
      (by
        intro c' hc'; cases hc'
        have e1 : (G.inns id zs).hd id = .slice A c.l.length cap := hvh.symm
        rw [e1]
        refine ⟨zs, _, ho, ?_, fun b hb => ?_, InnOk.self (by simpa using hD.len.2)⟩
        · rw [← List.append_assoc]
          exact List.nodup_append.2 ⟨hBn, hTn, fun b hb b' hb' e => hBT b hb (by rw [e]; exact hb')⟩
        · rw [← List.append_assoc] at hb
          rcases List.mem_append.1 hb with hb | hb
          · exact hBt b hb
          · exact hTt b hb)
    exact ⟨_, w, G.inns id zs, run_append_nothing w t ty c.e i hun i1 A B _ cap cb hcap, this.2 _ _ (ref_tr (c := ⟨c.e, c.k, c.l ++ [], m'⟩) (show (G.inns id zs).hd id = _ from hvh.symm) (by rw [List.getElem?_set_self hid]) ho) d, hvh.symm⟩
  · rcases hcells with ⟨_, h0⟩ | ⟨ad, cap, rfl, hx⟩
    · exact absurd h0 hl0
    have hm0 : 0 < l'.length := List.length_pos_iff.2 hl0
    obtain ⟨v', w', h1, h2, h3, h5⟩ := run_append_ownC_at (P := P) w 0 t ty c.e i z c.k.size i.bytes hun i1 i4 hsz rfl hzs (size_pos _) v c.l.length zs hown ad l'.length cap ys hyl hx hy1 hm0
      (by simp only [maxLen]; omega) (by
        have := Nat.mul_le_mul_left (c.l.length + l'.length) i3
        omega) (Nat.zero_le _)
    let G1 : Gh := { G with who := fun b => if b = w.heap.size then (if (ownB v') = some b then .rw id else .ot) else G.who b }
    let G' := (G1.head id v').inns id (zs ++ ys)
    have hG : ∀ b, b ≠ w.heap.size → G'.who b = G.who b := fun b hb => by show (if b = _ then _ else _) = _; rw [if_neg hb]
    have hvo : ∀ b, (ownB v) = some b → G.who b = .rw id := fun b hb => hBt b (List.mem_append_left _ (by rw [hb]; simp))
    have hBlt : ∀ b ∈ Bi ++ T, b < w.heap.size ∧ G.who b = .rw id := fun b hb => by
      have : G.who b = .rw id := by
        rcases List.mem_append.1 hb with hb | hb
        · exact hBt b (List.mem_append_right _ hb)
        · exact hTt b hb
      exact ⟨h.lt b (by rw [this]; simp), this⟩
    have hBv : ∀ b ∈ Bi ++ T, ownB v ≠ some b := fun b hb e => by
      have hv : b ∈ (ownB v).toList := by rw [e]; simp
      rcases List.mem_append.1 hb with hb | hb
      · exact (List.nodup_append.1 hBn).2.2 b hv b hb rfl
      · exact hBT b (List.mem_append_left _ hv) hb
    have hold : ∀ b, b < w.heap.size → G.who b ≠ .rw id → G'.who b = G.who b ∧ w'.heap[b]? = w.heap[b]? := fun b hb hne => ⟨hG b (by omega), h3.block b hb fun e => hne (hvo b e.symm)⟩
    have hlt : ∀ b, G'.who b ≠ .ot → b < w'.heap.size := by
      intro b hb
      by_cases e : b = w.heap.size
      · subst e
        have hw : G'.who w.heap.size = if (ownB v') = some w.heap.size then .rw id else .ot := by show (if _ = _ then _ else _) = _; rw [if_pos rfl]
        rw [hw] at hb
        split at hb
        · rename_i hv'
          rcases h2.2 with ⟨⟨x, hn⟩, _⟩ | ⟨g, cp, cur, hs, _, hg, _, _, _, _, hpos⟩
          · rw [hn] at hv'; simp [ownB_zero] at hv'
          · rw [hs, ownB_pos hpos] at hv'
            simp only [Option.some.injEq] at hv'
            rw [← hv']
            exact (Array.getElem?_eq_some_iff.1 hg).1
        · exact absurd rfl hb
      · rw [hG b e] at hb
        exact Nat.lt_of_lt_of_le (h.lt b hb) h3.size
    have hF : (∀ x, G.F x → G'.F x) ∧ ∀ b : Nat, G.F (.b b) → w'.heap[b]? = w.heap[b]? := by
      have key : ∀ b, G.who b = .fz → G'.who b = .fz ∧ w'.heap[b]? = w.heap[b]? := fun b hb' => by
        have := hold b (h.lt b (by rw [hb']; simp)) (by rw [hb']; simp)
        exact ⟨by rw [this.1, hb'], this.2⟩
      exact ⟨Gh.F_le (fun b hb => (key b hb).1) fun _ _ _ hh => hh, fun b hb => (key b hb).2⟩
    have ho : OwnX w' G'.F v' ⟨c.e, c.k, c.l ++ l', m'⟩ (zs ++ ys) ((ownB v').toList ++ (Bi ++ T)) := by
      refine ⟨?_, Bi ++ T, hD.mono hF fun b hb => h3.block b (hBlt b hb).1 fun e => hBv b hb e.symm, by rw [hob]⟩
      unfold outC
      dsimp only
      rw [hm.2]
      simpa using h2
    have := h.own hr ⟨ep + 1, some ⟨c.e, c.k, c.l ++ l', m'⟩⟩ (w' := w') (G' := G') (RowK.new (by dsimp only; omega) fun c' hc' => by cases hc'; exact hm.1) hold hlt rfl rfl (fun j hj => ⟨Gh.head_other _ _ _ hj, fun q => Gh.inns_other _ _ _ hj q⟩) ⟨h3.os, h3.tape, h3.output, h3.size⟩
      (by
        intro c' hc'; cases hc'
        rw [show G'.hd id = v' from Gh.head_same _ _ _]
        refine ⟨_, _, ho, List.nodup_append.2 ⟨by cases ownB v' <;> simp, ?_, fun b hb b' hb' e => ?_⟩, fun b hb => ?_, InnOk.self hD.len.2⟩
        · exact List.nodup_append.2 ⟨(List.nodup_append.1 hBn).2.1, hTn, fun b hb b' hb' e => hBT b (List.mem_append_right _ hb) (by rw [e]; exact hb')⟩
        · subst e
          have hb2 : ownB v' = some b := by simpa using hb
          rcases h5 with e | e
          · exact hBv b hb' (by rw [← e]; exact hb2)
          · rw [e] at hb2
            simp only [Option.some.injEq] at hb2
            have := (hBlt b hb').1
            omega
        · rcases List.mem_append.1 hb with hb | hb
          · have hb2 : ownB v' = some b := by simpa using hb
            rcases h5 with e | e
            · have hb3 := hvo b (by rw [← e]; exact hb2)
              exact (hG b (by have := h.lt b (by rw [hb3]; simp); omega)).trans hb3
            · rw [e] at hb2
              simp only [Option.some.injEq] at hb2
              subst hb2
              show (if _ = _ then _ else _) = _
              rw [if_pos rfl, if_pos e]
          · exact (hG b (by have := (hBlt b hb).1; omega)).trans (hBlt b hb).2)
    exact ⟨v', w', G', h1, this.2 _ _ (ref_tr (Gh.head_same _ _ _) (by rw [List.getElem?_set_self hid]) ho) d, Gh.head_same _ _ _⟩
omit hV in
theorem DCs.more {F : HF → Prop} : ∀ {n : Nat} {vs vs' : List Value} {ds ds' : List D} {B : List Nat}, DCs w F n vs ds B → F2 (Rd w F) vs' ds' → DCs w F n (vs ++ vs') (ds ++ ds') B
  | 0, vs, vs', ds, ds', B, h, h' => by
    rw [DCs.zero] at h ⊢
    exact ⟨h.1.app h', h.2⟩
  | n + 1, v :: vs, vs', x :: ds, ds', B, h, h' => by
    obtain ⟨B1, B2, h1, h2, rfl⟩ := h
    exact ⟨B1, B2, h1, DCs.more h2 h', rfl⟩
  | _ + 1, [], _, _, _, _, h, _ => by cases ‹List D› <;> exact h.elim
  | _ + 1, _ :: _, _, [], _, _, h, _ => h.elim
theorem append_ok (h : Inv w0 prot S G a w) {t : Nat} {I : TyI} {k : RK} {e : Nat} (hI : look t V.tys = some I) (hel : I.el = some (k, e)) {id ep : Nat} {c : RC} (hl : S.live id ep = some c) (hce : c.e = e) (hck : c.k = k) (hcp : c.m.p = false)
    {v u : Value} (hv : CR w G S.rows v (.ref id ep)) {q : T} {k' : RK} {l' : List k'.El} (hu : TR w G S.rows S.boxes u q) (he : S.elems q = some ⟨k', l'⟩) (hdx : deepX S q = none) (hk : k' = c.k) (hlim : c.l.length + l'.length ≤ LIM) (ty : TypeId) (d : Option Nat) :
    ∃ v' w' G', (Builtin.append_ #[t, t] ty #[v, u]).run P w = .ok v' w' ∧
      Inv w0 prot (S.app d ⟨.v false [.ref id (ep + 1)], [(id, ⟨ep + 1, some ⟨c.e, c.k, c.l ++ castL hk l', ⟨c.m.d, false, 0, false⟩⟩⟩)], []⟩) G' (a.put d v') w' ∧ G'.hd id = v' := by
  obtain ⟨r, hr, hep, hrc⟩ := live_spec hl
  obtain ⟨hvh, zs, B, ⟨hout, Bi, hdc, hB⟩, hBn, hBt, _⟩ := own_of hV h hl hv
  unfold outC at hout
  unfold obB at hB
  rw [hcp] at hout hB
  subst hB
  subst hk
  have hcast : castL rfl l' = l' := rfl
  rw [hcast]
  have hsrc : ∃ ys, (((∃ x, u = .slice x 0 0) ∧ l' = []) ∨ ∃ ad cap, u = .slice (some ad) l'.length cap ∧ ∀ j y, ys[j]? = some y → w.cell? (ad.add j) = some y) ∧ F2 (Rd w G.F) ys (flat c.k l') := by
    rcases append_cells hV h hu he hdx with ⟨h1, h2⟩ | ⟨ad, cap, xs, h1, h2, h3⟩
    · subst h2
      exact ⟨[], .inl ⟨h1, rfl⟩, .nil⟩
    · exact ⟨xs, .inr ⟨ad, cap, h1, h2⟩, h3⟩
  obtain ⟨ys, hs1, hs2⟩ := hsrc
  have hyl := hs2.len
  rw [flat_len] at hyl
  refine append_core hV h hI hel hr hep hrc hce hck hcp hvh (T := []) hout hdc hBn hBt List.nodup_nil (fun b hb => by cases hb) (fun _ _ hb => by cases hb) hs1 hyl (slice_all_one hs2) _ ⟨rfl, rfl⟩ ?_ hlim ty d
  rw [List.append_nil, flat_append]
  exact DCs.more hdc hs2
theorem append_deep (h : Inv w0 prot S G a w) {t : Nat} {I : TyI} {k : RK} {e : Nat} (hI : look t V.tys = some I) (hel : I.el = some (k, e)) {id ep q q2 : Nat} {c : RC} (hl : S.live id ep = some c) (hce : c.e = e) (hck : c.k = k) (hcp : c.m.p = false) (hcd : c.m.d = some q)
    {v u : Value} (hv : CR w G S.rows v (.ref id ep)) {X : T} {id2 : Nat} {c2 : RC} (hu : TR w G S.rows S.boxes u X) (hdx : deepX S X = some (id2, c2, q2)) (hk : c2.k = c.k) (hne : id2 ≠ id) (hq : q = c.l.length) (hq2 : q2 = c2.l.length) (hlim : c.l.length + c2.l.length ≤ LIM) (ty : TypeId) (d : Option Nat) :
    ∃ v' w' G', (Builtin.append_ #[t, t] ty #[v, u]).run P w = .ok v' w' ∧
      Inv w0 prot (S.app d ⟨.v false [.ref id (ep + 1)], deads S [id2] ++ [(id, ⟨ep + 1, some ⟨c.e, c.k, c.l ++ castL hk c2.l, ⟨some (q + q2), false, 0, false⟩⟩⟩)], []⟩) G' (a.put d v') w' := by
  obtain ⟨r, hr, hep, hrc⟩ := live_spec hl
  obtain ⟨hvh, zs, B, ⟨hout, Bi, hdc, hB⟩, hBn, hBt, _⟩ := own_of hV h hl hv
  unfold outC at hout
  unfold obB at hB
  rw [hcp] at hout hB
  subst hB
  -- what is appended
  obtain ⟨ep2, hX, hl2, hd2⟩ : ∃ ep2, X = .v false [.ref id2 ep2] ∧ S.live id2 ep2 = some c2 ∧ c2.m.d = some q2 := by
    unfold deepX at hdx
    split at hdx
    · split at hdx
      · rename_i hlv
        split at hdx
        · rename_i hdd
          cases hdx
          exact ⟨_, rfl, hlv, hdd⟩
        · simp at hdx
      · simp at hdx
    · simp at hdx
  subst hX
  obtain ⟨cm, hcm, hcr⟩ := hu
  cases hcm
  obtain ⟨_, ys, B2, ⟨hout2, Bi2, hdc2, hB2⟩, hBn2, hBt2, _⟩ := own_of hV h hl2 hcr
  obtain ⟨hyl, hls⟩ := hout2.lies
  have hT : ∀ b ∈ Bi2, ∃ g ∈ [id2], G.who b = .rw g := fun b hb => ⟨id2, by simp, hBt2 b (by rw [hB2]; exact List.mem_append_right _ hb)⟩
  obtain ⟨hk1, hi1⟩ := h.kill [id2] Bi2 id hT
  have hr1 : ((deads S [id2]).foldl (fun r p => r.set p.1 p.2) S.rows)[id]? = some r := by
    rw [deads_get (by simpa using fun e => hne e.symm)]; exact hr
  have hdis : ∀ b ∈ (ownB v).toList ++ Bi, b ∉ Bi2 := fun b hb hm => by
    obtain ⟨g, hg, hw⟩ := hT b hm
    simp only [List.mem_singleton] at hg
    subst hg
    rw [hBt b hb] at hw
    cases hw
    exact hne rfl
  have hGF : (∀ x, G.F x → (G.retag Bi2 id).F x) ∧ ∀ b : Nat, G.F (.b b) → w.heap[b]? = w.heap[b]? := hk1.F
  obtain ⟨e2, k2, l2, m2⟩ := c2
  dsimp only at hk hq2 hlim hd2 hdc2 hyl hls
  subst hk
  have hcast : castL rfl l2 = l2 := rfl
  rw [hcast]
  have hdn2 : RC.dn ⟨e2, c.k, l2, m2⟩ = l2.length * c.k.size := by unfold RC.dn; dsimp only; rw [hd2, hq2]; rfl
  have hdn : c.dn = c.l.length * c.k.size := by unfold RC.dn; rw [hcd, hq]; rfl
  rw [hdn2] at hdc2
  obtain ⟨v', w', G', h1, h2, _⟩ := append_core hV hi1 hI hel hr1 hep hrc hce hck hcp (v := v) (u := u) (ys := ys) (Bi := Bi) (T := Bi2) hvh hout (hdc.mono hGF fun _ _ => rfl) hBn (fun b hb => (Gh.retag_out G id (hdis b hb)).trans (hBt b hb)) (by rw [hB2] at hBn2; exact (List.nodup_append.1 hBn2).2.1) (fun b hb => Gh.retag_in G id hb) hdis
    (l' := l2) (hls.imp (fun h => h) fun ⟨g, off, cap, h1, _, h2⟩ => ⟨⟨g, off, none⟩, cap, h1, fun j y hy => by rw [add_lit]; exact h2 j y hy⟩) hyl hdc2.one ⟨some (q + q2), false, 0, false⟩ ⟨rfl, rfl⟩ (by
      have e1 : RC.dn ⟨c.e, c.k, c.l ++ l2, ⟨some (q + q2), false, 0, false⟩⟩ = c.l.length * c.k.size + l2.length * c.k.size := by
        unfold RC.dn
        simp only [Option.getD_some]
        rw [hq, hq2, Nat.add_mul]
      rw [e1, flat_append]
      rw [hdn] at hdc
      exact DCs.app hout.1 (hdc.mono hGF fun _ _ => rfl) (hdc2.mono hGF fun _ _ => rfl)) hlim ty d
  refine ⟨v', w', G', h1, ?_⟩
  rw [app_deads]
  exact h2
end
end Go.Proofs.YtjjcjpmfkbfdfaaE


/- What is promised of a function; what is handed over and comes back. Conditions: none. -/
set_option linter.unusedVariables false
namespace Go.Proofs.YtjjcjpmfkbfdfaaE
open Go Go.RowKit
def ACR (w : World) (F : HF → Prop) (v : Value) (B : List Nat) : AC → Prop
  | .d x => Rd w F v x ∧ B = []
  | .own c => OwnR w F v c B
  | .xx => (v.oneCell' = true ∧ v.cells = #[v]) ∧ B = []
def ACs (w : World) (F : HF → Prop) : List Value → List AC → List Nat → Prop
  | [], [], B => B = []
  | v :: vs, c :: cs, B => ∃ B1 B2, ACR w F v B1 c ∧ ACs w F vs cs B2 ∧ B = B1 ++ B2
  | _, _, _ => False
def ArgR (w : World) (F : HF → Prop) (v : Value) (B hb : List Nat) : Arg → Prop
  | .v g cs => ∃ xs, v = mkV g xs ∧ v.cells = xs.toArray ∧ (g = false → xs.length = 1) ∧ ACs w F xs cs B ∧ hb = []
  | .p cs => ∃ (b : Nat) (arr : List Value) (ty : TypeId) (B1 : List Nat), v = .pointer (some ⟨b, 0, none⟩) ∧ w.heap[b]? = some (.cells arr.toArray ty (0, 0)) ∧ ACs w F arr cs B1 ∧ B = b :: B1 ∧ hb = [b]
def ArgsR (w : World) (F : HF → Prop) : List Value → List Arg → List Nat → List Nat → Prop
  | [], [], B, hb => B = [] ∧ hb = []
  | v :: vs, x :: xs, B, hb => ∃ B1 B2 h1 h2, ArgR w F v B1 h1 x ∧ ArgsR w F vs xs B2 h2 ∧ B = B1 ++ B2 ∧ hb = h1 ++ h2
  | _, _, _, _ => False
def retV (vs : List Value) : Value := match vs with
  | [v] => v
  | vs => .tuple vs.toArray
def ptrV (b : Nat) : Value := .pointer (some ⟨b, 0, none⟩)
def wrapV : Option (Nat × Bool) → List Value → List Value
  | none, vs => vs
  | some (f, false), vs => vs ++ [.func (.func f) #[] #[]]
  | some (_, true), [] => []
  | some (f, true), [v] => [.func (.func f) #[] #[v]]
  | some (f, true), v :: vs => v :: wrapV (some (f, true)) vs
theorem wrapV_none (vs : List Value) : wrapV none vs = vs := by simp [wrapV]
theorem wrapV_false (f : Nat) (vs : List Value) : wrapV (some (f, false)) vs = vs ++ [.func (.func f) #[] #[]] := by simp [wrapV]
theorem wrapV_cons (f : Nat) (v x : Value) (xs : List Value) : wrapV (some (f, true)) (v :: x :: xs) = v :: wrapV (some (f, true)) (x :: xs) := by simp [wrapV]
def NF (F : HF → Prop) (b : Nat) : Prop := ¬ F (.b b) ∧ ∀ k s, ¬ F (.h k b s)
def Valid (P : Program) (f : Nat) (E : Ent) : Prop :=
  (∃ fn, P.funcs[f]? = some fn ∧ fn.body.isSome = true ∧ (fn.name == "runtime.NumGoroutine") = false) ∧
  ∀ (w : World) (F : HF → Prop) (vs : List Value) (as : List Arg) (B hb : List Nat) (K : List Arg → List (List AC) → Prop),
    ArgsR w F vs as B hb → B.Nodup → (∀ b ∈ B, NF F b ∧ b < w.heap.size) → (∀ b : Nat, F (.b b) → b < w.heap.size) → ShOk w F → E.F as K →
    Calls P f (wrapV E.clo vs).toArray w fun e w' => ∃ rv rs bs F' B' hb', e = .returned (retV rv) ∧ K rs bs ∧ ArgsR w' F' (rv ++ hb.map ptrV) (rs ++ bs.map .p) B' hb' ∧ rv.length = rs.length ∧
      B'.Nodup ∧ (∀ b ∈ B', NF F' b ∧ b < w'.heap.size ∧ (b ∈ B ∨ w.heap.size ≤ b)) ∧ (∀ b, F b → F' b) ∧ (∀ b : Nat, F' (.b b) → b < w'.heap.size ∧ (F (.b b) ∨ b ∈ B ∨ w.heap.size ≤ b)) ∧
      Kp (fun b => b < w.heap.size ∧ b ∉ B ∧ ∀ k s, ¬ F (.h k b s)) w w' ∧ (∀ k g s, F' (.h k g s) → F (.h k g s) ∨ w.heap.size ≤ g) ∧ ShOk w' F'
def CallsOk (P : Program) (V : Env) : Prop := ∀ f E, look f V.calls = some E → Valid P f E
def iovC : List Value → List AC → List Value
  | v :: vs, .own _ :: as => v :: iovC vs as
  | _ :: vs, .d _ :: as => iovC vs as
  | _ :: vs, .xx :: as => iovC vs as
  | _, _ => []
def iovA : List Value → List Arg → List Value
  | v :: vs, .v _ cs :: as => iovC v.cells.toList cs ++ iovA vs as
  | _ :: vs, .p _ :: as => iovA vs as
  | _, _ => []
def ValidI (P : Program) (f : Nat) (E : EntI) : Prop :=
  (∃ fn, P.funcs[f]? = some fn ∧ fn.body.isSome = true ∧ (fn.name == "runtime.NumGoroutine") = false) ∧
  ∀ (w : World) (F : HF → Prop) (vs : List Value) (as : List Arg) (B : List Nat) (K : List Arg → List RC → Prop),
    ArgsR w F vs as B [] → B.Nodup → (∀ b ∈ B, NF F b ∧ b < w.heap.size) → (∀ b : Nat, F (.b b) → b < w.heap.size) → ShOk w F → E.F as K →
    Calls P f vs.toArray w fun e w' => ∃ rv rs cs F' B1 B2, e = .returned (retV rv) ∧ K rs cs ∧ ArgsR w' F' rv rs B1 [] ∧ ACs w' F' (iovA vs as) (cs.map .own) B2 ∧
      (B1 ++ B2).Nodup ∧ (∀ b ∈ B1 ++ B2, NF F' b ∧ b < w'.heap.size ∧ (b ∈ B ∨ w.heap.size ≤ b)) ∧ (∀ b, F b → F' b) ∧ (∀ b : Nat, F' (.b b) → b < w'.heap.size ∧ (F (.b b) ∨ b ∈ B ∨ w.heap.size ≤ b)) ∧
      Kp (fun b => b < w.heap.size ∧ b ∉ B ∧ ∀ k s, ¬ F (.h k b s)) w w' ∧ (∀ k g s, F' (.h k g s) → F (.h k g s) ∨ w.heap.size ≤ g) ∧ ShOk w' F'
def IosOk (P : Program) (V : Env) : Prop := ∀ f E, look f V.ioc = some E → ValidI P f E
structure AllOk (P : Program) (V : Env) : Prop where
  calls : CallsOk P V
  ios : IosOk P V
/-! ### what comes back is laid down -/
inductive OC (S : St) (dp : Bool) : List Nat → List AC → List Cm → List (Nat × Row) → List Nat → Prop
  | nil (ids : List Nat) : OC S dp ids [] [] [] ids
  | own {id : Nat} {ids : List Nat} {c : RC} {as : List AC} {r : Row} {cs : List Cm} {rs : List (Nat × Row)} {is : List Nat} : S.rows[id]? = some r → OC S dp ids as cs rs is →
      OC S dp (id :: ids) (.own c :: as) (.ref id (r.ep + 1) :: cs) ((id, ⟨r.ep + 1, some (c.nh dp)⟩) :: rs) is
  | dat {ids : List Nat} {x : AC} {as : List AC} {cs : List Cm} {rs : List (Nat × Row)} {is : List Nat} : OC S dp ids as cs rs is → OC S dp ids (x :: as) (acCm x :: cs) rs is
theorem ownCells_spec {S : St} {dp : Bool} : ∀ {as : List AC} {ids : List Nat} {K : List Cm → List (Nat × Row) → List Nat → Prop}, ownCells S dp ids as K → ∃ cs rs is, K cs rs is ∧ OC S dp ids as cs rs is := by
  intro as
  induction as with
  | nil => intro ids K h; cases ids <;> exact ⟨_, _, _, h, .nil _⟩
  | cons x as ih =>
    intro ids K h
    cases ids with
    | nil =>
      cases x <;> (
        simp only [ownCells] at h
        obtain ⟨cs, rs, is, h1, h2⟩ := ih h
        exact ⟨_, _, _, h1, .dat h2⟩)
    | cons id ids =>
      cases x with
      | d y =>
        simp only [ownCells] at h
        obtain ⟨cs, rs, is, h1, h2⟩ := ih h
        exact ⟨_, _, _, h1, .dat h2⟩
      | own c =>
        simp only [ownCells] at h
        split at h
        · rename_i r hr
          obtain ⟨cs, rs, is, h1, h2⟩ := ih h
          exact ⟨_, _, _, h1, .own hr h2⟩
        · exact h.elim
      | xx =>
        simp only [ownCells] at h
        obtain ⟨cs, rs, is, h1, h2⟩ := ih h
        exact ⟨_, _, _, h1, .dat h2⟩
structure HE where
  id : Nat
  v : Value
  xs : List Value
  b : List Nat
def HEs (H : List HE) : List Nat := H.flatMap (·.b)
theorem HEs_cons (p : HE) (H : List HE) : HEs (p :: H) = p.b ++ HEs H := rfl
theorem HEs_append (H H' : List HE) : HEs (H ++ H') = HEs H ++ HEs H' := by simp [HEs]
def HE.In (G : Gh) (p : HE) : Prop := G.hd p.id = p.v ∧ (∀ b ∈ p.b, G.who b = .rw p.id) ∧ ∀ j u, p.xs[j]? = some u → G.inn p.id j = u
def Takes (w : World) (F : HF → Prop) (B : List Nat) (vs : List Value) (cs : List Cm) (rs : List (Nat × Row)) (H : List HE) : Prop :=
  H.map (·.id) = rs.map (·.1) ∧ (HEs H).Sublist B ∧
  ∀ (G : Gh) (rows : List Row), (∀ b, F b → G.F b) → (∀ p ∈ H, p.In G) → (∀ b ∈ B, b ∉ HEs H → G.F b) → (∀ p ∈ rs, rows[p.1]? = some p.2) →
    F2 (CR w G rows) vs cs ∧ ∀ p ∈ rs, RowR w G p.1 p.2
theorem OwnX.row {w : World} {F : HF → Prop} {v : Value} {c : RC} {xs : List Value} {B : List Nat} (h : OwnX w F v c xs B) (hn : B.Nodup) {G : Gh} (hF : ∀ b, F b → G.F b) {id : Nat} (hin : (⟨id, v, xs, B⟩ : HE).In G) (dp : Bool) (ep : Nat) : RowR w G id ⟨ep, some (c.nh dp)⟩ := by
  intro c' hc'
  cases hc'
  obtain ⟨h1, h2, h3⟩ := hin
  dsimp only at h1 h2 h3
  rw [h1]
  exact ⟨xs, B, (h.mono ⟨hF, fun _ _ => rfl⟩ fun _ _ => rfl).nh dp, hn, h2, fun j hj k l _ => by
    obtain ⟨_, Bi, h4, _⟩ := h.nh dp
    have := h4.len.2
    have hx : xs[j]? = some (xs[j]'(by omega)) := List.getElem?_eq_getElem _
    rw [hx, h3 j _ hx]⟩
theorem takes_cells {S : St} {dp : Bool} {w : World} {F : HF → Prop} {ids : List Nat} {as : List AC} {cs : List Cm} {rs : List (Nat × Row)} {is : List Nat} (ho : OC S dp ids as cs rs is) :
    ∀ {vs : List Value} {B : List Nat}, ACs w F vs as B → B.Nodup → ∃ H, Takes w F B vs cs rs H := by
  induction ho with
  | nil ids =>
    intro vs B ha _
    cases vs with
    | nil => exact ⟨[], rfl, by simp [HEs], fun G rows _ _ _ _ => ⟨.nil, fun p hp => by cases hp⟩⟩
    | cons => exact ha.elim
  | @own id ids c as r cs rs is hr _ ih =>
    intro vs B ha hn
    cases vs with
    | nil => exact ha.elim
    | cons v vs =>
      obtain ⟨B1, B2, ⟨xs, h1⟩, h2, rfl⟩ := ha
      obtain ⟨hn1, hn2, hdis⟩ := List.nodup_append.1 hn
      obtain ⟨H, hH1, hH2, hH3⟩ := ih h2 hn2
      refine ⟨⟨id, v, xs, B1⟩ :: H, by simp [hH1], by rw [HEs_cons]; exact List.Sublist.append (List.Sublist.refl _) hH2, fun G rows g1 g2 g3 g4 => ?_⟩
      obtain ⟨f1, f2⟩ := hH3 G rows g1 (fun p hp => g2 p (List.mem_cons_of_mem _ hp)) (fun b hb hnb => g3 b (List.mem_append_right _ hb) (by
        rw [HEs_cons]
        intro hb2
        rcases List.mem_append.1 hb2 with h3 | h3
        · exact hdis b h3 b hb rfl
        · exact hnb h3)) (fun p hp => g4 p (List.mem_cons_of_mem _ hp))
      have hh := g2 ⟨id, v, xs, B1⟩ (by simp)
      have h1c := h1.one
      refine ⟨.cons ⟨h1c.1, h1c.2, fun r1 hr1 => ?_⟩ f1, fun p hp => ?_⟩
      · rw [g4 (id, ⟨r.ep + 1, some (c.nh dp)⟩) (by simp)] at hr1
        cases hr1
        exact ⟨Nat.le_refl _, fun _ _ => hh.1.symm⟩
      · rcases List.mem_cons.1 hp with rfl | hp
        · exact h1.row hn1 g1 hh dp _
        · exact f2 p hp
  | @dat ids x as cs rs is _ ih =>
    intro vs B ha hn
    cases vs with
    | nil => exact ha.elim
    | cons v vs =>
      obtain ⟨B1, B2, h1, h2, rfl⟩ := ha
      obtain ⟨hn1, hn2, hdis⟩ := List.nodup_append.1 hn
      obtain ⟨H, hH1, hH2, hH3⟩ := ih h2 hn2
      refine ⟨H, hH1, hH2.trans (List.sublist_append_right _ _), fun G rows g1 g2 g3 g4 => ?_⟩
      obtain ⟨f1, f2⟩ := hH3 G rows g1 g2 (fun b hb hnb => g3 b (List.mem_append_right _ hb) hnb) g4
      refine ⟨.cons ?_ f1, f2⟩
      cases x with
      | d y => exact h1.1.mono g1 fun _ _ => rfl
      | own c => exact OwnR.data h1 g1 fun b hb => g3 b (List.mem_append_left _ hb) fun hb2 => hdis b hb b (hH2.subset hb2) rfl
      | xx => exact h1.1
inductive RT (S : St) (dp : Bool) : List Nat → List Arg → List (Bool × List Cm) → List (Nat × Row) → Prop
  | nil (ids : List Nat) : RT S dp ids [] [] []
  | cons {ids is : List Nat} {g : Bool} {as : List AC} {rs : List Arg} {cs : List Cm} {r1 r2 : List (Nat × Row)} {l : List (Bool × List Cm)} : OC S dp ids as cs r1 is → RT S dp is rs l r2 → RT S dp ids (.v g as :: rs) ((g, cs) :: l) (r1 ++ r2)
theorem resT_spec {S : St} {dp : Bool} : ∀ {rs : List Arg} {ids : List Nat} {K : List (Bool × List Cm) → List (Nat × Row) → Prop}, resT S dp ids rs K → ∃ l rows, K l rows ∧ RT S dp ids rs l rows := by
  intro rs
  induction rs with
  | nil => intro ids K h; exact ⟨_, _, h, .nil _⟩
  | cons x rs ih =>
    intro ids K h
    cases x with
    | p cs => exact h.elim
    | v g cs =>
      simp only [resT] at h
      obtain ⟨ms, r1, is, h1, h2⟩ := ownCells_spec h
      obtain ⟨l, r2, h3, h4⟩ := ih h1
      exact ⟨_, _, h3, .cons h2 h4⟩
theorem ACs.len {w : World} {F : HF → Prop} : ∀ {vs : List Value} {as : List AC} {B : List Nat}, ACs w F vs as B → vs.length = as.length
  | [], [], _, _ => rfl
  | _ :: _, _ :: _, _, h => by obtain ⟨_, _, _, h2, _⟩ := h; simp [ACs.len h2]
  | [], _ :: _, _, h => h.elim
  | _ :: _, [], _, h => h.elim
def TakesV (w : World) (F : HF → Prop) (B : List Nat) (vs : List Value) (l : List (Bool × List Cm)) (rs : List (Nat × Row)) (H : List HE) : Prop :=
  H.map (·.id) = rs.map (·.1) ∧ (HEs H).Sublist B ∧
  ∀ (G : Gh) (rows : List Row), (∀ b, F b → G.F b) → (∀ p ∈ H, p.In G) → (∀ b ∈ B, b ∉ HEs H → G.F b) → (∀ p ∈ rs, rows[p.1]? = some p.2) →
    F2 (fun v (p : Bool × List Cm) => VR w G rows v p.1 p.2) vs l ∧ ∀ p ∈ rs, RowR w G p.1 p.2
theorem takes_args {S : St} {dp : Bool} {w : World} {F : HF → Prop} {ids : List Nat} {as : List Arg} {l : List (Bool × List Cm)} {rs : List (Nat × Row)} (ho : RT S dp ids as l rs) :
    ∀ {vs : List Value} {B hb : List Nat}, ArgsR w F vs as B hb → B.Nodup → hb = [] ∧ ∃ H, TakesV w F B vs l rs H := by
  induction ho with
  | nil ids =>
    intro vs B hb ha _
    cases vs with
    | nil => obtain ⟨rfl, rfl⟩ := ha; exact ⟨rfl, [], rfl, by simp [HEs], fun G rows _ _ _ _ => ⟨.nil, fun p hp => by cases hp⟩⟩
    | cons => exact ha.elim
  | @cons ids is g as rs cs r1 r2 l hoc _ ih =>
    intro vs B hb ha hn
    cases vs with
    | nil => exact ha.elim
    | cons v vs =>
      obtain ⟨B1, B2, h1, h2, ⟨xs, hv, _, hx1, hx2, rfl⟩, ha2, rfl, rfl⟩ := ha
      obtain ⟨hn1, hn2, hdis⟩ := List.nodup_append.1 hn
      obtain ⟨hb0, H2, q1, q2, q3⟩ := ih ha2 hn2
      subst hb0
      obtain ⟨H1, p1, p2, p3⟩ := takes_cells hoc hx2 hn1
      refine ⟨rfl, H1 ++ H2, by simp [p1, q1], by rw [HEs_append]; exact List.Sublist.append p2 q2, fun G rows g1 g2 g3 g4 => ?_⟩
      obtain ⟨f1, f2⟩ := p3 G rows g1 (fun p hp => g2 p (List.mem_append_left _ hp)) (fun b hb hnb => g3 b (List.mem_append_left _ hb) (by
        rw [HEs_append]
        intro hb2
        rcases List.mem_append.1 hb2 with h3 | h3
        · exact hnb h3
        · exact hdis b hb b (q2.subset h3) rfl)) (fun p hp => g4 p (List.mem_append_left _ hp))
      obtain ⟨f3, f4⟩ := q3 G rows g1 (fun p hp => g2 p (List.mem_append_right _ hp)) (fun b hb hnb => g3 b (List.mem_append_right _ hb) (by
        rw [HEs_append]
        intro hb2
        rcases List.mem_append.1 hb2 with h3 | h3
        · exact hdis b (p2.subset h3) b hb rfl
        · exact hnb h3)) (fun p hp => g4 p (List.mem_append_right _ hp))
      refine ⟨.cons ?_ f3, fun p hp => ?_⟩
      · rw [hv]; exact VR.mk f1 hx1
      · rcases List.mem_append.1 hp with hp | hp
        · exact f2 p hp
        · exact f4 p hp
end Go.Proofs.YtjjcjpmfkbfdfaaE


/- What is handed over; who owns what behind a call. Conditions: none. -/
set_option linter.unusedVariables false
namespace Go.Proofs.YtjjcjpmfkbfdfaaE
open Go Go.RowKit
theorem find_key {α β : Type} [DecidableEq β] (f : α → Option β) : ∀ (l : List α), (l.filterMap f).Nodup → ∀ x ∈ l, ∀ b, f x = some b → l.find? (fun y => f y == some b) = some x
  | [], _, x, hx, _, _ => by cases hx
  | y :: l, hn, x, hx, b, hb => by
    rw [List.find?_cons]
    by_cases hy : f y = some b
    · rw [show (f y == some b) = true by simp [hy]]
      rcases List.mem_cons.1 hx with rfl | hx
      · rfl
      · rw [List.filterMap_cons, hy] at hn
        exact absurd (List.mem_filterMap.2 ⟨x, hx, hb⟩) (List.nodup_cons.1 hn).1
    · rw [show (f y == some b) = false by simp [hy]]
      rcases List.mem_cons.1 hx with rfl | hx
      · exact absurd hb hy
      · refine find_key f l ?_ x hx b hb
        rw [List.filterMap_cons] at hn
        cases hf : f y with
        | none => rw [hf] at hn; exact hn
        | some z => rw [hf] at hn; exact (List.nodup_cons.1 hn).2
theorem find_block : ∀ {H : List HE}, (HEs H).Nodup → ∀ {p : HE}, p ∈ H → ∀ {b : Nat}, b ∈ p.b → H.find? (fun q => q.b.contains b) = some p
  | [], _, p, hp, _, _ => by cases hp
  | q :: H, hn, p, hp, b, hb => by
    rw [HEs_cons] at hn
    obtain ⟨n1, n2, n3⟩ := List.nodup_append.1 hn
    rw [List.find?_cons]
    rcases List.mem_cons.1 hp with rfl | hp
    · rw [show p.b.contains b = true by simpa using hb]
    · have hq : q.b.contains b = false := by
        cases hc : q.b.contains b with
        | false => rfl
        | true => exact absurd rfl (n3 b (by simpa using hc) b (List.mem_flatMap.2 ⟨p, hp, hb⟩))
      rw [hq]
      exact find_block n2 hp hb
theorem find_block_none {H : List HE} {b : Nat} (h : b ∉ HEs H) : H.find? (fun q => q.b.contains b) = none := by
  rw [List.find?_eq_none]
  intro p hp hb
  exact h (List.mem_flatMap.2 ⟨p, hp, by simpa using hb⟩)
theorem find_name {H : List HE} (hn : (H.map (·.id)).Nodup) {p : HE} (hp : p ∈ H) : H.find? (fun q => q.id == p.id) = some p := by
  have := find_key (fun q : HE => some q.id) H (by rw [List.filterMap_eq_map']; exact hn) p hp p.id rfl
  simpa using this
theorem find_name_none {H : List HE} {id : Nat} (h : id ∉ H.map (·.id)) : H.find? (fun q => q.id == id) = none := by
  rw [List.find?_eq_none]
  intro p hp hb
  exact h (List.mem_map.2 ⟨p, hp, by simpa using hb⟩)
section
variable {V : Env} {w0 : World} {prot : Pro} {S : St} {G : Gh} {a : Act} {w : World}
def lent (G : Gh) (ls : List Nat) : HF → Prop
  | .b b => G.who b = .fz ∨ ∃ id ∈ ls, G.who b = .rw id
  | .h k g s => G.sh k g s
theorem lent_of {G : Gh} {L : List Nat} : ∀ x, G.F x → lent G L x := fun x hx => by
  cases x with
  | b n => exact .inl hx
  | h k g s => exact hx
theorem argCells_ok (h : Inv w0 prot S G a w) (own sk : List (Nat × Nat)) (j : Nat) (L : List Nat) : ∀ {cs : List Cm} {xs : List Value} {i : Nat} {as : List AC} {ls gs : List Nat}, F2 (CR w G S.rows) xs cs → argCells S own sk j i cs = some (as, ls, gs) → (∀ id ∈ ls, id ∈ L) →
    ∃ B, ACs w (lent G L) xs as B ∧ (∀ b ∈ B, ∃ id ∈ gs, G.who b = .rw id) ∧ (gs.Nodup → B.Nodup) ∧ (∀ id ∈ gs, ∃ r c, S.rows[id]? = some r ∧ r.c = some c) ∧ ∀ id ∈ ls, ∃ r c, S.rows[id]? = some r ∧ r.c = some c := by
  intro cs
  induction cs with
  | nil =>
    intro xs i as ls gs hf ha _
    cases hf
    simp only [argCells, Option.some.injEq, Prod.mk.injEq] at ha
    obtain ⟨rfl, rfl, rfl⟩ := ha
    exact ⟨[], rfl, fun b hb => (by cases hb), fun _ => List.nodup_nil, fun _ h => (by cases h), fun _ h => (by cases h)⟩
  | cons c cs ih =>
    intro xs i as ls gs hf ha hL
    cases hf with
    | @cons v _ xs _ hv hf =>
      simp only [argCells] at ha
      split at ha
      · simp at ha
      · rename_i as' ls' gs' ha'
        split at ha
        · cases ha
          obtain ⟨B, h1, h2, h3, h4, h5⟩ := ih hf ha' hL
          refine ⟨B, ⟨[], B, ⟨?_, rfl⟩, h1, rfl⟩, h2, h3, h4, h5⟩
          cases c with
          | d x => exact ⟨hv.one, hv.cells⟩
          | dead => exact hv
          | ref id ep => exact ⟨hv.1, hv.2.1⟩
        cases c with
        | d x =>
          simp only at ha
          split at ha
          · simp at ha
          · cases ha
            obtain ⟨B, h1, h2, h3, h4, h5⟩ := ih hf ha' hL
            exact ⟨B, ⟨[], B, ⟨hv.mono lent_of fun _ _ => rfl, rfl⟩, h1, rfl⟩, h2, h3, h4, h5⟩
        | dead => simp at ha
        | ref id ep =>
          simp only at ha
          split at ha
          · rename_i c hc
            obtain ⟨r, hr, he, hrc⟩ := live_spec hc
            have hvh := (hv.2.2 r hr).2 he (by simp [hrc])
            obtain ⟨zs, Bo, hown, hBn, htag, _⟩ := h.row id r hr c hrc
            rw [← hvh] at hown
            split at ha
            · cases ha
              obtain ⟨B, h1, h2, h3, h4, h5⟩ := ih hf ha' hL
              refine ⟨Bo ++ B, ⟨Bo, B, ⟨zs, (hown.mono ⟨lent_of, fun _ _ => rfl⟩ fun _ _ => rfl).nh false⟩, h1, rfl⟩, fun b hb => ?_, fun hn => ?_, fun i hi => ?_, h5⟩
              · rcases List.mem_append.1 hb with hb | hb
                · exact ⟨id, by simp, htag b hb⟩
                · obtain ⟨i, hi, hw⟩ := h2 b hb; exact ⟨i, by simp [hi], hw⟩
              · obtain ⟨hn1, hn2⟩ := List.nodup_cons.1 hn
                refine List.nodup_append.2 ⟨hBn, h3 hn2, fun b hb b' hb' e => ?_⟩
                subst e
                obtain ⟨i, hi, hw⟩ := h2 b hb'
                rw [htag b hb] at hw
                cases hw
                exact hn1 hi
              · rcases List.mem_cons.1 hi with rfl | hi
                · exact ⟨r, c, hr, hrc⟩
                · exact h4 i hi
            · cases ha
              obtain ⟨B, h1, h2, h3, h4, h5⟩ := ih hf ha' fun i hi => hL i (by simp [hi])
              refine ⟨B, ⟨[], B, ⟨hown.data lent_of fun b hb => .inr ⟨id, hL id (by simp), htag b hb⟩, rfl⟩, h1, rfl⟩, h2, h3, h4, fun i hi => ?_⟩
              rcases List.mem_cons.1 hi with rfl | hi
              · exact ⟨r, c, hr, hrc⟩
              · exact h5 i hi
          · simp at ha
theorem argsT_ok (h : Inv w0 prot S G a w) (own sk : List (Nat × Nat)) (L : List Nat) : ∀ {ts : List T} {vs : List Value} {j : Nat} {as : List Arg} {ls gs : List Nat} {bs : List (Nat × Nat)}, F2 (TR w G S.rows S.boxes) vs ts → argsT S own sk j ts = some (as, ls, gs, bs) → (∀ id ∈ ls, id ∈ L) →
    ∃ B hb, ArgsR w (lent G L) vs as B hb ∧ hb = bs.map (fun p => G.bk p.1) ∧ (∀ b ∈ B, (∃ id ∈ gs, G.who b = .rw id) ∨ b ∈ hb) ∧ (∀ b ∈ hb, b ∈ B) ∧ (gs.Nodup → (bs.map (·.1)).Nodup → B.Nodup) ∧
      (∀ id ∈ gs, ∃ r c, S.rows[id]? = some r ∧ r.c = some c) ∧ (∀ id ∈ ls, ∃ r c, S.rows[id]? = some r ∧ r.c = some c) ∧ ∀ p ∈ bs, ∃ cs, S.box p.1 p.2 = some cs ∧ G.who (G.bk p.1) = .bx p.1 := by
  intro ts
  induction ts with
  | nil =>
    intro vs j as ls gs bs hf ha _
    cases hf
    simp only [argsT, Option.some.injEq, Prod.mk.injEq] at ha
    obtain ⟨rfl, rfl, rfl, rfl⟩ := ha
    exact ⟨[], [], ⟨rfl, rfl⟩, rfl, fun _ h => (by cases h), fun _ h => (by cases h), fun _ _ => List.nodup_nil, fun _ h => (by cases h), fun _ h => (by cases h), fun _ h => (by cases h)⟩
  | cons t ts ih =>
    intro vs j as ls gs bs hf ha hL
    cases hf with
    | @cons v _ vs _ hv hf =>
      simp only [argsT] at ha
      split at ha
      · simp at ha
      · rename_i as' ls' gs' bs' ha'
        split at ha
        · rename_i g cs
          split at ha
          · rename_i x l m hx
            cases ha
            obtain ⟨B2, hb2, p1, p2, p3, p4, p5, p6, p7, p8⟩ := ih hf ha' fun i hi => hL i (by simp [hi])
            obtain ⟨xs, q1, q2, q3, q4⟩ := VR.open hv
            obtain ⟨B1, r1, r2, r3, r4, r5⟩ := argCells_ok h own sk j L q2 hx fun i hi => hL i (by simp [hi])
            refine ⟨B1 ++ B2, hb2, ⟨B1, B2, [], hb2, ⟨xs, q1, q3, q4, r1, rfl⟩, p1, rfl, rfl⟩, p2, fun b hb => ?_, fun b hb => List.mem_append_right _ (p4 b hb), fun n1 n2 => ?_, fun i hi => ?_, fun i hi => ?_, p8⟩
            · rcases List.mem_append.1 hb with hb | hb
              · obtain ⟨i, hi, hw⟩ := r2 b hb; exact .inl ⟨i, by simp [hi], hw⟩
              · rcases p3 b hb with ⟨i, hi, hw⟩ | hb
                · exact .inl ⟨i, by simp [hi], hw⟩
                · exact .inr hb
            · obtain ⟨n3, n4, n5⟩ := List.nodup_append.1 n1
              refine List.nodup_append.2 ⟨r3 n3, p5 n4 n2, fun b hb b' hb' e => ?_⟩
              subst e
              obtain ⟨i, hi, hw⟩ := r2 b hb
              rcases p3 b hb' with ⟨i', hi', hw'⟩ | hb'
              · rw [hw] at hw'; cases hw'; exact n5 i hi i hi' rfl
              · rw [p2] at hb'
                obtain ⟨p, hp, rfl⟩ := List.mem_map.1 hb'
                obtain ⟨_, _, hw'⟩ := p8 p hp
                rw [hw] at hw'; simp at hw'
            · rcases List.mem_append.1 hi with hi | hi
              · exact r4 i hi
              · exact p6 i hi
            · rcases List.mem_append.1 hi with hi | hi
              · exact r5 i hi
              · exact p7 i hi
          · simp at ha
        · rename_i b ep
          split at ha
          · rename_i cs hcs
            split at ha
            · rename_i x l m hx
              cases ha
              obtain ⟨B2, hb2, p1, p2, p3, p4, p5, p6, p7, p8⟩ := ih hf ha' fun i hi => hL i (by simp [hi])
              obtain ⟨BB, hB, he, hc⟩ := box_spec hcs
              have hvv := (hv BB hB).2 he (by simp [hc])
              obtain ⟨hw, arr, ty, hh, q2⟩ := h.box b BB hB cs hc
              obtain ⟨B1, r1, r2, r3, r4, r5⟩ := argCells_ok h own sk j L q2 hx fun i hi => hL i (by simp [hi])
              refine ⟨(G.bk b :: B1) ++ B2, G.bk b :: hb2, ⟨G.bk b :: B1, B2, [G.bk b], hb2, ⟨G.bk b, arr, ty, B1, hvv, hh, r1, rfl, rfl⟩, p1, rfl, rfl⟩, by simp [p2], fun b' hb => ?_, fun b' hb => ?_, fun n1 n2 => ?_, fun i hi => ?_, fun i hi => ?_, fun p hp => ?_⟩
              · rcases List.mem_append.1 hb with hb | hb
                · rcases List.mem_cons.1 hb with rfl | hb
                  · exact .inr (by simp)
                  · obtain ⟨i, hi, hw⟩ := r2 b' hb; exact .inl ⟨i, by simp [hi], hw⟩
                · rcases p3 b' hb with ⟨i, hi, hw⟩ | hb
                  · exact .inl ⟨i, by simp [hi], hw⟩
                  · exact .inr (by simp [hb])
              · rcases List.mem_cons.1 hb with rfl | hb
                · simp
                · exact List.mem_append_right _ (p4 b' hb)
              · obtain ⟨n3, n4, n5⟩ := List.nodup_append.1 n1
                rw [List.map_cons, List.nodup_cons] at n2
                have boxOut : G.bk b ∉ B2 := by
                  intro hb
                  rcases p3 _ hb with ⟨i, hi, hw'⟩ | hb
                  · rw [hw] at hw'; simp at hw'
                  · rw [p2] at hb
                    obtain ⟨p, hp, hpe⟩ := List.mem_map.1 hb
                    obtain ⟨_, _, hw'⟩ := p8 p hp
                    rw [hpe, hw] at hw'
                    cases hw'
                    exact n2.1 (List.mem_map.2 ⟨p, hp, rfl⟩)
                refine List.nodup_append.2 ⟨List.nodup_cons.2 ⟨fun hb => ?_, r3 n3⟩, p5 n4 n2.2, fun b1 hb b' hb' e => ?_⟩
                · obtain ⟨i, hi, hw'⟩ := r2 _ hb
                  rw [hw] at hw'; simp at hw'
                · subst e
                  rcases List.mem_cons.1 hb with rfl | hb
                  · exact boxOut hb'
                  · obtain ⟨i, hi, hw'⟩ := r2 b1 hb
                    rcases p3 b1 hb' with ⟨i', hi', hw2⟩ | hb'
                    · rw [hw'] at hw2; cases hw2; exact n5 i hi i hi' rfl
                    · rw [p2] at hb'
                      obtain ⟨p, hp, rfl⟩ := List.mem_map.1 hb'
                      obtain ⟨_, _, hw2⟩ := p8 p hp
                      rw [hw'] at hw2; simp at hw2
              · rcases List.mem_append.1 hi with hi | hi
                · exact r4 i hi
                · exact p6 i hi
              · rcases List.mem_append.1 hi with hi | hi
                · exact r5 i hi
                · exact p7 i hi
              · rcases List.mem_cons.1 hp with rfl | hp
                · exact ⟨cs, hcs, hw⟩
                · exact p8 p hp
            · simp at ha
          · simp at ha
        · simp at ha
end
end Go.Proofs.YtjjcjpmfkbfdfaaE


/- The state behind a call. Conditions: none. -/
set_option linter.unusedVariables false
namespace Go.Proofs.YtjjcjpmfkbfdfaaE
open Go Go.RowKit
open Classical in
noncomputable def callGh (G : Gh) (H : List HE) (np : Option (Nat × Nat)) (Fr : HF → Prop) (B : List Nat) (D : List Nat) : Gh where
  who b := if (∃ x, G.who b = .bx x) then G.who b else match H.find? (fun q => q.b.contains b) with
    | some p => .rw p.id
    | none => if (∃ x0, np = some (b, x0)) then (match np with | some (_, x0) => .bx x0 | none => .ot)
      else if Fr (.b b) ∨ b ∈ B then .fz else if (∃ k s, Fr (.h k b s)) then .sh else if (∃ id ∈ D, G.who b = .rw id) then .ot else G.who b
  bk x := match np with
    | some (b0, x0) => if x = x0 then b0 else G.bk x
    | none => G.bk x
  hd id := match H.find? (fun q => q.id == id) with
    | some p => p.v
    | none => G.hd id
  inn id j := match H.find? (fun q => q.id == id) with
    | some p => p.xs.getD j undef
    | none => G.inn id j
  sh := fun k g s => Fr (.h k g s)
structure Back (w0 : World) (prot : Pro) (S : St) (G : Gh) (a : Act) (w w' : World) (H : List HE) (np : Option (Nat × Nat)) (Fr : HF → Prop) (B hb D : List Nat) (bs : List (Nat × Nat)) (G' : Gh) (rows' : List Row) (boxes' : List Box)
    (rows : List (Nat × Row)) (bx : List (Nat × Box)) : Prop where
  keeps : Keeps w G S.rows S.boxes w' G' rows' boxes'
  inv : ∀ d v t, TR w' G' rows' boxes' v t → (∀ p ∈ rows, RowR w' G' p.1 p.2) → (∀ p ∈ bx, ∀ cs, p.2.c = some cs → BoxR w' G' rows' p.1 cs) → Inv w0 prot ⟨setD d t S.slots, rows', boxes'⟩ G' (a.put d v) w'
  fr : ∀ b, Fr b → G'.F b
  hd : ∀ p ∈ H, p.In G'
  rest : ∀ b ∈ B, b ∉ hb → b ∉ HEs H → (∀ x0, np ≠ some (b, x0)) → G'.F (.b b)
  rows : ∀ p ∈ rows, rows'[p.1]? = some p.2
  box : ∀ p ∈ bs, G'.bk p.1 = G.bk p.1 ∧ G'.who (G.bk p.1) = .bx p.1
  np : ∀ b0 x0, np = some (b0, x0) → G'.bk x0 = b0 ∧ G'.who b0 = .bx x0
open Classical in
theorem call_core {w0 : World} {prot : Pro} {S : St} {G : Gh} {a : Act} {w w' : World} (h : Inv w0 prot S G a w) (Fr : HF → Prop) (B hb D : List Nat) (bs : List (Nat × Nat)) (H : List HE) (np : Option (Nat × Nat)) (rows : List (Nat × Row)) (bx : List (Nat × Box))
    (hFr1 : ∀ x, G.F x → Fr x) (hFr2 : ∀ b : Nat, Fr (.b b) → b < w'.heap.size ∧ (G.F (.b b) ∨ (∃ id ∈ D, G.who b = .rw id) ∨ w.heap.size ≤ b))
    (hFs : ∀ k g s, Fr (.h k g s) → G.sh k g s ∨ w.heap.size ≤ g) (hso : ShOk w' Fr)
    (hBf : ∀ b ∈ B, NF Fr b ∧ b < w'.heap.size ∧ ((∃ id ∈ D, G.who b = .rw id) ∨ b ∈ hb ∨ w.heap.size ≤ b))
    (hhb : hb = bs.map fun p => G.bk p.1) (hbl : ∀ p ∈ bs, ∃ cs, S.box p.1 p.2 = some cs ∧ G.who (G.bk p.1) = .bx p.1)
    (hkp : w'.os = w.os ∧ w'.tape = w.tape ∧ w'.output = w.output ∧ w.heap.size ≤ w'.heap.size) (hsame : ∀ b, b < w.heap.size → (∀ id ∈ D, G.who b ≠ .rw id) → b ∉ hb → G.who b ≠ .sh → w'.heap[b]? = w.heap[b]?)
    (hD : ∀ id ∈ D, ∃ r c, S.rows[id]? = some r ∧ r.c = some c)
    (hH1 : H.map (·.id) = rows.map (·.1)) (hH2 : (rows.map (·.1)).Nodup) (hH3 : (HEs H).Nodup) (hH4 : ∀ b ∈ HEs H, b ∈ B ∧ b ∉ hb)
    (hrows : ∀ p ∈ rows, ∃ r, S.rows[p.1]? = some r ∧ p.2.ep = r.ep + 1 ∧ ∀ c, p.2.c = some c → c.m.h = false)
    (hnp : ∀ b0 x0, np = some (b0, x0) → b0 ∈ B ∧ b0 ∉ hb ∧ b0 ∉ HEs H ∧ ∃ Bx, S.boxes[x0]? = some Bx ∧ x0 ∉ bs.map (·.1) ∧ x0 ∈ bx.map (·.1) ∧ ∀ q ∈ bx, q.1 = x0 → q.2.ep = Bx.ep + 1)
    (hbx : ∀ q ∈ bx, (∃ p ∈ bs, q.1 = p.1 ∧ q.2.ep = p.2 ∧ q.2.c.isSome = true) ∨ ∃ b0, np = some (b0, q.1)) (hbs : ∀ p ∈ bs, p.1 ∈ bx.map (·.1)) :
    ∃ G', Back w0 prot S G a w w' H np Fr B hb D bs G' ((deads S D ++ rows).foldl (fun r p => r.set p.1 p.2) S.rows) (bx.foldl (fun r p => r.set p.1 p.2) S.boxes) rows bx := by
  let G' := callGh G H np Fr B D
  -- who is who
  have who_bx : ∀ b x, G.who b = .bx x → G'.who b = .bx x := fun b x hx => by
    show (if _ then _ else _) = _
    rw [if_pos ⟨x, hx⟩, hx]
  have bx_hb : ∀ b ∈ B, ∀ x, G.who b = .bx x → b ∈ hb := fun b hb0 x hx => by
    rcases (hBf b hb0).2.2 with ⟨id, _, h1⟩ | h1 | h1
    · rw [hx] at h1; simp at h1
    · exact h1
    · rw [h.who_new h1] at hx; simp at hx
  have who_H : ∀ p ∈ H, ∀ b ∈ p.b, G'.who b = .rw p.id := fun p hp b hb0 => by
    have hm : b ∈ HEs H := List.mem_flatMap.2 ⟨p, hp, hb0⟩
    have hnb : ¬ ∃ x, G.who b = .bx x := fun ⟨x, hx⟩ => (hH4 b hm).2 (bx_hb b (hH4 b hm).1 x hx)
    show (if _ then _ else _) = _
    rw [if_neg hnb, find_block hH3 hp hb0]
  have who_np : ∀ b0 x0, np = some (b0, x0) → G'.who b0 = .bx x0 := fun b0 x0 hn => by
    obtain ⟨h1, h2, h3, _⟩ := hnp b0 x0 hn
    have hnb : ¬ ∃ x, G.who b0 = .bx x := fun ⟨x, hx⟩ => h2 (bx_hb b0 h1 x hx)
    show (if _ then _ else _) = _
    rw [if_neg hnb, find_block_none h3]
    dsimp only
    rw [if_pos ⟨x0, hn⟩, hn]
  have who_fz : ∀ b, (¬ ∃ x, G.who b = .bx x) → b ∉ HEs H → (∀ x0, np ≠ some (b, x0)) → (Fr (.b b) ∨ b ∈ B) → G'.who b = .fz := fun b h1 h2 h3 h4 => by
    show (if _ then _ else _) = _
    rw [if_neg h1, find_block_none h2]
    dsimp only
    rw [if_neg (fun ⟨x0, hx⟩ => h3 x0 hx), if_pos h4]
  have fr_notB : ∀ b : Nat, Fr (.b b) → b ∉ B := fun b hb0 hB => (hBf b hB).1.1 hb0
  have fr_notbx : ∀ b : Nat, Fr (.b b) → ¬ ∃ x, G.who b = .bx x := fun b hb0 ⟨x, hx⟩ => by
    rcases (hFr2 b hb0).2 with h1 | ⟨id, _, h1⟩ | h1
    · have h1' : G.who b = .fz := h1
      rw [hx] at h1'; simp at h1'
    · rw [hx] at h1; simp at h1
    · rw [h.who_new h1] at hx; simp at hx
  have fr : ∀ b : Nat, Fr (.b b) → G'.who b = .fz := fun b hb0 =>
    who_fz b (fr_notbx b hb0) (fun hm => fr_notB b hb0 (hH4 b hm).1) (fun x0 hx => fr_notB b hb0 (hnp b x0 hx).1) (.inl hb0)
  have frF : ∀ x, Fr x → G'.F x := fun x hx => by
    cases x with
    | b n => exact fr n hx
    | h k g s => exact hx
  have who_sh : ∀ k g s, Fr (.h k g s) → G'.who g = .sh := fun k g s hg => by
    have hnb : ¬ ∃ x, G.who g = .bx x := fun ⟨x, hx⟩ => by
      rcases hFs k g s hg with h1 | h1
      · rw [h.sw k g s h1] at hx; cases hx
      · rw [h.who_new h1] at hx; cases hx
    have hnB : g ∉ B := fun hB => (hBf g hB).1.2 k s hg
    show (if _ then _ else _) = _
    rw [if_neg hnb, find_block_none fun hm => hnB (hH4 g hm).1]
    dsimp only
    rw [if_neg (fun ⟨x0, hx0⟩ => hnB (hnp g x0 hx0).1), if_neg (fun hc => hc.elim (hso.df k g s hg) hnB), if_pos ⟨k, s, hg⟩]
  have who_old : ∀ b, b < w.heap.size → (∀ id ∈ D, G.who b ≠ .rw id) → G.who b ≠ .fz → (¬ ∃ x, G.who b = .bx x) → G.who b ≠ .sh → G'.who b = G.who b := fun b hlt hd hf hx hs => by
    have hnB : b ∉ B := fun hB => by
      rcases (hBf b hB).2.2 with ⟨id, h1, h2⟩ | h1 | h1
      · exact hd id h1 h2
      · rw [hhb] at h1
        obtain ⟨p, hp, rfl⟩ := List.mem_map.1 h1
        obtain ⟨_, _, h2⟩ := hbl p hp
        exact hx ⟨_, h2⟩
      · omega
    have hnF : ¬ Fr (.b b) := fun hF => by
      rcases (hFr2 b hF).2 with h1 | ⟨id, h1, h2⟩ | h1
      · exact hf h1
      · exact hd id h1 h2
      · omega
    have hnS : ¬ ∃ k s, Fr (.h k b s) := fun ⟨k, s, hF⟩ => by
      rcases hFs k b s hF with h1 | h1
      · exact hs (h.sw k b s h1)
      · omega
    show (if _ then _ else _) = _
    rw [if_neg hx, find_block_none fun hm => hnB (hH4 b hm).1]
    dsimp only
    rw [if_neg (fun ⟨x0, hx0⟩ => hnB (hnp b x0 hx0).1), if_neg (fun hc => hc.elim hnF hnB), if_neg hnS, if_neg (fun ⟨id, h1, h2⟩ => hd id h1 h2)]
  have hd_H : ∀ p ∈ H, G'.hd p.id = p.v ∧ ∀ j u, p.xs[j]? = some u → G'.inn p.id j = u := fun p hp => by
    have hf := find_name (by rw [hH1]; exact hH2) hp
    refine ⟨?_, fun j u hu => ?_⟩
    · show (match H.find? (fun q => q.id == p.id) with | some p => p.v | none => _) = _
      rw [hf]
    · show (match H.find? (fun q => q.id == p.id) with | some p => p.xs.getD j undef | none => _) = _
      rw [hf]
      simp [hu]
  have hd_old : ∀ id, id ∉ rows.map (·.1) → G'.hd id = G.hd id ∧ ∀ j, G'.inn id j = G.inn id j := fun id hi => by
    have hf := find_name_none (H := H) (id := id) (by rw [hH1]; exact hi)
    refine ⟨?_, fun j => ?_⟩
    · show (match H.find? (fun q => q.id == id) with | some p => p.v | none => _) = _
      rw [hf]
    · show (match H.find? (fun q => q.id == id) with | some p => p.xs.getD j undef | none => _) = _
      rw [hf]
  have bk_old : ∀ x, (∀ b0, np ≠ some (b0, x)) → G'.bk x = G.bk x := fun x hx => by
    show (match np with | some (b0, x0) => if x = x0 then b0 else G.bk x | none => G.bk x) = _
    cases hn : np with
    | none => rfl
    | some q => obtain ⟨b0, x0⟩ := q; exact if_neg fun e => hx b0 (by rw [hn, e])
  have bk_np : ∀ b0 x0, np = some (b0, x0) → G'.bk x0 = b0 := fun b0 x0 hn => by
    show (match np with | some (b0, x1) => if x0 = x1 then b0 else G.bk x0 | none => G.bk x0) = _
    rw [hn]; exact if_pos rfl
  have fz_same : ∀ b, G.who b = .fz → w'.heap[b]? = w.heap[b]? := fun b hb0 => hsame b (h.lt b (by rw [hb0]; simp)) (fun id _ => by rw [hb0]; simp) (fun hm => by
    rw [hhb] at hm
    obtain ⟨p, hp, rfl⟩ := List.mem_map.1 hm
    obtain ⟨_, _, h2⟩ := hbl p hp
    rw [hb0] at h2; simp at h2) (by rw [hb0]; simp)
  have rw_same : ∀ b id, G.who b = .rw id → id ∉ D → w'.heap[b]? = w.heap[b]? ∧ G'.who b = .rw id := fun b id hb0 hi => by
    have hlt := h.lt b (by rw [hb0]; simp)
    have hd : ∀ i ∈ D, G.who b ≠ .rw i := fun i hiD e => by rw [hb0] at e; cases e; exact hi hiD
    refine ⟨hsame b hlt hd (fun hm => ?_) (by rw [hb0]; simp), by rw [who_old b hlt hd (by rw [hb0]; simp) (by rw [hb0]; simp) (by rw [hb0]; simp), hb0]⟩
    rw [hhb] at hm
    obtain ⟨p, hp, rfl⟩ := List.mem_map.1 hm
    obtain ⟨_, _, h2⟩ := hbl p hp
    rw [hb0] at h2; simp at h2
  have bx_same : ∀ b x, G.who b = .bx x → x ∉ bs.map (·.1) → w'.heap[b]? = w.heap[b]? := fun b x hb0 hx => hsame b (h.lt b (by rw [hb0]; simp)) (fun id _ => by rw [hb0]; simp) (fun hm => by
    rw [hhb] at hm
    obtain ⟨p, hp, rfl⟩ := List.mem_map.1 hm
    obtain ⟨_, _, h2⟩ := hbl p hp
    rw [hb0] at h2
    cases h2
    exact hx (List.mem_map.2 ⟨p, hp, rfl⟩)) (by rw [hb0]; simp)
  have row_get : ∀ id r', ((deads S D ++ rows).foldl (fun r p => r.set p.1 p.2) S.rows)[id]? = some r' →
      (∃ p ∈ rows, p.1 = id ∧ p.2 = r') ∨ (∃ r, S.rows[id]? = some r ∧ r'.c = none ∧ r'.ep = r.ep + 1) ∨ (id ∉ D ∧ id ∉ rows.map (·.1) ∧ S.rows[id]? = some r') := by
    intro id r' hr'
    rw [List.foldl_append] at hr'
    rcases fold_get _ _ _ _ hr' with ⟨p, hp, h1, h2⟩ | ⟨h1, h2⟩
    · exact .inl ⟨p, hp, h1, h2⟩
    · rcases fold_get _ _ _ _ h2 with ⟨p, hp, h3, h4⟩ | ⟨h3, h4⟩
      · obtain ⟨q1, _, r, q2, q3⟩ := deads_spec hp
        subst h3; subst h4
        exact .inr (.inl ⟨r, q2, q1, q3⟩)
      · refine .inr (.inr ⟨fun hi => ?_, fun hi => ?_, h4⟩)
        · exact h3 _ (deads_mem hi h4) rfl
        · obtain ⟨p, hp, h5⟩ := List.mem_map.1 hi
          exact h1 p hp h5
  have hrow' : ∀ p ∈ rows, ((deads S D ++ rows).foldl (fun r p => r.set p.1 p.2) S.rows)[p.1]? = some p.2 := by
    intro p hp
    rw [List.foldl_append]
    obtain ⟨r, hr, _⟩ := hrows p hp
    exact fold_mem rows _ hH2 p hp (by rw [fold_len]; exact (List.getElem?_eq_some_iff.1 hr).1)
  have keeps : Keeps w G S.rows S.boxes w' G' ((deads S D ++ rows).foldl (fun r p => r.set p.1 p.2) S.rows) (bx.foldl (fun r p => r.set p.1 p.2) S.boxes) := by
    refine ⟨fun b hb0 => ⟨fr b (hFr1 (.b b) hb0), fz_same b hb0⟩, fun id r' hr' => ?_, fun x B' hB' => ?_, fun k g s hs => hFr1 (.h k g s) hs⟩
    · rcases row_get id r' hr' with ⟨p, hp, rfl, rfl⟩ | ⟨r, hr, h1, h2⟩ | ⟨h1, h2, h3⟩
      · obtain ⟨r, hr, he, hh⟩ := hrows p hp
        exact ⟨r, hr, RowK.new (by omega) hh⟩
      · exact ⟨r, hr, RowK.none (by omega) h1⟩
      · exact ⟨r', h3, RowK.refl r' (hd_old id h2).1 (hd_old id h2).2⟩
    · rcases fold_get _ _ _ _ hB' with ⟨q, hq, rfl, rfl⟩ | ⟨h1, h2⟩
      · rcases hbx q hq with ⟨p, hp, e1, e2, _⟩ | ⟨b0, hn⟩
        · obtain ⟨cs, hcs, _⟩ := hbl p hp
          obtain ⟨B0, hB0, e3, hc⟩ := box_spec hcs
          rw [e1]
          refine ⟨B0, hB0, by omega, fun _ _ => ⟨by simp [hc], bk_old _ fun b0 hn => ?_⟩⟩
          obtain ⟨_, _, _, Bx, _, h5, _⟩ := hnp b0 _ hn
          exact h5 (List.mem_map.2 ⟨p, hp, rfl⟩)
        · obtain ⟨_, _, _, Bx, h4, _, _, h6⟩ := hnp b0 _ hn
          have := h6 q hq rfl
          exact ⟨Bx, h4, by omega, fun e => by omega⟩
      · refine ⟨B', h2, Nat.le_refl _, fun _ hc => ⟨hc, ?_⟩⟩
        refine bk_old x fun b0 hn => ?_
        obtain ⟨_, _, _, Bx, _, _, h5, _⟩ := hnp b0 x hn
        obtain ⟨q, hq, e⟩ := List.mem_map.1 h5
        exact h1 q hq e
  have hsa : ShB w G w' G' := ⟨⟨⟨fun k g s hg => by
      obtain ⟨cur, h1, h2, h3⟩ := hso.ok k g s hg
      exact ⟨cur, h1, h2, fun j v hv => by
        obtain ⟨d, h4, h5⟩ := h3 j v hv
        exact ⟨d, h4, h5.mono fun k g s hk => hk⟩⟩, hso.fn, fun k g s hg hb => by
      have h1 := who_sh k g s hg
      have h2 : G'.who g = .fz := hb
      rw [h1] at h2
      cases h2⟩, who_sh⟩, fun k g s hg => hFs k g s hg⟩
  refine ⟨G', keeps, fun d v t ht hr hb => ?_, frF, fun p hp => ⟨(hd_H p hp).1, who_H p hp, (hd_H p hp).2⟩, fun b hb0 h1 h2 h3 => who_fz b (fun ⟨x, hx⟩ => h1 (bx_hb b hb0 x hx)) h2 h3 (.inr hb0), hrow', fun p hp => ?_, fun b0 x0 hn => ⟨bk_np b0 x0 hn, who_np b0 x0 hn⟩⟩
  · refine h.step keeps (fun x B' hB' cs hcs => ?_) (fun id r' hr' => ?_) (fun b hb0 => ?_) ?_ (fun b hb0 => ?_) hsa ht d
    · rcases fold_get _ _ _ _ hB' with ⟨q, hq, rfl, rfl⟩ | ⟨h1, h2⟩
      · exact hb q hq cs hcs
      · have hbox := h.box x B' h2 cs hcs
        have hx : x ∉ bs.map (·.1) := fun hm => by
          obtain ⟨p, hp, rfl⟩ := List.mem_map.1 hm
          obtain ⟨q, hq, e⟩ := List.mem_map.1 (hbs p hp)
          exact h1 q hq e
        refine hbox.keep keeps (bk_old x fun b0 hn => ?_) (by rw [who_bx _ _ hbox.1, hbox.1]) (bx_same _ _ hbox.1 hx)
        obtain ⟨_, _, _, Bx, _, _, h5, _⟩ := hnp b0 x hn
        obtain ⟨q, hq, e⟩ := List.mem_map.1 h5
        exact h1 q hq e
    · rcases row_get id r' hr' with ⟨p, hp, rfl, rfl⟩ | ⟨r, hr0, h1, h2⟩ | ⟨h1, h2, h3⟩
      · exact hr p hp
      · intro c hc; rw [h1] at hc; cases hc
      · exact (h.row id r' h3).keep keeps (hd_old id h2).1 (fun b hb0 => (rw_same b id hb0 h1).2) (fun b hb0 => (rw_same b id hb0 h1).1) (hd_old id h2).2
    · -- below the heap's size
      by_cases h1 : ∃ x, G.who b = .bx x
      · obtain ⟨x, hx⟩ := h1
        exact Nat.lt_of_lt_of_le (h.lt b (by rw [hx]; simp)) hkp.2.2.2
      · by_cases h2 : b ∈ B
        · exact (hBf b h2).2.1
        · by_cases h3 : Fr (.b b)
          · exact (hFr2 b h3).1
          · by_cases h4 : ∃ k s, Fr (.h k b s)
            · obtain ⟨k, s, h4⟩ := h4
              obtain ⟨cur, h5, _⟩ := hso.ok k b s h4
              exact (Array.getElem?_eq_some_iff.1 h5).1
            have hw : G'.who b = if (∃ id ∈ D, G.who b = .rw id) then .ot else G.who b := by
              show (if _ then _ else _) = _
              rw [if_neg h1, find_block_none fun hm => h2 (hH4 b hm).1]
              dsimp only
              rw [if_neg (fun ⟨x0, hx0⟩ => h2 (hnp b x0 hx0).1), if_neg (fun hc => hc.elim h3 h2), if_neg h4]
            rw [hw] at hb0
            split at hb0
            · exact absurd rfl hb0
            · exact Nat.lt_of_lt_of_le (h.lt b hb0) hkp.2.2.2
    · refine h.kp.trans (p' := prot.p) ⟨hkp.1, hkp.2.1, hkp.2.2.1, hkp.2.2.2, fun b hb0 => ?_⟩ fun _ hx => hx
      have hl := Nat.lt_of_lt_of_le (h.prl b hb0) h.kp.size
      have hw := h.pr b hb0
      refine hsame b hl (fun id _ e => by rcases hw with ⟨e1, _⟩ | ⟨e1, _⟩ <;> (rw [e] at e1; simp at e1)) (fun hm => ?_) (fun e => by rcases hw with ⟨e1, _⟩ | ⟨e1, _⟩ <;> (rw [e] at e1; simp at e1))
      rw [hhb] at hm
      obtain ⟨p, hp, rfl⟩ := List.mem_map.1 hm
      obtain ⟨_, _, h2⟩ := hbl p hp
      rcases hw with ⟨e1, _⟩ | ⟨e1, _⟩ <;> (rw [h2] at e1; simp at e1)
    · have hl := Nat.lt_of_lt_of_le (h.prl b hb0) h.kp.size
      rcases h.pr b hb0 with ⟨hw, hf⟩ | ⟨hw, hf⟩
      · exact .inl ⟨fr b (hFr1 (.b b) hw), hf⟩
      · by_cases h3 : Fr (.b b)
        · exfalso
          rcases (hFr2 b h3).2 with e | ⟨id, _, e⟩ | e
          · rw [show G.who b = .fz from e] at hw; simp at hw
          · rw [hw] at e; simp at e
          · omega
        · exact .inr (And.intro (b := ¬ prot.f b) (by
            rw [who_old b hl (fun id _ e => by rw [hw] at e; simp at e) (by rw [hw]; simp) (by rw [hw]; simp) (by rw [hw]; simp), hw]) hf)
  · have hn : ∀ b0, np ≠ some (b0, p.1) := fun b0 hn => by
      obtain ⟨_, _, _, Bx, _, h5, _⟩ := hnp b0 _ hn
      exact h5 (List.mem_map.2 ⟨p, hp, rfl⟩)
    obtain ⟨_, _, h2⟩ := hbl p hp
    exact ⟨bk_old _ hn, who_bx _ _ h2⟩
end Go.Proofs.YtjjcjpmfkbfdfaaE


/- A call of a function that is told by its answers. Conditions: none. -/
set_option linter.unusedVariables false
namespace Go.Proofs.YtjjcjpmfkbfdfaaE
open Go Go.RowKit
theorem DCs_free {w : World} {F F0 : HF → Prop} (hc : ∀ k g s, F (.h k g s) → F0 (.h k g s)) : ∀ {n : Nat} {vs : List Value} {ds : List D} {B : List Nat}, (∀ x ∈ ds, isRow x = false ∨ ∃ l, x = .r .u8 l) → (∀ (j : Nat) x, n ≤ j → ds[j]? = some x → isRow x = false) → DCs w F n vs ds B → DCs w F0 n vs ds B
  | 0, vs, ds, B, h1, h2, h => by
    refine ⟨F2.of_get h.1.len fun i a b ha hb => ?_, h.2⟩
    obtain ⟨u, e1, e2⟩ := h.1.get i b hb
    rw [ha] at e1; cases e1
    have := h2 i b (Nat.zero_le _) hb
    cases e2 with
    | i k x => exact .i k x
    | b x => exact .b x
    | nil => simp [isRow] at this
    | h v k n h4 => exact .h _ _ _ (h4.mono hc)
    | row => simp [isRow] at this
  | n + 1, v :: vs, x :: ds, B, h1, h2, h => by
    obtain ⟨B1, B2, e1, e2, e3⟩ := h
    refine ⟨B1, B2, ?_, DCs_free hc (fun y hy => h1 y (List.mem_cons_of_mem _ hy)) (fun j y hj hy => h2 (j + 1) y (by omega) (by simpa using hy)) e2, e3⟩
    rcases h1 x List.mem_cons_self with hx | ⟨l, rfl⟩
    · cases x with
      | i k y => obtain ⟨e4, e5⟩ := e1; cases e4; exact ⟨.i _ _, e5⟩
      | b y => obtain ⟨e4, e5⟩ := e1; cases e4; exact ⟨.b _, e5⟩
      | r k l => simp [isRow] at hx
      | h k n => obtain ⟨e4, e5⟩ := e1; exact ⟨.h _ _ _ (e4.sh.mono hc), e5⟩
    · obtain ⟨⟨ys, q1, q2⟩, e5⟩ := e1
      refine ⟨⟨ys, q1, ?_⟩, e5⟩
      refine F2.of_get q2.len fun i a b ha hb => ?_
      obtain ⟨u, e1, e2⟩ := q2.get i b hb
      rw [ha] at e1; cases e1
      have hm : b ∈ flat .u8 l := List.mem_of_getElem? hb
      obtain ⟨y, _, hy⟩ := List.mem_flatMap.1 hm
      have : b = .i .u8 y := by
        have hy' : b ∈ [D.i .u8 y] := hy
        exact List.mem_singleton.1 hy'
      subst this
      cases e2
      exact .i _ _
  | _ + 1, [], _, _, _, _, h => by cases ‹List D› <;> exact h.elim
  | _ + 1, _ :: _, [], _, _, _, h => h.elim
theorem row_u8 {k : RK} (hk : k = .part ∨ k = .frm ∨ k = .byr ∨ k = .netm ∨ k = .u8 ∨ k = .i64) (l : List k.El) : ∀ x ∈ flat k l, isRow x = false ∨ ∃ l, x = .r .u8 l := fun x hx => by
  obtain ⟨y, _, hy⟩ := List.mem_flatMap.1 hx
  rcases hk with rfl | rfl | rfl | rfl | rfl | rfl
  · change x ∈ [D.i .i64 y.seg, .i .i64 y.len, .r .u8 y.data] at hy
    simp only [List.mem_cons, List.not_mem_nil, or_false] at hy
    rcases hy with rfl | rfl | rfl
    · exact .inl rfl
    · exact .inl rfl
    · exact .inr ⟨_, rfl⟩
  · change x ∈ [D.i .i64 y.kind, .i .i64 y.seq, .i .i64 y.ack, .b y.poll, .b y.final, .i .i64 y.say, .i .i64 y.seg, .i .i64 y.len, .r .u8 y.data] at hy
    simp only [List.mem_cons, List.not_mem_nil, or_false] at hy
    rcases hy with rfl | rfl | rfl | rfl | rfl | rfl | rfl | rfl | rfl
    all_goals first | exact .inl rfl | exact .inr ⟨_, rfl⟩
  · change x ∈ [D.r .u8 y] at hy
    rw [List.mem_singleton] at hy
    exact .inr ⟨_, hy⟩
  · change x ∈ [D.b y.bent, .r .u8 y.bytes] at hy
    simp only [List.mem_cons, List.not_mem_nil, or_false] at hy
    rcases hy with rfl | rfl
    · exact .inl rfl
    · exact .inr ⟨_, rfl⟩
  · change x ∈ [D.i .u8 y] at hy
    rw [List.mem_singleton] at hy
    subst hy; exact .inl rfl
  · change x ∈ [D.i .i64 y] at hy
    rw [List.mem_singleton] at hy
    subst hy; exact .inl rfl
theorem row_num {k : RK} (hk : k = .u8 ∨ k = .i64) (l : List k.El) : ∀ x ∈ flat k l, isRow x = false := fun x hx => by
  obtain ⟨y, _, hy⟩ := List.mem_flatMap.1 hx
  rcases hk with rfl | rfl
  · change x ∈ [D.i .u8 y] at hy
    rw [List.mem_singleton] at hy
    subst hy; rfl
  · change x ∈ [D.i .i64 y] at hy
    rw [List.mem_singleton] at hy
    subst hy; rfl
theorem OwnR.free {w : World} {F F0 : HF → Prop} (hc : ∀ k g s, F (.h k g s) → F0 (.h k g s)) {v : Value} {c : RC} {B : List Nat} (hf : ownFree c = true) (hd : ∀ d, c.m.d = some d → d = c.l.length) (h : OwnR w F v c B) : OwnR w F0 v c B := by
  obtain ⟨xs, h1, Bi, h2, h3⟩ := h
  have hp : c.m.p = false := by
    unfold ownFree at hf
    split at hf <;> first | assumption | cases hf
  refine ⟨xs, ?_, Bi, ?_, h3⟩
  · unfold outC at h1 ⊢
    rw [hp] at h1 ⊢
    exact h1
  · have hk : (c.k = .u8 ∨ c.k = .i64) ∨ ((c.k = .part ∨ c.k = .frm ∨ c.k = .byr ∨ c.k = .netm) ∧ c.m.d = some c.l.length) := by
      unfold ownFree at hf
      split at hf
      all_goals first
        | (cases hf; done)
        | (exact .inl (.inl (by assumption)))
        | (exact .inl (.inr (by assumption)))
        | (rename_i hk hd'; exact .inr ⟨by simp [hk], by rw [hd', hd _ hd']⟩)
    refine DCs_free hc (row_u8 ?_ c.l) (fun j x hj hx => ?_) h2
    · rcases hk with (hk | hk) | ⟨hk | hk | hk | hk, _⟩ <;> simp [hk]
    · rcases hk with hk | ⟨_, hk⟩
      · exact row_num hk c.l x (List.mem_of_getElem? hx)
      · exfalso
        have hlen := (List.getElem?_eq_some_iff.1 hx).1
        rw [flat_len] at hlen
        have : c.dn = c.l.length * c.k.size := by unfold RC.dn; rw [hk]; rfl
        omega
def acsD (cs : List AC) : Prop := ∀ c, AC.own c ∈ cs → ∀ d, c.m.d = some d → d = c.l.length
theorem acsQ_ok : ∀ {cs : List AC} {K : Prop}, acsQ cs K → acsD cs ∧ K
  | [], K, h => ⟨fun c hc => by (cases hc), h⟩
  | .d x :: cs, K, h => by
    obtain ⟨h1, h2⟩ := acsQ_ok (cs := cs) h
    refine ⟨fun c hc => ?_, h2⟩
    rcases List.mem_cons.1 hc with hc | hc
    · cases hc
    · exact h1 c hc
  | .xx :: cs, K, h => by
    obtain ⟨h1, h2⟩ := acsQ_ok (cs := cs) h
    refine ⟨fun c hc => ?_, h2⟩
    rcases List.mem_cons.1 hc with hc | hc
    · cases hc
    · exact h1 c hc
  | .own c0 :: cs, K, h => by
    have h' : ownQ c0 (acsQ cs K) := h
    have key : (∀ d, c0.m.d = some d → d = c0.l.length) ∧ acsQ cs K := by
      unfold ownQ at h'
      split at h'
      · rename_i d hd
        refine ⟨fun d' hd' => ?_, h'.2⟩
        rw [hd] at hd'
        cases hd'
        exact h'.1
      · rename_i hd
        exact ⟨fun d' hd' => (by rw [hd] at hd'; cases hd'), h'⟩
    obtain ⟨h1, h2⟩ := acsQ_ok key.2
    refine ⟨fun c hc => ?_, h2⟩
    rcases List.mem_cons.1 hc with hc | hc
    · cases hc; exact key.1
    · exact h1 c hc
theorem argsQ_ok : ∀ {rs : List Arg} {K : Prop}, argsQ rs K → (∀ a ∈ rs, acsD (pcells a)) ∧ K
  | [], K, h => ⟨fun c hc => by (cases hc), h⟩
  | .v g cs :: rs, K, h => by
    obtain ⟨h1, h2⟩ := acsQ_ok (cs := cs) h
    obtain ⟨h3, h4⟩ := argsQ_ok h2
    refine ⟨fun c hc => ?_, h4⟩
    rcases List.mem_cons.1 hc with hc | hc
    · subst hc; exact h1
    · exact h3 c hc
  | .p cs :: rs, K, h => by
    obtain ⟨h1, h2⟩ := acsQ_ok (cs := cs) h
    obtain ⟨h3, h4⟩ := argsQ_ok h2
    refine ⟨fun c hc => ?_, h4⟩
    rcases List.mem_cons.1 hc with hc | hc
    · subst hc; exact h1
    · exact h3 c hc
theorem listQ_ok : ∀ {rs : List (List AC)} {K : Prop}, listQ rs K → (∀ a ∈ rs, acsD a) ∧ K
  | [], K, h => ⟨fun c hc => by (cases hc), h⟩
  | cs :: rs, K, h => by
    obtain ⟨h1, h2⟩ := acsQ_ok (cs := cs) h
    obtain ⟨h3, h4⟩ := listQ_ok h2
    refine ⟨fun c hc => ?_, h4⟩
    rcases List.mem_cons.1 hc with hc | hc
    · subst hc; exact h1
    · exact h3 c hc
theorem freeQ_ok {rs : List Arg} {bs : List (List AC)} {K : Prop} (h : freeQ rs bs K) : (freeRes rs bs = true → (∀ a ∈ rs, acsD (pcells a)) ∧ ∀ a ∈ bs, acsD a) ∧ K := by
  unfold freeQ at h
  split at h
  · obtain ⟨h1, h2⟩ := argsQ_ok h
    obtain ⟨h3, h4⟩ := listQ_ok h2
    exact ⟨fun _ => ⟨h1, h3⟩, h4⟩
  · rename_i hf
    exact ⟨fun hc => (by rw [hf] at hc; cases hc), h⟩
theorem acsQ_mono : ∀ {cs : List AC} {K K' : Prop}, (K → K') → acsQ cs K → acsQ cs K'
  | [], K, K', hm, h => hm h
  | .d x :: cs, K, K', hm, h => acsQ_mono (cs := cs) hm h
  | .xx :: cs, K, K', hm, h => acsQ_mono (cs := cs) hm h
  | .own c0 :: cs, K, K', hm, h => by
    have h' : ownQ c0 (acsQ cs K) := h
    show ownQ c0 (acsQ cs K')
    unfold ownQ at h' ⊢
    split at h'
    · rename_i d hd
      exact ⟨h'.1, acsQ_mono hm h'.2⟩
    · rename_i hd
      exact acsQ_mono hm h'
theorem argsQ_mono : ∀ {rs : List Arg} {K K' : Prop}, (K → K') → argsQ rs K → argsQ rs K'
  | [], K, K', hm, h => hm h
  | .v g cs :: rs, K, K', hm, h => acsQ_mono (cs := cs) (argsQ_mono hm) h
  | .p cs :: rs, K, K', hm, h => acsQ_mono (cs := cs) (argsQ_mono hm) h
theorem listQ_mono : ∀ {rs : List (List AC)} {K K' : Prop}, (K → K') → listQ rs K → listQ rs K'
  | [], K, K', hm, h => hm h
  | cs :: rs, K, K', hm, h => acsQ_mono (cs := cs) (listQ_mono hm) h
theorem freeQ_mono {rs : List Arg} {bs : List (List AC)} {K K' : Prop} (hm : K → K') (h : freeQ rs bs K) : freeQ rs bs K' := by
  unfold freeQ at h ⊢
  split at h
  · exact argsQ_mono (listQ_mono hm) h
  · exact hm h
theorem ACs_free {w : World} {F F0 : HF → Prop} (hc : ∀ k g s, F (.h k g s) → F0 (.h k g s)) : ∀ {as : List AC} {xs : List Value} {B : List Nat}, freeAC as = true → acsD as → ACs w F xs as B → ACs w F0 xs as B
  | [], [], _, _, _, h => h
  | [], _ :: _, _, _, _, h => h.elim
  | _ :: _, [], _, _, _, h => h.elim
  | c :: as, x :: xs, B, hf, hd, h => by
    obtain ⟨B1, B2, h1, h2, h3⟩ := h
    simp only [freeAC, List.all_cons, Bool.and_eq_true] at hf
    refine ⟨B1, B2, ?_, ACs_free hc (by simpa [freeAC] using hf.2) (fun c hc => hd c (List.mem_cons_of_mem _ hc)) h2, h3⟩
    cases c with
    | own c => exact OwnR.free hc hf.1 (hd c List.mem_cons_self) h1
    | xx => simp at hf
    | d y =>
      cases y with
      | r k l => simp at hf
      | h k n => obtain ⟨h4, h5⟩ := h1; exact ⟨.h _ _ _ (h4.sh.mono hc), h5⟩
      | i k n => obtain ⟨h4, h5⟩ := h1; cases h4; exact ⟨Rd.i _ _, h5⟩
      | b n => obtain ⟨h4, h5⟩ := h1; cases h4; exact ⟨Rd.b _, h5⟩
theorem ArgsR_free {w : World} {F F0 : HF → Prop} (hc : ∀ k g s, F (.h k g s) → F0 (.h k g s)) : ∀ {as : List Arg} {vs : List Value} {B hb : List Nat}, (as.all fun | .v _ cs => freeAC cs | .p cs => freeAC cs) = true → (∀ a ∈ as, acsD (pcells a)) → ArgsR w F vs as B hb → ArgsR w F0 vs as B hb
  | [], [], _, _, _, _, h => h
  | [], _ :: _, _, _, _, _, h => h.elim
  | _ :: _, [], _, _, _, _, h => h.elim
  | x :: as, v :: vs, B, hb, hf, hd, h => by
    obtain ⟨B1, B2, h1, h2, h3, h4, h5, h6⟩ := h
    simp only [List.all_cons, Bool.and_eq_true] at hf
    refine ⟨B1, B2, h1, h2, ?_, ArgsR_free hc hf.2 (fun a ha => hd a (List.mem_cons_of_mem _ ha)) h4, h5, h6⟩
    cases x with
    | v g cs => obtain ⟨xs, q1, q2, q3, q4, q5⟩ := h3; exact ⟨xs, q1, q2, q3, ACs_free hc hf.1 (hd _ List.mem_cons_self) q4, q5⟩
    | p cs => obtain ⟨b, arr, ty, B1', q1, q2, q3, q4⟩ := h3; exact ⟨b, arr, ty, B1', q1, q2, ACs_free hc hf.1 (hd _ List.mem_cons_self) q3, q4⟩
theorem args_split {w : World} {F : HF → Prop} : ∀ {as as2 : List Arg} {vs vs2 : List Value} {B hb : List Nat}, vs.length = as.length → ArgsR w F (vs ++ vs2) (as ++ as2) B hb → ∃ B1 B2 h1 h2, ArgsR w F vs as B1 h1 ∧ ArgsR w F vs2 as2 B2 h2 ∧ B = B1 ++ B2 ∧ hb = h1 ++ h2
  | [], as2, [], vs2, B, hb, _, h => ⟨[], B, [], hb, ⟨rfl, rfl⟩, h, rfl, rfl⟩
  | [], _, _ :: _, _, _, _, hl, _ => by simp at hl
  | _ :: _, _, [], _, _, _, hl, _ => by simp at hl
  | x :: as, as2, v :: vs, vs2, B, hb, hl, h => by
    obtain ⟨B1, B2, h1, h2, h3, h4, rfl, rfl⟩ := h
    obtain ⟨B3, B4, h5, h6, h7, h8, rfl, rfl⟩ := args_split (by simpa using hl) h4
    exact ⟨B1 ++ B3, B4, h1 ++ h5, h6, ⟨B1, B3, h1, h5, h3, h7, rfl, rfl⟩, h8, by simp, by simp⟩
theorem oc_dat (S : St) : ∀ c : List AC, OC S false [] c (datCells c) [] []
  | [] => .nil _
  | x :: c => .dat (oc_dat S c)
theorem boxes_ok {G : Gh} {w' : World} {Fr : HF → Prop} : ∀ {bs : List (Nat × Nat)} {cs : List (List AC)} {bx : List (Nat × Box)} {B h : List Nat}, boxesT bs cs = some bx → ArgsR w' Fr (bs.map fun p => ptrV (G.bk p.1)) (cs.map .p) B h →
    bx.map (·.1) = bs.map (·.1) ∧ (∀ p ∈ bs, G.bk p.1 ∈ B) ∧ ∀ q ∈ bx, ∃ p ∈ bs, q.1 = p.1 ∧ q.2.ep = p.2 ∧ ∃ (c : List AC) (arr : List Value) (ty : TypeId) (Bi : List Nat), q.2.c = some (datCells c) ∧ w'.heap[G.bk p.1]? = some (.cells arr.toArray ty (0, 0)) ∧ ACs w' Fr arr c Bi ∧
      (∀ b ∈ Bi, b ∈ B) ∧ (B.Nodup → Bi.Nodup ∧ ∀ p' ∈ bs, G.bk p'.1 ∉ Bi)
  | [], [], bx, B, h, hb, ha => by
    simp only [boxesT, Option.some.injEq] at hb
    subst hb
    exact ⟨rfl, fun p hp => (by cases hp), fun q hq => (by cases hq)⟩
  | [], _ :: _, _, _, _, hb, _ => by simp [boxesT] at hb
  | _ :: _, [], _, _, _, hb, _ => by simp [boxesT] at hb
  | (b, ep) :: bs, c :: cs, bx, B, h, hb, ha => by
    simp only [boxesT] at hb
    split at hb
    · rename_i r hr
      cases hb
      obtain ⟨B1, B2, h1, h2, ⟨b0, arr, ty, Bi, q1, q2, q3, q4, q5⟩, ha2, rfl, rfl⟩ := ha
      cases q1
      obtain ⟨i1, i2, i3⟩ := boxes_ok hr ha2
      subst q4
      refine ⟨by simp [i1], fun p hp => ?_, fun q hq => ?_⟩
      · rcases List.mem_cons.1 hp with rfl | hp
        · simp
        · exact List.mem_append_right _ (i2 p hp)
      · rcases List.mem_cons.1 hq with rfl | hq
        · refine ⟨(b, ep), by simp, rfl, rfl, c, arr, ty, Bi, rfl, q2, q3, fun x hx => by simp [hx], fun hn => ?_⟩
          obtain ⟨n1, n2, n3⟩ := List.nodup_append.1 hn
          obtain ⟨n4, n5⟩ := List.nodup_cons.1 n1
          refine ⟨n5, fun p' hp' hm => ?_⟩
          rcases List.mem_cons.1 hp' with rfl | hp'
          · exact n4 hm
          · exact n3 _ (List.mem_cons_of_mem _ hm) _ (i2 p' hp') rfl
        · obtain ⟨p, hp, e1, e2, c', arr', ty', Bi', e3, e4, e5, e6, e7⟩ := i3 q hq
          refine ⟨p, by simp [hp], e1, e2, c', arr', ty', Bi', e3, e4, e5, fun x hx => List.mem_append_right _ (e6 x hx), fun hn => ?_⟩
          obtain ⟨n1, n2, n3⟩ := List.nodup_append.1 hn
          obtain ⟨n4, n5⟩ := e7 n2
          refine ⟨n4, fun p' hp' hm => ?_⟩
          rcases List.mem_cons.1 hp' with rfl | hp'
          · exact n3 _ (by simp) _ (e6 _ hm) rfl
          · exact n5 p' hp' hm
    · simp at hb
theorem OC_rows {S : St} {dp : Bool} {ids : List Nat} {as : List AC} {cs : List Cm} {rs : List (Nat × Row)} {is : List Nat} (h : OC S dp ids as cs rs is) : ∀ p ∈ rs, ∃ r, S.rows[p.1]? = some r ∧ p.2.ep = r.ep + 1 ∧ ∀ c, p.2.c = some c → c.m.h = false := by
  induction h with
  | nil => intro p hp; cases hp
  | own hr _ ih =>
    intro p hp
    rcases List.mem_cons.1 hp with rfl | hp
    · exact ⟨_, hr, rfl, fun c hc => by cases hc; rfl⟩
    · exact ih p hp
  | dat _ ih => exact ih
theorem RT_rows {S : St} {dp : Bool} {ids : List Nat} {rs : List Arg} {l : List (Bool × List Cm)} {rows : List (Nat × Row)} (h : RT S dp ids rs l rows) : ∀ p ∈ rows, ∃ r, S.rows[p.1]? = some r ∧ p.2.ep = r.ep + 1 ∧ ∀ c, p.2.c = some c → c.m.h = false := by
  induction h with
  | nil => intro p hp; cases hp
  | cons ho _ ih =>
    intro p hp
    rcases List.mem_append.1 hp with hp | hp
    · exact OC_rows ho p hp
    · exact ih p hp
theorem tup_tr {w : World} {G : Gh} {rows : List Row} {bs : List Box} : ∀ {vs : List Value} {l : List (Bool × List Cm)}, F2 (fun v (p : Bool × List Cm) => VR w G rows v p.1 p.2) vs l → TR w G rows bs (retV vs) (tupT l) := by
  intro vs l h
  cases h with
  | nil => exact ⟨[], rfl, .nil⟩
  | @cons v p vs l h1 h2 =>
    cases h2 with
    | nil => obtain ⟨g, cs⟩ := p; exact h1
    | @cons v2 p2 vs l h2 h3 => exact ⟨_, rfl, .cons h1 (.cons h2 h3)⟩
section
variable {P : Program} {V : Env} {w0 : World} {prot : Pro} {S : St} {G : Gh} {a : Act} {w : World}
def frF (G : Gh) (F' : HF → Prop) : HF → Prop
  | .b b => G.who b = .fz
  | .h k g s => F' (.h k g s)
theorem ShOk.of_sub {w : World} {F F0 : HF → Prop} (h : ShOk w F) (e : ∀ k g s, F0 (.h k g s) ↔ F (.h k g s)) (hd : ∀ k g s, F (.h k g s) → ¬ F0 (.b g)) : ShOk w F0 :=
  ⟨fun k g s hh => by
    obtain ⟨cur, h1, h2, h3⟩ := h.ok k g s ((e k g s).1 hh)
    exact ⟨cur, h1, h2, fun j v hv => by
      obtain ⟨d, h4, h5⟩ := h3 j v hv
      exact ⟨d, h4, h5.mono fun k g s hk => (e k g s).2 hk⟩⟩,
   fun k g s k' s' h1 h2 => h.fn k g s k' s' ((e _ _ _).1 h1) ((e _ _ _).1 h2), fun k g s hh => hd k g s ((e k g s).1 hh)⟩
theorem Inv.lent_sh (h : Inv w0 prot S G a w) (ls : List Nat) : ShOk w (lent G ls) :=
  h.so.of_sub (fun _ _ _ => Iff.rfl) fun k g s hg hb => by
    have h1 := h.sw k g s hg
    rcases hb with h2 | ⟨_, _, h2⟩ <;> (rw [h1] at h2; cases h2)
theorem uncl_ok (h : Inv w0 prot S G a w) {cl : Option (Nat × Bool)} : ∀ {ts ts' : List T} {vs : List Value}, F2 (TR w G S.rows S.boxes) vs ts → uncl S cl ts = some ts' →
    ∃ vs', F2 (TR w G S.rows S.boxes) vs' ts' ∧ vs = wrapV cl vs' ∧ (∀ f, cl = some (f, true) → vs' ≠ []) := by
  intro ts
  induction ts with
  | nil =>
    intro ts' vs hf hu
    cases cl with
    | none => simp only [uncl, Option.some.injEq] at hu; subst hu; exact ⟨vs, hf, (wrapV_none vs).symm, fun f e => by cases e⟩
    | some p => simp [uncl] at hu
  | cons t ts ih =>
    intro ts' vs hf hu
    cases cl with
    | none => simp only [uncl, Option.some.injEq] at hu; subst hu; exact ⟨vs, hf, (wrapV_none vs).symm, fun f e => by cases e⟩
    | some p =>
      obtain ⟨f, cap⟩ := p
      cases hf with
      | cons h1 h2 =>
        unfold uncl at hu
        split at hu
        · simp at *
        · simp at *
        · rename_i heq hts
          cases heq
          cases hts
          cases h2
          split at hu
          · rename_i cs hcs
            split at hu
            · rename_i hff
              subst hff
              simp only [Option.some.injEq] at hu
              subst hu
              obtain ⟨B, hB, hep, hBc⟩ := box_spec hcs
              have hv := (h1 B hB).2 hep (by rw [hBc]; rfl)
              refine ⟨[ptrV (G.bk _)], .cons (fun B' hB' => ?_) .nil, by rw [hv]; rfl, fun _ _ => by simp⟩
              rw [hB] at hB'; cases hB'
              exact ⟨Nat.le_of_eq hep, fun _ _ => rfl⟩
            · simp at hu
          · simp at hu
        · rename_i heq hts
          cases heq
          cases hts
          cases h2
          split at hu
          · rename_i hff
            subst hff
            simp only [Option.some.injEq] at hu
            subst hu
            exact ⟨[], .nil, by rw [show _ = _ from h1]; rfl, fun _ e => by cases e⟩
          · simp at hu
        · rename_i heq1 heq2
          cases heq1
          cases heq2
          split at hu
          · rename_i r hr
            simp only [Option.some.injEq] at hu
            subst hu
            obtain ⟨vs', e1, e2, e3⟩ := ih h2 hr
            refine ⟨_ :: vs', .cons h1 e1, ?_, fun _ _ => by simp⟩
            subst e2
            cases cap with
            | false => simp [wrapV_false]
            | true =>
              cases vs' with
              | nil => exact absurd rfl (e3 f rfl)
              | cons x xs => exact (wrapV_cons f _ x xs).symm
          · simp at hu
theorem callC_ok (hC : CallsOk P V) (h : Inv w0 prot S G a w) {f : Nat} {E : Ent} (hE : look f V.calls = some E) {d : Option Nat} {ts : List T} {vs : List Value} (hts : F2 (TR w G S.rows S.boxes) vs ts) {K : Outc → Prop} (hk : callC V S d E ts K) :
    Calls P f (wrapV E.clo vs).toArray w fun e w' => ∃ v, e = .returned v ∧ After w0 prot S d K (a.put d v) w' := by
  unfold callC at hk
  split at hk
  · rename_i as ls gs bs hargs
    obtain ⟨hnd, hF⟩ := hk
    simp only [Bool.and_eq_true] at hnd
    obtain ⟨n1, n2, n3⟩ := List.nodup_append.1 (nodupB_spec hnd.1)
    have n4 := nodupB_spec hnd.2
    obtain ⟨B, hb, r1, r2, r3, r4, r5, r6, r7, r8⟩ := argsT_ok h E.own E.skip ls hts hargs fun _ hi => hi
    have lentlt : ∀ b : Nat, lent G ls (.b b) → b < w.heap.size := fun b hb0 => by
      rcases hb0 with h1 | ⟨id, _, h1⟩ <;> exact h.lt b (by rw [h1]; simp)
    have Btag : ∀ b ∈ B, (∃ id ∈ gs, G.who b = .rw id) ∨ (b ∈ hb ∧ ∃ p ∈ bs, b = G.bk p.1 ∧ G.who b = .bx p.1) := fun b hb0 => by
      rcases r3 b hb0 with h1 | h1
      · exact .inl h1
      · refine .inr ⟨h1, ?_⟩
        rw [r2] at h1
        obtain ⟨p, hp, rfl⟩ := List.mem_map.1 h1
        obtain ⟨_, _, h2⟩ := r8 p hp
        exact ⟨p, hp, rfl, h2⟩
    refine ((hC f E hE).2 w (lent G ls) vs as B hb _ r1 (r5 n2 n4) (fun b hb0 => ?_) lentlt (h.lent_sh ls) hF).mono ?_
    · rcases Btag b hb0 with ⟨id, hid, h1⟩ | ⟨_, p, _, _, h1⟩
      · refine ⟨⟨fun h2 => ?_, fun k s h2 => ?_⟩, h.lt b (by rw [h1]; simp)⟩
        · rcases h2 with h2 | ⟨id', hid', h2⟩
          · rw [h1] at h2; simp at h2
          · rw [h1] at h2; cases h2; exact n3 id hid' id hid rfl
        · have := h.sw k b s h2; rw [h1] at this; cases this
      · refine ⟨⟨fun h2 => ?_, fun k s h2 => ?_⟩, h.lt b (by rw [h1]; simp)⟩
        · rcases h2 with h2 | ⟨id', hid', h2⟩ <;> (rw [h1] at h2; simp at h2)
        · have := h.sw k b s h2; rw [h1] at this; cases this
    · rintro e w' ⟨rv, rs, cs, F', B', hb', rfl, hK, hR, hlen, hn', hB', hF1, hF2, hkp, hFS, hSO⟩
      refine ⟨_, rfl, ?_⟩
      have hQ := (freeQ_ok hK).1
      replace hK := (freeQ_ok hK).2
      split at hK
      · rename_i bx hbx
        obtain ⟨B1, B2, h1, h2, hR1, hR2, rfl, rfl⟩ := args_split hlen hR
        obtain ⟨m1, m2, m3⟩ := List.nodup_append.1 hn'
        rw [r2, List.map_map] at hR2
        -- flat or not
        let flat := freeRes rs cs
        let D : List Nat := bif flat then gs else ls ++ gs
        let Fr : HF → Prop := if flat = true then frF G F' else F'
        have hGF : ∀ x, G.F x → F' x := fun x hx => hF1 x (lent_of x hx)
        have gsD : ∀ id ∈ gs, id ∈ D := fun id hi => by show id ∈ (bif flat then gs else ls ++ gs); cases flat <;> simp [hi]
        have DD : ∀ id ∈ D, id ∈ ls ∨ id ∈ gs := fun id hi => by
          have hi' : id ∈ (bif flat then gs else ls ++ gs) := hi
          cases hfl : flat with
          | true => rw [hfl] at hi'; exact .inr hi'
          | false => rw [hfl] at hi'; exact List.mem_append.1 hi'
        have hR1' : ArgsR w' Fr rv rs B1 h1 := by
          show ArgsR w' (if flat = true then frF G F' else F') rv rs B1 h1
          split
          · rename_i hfl
            have hfl' : freeRes rs cs = true := hfl
            have hq := hQ hfl'
            simp only [freeRes, Bool.and_eq_true] at hfl'
            exact ArgsR_free (F := F') (F0 := frF G F') (fun _ _ _ hh => hh) hfl'.1 hq.1 hR1
          · exact hR1
        have hR2' : ArgsR w' Fr (bs.map fun p => ptrV (G.bk p.1)) (cs.map .p) B2 h2 := by
          show ArgsR w' (if flat = true then frF G F' else F') _ _ B2 h2
          split
          · rename_i hfl
            have hfl' : freeRes rs cs = true := hfl
            have hq := hQ hfl'
            simp only [freeRes, Bool.and_eq_true] at hfl'
            refine ArgsR_free (F := F') (F0 := frF G F') (fun _ _ _ hh => hh) ?_ (fun x hx => ?_) hR2
            · have := hfl'.2
              rw [List.all_eq_true] at this ⊢
              intro x hx
              obtain ⟨c, hc, rfl⟩ := List.mem_map.1 hx
              exact this c hc
            · obtain ⟨c, hc, rfl⟩ := List.mem_map.1 hx
              exact hq.2 c hc
          · exact hR2
        obtain ⟨b1, b2, b3⟩ := boxes_ok hbx hR2'
        have hbB : ∀ b ∈ hb, b ∈ B2 := fun b hb0 => by
          rw [r2] at hb0
          obtain ⟨p, hp, rfl⟩ := List.mem_map.1 hb0
          exact b2 p hp
        have cFr1 : ∀ x, G.F x → Fr x := fun x hb0 => by
          show (if flat = true then frF G F' else F') x
          split
          · cases x with
            | b n => exact hb0
            | h k g s => exact hGF (.h k g s) hb0
          · exact hGF x hb0
        have FrF : ∀ x, Fr x → F' x := fun x hb0 => by
          have hb1 : (if flat = true then frF G F' else F') x := hb0
          split at hb1
          · cases x with
            | b n => exact hGF (.b n) hb1
            | h k g s => exact hb1
          · exact hb1
        have FrS : ∀ k g s, Fr (.h k g s) ↔ F' (.h k g s) := fun k g s => by
          show (if flat = true then frF G F' else F') _ ↔ _
          split <;> exact Iff.rfl
        have cFs : ∀ k g s, Fr (.h k g s) → G.sh k g s ∨ w.heap.size ≤ g := fun k g s hh => hFS k g s ((FrS k g s).1 hh)
        have cSo : ShOk w' Fr := hSO.of_sub FrS fun k g s hg hb0 => hSO.df k g s hg (FrF _ hb0)
        have cFr2 : ∀ b : Nat, Fr (.b b) → b < w'.heap.size ∧ (G.F (.b b) ∨ (∃ id ∈ D, G.who b = .rw id) ∨ w.heap.size ≤ b) := fun b hb0 => by
          refine ⟨(hF2 b (FrF _ hb0)).1, ?_⟩
          have hb1 : (if flat = true then frF G F' else F') (.b b) := hb0
          split at hb1
          · exact .inl hb1
          · rename_i hfl
            have hD : D = ls ++ gs := by show (bif flat then gs else ls ++ gs) = _; rw [Bool.not_eq_true] at hfl; rw [hfl]; rfl
            rcases (hF2 b hb1).2 with h3 | h3 | h3
            · rcases h3 with h3 | ⟨id, hid, h3⟩
              · exact .inl h3
              · exact .inr (.inl ⟨id, by rw [hD]; simp [hid], h3⟩)
            · rcases Btag b h3 with ⟨id, hid, h4⟩ | ⟨h4, _⟩
              · exact .inr (.inl ⟨id, gsD id hid, h4⟩)
              · exact absurd hb1 (hB' b (List.mem_append_right _ (hbB b h4))).1.1
            · exact .inr (.inr h3)
        have cB : ∀ b ∈ B1 ++ B2, NF Fr b ∧ b < w'.heap.size ∧ ((∃ id ∈ D, G.who b = .rw id) ∨ b ∈ hb ∨ w.heap.size ≤ b) := fun b hb0 => by
          obtain ⟨q1, q2, q3⟩ := hB' b hb0
          refine ⟨⟨fun hf => q1.1 (FrF _ hf), fun k s hf => q1.2 k s (FrF _ hf)⟩, q2, ?_⟩
          rcases q3 with q3 | q3
          · rcases Btag b q3 with ⟨id, hid, h4⟩ | ⟨h4, _⟩
            · exact .inl ⟨id, gsD id hid, h4⟩
            · exact .inr (.inl h4)
          · exact .inr (.inr q3)
        have csame : ∀ b, b < w.heap.size → (∀ id ∈ D, G.who b ≠ .rw id) → b ∉ hb → G.who b ≠ .sh → w'.heap[b]? = w.heap[b]? := fun b hb0 hd hn hs => hkp.block b ⟨hb0, fun hm => by
          rcases Btag b hm with ⟨id, hid, h4⟩ | ⟨h4, _⟩
          · exact hd id (gsD id hid) h4
          · exact hn h4, fun k s hh => hs (h.sw k b s hh)⟩
        have cD : ∀ id ∈ D, ∃ r c, S.rows[id]? = some r ∧ r.c = some c := fun id hi => (DD id hi).elim (r7 id) (r6 id)
        have bxk : ∀ q ∈ bx, (∃ p ∈ bs, q.1 = p.1 ∧ q.2.ep = p.2 ∧ q.2.c.isSome = true) := fun q hq => by
          obtain ⟨p, hp, e1, e2, c, arr, ty, Bi, e3, _⟩ := b3 q hq
          exact ⟨p, hp, e1, e2, by rw [e3]; rfl⟩
        have bsk : ∀ p ∈ bs, p.1 ∈ bx.map (·.1) := fun p hp => by rw [b1]; exact List.mem_map.2 ⟨p, hp, rfl⟩
        have lives : ∀ p ∈ bs, ∃ cs, S.box p.1 p.2 = some cs ∧ G.who (G.bk p.1) = .bx p.1 := r8
        -- a variable's cells behind the call
        have boxR : ∀ (G' : Gh) (rows' : List Row), (∀ b, Fr b → G'.F b) → (∀ b ∈ B2, b ∉ hb → G'.F (.b b)) → (∀ p ∈ bs, G'.bk p.1 = G.bk p.1 ∧ G'.who (G.bk p.1) = .bx p.1) → ∀ q ∈ bx, ∀ cs, q.2.c = some cs → BoxR w' G' rows' q.1 cs := by
          intro G' rows' g1 g2 g3 q hq cs' hcs'
          obtain ⟨p, hp, e1, e2, c, arr, ty, Bi, e3, e4, e5, e6, e7⟩ := b3 q hq
          rw [e3] at hcs'
          cases hcs'
          obtain ⟨e8, e9⟩ := e7 m2
          obtain ⟨H0, t1, t2, t3⟩ := takes_cells (oc_dat S c) e5 e8
          have hH0 : H0 = [] := by cases H0 with | nil => rfl | cons x l => simp at t1
          subst hH0
          obtain ⟨f1, _⟩ := t3 G' rows' g1 (fun p hp => by cases hp) (fun b hb0 _ => g2 b (e6 b hb0) fun hm => by
            rw [r2] at hm
            obtain ⟨p', hp', rfl⟩ := List.mem_map.1 hm
            exact e9 p' hp' hb0) (fun p hp => by cases hp)
          obtain ⟨g4, g5⟩ := g3 p hp
          exact ⟨by rw [e1, g4, g5], arr, ty, by rw [e1, g4]; exact e4, f1⟩
        have hkp4 : w'.os = w.os ∧ w'.tape = w.tape ∧ w'.output = w.output ∧ w.heap.size ≤ w'.heap.size := ⟨hkp.os, hkp.tape, hkp.output, hkp.size⟩
        dsimp only at hK
        split at hK
        · -- a pointer comes back
          rename_i c
          split at hK
          · rename_i nb hnb
            split at hK
            · rename_i Bx hBx
              obtain ⟨hne, hK⟩ := hK
              cases rv with
              | nil => exact hR1'.elim
              | cons v0 rv =>
                obtain ⟨Ba, Bb, ha, hb2, ⟨b0, arr, ty, Bc, q1, q2, q3, rfl, rfl⟩, hrest, rfl, rfl⟩ := hR1'
                cases rv with
                | cons => exact hrest.elim
                | nil =>
                  obtain ⟨rfl, rfl⟩ := hrest
                  subst q1
                  have hb0m : b0 ∈ (b0 :: Bc ++ []) ++ B2 := by simp
                  have hb0n : b0 ∉ hb := fun hm => m3 b0 (by simp) b0 (hbB b0 hm) rfl
                  have hne' : nb ∉ bs.map (·.1) := fun hm => by
                    rw [List.all_eq_true] at hne
                    have := hne nb hm
                    simp at this
                  obtain ⟨G', hG⟩ := call_core h Fr ((b0 :: Bc ++ []) ++ B2) hb D bs [] (some (b0, nb)) [] (bx ++ [(nb, ⟨Bx.ep + 1, some (datCells c)⟩)]) cFr1 cFr2 cFs cSo cB r2 lives hkp4 csame cD rfl List.nodup_nil List.nodup_nil (fun b hb0 => by cases hb0) (fun p hp => by cases hp)
                    (fun b x e => by
                      cases e
                      refine ⟨hb0m, hb0n, by simp [HEs], Bx, hBx, hne', by simp, fun q hq e => ?_⟩
                      rcases List.mem_append.1 hq with hq | hq
                      · obtain ⟨p, hp, e1, _⟩ := bxk q hq
                        exact absurd (List.mem_map.2 ⟨p, hp, by rw [← e1, e]⟩) hne'
                      · simp at hq; subst hq; rfl)
                    (fun q hq => by
                      rcases List.mem_append.1 hq with hq | hq
                      · exact .inl (bxk q hq)
                      · simp at hq; subst hq; exact .inr ⟨b0, rfl⟩)
                    (fun p hp => by simp only [List.map_append, List.mem_append]; exact .inl (bsk p hp))
                  obtain ⟨hbk, hwh⟩ := hG.np b0 nb rfl
                  refine ⟨_, G', hK, ?_⟩
                  have key := hG.inv d (ptrV b0) (.pb nb (Bx.ep + 1) 0) (fun B0 hB0 => ?_) (fun p hp => by cases hp) (fun q hq cs' hcs' => ?_)
                  · rw [List.append_nil] at key
                    exact key
                  · rcases fold_get _ _ _ _ hB0 with ⟨q, hq, e1, e2⟩ | ⟨hno, _⟩
                    · rcases List.mem_append.1 hq with hq | hq
                      · obtain ⟨p, hp, e3, _⟩ := bxk q hq
                        exact absurd (List.mem_map.2 ⟨p, hp, by rw [← e3, e1]⟩) hne'
                      · simp at hq
                        subst hq
                        subst e2
                        exact ⟨Nat.le_refl _, fun _ _ => by rw [hbk]; rfl⟩
                    · exact absurd rfl (hno (nb, ⟨Bx.ep + 1, some (datCells c)⟩) (by simp))
                  · rcases List.mem_append.1 hq with hq | hq
                    · refine boxR G' _ hG.fr (fun b hb0 hn => hG.rest b (List.mem_append_right _ hb0) hn (by simp [HEs]) fun x0 e => ?_) hG.box q hq cs' hcs'
                      cases e
                      exact m3 b0 (by simp) b0 hb0 rfl
                    · simp at hq
                      subst hq
                      cases hcs'
                      have hnc : Bc.Nodup := (List.nodup_cons.1 (by simpa using m1)).2
                      obtain ⟨H0, t1, t2, t3⟩ := takes_cells (oc_dat S c) q3 hnc
                      have hH0 : H0 = [] := by cases H0 with | nil => rfl | cons x l => simp at t1
                      subst hH0
                      obtain ⟨f1, _⟩ := t3 G' _ hG.fr (fun p hp => by cases hp) (fun b hb0 _ => hG.rest b (by simp [hb0]) (fun hm => m3 b (by simp [hb0]) b (hbB b hm) rfl) (by simp [HEs]) fun x0 e => by
                        cases e
                        exact (List.nodup_cons.1 (by simpa using m1)).1 hb0) (fun p hp => by cases hp)
                      exact ⟨by rw [hbk]; exact hwh, arr, ty, by rw [hbk]; exact q2, f1⟩
            · exact hK.elim
          · exact hK.elim
        · -- values come back
          obtain ⟨l, rows, ⟨hnr, hK⟩, hRT⟩ := resT_spec hK
          obtain ⟨rfl, H, t1, t2, t3⟩ := takes_args hRT hR1' m1
          have hrn := nodupB_spec hnr
          obtain ⟨G', hG⟩ := call_core h Fr (B1 ++ B2) hb D bs H none rows bx cFr1 cFr2 cFs cSo cB r2 lives hkp4 csame cD t1 hrn (t2.nodup m1) (fun b hb0 => ⟨List.mem_append_left _ (t2.subset hb0), fun hm => m3 b (t2.subset hb0) b (hbB b hm) rfl⟩) (RT_rows hRT)
            (fun b x e => by cases e) (fun q hq => .inl (bxk q hq)) bsk
          obtain ⟨f1, f2⟩ := t3 G' _ hG.fr hG.hd (fun b hb0 hn => hG.rest b (List.mem_append_left _ hb0) (fun hm => m3 b hb0 b (hbB b hm) rfl) hn fun x0 e => by cases e) hG.rows
          refine ⟨_, G', hK, ?_⟩
          exact hG.inv d (retV rv) (tupT l) (tup_tr f1) f2 (boxR G' _ hG.fr (fun b hb0 hn => hG.rest b (List.mem_append_right _ hb0) hn (fun hm => m3 b (t2.subset hm) b hb0 rfl) fun x0 e => by cases e) hG.box)
      · exact hK.elim
  · exact hk.elim
theorem call_ok (hC : CallsOk P V) (h : Inv w0 prot S G a w) {f : Nat} {E : Ent} (hE : look f V.calls = some E) {d : Option Nat} {ts : List T} {vs : List Value} (hts : F2 (TR w G S.rows S.boxes) vs ts) {K : Outc → Prop} (hk : callT V S d E ts K) :
    Calls P f vs.toArray w fun e w' => ∃ v, e = .returned v ∧ After w0 prot S d K (a.put d v) w' := by
  unfold callT at hk
  split at hk
  · rename_i ts' hu
    obtain ⟨vs', h1, h2, _⟩ := uncl_ok h hts hu
    rw [h2]
    exact callC_ok hC h hE h1 hk
  · exact hk.elim
end
/-! ### what is lent to be written -/
structure IoX where
  t : IoR
  v : Value
  c : RC
  b1 : List Nat
  b2 : List Nat
  row : Row
def IoA (w : World) (S : St) (G : Gh) (t : IoR) (v : Value) (b1 : List Nat) : Prop := ∃ cr, S.live t.id t.ep = some cr ∧ b1.Nodup ∧ (∀ b ∈ b1, G.who b = .rw t.id) ∧ match t.at_ with
  | none => v = G.hd t.id
  | some (i, off) => off < cr.k.size ∧ i < cr.l.length ∧ i * cr.k.size + off < cr.dn ∧ v = G.inn t.id (i * cr.k.size + off) ∧ (∃ l, (flat cr.k cr.l)[i * cr.k.size + off]? = some (.r .u8 l)) ∧ b1 = (ownB v).toList
inductive IoL (w : World) (S : St) (G : Gh) : List IoR → List Value → List Nat → Prop
  | nil : IoL w S G [] [] []
  | cons {t : IoR} {v : Value} {b1 : List Nat} {ts : List IoR} {vs : List Value} {B : List Nat} : IoA w S G t v b1 → IoL w S G ts vs B → IoL w S G (t :: ts) (v :: vs) (b1 ++ B)
theorem IoL.app {w : World} {S : St} {G : Gh} {ts ts' : List IoR} {vs vs' : List Value} {B B' : List Nat} (h : IoL w S G ts vs B) (h' : IoL w S G ts' vs' B') : IoL w S G (ts ++ ts') (vs ++ vs') (B ++ B') := by
  induction h with
  | nil => exact h'
  | cons h1 _ ih => rw [List.append_assoc]; exact .cons h1 ih
theorem IoL.tags {w : World} {S : St} {G : Gh} {ts : List IoR} {vs : List Value} {B : List Nat} (h : IoL w S G ts vs B) : ∀ b ∈ B, ∃ t ∈ ts, G.who b = .rw t.id := by
  induction h with
  | nil => intro b hb; cases hb
  | @cons t _ _ _ _ _ h1 _ ih =>
    intro b hb
    obtain ⟨_, _, _, h2, _⟩ := h1
    rcases List.mem_append.1 hb with hb | hb
    · exact ⟨t, by simp, h2 b hb⟩
    · obtain ⟨t', ht, hw⟩ := ih b hb; exact ⟨t', by simp [ht], hw⟩
theorem IoL.nodup {w : World} {S : St} {G : Gh} {ts : List IoR} {vs : List Value} {B : List Nat} (h : IoL w S G ts vs B) : (ts.map (·.id)).Nodup → B.Nodup := by
  induction h with
  | nil => intro _; exact List.nodup_nil
  | @cons t _ _ _ _ _ h1 h3 ih =>
    intro hn
    rw [List.map_cons, List.nodup_cons] at hn
    obtain ⟨_, _, h0, h2, _⟩ := h1
    refine List.nodup_append.2 ⟨h0, ih hn.2, fun b hb b' hb' e => ?_⟩
    subst e
    obtain ⟨t', ht, hw⟩ := h3.tags b hb'
    rw [h2 b hb] at hw
    simp only [Tag.rw.injEq] at hw
    exact hn.1 (List.mem_map.2 ⟨t', ht, hw.symm⟩)
section
variable {P : Program} {V : Env} {w0 : World} {prot : Pro} {S : St} {G : Gh} {a : Act} {w : World}
theorem ioCells_ok (h : Inv w0 prot S G a w) (io : List (Nat × Nat)) (j : Nat) : ∀ {cs : List Cm} {xs : List Value} {i : Nat} {as : List AC} {ts : List IoR}, F2 (CR w G S.rows) xs cs → ioCells S io j i cs = some (as, ts) →
    ∃ B, ACs w G.F xs as B ∧ IoL w S G ts (iovC xs as) B := by
  intro cs
  induction cs with
  | nil =>
    intro xs i as ts hf ha
    cases hf
    simp only [ioCells, Option.some.injEq, Prod.mk.injEq] at ha
    obtain ⟨rfl, rfl⟩ := ha
    exact ⟨[], rfl, .nil⟩
  | cons c cs ih =>
    intro xs i as ts hf ha
    cases hf with
    | @cons v _ xs _ hv hf =>
      simp only [ioCells] at ha
      split at ha
      · simp at ha
      · rename_i as' ts' ha'
        obtain ⟨B, h1, h2⟩ := ih hf ha'
        cases c with
        | dead => simp at ha
        | d x =>
          simp only at ha
          split at ha
          · simp at ha
          · cases ha
            exact ⟨B, ⟨[], B, ⟨hv, rfl⟩, h1, rfl⟩, h2⟩
        | ref id ep =>
          simp only at ha
          split at ha
          · rename_i c hc
            split at ha
            · cases ha
              obtain ⟨r, hr, he, hrc⟩ := live_spec hc
              have hvh := (hv.2.2 r hr).2 he (by simp [hrc])
              obtain ⟨zs, Bo, hown, hBn, htag, _⟩ := h.row id r hr c hrc
              rw [← hvh] at hown
              exact ⟨Bo ++ B, ⟨Bo, B, ⟨zs, hown.nh false⟩, h1, rfl⟩, .cons ⟨c, hc, hBn, htag, hvh⟩ h2⟩
            · simp at ha
          · simp at ha
theorem DCs.at {w : World} {F : HF → Prop} : ∀ {n : Nat} {vs : List Value} {ds : List D} {B : List Nat}, DCs w F n vs ds B → ∀ {j : Nat} {v : Value} {x : D}, j < n → vs[j]? = some v → ds[j]? = some x → ∃ Bj, DC w F v x Bj ∧ ∀ b ∈ Bj, b ∈ B
  | n + 1, v :: vs, y :: ds, B, h, j, u, x, hj, hv, hx => by
    obtain ⟨B1, B2, h1, h2, rfl⟩ := h
    cases j with
    | zero =>
      simp only [List.getElem?_cons_zero, Option.some.injEq] at hv hx
      subst hv; subst hx
      exact ⟨B1, h1, fun b hb => List.mem_append_left _ hb⟩
    | succ j =>
      obtain ⟨Bj, h3, h4⟩ := DCs.at h2 (j := j) (by omega) (by simpa using hv) (by simpa using hx)
      exact ⟨Bj, h3, fun b hb => List.mem_append_right _ (h4 b hb)⟩
  | _ + 1, [], _, _, h, _, _, _, _, _, _ => by cases ‹List D› <;> exact h.elim
  | _ + 1, _ :: _, [], _, h, _, _, _, _, _, _ => h.elim
theorem ioT_ok (h : Inv w0 prot S G a w) (io : List (Nat × Nat)) : ∀ {ts : List T} {vs : List Value} {j : Nat} {as : List Arg} {tg : List IoR}, F2 (TR w G S.rows S.boxes) vs ts → ioT S io j ts = some (as, tg) →
    ∃ B, ArgsR w G.F vs as B [] ∧ IoL w S G tg (iovA vs as) B := by
  intro ts
  induction ts with
  | nil =>
    intro vs j as tg hf ha
    cases hf
    simp only [ioT, Option.some.injEq, Prod.mk.injEq] at ha
    obtain ⟨rfl, rfl⟩ := ha
    exact ⟨[], ⟨rfl, rfl⟩, .nil⟩
  | cons t ts ih =>
    intro vs j as tg hf ha
    cases hf with
    | @cons v _ vs _ hv hf =>
      simp only [ioT] at ha
      split at ha
      · simp at ha
      · rename_i as' tg' ha'
        obtain ⟨B2, h1, h2⟩ := ih hf ha'
        split at ha
        · rename_i g cs
          split at ha
          · rename_i x r hx
            cases ha
            obtain ⟨xs, q1, q2, q3, q4⟩ := VR.open hv
            obtain ⟨B1, r1, r2⟩ := ioCells_ok h io j q2 hx
            refine ⟨B1 ++ B2, ⟨B1, B2, [], [], ⟨xs, q1, q3, q4, r1, rfl⟩, h1, rfl, rfl⟩, ?_⟩
            have : iovA (v :: vs) (.v g x :: as') = iovC xs x ++ iovA vs as' := by simp [iovA, q3]
            rw [this]
            exact r2.app h2
          · simp at ha
        · rename_i id ep vv i off
          split at ha
          · rename_i c hc
            split at ha
            · rename_i l hcell hio
              split at ha
              · rename_i hvv
                cases ha
                obtain ⟨r, hr, he, hrc⟩ := live_spec hc
                obtain ⟨_, hsub⟩ := hv r hr
                obtain ⟨_, hsub⟩ := hsub he c hrc
                obtain ⟨hdn, hvi⟩ := hsub hvv
                obtain ⟨zs, Bo, hown, hBn, htag, hin⟩ := h.row id r hr c hrc
                obtain ⟨hout, Bi, hdc, hB⟩ := hown
                have hoff : off < c.k.size := by
                  have := (List.getElem?_eq_some_iff.1 hcell).1
                  rwa [cells_len] at this
                have hzl := hout.lies.1
                have hlen := hdc.len
                have hi : i < c.l.length := by
                  have h5 : i * c.k.size + off < c.l.length * c.k.size := by omega
                  apply Nat.lt_of_not_le
                  intro hle
                  have := Nat.mul_le_mul_right c.k.size hle
                  omega
                have hflat : (flat c.k c.l)[i * c.k.size + off]? = some (.r .u8 l) := by
                  have h1 := flat_at c.k c.l i hi
                  rw [← h1, List.getElem?_take, if_pos hoff, List.getElem?_drop] at hcell
                  exact hcell
                have hxs := hin _ hdn _ _ hflat
                obtain ⟨Bj, hdcj, hBj⟩ := hdc.at hdn hxs hflat
                rw [← hvi] at hdcj
                obtain ⟨⟨ys, hy1, hy2⟩, rfl⟩ := hdcj
                have htg : ∀ b ∈ (ownB v).toList, G.who b = .rw id := fun b hb => htag b (by rw [hB]; exact List.mem_append_right _ (hBj b hb))
                have ho1 := hy1.2
                have hcells : v.cells = #[v] := by rcases ho1 with ⟨⟨x, rfl⟩, _⟩ | ⟨g, cap, cur, rfl, _⟩ <;> rfl
                have hAC : ACs w G.F [v] [.own ⟨5, .u8, l, m0⟩] (ownB v).toList := ⟨(ownB v).toList, [], ⟨ys, OwnX.mk0 rfl rfl hy1 hy2⟩, rfl, by simp⟩
                refine ⟨(ownB v).toList ++ B2, ⟨(ownB v).toList, B2, [], [], ⟨[v], rfl, hcells, fun _ => rfl, hAC, rfl⟩, h1, rfl, rfl⟩, ?_⟩
                have : iovA (v :: vs) (.v false [.own ⟨5, .u8, l, m0⟩] :: as') = v :: iovA vs as' := by simp [iovA, iovC, hcells]
                rw [this]
                exact .cons ⟨c, hc, by cases ownB v <;> simp, htg, hoff, hi, hdn, hvi, ⟨l, hflat⟩, rfl⟩ h2
              · simp at ha
            · simp at ha
          · simp at ha
        · simp at ha
def IoBk (S : St) (t : IoR) (c : RC) (row : Row) : Prop := ∃ cr, S.live t.id t.ep = some cr ∧ match t.at_ with
  | none => c.e = cr.e ∧ c.k = cr.k ∧ c.m.p = false ∧ cr.m.p = false ∧ row = ⟨t.ep, some ⟨c.e, c.k, c.l, ⟨c.m.d, cr.m.h, cr.m.v + 1, cr.m.p⟩⟩⟩
  | some (i, off) => ∃ e l' h v, c = ⟨5, .u8, l', ⟨none, h, v, false⟩⟩ ∧ cr.k.mk (putC (cr.k.cells (cr.k.at cr.l i)) off [.r .u8 l']) = some e ∧ row = ⟨t.ep, some ⟨cr.e, cr.k, cr.l.set i e, cr.m⟩⟩
theorem io_zip {w' : World} {F' : HF → Prop} : ∀ {tg : List IoR} {vs : List Value} {B : List Nat} {cs : List RC} {B2 : List Nat} {rows : List (Nat × Row)}, IoL w S G tg vs B → ACs w' F' vs (cs.map .own) B2 → ioRows S tg cs = some rows →
    ∃ L : List IoX, tg = L.map (·.t) ∧ B = L.flatMap (·.b1) ∧ B2 = L.flatMap (·.b2) ∧ rows = L.map (fun x => (x.t.id, x.row)) ∧ ∀ x ∈ L, IoA w S G x.t x.v x.b1 ∧ OwnR w' F' x.v x.c x.b2 ∧ IoBk S x.t x.c x.row
  | [], vs, B, cs, B2, rows, hL, hA, hr => by
    cases hL
    cases cs with
    | nil =>
      simp only [ioRows, Option.some.injEq] at hr
      subst hr
      have : B2 = [] := hA
      subst this
      exact ⟨[], rfl, rfl, rfl, rfl, fun x hx => by cases hx⟩
    | cons => exact hA.elim
  | t :: tg, vs, B, cs, B2, rows, hL, hA, hr => by
    cases hL with
    | @cons _ v b1 _ vs B h1 h2 =>
      cases cs with
      | nil => exact hA.elim
      | cons c cs =>
        obtain ⟨C1, C2, hc1, hc2, rfl⟩ := hA
        obtain ⟨id, ep, at_⟩ := t
        have fin : ∀ (row : Row) (rows' : List (Nat × Row)), ioRows S tg cs = some rows' → IoBk S ⟨id, ep, at_⟩ c row → rows = (id, row) :: rows' →
            ∃ L : List IoX, ⟨id, ep, at_⟩ :: tg = L.map (·.t) ∧ b1 ++ B = L.flatMap (·.b1) ∧ C1 ++ C2 = L.flatMap (·.b2) ∧ rows = L.map (fun x => (x.t.id, x.row)) ∧ ∀ x ∈ L, IoA w S G x.t x.v x.b1 ∧ OwnR w' F' x.v x.c x.b2 ∧ IoBk S x.t x.c x.row := by
          intro row rows' hr' hb he
          obtain ⟨L, l1, l2, l3, l4, l5⟩ := io_zip h2 hc2 hr'
          refine ⟨⟨⟨id, ep, at_⟩, v, c, b1, C1, row⟩ :: L, by simp [l1], by simp [l2], by simp [l3], by simp [he, l4], fun x hx => ?_⟩
          rcases List.mem_cons.1 hx with rfl | hx
          · exact ⟨h1, hc1, hb⟩
          · exact l5 x hx
        cases at_ with
        | none =>
          simp only [ioRows] at hr
          split at hr
          · rename_i cr rs hl hrs
            split at hr
            · rename_i hcc
              cases hr
              exact fin _ rs hrs ⟨cr, hl, hcc.1, hcc.2.1, hcc.2.2.1, hcc.2.2.2, rfl⟩ rfl
            · simp at hr
          · simp at hr
        | some p =>
          obtain ⟨i, off⟩ := p
          unfold ioRows at hr
          split at hr
          · simp at *
          · simp at *
          · rename_i heq1 heq2
            cases heq1
            cases heq2
            split at hr
            · rename_i cr rs hl hrs
              split at hr
              · rename_i hcc
                split at hr
                · rename_i e he
                  cases hr
                  obtain ⟨rfl, _⟩ := hcc
                  exact fin _ rs hrs ⟨cr, hl, e, _, _, _, rfl, he, rfl⟩ rfl
                · simp at hr
              · simp at hr
            · simp at hr
          · simp at hr
end
theorem DCs.lend {w w' : World} {F F' : HF → Prop} {v : Value} {l' : List Int} (hF : (∀ x, F x → F' x) ∧ ∀ b : Nat, F (.b b) → w'.heap[b]? = w.heap[b]?) (hD : DC w' F' v (.r .u8 l') (ownB v).toList) : ∀ {n : Nat} {vs : List Value} {ds : List D} {B : List Nat}, DCs w F n vs ds B → B.Nodup → ∀ {j : Nat} {l : List Int}, j < n → vs[j]? = some v → ds[j]? = some (.r .u8 l) →
    (∀ b ∈ B, ownB v ≠ some b → w'.heap[b]? = w.heap[b]?) → DCs w' F' n vs (ds.set j (.r .u8 l')) B
  | n + 1, u :: vs, y :: ds, B, h, hn, j, l, hj, hv, hx, hB => by
    obtain ⟨B1, B2, h1, h2, rfl⟩ := h
    obtain ⟨n1, n2, n3⟩ := List.nodup_append.1 hn
    cases j with
    | zero =>
      simp only [List.getElem?_cons_zero, Option.some.injEq] at hv hx
      subst hv; subst hx
      obtain ⟨_, rfl⟩ := h1
      rw [List.set_cons_zero]
      exact ⟨_, B2, hD, h2.mono hF fun b hb => hB b (List.mem_append_right _ hb) fun e => n3 b (by rw [e]; simp) b hb rfl, rfl⟩
    | succ j =>
      rw [List.set_cons_succ]
      have hv' : vs[j]? = some v := by simpa using hv
      have hx' : ds[j]? = some (.r .u8 l) := by simpa using hx
      obtain ⟨Bj, hdj, hBj⟩ := h2.at (by omega) hv' hx'
      obtain ⟨_, rfl⟩ := hdj
      refine ⟨B1, B2, h1.mono hF fun b hb => hB b (List.mem_append_left _ hb) fun e => n3 b hb b (hBj b (by rw [e]; simp)) rfl, DCs.lend hF hD h2 n2 (by omega) hv' hx' fun b hb hne => hB b (List.mem_append_right _ hb) hne, rfl⟩
  | _ + 1, [], _, _, h, _, _, _, _, _, _, _ => by cases ‹List D› <;> exact h.elim
  | _ + 1, _ :: _, [], _, h, _, _, _, _, _, _, _ => h.elim
theorem putC_one {α : Type} (l : List α) (o : Nat) (x : α) (h : o < l.length) : putC l o [x] = l.set o x := by
  unfold putC
  rw [List.set_eq_take_append_cons_drop, if_pos h]
  simp
theorem flat_vr {w : World} {F : HF → Prop} {G : Gh} {rows : List Row} (hc : ∀ k g s, F (.h k g s) → G.sh k g s) : ∀ {as : List AC} {xs : List Value} {B : List Nat}, flatAC as = true → ACs w F xs as B → F2 (CR w G rows) xs (datCells as)
  | [], [], _, _, _ => .nil
  | [], _ :: _, _, _, h => h.elim
  | _ :: _, [], _, _, h => h.elim
  | c :: as, x :: xs, B, hf, h => by
    obtain ⟨B1, B2, h1, h2, h3⟩ := h
    simp only [flatAC, List.all_cons, Bool.and_eq_true] at hf
    refine .cons ?_ (flat_vr hc (by simpa [flatAC] using hf.2) h2)
    cases c with
    | own c => simp at hf
    | xx => simp at hf
    | d y =>
      cases y with
      | r k l => simp at hf
      | h k n => obtain ⟨h4, _⟩ := h1; exact Rd.h _ _ _ (h4.sh.mono hc)
      | i k n => obtain ⟨h4, _⟩ := h1; cases h4; exact Rd.i _ _
      | b n => obtain ⟨h4, _⟩ := h1; cases h4; exact Rd.b _
theorem flat_tr {w : World} {F : HF → Prop} {G : Gh} {rows : List Row} (hc : ∀ k g s, F (.h k g s) → G.sh k g s) : ∀ {as : List Arg} {vs : List Value} {B : List Nat}, (as.all fun | .v _ cs => flatAC cs | .p cs => flatAC cs) = true → ArgsR w F vs as B [] → F2 (fun v (p : Bool × List Cm) => VR w G rows v p.1 p.2) vs (flatT as)
  | [], [], _, _, _ => .nil
  | [], _ :: _, _, _, h => h.elim
  | _ :: _, [], _, _, h => h.elim
  | x :: as, v :: vs, B, hf, h => by
    obtain ⟨B1, B2, h1, h2, h3, h4, h5, h6⟩ := h
    simp only [List.all_cons, Bool.and_eq_true] at hf
    have hh := List.append_eq_nil_iff.1 h6.symm
    obtain ⟨rfl, rfl⟩ := hh
    cases x with
    | v g cs =>
      obtain ⟨xs, q1, q2, q3, q4, _⟩ := h3
      refine .cons ?_ (flat_tr hc hf.2 h4)
      rw [q1]
      exact VR.mk (flat_vr hc hf.1 q4) q3
    | p cs => obtain ⟨b, arr, ty, B1', q1, q2, q3, q4, q5⟩ := h3; cases q5
section
variable {P : Program} {V : Env} {w0 : World} {prot : Pro} {S : St} {G : Gh} {a : Act} {w : World}
open Classical in
noncomputable def ioGh (G : Gh) (L : List IoX) (F' : HF → Prop) (zs : Nat → List Value) : Gh where
  who b := match L.find? (fun x => x.b2.contains b) with
    | some x => .rw x.t.id
    | none => if F' (.b b) then .fz else if (∃ k s, F' (.h k b s)) then .sh else G.who b
  sh := fun k g s => F' (.h k g s)
  bk := G.bk
  hd := G.hd
  inn id j := match L.find? (fun x => x.t.id == id) with
    | some x => match x.t.at_ with
      | none => (zs id).getD j undef
      | some _ => G.inn id j
    | none => G.inn id j
theorem io_find : ∀ {L : List IoX}, (L.flatMap (·.b2)).Nodup → ∀ {x : IoX}, x ∈ L → ∀ {b : Nat}, b ∈ x.b2 → L.find? (fun x => x.b2.contains b) = some x
  | [], _, p, hp, _, _ => by cases hp
  | q :: L, hn, p, hp, b, hb => by
    rw [List.flatMap_cons] at hn
    obtain ⟨n1, n2, n3⟩ := List.nodup_append.1 hn
    rw [List.find?_cons]
    rcases List.mem_cons.1 hp with rfl | hp
    · rw [show p.b2.contains b = true by simpa using hb]
    · have hq : q.b2.contains b = false := by
        cases hc : q.b2.contains b with
        | false => rfl
        | true => exact absurd rfl (n3 b (by simpa using hc) b (List.mem_flatMap.2 ⟨p, hp, hb⟩))
      rw [hq]
      exact io_find n2 hp hb
theorem io_find_none {L : List IoX} {b : Nat} (h : b ∉ L.flatMap (·.b2)) : L.find? (fun x => x.b2.contains b) = none := by
  rw [List.find?_eq_none]
  intro p hp hb
  exact h (List.mem_flatMap.2 ⟨p, hp, by simpa using hb⟩)
theorem io_name {L : List IoX} (hn : (L.map (·.t.id)).Nodup) {x : IoX} (hp : x ∈ L) : L.find? (fun q => q.t.id == x.t.id) = some x := by
  have := find_key (fun q : IoX => some q.t.id) L (by rw [List.filterMap_eq_map']; exact hn) x hp x.t.id rfl
  simpa using this
theorem io_name_none {L : List IoX} {id : Nat} (h : id ∉ L.map (·.t.id)) : L.find? (fun q => q.t.id == id) = none := by
  rw [List.find?_eq_none]
  intro p hp hb
  exact h (List.mem_map.2 ⟨p, hp, by simpa using hb⟩)
open Classical in
theorem callIo_ok (hI : IosOk P V) (h : Inv w0 prot S G a w) {f : Nat} {E : EntI} (hE : look f V.ioc = some E) {d : Option Nat} {ts : List T} {vs : List Value} (hts : F2 (TR w G S.rows S.boxes) vs ts) {K : Outc → Prop} (hk : callIo S E ts K) :
    Calls P f vs.toArray w fun e w' => ∃ v, e = .returned v ∧ After w0 prot S d K (a.put d v) w' := by
  unfold callIo at hk
  split at hk
  case h_2 => exact hk.elim
  rename_i as tg hargs
  obtain ⟨hnd, hF⟩ := hk
  obtain ⟨B, hA, hL⟩ := ioT_ok h E.io hts hargs
  have hn := nodupB_spec hnd
  have hBn := hL.nodup hn
  have htag := hL.tags
  have hFlt : ∀ b : Nat, G.F (.b b) → b < w.heap.size := fun b hb => h.lt b (by have hb' : G.who b = .fz := hb; rw [hb']; simp)
  refine ((hI f E hE).2 w G.F vs as B _ hA hBn (fun b hb => ?_) hFlt h.so hF).mono ?_
  · obtain ⟨t, _, hw⟩ := htag b hb
    refine ⟨⟨fun hf => ?_, fun k s hf => ?_⟩, h.lt b (by rw [hw]; simp)⟩
    · have hf' : G.who b = .fz := hf
      rw [hw] at hf'
      cases hf'
    · have hf' := h.sw k b s hf
      rw [hw] at hf'
      cases hf'
  rintro e w' ⟨rv, rs, cs, F', B1, B2, rfl, hK, hR, hIo, hn', hB', hF1, hF2, hkp, hFS, hSO⟩
  refine ⟨_, rfl, ?_⟩
  split at hK
  case h_2 => exact hK.elim
  rename_i rows hrows
  obtain ⟨hflat, hK⟩ := hK
  obtain ⟨L, l1, l2, l3, l4, l5⟩ := io_zip hL hIo hrows
  obtain ⟨m1, m2, m3⟩ := List.nodup_append.1 hn'
  have hids : (L.map (·.t.id)).Nodup := by rw [l1, List.map_map] at hn; exact hn
  rw [l3] at m2
  -- the cells of what comes back whole
  have hzs : ∃ zs : Nat → List Value, ∀ x ∈ L, OwnX w' F' x.v x.c (zs x.t.id) x.b2 := by
    refine ⟨fun id => if hx : ∃ x ∈ L, x.t.id = id then Classical.choose (l5 _ (Classical.choose_spec hx).1).2.1 else [], fun x hx => ?_⟩
    have hex : ∃ y ∈ L, y.t.id = x.t.id := ⟨x, hx, rfl⟩
    have hy := Classical.choose_spec hex
    have e1 : Classical.choose hex = x := by
      have h1 := io_name hids hy.1
      have h2 := io_name hids hx
      rw [hy.2] at h1
      rw [h1] at h2
      exact Option.some.inj h2
    dsimp only
    rw [dif_pos hex]
    have h3 := Classical.choose_spec (l5 _ hy.1).2.1
    have key : ∀ (z : IoX) (hz : z ∈ L) (e : z = x), OwnX w' F' x.v x.c (Classical.choose (l5 z hz).2.1) x.b2 := fun z hz e => by
      subst e
      exact Classical.choose_spec (l5 z hz).2.1
    exact key _ hy.1 e1
  obtain ⟨zs, hzs⟩ := hzs
  let G' := ioGh G L F' zs
  have inB : ∀ b ∈ L.flatMap (·.b2), NF F' b ∧ b < w'.heap.size ∧ (b ∈ B ∨ w.heap.size ≤ b) := fun b hb => hB' b (List.mem_append_right _ (by rw [l3]; exact hb))
  have whoB : ∀ x ∈ L, ∀ b ∈ x.b2, G'.who b = .rw x.t.id := fun x hx b hb => by
    show (match L.find? (fun x => x.b2.contains b) with | some x => _ | none => _) = _
    rw [io_find m2 hx hb]
  have whoN : ∀ b : Nat, b ∉ L.flatMap (·.b2) → ¬ F' (.b b) → (¬ ∃ k s, F' (.h k b s)) → G'.who b = G.who b := fun b hb hf hs => by
    show (match L.find? (fun x => x.b2.contains b) with | some x => _ | none => _) = _
    rw [io_find_none hb]
    exact (if_neg hf).trans (if_neg hs)
  have whoF : ∀ b : Nat, F' (.b b) → G'.who b = .fz := fun b hf => by
    show (match L.find? (fun x => x.b2.contains b) with | some x => _ | none => _) = _
    rw [io_find_none fun hm => (inB b hm).1.1 hf]
    exact if_pos hf
  have whoS : ∀ k g s, F' (.h k g s) → G'.who g = .sh := fun k g s hf => by
    show (match L.find? (fun x => x.b2.contains g) with | some x => _ | none => _) = _
    rw [io_find_none fun hm => (inB g hm).1.2 k s hf]
    exact (if_neg (hSO.df k g s hf)).trans (if_pos ⟨k, s, hf⟩)
  have whoFF : ∀ x, F' x → G'.F x := fun x hx => by
    cases x with
    | b n => exact whoF n hx
    | h k g s => exact hx
  -- who is neither lent nor data stays
  have old : ∀ b : Nat, b < w.heap.size → b ∉ B → ¬ G.F (.b b) → G.who b ≠ .sh → G'.who b = G.who b ∧ w'.heap[b]? = w.heap[b]? := fun b hb hnB hf hs => by
    have hs2 : ∀ k s, ¬ G.sh k b s := fun k s hh => hs (h.sw k b s hh)
    refine ⟨whoN b (fun hm => ?_) (fun hf' => ?_) (fun ⟨k, s, hf'⟩ => ?_), hkp.block b ⟨hb, hnB, hs2⟩⟩
    rotate_left
    rotate_left
    · rcases hFS k b s hf' with h1 | h1
      · exact hs2 k s h1
      · omega
    · rcases (inB b hm).2.2 with h1 | h1
      · exact hnB h1
      · omega
    · rcases (hF2 b hf').2 with h1 | h1 | h1
      · exact hf h1
      · exact hnB h1
      · omega
  have fz : ∀ b, G.who b = .fz → G'.who b = .fz ∧ w'.heap[b]? = w.heap[b]? := fun b hb => by
    refine ⟨whoF b (hF1 (.b b) hb), hkp.block b ⟨hFlt b hb, fun hm => ?_, fun k s hh => ?_⟩⟩
    · obtain ⟨t, _, hw⟩ := htag b hm
      rw [hb] at hw; cases hw
    · have := h.sw k b s hh
      rw [hb] at this; cases this
  have notB : ∀ b, (∀ id, G.who b ≠ .rw id) → b ∉ B := fun b hb hm => by
    obtain ⟨t, _, hw⟩ := htag b hm
    exact hb _ hw
  have inn_old : ∀ id, id ∉ L.map (·.t.id) → ∀ j, G'.inn id j = G.inn id j := fun id hi j => by
    show (match L.find? (fun x => x.t.id == id) with | some x => _ | none => _) = _
    rw [io_name_none hi]
  have row_get : ∀ id r', (rows.foldl (fun r p => r.set p.1 p.2) S.rows)[id]? = some r' → (∃ x ∈ L, x.t.id = id ∧ x.row = r') ∨ (id ∉ L.map (·.t.id) ∧ S.rows[id]? = some r') := fun id r' hr' => by
    rw [l4] at hr'
    rcases fold_get _ _ _ _ hr' with ⟨p, hp, h1, h2⟩ | ⟨h1, h2⟩
    · obtain ⟨x, hx, rfl⟩ := List.mem_map.1 hp
      exact .inl ⟨x, hx, h1, h2⟩
    · refine .inr ⟨fun hm => ?_, h2⟩
      obtain ⟨x, hx, e⟩ := List.mem_map.1 hm
      exact h1 (x.t.id, x.row) (List.mem_map.2 ⟨x, hx, rfl⟩) e
  have keeps : Keeps w G S.rows S.boxes w' G' (rows.foldl (fun r p => r.set p.1 p.2) S.rows) S.boxes := by
    refine ⟨fz, fun id r' hr' => ?_, fun b B' hB => ⟨B', hB, Nat.le_refl _, fun _ h => ⟨h, rfl⟩⟩, fun k g s hh => hF1 (.h k g s) hh⟩
    rcases row_get id r' hr' with ⟨x, hx, rfl, rfl⟩ | ⟨h1, h2⟩
    · obtain ⟨⟨cr, hl, _, _, hA'⟩, hO, cr', hl', hb⟩ := l5 x hx
      rw [hl] at hl'
      cases hl'
      obtain ⟨r, hr, hep, hrc⟩ := live_spec hl
      refine ⟨r, hr, ?_⟩
      cases hat : x.t.at_ with
      | none =>
        rw [hat] at hb hA'
        obtain ⟨_, hk, hp1, hp2, hrow⟩ := hb
        rw [hrow]
        obtain ⟨zr, Bo, hown, _⟩ := h.row x.t.id r hr cr hrc
        have hlen : cr.l.length = x.c.l.length := by
          obtain ⟨zs0, hO⟩ := hO
          have h1 := hown.out.lies.2
          have h2 := hO.out.lies.2
          have hA'' : x.v = G.hd x.t.id := hA'
          rw [hA''] at h2
          rcases h1 with ⟨⟨y, h1⟩, h3⟩ | ⟨g, o, c1, h1, _⟩ <;> rcases h2 with ⟨⟨y', h2⟩, h4⟩ | ⟨g', o', c2, h2, _⟩
          · rw [h3, h4]; rfl
          · rw [h1] at h2; injection h2 with _ e _; rw [h3]; exact e
          · rw [h1] at h2; injection h2 with _ e _; rw [h4]; exact e
          · rw [h1] at h2; injection h2
        refine ⟨by dsimp only; omega, fun _ c' hc' => ?_, fun c' hc' hh => by cases hc'; exact ⟨cr, hrc, hh, rfl⟩⟩
        cases hc'
        exact ⟨rfl, cr, hrc, hk.symm, hlen, by dsimp only; omega, fun e => by dsimp only at e; omega⟩
      | some q =>
        obtain ⟨i, off⟩ := q
        rw [hat] at hb hA'
        obtain ⟨e, l', hh, vv, hc, hm, hrow⟩ := hb
        rw [hrow]
        refine ⟨by dsimp only; omega, fun _ c' hc' => ?_, fun c' hc' hh => by cases hc'; exact ⟨cr, hrc, hh, rfl⟩⟩
        cases hc'
        refine ⟨rfl, cr, hrc, rfl, by simp, Nat.le_refl _, fun _ => ⟨Nat.le_refl _, fun j _ => ?_⟩⟩
        show (match L.find? (fun y => y.t.id == x.t.id) with | some x => _ | none => _) = _
        rw [io_name hids hx]
        dsimp only
        rw [hat]
    · exact ⟨r', h2, RowK.refl r' rfl (inn_old id h1)⟩
  refine ⟨⟨tupT (flatT rs), rows, []⟩, G', hK, ?_⟩
  have hsa : ShB w G w' G' := ⟨⟨hSO.of_sub (fun _ _ _ => Iff.rfl) (fun k g s hg hb => by
    have h1 := whoS k g s hg
    have h2 : G'.who g = .fz := hb
    rw [h1] at h2
    cases h2), whoS⟩, fun k g s hg => hFS k g s hg⟩
  have hres := flat_tr (fun _ _ _ hh => hh) (G := G') (rows := rows.foldl (fun r p => r.set p.1 p.2) S.rows) (by simp only [flatRes, Bool.and_eq_true] at hflat; exact hflat.1) hR
  refine h.step keeps (fun b Bx hBx cs' hcs' => ?_) (fun id r' hr' => ?_) (fun b hb => ?_) ?_ (fun b hb => ?_) hsa (tup_tr hres) d
  · have hbx := h.box b Bx hBx cs' hcs'
    have hlt := h.lt (G.bk b) (by rw [hbx.1]; simp)
    have hnB := notB (G.bk b) fun id => by rw [hbx.1]; simp
    obtain ⟨e1, e2⟩ := old _ hlt hnB (fun hf => by have hf' : G.who (G.bk b) = .fz := hf; rw [hbx.1] at hf'; cases hf') (by rw [hbx.1]; simp)
    exact hbx.keep keeps rfl e1 e2
  · rcases row_get id r' hr' with ⟨x, hx, rfl, rfl⟩ | ⟨h1, h2⟩
    · obtain ⟨⟨cr, hl, _, hb1, hA'⟩, _, cr', hl', hb⟩ := l5 x hx
      have hO := hzs x hx
      rw [hl] at hl'
      cases hl'
      obtain ⟨r, hr, hep, hrc⟩ := live_spec hl
      obtain ⟨zr, Bo, hown, hBon, hBot, hin⟩ := h.row x.t.id r hr cr hrc
      have hx2n : x.b2.Nodup := by
        have : ∀ {L : List IoX}, (L.flatMap (·.b2)).Nodup → ∀ x ∈ L, x.b2.Nodup := by
          intro L
          induction L with
          | nil => intro _ x hx; cases hx
          | cons y L ih =>
            intro hn x hx
            rw [List.flatMap_cons] at hn
            obtain ⟨n1, n2, _⟩ := List.nodup_append.1 hn
            rcases List.mem_cons.1 hx with rfl | hx
            · exact n1
            · exact ih n2 x hx
        exact this m2 x hx
      cases hat : x.t.at_ with
      | none =>
        rw [hat] at hb hA'
        obtain ⟨he, hk, hp1, hp2, hrow⟩ := hb
        rw [hrow]
        intro c' hc'
        cases hc'
        have hv : x.v = G.hd x.t.id := hA'
        have e1 : G'.hd x.t.id = x.v := hv.symm
        rw [e1]
        have hO2 : OwnX w' F' x.v ⟨x.c.e, x.c.k, x.c.l, ⟨x.c.m.d, cr.m.h, cr.m.v + 1, cr.m.p⟩⟩ (zs x.t.id) x.b2 := hO.meta rfl rfl (by dsimp only; rw [hp1, hp2]) rfl
        refine ⟨zs x.t.id, x.b2, hO2.mono ⟨whoFF, fun _ _ => rfl⟩ fun _ _ => rfl, hx2n, whoB x hx, fun j hj k l _ => ?_⟩
        have hlen := (hO2.dcs.choose_spec.1).len.2
        have hg : G'.inn x.t.id j = (zs x.t.id).getD j undef := by
          show (match L.find? (fun y => y.t.id == x.t.id) with | some x => _ | none => _) = _
          rw [io_name hids hx]
          dsimp only
          rw [hat]
        rw [hg, List.getD_eq_getElem?_getD, List.getElem?_eq_getElem (by omega)]; rfl
      | some q =>
        obtain ⟨i, off⟩ := q
        rw [hat] at hb hA'
        obtain ⟨hoff, hi, hdn, hv, ⟨l, hflatj⟩, hb1e⟩ := hA'
        obtain ⟨e, l', hh, vv, hc, hm, hrow⟩ := hb
        rw [hrow]
        intro c' hc'
        cases hc'
        rw [hc] at hO
        obtain ⟨hO1, hOB⟩ := hO.plain rfl
        have hO2 : OwnsC w' 0 5 1 x.v l'.length (zs x.t.id) := hO.out
        have hb2 : x.b2 = (ownB x.v).toList := hOB
        obtain ⟨hout, Bi, hdc, hB0⟩ := hown
        have hxs := hin _ hdn _ _ hflatj
        rw [← hv] at hxs
        obtain ⟨Bj, hdcj, hBj⟩ := hdc.at hdn hxs hflatj
        obtain ⟨_, rfl⟩ := hdcj
        -- this row's other blocks
        have keepB : ∀ b ∈ Bo, ownB x.v ≠ some b → w'.heap[b]? = w.heap[b]? := fun b hb hne => by
          refine hkp.block b ⟨h.lt b (by rw [hBot b hb]; simp), fun hm => ?_, fun k s hh => by have := h.sw k b s hh; rw [hBot b hb] at this; cases this⟩
          rw [l2] at hm
          obtain ⟨y, hy, hby⟩ := List.mem_flatMap.1 hm
          obtain ⟨⟨cy, hly, _, hy1, hAy⟩, _⟩ := l5 y hy
          have h3 := hy1 b hby
          rw [hBot b hb] at h3
          simp only [Tag.rw.injEq] at h3
          have hyx : y = x := by
            have q1 := io_name hids hy
            have q2 := io_name hids hx
            rw [← h3] at q1
            rw [q1] at q2
            exact Option.some.inj q2
          subst hyx
          rw [hb1e] at hby
          exact hne (by simpa using hby)
        have whoO : ∀ b ∈ Bo, G'.who b = .rw x.t.id := fun b hb => by
          by_cases hne : ownB x.v = some b
          · exact whoB x hx b (by rw [hb2, hne]; simp)
          · have hlt := h.lt b (by rw [hBot b hb]; simp)
            have hnB : b ∉ B := fun hm => by
              rw [l2] at hm
              obtain ⟨y, hy, hby⟩ := List.mem_flatMap.1 hm
              obtain ⟨⟨cy, hly, _, hy1, hAy⟩, _⟩ := l5 y hy
              have h3 := hy1 b hby
              rw [hBot b hb] at h3
              simp only [Tag.rw.injEq] at h3
              have hyx : y = x := by
                have q1 := io_name hids hy
                have q2 := io_name hids hx
                rw [← h3] at q1
                rw [q1] at q2
                exact Option.some.inj q2
              subst hyx
              rw [hb1e] at hby
              exact hne (by simpa using hby)
            rw [(old b hlt hnB (fun hf => by have hf' : G.who b = .fz := hf; rw [hBot b hb] at hf'; cases hf') (by rw [hBot b hb]; simp)).1, hBot b hb]
        have hFF : (∀ x, G.F x → G'.F x) ∧ ∀ b : Nat, G.F (.b b) → w'.heap[b]? = w.heap[b]? := keeps.F
        have hob : ∀ b ∈ obB cr (G.hd x.t.id), b ∈ Bo := fun b hb => by rw [hB0]; exact List.mem_append_left _ hb
        have hfs : flat cr.k (cr.l.set i e) = (flat cr.k cr.l).set (i * cr.k.size + off) (.r .u8 l') := by
          have hcl := cells_len cr.k (cr.k.at cr.l i)
          have hidx := idx_le (s := cr.k.size) hi
          have hfl := flat_len cr.k cr.l
          rw [flat_set cr.k cr.l i hi e, mk_cells _ _ _ hm, putC_put _ _ _ _ _ (by rw [cells_len]; exact flat_at cr.k cr.l i hi) (by omega) (by simp; omega), putC_one _ _ _ (by omega)]
        have hBn2 : Bi.Nodup := by rw [hB0] at hBon; exact (List.nodup_append.1 hBon).2.1
        have hBdis : ∀ b ∈ obB cr (G.hd x.t.id), b ∉ Bi := fun b hb hm => by
          rw [hB0] at hBon
          exact (List.nodup_append.1 hBon).2.2 b hb b hm rfl
        refine ⟨zr, Bo, ⟨?_, Bi, ?_, hB0⟩, hBon, whoO, fun j hj k2 l2 hkl => ?_⟩
        · have h1 : outC w' G'.F (G.hd x.t.id) cr zr := hout.keep hFF fun b hb => keepB b (hob b hb) fun e => hBdis b hb (hBj b (by rw [e]; simp))
          have e1 : G'.hd x.t.id = G.hd x.t.id := rfl
          rw [e1]
          unfold outC at h1 ⊢
          simpa using h1
        · show DCs w' G'.F cr.dn zr (flat cr.k (cr.l.set i e)) Bi
          rw [hfs]
          refine DCs.lend hFF ?_ hdc hBn2 hdn hxs hflatj fun b hb hne => keepB b (by rw [hB0]; exact List.mem_append_right _ hb) hne
          exact DC.own hO2 (hO1.mono fun _ _ hh => hh.mono whoFF fun _ _ => rfl)
        · have hj' : j < cr.dn := hj
          have hkl' : (flat cr.k (cr.l.set i e))[j]? = some (.r k2 l2) := hkl
          have hg : G'.inn x.t.id j = G.inn x.t.id j := by
            show (match L.find? (fun y => y.t.id == x.t.id) with | some x => _ | none => _) = _
            rw [io_name hids hx]
            dsimp only
            rw [hat]
          rw [hg]
          rw [hfs, List.getElem?_set] at hkl'
          by_cases hjj : i * cr.k.size + off = j
          · rw [← hjj, ← hv]; exact hxs
          · rw [if_neg hjj] at hkl'
            exact hin j hj' k2 l2 hkl'
    · refine (h.row id r' h2).keep keeps rfl (fun b hb => ?_) (fun b hb => ?_) (inn_old id h1)
      all_goals
        have hlt := h.lt b (by rw [hb]; simp)
        have hnB : b ∉ B := fun hm => by
          obtain ⟨t, ht, hw⟩ := htag b hm
          rw [hb] at hw
          simp only [Tag.rw.injEq] at hw
          rw [l1] at ht
          obtain ⟨x, hx, rfl⟩ := List.mem_map.1 ht
          exact h1 (List.mem_map.2 ⟨x, hx, hw.symm⟩)
        obtain ⟨e1, e2⟩ := old b hlt hnB (fun hf => by have hf' : G.who b = .fz := hf; rw [hb] at hf'; cases hf') (by rw [hb]; simp)
        first
        | exact e1.trans hb
        | exact e2
  · by_cases h1 : b ∈ L.flatMap (·.b2)
    · exact (inB b h1).2.1
    · by_cases h2 : F' (.b b)
      · exact (hF2 b h2).1
      · by_cases h3 : ∃ k s, F' (.h k b s)
        · obtain ⟨k, s, h3⟩ := h3
          obtain ⟨cur, h5, _⟩ := hSO.ok k b s h3
          exact (Array.getElem?_eq_some_iff.1 h5).1
        · rw [whoN b h1 h2 h3] at hb
          exact Nat.lt_of_lt_of_le (h.lt b hb) hkp.size
  · refine h.kp.trans (p' := prot.p) ⟨hkp.os, hkp.tape, hkp.output, hkp.size, fun b hb => ?_⟩ fun _ hx => hx
    have hl := Nat.lt_of_lt_of_le (h.prl b hb) h.kp.size
    exact hkp.block b ⟨hl, notB b fun id => by rcases h.pr b hb with ⟨e, _⟩ | ⟨e, _⟩ <;> (rw [e]; simp), fun k s hh => by
      have h1 := h.sw k b s hh
      rcases h.pr b hb with ⟨e, _⟩ | ⟨e, _⟩ <;> (rw [h1] at e; cases e)⟩
  · have hl := Nat.lt_of_lt_of_le (h.prl b hb) h.kp.size
    rcases h.pr b hb with ⟨e, hf⟩ | ⟨e, hf⟩
    · exact .inl ⟨(fz b e).1, hf⟩
    · refine .inr ⟨?_, hf⟩
      rw [(old b hl (notB b fun id => by rw [e]; simp) (fun hf' => by have hf'' : G.who b = .fz := hf'; rw [e] at hf''; cases hf'') (by rw [e]; simp)).1, e]
end
end Go.Proofs.YtjjcjpmfkbfdfaaE


/- Shared rows: read, written, grown, made. Conditions: none. -/
set_option linter.unusedVariables false
namespace Go.Proofs.YtjjcjpmfkbfdfaaE
open Go Go.RowKit
def HCs (F : HF → Prop) (k : RK) (o : Nat) (vs : List Value) : Prop := ∀ j v, vs[j]? = some v → ∃ d, (hsh k)[(o + j) % k.size]? = some d ∧ HC F v d
theorem HCs.mono {F F' : HF → Prop} {k : RK} {o : Nat} {vs : List Value} (h : HCs F k o vs) (hF : ∀ k g s, F (.h k g s) → F' (.h k g s)) : HCs F' k o vs := fun j v hv => by
  obtain ⟨d, h1, h2⟩ := h j v hv
  exact ⟨d, h1, h2.mono hF⟩
theorem HCs.nil {F : HF → Prop} {k : RK} {o : Nat} : HCs F k o [] := fun j v hv => by simp at hv
theorem HCs.app {F : HF → Prop} {k : RK} {o n : Nat} {vs us : List Value} (h1 : HCs F k o vs) (hl : vs.length = n * k.size) (h2 : HCs F k o us) : HCs F k o (vs ++ us) := fun j v hv => by
  by_cases hj : j < vs.length
  · rw [List.getElem?_append_left hj] at hv
    exact h1 j v hv
  · rw [List.getElem?_append_right (by omega)] at hv
    obtain ⟨d, h3, h4⟩ := h2 _ v hv
    refine ⟨d, ?_, h4⟩
    rw [← h3]
    congr 1
    rw [show o + j = (o + (j - vs.length)) + n * k.size by omega, Nat.add_mul_mod_self_right]
theorem HC.i {F : HF → Prop} {v : Value} {k : IntKind} {n : Int} (h : HC F v (.i k n)) : ∃ x : Int, v = .int k x ∧ (k = .u8 → 0 ≤ x ∧ x ≤ 255) := by
  cases k
  case u8 => obtain ⟨x, h1, h2⟩ := h; exact ⟨x, h1, fun _ => h2⟩
  all_goals (obtain ⟨x, h1⟩ := h; exact ⟨x, h1, fun e => by cases e⟩)
theorem hany_ok {w : World} {F : HF → Prop} : ∀ (sh : List D) (xs : List Value) (K : List D → Prop), hany sh K → xs.length = sh.length → (∀ (j : Nat) v, xs[j]? = some v → ∃ d, sh[j]? = some d ∧ HC F v d) → ∃ ds, K ds ∧ F2 (Rd w F) xs ds := by
  intro sh
  induction sh with
  | nil =>
    intro xs K h hl _
    obtain rfl := List.length_eq_zero_iff.1 hl
    exact ⟨[], h, .nil⟩
  | cons s sh ih =>
    intro xs K h hl hx
    cases xs with
    | nil => simp at hl
    | cons v xs =>
      obtain ⟨d, h1, h2⟩ := hx 0 v rfl
      simp only [List.getElem?_cons_zero, Option.some.injEq] at h1
      subst h1
      have hx' : ∀ j u, xs[j]? = some u → ∃ d, sh[j]? = some d ∧ HC F u d := fun j u hu => by
        obtain ⟨d, h3, h4⟩ := hx (j + 1) u (by simpa using hu)
        exact ⟨d, by simpa using h3, h4⟩
      have hl' : xs.length = sh.length := by simpa using hl
      unfold hany at h
      split at h
      · rename_i e; cases e
      · rename_i e
        cases e
        obtain ⟨x, rfl, h3, h4⟩ := h2
        obtain ⟨ds, h5, h6⟩ := ih xs _ (h x h3 h4) hl' hx'
        exact ⟨_, h5, .cons (.i _ _) h6⟩
      · rename_i e
        cases e
        obtain ⟨x, rfl, _⟩ := HC.i h2
        obtain ⟨ds, h5, h6⟩ := ih xs _ (h x) hl' hx'
        exact ⟨_, h5, .cons (.i _ _) h6⟩
      · rename_i e
        cases e
        obtain ⟨x, rfl⟩ := h2
        obtain ⟨ds, h5, h6⟩ := ih xs _ (h x) hl' hx'
        exact ⟨_, h5, .cons (.b _) h6⟩
      · rename_i e
        cases e
        obtain ⟨n, h3, h4⟩ := h2
        obtain ⟨ds, h5, h6⟩ := ih xs _ (h n h3) hl' hx'
        exact ⟨_, h5, .cons (.h _ _ _ h4) h6⟩
      · exact h.elim
theorem hfit_ok {w : World} {F : HF → Prop} : ∀ (ds sh : List D) (ys : List Value), hfit sh ds → F2 (Rd w F) ys ds → ∀ (j : Nat) v, ys[j]? = some v → ∃ d, sh[j]? = some d ∧ HC F v d := by
  intro ds
  induction ds with
  | nil => intro sh ys _ hf j v hv; cases hf; simp at hv
  | cons x ds ih =>
    intro sh ys h hf j v hv
    cases hf with
    | @cons u _ ys _ h1 h2 =>
      have step : ∀ s sh', sh = s :: sh' → HC F u s → hfit sh' ds → ∃ d, sh[j]? = some d ∧ HC F v d := by
        rintro s sh' rfl h3 h4
        cases j with
        | zero =>
          simp only [List.getElem?_cons_zero, Option.some.injEq] at hv
          subst hv
          exact ⟨s, rfl, h3⟩
        | succ j =>
          obtain ⟨d, h5, h6⟩ := ih sh' ys h4 h2 j v (by simpa using hv)
          exact ⟨d, by simpa using h5, h6⟩
      unfold hfit at h
      split at h
      · rename_i e; cases e
      · rename_i e
        cases e
        obtain rfl := Rd.int h1
        exact step _ _ rfl ⟨_, rfl, h.1⟩ h.2
      · rename_i e
        cases e
        obtain rfl := Rd.int h1
        exact step _ _ rfl ⟨_, rfl⟩ h
      · rename_i e
        cases e
        obtain rfl := Rd.bool h1
        exact step _ _ rfl ⟨_, rfl⟩ h
      · rename_i e
        cases e
        obtain ⟨⟨rfl, h3⟩, h4⟩ := h
        exact step _ _ rfl ⟨_, h3, h1.sh⟩ h4
      · exact h.elim
theorem zr_hc {F : HF → Prop} {k : RK} {d : D} {v : Value} (hd : d ∈ hsh k) (h : ZR v d) : HC F v d := by
  have key : ∀ d, (d = .i .i64 0 ∨ d = .i .u8 0 ∨ d = .b false ∨ d = .h .u8 0) → ZR v d → HC F v d := by
    rintro d (rfl | rfl | rfl | rfl) h
    · exact ⟨0, Rd.int (h default F)⟩
    · exact ⟨0, Rd.int (h default F), by decide, by decide⟩
    · exact ⟨false, Rd.bool (h default F)⟩
    · exact ⟨0, by decide, (h default F).sh⟩
  refine key d ?_ h
  cases k <;> simp [hsh] at hd <;> (first | exact .inl hd | exact .inr (.inl hd) | exact .inr (.inr (.inr hd)) | (rcases hd with hd | hd <;> simp [hd]) | (rcases hd with hd | hd | hd <;> simp [hd]) | (rcases hd with hd | hd | hd | hd <;> simp [hd]))
section
variable {P : Program} {V : Env} {w0 : World} {prot : Pro} {S : St} {G : Gh} {a : Act} {w : World}
theorem sh_read (h : ShA w G) {v : Value} {k : RK} {n : Nat} (hr : RdH G.F v k n) : ((∃ x, v = .slice x 0 0) ∧ n = 0) ∨ ∃ g i cap s cur xs, v = .slice (some ⟨g, i * k.size, none⟩) n cap ∧ G.sh k g s ∧ n ≤ cap ∧ (i + cap) * k.size ≤ s ∧ cap ≤ maxLen ∧
    w.heap[g]? = some (.cells cur (hE k) (0, 0)) ∧ cur.size = s ∧ xs.length = n * k.size ∧ (∀ j u, xs[j]? = some u → w.cell? ⟨g, i * k.size + j, none⟩ = some u) ∧ HCs G.F k 0 xs := by
  rcases hr with h1 | ⟨g, i, cap, s, rfl, h2, h3, h4, h5⟩
  · exact .inl h1
  · obtain ⟨cur, h6, h7, h8⟩ := h.1.ok k g s h2
    have h4' : i * k.size + cap * k.size ≤ cur.size := by rw [Nat.add_mul] at h4; omega
    have h3' := Nat.mul_le_mul_right k.size h3
    have hget : ∀ j u, ((cur.toList.drop (i * k.size)).take (n * k.size))[j]? = some u → cur[i * k.size + j]? = some u ∧ j < n * k.size := fun j u hu => by
      rw [List.getElem?_take] at hu
      split at hu
      · rw [List.getElem?_drop, Array.getElem?_toList] at hu
        exact ⟨hu, by assumption⟩
      · simp at hu
    refine .inr ⟨g, i, cap, s, cur, (cur.toList.drop (i * k.size)).take (n * k.size), rfl, h2, h3, h4, h5, h6, h7, ?_, fun j u hu => ?_, fun j u hu => ?_⟩
    · simp; omega
    · rw [cell_of_row _ _ _ _ _ _ h6]
      exact (hget j u hu).1
    · obtain ⟨d, h9, h10⟩ := h8 _ u (hget j u hu).1
      refine ⟨d, ?_, h10⟩
      rw [← h9]
      congr 1
      rw [Nat.zero_add, Nat.mul_comm, Nat.mul_add_mod]
theorem Inv.sh_write (h : Inv w0 prot S G a w) {k : RK} {g s : Nat} (hg : G.sh k g s) {cur : Array Value} (hcur : w.heap[g]? = some (.cells cur (hE k) (0, 0))) (p : Nat) (ys : List Value) (hp : p + ys.length ≤ cur.size) (ht : HCs G.F k p ys) :
    Keeps w G S.rows S.boxes (w.setRow g (putC cur.toList p ys).toArray) G S.rows S.boxes ∧ Inv w0 prot S G a (w.setRow g (putC cur.toList p ys).toArray) := by
  have hw := h.sw k g s hg
  have hold : ∀ b, b ≠ g → (w.setRow g (putC cur.toList p ys).toArray).heap[b]? = w.heap[b]? := fun b hb => heap_setRow w _ _ hb
  have hne : ∀ b, G.who b ≠ .sh → (w.setRow g (putC cur.toList p ys).toArray).heap[b]? = w.heap[b]? := fun b hb => hold b fun e => hb (by rw [e, hw])
  have hk : Keeps w G S.rows S.boxes (w.setRow g (putC cur.toList p ys).toArray) G S.rows S.boxes :=
    ⟨fun b hb => ⟨hb, hne b (by rw [hb]; simp)⟩, fun id r' hr => ⟨r', hr, RowK.refl r' rfl fun _ => rfl⟩, fun b B' hB => ⟨B', hB, Nat.le_refl _, fun _ h => ⟨h, rfl⟩⟩, fun _ _ _ h => h⟩
  have hl : (putC cur.toList p ys).length = cur.size := by rw [putC_len _ _ _ (by simpa using hp)]; simp
  obtain ⟨cur0, h6, h7, h8⟩ := h.so.ok k g s hg
  rw [hcur] at h6
  cases h6
  have hsa : ShB w G (w.setRow g (putC cur.toList p ys).toArray) G := by
    refine ⟨⟨⟨fun k' g' s' hg' => ?_, h.so.fn, h.so.df⟩, h.sw⟩, fun _ _ _ hh => .inl hh⟩
    by_cases e : g' = g
    · subst e
      obtain ⟨rfl, rfl⟩ := h.so.fn k' g' s' k s hg' hg
      refine ⟨_, setRow_heap w _ _ _ _ _ hcur, by rw [List.size_toArray, hl, h7], fun j v hv => ?_⟩
      rw [List.getElem?_toArray, putC_get _ _ _ (by simp; omega)] at hv
      split at hv
      · exact h8 j v (by simpa using hv)
      · split at hv
        · rename_i h1 h2
          obtain ⟨d, h9, h10⟩ := ht _ v hv
          exact ⟨d, by rw [← h9]; congr 1; congr 1; omega, h10⟩
        · exact h8 j v (by simpa using hv)
    · obtain ⟨c2, h9, h10⟩ := h.so.ok k' g' s' hg'
      exact ⟨c2, by rw [hold g' e]; exact h9, h10⟩
  have := h.step hk (fun b B hB cs hcs => (h.box b B hB cs hcs).keep hk rfl rfl (hne _ (by rw [(h.box b B hB cs hcs).1]; simp))) (fun id r hr => (h.row id r hr).keep hk rfl (fun _ hb => hb) (fun b hb => hne b (by rw [hb]; simp)) fun _ => rfl)
    (by simpa using h.lt) (h.kp.trans (p' := prot.p) ⟨rfl, rfl, rfl, by simp, fun b hb => hne b (by rcases h.pr b hb with ⟨e, _⟩ | ⟨e, _⟩ <;> (rw [e]; simp))⟩ fun _ hx => hx) h.pr hsa (v := undef) (t := .und) rfl none
  exact ⟨hk, this⟩
theorem Inv.sh_new (h : Inv w0 prot S G a w) {k : RK} (cur : Array Value) (hc : HCs G.F k 0 cur.toList) :
    ∃ G', Keeps w G S.rows S.boxes (w.alloc (.cells cur (hE k) (0, 0))) G' S.rows S.boxes ∧ Inv w0 prot S G' a (w.alloc (.cells cur (hE k) (0, 0))) ∧ G'.sh k w.heap.size cur.size := by
  obtain ⟨hk1, h1⟩ := h.alloc (.cells cur (hE k) (0, 0)) .sh
  let G1 := G.new w.heap.size .sh
  let G' : Gh := { G1 with sh := fun k' g s => G.sh k' g s ∨ (k' = k ∧ g = w.heap.size ∧ s = cur.size) }
  have hlt : ∀ k g s, G.sh k g s → g < w.heap.size := fun k g s hg => by
    obtain ⟨c, h2, _⟩ := h.so.ok k g s hg
    exact (Array.getElem?_eq_some_iff.1 h2).1
  have hk2 : Keeps (w.alloc (.cells cur (hE k) (0, 0))) G1 S.rows S.boxes (w.alloc (.cells cur (hE k) (0, 0))) G' S.rows S.boxes :=
    ⟨fun b hb => ⟨hb, rfl⟩, fun id r' hr => ⟨r', hr, RowK.refl r' rfl fun _ => rfl⟩, fun b B' hB => ⟨B', hB, Nat.le_refl _, fun _ h => ⟨h, rfl⟩⟩, fun _ _ _ h => .inl h⟩
  have hk3 : Keeps w G S.rows S.boxes (w.alloc (.cells cur (hE k) (0, 0))) G' S.rows S.boxes :=
    ⟨hk1.fz, fun id r' hr => by
      obtain ⟨r, e1, e2⟩ := hk1.row id r' hr
      exact ⟨r, e1, e2.le, e2.same, e2.hs⟩, hk1.box, fun _ _ _ h => .inl h⟩
  have hwho : ∀ k' g s, G'.sh k' g s → G'.who g = .sh := by
    rintro k' g s (hg | ⟨_, rfl, _⟩)
    · exact (Gh.new_other G _ (Nat.ne_of_lt (hlt k' g s hg))).trans (h.sw k' g s hg)
    · exact Gh.new_same _ _ _
  have hsa : ShA (w.alloc (.cells cur (hE k) (0, 0))) G' := by
    refine ⟨⟨?_, ?_, fun k' g s hg hb => ?_⟩, hwho⟩
    · rintro k' g s (hg | ⟨rfl, rfl, rfl⟩)
      · obtain ⟨c, h2, h3, h4⟩ := h1.so.ok k' g s hg
        exact ⟨c, h2, h3, fun j v hv => by
          obtain ⟨d, h5, h6⟩ := h4 j v hv
          exact ⟨d, h5, h6.mono fun _ _ _ h => .inl h⟩⟩
      · refine ⟨cur, heap_alloc_new w _, rfl, fun j v hv => ?_⟩
        obtain ⟨d, h5, h6⟩ := hc j v (by simpa using hv)
        exact ⟨d, by simpa using h5, h6.mono fun _ _ _ h => .inl h⟩
    · rintro k' g s k2 s2 (h2 | ⟨rfl, rfl, rfl⟩) (h3 | ⟨rfl, h3, rfl⟩)
      · exact h.so.fn _ _ _ _ _ h2 h3
      · have := hlt _ _ _ h2; omega
      · have := hlt _ _ _ h3; omega
      · exact ⟨rfl, rfl⟩
    · have e1 := hwho k' g s hg
      have e2 : G'.who g = .fz := hb
      rw [e1] at e2
      cases e2
  have := h.step hk3 (fun b B hB cs hcs => by
      have hb := h.box b B hB cs hcs
      have hl := h.lt (G.bk b) (by rw [hb.1]; simp)
      exact hb.keep hk3 rfl (Gh.new_other G _ (Nat.ne_of_lt hl)) (alloc_old w _ hl)) (fun id r hr => (h.row id r hr).keep hk3 rfl (fun b hb => by
      have hl := h.lt b (by rw [hb]; simp)
      exact (Gh.new_other G _ (Nat.ne_of_lt hl)).trans hb) (fun b hb => alloc_old w _ (h.lt b (by rw [hb]; simp))) fun _ => rfl) h1.lt h1.kp h1.pr ⟨hsa, fun k' g s hg => by
      rcases hg with hg | ⟨_, rfl, _⟩
      · exact .inl hg
      · exact .inr (Nat.le_refl _)⟩ (v := undef) (t := .und) rfl none
  exact ⟨G', hk3, this, .inr ⟨rfl, rfl, rfl⟩⟩
theorem Inv.sh_row (h : Inv w0 prot S G a w) {k : RK} (cur : Array Value) (hc : HCs G.F k 0 cur.toList) (n cap : Nat) (h1 : n ≤ cap) (h2 : cap * k.size ≤ cur.size) (h3 : cap ≤ maxLen) (d : Option Nat) :
    ∃ G', Inv w0 prot (S.app d (val (.v false [.d (.h k n)]))) G' (a.put d (.slice (some ⟨w.heap.size, 0, none⟩) n cap)) (w.alloc (.cells cur (hE k) (0, 0))) := by
  obtain ⟨G', _, h4, h5⟩ := h.sh_new cur hc
  exact ⟨G', h4.put (t := .v false [.d (.h k n)]) ⟨_, rfl, .h _ _ _ (.inr ⟨w.heap.size, 0, cap, cur.size, by rw [Nat.zero_mul], h5, h1, by rw [Nat.zero_add]; exact h2, h3⟩)⟩ d⟩
theorem run_append_room_off {P : Program} (w : World) (t ty e : TypeId) (i : TypeInfo) (ht : P.underlying t = some (.slice e)) (hi : P.info? e = some i)
    (g o sLen sCap : Nat) (cur : Array Value) (hg : w.heap[g]? = some (.cells cur e (0, 0)))
    (a : Addr) (m c : Nat) (news : List Value) (hl : news.length = m * i.size) (hnews : ∀ j u, news[j]? = some u → w.cell? (a.add j) = some u) (h1 : ∀ u ∈ news, u.oneCell' = true)
    (hroom : sLen + m ≤ sCap) (hfit : o + sLen * i.size + news.length ≤ cur.size) :
    (Builtin.append_ #[t, t] ty #[.slice (some ⟨g, o, none⟩) sLen sCap, .slice (some a) m c]).run P w =
      .ok (.slice (some ⟨g, o, none⟩) (sLen + m) sCap) (w.setRow g (putC cur.toList (o + sLen * i.size) news).toArray) := by
  have hf := run_firstCells_some (P := P) w i.size m a m c news hl hnews
  have hst := run_storeCells_at P g (o + sLen * i.size) e news 0 cur w hg (by simpa using hfit) h1
  simp only [Nat.add_zero] at hst
  unfold putC
  simp [Builtin.append_, run_underlying ht, sizeOf, typeInfo, hi, Builtin.lenOf, hroom, hf, add_lit, hst]
theorem HC.one {F : HF → Prop} {v : Value} {d : D} (h : HC F v d) : v.oneCell' = true := by
  cases d with
  | i k n => obtain ⟨x, rfl, _⟩ := HC.i h; rfl
  | b x => obtain ⟨x, rfl⟩ := h; rfl
  | r k l => exact h.elim
  | h k n => obtain ⟨n, _, h⟩ := h; exact h.one.1
theorem HCs.one {F : HF → Prop} {k : RK} {o : Nat} {vs : List Value} (h : HCs F k o vs) : ∀ u ∈ vs, u.oneCell' = true := fun u hu => by
  obtain ⟨j, hj⟩ := List.mem_iff_getElem?.1 hu
  obtain ⟨d, _, h2⟩ := h j u hj
  exact h2.one
theorem made_hcs {k : RK} {arr : List Value} {zc : List D} (F : HF → Prop) (hz : zc = hsh k) (hk : hk k = true) (h : F2 ZR arr zc) (n : Nat) : HCs F k 0 (madeCells arr.toArray n).toList := fun j v hv => by
  subst hz
  have hlen := h.len
  rw [hsh_len hk] at hlen
  simp only [madeCells, Array.toList_map, Array.toList_range, List.getElem?_map, Option.map_eq_some_iff] at hv
  obtain ⟨i, hi, hv⟩ := hv
  obtain ⟨hjn, he⟩ := List.getElem?_eq_some_iff.1 hi
  simp only [List.getElem_range] at he
  subst he
  have hpos := size_pos k
  have hlt : j % k.size < arr.length := by rw [hlen]; exact Nat.mod_lt _ hpos
  have hd : (hsh k)[j % k.size]? = some ((hsh k)[j % k.size]'(by rw [hsh_len hk]; exact Nat.mod_lt _ hpos)) := List.getElem?_eq_getElem _
  obtain ⟨u, hu, hr⟩ := h.get _ _ hd
  refine ⟨_, by rw [Nat.zero_add]; exact hd, zr_hc (List.getElem_mem _) ?_⟩
  have : v = u := by
    rw [← hv]
    simp only [List.size_toArray, hlen]
    rw [List.getElem!_toArray, List.getElem!_eq_getElem?_getD, hu]
    rfl
  rw [this]
  exact hr
section
variable (hV : TysOk P V)
include hV
theorem append_h (h : Inv w0 prot S G a w) {t : Nat} {I : TyI} {k : RK} {z : Nat} (hI : look t V.tys = some I) (hz : I.zc = [.h k z]) {v u : Value} {n m : Nat} (hv : RdH G.F v k n) (hu : RdH G.F u k m) (hlim : n + m ≤ LIM) (ty : TypeId) (d : Option Nat) :
    ∃ v' w' G', (Builtin.append_ #[t, t] ty #[v, u]).run P w = .ok v' w' ∧ Inv w0 prot (S.app d (val (.v false [.d (.h k (n + m))]))) G' (a.put d v') w' := by
  obtain ⟨_, hk, hun, J, hJ, hzz⟩ := (hV t I hI).hs k z hz
  obtain ⟨i, zv, i1, i2, i3, i4, arr, i5, i6, _⟩ := (hV _ J hJ).info
  have hsz : i.size = k.size := by rw [i2, hzz, hsh_len hk]
  have hL : n + m ≤ 137438953472 := hlim
  have hbytes : (n + m) * i.bytes ≤ 140737488355328 := by
    calc (n + m) * i.bytes ≤ 137438953472 * 1024 := Nat.mul_le_mul hL i3
      _ ≤ 140737488355328 := by decide
  have hshape : ∀ {v : Value} {n : Nat}, RdH G.F v k n → ∃ A cap, v = .slice A n cap ∧ n ≤ cap := fun {v n} hv => by
    rcases hv with ⟨⟨x, rfl⟩, rfl⟩ | ⟨g, i, cap, s, rfl, _, h1, _⟩
    · exact ⟨_, _, rfl, Nat.le_refl _⟩
    · exact ⟨_, _, rfl, h1⟩
  rcases sh_read h.shs hu with ⟨⟨x, rfl⟩, rfl⟩ | ⟨gu, iu, cu, su, curu, news, rfl, _, _, _, _, _, _, hnl, hnc, hnh⟩
  · obtain ⟨A, cap, rfl, hnc⟩ := hshape hv
    exact ⟨_, w, G, run_append_nothing w t ty (hE k) i hun i1 A x n cap 0 hnc, h.put (t := .v false [.d (.h k (n + 0))]) ⟨_, rfl, .h _ _ _ hv⟩ d⟩
  · by_cases hm : m = 0
    · subst hm
      obtain ⟨A, cap, rfl, hnc⟩ := hshape hv
      exact ⟨_, w, G, run_append_nothing w t ty (hE k) i hun i1 A _ n cap cu hnc, h.put (t := .v false [.d (.h k (n + 0))]) ⟨_, rfl, .h _ _ _ hv⟩ d⟩
    have hnews : ∀ j y, news[j]? = some y → w.cell? ((⟨gu, iu * k.size, none⟩ : Addr).add j) = some y := fun j y hy => by rw [add_lit]; exact hnc j y hy
    -- the new block
    have made : ∀ (olds : List Value) (cap : Nat), olds.length = n * k.size → HCs G.F k 0 olds → ∃ G', Inv w0 prot (S.app d (val (.v false [.d (.h k (n + m))]))) G' (a.put d (.slice (some ⟨w.heap.size, 0, none⟩) (n + m) (grownCap w (n + m) cap (hE k))))
        (w.drew.alloc (.cells (olds.toArray ++ news.toArray ++ Builtin.zeroCells zv.cells (grownCap w (n + m) cap (hE k) - (n + m))) (hE k) (0, 0))) := fun olds cap ho1 ho2 => by
      have hge := grownCap_ge w (n + m) cap (hE k)
      have hle := grownCap_le_maxLen w (n + m) cap (hE k) (by simp only [maxLen]; omega)
      generalize grownCap w (n + m) cap (hE k) = gc at hge hle
      have hzl : arr.length = k.size := by rw [i6.len, hzz, hsh_len hk]
      have hzc : Builtin.zeroCells zv.cells (gc - (n + m)) = madeCells arr.toArray ((gc - (n + m)) * k.size) := by
        rw [i5]
        unfold Builtin.zeroCells madeCells
        rw [List.size_toArray, hzl]
      rw [hzc]
      refine h.drew.sh_row _ ?_ (n + m) gc hge ?_ hle d
      · rw [Array.toList_append, Array.toList_append]
        exact HCs.app (n := n + m) (HCs.app (n := n) ho2 ho1 hnh) (by rw [List.length_append, ho1, hnl, Nat.add_mul]) (made_hcs G.F hzz hk i6 _)
      · simp only [Array.size_append, List.size_toArray, size_madeCells, ho1, hnl]
        rw [← Nat.add_mul, ← Nat.add_mul]
        exact Nat.mul_le_mul_right _ (by omega)
    rcases sh_read h.shs hv with ⟨⟨x, rfl⟩, rfl⟩ | ⟨g, iv, cap, s, cur, olds, rfl, hg, hnc2, hb2, hm2, hcur, hcs, hol, hoc, hoh⟩
    · obtain ⟨G', h4⟩ := made [] 0 (by simp) HCs.nil
      cases x with
      | none =>
        have hr := run_append_nil (P := P) w t ty (hE k) i zv hun i1 i4 _ m cu news (by rw [hsz]; exact hnl) hnews (by omega) (by omega) (by simp only [Nat.zero_add] at hbytes; omega)
        simp only [Nat.zero_add] at h4 ⊢
        refine ⟨_, _, G', hr, ?_⟩
        simpa using h4
      | some ad =>
        have hr := run_append_grow (P := P) w t ty (hE k) i zv hun i1 i4 ad 0 0 [] (by simp) (fun j v hv => by simp at hv) _ m cu news (by rw [hsz]; exact hnl) hnews (by omega) (by omega) (growslice_fits (by omega) hbytes)
        exact ⟨_, _, G', hr, h4⟩
    · by_cases hroom : n + m ≤ cap
      · have hfit : iv * k.size + n * k.size + news.length ≤ cur.size := by
          rw [hnl, hcs, ← Nat.add_mul, ← Nat.add_mul]
          exact Nat.le_trans (Nat.mul_le_mul_right _ (by omega)) hb2
        have hr := run_append_room_off (P := P) w t ty (hE k) i hun i1 g (iv * k.size) n cap cur hcur _ m cu news (by rw [hsz]; exact hnl) hnews hnh.one hroom (by rw [hsz]; exact hfit)
        rw [hsz] at hr
        obtain ⟨hk2, h4⟩ := h.sh_write hg hcur (iv * k.size + n * k.size) news hfit fun j y hy => by
          obtain ⟨dd, h5, h6⟩ := hnh j y hy
          refine ⟨dd, ?_, h6⟩
          rw [← h5, ← Nat.add_mul, Nat.zero_add, Nat.mul_comm, Nat.mul_add_mod]
        exact ⟨_, _, G, hr, h4.put (t := .v false [.d (.h k (n + m))]) ⟨_, rfl, .h _ _ _ (.inr ⟨g, iv, cap, s, rfl, hg, hroom, hb2, hm2⟩)⟩ d⟩
      · obtain ⟨G', h4⟩ := made olds cap hol hoh
        have hr := run_append_grow (P := P) w t ty (hE k) i zv hun i1 i4 _ n cap olds (by rw [hsz]; exact hol) (fun j y hy => by rw [add_lit]; exact hoc j y hy) _ m cu news (by rw [hsz]; exact hnl) hnews (by omega) (by omega) (growslice_fits (by omega) hbytes)
        exact ⟨_, _, G', hr, h4⟩
theorem load_h (h : Inv w0 prot S G a w) {t : Nat} {I : TyI} (hI : look t V.tys = some I) {k : RK} {off : Nat} {v : Value} (hv : TR w G S.rows S.boxes v (.hp k off)) (hz : (I.agg = false → I.zc.length = 1) ∧ off + I.zc.length ≤ k.size) {K : List D → Prop} (hk : hany (cutC (hsh k) off I.zc.length) K) :
    ∃ ds u, K ds ∧ (Instr.loadAt t v).run P w = .ok u w ∧ TR w G S.rows S.boxes u (dat I.agg ds) := by
  obtain ⟨g, i, s, h1, h2, rfl⟩ := hv
  obtain ⟨cur, h3, h4, h5⟩ := h.so.ok k g s h1
  have hlen : (hsh k).length = k.size := by
    have hpos := size_pos k
    have hlt : i * k.size < cur.size := by rw [h4]; rw [Nat.add_mul] at h2; omega
    obtain ⟨d, h6, _⟩ := h5 (i * k.size) _ (Array.getElem?_eq_getElem hlt)
    cases hkk : Go.Proofs.YtjjcjpmfkbfdfaaE.hk k with
    | true => exact hsh_len hkk
    | false => cases k <;> first | (simp [hsh] at h6; done) | (cases hkk; done)
  have h2' : i * k.size + k.size ≤ cur.size := by rw [h4]; rw [Nat.add_mul, Nat.one_mul] at h2; exact h2
  let xs := (cur.toList.drop (i * k.size + off)).take I.zc.length
  have hget : ∀ j u, xs[j]? = some u → cur[i * k.size + off + j]? = some u ∧ j < I.zc.length := fun j u hu => by
    rw [List.getElem?_take] at hu
    split at hu
    · rw [List.getElem?_drop, Array.getElem?_toList] at hu
      exact ⟨hu, by assumption⟩
    · simp at hu
  have hxl : xs.length = I.zc.length := by simp [xs]; omega
  obtain ⟨ds, h6, h7⟩ := hany_ok (w := w) (F := G.F) _ xs K hk (by rw [hxl, cutC_len _ _ _ (by omega)]) fun j u hu => by
    obtain ⟨e1, e2⟩ := hget j u hu
    obtain ⟨d, e3, e4⟩ := h5 _ u e1
    refine ⟨d, ?_, e4⟩
    have e5 : (i * k.size + off + j) % k.size = off + j := by
      rw [Nat.add_assoc, Nat.mul_comm, Nat.mul_add_mod]
      exact Nat.mod_eq_of_lt (by omega)
    rw [e5] at e3
    simp only [cutC, List.getElem?_take, List.getElem?_drop]
    rw [if_pos e2]
    exact e3
  refine ⟨ds, _, h6, run_loadAt hV hI g (i * k.size + off) xs hxl (fun j u hu => by rw [cell_of_row _ _ _ _ _ _ h3]; exact (hget j u hu).1), ?_⟩
  exact VR.mk (F2.map (h7.mono fun _ _ hh => hh)) fun hg => by rw [hxl]; exact hz.1 hg
theorem store_h (h : Inv w0 prot S G a w) {t : Nat} {I : TyI} (hI : look t V.tys = some I) {k : RK} {off : Nat} {p v : Value} (hp : TR w G S.rows S.boxes p (.hp k off)) {g : Bool} {xs : List Cm} {ds : List D} (hv : VR w G S.rows v g xs) (hd : datas xs = some ds)
    (h1 : ds.length = I.zc.length) (h2 : off + ds.length ≤ (hsh k).length) (hf : hfit ((hsh k).drop off) ds) (d : Option Nat) :
    ∃ w' G', (Instr.storeAt t p v).run P w = .ok () w' ∧ Inv w0 prot (S.app d ⟨.und, [], []⟩) G' (a.put d undef) w' := by
  obtain ⟨gb, i, s, e1, e2, rfl⟩ := hp
  obtain ⟨cur, e3, e4, e5⟩ := h.so.ok k gb s e1
  obtain ⟨ys, rfl, hys, hcl, _⟩ := VR.open hv
  have hyd := datas_crs hys hd
  have hyl := hyd.len
  have hle : (hsh k).length ≤ k.size := by cases k <;> decide
  have e2' : i * k.size + k.size ≤ cur.size := by rw [e4]; rw [Nat.add_mul, Nat.one_mul] at e2; exact e2
  have hr := run_storeAt hV hI gb (i * k.size + off) _ ys hcl (by omega) cur (hE k) e3 (by omega) (slice_all_one hyd)
  obtain ⟨_, h3⟩ := h.sh_write e1 e3 (i * k.size + off) ys (by omega) fun j u hu => by
    obtain ⟨dd, h4, h5⟩ := hfit_ok ds _ ys hf hyd j u hu
    have hj : j < ys.length := (List.getElem?_eq_some_iff.1 hu).1
    refine ⟨dd, ?_, h5⟩
    have e6 : (i * k.size + off + j) % k.size = off + j := by
      rw [Nat.add_assoc, Nat.mul_comm, Nat.mul_add_mod]
      exact Nat.mod_eq_of_lt (by omega)
    rw [e6, ← h4, List.getElem?_drop]
  exact ⟨_, G, hr, h3.put (t := .und) rfl d⟩
theorem elems_fillH (h : Inv w0 prot S G a w) {k : RK} (hk : hk k = true) : ∀ (ps : List (Nat × Operand)) (j : Nat) (arr : List Value) (p : Prop), elemsH V S k j ps = some p → p → HCs G.F k 0 (arr.take (j * k.size)) → arr.length = (j + ps.length) * k.size →
    ∃ arr', Instr.fill (fun i => some (i * k.size, k.size)) arr.toArray (ps.map fun p => (p.1, a.eval p.2)) = some (List.toArray arr') ∧ HCs G.F k 0 arr' ∧ arr'.length = arr.length
  | [], j, arr, p, he, hp, hf, hl => by
    simp only [List.length_nil, Nat.add_zero] at hl
    rw [List.take_of_length_le (Nat.le_of_eq hl)] at hf
    exact ⟨arr, by simp [Instr.fill.eq_1], hf, rfl⟩
  | (i, x) :: ps, j, arr, p, he, hp, hf, hl => by
    simp only [elemsH] at he
    split at he
    · rename_i hij
      subst hij
      split at he
      · rename_i g cs hx
        split at he
        · rename_i ds hds
          split at he
          · rename_i hdl
            split at he
            · rename_i q hq
              cases he
              obtain ⟨hfit', hq'⟩ := hp
              obtain ⟨ys, hv, hys, hcl, _⟩ := VR.open (opnd_vr hV h hx)
              have hyd := datas_crs hys hds
              have hyl := hyd.len
              rw [hdl, hsh_len hk] at hyl
              simp only [List.length_cons] at hl
              have hl2 : arr.length = i * k.size + k.size + ps.length * k.size := by rw [hl, Nat.add_mul, Nat.add_mul]; omega
              have hpl : (putC arr (i * k.size) ys).length = arr.length := putC_len _ _ _ (by omega)
              have hyh : HCs G.F k 0 ys := fun j u hu => by
                obtain ⟨dd, h4, h5⟩ := hfit_ok ds _ ys hfit' hyd j u hu
                have hj : j < ys.length := (List.getElem?_eq_some_iff.1 hu).1
                exact ⟨dd, by rw [Nat.zero_add, Nat.mod_eq_of_lt (by omega)]; exact h4, h5⟩
              obtain ⟨arr', h1, h2, h3⟩ := elems_fillH h hk ps (i + 1) (putC arr (i * k.size) ys) q hq hq' (by
                have e1 : (putC arr (i * k.size) ys).take ((i + 1) * k.size) = arr.take (i * k.size) ++ ys := by
                  have hlen : (arr.take (i * k.size) ++ ys).length = (i + 1) * k.size := by simp [hyl, Nat.add_mul]; omega
                  rw [putC, ← hlen, List.take_left]
                rw [e1]
                exact HCs.app (n := i) hf (by simp; omega) hyh) (by rw [hpl, hl2, Nat.add_mul, Nat.add_mul]; omega)
              refine ⟨arr', ?_, h2, by rw [h3, hpl]⟩
              rw [List.map_cons, fill_step _ arr.toArray i (i * k.size) k.size (a.eval x) _ rfl (by rw [hcl]; simp [hyl]) (by simp; omega), hcl]
              exact h1
            · simp at he
          · simp at he
        · simp at he
      · simp at he
    · simp at he
theorem buildSlice_h (h : Inv w0 prot S G a w) {t : Nat} {I : TyI} {k : RK} {z : Nat} (hI : look t V.tys = some I) (hz : I.zc = [.h k z]) (n : Nat) (ps : Array (Nat × Operand)) {p : Prop} (hb : elemsH V S k 0 ps.toList = some p) (hp : p) (hl : ps.toList.length = n) (hn : n ≤ 1024) (d : Option Nat) :
    ∃ v w' G', (Instr.buildSlice t n (ps.map fun p => (p.1, a.eval p.2))).run P w = .ok v w' ∧ Inv w0 prot (S.app d (val (.v false [.d (.h k n)]))) G' (a.put d v) w' := by
  obtain ⟨_, hk, hu, J, hJ, hzz⟩ := (hV t I hI).hs k z hz
  have hsz : J.zc.length = k.size := by rw [hzz, hsh_len hk]
  obtain ⟨i, zv, h1, h2, h3, h4, zr, h5, h6, _⟩ := (hV _ J hJ).info
  have hk28 : k.size ≤ 28 := by cases k <;> decide
  have hns : n * k.size ≤ 1024 * 28 := Nat.mul_le_mul hn hk28
  have key : ∀ zc : Array Value, zc.size = n * k.size → ∃ arr' : List Value, Instr.fill (fun i => some (i * k.size, k.size)) zc (ps.toList.map fun p => (p.1, a.eval p.2)) = some arr'.toArray ∧ HCs G.F k 0 arr' ∧ arr'.length = n * k.size := by
    intro zc hzc
    obtain ⟨arr', h8, h9, h10⟩ := elems_fillH hV h hk ps.toList 0 zc.toList p hb hp (by rw [Nat.zero_mul, List.take_zero]; exact HCs.nil) (by simp only [Array.length_toList, hzc, Nat.zero_add, hl])
    exact ⟨arr', by simpa using h8, h9, by rw [h10, Array.length_toList, hzc]⟩
  have fin : ∀ arr' : List Value, HCs G.F k 0 arr' → arr'.length = n * k.size → ∃ G', Inv w0 prot (S.app d (val (.v false [.d (.h k n)]))) G' (a.put d (.slice (some ⟨w.heap.size, 0, none⟩) n n)) (w.alloc (.cells arr'.toArray (hE k) (0, 0))) := fun arr' h9 h10 =>
    h.sh_row arr'.toArray (by simpa using h9) n n (Nat.le_refl _) (by simp [h10]) (by simp only [maxLen]; omega) d
  by_cases h0 : n * k.size = 0
  · obtain ⟨arr', h8, h9, h10⟩ := key #[] (by simp [h0])
    obtain ⟨G', h11⟩ := fin arr' h9 h10
    refine ⟨_, _, G', ?_, h11⟩
    have hz0 : ∀ f : Nat → Value, Array.map f (Array.range 0) = #[] := fun f => by apply Array.ext' ; simp
    simp only [Instr.buildSlice, Sem.run_bind, run_underlying hu, Result.andThen_ok, run_size hV hJ, hsz, h0]
    simp [hz0, h8, run_newRow']
  · obtain ⟨arr', h8, h9, h10⟩ := key (Array.map (fun x => zv.cells[x % zv.cells.size]!) (Array.range (n * k.size))) (by simp)
    obtain ⟨G', h11⟩ := fin arr' h9 h10
    refine ⟨_, _, G', ?_, h11⟩
    simp only [Instr.buildSlice, Sem.run_bind, run_underlying hu, Result.andThen_ok, run_size hV hJ, hsz]
    simp only [h0, show ¬ n * k.size > 2 ^ 24 by omega, if_false, zeroValue, typeInfo]
    simp [h1, h4, h8, run_newRow']
theorem make_h (h : Inv w0 prot S G a w) {t : Nat} {I : TyI} {k : RK} {z : Nat} (hI : look t V.tys = some I) (hz : I.zc = [.h k z]) {x : Int} (q1 : 0 ≤ x) (q3 : x.toNat ≤ LIM) (d : Option Nat) :
    ∃ v w' G', (Instr.makeSlice t (.int .i64 x) (.int .i64 x)).run P w = .ok v w' ∧ Inv w0 prot (S.app d (val (.v false [.d (.h k x.toNat)]))) G' (a.put d v) w' := by
  obtain ⟨_, hk, hu, J, hJ, hzz⟩ := (hV t I hI).hs k z hz
  obtain ⟨i, zv, i1, i2, i3, i4, arr, i5, i6, _⟩ := (hV _ J hJ).info
  have hsz : i.size = k.size := by rw [i2, hzz, hsh_len hk]
  have hL : x.toNat ≤ 137438953472 := q3
  have hbm : (i.bytes : Int) * x ≤ 281474976710656 := by
    have h1024 : (i.bytes : Int) ≤ 1024 := by omega
    calc (i.bytes : Int) * x ≤ 1024 * x := Int.mul_le_mul_of_nonneg_right h1024 q1
      _ ≤ 281474976710656 := by omega
  have hr := run_make (P := P) w t (hE k) i zv hu i1 i4 .i64 .i64 x x q1 (Int.le_refl _) hbm (by omega)
  rw [hsz] at hr
  obtain ⟨G', h4⟩ := h.sh_row (k := k) (madeCells zv.cells (x.toNat * k.size)) (by rw [i5]; exact made_hcs G.F hzz hk i6 _) x.toNat x.toNat (Nat.le_refl _) (by rw [size_madeCells]; exact Nat.le_refl _) (by simp only [maxLen]; omega) d
  exact ⟨_, _, G', hr, h4⟩
end
end
end Go.Proofs.YtjjcjpmfkbfdfaaE
