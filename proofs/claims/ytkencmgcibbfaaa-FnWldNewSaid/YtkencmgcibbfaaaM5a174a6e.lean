/- A part of the proof of laws of the program: what calls of the program answer. Conditions: none. -/
import Derived.Test.YtkencmgcibbfaaaM3093af13
import Derived.Maps.AppendAt
set_option linter.unusedVariables false
set_option linter.unusedSimpArgs false
set_option linter.unusedSectionVars false
/- What a row of one's own grows by. Conditions: none. -/
set_option linter.unusedVariables false
namespace Go.Proofs.YtkencmgcibbfaaaE
open Go Go.RowKit
section
variable {w : World} {base : Nat} {e : TypeId} {size : Nat} {v : Value} {n : Nat} {xs : List Value}
theorem setD_setD {α : Type} (d : Option Nat) (x y : α) (l : List α) : setD d x (setD d y l) = setD d x l := by cases d <;> simp [setD]
theorem put_put (a : Act) (d : Option Nat) (v : Value) : (a.put d v).put d v = a.put d v := by cases d <;> simp [Act.put]
theorem OwnsC.of (h : w.ownsRow base e size v n xs) : OwnsC w base e size v n xs := by
  refine ⟨h.1, ?_⟩
  rcases h.2 with h2 | ⟨g, cap, cur, h1, h2, h3, h4, h5, h6, h7⟩
  · exact .inl ⟨⟨_, h2.1⟩, h2.2⟩
  · rcases Nat.eq_zero_or_pos cap with h0 | hpos
    · have hn : n = 0 := by omega
      exact .inl ⟨⟨_, by rw [h1, h0, hn]⟩, hn⟩
    · exact .inr ⟨g, cap, cur, h1, h2, h3, h4, h5, Nat.le_of_eq h6.symm, h7, hpos⟩
theorem OwnsC.cells (h : OwnsC w base e size v n xs) {g : Nat} (hg : (ownB v) = some g) : ∀ j u, xs[j]? = some u → w.cell? ((⟨g, 0, none⟩ : Addr).add j) = some u := by
  intro j u hu
  rcases h.2 with ⟨⟨x, rfl⟩, _⟩ | ⟨g', cap, cur, rfl, _, hgg, _, _, _, htake, hpos⟩
  · simp [ownB_zero] at hg
  · rw [ownB_pos hpos] at hg
    cases hg
    have hadd : (⟨g', 0, none⟩ : Addr).add j = ⟨g', j, none⟩ := by unfold Addr.add; split <;> simp_all
    rw [hadd, cell_of_row w g' j cur e (0, 0) hgg]
    rw [← htake, List.getElem?_take] at hu
    split at hu
    · simpa using hu
    · cases hu
/-- The slice's capacity cut down to its length. -/
theorem OwnsC.clip {A : Option Addr} {c : Nat} (h : OwnsC w base e size (.slice A n c) n xs) : OwnsC w base e size (.slice A n n) n xs := by
  refine ⟨h.1, ?_⟩
  rcases Nat.eq_zero_or_pos n with h0 | hpos
  · exact .inl ⟨⟨A, by rw [h0]⟩, h0⟩
  · rcases h.2 with ⟨hv, hn⟩ | ⟨g, cap, cur, hv, hb, hg, hnc, hcm, hcs, ht, _⟩
    · omega
    · injection hv with h1 h2 h3
      subst h1; subst h3
      exact .inr ⟨g, n, cur, rfl, hb, hg, Nat.le_refl _, Nat.le_trans hnc hcm, Nat.le_trans (Nat.mul_le_mul_right _ hnc) hcs, ht, hpos⟩
end
section
variable {P : Program} (w : World)
theorem run_append_ownC_at (base : Nat) (t ty e : TypeId) (i : TypeInfo) (z : Value) (size bytes : Nat) (ht : P.underlying t = some (.slice e)) (hi : P.info? e = some i) (hz : i.zero = some z)
    (hsize : i.size = size) (hby : i.bytes = bytes) (hzs : z.cells.size = size) (hsz : 0 < size)
    (v : Value) (n : Nat) (xs : List Value) (hown : OwnsC w base e size v n xs)
    (a : Addr) (m c : Nat) (news : List Value) (hl : news.length = m * size) (hnews : ∀ j u, news[j]? = some u → w.cell? (a.add j) = some u) (h1 : ∀ u ∈ news, u.oneCell' = true)
    (hm : 0 < m) (h63 : n + m ≤ maxLen) (hbytes : (n + m) * bytes ≤ 140737488355328) (hbase : base ≤ w.heap.size) :
    ∃ v' w', (Builtin.append_ #[t, t] ty #[v, .slice (some a) m c]).run P w = .ok v' w' ∧ OwnsC w' base e size v' (n + m) (xs ++ news) ∧ w.grownBy w' (ownB v) ∧
      ((ownB v') = (ownB v) ∨ (ownB v') = some w.heap.size) := by
  have fresh : ∀ (ad : Addr) (cap : Nat), v = .slice (some ad) n cap → cap < n + m → (∀ j u, xs[j]? = some u → w.cell? (ad.add j) = some u) → ∃ v' w', (Builtin.append_ #[t, t] ty #[v, .slice (some a) m c]).run P w = .ok v' w' ∧ OwnsC w' base e size v' (n + m) (xs ++ news) ∧ w.grownBy w' (ownB v) ∧
      ((ownB v') = (ownB v) ∨ (ownB v') = some w.heap.size) := by
    rintro ad cap rfl hlt holds
    obtain ⟨v', w', hr, ho, hgr⟩ := run_append_arg_grows (P := P) (w := w) t ty e i z size bytes ht hi hz hsize hby hzs hsz ad n cap xs hown.1 holds a m c news hl hnews (by omega) h63 hbytes
    have ho' := OwnsC.of ho
    refine ⟨v', w', hr, ⟨ho'.1, ?_⟩, ⟨hgr.os, hgr.tape, hgr.output, hgr.size, fun k hk _ => hgr.block k hk (by simp)⟩, Or.inr ?_⟩
    · rcases ho'.2 with h2 | ⟨g2, cap2, cur2, q1, q2, q3⟩
      · exact .inl h2
      · exact .inr ⟨g2, cap2, cur2, q1, Nat.le_trans hbase q2, q3⟩
    · subst hsize
      have hr2 := run_append_grow (P := P) w t ty e i z ht hi hz ad n cap xs hown.1 holds a m c news hl hnews (by omega) (by simp only [maxLen] at h63; omega) (growslice_fits (by omega) (by rw [hby]; exact hbytes))
      rw [hr] at hr2
      injection hr2 with e1 e2
      rcases ho'.2 with h2 | ⟨g2, cap2, cur2, q1, q2, q3, _, _, _, _, hpos⟩
      · omega
      · rw [e1] at q1
        injection q1 with q1 _ q4
        rw [e1, q4]
        exact ownB_pos hpos
  rcases hown.2 with ⟨⟨x, rfl⟩, rfl⟩ | ⟨g, cap, cur, rfl, hbg, hg, hnc, hcm, hcs, htake, hpos⟩
  · cases x with
    | none =>
      obtain ⟨v', w', hr, ho, hgr, _, hloc⟩ := run_append_own_at (P := P) w base t ty e i z size bytes ht hi hz hsize hby hzs hsz (.slice none 0 0) 0 xs ⟨hown.1, .inl ⟨rfl, rfl⟩⟩ a m c news hl hnews h1 h63 hbytes hbase
      have ho' := OwnsC.of ho
      refine ⟨v', w', hr, ho', hgr, ?_⟩
      rcases ho'.2 with ⟨_, h0⟩ | ⟨g2, cap2, cur2, q1, _, _, _, _, _, _, hpos⟩
      · omega
      · rcases hloc with h2 | h2
        · rw [q1] at h2; simp [Value.ownBlock] at h2
        · rw [q1] at h2 ⊢
          rw [ownB_pos hpos]
          exact .inr h2
    | some ad =>
      refine fresh ad 0 rfl (by omega) fun j u hu => ?_
      have : xs = [] := List.length_eq_zero_iff.1 (by rw [hown.1]; omega)
      rw [this] at hu; simp at hu
  · have hlen : (xs ++ news).length = (n + m) * size := by rw [List.length_append, hown.1, hl, Nat.add_mul]
    by_cases hroom : n + m ≤ cap
    · have hfit : n * size + news.length ≤ cur.size := by
        rw [hl, ← Nat.add_mul]
        exact Nat.le_trans (Nat.mul_le_mul_right _ hroom) hcs
      subst hsize
      have hr := run_append_room (P := P) w t ty e i ht hi g n cap cur hg a m c news hl hnews h1 hroom hfit
      refine ⟨_, _, hr, ⟨hlen, .inr ⟨g, cap, _, rfl, hbg, setRow_heap w g cur _ e _ hg, hroom, hcm, ?_, ?_, hpos⟩⟩, ⟨rfl, rfl, rfl, by simp, fun k _ hk => setRow_other w g k _ (fun he => hk (by rw [he, ownB_pos hpos]))⟩, Or.inl (by rw [ownB_pos hpos, ownB_pos hpos])⟩
      · simp only [List.size_toArray, List.length_append, List.length_take, List.length_drop, Array.length_toList]
        omega
      · rw [htake, ← hlen]
        exact List.take_left
    · exact fresh ⟨g, 0, none⟩ cap rfl (by omega) (hown.cells (g := g) (ownB_pos hpos))
end
theorem run_append_nothing {P : Program} (w : World) (t ty e : TypeId) (i : TypeInfo) (ht : P.underlying t = some (.slice e)) (hi : P.info? e = some i) (A B : Option Addr) (n cap cb : Nat) (hn : n ≤ cap) :
    (Builtin.append_ #[t, t] ty #[.slice A n cap, .slice B 0 cb]).run P w = .ok (.slice A n cap) w := by
  have h0 : ∀ ad : Addr, (loadCells ad 0).run P w = .ok #[] w := fun ad => run_loadCells_list (P := P) w ad [] (fun j v h => by simp at h)
  cases A <;> cases B <;> simp [Builtin.append_, run_underlying ht, sizeOf, typeInfo, hi, Builtin.lenOf, Builtin.firstCells, hn, storeCells.eq_1, h0]
section
variable {P : Program} {V : Env} (hV : TysOk P V) {w0 : World} {prot : Pro} {S : St} {G : Gh} {a : Act} {w : World}
include hV
theorem append_core (h : Inv w0 prot S G a w) {t : Nat} {I : TyI} {k : RK} {e : Nat} (hI : look t V.tys = some I) (hel : I.el = some (k, e)) {id ep : Nat} {r : Row} {c : RC} (hr : S.rows[id]? = some r) (hep : ep = r.ep) (hrc : r.c = some c) (hce : c.e = e) (hck : c.k = k) (hcp : c.m.p = false)
    {v u : Value} (hvh : v = G.hd id) {zs ys : List Value} {Bi T : List Nat} (hown : OwnsC w 0 c.e c.k.size v c.l.length zs) (hdc : DCs w G.F c.dn zs (flat c.k c.l) Bi) (hBn : ((ownB v).toList ++ Bi).Nodup) (hBt : ∀ b ∈ (ownB v).toList ++ Bi, G.who b = .rw id) (hTn : T.Nodup) (hTt : ∀ b ∈ T, G.who b = .rw id) (hBT : ∀ b ∈ (ownB v).toList ++ Bi, b ∉ T)
    {l' : List c.k.El} (hcells : ((∃ x, u = .slice x 0 0) ∧ l' = []) ∨ ∃ ad cap, u = .slice (some ad) l'.length cap ∧ ∀ j y, ys[j]? = some y → w.cell? (ad.add j) = some y) (hyl : ys.length = l'.length * c.k.size) (hy1 : ∀ y ∈ ys, y.oneCell' = true)
    (m' : RM) (hm : m'.h = false ∧ m'.p = false) (hD : DCs w G.F (RC.dn ⟨c.e, c.k, c.l ++ l', m'⟩) (zs ++ ys) (flat c.k (c.l ++ l')) (Bi ++ T)) (hlim : c.l.length + l'.length ≤ LIM) (ty : TypeId) (d : Option Nat) :
    ∃ v' w' G', (Builtin.append_ #[t, t] ty #[v, u]).run P w = .ok v' w' ∧
      Inv w0 prot (S.app d ⟨.v false [.ref id (ep + 1)], [(id, ⟨ep + 1, some ⟨c.e, c.k, c.l ++ l', m'⟩⟩)], []⟩) G' (a.put d v') w' ∧ G'.hd id = v' := by
  obtain ⟨hun, J, hJ, hz⟩ := (hV t I hI).sl k e hel
  obtain ⟨i, z, i1, i2, i3, i4, arr, i5, i6, _⟩ := (hV e J hJ).info
  have hsz : i.size = k.size := by rw [i2, hz, cells_len]
  have hzs : z.cells.size = k.size := by rw [i5, List.size_toArray, i6.len, hz, cells_len]
  have hid : id < S.rows.length := (List.getElem?_eq_some_iff.1 hr).1
  subst hck
  subst hce
  have hL : c.l.length + l'.length ≤ 137438953472 := hlim
  have hob : ∀ v', obB ⟨c.e, c.k, c.l ++ l', m'⟩ v' = (ownB v').toList := fun v' => by unfold obB; dsimp only; rw [hm.2]
  have hzl := hown.1
  by_cases hl0 : l' = []
  · -- nothing is appended
    obtain ⟨B, cb, rfl⟩ : ∃ B cb, u = .slice B 0 cb := by
      rcases hcells with ⟨⟨x, rfl⟩, _⟩ | ⟨ad, cap, rfl, _⟩
      · exact ⟨_, _, rfl⟩
      · rw [hl0]; exact ⟨_, _, rfl⟩
    subst hl0
    obtain rfl : ys = [] := List.length_eq_zero_iff.1 (by simpa using hyl)
    have hvs : ∃ A cap, v = .slice A c.l.length cap ∧ c.l.length ≤ cap := by
      rcases hown.2 with ⟨h1, h2⟩ | ⟨g, cap, cur, h1, _, _, h2, _⟩
      · obtain ⟨x, h1⟩ := h1; exact ⟨x, 0, by rw [h2]; exact h1, by omega⟩
      · exact ⟨_, cap, h1, h2⟩
    obtain ⟨A, cap, rfl, hcap⟩ := hvs
    have ho : OwnX w G.F (.slice A c.l.length cap) ⟨c.e, c.k, c.l ++ [], m'⟩ zs ((ownB (.slice A c.l.length cap)).toList ++ (Bi ++ T)) := by
      refine ⟨?_, Bi ++ T, by simpa using hD, by rw [hob]⟩
      unfold outC
      dsimp only
      rw [hm.2]
      simpa using hown
    have := h.own hr ⟨ep + 1, some ⟨c.e, c.k, c.l ++ [], m'⟩⟩ (w' := w) (G' := G.inns id zs) (RowK.new (by dsimp only; omega) fun c' hc' => by cases hc'; exact hm.1) (fun _ _ _ => ⟨rfl, rfl⟩) h.lt rfl (fun j hj => ⟨rfl, fun q => Gh.inns_other _ _ _ hj q⟩) ⟨rfl, rfl, rfl, Nat.le_refl _⟩
      (by
        intro c' hc'; cases hc'
        have e1 : (G.inns id zs).hd id = .slice A c.l.length cap := hvh.symm
        rw [e1]
        refine ⟨zs, _, ho, ?_, fun b hb => ?_, InnOk.self (by simpa using hD.len.2)⟩
        · rw [← List.append_assoc]
          exact List.nodup_append.2 ⟨hBn, hTn, fun b hb b' hb' e => hBT b hb (by rw [e]; exact hb')⟩
        · rw [← List.append_assoc] at hb
          rcases List.mem_append.1 hb with hb | hb
          · exact hBt b hb
          · exact hTt b hb)
    exact ⟨_, w, G.inns id zs, run_append_nothing w t ty c.e i hun i1 A B _ cap cb hcap, this.2 _ _ (ref_tr (c := ⟨c.e, c.k, c.l ++ [], m'⟩) (show (G.inns id zs).hd id = _ from hvh.symm) (by rw [List.getElem?_set_self hid]) ho) d, hvh.symm⟩
  · rcases hcells with ⟨_, h0⟩ | ⟨ad, cap, rfl, hx⟩
    · exact absurd h0 hl0
    have hm0 : 0 < l'.length := List.length_pos_iff.2 hl0
    obtain ⟨v', w', h1, h2, h3, h5⟩ := run_append_ownC_at (P := P) w 0 t ty c.e i z c.k.size i.bytes hun i1 i4 hsz rfl hzs (size_pos _) v c.l.length zs hown ad l'.length cap ys hyl hx hy1 hm0
      (by simp only [maxLen]; omega) (by
        have := Nat.mul_le_mul_left (c.l.length + l'.length) i3
        omega) (Nat.zero_le _)
    let G1 : Gh := { G with who := fun b => if b = w.heap.size then (if (ownB v') = some b then .rw id else .ot) else G.who b }
    let G' := (G1.head id v').inns id (zs ++ ys)
    have hG : ∀ b, b ≠ w.heap.size → G'.who b = G.who b := fun b hb => by show (if b = _ then _ else _) = _; rw [if_neg hb]
    have hvo : ∀ b, (ownB v) = some b → G.who b = .rw id := fun b hb => hBt b (List.mem_append_left _ (by rw [hb]; simp))
    have hBlt : ∀ b ∈ Bi ++ T, b < w.heap.size ∧ G.who b = .rw id := fun b hb => by
      have : G.who b = .rw id := by
        rcases List.mem_append.1 hb with hb | hb
        · exact hBt b (List.mem_append_right _ hb)
        · exact hTt b hb
      exact ⟨h.lt b (by rw [this]; simp), this⟩
    have hBv : ∀ b ∈ Bi ++ T, ownB v ≠ some b := fun b hb e => by
      have hv : b ∈ (ownB v).toList := by rw [e]; simp
      rcases List.mem_append.1 hb with hb | hb
      · exact (List.nodup_append.1 hBn).2.2 b hv b hb rfl
      · exact hBT b (List.mem_append_left _ hv) hb
    have hold : ∀ b, b < w.heap.size → G.who b ≠ .rw id → G'.who b = G.who b ∧ w'.heap[b]? = w.heap[b]? := fun b hb hne => ⟨hG b (by omega), h3.block b hb fun e => hne (hvo b e.symm)⟩
    have hlt : ∀ b, G'.who b ≠ .ot → b < w'.heap.size := by
      intro b hb
      by_cases e : b = w.heap.size
      · subst e
        have hw : G'.who w.heap.size = if (ownB v') = some w.heap.size then .rw id else .ot := by show (if _ = _ then _ else _) = _; rw [if_pos rfl]
        rw [hw] at hb
        split at hb
        · rename_i hv'
          rcases h2.2 with ⟨⟨x, hn⟩, _⟩ | ⟨g, cp, cur, hs, _, hg, _, _, _, _, hpos⟩
          · rw [hn] at hv'; simp [ownB_zero] at hv'
          · rw [hs, ownB_pos hpos] at hv'
            simp only [Option.some.injEq] at hv'
            rw [← hv']
            exact (Array.getElem?_eq_some_iff.1 hg).1
        · exact absurd rfl hb
      · rw [hG b e] at hb
        exact Nat.lt_of_lt_of_le (h.lt b hb) h3.size
    have hF : ∀ b, G.F b → G'.F b ∧ w'.heap[b]? = w.heap[b]? := by
      intro b hb
      have hb' : G.who b = .fz := hb
      have := hold b (h.lt b (by rw [hb']; simp)) (by rw [hb']; simp)
      exact ⟨by show G'.who b = _; rw [this.1, hb'], this.2⟩
    have ho : OwnX w' G'.F v' ⟨c.e, c.k, c.l ++ l', m'⟩ (zs ++ ys) ((ownB v').toList ++ (Bi ++ T)) := by
      refine ⟨?_, Bi ++ T, hD.mono hF fun b hb => h3.block b (hBlt b hb).1 fun e => hBv b hb e.symm, by rw [hob]⟩
      unfold outC
      dsimp only
      rw [hm.2]
      simpa using h2
    have := h.own hr ⟨ep + 1, some ⟨c.e, c.k, c.l ++ l', m'⟩⟩ (w' := w') (G' := G') (RowK.new (by dsimp only; omega) fun c' hc' => by cases hc'; exact hm.1) hold hlt rfl (fun j hj => ⟨Gh.head_other _ _ _ hj, fun q => Gh.inns_other _ _ _ hj q⟩) ⟨h3.os, h3.tape, h3.output, h3.size⟩
      (by
        intro c' hc'; cases hc'
        rw [show G'.hd id = v' from Gh.head_same _ _ _]
        refine ⟨_, _, ho, List.nodup_append.2 ⟨by cases ownB v' <;> simp, ?_, fun b hb b' hb' e => ?_⟩, fun b hb => ?_, InnOk.self hD.len.2⟩
        · exact List.nodup_append.2 ⟨(List.nodup_append.1 hBn).2.1, hTn, fun b hb b' hb' e => hBT b (List.mem_append_right _ hb) (by rw [e]; exact hb')⟩
        · subst e
          have hb2 : ownB v' = some b := by simpa using hb
          rcases h5 with e | e
          · exact hBv b hb' (by rw [← e]; exact hb2)
          · rw [e] at hb2
            simp only [Option.some.injEq] at hb2
            have := (hBlt b hb').1
            omega
        · rcases List.mem_append.1 hb with hb | hb
          · have hb2 : ownB v' = some b := by simpa using hb
            rcases h5 with e | e
            · have hb3 := hvo b (by rw [← e]; exact hb2)
              exact (hG b (by have := h.lt b (by rw [hb3]; simp); omega)).trans hb3
            · rw [e] at hb2
              simp only [Option.some.injEq] at hb2
              subst hb2
              show (if _ = _ then _ else _) = _
              rw [if_pos rfl, if_pos e]
          · exact (hG b (by have := (hBlt b hb).1; omega)).trans (hBlt b hb).2)
    exact ⟨v', w', G', h1, this.2 _ _ (ref_tr (Gh.head_same _ _ _) (by rw [List.getElem?_set_self hid]) ho) d, Gh.head_same _ _ _⟩
omit hV in
theorem DCs.more {F : Nat → Prop} : ∀ {n : Nat} {vs vs' : List Value} {ds ds' : List D} {B : List Nat}, DCs w F n vs ds B → F2 (Rd w F) vs' ds' → DCs w F n (vs ++ vs') (ds ++ ds') B
  | 0, vs, vs', ds, ds', B, h, h' => by
    rw [DCs.zero] at h ⊢
    exact ⟨h.1.app h', h.2⟩
  | n + 1, v :: vs, vs', x :: ds, ds', B, h, h' => by
    obtain ⟨B1, B2, h1, h2, rfl⟩ := h
    exact ⟨B1, B2, h1, DCs.more h2 h', rfl⟩
  | _ + 1, [], _, _, _, _, h, _ => by cases ‹List D› <;> exact h.elim
  | _ + 1, _ :: _, _, [], _, _, h, _ => h.elim
theorem append_ok (h : Inv w0 prot S G a w) {t : Nat} {I : TyI} {k : RK} {e : Nat} (hI : look t V.tys = some I) (hel : I.el = some (k, e)) {id ep : Nat} {c : RC} (hl : S.live id ep = some c) (hce : c.e = e) (hck : c.k = k) (hcp : c.m.p = false)
    {v u : Value} (hv : CR w G S.rows v (.ref id ep)) {q : T} {k' : RK} {l' : List k'.El} (hu : TR w G S.rows S.boxes u q) (he : S.elems q = some ⟨k', l'⟩) (hdx : deepX S q = none) (hk : k' = c.k) (hlim : c.l.length + l'.length ≤ LIM) (ty : TypeId) (d : Option Nat) :
    ∃ v' w' G', (Builtin.append_ #[t, t] ty #[v, u]).run P w = .ok v' w' ∧
      Inv w0 prot (S.app d ⟨.v false [.ref id (ep + 1)], [(id, ⟨ep + 1, some ⟨c.e, c.k, c.l ++ castL hk l', ⟨c.m.d, false, 0, false⟩⟩⟩)], []⟩) G' (a.put d v') w' ∧ G'.hd id = v' := by
  obtain ⟨r, hr, hep, hrc⟩ := live_spec hl
  obtain ⟨hvh, zs, B, ⟨hout, Bi, hdc, hB⟩, hBn, hBt, _⟩ := own_of hV h hl hv
  unfold outC at hout
  unfold obB at hB
  rw [hcp] at hout hB
  subst hB
  subst hk
  have hcast : castL rfl l' = l' := rfl
  rw [hcast]
  have hsrc : ∃ ys, (((∃ x, u = .slice x 0 0) ∧ l' = []) ∨ ∃ ad cap, u = .slice (some ad) l'.length cap ∧ ∀ j y, ys[j]? = some y → w.cell? (ad.add j) = some y) ∧ F2 (Rd w G.F) ys (flat c.k l') := by
    rcases append_cells hV h hu he hdx with ⟨h1, h2⟩ | ⟨ad, cap, xs, h1, h2, h3⟩
    · subst h2
      exact ⟨[], .inl ⟨h1, rfl⟩, .nil⟩
    · exact ⟨xs, .inr ⟨ad, cap, h1, h2⟩, h3⟩
  obtain ⟨ys, hs1, hs2⟩ := hsrc
  have hyl := hs2.len
  rw [flat_len] at hyl
  refine append_core hV h hI hel hr hep hrc hce hck hcp hvh (T := []) hout hdc hBn hBt List.nodup_nil (fun b hb => by cases hb) (fun _ _ hb => by cases hb) hs1 hyl (slice_all_one hs2) _ ⟨rfl, rfl⟩ ?_ hlim ty d
  rw [List.append_nil, flat_append]
  exact DCs.more hdc hs2
theorem append_deep (h : Inv w0 prot S G a w) {t : Nat} {I : TyI} {k : RK} {e : Nat} (hI : look t V.tys = some I) (hel : I.el = some (k, e)) {id ep q q2 : Nat} {c : RC} (hl : S.live id ep = some c) (hce : c.e = e) (hck : c.k = k) (hcp : c.m.p = false) (hcd : c.m.d = some q)
    {v u : Value} (hv : CR w G S.rows v (.ref id ep)) {X : T} {id2 : Nat} {c2 : RC} (hu : TR w G S.rows S.boxes u X) (hdx : deepX S X = some (id2, c2, q2)) (hk : c2.k = c.k) (hne : id2 ≠ id) (hq : q = c.l.length) (hq2 : q2 = c2.l.length) (hlim : c.l.length + c2.l.length ≤ LIM) (ty : TypeId) (d : Option Nat) :
    ∃ v' w' G', (Builtin.append_ #[t, t] ty #[v, u]).run P w = .ok v' w' ∧
      Inv w0 prot (S.app d ⟨.v false [.ref id (ep + 1)], deads S [id2] ++ [(id, ⟨ep + 1, some ⟨c.e, c.k, c.l ++ castL hk c2.l, ⟨some (q + q2), false, 0, false⟩⟩⟩)], []⟩) G' (a.put d v') w' := by
  obtain ⟨r, hr, hep, hrc⟩ := live_spec hl
  obtain ⟨hvh, zs, B, ⟨hout, Bi, hdc, hB⟩, hBn, hBt, _⟩ := own_of hV h hl hv
  unfold outC at hout
  unfold obB at hB
  rw [hcp] at hout hB
  subst hB
  -- what is appended
  obtain ⟨ep2, hX, hl2, hd2⟩ : ∃ ep2, X = .v false [.ref id2 ep2] ∧ S.live id2 ep2 = some c2 ∧ c2.m.d = some q2 := by
    unfold deepX at hdx
    split at hdx
    · split at hdx
      · rename_i hlv
        split at hdx
        · rename_i hdd
          cases hdx
          exact ⟨_, rfl, hlv, hdd⟩
        · simp at hdx
      · simp at hdx
    · simp at hdx
  subst hX
  obtain ⟨cm, hcm, hcr⟩ := hu
  cases hcm
  obtain ⟨_, ys, B2, ⟨hout2, Bi2, hdc2, hB2⟩, hBn2, hBt2, _⟩ := own_of hV h hl2 hcr
  obtain ⟨hyl, hls⟩ := hout2.lies
  have hT : ∀ b ∈ Bi2, ∃ g ∈ [id2], G.who b = .rw g := fun b hb => ⟨id2, by simp, hBt2 b (by rw [hB2]; exact List.mem_append_right _ hb)⟩
  obtain ⟨hk1, hi1⟩ := h.kill [id2] Bi2 id hT
  have hr1 : ((deads S [id2]).foldl (fun r p => r.set p.1 p.2) S.rows)[id]? = some r := by
    rw [deads_get (by simpa using fun e => hne e.symm)]; exact hr
  have hdis : ∀ b ∈ (ownB v).toList ++ Bi, b ∉ Bi2 := fun b hb hm => by
    obtain ⟨g, hg, hw⟩ := hT b hm
    simp only [List.mem_singleton] at hg
    subst hg
    rw [hBt b hb] at hw
    cases hw
    exact hne rfl
  have hGF : ∀ b, G.F b → (G.retag Bi2 id).F b ∧ w.heap[b]? = w.heap[b]? := fun b hb => ⟨(hk1.fz b hb).1, rfl⟩
  obtain ⟨e2, k2, l2, m2⟩ := c2
  dsimp only at hk hq2 hlim hd2 hdc2 hyl hls
  subst hk
  have hcast : castL rfl l2 = l2 := rfl
  rw [hcast]
  have hdn2 : RC.dn ⟨e2, c.k, l2, m2⟩ = l2.length * c.k.size := by unfold RC.dn; dsimp only; rw [hd2, hq2]; rfl
  have hdn : c.dn = c.l.length * c.k.size := by unfold RC.dn; rw [hcd, hq]; rfl
  rw [hdn2] at hdc2
  obtain ⟨v', w', G', h1, h2, _⟩ := append_core hV hi1 hI hel hr1 hep hrc hce hck hcp (v := v) (u := u) (ys := ys) (Bi := Bi) (T := Bi2) hvh hout (hdc.mono hGF fun _ _ => rfl) hBn (fun b hb => (Gh.retag_out G id (hdis b hb)).trans (hBt b hb)) (by rw [hB2] at hBn2; exact (List.nodup_append.1 hBn2).2.1) (fun b hb => Gh.retag_in G id hb) hdis
    (l' := l2) (hls.imp (fun h => h) fun ⟨g, off, cap, h1, _, h2⟩ => ⟨⟨g, off, none⟩, cap, h1, fun j y hy => by rw [add_lit]; exact h2 j y hy⟩) hyl hdc2.one ⟨some (q + q2), false, 0, false⟩ ⟨rfl, rfl⟩ (by
      have e1 : RC.dn ⟨c.e, c.k, c.l ++ l2, ⟨some (q + q2), false, 0, false⟩⟩ = c.l.length * c.k.size + l2.length * c.k.size := by
        unfold RC.dn
        simp only [Option.getD_some]
        rw [hq, hq2, Nat.add_mul]
      rw [e1, flat_append]
      rw [hdn] at hdc
      exact DCs.app hout.1 (hdc.mono hGF fun _ _ => rfl) (hdc2.mono hGF fun _ _ => rfl)) hlim ty d
  refine ⟨v', w', G', h1, ?_⟩
  rw [app_deads]
  exact h2
end
end Go.Proofs.YtkencmgcibbfaaaE

/- What is promised of a function; what is handed over and comes back. Conditions: none. -/
set_option linter.unusedVariables false
namespace Go.Proofs.YtkencmgcibbfaaaE
open Go Go.RowKit
def ACR (w : World) (F : Nat → Prop) (v : Value) (B : List Nat) : AC → Prop
  | .d x => Rd w F v x ∧ B = []
  | .own c => OwnR w F v c B
def ACs (w : World) (F : Nat → Prop) : List Value → List AC → List Nat → Prop
  | [], [], B => B = []
  | v :: vs, c :: cs, B => ∃ B1 B2, ACR w F v B1 c ∧ ACs w F vs cs B2 ∧ B = B1 ++ B2
  | _, _, _ => False
def ArgR (w : World) (F : Nat → Prop) (v : Value) (B hb : List Nat) : Arg → Prop
  | .v g cs => ∃ xs, v = mkV g xs ∧ v.cells = xs.toArray ∧ (g = false → xs.length = 1) ∧ ACs w F xs cs B ∧ hb = []
  | .p cs => ∃ (b : Nat) (arr : List Value) (ty : TypeId) (B1 : List Nat), v = .pointer (some ⟨b, 0, none⟩) ∧ w.heap[b]? = some (.cells arr.toArray ty (0, 0)) ∧ ACs w F arr cs B1 ∧ B = b :: B1 ∧ hb = [b]
def ArgsR (w : World) (F : Nat → Prop) : List Value → List Arg → List Nat → List Nat → Prop
  | [], [], B, hb => B = [] ∧ hb = []
  | v :: vs, x :: xs, B, hb => ∃ B1 B2 h1 h2, ArgR w F v B1 h1 x ∧ ArgsR w F vs xs B2 h2 ∧ B = B1 ++ B2 ∧ hb = h1 ++ h2
  | _, _, _, _ => False
/-- The value that a call returns. -/
def retV (vs : List Value) : Value := match vs with
  | [v] => v
  | vs => .tuple vs.toArray
def ptrV (b : Nat) : Value := .pointer (some ⟨b, 0, none⟩)
/-- A function value that is handed over last: the variable that it holds stands for it. -/
def wrapV : Option (Nat × Bool) → List Value → List Value
  | none, vs => vs
  | some (f, false), vs => vs ++ [.func (.func f) #[] #[]]
  | some (_, true), [] => []
  | some (f, true), [v] => [.func (.func f) #[] #[v]]
  | some (f, true), v :: vs => v :: wrapV (some (f, true)) vs
theorem wrapV_none (vs : List Value) : wrapV none vs = vs := by simp [wrapV]
theorem wrapV_false (f : Nat) (vs : List Value) : wrapV (some (f, false)) vs = vs ++ [.func (.func f) #[] #[]] := by simp [wrapV]
theorem wrapV_cons (f : Nat) (v x : Value) (xs : List Value) : wrapV (some (f, true)) (v :: x :: xs) = v :: wrapV (some (f, true)) (x :: xs) := by simp [wrapV]
/-- A call does what is told of it. -/
def Valid (P : Program) (f : Nat) (E : Ent) : Prop :=
  (∃ fn, P.funcs[f]? = some fn ∧ fn.body.isSome = true ∧ (fn.name == "runtime.NumGoroutine") = false) ∧
  ∀ (w : World) (F : Nat → Prop) (vs : List Value) (as : List Arg) (B hb : List Nat) (K : List Arg → List (List AC) → Prop),
    ArgsR w F vs as B hb → B.Nodup → (∀ b ∈ B, ¬ F b ∧ b < w.heap.size) → (∀ b, F b → b < w.heap.size) → E.F as K →
    Calls P f (wrapV E.clo vs).toArray w fun e w' => ∃ rv rs bs F' B' hb', e = .returned (retV rv) ∧ K rs bs ∧ ArgsR w' F' (rv ++ hb.map ptrV) (rs ++ bs.map .p) B' hb' ∧ rv.length = rs.length ∧
      B'.Nodup ∧ (∀ b ∈ B', ¬ F' b ∧ b < w'.heap.size ∧ (b ∈ B ∨ w.heap.size ≤ b)) ∧ (∀ b, F b → F' b) ∧ (∀ b, F' b → b < w'.heap.size ∧ (F b ∨ b ∈ B ∨ w.heap.size ≤ b)) ∧
      Kp (fun b => b < w.heap.size ∧ b ∉ B) w w'
def CallsOk (P : Program) (V : Env) : Prop := ∀ f E, look f V.calls = some E → Valid P f E
/-- The headers of what is lent to be written. -/
def iovC : List Value → List AC → List Value
  | v :: vs, .own _ :: as => v :: iovC vs as
  | _ :: vs, .d _ :: as => iovC vs as
  | _, _ => []
def iovA : List Value → List Arg → List Value
  | v :: vs, .v _ cs :: as => iovC v.cells.toList cs ++ iovA vs as
  | _ :: vs, .p _ :: as => iovA vs as
  | _, _ => []
/-- A call of a function that writes what it is lent does what is told of it. -/
def ValidI (P : Program) (f : Nat) (E : EntI) : Prop :=
  (∃ fn, P.funcs[f]? = some fn ∧ fn.body.isSome = true ∧ (fn.name == "runtime.NumGoroutine") = false) ∧
  ∀ (w : World) (F : Nat → Prop) (vs : List Value) (as : List Arg) (B : List Nat) (K : List Arg → List RC → Prop),
    ArgsR w F vs as B [] → B.Nodup → (∀ b ∈ B, ¬ F b ∧ b < w.heap.size) → (∀ b, F b → b < w.heap.size) → E.F as K →
    Calls P f vs.toArray w fun e w' => ∃ rv rs cs F' B1 B2, e = .returned (retV rv) ∧ K rs cs ∧ ArgsR w' F' rv rs B1 [] ∧ ACs w' F' (iovA vs as) (cs.map .own) B2 ∧
      (B1 ++ B2).Nodup ∧ (∀ b ∈ B1 ++ B2, ¬ F' b ∧ b < w'.heap.size ∧ (b ∈ B ∨ w.heap.size ≤ b)) ∧ (∀ b, F b → F' b) ∧ (∀ b, F' b → b < w'.heap.size ∧ (F b ∨ b ∈ B ∨ w.heap.size ≤ b)) ∧
      Kp (fun b => b < w.heap.size ∧ b ∉ B) w w'
def IosOk (P : Program) (V : Env) : Prop := ∀ f E, look f V.ioc = some E → ValidI P f E
/-- All that is called. -/
structure AllOk (P : Program) (V : Env) : Prop where
  calls : CallsOk P V
  ios : IosOk P V
/-! ### what comes back is laid down -/
inductive OC (S : St) (dp : Bool) : List Nat → List AC → List Cm → List (Nat × Row) → List Nat → Prop
  | nil (ids : List Nat) : OC S dp ids [] [] [] ids
  | own {id : Nat} {ids : List Nat} {c : RC} {as : List AC} {r : Row} {cs : List Cm} {rs : List (Nat × Row)} {is : List Nat} : S.rows[id]? = some r → OC S dp ids as cs rs is →
      OC S dp (id :: ids) (.own c :: as) (.ref id (r.ep + 1) :: cs) ((id, ⟨r.ep + 1, some (c.nh dp)⟩) :: rs) is
  | dat {ids : List Nat} {x : AC} {as : List AC} {cs : List Cm} {rs : List (Nat × Row)} {is : List Nat} : OC S dp ids as cs rs is → OC S dp ids (x :: as) (.d x.data :: cs) rs is
theorem ownCells_spec {S : St} {dp : Bool} : ∀ {as : List AC} {ids : List Nat} {K : List Cm → List (Nat × Row) → List Nat → Prop}, ownCells S dp ids as K → ∃ cs rs is, K cs rs is ∧ OC S dp ids as cs rs is := by
  intro as
  induction as with
  | nil => intro ids K h; cases ids <;> exact ⟨_, _, _, h, .nil _⟩
  | cons x as ih =>
    intro ids K h
    cases ids with
    | nil =>
      cases x <;> (
        simp only [ownCells] at h
        obtain ⟨cs, rs, is, h1, h2⟩ := ih h
        exact ⟨_, _, _, h1, .dat h2⟩)
    | cons id ids =>
      cases x with
      | d y =>
        simp only [ownCells] at h
        obtain ⟨cs, rs, is, h1, h2⟩ := ih h
        exact ⟨_, _, _, h1, .dat h2⟩
      | own c =>
        simp only [ownCells] at h
        split at h
        · rename_i r hr
          obtain ⟨cs, rs, is, h1, h2⟩ := ih h
          exact ⟨_, _, _, h1, .own hr h2⟩
        · exact h.elim
/-- A row that is taken over: its name, header, cells, blocks. -/
structure HE where
  id : Nat
  v : Value
  xs : List Value
  b : List Nat
def HEs (H : List HE) : List Nat := H.flatMap (·.b)
theorem HEs_cons (p : HE) (H : List HE) : HEs (p :: H) = p.b ++ HEs H := rfl
theorem HEs_append (H H' : List HE) : HEs (H ++ H') = HEs H ++ HEs H' := by simp [HEs]
/-- It is who is told. -/
def HE.In (G : Gh) (p : HE) : Prop := G.hd p.id = p.v ∧ (∀ b ∈ p.b, G.who b = .rw p.id) ∧ ∀ j u, p.xs[j]? = some u → G.inn p.id j = u
/-- Headers of rows that are taken over. -/
def Takes (w : World) (F : Nat → Prop) (B : List Nat) (vs : List Value) (cs : List Cm) (rs : List (Nat × Row)) (H : List HE) : Prop :=
  H.map (·.id) = rs.map (·.1) ∧ (HEs H).Sublist B ∧
  ∀ (G : Gh) (rows : List Row), (∀ b, F b → G.F b) → (∀ p ∈ H, p.In G) → (∀ b ∈ B, b ∉ HEs H → G.F b) → (∀ p ∈ rs, rows[p.1]? = some p.2) →
    F2 (CR w G rows) vs cs ∧ ∀ p ∈ rs, RowR w G p.1 p.2
theorem sub_not_mem {l l' B : List Nat} (h1 : l.Sublist B) (h : (B ++ l').Nodup) {b : Nat} (hb : b ∈ l') : b ∉ l := fun hl => (List.nodup_append.1 h).2.2 b (h1.subset hl) b hb rfl
/-- A row, as somebody else has it. -/
theorem OwnX.row {w : World} {F : Nat → Prop} {v : Value} {c : RC} {xs : List Value} {B : List Nat} (h : OwnX w F v c xs B) (hn : B.Nodup) {G : Gh} (hF : ∀ b, F b → G.F b) {id : Nat} (hin : (⟨id, v, xs, B⟩ : HE).In G) (dp : Bool) (ep : Nat) : RowR w G id ⟨ep, some (c.nh dp)⟩ := by
  intro c' hc'
  cases hc'
  obtain ⟨h1, h2, h3⟩ := hin
  dsimp only at h1 h2 h3
  rw [h1]
  exact ⟨xs, B, (h.mono (fun b hb => ⟨hF b hb, rfl⟩) fun _ _ => rfl).nh dp, hn, h2, fun j hj k l _ => by
    obtain ⟨_, Bi, h4, _⟩ := h.nh dp
    have := h4.len.2
    have hx : xs[j]? = some (xs[j]'(by omega)) := List.getElem?_eq_getElem _
    rw [hx, h3 j _ hx]⟩
theorem takes_cells {S : St} {dp : Bool} {w : World} {F : Nat → Prop} {ids : List Nat} {as : List AC} {cs : List Cm} {rs : List (Nat × Row)} {is : List Nat} (ho : OC S dp ids as cs rs is) :
    ∀ {vs : List Value} {B : List Nat}, ACs w F vs as B → B.Nodup → ∃ H, Takes w F B vs cs rs H := by
  induction ho with
  | nil ids =>
    intro vs B ha _
    cases vs with
    | nil => exact ⟨[], rfl, by simp [HEs], fun G rows _ _ _ _ => ⟨.nil, fun p hp => by cases hp⟩⟩
    | cons => exact ha.elim
  | @own id ids c as r cs rs is hr _ ih =>
    intro vs B ha hn
    cases vs with
    | nil => exact ha.elim
    | cons v vs =>
      obtain ⟨B1, B2, ⟨xs, h1⟩, h2, rfl⟩ := ha
      obtain ⟨hn1, hn2, hdis⟩ := List.nodup_append.1 hn
      obtain ⟨H, hH1, hH2, hH3⟩ := ih h2 hn2
      refine ⟨⟨id, v, xs, B1⟩ :: H, by simp [hH1], by rw [HEs_cons]; exact List.Sublist.append (List.Sublist.refl _) hH2, fun G rows g1 g2 g3 g4 => ?_⟩
      obtain ⟨f1, f2⟩ := hH3 G rows g1 (fun p hp => g2 p (List.mem_cons_of_mem _ hp)) (fun b hb hnb => g3 b (List.mem_append_right _ hb) (by
        rw [HEs_cons]
        intro hb2
        rcases List.mem_append.1 hb2 with h3 | h3
        · exact hdis b h3 b hb rfl
        · exact hnb h3)) (fun p hp => g4 p (List.mem_cons_of_mem _ hp))
      have hh := g2 ⟨id, v, xs, B1⟩ (by simp)
      have h1c := h1.one
      refine ⟨.cons ⟨h1c.1, h1c.2, fun r1 hr1 => ?_⟩ f1, fun p hp => ?_⟩
      · rw [g4 (id, ⟨r.ep + 1, some (c.nh dp)⟩) (by simp)] at hr1
        cases hr1
        exact ⟨Nat.le_refl _, fun _ _ => hh.1.symm⟩
      · rcases List.mem_cons.1 hp with rfl | hp
        · exact h1.row hn1 g1 hh dp _
        · exact f2 p hp
  | @dat ids x as cs rs is _ ih =>
    intro vs B ha hn
    cases vs with
    | nil => exact ha.elim
    | cons v vs =>
      obtain ⟨B1, B2, h1, h2, rfl⟩ := ha
      obtain ⟨hn1, hn2, hdis⟩ := List.nodup_append.1 hn
      obtain ⟨H, hH1, hH2, hH3⟩ := ih h2 hn2
      refine ⟨H, hH1, hH2.trans (List.sublist_append_right _ _), fun G rows g1 g2 g3 g4 => ?_⟩
      obtain ⟨f1, f2⟩ := hH3 G rows g1 g2 (fun b hb hnb => g3 b (List.mem_append_right _ hb) hnb) g4
      refine ⟨.cons ?_ f1, f2⟩
      cases x with
      | d y => exact h1.1.mono g1 fun _ _ => rfl
      | own c => exact OwnR.data h1 g1 fun b hb => g3 b (List.mem_append_left _ hb) fun hb2 => hdis b hb b (hH2.subset hb2) rfl
inductive RT (S : St) (dp : Bool) : List Nat → List Arg → List (Bool × List Cm) → List (Nat × Row) → Prop
  | nil (ids : List Nat) : RT S dp ids [] [] []
  | cons {ids is : List Nat} {g : Bool} {as : List AC} {rs : List Arg} {cs : List Cm} {r1 r2 : List (Nat × Row)} {l : List (Bool × List Cm)} : OC S dp ids as cs r1 is → RT S dp is rs l r2 → RT S dp ids (.v g as :: rs) ((g, cs) :: l) (r1 ++ r2)
theorem resT_spec {S : St} {dp : Bool} : ∀ {rs : List Arg} {ids : List Nat} {K : List (Bool × List Cm) → List (Nat × Row) → Prop}, resT S dp ids rs K → ∃ l rows, K l rows ∧ RT S dp ids rs l rows := by
  intro rs
  induction rs with
  | nil => intro ids K h; exact ⟨_, _, h, .nil _⟩
  | cons x rs ih =>
    intro ids K h
    cases x with
    | p cs => exact h.elim
    | v g cs =>
      simp only [resT] at h
      obtain ⟨ms, r1, is, h1, h2⟩ := ownCells_spec h
      obtain ⟨l, r2, h3, h4⟩ := ih h1
      exact ⟨_, _, h3, .cons h2 h4⟩
theorem ACs.len {w : World} {F : Nat → Prop} : ∀ {vs : List Value} {as : List AC} {B : List Nat}, ACs w F vs as B → vs.length = as.length
  | [], [], _, _ => rfl
  | _ :: _, _ :: _, _, h => by obtain ⟨_, _, _, h2, _⟩ := h; simp [ACs.len h2]
  | [], _ :: _, _, h => h.elim
  | _ :: _, [], _, h => h.elim
/-- Results, laid down. -/
def TakesV (w : World) (F : Nat → Prop) (B : List Nat) (vs : List Value) (l : List (Bool × List Cm)) (rs : List (Nat × Row)) (H : List HE) : Prop :=
  H.map (·.id) = rs.map (·.1) ∧ (HEs H).Sublist B ∧
  ∀ (G : Gh) (rows : List Row), (∀ b, F b → G.F b) → (∀ p ∈ H, p.In G) → (∀ b ∈ B, b ∉ HEs H → G.F b) → (∀ p ∈ rs, rows[p.1]? = some p.2) →
    F2 (fun v (p : Bool × List Cm) => VR w G rows v p.1 p.2) vs l ∧ ∀ p ∈ rs, RowR w G p.1 p.2
theorem takes_args {S : St} {dp : Bool} {w : World} {F : Nat → Prop} {ids : List Nat} {as : List Arg} {l : List (Bool × List Cm)} {rs : List (Nat × Row)} (ho : RT S dp ids as l rs) :
    ∀ {vs : List Value} {B hb : List Nat}, ArgsR w F vs as B hb → B.Nodup → hb = [] ∧ ∃ H, TakesV w F B vs l rs H := by
  induction ho with
  | nil ids =>
    intro vs B hb ha _
    cases vs with
    | nil => obtain ⟨rfl, rfl⟩ := ha; exact ⟨rfl, [], rfl, by simp [HEs], fun G rows _ _ _ _ => ⟨.nil, fun p hp => by cases hp⟩⟩
    | cons => exact ha.elim
  | @cons ids is g as rs cs r1 r2 l hoc _ ih =>
    intro vs B hb ha hn
    cases vs with
    | nil => exact ha.elim
    | cons v vs =>
      obtain ⟨B1, B2, h1, h2, ⟨xs, hv, _, hx1, hx2, rfl⟩, ha2, rfl, rfl⟩ := ha
      obtain ⟨hn1, hn2, hdis⟩ := List.nodup_append.1 hn
      obtain ⟨hb0, H2, q1, q2, q3⟩ := ih ha2 hn2
      subst hb0
      obtain ⟨H1, p1, p2, p3⟩ := takes_cells hoc hx2 hn1
      refine ⟨rfl, H1 ++ H2, by simp [p1, q1], by rw [HEs_append]; exact List.Sublist.append p2 q2, fun G rows g1 g2 g3 g4 => ?_⟩
      obtain ⟨f1, f2⟩ := p3 G rows g1 (fun p hp => g2 p (List.mem_append_left _ hp)) (fun b hb hnb => g3 b (List.mem_append_left _ hb) (by
        rw [HEs_append]
        intro hb2
        rcases List.mem_append.1 hb2 with h3 | h3
        · exact hnb h3
        · exact hdis b hb b (q2.subset h3) rfl)) (fun p hp => g4 p (List.mem_append_left _ hp))
      obtain ⟨f3, f4⟩ := q3 G rows g1 (fun p hp => g2 p (List.mem_append_right _ hp)) (fun b hb hnb => g3 b (List.mem_append_right _ hb) (by
        rw [HEs_append]
        intro hb2
        rcases List.mem_append.1 hb2 with h3 | h3
        · exact hdis b (p2.subset h3) b hb rfl
        · exact hnb h3)) (fun p hp => g4 p (List.mem_append_right _ hp))
      refine ⟨.cons ?_ f3, fun p hp => ?_⟩
      · rw [hv]; exact VR.mk f1 hx1
      · rcases List.mem_append.1 hp with hp | hp
        · exact f2 p hp
        · exact f4 p hp
end Go.Proofs.YtkencmgcibbfaaaE

/- What is handed over; who owns what behind a call. Conditions: none. -/
set_option linter.unusedVariables false
namespace Go.Proofs.YtkencmgcibbfaaaE
open Go Go.RowKit
theorem find_key {α β : Type} [DecidableEq β] (f : α → Option β) : ∀ (l : List α), (l.filterMap f).Nodup → ∀ x ∈ l, ∀ b, f x = some b → l.find? (fun y => f y == some b) = some x
  | [], _, x, hx, _, _ => by cases hx
  | y :: l, hn, x, hx, b, hb => by
    rw [List.find?_cons]
    by_cases hy : f y = some b
    · rw [show (f y == some b) = true by simp [hy]]
      rcases List.mem_cons.1 hx with rfl | hx
      · rfl
      · rw [List.filterMap_cons, hy] at hn
        exact absurd (List.mem_filterMap.2 ⟨x, hx, hb⟩) (List.nodup_cons.1 hn).1
    · rw [show (f y == some b) = false by simp [hy]]
      rcases List.mem_cons.1 hx with rfl | hx
      · exact absurd hb hy
      · refine find_key f l ?_ x hx b hb
        rw [List.filterMap_cons] at hn
        cases hf : f y with
        | none => rw [hf] at hn; exact hn
        | some z => rw [hf] at hn; exact (List.nodup_cons.1 hn).2
theorem find_block : ∀ {H : List HE}, (HEs H).Nodup → ∀ {p : HE}, p ∈ H → ∀ {b : Nat}, b ∈ p.b → H.find? (fun q => q.b.contains b) = some p
  | [], _, p, hp, _, _ => by cases hp
  | q :: H, hn, p, hp, b, hb => by
    rw [HEs_cons] at hn
    obtain ⟨n1, n2, n3⟩ := List.nodup_append.1 hn
    rw [List.find?_cons]
    rcases List.mem_cons.1 hp with rfl | hp
    · rw [show p.b.contains b = true by simpa using hb]
    · have hq : q.b.contains b = false := by
        cases hc : q.b.contains b with
        | false => rfl
        | true => exact absurd rfl (n3 b (by simpa using hc) b (List.mem_flatMap.2 ⟨p, hp, hb⟩))
      rw [hq]
      exact find_block n2 hp hb
theorem find_block_none {H : List HE} {b : Nat} (h : b ∉ HEs H) : H.find? (fun q => q.b.contains b) = none := by
  rw [List.find?_eq_none]
  intro p hp hb
  exact h (List.mem_flatMap.2 ⟨p, hp, by simpa using hb⟩)
theorem find_name {H : List HE} (hn : (H.map (·.id)).Nodup) {p : HE} (hp : p ∈ H) : H.find? (fun q => q.id == p.id) = some p := by
  have := find_key (fun q : HE => some q.id) H (by rw [List.filterMap_eq_map']; exact hn) p hp p.id rfl
  simpa using this
theorem find_name_none {H : List HE} {id : Nat} (h : id ∉ H.map (·.id)) : H.find? (fun q => q.id == id) = none := by
  rw [List.find?_eq_none]
  intro p hp hb
  exact h (List.mem_map.2 ⟨p, hp, by simpa using hb⟩)
section
variable {V : Env} {w0 : World} {prot : Pro} {S : St} {G : Gh} {a : Act} {w : World}
/-- The blocks of rows lent count as data. -/
def lent (G : Gh) (ls : List Nat) : Nat → Prop := fun b => G.who b = .fz ∨ ∃ id ∈ ls, G.who b = .rw id
theorem argCells_ok (h : Inv w0 prot S G a w) (own : List (Nat × Nat)) (j : Nat) (L : List Nat) : ∀ {cs : List Cm} {xs : List Value} {i : Nat} {as : List AC} {ls gs : List Nat}, F2 (CR w G S.rows) xs cs → argCells S own j i cs = some (as, ls, gs) → (∀ id ∈ ls, id ∈ L) →
    ∃ B, ACs w (lent G L) xs as B ∧ (∀ b ∈ B, ∃ id ∈ gs, G.who b = .rw id) ∧ (gs.Nodup → B.Nodup) ∧ (∀ id ∈ gs, ∃ r c, S.rows[id]? = some r ∧ r.c = some c) ∧ ∀ id ∈ ls, ∃ r c, S.rows[id]? = some r ∧ r.c = some c := by
  intro cs
  induction cs with
  | nil =>
    intro xs i as ls gs hf ha _
    cases hf
    simp only [argCells, Option.some.injEq, Prod.mk.injEq] at ha
    obtain ⟨rfl, rfl, rfl⟩ := ha
    exact ⟨[], rfl, fun b hb => (by cases hb), fun _ => List.nodup_nil, fun _ h => (by cases h), fun _ h => (by cases h)⟩
  | cons c cs ih =>
    intro xs i as ls gs hf ha hL
    cases hf with
    | @cons v _ xs _ hv hf =>
      simp only [argCells] at ha
      split at ha
      · simp at ha
      · rename_i as' ls' gs' ha'
        cases c with
        | d x =>
          simp only at ha
          split at ha
          · simp at ha
          · cases ha
            obtain ⟨B, h1, h2, h3, h4, h5⟩ := ih hf ha' hL
            exact ⟨B, ⟨[], B, ⟨hv.mono (fun b hb => .inl hb) fun _ _ => rfl, rfl⟩, h1, rfl⟩, h2, h3, h4, h5⟩
        | dead => simp at ha
        | ref id ep =>
          simp only at ha
          split at ha
          · rename_i c hc
            obtain ⟨r, hr, he, hrc⟩ := live_spec hc
            have hvh := (hv.2.2 r hr).2 he (by simp [hrc])
            obtain ⟨zs, Bo, hown, hBn, htag, _⟩ := h.row id r hr c hrc
            rw [← hvh] at hown
            split at ha
            · cases ha
              obtain ⟨B, h1, h2, h3, h4, h5⟩ := ih hf ha' hL
              refine ⟨Bo ++ B, ⟨Bo, B, ⟨zs, (hown.mono (fun b hb => ⟨.inl hb, rfl⟩) fun _ _ => rfl).nh false⟩, h1, rfl⟩, fun b hb => ?_, fun hn => ?_, fun i hi => ?_, h5⟩
              · rcases List.mem_append.1 hb with hb | hb
                · exact ⟨id, by simp, htag b hb⟩
                · obtain ⟨i, hi, hw⟩ := h2 b hb; exact ⟨i, by simp [hi], hw⟩
              · obtain ⟨hn1, hn2⟩ := List.nodup_cons.1 hn
                refine List.nodup_append.2 ⟨hBn, h3 hn2, fun b hb b' hb' e => ?_⟩
                subst e
                obtain ⟨i, hi, hw⟩ := h2 b hb'
                rw [htag b hb] at hw
                cases hw
                exact hn1 hi
              · rcases List.mem_cons.1 hi with rfl | hi
                · exact ⟨r, c, hr, hrc⟩
                · exact h4 i hi
            · cases ha
              obtain ⟨B, h1, h2, h3, h4, h5⟩ := ih hf ha' fun i hi => hL i (by simp [hi])
              refine ⟨B, ⟨[], B, ⟨hown.data (fun b hb => .inl hb) fun b hb => .inr ⟨id, hL id (by simp), htag b hb⟩, rfl⟩, h1, rfl⟩, h2, h3, h4, fun i hi => ?_⟩
              rcases List.mem_cons.1 hi with rfl | hi
              · exact ⟨r, c, hr, hrc⟩
              · exact h5 i hi
          · simp at ha
theorem argsT_ok (h : Inv w0 prot S G a w) (own : List (Nat × Nat)) (L : List Nat) : ∀ {ts : List T} {vs : List Value} {j : Nat} {as : List Arg} {ls gs : List Nat} {bs : List (Nat × Nat)}, F2 (TR w G S.rows S.boxes) vs ts → argsT S own j ts = some (as, ls, gs, bs) → (∀ id ∈ ls, id ∈ L) →
    ∃ B hb, ArgsR w (lent G L) vs as B hb ∧ hb = bs.map (fun p => G.bk p.1) ∧ (∀ b ∈ B, (∃ id ∈ gs, G.who b = .rw id) ∨ b ∈ hb) ∧ (∀ b ∈ hb, b ∈ B) ∧ (gs.Nodup → (bs.map (·.1)).Nodup → B.Nodup) ∧
      (∀ id ∈ gs, ∃ r c, S.rows[id]? = some r ∧ r.c = some c) ∧ (∀ id ∈ ls, ∃ r c, S.rows[id]? = some r ∧ r.c = some c) ∧ ∀ p ∈ bs, ∃ cs, S.box p.1 p.2 = some cs ∧ G.who (G.bk p.1) = .bx p.1 := by
  intro ts
  induction ts with
  | nil =>
    intro vs j as ls gs bs hf ha _
    cases hf
    simp only [argsT, Option.some.injEq, Prod.mk.injEq] at ha
    obtain ⟨rfl, rfl, rfl, rfl⟩ := ha
    exact ⟨[], [], ⟨rfl, rfl⟩, rfl, fun _ h => (by cases h), fun _ h => (by cases h), fun _ _ => List.nodup_nil, fun _ h => (by cases h), fun _ h => (by cases h), fun _ h => (by cases h)⟩
  | cons t ts ih =>
    intro vs j as ls gs bs hf ha hL
    cases hf with
    | @cons v _ vs _ hv hf =>
      simp only [argsT] at ha
      split at ha
      · simp at ha
      · rename_i as' ls' gs' bs' ha'
        split at ha
        · rename_i g cs
          split at ha
          · rename_i x l m hx
            cases ha
            obtain ⟨B2, hb2, p1, p2, p3, p4, p5, p6, p7, p8⟩ := ih hf ha' fun i hi => hL i (by simp [hi])
            obtain ⟨xs, q1, q2, q3, q4⟩ := VR.open hv
            obtain ⟨B1, r1, r2, r3, r4, r5⟩ := argCells_ok h own j L q2 hx fun i hi => hL i (by simp [hi])
            refine ⟨B1 ++ B2, hb2, ⟨B1, B2, [], hb2, ⟨xs, q1, q3, q4, r1, rfl⟩, p1, rfl, rfl⟩, p2, fun b hb => ?_, fun b hb => List.mem_append_right _ (p4 b hb), fun n1 n2 => ?_, fun i hi => ?_, fun i hi => ?_, p8⟩
            · rcases List.mem_append.1 hb with hb | hb
              · obtain ⟨i, hi, hw⟩ := r2 b hb; exact .inl ⟨i, by simp [hi], hw⟩
              · rcases p3 b hb with ⟨i, hi, hw⟩ | hb
                · exact .inl ⟨i, by simp [hi], hw⟩
                · exact .inr hb
            · obtain ⟨n3, n4, n5⟩ := List.nodup_append.1 n1
              refine List.nodup_append.2 ⟨r3 n3, p5 n4 n2, fun b hb b' hb' e => ?_⟩
              subst e
              obtain ⟨i, hi, hw⟩ := r2 b hb
              rcases p3 b hb' with ⟨i', hi', hw'⟩ | hb'
              · rw [hw] at hw'; cases hw'; exact n5 i hi i hi' rfl
              · rw [p2] at hb'
                obtain ⟨p, hp, rfl⟩ := List.mem_map.1 hb'
                obtain ⟨_, _, hw'⟩ := p8 p hp
                rw [hw] at hw'; simp at hw'
            · rcases List.mem_append.1 hi with hi | hi
              · exact r4 i hi
              · exact p6 i hi
            · rcases List.mem_append.1 hi with hi | hi
              · exact r5 i hi
              · exact p7 i hi
          · simp at ha
        · rename_i b ep
          split at ha
          · rename_i cs hcs
            split at ha
            · rename_i x l m hx
              cases ha
              obtain ⟨B2, hb2, p1, p2, p3, p4, p5, p6, p7, p8⟩ := ih hf ha' fun i hi => hL i (by simp [hi])
              obtain ⟨BB, hB, he, hc⟩ := box_spec hcs
              have hvv := (hv BB hB).2 he (by simp [hc])
              obtain ⟨hw, arr, ty, hh, q2⟩ := h.box b BB hB cs hc
              obtain ⟨B1, r1, r2, r3, r4, r5⟩ := argCells_ok h own j L q2 hx fun i hi => hL i (by simp [hi])
              refine ⟨(G.bk b :: B1) ++ B2, G.bk b :: hb2, ⟨G.bk b :: B1, B2, [G.bk b], hb2, ⟨G.bk b, arr, ty, B1, hvv, hh, r1, rfl, rfl⟩, p1, rfl, rfl⟩, by simp [p2], fun b' hb => ?_, fun b' hb => ?_, fun n1 n2 => ?_, fun i hi => ?_, fun i hi => ?_, fun p hp => ?_⟩
              · rcases List.mem_append.1 hb with hb | hb
                · rcases List.mem_cons.1 hb with rfl | hb
                  · exact .inr (by simp)
                  · obtain ⟨i, hi, hw⟩ := r2 b' hb; exact .inl ⟨i, by simp [hi], hw⟩
                · rcases p3 b' hb with ⟨i, hi, hw⟩ | hb
                  · exact .inl ⟨i, by simp [hi], hw⟩
                  · exact .inr (by simp [hb])
              · rcases List.mem_cons.1 hb with rfl | hb
                · simp
                · exact List.mem_append_right _ (p4 b' hb)
              · obtain ⟨n3, n4, n5⟩ := List.nodup_append.1 n1
                rw [List.map_cons, List.nodup_cons] at n2
                have boxOut : G.bk b ∉ B2 := by
                  intro hb
                  rcases p3 _ hb with ⟨i, hi, hw'⟩ | hb
                  · rw [hw] at hw'; simp at hw'
                  · rw [p2] at hb
                    obtain ⟨p, hp, hpe⟩ := List.mem_map.1 hb
                    obtain ⟨_, _, hw'⟩ := p8 p hp
                    rw [hpe, hw] at hw'
                    cases hw'
                    exact n2.1 (List.mem_map.2 ⟨p, hp, rfl⟩)
                refine List.nodup_append.2 ⟨List.nodup_cons.2 ⟨fun hb => ?_, r3 n3⟩, p5 n4 n2.2, fun b1 hb b' hb' e => ?_⟩
                · obtain ⟨i, hi, hw'⟩ := r2 _ hb
                  rw [hw] at hw'; simp at hw'
                · subst e
                  rcases List.mem_cons.1 hb with rfl | hb
                  · exact boxOut hb'
                  · obtain ⟨i, hi, hw'⟩ := r2 b1 hb
                    rcases p3 b1 hb' with ⟨i', hi', hw2⟩ | hb'
                    · rw [hw'] at hw2; cases hw2; exact n5 i hi i hi' rfl
                    · rw [p2] at hb'
                      obtain ⟨p, hp, rfl⟩ := List.mem_map.1 hb'
                      obtain ⟨_, _, hw2⟩ := p8 p hp
                      rw [hw'] at hw2; simp at hw2
              · rcases List.mem_append.1 hi with hi | hi
                · exact r4 i hi
                · exact p6 i hi
              · rcases List.mem_append.1 hi with hi | hi
                · exact r5 i hi
                · exact p7 i hi
              · rcases List.mem_cons.1 hp with rfl | hp
                · exact ⟨cs, hcs, hw⟩
                · exact p8 p hp
            · simp at ha
          · simp at ha
        · simp at ha
end
end Go.Proofs.YtkencmgcibbfaaaE

/- The state behind a call. Conditions: none. -/
set_option linter.unusedVariables false
namespace Go.Proofs.YtkencmgcibbfaaaE
open Go Go.RowKit
open Classical in
noncomputable def callGh (G : Gh) (H : List HE) (np : Option (Nat × Nat)) (Fr : Nat → Prop) (B : List Nat) (D : List Nat) : Gh where
  who b := if (∃ x, G.who b = .bx x) then G.who b else match H.find? (fun q => q.b.contains b) with
    | some p => .rw p.id
    | none => if (∃ x0, np = some (b, x0)) then (match np with | some (_, x0) => .bx x0 | none => .ot)
      else if Fr b ∨ b ∈ B then .fz else if (∃ id ∈ D, G.who b = .rw id) then .ot else G.who b
  bk x := match np with
    | some (b0, x0) => if x = x0 then b0 else G.bk x
    | none => G.bk x
  hd id := match H.find? (fun q => q.id == id) with
    | some p => p.v
    | none => G.hd id
  inn id j := match H.find? (fun q => q.id == id) with
    | some p => p.xs.getD j undef
    | none => G.inn id j
structure Back (w0 : World) (prot : Pro) (S : St) (G : Gh) (a : Act) (w w' : World) (H : List HE) (np : Option (Nat × Nat)) (Fr : Nat → Prop) (B hb D : List Nat) (bs : List (Nat × Nat)) (G' : Gh) (rows' : List Row) (boxes' : List Box)
    (rows : List (Nat × Row)) (bx : List (Nat × Box)) : Prop where
  keeps : Keeps w G S.rows S.boxes w' G' rows' boxes'
  inv : ∀ d v t, TR w' G' rows' boxes' v t → (∀ p ∈ rows, RowR w' G' p.1 p.2) → (∀ p ∈ bx, ∀ cs, p.2.c = some cs → BoxR w' G' rows' p.1 cs) → Inv w0 prot ⟨setD d t S.slots, rows', boxes'⟩ G' (a.put d v) w'
  fr : ∀ b, Fr b → G'.F b
  hd : ∀ p ∈ H, p.In G'
  rest : ∀ b ∈ B, b ∉ hb → b ∉ HEs H → (∀ x0, np ≠ some (b, x0)) → G'.F b
  rows : ∀ p ∈ rows, rows'[p.1]? = some p.2
  box : ∀ p ∈ bs, G'.bk p.1 = G.bk p.1 ∧ G'.who (G.bk p.1) = .bx p.1
  np : ∀ b0 x0, np = some (b0, x0) → G'.bk x0 = b0 ∧ G'.who b0 = .bx x0
open Classical in
theorem call_core {w0 : World} {prot : Pro} {S : St} {G : Gh} {a : Act} {w w' : World} (h : Inv w0 prot S G a w) (Fr : Nat → Prop) (B hb D : List Nat) (bs : List (Nat × Nat)) (H : List HE) (np : Option (Nat × Nat)) (rows : List (Nat × Row)) (bx : List (Nat × Box))
    (hFr1 : ∀ b, G.F b → Fr b) (hFr2 : ∀ b, Fr b → b < w'.heap.size ∧ (G.F b ∨ (∃ id ∈ D, G.who b = .rw id) ∨ w.heap.size ≤ b))
    (hBf : ∀ b ∈ B, ¬ Fr b ∧ b < w'.heap.size ∧ ((∃ id ∈ D, G.who b = .rw id) ∨ b ∈ hb ∨ w.heap.size ≤ b))
    (hhb : hb = bs.map fun p => G.bk p.1) (hbl : ∀ p ∈ bs, ∃ cs, S.box p.1 p.2 = some cs ∧ G.who (G.bk p.1) = .bx p.1)
    (hkp : w'.os = w.os ∧ w'.tape = w.tape ∧ w'.output = w.output ∧ w.heap.size ≤ w'.heap.size) (hsame : ∀ b, b < w.heap.size → (∀ id ∈ D, G.who b ≠ .rw id) → b ∉ hb → w'.heap[b]? = w.heap[b]?)
    (hD : ∀ id ∈ D, ∃ r c, S.rows[id]? = some r ∧ r.c = some c)
    (hH1 : H.map (·.id) = rows.map (·.1)) (hH2 : (rows.map (·.1)).Nodup) (hH3 : (HEs H).Nodup) (hH4 : ∀ b ∈ HEs H, b ∈ B ∧ b ∉ hb)
    (hrows : ∀ p ∈ rows, ∃ r, S.rows[p.1]? = some r ∧ p.2.ep = r.ep + 1 ∧ ∀ c, p.2.c = some c → c.m.h = false)
    (hnp : ∀ b0 x0, np = some (b0, x0) → b0 ∈ B ∧ b0 ∉ hb ∧ b0 ∉ HEs H ∧ ∃ Bx, S.boxes[x0]? = some Bx ∧ x0 ∉ bs.map (·.1) ∧ x0 ∈ bx.map (·.1) ∧ ∀ q ∈ bx, q.1 = x0 → q.2.ep = Bx.ep + 1)
    (hbx : ∀ q ∈ bx, (∃ p ∈ bs, q.1 = p.1 ∧ q.2.ep = p.2 ∧ q.2.c.isSome = true) ∨ ∃ b0, np = some (b0, q.1)) (hbs : ∀ p ∈ bs, p.1 ∈ bx.map (·.1)) :
    ∃ G', Back w0 prot S G a w w' H np Fr B hb D bs G' ((deads S D ++ rows).foldl (fun r p => r.set p.1 p.2) S.rows) (bx.foldl (fun r p => r.set p.1 p.2) S.boxes) rows bx := by
  let G' := callGh G H np Fr B D
  -- who is who
  have who_bx : ∀ b x, G.who b = .bx x → G'.who b = .bx x := fun b x hx => by
    show (if _ then _ else _) = _
    rw [if_pos ⟨x, hx⟩, hx]
  have bx_hb : ∀ b ∈ B, ∀ x, G.who b = .bx x → b ∈ hb := fun b hb0 x hx => by
    rcases (hBf b hb0).2.2 with ⟨id, _, h1⟩ | h1 | h1
    · rw [hx] at h1; simp at h1
    · exact h1
    · rw [h.who_new h1] at hx; simp at hx
  have who_H : ∀ p ∈ H, ∀ b ∈ p.b, G'.who b = .rw p.id := fun p hp b hb0 => by
    have hm : b ∈ HEs H := List.mem_flatMap.2 ⟨p, hp, hb0⟩
    have hnb : ¬ ∃ x, G.who b = .bx x := fun ⟨x, hx⟩ => (hH4 b hm).2 (bx_hb b (hH4 b hm).1 x hx)
    show (if _ then _ else _) = _
    rw [if_neg hnb, find_block hH3 hp hb0]
  have who_np : ∀ b0 x0, np = some (b0, x0) → G'.who b0 = .bx x0 := fun b0 x0 hn => by
    obtain ⟨h1, h2, h3, _⟩ := hnp b0 x0 hn
    have hnb : ¬ ∃ x, G.who b0 = .bx x := fun ⟨x, hx⟩ => h2 (bx_hb b0 h1 x hx)
    show (if _ then _ else _) = _
    rw [if_neg hnb, find_block_none h3]
    dsimp only
    rw [if_pos ⟨x0, hn⟩, hn]
  have who_fz : ∀ b, (¬ ∃ x, G.who b = .bx x) → b ∉ HEs H → (∀ x0, np ≠ some (b, x0)) → (Fr b ∨ b ∈ B) → G'.who b = .fz := fun b h1 h2 h3 h4 => by
    show (if _ then _ else _) = _
    rw [if_neg h1, find_block_none h2]
    dsimp only
    rw [if_neg (fun ⟨x0, hx⟩ => h3 x0 hx), if_pos h4]
  have fr_notB : ∀ b, Fr b → b ∉ B := fun b hb0 hB => (hBf b hB).1 hb0
  have fr_notbx : ∀ b, Fr b → ¬ ∃ x, G.who b = .bx x := fun b hb0 ⟨x, hx⟩ => by
    rcases (hFr2 b hb0).2 with h1 | ⟨id, _, h1⟩ | h1
    · have h1' : G.who b = .fz := h1
      rw [hx] at h1'; simp at h1'
    · rw [hx] at h1; simp at h1
    · rw [h.who_new h1] at hx; simp at hx
  have fr : ∀ b, Fr b → G'.who b = .fz := fun b hb0 =>
    who_fz b (fr_notbx b hb0) (fun hm => fr_notB b hb0 (hH4 b hm).1) (fun x0 hx => fr_notB b hb0 (hnp b x0 hx).1) (.inl hb0)
  have who_old : ∀ b, b < w.heap.size → (∀ id ∈ D, G.who b ≠ .rw id) → G.who b ≠ .fz → (¬ ∃ x, G.who b = .bx x) → G'.who b = G.who b := fun b hlt hd hf hx => by
    have hnB : b ∉ B := fun hB => by
      rcases (hBf b hB).2.2 with ⟨id, h1, h2⟩ | h1 | h1
      · exact hd id h1 h2
      · rw [hhb] at h1
        obtain ⟨p, hp, rfl⟩ := List.mem_map.1 h1
        obtain ⟨_, _, h2⟩ := hbl p hp
        exact hx ⟨_, h2⟩
      · omega
    have hnF : ¬ Fr b := fun hF => by
      rcases (hFr2 b hF).2 with h1 | ⟨id, h1, h2⟩ | h1
      · exact hf h1
      · exact hd id h1 h2
      · omega
    show (if _ then _ else _) = _
    rw [if_neg hx, find_block_none fun hm => hnB (hH4 b hm).1]
    dsimp only
    rw [if_neg (fun ⟨x0, hx0⟩ => hnB (hnp b x0 hx0).1), if_neg (fun hc => hc.elim hnF hnB), if_neg (fun ⟨id, h1, h2⟩ => hd id h1 h2)]
  have hd_H : ∀ p ∈ H, G'.hd p.id = p.v ∧ ∀ j u, p.xs[j]? = some u → G'.inn p.id j = u := fun p hp => by
    have hf := find_name (by rw [hH1]; exact hH2) hp
    refine ⟨?_, fun j u hu => ?_⟩
    · show (match H.find? (fun q => q.id == p.id) with | some p => p.v | none => _) = _
      rw [hf]
    · show (match H.find? (fun q => q.id == p.id) with | some p => p.xs.getD j undef | none => _) = _
      rw [hf]
      simp [hu]
  have hd_old : ∀ id, id ∉ rows.map (·.1) → G'.hd id = G.hd id ∧ ∀ j, G'.inn id j = G.inn id j := fun id hi => by
    have hf := find_name_none (H := H) (id := id) (by rw [hH1]; exact hi)
    refine ⟨?_, fun j => ?_⟩
    · show (match H.find? (fun q => q.id == id) with | some p => p.v | none => _) = _
      rw [hf]
    · show (match H.find? (fun q => q.id == id) with | some p => p.xs.getD j undef | none => _) = _
      rw [hf]
  have bk_old : ∀ x, (∀ b0, np ≠ some (b0, x)) → G'.bk x = G.bk x := fun x hx => by
    show (match np with | some (b0, x0) => if x = x0 then b0 else G.bk x | none => G.bk x) = _
    cases hn : np with
    | none => rfl
    | some q => obtain ⟨b0, x0⟩ := q; exact if_neg fun e => hx b0 (by rw [hn, e])
  have bk_np : ∀ b0 x0, np = some (b0, x0) → G'.bk x0 = b0 := fun b0 x0 hn => by
    show (match np with | some (b0, x1) => if x0 = x1 then b0 else G.bk x0 | none => G.bk x0) = _
    rw [hn]; exact if_pos rfl
  have fz_same : ∀ b, G.who b = .fz → w'.heap[b]? = w.heap[b]? := fun b hb0 => hsame b (h.lt b (by rw [hb0]; simp)) (fun id _ => by rw [hb0]; simp) fun hm => by
    rw [hhb] at hm
    obtain ⟨p, hp, rfl⟩ := List.mem_map.1 hm
    obtain ⟨_, _, h2⟩ := hbl p hp
    rw [hb0] at h2; simp at h2
  have rw_same : ∀ b id, G.who b = .rw id → id ∉ D → w'.heap[b]? = w.heap[b]? ∧ G'.who b = .rw id := fun b id hb0 hi => by
    have hlt := h.lt b (by rw [hb0]; simp)
    have hd : ∀ i ∈ D, G.who b ≠ .rw i := fun i hiD e => by rw [hb0] at e; cases e; exact hi hiD
    refine ⟨hsame b hlt hd fun hm => ?_, by rw [who_old b hlt hd (by rw [hb0]; simp) (by rw [hb0]; simp), hb0]⟩
    rw [hhb] at hm
    obtain ⟨p, hp, rfl⟩ := List.mem_map.1 hm
    obtain ⟨_, _, h2⟩ := hbl p hp
    rw [hb0] at h2; simp at h2
  have bx_same : ∀ b x, G.who b = .bx x → x ∉ bs.map (·.1) → w'.heap[b]? = w.heap[b]? := fun b x hb0 hx => hsame b (h.lt b (by rw [hb0]; simp)) (fun id _ => by rw [hb0]; simp) fun hm => by
    rw [hhb] at hm
    obtain ⟨p, hp, rfl⟩ := List.mem_map.1 hm
    obtain ⟨_, _, h2⟩ := hbl p hp
    rw [hb0] at h2
    cases h2
    exact hx (List.mem_map.2 ⟨p, hp, rfl⟩)
  have row_get : ∀ id r', ((deads S D ++ rows).foldl (fun r p => r.set p.1 p.2) S.rows)[id]? = some r' →
      (∃ p ∈ rows, p.1 = id ∧ p.2 = r') ∨ (∃ r, S.rows[id]? = some r ∧ r'.c = none ∧ r'.ep = r.ep + 1) ∨ (id ∉ D ∧ id ∉ rows.map (·.1) ∧ S.rows[id]? = some r') := by
    intro id r' hr'
    rw [List.foldl_append] at hr'
    rcases fold_get _ _ _ _ hr' with ⟨p, hp, h1, h2⟩ | ⟨h1, h2⟩
    · exact .inl ⟨p, hp, h1, h2⟩
    · rcases fold_get _ _ _ _ h2 with ⟨p, hp, h3, h4⟩ | ⟨h3, h4⟩
      · obtain ⟨q1, _, r, q2, q3⟩ := deads_spec hp
        subst h3; subst h4
        exact .inr (.inl ⟨r, q2, q1, q3⟩)
      · refine .inr (.inr ⟨fun hi => ?_, fun hi => ?_, h4⟩)
        · exact h3 _ (deads_mem hi h4) rfl
        · obtain ⟨p, hp, h5⟩ := List.mem_map.1 hi
          exact h1 p hp h5
  have hrow' : ∀ p ∈ rows, ((deads S D ++ rows).foldl (fun r p => r.set p.1 p.2) S.rows)[p.1]? = some p.2 := by
    intro p hp
    rw [List.foldl_append]
    obtain ⟨r, hr, _⟩ := hrows p hp
    exact fold_mem rows _ hH2 p hp (by rw [fold_len]; exact (List.getElem?_eq_some_iff.1 hr).1)
  have keeps : Keeps w G S.rows S.boxes w' G' ((deads S D ++ rows).foldl (fun r p => r.set p.1 p.2) S.rows) (bx.foldl (fun r p => r.set p.1 p.2) S.boxes) := by
    refine ⟨fun b hb0 => ⟨fr b (hFr1 b hb0), fz_same b hb0⟩, fun id r' hr' => ?_, fun x B' hB' => ?_⟩
    · rcases row_get id r' hr' with ⟨p, hp, rfl, rfl⟩ | ⟨r, hr, h1, h2⟩ | ⟨h1, h2, h3⟩
      · obtain ⟨r, hr, he, hh⟩ := hrows p hp
        exact ⟨r, hr, RowK.new (by omega) hh⟩
      · exact ⟨r, hr, RowK.none (by omega) h1⟩
      · exact ⟨r', h3, RowK.refl r' (hd_old id h2).1 (hd_old id h2).2⟩
    · rcases fold_get _ _ _ _ hB' with ⟨q, hq, rfl, rfl⟩ | ⟨h1, h2⟩
      · rcases hbx q hq with ⟨p, hp, e1, e2, _⟩ | ⟨b0, hn⟩
        · obtain ⟨cs, hcs, _⟩ := hbl p hp
          obtain ⟨B0, hB0, e3, hc⟩ := box_spec hcs
          rw [e1]
          refine ⟨B0, hB0, by omega, fun _ _ => ⟨by simp [hc], bk_old _ fun b0 hn => ?_⟩⟩
          obtain ⟨_, _, _, Bx, _, h5, _⟩ := hnp b0 _ hn
          exact h5 (List.mem_map.2 ⟨p, hp, rfl⟩)
        · obtain ⟨_, _, _, Bx, h4, _, _, h6⟩ := hnp b0 _ hn
          have := h6 q hq rfl
          exact ⟨Bx, h4, by omega, fun e => by omega⟩
      · refine ⟨B', h2, Nat.le_refl _, fun _ hc => ⟨hc, ?_⟩⟩
        refine bk_old x fun b0 hn => ?_
        obtain ⟨_, _, _, Bx, _, _, h5, _⟩ := hnp b0 x hn
        obtain ⟨q, hq, e⟩ := List.mem_map.1 h5
        exact h1 q hq e
  refine ⟨G', keeps, fun d v t ht hr hb => ?_, fr, fun p hp => ⟨(hd_H p hp).1, who_H p hp, (hd_H p hp).2⟩, fun b hb0 h1 h2 h3 => who_fz b (fun ⟨x, hx⟩ => h1 (bx_hb b hb0 x hx)) h2 h3 (.inr hb0), hrow', fun p hp => ?_, fun b0 x0 hn => ⟨bk_np b0 x0 hn, who_np b0 x0 hn⟩⟩
  · refine h.step keeps (fun x B' hB' cs hcs => ?_) (fun id r' hr' => ?_) (fun b hb0 => ?_) ?_ (fun b hb0 => ?_) ht d
    · rcases fold_get _ _ _ _ hB' with ⟨q, hq, rfl, rfl⟩ | ⟨h1, h2⟩
      · exact hb q hq cs hcs
      · have hbox := h.box x B' h2 cs hcs
        have hx : x ∉ bs.map (·.1) := fun hm => by
          obtain ⟨p, hp, rfl⟩ := List.mem_map.1 hm
          obtain ⟨q, hq, e⟩ := List.mem_map.1 (hbs p hp)
          exact h1 q hq e
        refine hbox.keep keeps (bk_old x fun b0 hn => ?_) (by rw [who_bx _ _ hbox.1, hbox.1]) (bx_same _ _ hbox.1 hx)
        obtain ⟨_, _, _, Bx, _, _, h5, _⟩ := hnp b0 x hn
        obtain ⟨q, hq, e⟩ := List.mem_map.1 h5
        exact h1 q hq e
    · rcases row_get id r' hr' with ⟨p, hp, rfl, rfl⟩ | ⟨r, hr0, h1, h2⟩ | ⟨h1, h2, h3⟩
      · exact hr p hp
      · intro c hc; rw [h1] at hc; cases hc
      · exact (h.row id r' h3).keep keeps (hd_old id h2).1 (fun b hb0 => (rw_same b id hb0 h1).2) (fun b hb0 => (rw_same b id hb0 h1).1) (hd_old id h2).2
    · -- below the heap's size
      by_cases h1 : ∃ x, G.who b = .bx x
      · obtain ⟨x, hx⟩ := h1
        exact Nat.lt_of_lt_of_le (h.lt b (by rw [hx]; simp)) hkp.2.2.2
      · by_cases h2 : b ∈ B
        · exact (hBf b h2).2.1
        · by_cases h3 : Fr b
          · exact (hFr2 b h3).1
          · have hw : G'.who b = if (∃ id ∈ D, G.who b = .rw id) then .ot else G.who b := by
              show (if _ then _ else _) = _
              rw [if_neg h1, find_block_none fun hm => h2 (hH4 b hm).1]
              dsimp only
              rw [if_neg (fun ⟨x0, hx0⟩ => h2 (hnp b x0 hx0).1), if_neg (fun hc => hc.elim h3 h2)]
            rw [hw] at hb0
            split at hb0
            · exact absurd rfl hb0
            · exact Nat.lt_of_lt_of_le (h.lt b hb0) hkp.2.2.2
    · refine h.kp.trans (p' := prot.p) ⟨hkp.1, hkp.2.1, hkp.2.2.1, hkp.2.2.2, fun b hb0 => ?_⟩ fun _ hx => hx
      have hl := Nat.lt_of_lt_of_le (h.prl b hb0) h.kp.size
      have hw := h.pr b hb0
      refine hsame b hl (fun id _ e => by rcases hw with ⟨e1, _⟩ | ⟨e1, _⟩ <;> (rw [e] at e1; simp at e1)) fun hm => ?_
      rw [hhb] at hm
      obtain ⟨p, hp, rfl⟩ := List.mem_map.1 hm
      obtain ⟨_, _, h2⟩ := hbl p hp
      rcases hw with ⟨e1, _⟩ | ⟨e1, _⟩ <;> (rw [h2] at e1; simp at e1)
    · have hl := Nat.lt_of_lt_of_le (h.prl b hb0) h.kp.size
      rcases h.pr b hb0 with ⟨hw, hf⟩ | ⟨hw, hf⟩
      · exact .inl ⟨fr b (hFr1 b hw), hf⟩
      · by_cases h3 : Fr b
        · exfalso
          rcases (hFr2 b h3).2 with e | ⟨id, _, e⟩ | e
          · rw [show G.who b = .fz from e] at hw; simp at hw
          · rw [hw] at e; simp at e
          · omega
        · exact .inr (And.intro (b := ¬ prot.f b) (by
            rw [who_old b hl (fun id _ e => by rw [hw] at e; simp at e) (by rw [hw]; simp) (by rw [hw]; simp), hw]) hf)
  · have hn : ∀ b0, np ≠ some (b0, p.1) := fun b0 hn => by
      obtain ⟨_, _, _, Bx, _, h5, _⟩ := hnp b0 _ hn
      exact h5 (List.mem_map.2 ⟨p, hp, rfl⟩)
    obtain ⟨_, _, h2⟩ := hbl p hp
    exact ⟨bk_old _ hn, who_bx _ _ h2⟩
end Go.Proofs.YtkencmgcibbfaaaE

/- A call of a function that is told by its answers. Conditions: none. -/
set_option linter.unusedVariables false
namespace Go.Proofs.YtkencmgcibbfaaaE
open Go Go.RowKit
theorem ACs_flat {w : World} {F F0 : Nat → Prop} : ∀ {as : List AC} {xs : List Value} {B : List Nat}, flatAC as = true → ACs w F xs as B → ACs w F0 xs as B
  | [], [], _, _, h => h
  | [], _ :: _, _, _, h => h.elim
  | _ :: _, [], _, _, h => h.elim
  | c :: as, x :: xs, B, hf, h => by
    obtain ⟨B1, B2, h1, h2, h3⟩ := h
    simp only [flatAC, List.all_cons, Bool.and_eq_true] at hf
    refine ⟨B1, B2, ?_, ACs_flat (by simpa [flatAC] using hf.2) h2, h3⟩
    cases c with
    | own c => simp at hf
    | d y =>
      cases y with
      | r k l => simp at hf
      | i k n => obtain ⟨h4, h5⟩ := h1; cases h4; exact ⟨Rd.i _ _, h5⟩
      | b n => obtain ⟨h4, h5⟩ := h1; cases h4; exact ⟨Rd.b _, h5⟩
theorem ArgsR_flat {w : World} {F F0 : Nat → Prop} : ∀ {as : List Arg} {vs : List Value} {B hb : List Nat}, (as.all fun | .v _ cs => flatAC cs | .p cs => flatAC cs) = true → ArgsR w F vs as B hb → ArgsR w F0 vs as B hb
  | [], [], _, _, _, h => h
  | [], _ :: _, _, _, _, h => h.elim
  | _ :: _, [], _, _, _, h => h.elim
  | x :: as, v :: vs, B, hb, hf, h => by
    obtain ⟨B1, B2, h1, h2, h3, h4, h5, h6⟩ := h
    simp only [List.all_cons, Bool.and_eq_true] at hf
    refine ⟨B1, B2, h1, h2, ?_, ArgsR_flat hf.2 h4, h5, h6⟩
    cases x with
    | v g cs => obtain ⟨xs, q1, q2, q3, q4, q5⟩ := h3; exact ⟨xs, q1, q2, q3, ACs_flat hf.1 q4, q5⟩
    | p cs => obtain ⟨b, arr, ty, B1', q1, q2, q3, q4⟩ := h3; exact ⟨b, arr, ty, B1', q1, q2, ACs_flat hf.1 q3, q4⟩
theorem DCs_free {w : World} {F F0 : Nat → Prop} : ∀ {n : Nat} {vs : List Value} {ds : List D} {B : List Nat}, (∀ x ∈ ds, isRow x = false ∨ ∃ l, x = .r .u8 l) → (∀ (j : Nat) x, n ≤ j → ds[j]? = some x → isRow x = false) → DCs w F n vs ds B → DCs w F0 n vs ds B
  | 0, vs, ds, B, h1, h2, h => by
    refine ⟨F2.of_get h.1.len fun i a b ha hb => ?_, h.2⟩
    obtain ⟨u, e1, e2⟩ := h.1.get i b hb
    rw [ha] at e1; cases e1
    have := h2 i b (Nat.zero_le _) hb
    cases e2 with
    | i k x => exact .i k x
    | b x => exact .b x
    | nil => simp [isRow] at this
    | row => simp [isRow] at this
  | n + 1, v :: vs, x :: ds, B, h1, h2, h => by
    obtain ⟨B1, B2, e1, e2, e3⟩ := h
    refine ⟨B1, B2, ?_, DCs_free (fun y hy => h1 y (List.mem_cons_of_mem _ hy)) (fun j y hj hy => h2 (j + 1) y (by omega) (by simpa using hy)) e2, e3⟩
    rcases h1 x List.mem_cons_self with hx | ⟨l, rfl⟩
    · cases x with
      | i k y => obtain ⟨e4, e5⟩ := e1; cases e4; exact ⟨.i _ _, e5⟩
      | b y => obtain ⟨e4, e5⟩ := e1; cases e4; exact ⟨.b _, e5⟩
      | r k l => simp [isRow] at hx
    · obtain ⟨⟨ys, q1, q2⟩, e5⟩ := e1
      refine ⟨⟨ys, q1, ?_⟩, e5⟩
      refine F2.of_get q2.len fun i a b ha hb => ?_
      obtain ⟨u, e1, e2⟩ := q2.get i b hb
      rw [ha] at e1; cases e1
      have hm : b ∈ flat .u8 l := List.mem_of_getElem? hb
      obtain ⟨y, _, hy⟩ := List.mem_flatMap.1 hm
      have : b = .i .u8 y := by
        have hy' : b ∈ [D.i .u8 y] := hy
        exact List.mem_singleton.1 hy'
      subst this
      cases e2
      exact .i _ _
  | _ + 1, [], _, _, _, _, h => by cases ‹List D› <;> exact h.elim
  | _ + 1, _ :: _, [], _, _, _, h => h.elim
theorem row_u8 {k : RK} (hk : k = .part ∨ k = .frm ∨ k = .byr ∨ k = .netm ∨ k = .u8 ∨ k = .i64) (l : List k.El) : ∀ x ∈ flat k l, isRow x = false ∨ ∃ l, x = .r .u8 l := fun x hx => by
  obtain ⟨y, _, hy⟩ := List.mem_flatMap.1 hx
  rcases hk with rfl | rfl | rfl | rfl | rfl | rfl
  · change x ∈ [D.i .i64 y.seg, .i .i64 y.len, .r .u8 y.data] at hy
    simp only [List.mem_cons, List.not_mem_nil, or_false] at hy
    rcases hy with rfl | rfl | rfl
    · exact .inl rfl
    · exact .inl rfl
    · exact .inr ⟨_, rfl⟩
  · change x ∈ [D.i .i64 y.kind, .i .i64 y.seq, .i .i64 y.ack, .b y.poll, .b y.final, .i .i64 y.say, .i .i64 y.seg, .i .i64 y.len, .r .u8 y.data] at hy
    simp only [List.mem_cons, List.not_mem_nil, or_false] at hy
    rcases hy with rfl | rfl | rfl | rfl | rfl | rfl | rfl | rfl | rfl
    all_goals first | exact .inl rfl | exact .inr ⟨_, rfl⟩
  · change x ∈ [D.r .u8 y] at hy
    rw [List.mem_singleton] at hy
    exact .inr ⟨_, hy⟩
  · change x ∈ [D.b y.bent, .r .u8 y.bytes] at hy
    simp only [List.mem_cons, List.not_mem_nil, or_false] at hy
    rcases hy with rfl | rfl
    · exact .inl rfl
    · exact .inr ⟨_, rfl⟩
  · change x ∈ [D.i .u8 y] at hy
    rw [List.mem_singleton] at hy
    subst hy; exact .inl rfl
  · change x ∈ [D.i .i64 y] at hy
    rw [List.mem_singleton] at hy
    subst hy; exact .inl rfl
theorem row_num {k : RK} (hk : k = .u8 ∨ k = .i64) (l : List k.El) : ∀ x ∈ flat k l, isRow x = false := fun x hx => by
  obtain ⟨y, _, hy⟩ := List.mem_flatMap.1 hx
  rcases hk with rfl | rfl
  · change x ∈ [D.i .u8 y] at hy
    rw [List.mem_singleton] at hy
    subst hy; rfl
  · change x ∈ [D.i .i64 y] at hy
    rw [List.mem_singleton] at hy
    subst hy; rfl
/-- A row of one's own that is free of what others hold. -/
theorem OwnR.free {w : World} {F F0 : Nat → Prop} {v : Value} {c : RC} {B : List Nat} (hf : ownFree c = true) (hd : ∀ d, c.m.d = some d → d = c.l.length) (h : OwnR w F v c B) : OwnR w F0 v c B := by
  obtain ⟨xs, h1, Bi, h2, h3⟩ := h
  have hp : c.m.p = false := by
    unfold ownFree at hf
    split at hf <;> first | assumption | cases hf
  refine ⟨xs, ?_, Bi, ?_, h3⟩
  · unfold outC at h1 ⊢
    rw [hp] at h1 ⊢
    exact h1
  · have hk : (c.k = .u8 ∨ c.k = .i64) ∨ ((c.k = .part ∨ c.k = .frm ∨ c.k = .byr ∨ c.k = .netm) ∧ c.m.d = some c.l.length) := by
      unfold ownFree at hf
      split at hf
      all_goals first
        | (cases hf; done)
        | (exact .inl (.inl (by assumption)))
        | (exact .inl (.inr (by assumption)))
        | (rename_i hk hd'; exact .inr ⟨by simp [hk], by rw [hd', hd _ hd']⟩)
    refine DCs_free (row_u8 ?_ c.l) (fun j x hj hx => ?_) h2
    · rcases hk with (hk | hk) | ⟨hk | hk | hk | hk, _⟩ <;> simp [hk]
    · rcases hk with hk | ⟨_, hk⟩
      · exact row_num hk c.l x (List.mem_of_getElem? hx)
      · exfalso
        have hlen := (List.getElem?_eq_some_iff.1 hx).1
        rw [flat_len] at hlen
        have : c.dn = c.l.length * c.k.size := by unfold RC.dn; rw [hk]; rfl
        omega
def acsD (cs : List AC) : Prop := ∀ c, AC.own c ∈ cs → ∀ d, c.m.d = some d → d = c.l.length
theorem acsQ_ok : ∀ {cs : List AC} {K : Prop}, acsQ cs K → acsD cs ∧ K
  | [], K, h => ⟨fun c hc => by (cases hc), h⟩
  | .d x :: cs, K, h => by
    obtain ⟨h1, h2⟩ := acsQ_ok (cs := cs) h
    refine ⟨fun c hc => ?_, h2⟩
    rcases List.mem_cons.1 hc with hc | hc
    · cases hc
    · exact h1 c hc
  | .own c0 :: cs, K, h => by
    have h' : ownQ c0 (acsQ cs K) := h
    have key : (∀ d, c0.m.d = some d → d = c0.l.length) ∧ acsQ cs K := by
      unfold ownQ at h'
      split at h'
      · rename_i d hd
        refine ⟨fun d' hd' => ?_, h'.2⟩
        rw [hd] at hd'
        cases hd'
        exact h'.1
      · rename_i hd
        exact ⟨fun d' hd' => (by rw [hd] at hd'; cases hd'), h'⟩
    obtain ⟨h1, h2⟩ := acsQ_ok key.2
    refine ⟨fun c hc => ?_, h2⟩
    rcases List.mem_cons.1 hc with hc | hc
    · cases hc; exact key.1
    · exact h1 c hc
theorem argsQ_ok : ∀ {rs : List Arg} {K : Prop}, argsQ rs K → (∀ a ∈ rs, acsD (pcells a)) ∧ K
  | [], K, h => ⟨fun c hc => by (cases hc), h⟩
  | .v g cs :: rs, K, h => by
    obtain ⟨h1, h2⟩ := acsQ_ok (cs := cs) h
    obtain ⟨h3, h4⟩ := argsQ_ok h2
    refine ⟨fun c hc => ?_, h4⟩
    rcases List.mem_cons.1 hc with hc | hc
    · subst hc; exact h1
    · exact h3 c hc
  | .p cs :: rs, K, h => by
    obtain ⟨h1, h2⟩ := acsQ_ok (cs := cs) h
    obtain ⟨h3, h4⟩ := argsQ_ok h2
    refine ⟨fun c hc => ?_, h4⟩
    rcases List.mem_cons.1 hc with hc | hc
    · subst hc; exact h1
    · exact h3 c hc
theorem listQ_ok : ∀ {rs : List (List AC)} {K : Prop}, listQ rs K → (∀ a ∈ rs, acsD a) ∧ K
  | [], K, h => ⟨fun c hc => by (cases hc), h⟩
  | cs :: rs, K, h => by
    obtain ⟨h1, h2⟩ := acsQ_ok (cs := cs) h
    obtain ⟨h3, h4⟩ := listQ_ok h2
    refine ⟨fun c hc => ?_, h4⟩
    rcases List.mem_cons.1 hc with hc | hc
    · subst hc; exact h1
    · exact h3 c hc
theorem freeQ_ok {rs : List Arg} {bs : List (List AC)} {K : Prop} (h : freeQ rs bs K) : (freeRes rs bs = true → (∀ a ∈ rs, acsD (pcells a)) ∧ ∀ a ∈ bs, acsD a) ∧ K := by
  unfold freeQ at h
  split at h
  · obtain ⟨h1, h2⟩ := argsQ_ok h
    obtain ⟨h3, h4⟩ := listQ_ok h2
    exact ⟨fun _ => ⟨h1, h3⟩, h4⟩
  · rename_i hf
    exact ⟨fun hc => (by rw [hf] at hc; cases hc), h⟩
theorem acsQ_mono : ∀ {cs : List AC} {K K' : Prop}, (K → K') → acsQ cs K → acsQ cs K'
  | [], K, K', hm, h => hm h
  | .d x :: cs, K, K', hm, h => acsQ_mono (cs := cs) hm h
  | .own c0 :: cs, K, K', hm, h => by
    have h' : ownQ c0 (acsQ cs K) := h
    show ownQ c0 (acsQ cs K')
    unfold ownQ at h' ⊢
    split at h'
    · rename_i d hd
      exact ⟨h'.1, acsQ_mono hm h'.2⟩
    · rename_i hd
      exact acsQ_mono hm h'
theorem argsQ_mono : ∀ {rs : List Arg} {K K' : Prop}, (K → K') → argsQ rs K → argsQ rs K'
  | [], K, K', hm, h => hm h
  | .v g cs :: rs, K, K', hm, h => acsQ_mono (cs := cs) (argsQ_mono hm) h
  | .p cs :: rs, K, K', hm, h => acsQ_mono (cs := cs) (argsQ_mono hm) h
theorem listQ_mono : ∀ {rs : List (List AC)} {K K' : Prop}, (K → K') → listQ rs K → listQ rs K'
  | [], K, K', hm, h => hm h
  | cs :: rs, K, K', hm, h => acsQ_mono (cs := cs) (listQ_mono hm) h
theorem freeQ_mono {rs : List Arg} {bs : List (List AC)} {K K' : Prop} (hm : K → K') (h : freeQ rs bs K) : freeQ rs bs K' := by
  unfold freeQ at h ⊢
  split at h
  · exact argsQ_mono (listQ_mono hm) h
  · exact hm h
theorem ACs_free {w : World} {F F0 : Nat → Prop} : ∀ {as : List AC} {xs : List Value} {B : List Nat}, freeAC as = true → acsD as → ACs w F xs as B → ACs w F0 xs as B
  | [], [], _, _, _, h => h
  | [], _ :: _, _, _, _, h => h.elim
  | _ :: _, [], _, _, _, h => h.elim
  | c :: as, x :: xs, B, hf, hd, h => by
    obtain ⟨B1, B2, h1, h2, h3⟩ := h
    simp only [freeAC, List.all_cons, Bool.and_eq_true] at hf
    refine ⟨B1, B2, ?_, ACs_free (by simpa [freeAC] using hf.2) (fun c hc => hd c (List.mem_cons_of_mem _ hc)) h2, h3⟩
    cases c with
    | own c => exact OwnR.free hf.1 (hd c List.mem_cons_self) h1
    | d y =>
      cases y with
      | r k l => simp at hf
      | i k n => obtain ⟨h4, h5⟩ := h1; cases h4; exact ⟨Rd.i _ _, h5⟩
      | b n => obtain ⟨h4, h5⟩ := h1; cases h4; exact ⟨Rd.b _, h5⟩
theorem ArgsR_free {w : World} {F F0 : Nat → Prop} : ∀ {as : List Arg} {vs : List Value} {B hb : List Nat}, (as.all fun | .v _ cs => freeAC cs | .p cs => freeAC cs) = true → (∀ a ∈ as, acsD (pcells a)) → ArgsR w F vs as B hb → ArgsR w F0 vs as B hb
  | [], [], _, _, _, _, h => h
  | [], _ :: _, _, _, _, _, h => h.elim
  | _ :: _, [], _, _, _, _, h => h.elim
  | x :: as, v :: vs, B, hb, hf, hd, h => by
    obtain ⟨B1, B2, h1, h2, h3, h4, h5, h6⟩ := h
    simp only [List.all_cons, Bool.and_eq_true] at hf
    refine ⟨B1, B2, h1, h2, ?_, ArgsR_free hf.2 (fun a ha => hd a (List.mem_cons_of_mem _ ha)) h4, h5, h6⟩
    cases x with
    | v g cs => obtain ⟨xs, q1, q2, q3, q4, q5⟩ := h3; exact ⟨xs, q1, q2, q3, ACs_free hf.1 (hd _ List.mem_cons_self) q4, q5⟩
    | p cs => obtain ⟨b, arr, ty, B1', q1, q2, q3, q4⟩ := h3; exact ⟨b, arr, ty, B1', q1, q2, ACs_free hf.1 (hd _ List.mem_cons_self) q3, q4⟩
theorem args_split {w : World} {F : Nat → Prop} : ∀ {as as2 : List Arg} {vs vs2 : List Value} {B hb : List Nat}, vs.length = as.length → ArgsR w F (vs ++ vs2) (as ++ as2) B hb → ∃ B1 B2 h1 h2, ArgsR w F vs as B1 h1 ∧ ArgsR w F vs2 as2 B2 h2 ∧ B = B1 ++ B2 ∧ hb = h1 ++ h2
  | [], as2, [], vs2, B, hb, _, h => ⟨[], B, [], hb, ⟨rfl, rfl⟩, h, rfl, rfl⟩
  | [], _, _ :: _, _, _, _, hl, _ => by simp at hl
  | _ :: _, _, [], _, _, _, hl, _ => by simp at hl
  | x :: as, as2, v :: vs, vs2, B, hb, hl, h => by
    obtain ⟨B1, B2, h1, h2, h3, h4, rfl, rfl⟩ := h
    obtain ⟨B3, B4, h5, h6, h7, h8, rfl, rfl⟩ := args_split (by simpa using hl) h4
    exact ⟨B1 ++ B3, B4, h1 ++ h5, h6, ⟨B1, B3, h1, h5, h3, h7, rfl, rfl⟩, h8, by simp, by simp⟩
theorem oc_dat (S : St) : ∀ c : List AC, OC S false [] c (datCells c) [] []
  | [] => .nil _
  | x :: c => .dat (oc_dat S c)
theorem boxes_ok {G : Gh} {w' : World} {Fr : Nat → Prop} : ∀ {bs : List (Nat × Nat)} {cs : List (List AC)} {bx : List (Nat × Box)} {B h : List Nat}, boxesT bs cs = some bx → ArgsR w' Fr (bs.map fun p => ptrV (G.bk p.1)) (cs.map .p) B h →
    bx.map (·.1) = bs.map (·.1) ∧ (∀ p ∈ bs, G.bk p.1 ∈ B) ∧ ∀ q ∈ bx, ∃ p ∈ bs, q.1 = p.1 ∧ q.2.ep = p.2 ∧ ∃ (c : List AC) (arr : List Value) (ty : TypeId) (Bi : List Nat), q.2.c = some (datCells c) ∧ w'.heap[G.bk p.1]? = some (.cells arr.toArray ty (0, 0)) ∧ ACs w' Fr arr c Bi ∧
      (∀ b ∈ Bi, b ∈ B) ∧ (B.Nodup → Bi.Nodup ∧ ∀ p' ∈ bs, G.bk p'.1 ∉ Bi)
  | [], [], bx, B, h, hb, ha => by
    simp only [boxesT, Option.some.injEq] at hb
    subst hb
    exact ⟨rfl, fun p hp => (by cases hp), fun q hq => (by cases hq)⟩
  | [], _ :: _, _, _, _, hb, _ => by simp [boxesT] at hb
  | _ :: _, [], _, _, _, hb, _ => by simp [boxesT] at hb
  | (b, ep) :: bs, c :: cs, bx, B, h, hb, ha => by
    simp only [boxesT] at hb
    split at hb
    · rename_i r hr
      cases hb
      obtain ⟨B1, B2, h1, h2, ⟨b0, arr, ty, Bi, q1, q2, q3, q4, q5⟩, ha2, rfl, rfl⟩ := ha
      cases q1
      obtain ⟨i1, i2, i3⟩ := boxes_ok hr ha2
      subst q4
      refine ⟨by simp [i1], fun p hp => ?_, fun q hq => ?_⟩
      · rcases List.mem_cons.1 hp with rfl | hp
        · simp
        · exact List.mem_append_right _ (i2 p hp)
      · rcases List.mem_cons.1 hq with rfl | hq
        · refine ⟨(b, ep), by simp, rfl, rfl, c, arr, ty, Bi, rfl, q2, q3, fun x hx => by simp [hx], fun hn => ?_⟩
          obtain ⟨n1, n2, n3⟩ := List.nodup_append.1 hn
          obtain ⟨n4, n5⟩ := List.nodup_cons.1 n1
          refine ⟨n5, fun p' hp' hm => ?_⟩
          rcases List.mem_cons.1 hp' with rfl | hp'
          · exact n4 hm
          · exact n3 _ (List.mem_cons_of_mem _ hm) _ (i2 p' hp') rfl
        · obtain ⟨p, hp, e1, e2, c', arr', ty', Bi', e3, e4, e5, e6, e7⟩ := i3 q hq
          refine ⟨p, by simp [hp], e1, e2, c', arr', ty', Bi', e3, e4, e5, fun x hx => List.mem_append_right _ (e6 x hx), fun hn => ?_⟩
          obtain ⟨n1, n2, n3⟩ := List.nodup_append.1 hn
          obtain ⟨n4, n5⟩ := e7 n2
          refine ⟨n4, fun p' hp' hm => ?_⟩
          rcases List.mem_cons.1 hp' with rfl | hp'
          · exact n3 _ (by simp) _ (e6 _ hm) rfl
          · exact n5 p' hp' hm
    · simp at hb
theorem OC_rows {S : St} {dp : Bool} {ids : List Nat} {as : List AC} {cs : List Cm} {rs : List (Nat × Row)} {is : List Nat} (h : OC S dp ids as cs rs is) : ∀ p ∈ rs, ∃ r, S.rows[p.1]? = some r ∧ p.2.ep = r.ep + 1 ∧ ∀ c, p.2.c = some c → c.m.h = false := by
  induction h with
  | nil => intro p hp; cases hp
  | own hr _ ih =>
    intro p hp
    rcases List.mem_cons.1 hp with rfl | hp
    · exact ⟨_, hr, rfl, fun c hc => by cases hc; rfl⟩
    · exact ih p hp
  | dat _ ih => exact ih
theorem RT_rows {S : St} {dp : Bool} {ids : List Nat} {rs : List Arg} {l : List (Bool × List Cm)} {rows : List (Nat × Row)} (h : RT S dp ids rs l rows) : ∀ p ∈ rows, ∃ r, S.rows[p.1]? = some r ∧ p.2.ep = r.ep + 1 ∧ ∀ c, p.2.c = some c → c.m.h = false := by
  induction h with
  | nil => intro p hp; cases hp
  | cons ho _ ih =>
    intro p hp
    rcases List.mem_append.1 hp with hp | hp
    · exact OC_rows ho p hp
    · exact ih p hp
theorem tup_tr {w : World} {G : Gh} {rows : List Row} {bs : List Box} : ∀ {vs : List Value} {l : List (Bool × List Cm)}, F2 (fun v (p : Bool × List Cm) => VR w G rows v p.1 p.2) vs l → TR w G rows bs (retV vs) (tupT l) := by
  intro vs l h
  cases h with
  | nil => exact ⟨[], rfl, .nil⟩
  | @cons v p vs l h1 h2 =>
    cases h2 with
    | nil => obtain ⟨g, cs⟩ := p; exact h1
    | @cons v2 p2 vs l h2 h3 => exact ⟨_, rfl, .cons h1 (.cons h2 h3)⟩
section
variable {P : Program} {V : Env} {w0 : World} {prot : Pro} {S : St} {G : Gh} {a : Act} {w : World}
theorem uncl_ok (h : Inv w0 prot S G a w) {cl : Option (Nat × Bool)} : ∀ {ts ts' : List T} {vs : List Value}, F2 (TR w G S.rows S.boxes) vs ts → uncl S cl ts = some ts' →
    ∃ vs', F2 (TR w G S.rows S.boxes) vs' ts' ∧ vs = wrapV cl vs' ∧ (∀ f, cl = some (f, true) → vs' ≠ []) := by
  intro ts
  induction ts with
  | nil =>
    intro ts' vs hf hu
    cases cl with
    | none => simp only [uncl, Option.some.injEq] at hu; subst hu; exact ⟨vs, hf, (wrapV_none vs).symm, fun f e => by cases e⟩
    | some p => simp [uncl] at hu
  | cons t ts ih =>
    intro ts' vs hf hu
    cases cl with
    | none => simp only [uncl, Option.some.injEq] at hu; subst hu; exact ⟨vs, hf, (wrapV_none vs).symm, fun f e => by cases e⟩
    | some p =>
      obtain ⟨f, cap⟩ := p
      cases hf with
      | cons h1 h2 =>
        unfold uncl at hu
        split at hu
        · simp at *
        · simp at *
        · rename_i heq hts
          cases heq
          cases hts
          cases h2
          split at hu
          · rename_i cs hcs
            split at hu
            · rename_i hff
              subst hff
              simp only [Option.some.injEq] at hu
              subst hu
              obtain ⟨B, hB, hep, hBc⟩ := box_spec hcs
              have hv := (h1 B hB).2 hep (by rw [hBc]; rfl)
              refine ⟨[ptrV (G.bk _)], .cons (fun B' hB' => ?_) .nil, by rw [hv]; rfl, fun _ _ => by simp⟩
              rw [hB] at hB'; cases hB'
              exact ⟨Nat.le_of_eq hep, fun _ _ => rfl⟩
            · simp at hu
          · simp at hu
        · rename_i heq hts
          cases heq
          cases hts
          cases h2
          split at hu
          · rename_i hff
            subst hff
            simp only [Option.some.injEq] at hu
            subst hu
            exact ⟨[], .nil, by rw [show _ = _ from h1]; rfl, fun _ e => by cases e⟩
          · simp at hu
        · rename_i heq1 heq2
          cases heq1
          cases heq2
          split at hu
          · rename_i r hr
            simp only [Option.some.injEq] at hu
            subst hu
            obtain ⟨vs', e1, e2, e3⟩ := ih h2 hr
            refine ⟨_ :: vs', .cons h1 e1, ?_, fun _ _ => by simp⟩
            subst e2
            cases cap with
            | false => simp [wrapV_false]
            | true =>
              cases vs' with
              | nil => exact absurd rfl (e3 f rfl)
              | cons x xs => exact (wrapV_cons f _ x xs).symm
          · simp at hu
theorem callC_ok (hC : CallsOk P V) (h : Inv w0 prot S G a w) {f : Nat} {E : Ent} (hE : look f V.calls = some E) {d : Option Nat} {ts : List T} {vs : List Value} (hts : F2 (TR w G S.rows S.boxes) vs ts) {K : Outc → Prop} (hk : callC V S d E ts K) :
    Calls P f (wrapV E.clo vs).toArray w fun e w' => ∃ v, e = .returned v ∧ After w0 prot S d K (a.put d v) w' := by
  unfold callC at hk
  split at hk
  · rename_i as ls gs bs hargs
    obtain ⟨hnd, hF⟩ := hk
    simp only [Bool.and_eq_true] at hnd
    obtain ⟨n1, n2, n3⟩ := List.nodup_append.1 (nodupB_spec hnd.1)
    have n4 := nodupB_spec hnd.2
    obtain ⟨B, hb, r1, r2, r3, r4, r5, r6, r7, r8⟩ := argsT_ok h E.own ls hts hargs fun _ hi => hi
    have lentlt : ∀ b, lent G ls b → b < w.heap.size := fun b hb0 => by
      rcases hb0 with h1 | ⟨id, _, h1⟩ <;> exact h.lt b (by rw [h1]; simp)
    have Btag : ∀ b ∈ B, (∃ id ∈ gs, G.who b = .rw id) ∨ (b ∈ hb ∧ ∃ p ∈ bs, b = G.bk p.1 ∧ G.who b = .bx p.1) := fun b hb0 => by
      rcases r3 b hb0 with h1 | h1
      · exact .inl h1
      · refine .inr ⟨h1, ?_⟩
        rw [r2] at h1
        obtain ⟨p, hp, rfl⟩ := List.mem_map.1 h1
        obtain ⟨_, _, h2⟩ := r8 p hp
        exact ⟨p, hp, rfl, h2⟩
    refine ((hC f E hE).2 w (lent G ls) vs as B hb _ r1 (r5 n2 n4) (fun b hb0 => ?_) lentlt hF).mono ?_
    · rcases Btag b hb0 with ⟨id, hid, h1⟩ | ⟨_, p, _, _, h1⟩
      · refine ⟨fun h2 => ?_, h.lt b (by rw [h1]; simp)⟩
        rcases h2 with h2 | ⟨id', hid', h2⟩
        · rw [h1] at h2; simp at h2
        · rw [h1] at h2; cases h2; exact n3 id hid' id hid rfl
      · refine ⟨fun h2 => ?_, h.lt b (by rw [h1]; simp)⟩
        rcases h2 with h2 | ⟨id', hid', h2⟩ <;> (rw [h1] at h2; simp at h2)
    · rintro e w' ⟨rv, rs, cs, F', B', hb', rfl, hK, hR, hlen, hn', hB', hF1, hF2, hkp⟩
      refine ⟨_, rfl, ?_⟩
      have hQ := (freeQ_ok hK).1
      replace hK := (freeQ_ok hK).2
      split at hK
      · rename_i bx hbx
        obtain ⟨B1, B2, h1, h2, hR1, hR2, rfl, rfl⟩ := args_split hlen hR
        obtain ⟨m1, m2, m3⟩ := List.nodup_append.1 hn'
        rw [r2, List.map_map] at hR2
        -- flat or not
        let flat := freeRes rs cs
        let D : List Nat := bif flat then gs else ls ++ gs
        let Fr : Nat → Prop := if flat = true then G.F else F'
        have hGF : ∀ b, G.F b → F' b := fun b hb0 => hF1 b (.inl hb0)
        have gsD : ∀ id ∈ gs, id ∈ D := fun id hi => by show id ∈ (bif flat then gs else ls ++ gs); cases flat <;> simp [hi]
        have DD : ∀ id ∈ D, id ∈ ls ∨ id ∈ gs := fun id hi => by
          have hi' : id ∈ (bif flat then gs else ls ++ gs) := hi
          cases hfl : flat with
          | true => rw [hfl] at hi'; exact .inr hi'
          | false => rw [hfl] at hi'; exact List.mem_append.1 hi'
        have hR1' : ArgsR w' Fr rv rs B1 h1 := by
          show ArgsR w' (if flat = true then G.F else F') rv rs B1 h1
          split
          · rename_i hfl
            have hfl' : freeRes rs cs = true := hfl
            have hq := hQ hfl'
            simp only [freeRes, Bool.and_eq_true] at hfl'
            exact ArgsR_free hfl'.1 hq.1 hR1
          · exact hR1
        have hR2' : ArgsR w' Fr (bs.map fun p => ptrV (G.bk p.1)) (cs.map .p) B2 h2 := by
          show ArgsR w' (if flat = true then G.F else F') _ _ B2 h2
          split
          · rename_i hfl
            have hfl' : freeRes rs cs = true := hfl
            have hq := hQ hfl'
            simp only [freeRes, Bool.and_eq_true] at hfl'
            refine ArgsR_free ?_ (fun x hx => ?_) hR2
            · have := hfl'.2
              rw [List.all_eq_true] at this ⊢
              intro x hx
              obtain ⟨c, hc, rfl⟩ := List.mem_map.1 hx
              exact this c hc
            · obtain ⟨c, hc, rfl⟩ := List.mem_map.1 hx
              exact hq.2 c hc
          · exact hR2
        obtain ⟨b1, b2, b3⟩ := boxes_ok hbx hR2'
        have hbB : ∀ b ∈ hb, b ∈ B2 := fun b hb0 => by
          rw [r2] at hb0
          obtain ⟨p, hp, rfl⟩ := List.mem_map.1 hb0
          exact b2 p hp
        have cFr1 : ∀ b, G.F b → Fr b := fun b hb0 => by
          show (if flat = true then G.F else F') b
          split
          · exact hb0
          · exact hGF b hb0
        have FrF : ∀ b, Fr b → F' b := fun b hb0 => by
          have hb1 : (if flat = true then G.F else F') b := hb0
          split at hb1
          · exact hGF b hb1
          · exact hb1
        have cFr2 : ∀ b, Fr b → b < w'.heap.size ∧ (G.F b ∨ (∃ id ∈ D, G.who b = .rw id) ∨ w.heap.size ≤ b) := fun b hb0 => by
          refine ⟨(hF2 b (FrF b hb0)).1, ?_⟩
          have hb1 : (if flat = true then G.F else F') b := hb0
          split at hb1
          · exact .inl hb1
          · rename_i hfl
            have hD : D = ls ++ gs := by show (bif flat then gs else ls ++ gs) = _; rw [Bool.not_eq_true] at hfl; rw [hfl]; rfl
            rcases (hF2 b hb1).2 with h3 | h3 | h3
            · rcases h3 with h3 | ⟨id, hid, h3⟩
              · exact .inl h3
              · exact .inr (.inl ⟨id, by rw [hD]; simp [hid], h3⟩)
            · rcases Btag b h3 with ⟨id, hid, h4⟩ | ⟨h4, _⟩
              · exact .inr (.inl ⟨id, gsD id hid, h4⟩)
              · exact absurd hb1 (hB' b (List.mem_append_right _ (hbB b h4))).1
            · exact .inr (.inr h3)
        have cB : ∀ b ∈ B1 ++ B2, ¬ Fr b ∧ b < w'.heap.size ∧ ((∃ id ∈ D, G.who b = .rw id) ∨ b ∈ hb ∨ w.heap.size ≤ b) := fun b hb0 => by
          obtain ⟨q1, q2, q3⟩ := hB' b hb0
          refine ⟨fun hf => q1 (FrF b hf), q2, ?_⟩
          rcases q3 with q3 | q3
          · rcases Btag b q3 with ⟨id, hid, h4⟩ | ⟨h4, _⟩
            · exact .inl ⟨id, gsD id hid, h4⟩
            · exact .inr (.inl h4)
          · exact .inr (.inr q3)
        have csame : ∀ b, b < w.heap.size → (∀ id ∈ D, G.who b ≠ .rw id) → b ∉ hb → w'.heap[b]? = w.heap[b]? := fun b hb0 hd hn => hkp.block b ⟨hb0, fun hm => by
          rcases Btag b hm with ⟨id, hid, h4⟩ | ⟨h4, _⟩
          · exact hd id (gsD id hid) h4
          · exact hn h4⟩
        have cD : ∀ id ∈ D, ∃ r c, S.rows[id]? = some r ∧ r.c = some c := fun id hi => (DD id hi).elim (r7 id) (r6 id)
        have bxk : ∀ q ∈ bx, (∃ p ∈ bs, q.1 = p.1 ∧ q.2.ep = p.2 ∧ q.2.c.isSome = true) := fun q hq => by
          obtain ⟨p, hp, e1, e2, c, arr, ty, Bi, e3, _⟩ := b3 q hq
          exact ⟨p, hp, e1, e2, by rw [e3]; rfl⟩
        have bsk : ∀ p ∈ bs, p.1 ∈ bx.map (·.1) := fun p hp => by rw [b1]; exact List.mem_map.2 ⟨p, hp, rfl⟩
        have lives : ∀ p ∈ bs, ∃ cs, S.box p.1 p.2 = some cs ∧ G.who (G.bk p.1) = .bx p.1 := r8
        -- a variable's cells behind the call
        have boxR : ∀ (G' : Gh) (rows' : List Row), (∀ b, Fr b → G'.F b) → (∀ b ∈ B2, b ∉ hb → G'.F b) → (∀ p ∈ bs, G'.bk p.1 = G.bk p.1 ∧ G'.who (G.bk p.1) = .bx p.1) → ∀ q ∈ bx, ∀ cs, q.2.c = some cs → BoxR w' G' rows' q.1 cs := by
          intro G' rows' g1 g2 g3 q hq cs' hcs'
          obtain ⟨p, hp, e1, e2, c, arr, ty, Bi, e3, e4, e5, e6, e7⟩ := b3 q hq
          rw [e3] at hcs'
          cases hcs'
          obtain ⟨e8, e9⟩ := e7 m2
          obtain ⟨H0, t1, t2, t3⟩ := takes_cells (oc_dat S c) e5 e8
          have hH0 : H0 = [] := by cases H0 with | nil => rfl | cons x l => simp at t1
          subst hH0
          obtain ⟨f1, _⟩ := t3 G' rows' g1 (fun p hp => by cases hp) (fun b hb0 _ => g2 b (e6 b hb0) fun hm => by
            rw [r2] at hm
            obtain ⟨p', hp', rfl⟩ := List.mem_map.1 hm
            exact e9 p' hp' hb0) (fun p hp => by cases hp)
          obtain ⟨g4, g5⟩ := g3 p hp
          exact ⟨by rw [e1, g4, g5], arr, ty, by rw [e1, g4]; exact e4, f1⟩
        have hkp4 : w'.os = w.os ∧ w'.tape = w.tape ∧ w'.output = w.output ∧ w.heap.size ≤ w'.heap.size := ⟨hkp.os, hkp.tape, hkp.output, hkp.size⟩
        dsimp only at hK
        split at hK
        · -- a pointer comes back
          rename_i c
          split at hK
          · rename_i nb hnb
            split at hK
            · rename_i Bx hBx
              obtain ⟨hne, hK⟩ := hK
              cases rv with
              | nil => exact hR1'.elim
              | cons v0 rv =>
                obtain ⟨Ba, Bb, ha, hb2, ⟨b0, arr, ty, Bc, q1, q2, q3, rfl, rfl⟩, hrest, rfl, rfl⟩ := hR1'
                cases rv with
                | cons => exact hrest.elim
                | nil =>
                  obtain ⟨rfl, rfl⟩ := hrest
                  subst q1
                  have hb0m : b0 ∈ (b0 :: Bc ++ []) ++ B2 := by simp
                  have hb0n : b0 ∉ hb := fun hm => m3 b0 (by simp) b0 (hbB b0 hm) rfl
                  have hne' : nb ∉ bs.map (·.1) := fun hm => by
                    rw [List.all_eq_true] at hne
                    have := hne nb hm
                    simp at this
                  obtain ⟨G', hG⟩ := call_core h Fr ((b0 :: Bc ++ []) ++ B2) hb D bs [] (some (b0, nb)) [] (bx ++ [(nb, ⟨Bx.ep + 1, some (datCells c)⟩)]) cFr1 cFr2 cB r2 lives hkp4 csame cD rfl List.nodup_nil List.nodup_nil (fun b hb0 => by cases hb0) (fun p hp => by cases hp)
                    (fun b x e => by
                      cases e
                      refine ⟨hb0m, hb0n, by simp [HEs], Bx, hBx, hne', by simp, fun q hq e => ?_⟩
                      rcases List.mem_append.1 hq with hq | hq
                      · obtain ⟨p, hp, e1, _⟩ := bxk q hq
                        exact absurd (List.mem_map.2 ⟨p, hp, by rw [← e1, e]⟩) hne'
                      · simp at hq; subst hq; rfl)
                    (fun q hq => by
                      rcases List.mem_append.1 hq with hq | hq
                      · exact .inl (bxk q hq)
                      · simp at hq; subst hq; exact .inr ⟨b0, rfl⟩)
                    (fun p hp => by simp only [List.map_append, List.mem_append]; exact .inl (bsk p hp))
                  obtain ⟨hbk, hwh⟩ := hG.np b0 nb rfl
                  refine ⟨_, G', hK, ?_⟩
                  have key := hG.inv d (ptrV b0) (.pb nb (Bx.ep + 1) 0) (fun B0 hB0 => ?_) (fun p hp => by cases hp) (fun q hq cs' hcs' => ?_)
                  · rw [List.append_nil] at key
                    exact key
                  · rcases fold_get _ _ _ _ hB0 with ⟨q, hq, e1, e2⟩ | ⟨hno, _⟩
                    · rcases List.mem_append.1 hq with hq | hq
                      · obtain ⟨p, hp, e3, _⟩ := bxk q hq
                        exact absurd (List.mem_map.2 ⟨p, hp, by rw [← e3, e1]⟩) hne'
                      · simp at hq
                        subst hq
                        subst e2
                        exact ⟨Nat.le_refl _, fun _ _ => by rw [hbk]; rfl⟩
                    · exact absurd rfl (hno (nb, ⟨Bx.ep + 1, some (datCells c)⟩) (by simp))
                  · rcases List.mem_append.1 hq with hq | hq
                    · refine boxR G' _ hG.fr (fun b hb0 hn => hG.rest b (List.mem_append_right _ hb0) hn (by simp [HEs]) fun x0 e => ?_) hG.box q hq cs' hcs'
                      cases e
                      exact m3 b0 (by simp) b0 hb0 rfl
                    · simp at hq
                      subst hq
                      cases hcs'
                      have hnc : Bc.Nodup := (List.nodup_cons.1 (by simpa using m1)).2
                      obtain ⟨H0, t1, t2, t3⟩ := takes_cells (oc_dat S c) q3 hnc
                      have hH0 : H0 = [] := by cases H0 with | nil => rfl | cons x l => simp at t1
                      subst hH0
                      obtain ⟨f1, _⟩ := t3 G' _ hG.fr (fun p hp => by cases hp) (fun b hb0 _ => hG.rest b (by simp [hb0]) (fun hm => m3 b (by simp [hb0]) b (hbB b hm) rfl) (by simp [HEs]) fun x0 e => by
                        cases e
                        exact (List.nodup_cons.1 (by simpa using m1)).1 hb0) (fun p hp => by cases hp)
                      exact ⟨by rw [hbk]; exact hwh, arr, ty, by rw [hbk]; exact q2, f1⟩
            · exact hK.elim
          · exact hK.elim
        · -- values come back
          obtain ⟨l, rows, ⟨hnr, hK⟩, hRT⟩ := resT_spec hK
          obtain ⟨rfl, H, t1, t2, t3⟩ := takes_args hRT hR1' m1
          have hrn := nodupB_spec hnr
          obtain ⟨G', hG⟩ := call_core h Fr (B1 ++ B2) hb D bs H none rows bx cFr1 cFr2 cB r2 lives hkp4 csame cD t1 hrn (t2.nodup m1) (fun b hb0 => ⟨List.mem_append_left _ (t2.subset hb0), fun hm => m3 b (t2.subset hb0) b (hbB b hm) rfl⟩) (RT_rows hRT)
            (fun b x e => by cases e) (fun q hq => .inl (bxk q hq)) bsk
          obtain ⟨f1, f2⟩ := t3 G' _ hG.fr hG.hd (fun b hb0 hn => hG.rest b (List.mem_append_left _ hb0) (fun hm => m3 b hb0 b (hbB b hm) rfl) hn fun x0 e => by cases e) hG.rows
          refine ⟨_, G', hK, ?_⟩
          exact hG.inv d (retV rv) (tupT l) (tup_tr f1) f2 (boxR G' _ hG.fr (fun b hb0 hn => hG.rest b (List.mem_append_right _ hb0) hn (fun hm => m3 b (t2.subset hm) b hb0 rfl) fun x0 e => by cases e) hG.box)
      · exact hK.elim
  · exact hk.elim
theorem call_ok (hC : CallsOk P V) (h : Inv w0 prot S G a w) {f : Nat} {E : Ent} (hE : look f V.calls = some E) {d : Option Nat} {ts : List T} {vs : List Value} (hts : F2 (TR w G S.rows S.boxes) vs ts) {K : Outc → Prop} (hk : callT V S d E ts K) :
    Calls P f vs.toArray w fun e w' => ∃ v, e = .returned v ∧ After w0 prot S d K (a.put d v) w' := by
  unfold callT at hk
  split at hk
  · rename_i ts' hu
    obtain ⟨vs', h1, h2, _⟩ := uncl_ok h hts hu
    rw [h2]
    exact callC_ok hC h hE h1 hk
  · exact hk.elim
end
/-! ### what is lent to be written -/
/-- One thing that is lent: where; its value; what comes back; its blocks ahead and behind; its row behind. -/
structure IoX where
  t : IoR
  v : Value
  c : RC
  b1 : List Nat
  b2 : List Nat
  row : Row
/-- Ahead of the call. -/
def IoA (w : World) (S : St) (G : Gh) (t : IoR) (v : Value) (b1 : List Nat) : Prop := ∃ cr, S.live t.id t.ep = some cr ∧ b1.Nodup ∧ (∀ b ∈ b1, G.who b = .rw t.id) ∧ match t.at_ with
  | none => v = G.hd t.id
  | some (i, off) => off < cr.k.size ∧ i < cr.l.length ∧ i * cr.k.size + off < cr.dn ∧ v = G.inn t.id (i * cr.k.size + off) ∧ (∃ l, (flat cr.k cr.l)[i * cr.k.size + off]? = some (.r .u8 l)) ∧ b1 = (ownB v).toList
inductive IoL (w : World) (S : St) (G : Gh) : List IoR → List Value → List Nat → Prop
  | nil : IoL w S G [] [] []
  | cons {t : IoR} {v : Value} {b1 : List Nat} {ts : List IoR} {vs : List Value} {B : List Nat} : IoA w S G t v b1 → IoL w S G ts vs B → IoL w S G (t :: ts) (v :: vs) (b1 ++ B)
theorem IoL.app {w : World} {S : St} {G : Gh} {ts ts' : List IoR} {vs vs' : List Value} {B B' : List Nat} (h : IoL w S G ts vs B) (h' : IoL w S G ts' vs' B') : IoL w S G (ts ++ ts') (vs ++ vs') (B ++ B') := by
  induction h with
  | nil => exact h'
  | cons h1 _ ih => rw [List.append_assoc]; exact .cons h1 ih
theorem IoL.tags {w : World} {S : St} {G : Gh} {ts : List IoR} {vs : List Value} {B : List Nat} (h : IoL w S G ts vs B) : ∀ b ∈ B, ∃ t ∈ ts, G.who b = .rw t.id := by
  induction h with
  | nil => intro b hb; cases hb
  | @cons t _ _ _ _ _ h1 _ ih =>
    intro b hb
    obtain ⟨_, _, _, h2, _⟩ := h1
    rcases List.mem_append.1 hb with hb | hb
    · exact ⟨t, by simp, h2 b hb⟩
    · obtain ⟨t', ht, hw⟩ := ih b hb; exact ⟨t', by simp [ht], hw⟩
theorem IoL.nodup {w : World} {S : St} {G : Gh} {ts : List IoR} {vs : List Value} {B : List Nat} (h : IoL w S G ts vs B) : (ts.map (·.id)).Nodup → B.Nodup := by
  induction h with
  | nil => intro _; exact List.nodup_nil
  | @cons t _ _ _ _ _ h1 h3 ih =>
    intro hn
    rw [List.map_cons, List.nodup_cons] at hn
    obtain ⟨_, _, h0, h2, _⟩ := h1
    refine List.nodup_append.2 ⟨h0, ih hn.2, fun b hb b' hb' e => ?_⟩
    subst e
    obtain ⟨t', ht, hw⟩ := h3.tags b hb'
    rw [h2 b hb] at hw
    simp only [Tag.rw.injEq] at hw
    exact hn.1 (List.mem_map.2 ⟨t', ht, hw.symm⟩)
section
variable {P : Program} {V : Env} {w0 : World} {prot : Pro} {S : St} {G : Gh} {a : Act} {w : World}
theorem ioCells_ok (h : Inv w0 prot S G a w) (io : List (Nat × Nat)) (j : Nat) : ∀ {cs : List Cm} {xs : List Value} {i : Nat} {as : List AC} {ts : List IoR}, F2 (CR w G S.rows) xs cs → ioCells S io j i cs = some (as, ts) →
    ∃ B, ACs w G.F xs as B ∧ IoL w S G ts (iovC xs as) B := by
  intro cs
  induction cs with
  | nil =>
    intro xs i as ts hf ha
    cases hf
    simp only [ioCells, Option.some.injEq, Prod.mk.injEq] at ha
    obtain ⟨rfl, rfl⟩ := ha
    exact ⟨[], rfl, .nil⟩
  | cons c cs ih =>
    intro xs i as ts hf ha
    cases hf with
    | @cons v _ xs _ hv hf =>
      simp only [ioCells] at ha
      split at ha
      · simp at ha
      · rename_i as' ts' ha'
        obtain ⟨B, h1, h2⟩ := ih hf ha'
        cases c with
        | dead => simp at ha
        | d x =>
          simp only at ha
          split at ha
          · simp at ha
          · cases ha
            exact ⟨B, ⟨[], B, ⟨hv, rfl⟩, h1, rfl⟩, h2⟩
        | ref id ep =>
          simp only at ha
          split at ha
          · rename_i c hc
            split at ha
            · cases ha
              obtain ⟨r, hr, he, hrc⟩ := live_spec hc
              have hvh := (hv.2.2 r hr).2 he (by simp [hrc])
              obtain ⟨zs, Bo, hown, hBn, htag, _⟩ := h.row id r hr c hrc
              rw [← hvh] at hown
              exact ⟨Bo ++ B, ⟨Bo, B, ⟨zs, hown.nh false⟩, h1, rfl⟩, .cons ⟨c, hc, hBn, htag, hvh⟩ h2⟩
            · simp at ha
          · simp at ha
/-- The blocks of a cell's row. -/
theorem DCs.at {w : World} {F : Nat → Prop} : ∀ {n : Nat} {vs : List Value} {ds : List D} {B : List Nat}, DCs w F n vs ds B → ∀ {j : Nat} {v : Value} {x : D}, j < n → vs[j]? = some v → ds[j]? = some x → ∃ Bj, DC w F v x Bj ∧ ∀ b ∈ Bj, b ∈ B
  | n + 1, v :: vs, y :: ds, B, h, j, u, x, hj, hv, hx => by
    obtain ⟨B1, B2, h1, h2, rfl⟩ := h
    cases j with
    | zero =>
      simp only [List.getElem?_cons_zero, Option.some.injEq] at hv hx
      subst hv; subst hx
      exact ⟨B1, h1, fun b hb => List.mem_append_left _ hb⟩
    | succ j =>
      obtain ⟨Bj, h3, h4⟩ := DCs.at h2 (j := j) (by omega) (by simpa using hv) (by simpa using hx)
      exact ⟨Bj, h3, fun b hb => List.mem_append_right _ (h4 b hb)⟩
  | _ + 1, [], _, _, h, _, _, _, _, _, _ => by cases ‹List D› <;> exact h.elim
  | _ + 1, _ :: _, [], _, h, _, _, _, _, _, _ => h.elim
theorem ioT_ok (h : Inv w0 prot S G a w) (io : List (Nat × Nat)) : ∀ {ts : List T} {vs : List Value} {j : Nat} {as : List Arg} {tg : List IoR}, F2 (TR w G S.rows S.boxes) vs ts → ioT S io j ts = some (as, tg) →
    ∃ B, ArgsR w G.F vs as B [] ∧ IoL w S G tg (iovA vs as) B := by
  intro ts
  induction ts with
  | nil =>
    intro vs j as tg hf ha
    cases hf
    simp only [ioT, Option.some.injEq, Prod.mk.injEq] at ha
    obtain ⟨rfl, rfl⟩ := ha
    exact ⟨[], ⟨rfl, rfl⟩, .nil⟩
  | cons t ts ih =>
    intro vs j as tg hf ha
    cases hf with
    | @cons v _ vs _ hv hf =>
      simp only [ioT] at ha
      split at ha
      · simp at ha
      · rename_i as' tg' ha'
        obtain ⟨B2, h1, h2⟩ := ih hf ha'
        split at ha
        · rename_i g cs
          split at ha
          · rename_i x r hx
            cases ha
            obtain ⟨xs, q1, q2, q3, q4⟩ := VR.open hv
            obtain ⟨B1, r1, r2⟩ := ioCells_ok h io j q2 hx
            refine ⟨B1 ++ B2, ⟨B1, B2, [], [], ⟨xs, q1, q3, q4, r1, rfl⟩, h1, rfl, rfl⟩, ?_⟩
            have : iovA (v :: vs) (.v g x :: as') = iovC xs x ++ iovA vs as' := by simp [iovA, q3]
            rw [this]
            exact r2.app h2
          · simp at ha
        · rename_i id ep vv i off
          split at ha
          · rename_i c hc
            split at ha
            · rename_i l hcell hio
              split at ha
              · rename_i hvv
                cases ha
                obtain ⟨r, hr, he, hrc⟩ := live_spec hc
                obtain ⟨_, hsub⟩ := hv r hr
                obtain ⟨_, hsub⟩ := hsub he c hrc
                obtain ⟨hdn, hvi⟩ := hsub hvv
                obtain ⟨zs, Bo, hown, hBn, htag, hin⟩ := h.row id r hr c hrc
                obtain ⟨hout, Bi, hdc, hB⟩ := hown
                have hoff : off < c.k.size := by
                  have := (List.getElem?_eq_some_iff.1 hcell).1
                  rwa [cells_len] at this
                have hzl := hout.lies.1
                have hlen := hdc.len
                have hi : i < c.l.length := by
                  have h5 : i * c.k.size + off < c.l.length * c.k.size := by omega
                  apply Nat.lt_of_not_le
                  intro hle
                  have := Nat.mul_le_mul_right c.k.size hle
                  omega
                have hflat : (flat c.k c.l)[i * c.k.size + off]? = some (.r .u8 l) := by
                  have h1 := flat_at c.k c.l i hi
                  rw [← h1, List.getElem?_take, if_pos hoff, List.getElem?_drop] at hcell
                  exact hcell
                have hxs := hin _ hdn _ _ hflat
                obtain ⟨Bj, hdcj, hBj⟩ := hdc.at hdn hxs hflat
                rw [← hvi] at hdcj
                obtain ⟨⟨ys, hy1, hy2⟩, rfl⟩ := hdcj
                have htg : ∀ b ∈ (ownB v).toList, G.who b = .rw id := fun b hb => htag b (by rw [hB]; exact List.mem_append_right _ (hBj b hb))
                have ho1 := hy1.2
                have hcells : v.cells = #[v] := by rcases ho1 with ⟨⟨x, rfl⟩, _⟩ | ⟨g, cap, cur, rfl, _⟩ <;> rfl
                have hAC : ACs w G.F [v] [.own ⟨5, .u8, l, m0⟩] (ownB v).toList := ⟨(ownB v).toList, [], ⟨ys, OwnX.mk0 rfl rfl hy1 hy2⟩, rfl, by simp⟩
                refine ⟨(ownB v).toList ++ B2, ⟨(ownB v).toList, B2, [], [], ⟨[v], rfl, hcells, fun _ => rfl, hAC, rfl⟩, h1, rfl, rfl⟩, ?_⟩
                have : iovA (v :: vs) (.v false [.own ⟨5, .u8, l, m0⟩] :: as') = v :: iovA vs as' := by simp [iovA, iovC, hcells]
                rw [this]
                exact .cons ⟨c, hc, by cases ownB v <;> simp, htg, hoff, hi, hdn, hvi, ⟨l, hflat⟩, rfl⟩ h2
              · simp at ha
            · simp at ha
          · simp at ha
        · simp at ha
/-- Behind the call. -/
def IoBk (S : St) (t : IoR) (c : RC) (row : Row) : Prop := ∃ cr, S.live t.id t.ep = some cr ∧ match t.at_ with
  | none => c.e = cr.e ∧ c.k = cr.k ∧ c.m.p = false ∧ cr.m.p = false ∧ row = ⟨t.ep, some ⟨c.e, c.k, c.l, ⟨c.m.d, cr.m.h, cr.m.v + 1, cr.m.p⟩⟩⟩
  | some (i, off) => ∃ e l' h v, c = ⟨5, .u8, l', ⟨none, h, v, false⟩⟩ ∧ cr.k.mk (putC (cr.k.cells (cr.k.at cr.l i)) off [.r .u8 l']) = some e ∧ row = ⟨t.ep, some ⟨cr.e, cr.k, cr.l.set i e, cr.m⟩⟩
theorem io_zip {w' : World} {F' : Nat → Prop} : ∀ {tg : List IoR} {vs : List Value} {B : List Nat} {cs : List RC} {B2 : List Nat} {rows : List (Nat × Row)}, IoL w S G tg vs B → ACs w' F' vs (cs.map .own) B2 → ioRows S tg cs = some rows →
    ∃ L : List IoX, tg = L.map (·.t) ∧ B = L.flatMap (·.b1) ∧ B2 = L.flatMap (·.b2) ∧ rows = L.map (fun x => (x.t.id, x.row)) ∧ ∀ x ∈ L, IoA w S G x.t x.v x.b1 ∧ OwnR w' F' x.v x.c x.b2 ∧ IoBk S x.t x.c x.row
  | [], vs, B, cs, B2, rows, hL, hA, hr => by
    cases hL
    cases cs with
    | nil =>
      simp only [ioRows, Option.some.injEq] at hr
      subst hr
      have : B2 = [] := hA
      subst this
      exact ⟨[], rfl, rfl, rfl, rfl, fun x hx => by cases hx⟩
    | cons => exact hA.elim
  | t :: tg, vs, B, cs, B2, rows, hL, hA, hr => by
    cases hL with
    | @cons _ v b1 _ vs B h1 h2 =>
      cases cs with
      | nil => exact hA.elim
      | cons c cs =>
        obtain ⟨C1, C2, hc1, hc2, rfl⟩ := hA
        obtain ⟨id, ep, at_⟩ := t
        have fin : ∀ (row : Row) (rows' : List (Nat × Row)), ioRows S tg cs = some rows' → IoBk S ⟨id, ep, at_⟩ c row → rows = (id, row) :: rows' →
            ∃ L : List IoX, ⟨id, ep, at_⟩ :: tg = L.map (·.t) ∧ b1 ++ B = L.flatMap (·.b1) ∧ C1 ++ C2 = L.flatMap (·.b2) ∧ rows = L.map (fun x => (x.t.id, x.row)) ∧ ∀ x ∈ L, IoA w S G x.t x.v x.b1 ∧ OwnR w' F' x.v x.c x.b2 ∧ IoBk S x.t x.c x.row := by
          intro row rows' hr' hb he
          obtain ⟨L, l1, l2, l3, l4, l5⟩ := io_zip h2 hc2 hr'
          refine ⟨⟨⟨id, ep, at_⟩, v, c, b1, C1, row⟩ :: L, by simp [l1], by simp [l2], by simp [l3], by simp [he, l4], fun x hx => ?_⟩
          rcases List.mem_cons.1 hx with rfl | hx
          · exact ⟨h1, hc1, hb⟩
          · exact l5 x hx
        cases at_ with
        | none =>
          simp only [ioRows] at hr
          split at hr
          · rename_i cr rs hl hrs
            split at hr
            · rename_i hcc
              cases hr
              exact fin _ rs hrs ⟨cr, hl, hcc.1, hcc.2.1, hcc.2.2.1, hcc.2.2.2, rfl⟩ rfl
            · simp at hr
          · simp at hr
        | some p =>
          obtain ⟨i, off⟩ := p
          unfold ioRows at hr
          split at hr
          · simp at *
          · simp at *
          · rename_i heq1 heq2
            cases heq1
            cases heq2
            split at hr
            · rename_i cr rs hl hrs
              split at hr
              · rename_i hcc
                split at hr
                · rename_i e he
                  cases hr
                  obtain ⟨rfl, _⟩ := hcc
                  exact fin _ rs hrs ⟨cr, hl, e, _, _, _, rfl, he, rfl⟩ rfl
                · simp at hr
              · simp at hr
            · simp at hr
          · simp at hr
end
/-- A row that lies in a row was written. -/
theorem DCs.lend {w w' : World} {F F' : Nat → Prop} {v : Value} {l' : List Int} (hF : ∀ b, F b → F' b ∧ w'.heap[b]? = w.heap[b]?) (hD : DC w' F' v (.r .u8 l') (ownB v).toList) : ∀ {n : Nat} {vs : List Value} {ds : List D} {B : List Nat}, DCs w F n vs ds B → B.Nodup → ∀ {j : Nat} {l : List Int}, j < n → vs[j]? = some v → ds[j]? = some (.r .u8 l) →
    (∀ b ∈ B, ownB v ≠ some b → w'.heap[b]? = w.heap[b]?) → DCs w' F' n vs (ds.set j (.r .u8 l')) B
  | n + 1, u :: vs, y :: ds, B, h, hn, j, l, hj, hv, hx, hB => by
    obtain ⟨B1, B2, h1, h2, rfl⟩ := h
    obtain ⟨n1, n2, n3⟩ := List.nodup_append.1 hn
    cases j with
    | zero =>
      simp only [List.getElem?_cons_zero, Option.some.injEq] at hv hx
      subst hv; subst hx
      obtain ⟨_, rfl⟩ := h1
      rw [List.set_cons_zero]
      exact ⟨_, B2, hD, h2.mono hF fun b hb => hB b (List.mem_append_right _ hb) fun e => n3 b (by rw [e]; simp) b hb rfl, rfl⟩
    | succ j =>
      rw [List.set_cons_succ]
      have hv' : vs[j]? = some v := by simpa using hv
      have hx' : ds[j]? = some (.r .u8 l) := by simpa using hx
      obtain ⟨Bj, hdj, hBj⟩ := h2.at (by omega) hv' hx'
      obtain ⟨_, rfl⟩ := hdj
      refine ⟨B1, B2, h1.mono hF fun b hb => hB b (List.mem_append_left _ hb) fun e => n3 b hb b (hBj b (by rw [e]; simp)) rfl, DCs.lend hF hD h2 n2 (by omega) hv' hx' fun b hb hne => hB b (List.mem_append_right _ hb) hne, rfl⟩
  | _ + 1, [], _, _, h, _, _, _, _, _, _, _ => by cases ‹List D› <;> exact h.elim
  | _ + 1, _ :: _, [], _, h, _, _, _, _, _, _, _ => h.elim
theorem putC_one {α : Type} (l : List α) (o : Nat) (x : α) (h : o < l.length) : putC l o [x] = l.set o x := by
  unfold putC
  rw [List.set_eq_take_append_cons_drop, if_pos h]
  simp
theorem flat_vr {w : World} {F : Nat → Prop} {G : Gh} {rows : List Row} : ∀ {as : List AC} {xs : List Value} {B : List Nat}, flatAC as = true → ACs w F xs as B → F2 (CR w G rows) xs (datCells as)
  | [], [], _, _, _ => .nil
  | [], _ :: _, _, _, h => h.elim
  | _ :: _, [], _, _, h => h.elim
  | c :: as, x :: xs, B, hf, h => by
    obtain ⟨B1, B2, h1, h2, h3⟩ := h
    simp only [flatAC, List.all_cons, Bool.and_eq_true] at hf
    refine .cons ?_ (flat_vr (by simpa [flatAC] using hf.2) h2)
    cases c with
    | own c => simp at hf
    | d y =>
      cases y with
      | r k l => simp at hf
      | i k n => obtain ⟨h4, _⟩ := h1; cases h4; exact Rd.i _ _
      | b n => obtain ⟨h4, _⟩ := h1; cases h4; exact Rd.b _
theorem flat_tr {w : World} {F : Nat → Prop} {G : Gh} {rows : List Row} : ∀ {as : List Arg} {vs : List Value} {B : List Nat}, (as.all fun | .v _ cs => flatAC cs | .p cs => flatAC cs) = true → ArgsR w F vs as B [] → F2 (fun v (p : Bool × List Cm) => VR w G rows v p.1 p.2) vs (flatT as)
  | [], [], _, _, _ => .nil
  | [], _ :: _, _, _, h => h.elim
  | _ :: _, [], _, _, h => h.elim
  | x :: as, v :: vs, B, hf, h => by
    obtain ⟨B1, B2, h1, h2, h3, h4, h5, h6⟩ := h
    simp only [List.all_cons, Bool.and_eq_true] at hf
    have hh := List.append_eq_nil_iff.1 h6.symm
    obtain ⟨rfl, rfl⟩ := hh
    cases x with
    | v g cs =>
      obtain ⟨xs, q1, q2, q3, q4, _⟩ := h3
      refine .cons ?_ (flat_tr hf.2 h4)
      rw [q1]
      exact VR.mk (flat_vr hf.1 q4) q3
    | p cs => obtain ⟨b, arr, ty, B1', q1, q2, q3, q4, q5⟩ := h3; cases q5
section
variable {P : Program} {V : Env} {w0 : World} {prot : Pro} {S : St} {G : Gh} {a : Act} {w : World}
open Classical in
noncomputable def ioGh (G : Gh) (L : List IoX) (F' : Nat → Prop) (zs : Nat → List Value) : Gh where
  who b := match L.find? (fun x => x.b2.contains b) with
    | some x => .rw x.t.id
    | none => if F' b then .fz else G.who b
  bk := G.bk
  hd := G.hd
  inn id j := match L.find? (fun x => x.t.id == id) with
    | some x => match x.t.at_ with
      | none => (zs id).getD j undef
      | some _ => G.inn id j
    | none => G.inn id j
theorem io_find : ∀ {L : List IoX}, (L.flatMap (·.b2)).Nodup → ∀ {x : IoX}, x ∈ L → ∀ {b : Nat}, b ∈ x.b2 → L.find? (fun x => x.b2.contains b) = some x
  | [], _, p, hp, _, _ => by cases hp
  | q :: L, hn, p, hp, b, hb => by
    rw [List.flatMap_cons] at hn
    obtain ⟨n1, n2, n3⟩ := List.nodup_append.1 hn
    rw [List.find?_cons]
    rcases List.mem_cons.1 hp with rfl | hp
    · rw [show p.b2.contains b = true by simpa using hb]
    · have hq : q.b2.contains b = false := by
        cases hc : q.b2.contains b with
        | false => rfl
        | true => exact absurd rfl (n3 b (by simpa using hc) b (List.mem_flatMap.2 ⟨p, hp, hb⟩))
      rw [hq]
      exact io_find n2 hp hb
theorem io_find_none {L : List IoX} {b : Nat} (h : b ∉ L.flatMap (·.b2)) : L.find? (fun x => x.b2.contains b) = none := by
  rw [List.find?_eq_none]
  intro p hp hb
  exact h (List.mem_flatMap.2 ⟨p, hp, by simpa using hb⟩)
theorem io_name {L : List IoX} (hn : (L.map (·.t.id)).Nodup) {x : IoX} (hp : x ∈ L) : L.find? (fun q => q.t.id == x.t.id) = some x := by
  have := find_key (fun q : IoX => some q.t.id) L (by rw [List.filterMap_eq_map']; exact hn) x hp x.t.id rfl
  simpa using this
theorem io_name_none {L : List IoX} {id : Nat} (h : id ∉ L.map (·.t.id)) : L.find? (fun q => q.t.id == id) = none := by
  rw [List.find?_eq_none]
  intro p hp hb
  exact h (List.mem_map.2 ⟨p, hp, by simpa using hb⟩)
open Classical in
theorem callIo_ok (hI : IosOk P V) (h : Inv w0 prot S G a w) {f : Nat} {E : EntI} (hE : look f V.ioc = some E) {d : Option Nat} {ts : List T} {vs : List Value} (hts : F2 (TR w G S.rows S.boxes) vs ts) {K : Outc → Prop} (hk : callIo S E ts K) :
    Calls P f vs.toArray w fun e w' => ∃ v, e = .returned v ∧ After w0 prot S d K (a.put d v) w' := by
  unfold callIo at hk
  split at hk
  case h_2 => exact hk.elim
  rename_i as tg hargs
  obtain ⟨hnd, hF⟩ := hk
  obtain ⟨B, hA, hL⟩ := ioT_ok h E.io hts hargs
  have hn := nodupB_spec hnd
  have hBn := hL.nodup hn
  have htag := hL.tags
  have hFlt : ∀ b, G.F b → b < w.heap.size := fun b hb => h.lt b (by have hb' : G.who b = .fz := hb; rw [hb']; simp)
  refine ((hI f E hE).2 w G.F vs as B _ hA hBn (fun b hb => ?_) hFlt hF).mono ?_
  · obtain ⟨t, _, hw⟩ := htag b hb
    refine ⟨fun hf => ?_, h.lt b (by rw [hw]; simp)⟩
    have hf' : G.who b = .fz := hf
    rw [hw] at hf'
    cases hf'
  rintro e w' ⟨rv, rs, cs, F', B1, B2, rfl, hK, hR, hIo, hn', hB', hF1, hF2, hkp⟩
  refine ⟨_, rfl, ?_⟩
  split at hK
  case h_2 => exact hK.elim
  rename_i rows hrows
  obtain ⟨hflat, hK⟩ := hK
  obtain ⟨L, l1, l2, l3, l4, l5⟩ := io_zip hL hIo hrows
  obtain ⟨m1, m2, m3⟩ := List.nodup_append.1 hn'
  have hids : (L.map (·.t.id)).Nodup := by rw [l1, List.map_map] at hn; exact hn
  rw [l3] at m2
  -- the cells of what comes back whole
  have hzs : ∃ zs : Nat → List Value, ∀ x ∈ L, OwnX w' F' x.v x.c (zs x.t.id) x.b2 := by
    refine ⟨fun id => if hx : ∃ x ∈ L, x.t.id = id then Classical.choose (l5 _ (Classical.choose_spec hx).1).2.1 else [], fun x hx => ?_⟩
    have hex : ∃ y ∈ L, y.t.id = x.t.id := ⟨x, hx, rfl⟩
    have hy := Classical.choose_spec hex
    have e1 : Classical.choose hex = x := by
      have h1 := io_name hids hy.1
      have h2 := io_name hids hx
      rw [hy.2] at h1
      rw [h1] at h2
      exact Option.some.inj h2
    dsimp only
    rw [dif_pos hex]
    have h3 := Classical.choose_spec (l5 _ hy.1).2.1
    have key : ∀ (z : IoX) (hz : z ∈ L) (e : z = x), OwnX w' F' x.v x.c (Classical.choose (l5 z hz).2.1) x.b2 := fun z hz e => by
      subst e
      exact Classical.choose_spec (l5 z hz).2.1
    exact key _ hy.1 e1
  obtain ⟨zs, hzs⟩ := hzs
  let G' := ioGh G L F' zs
  have inB : ∀ b ∈ L.flatMap (·.b2), ¬ F' b ∧ b < w'.heap.size ∧ (b ∈ B ∨ w.heap.size ≤ b) := fun b hb => hB' b (List.mem_append_right _ (by rw [l3]; exact hb))
  have whoB : ∀ x ∈ L, ∀ b ∈ x.b2, G'.who b = .rw x.t.id := fun x hx b hb => by
    show (match L.find? (fun x => x.b2.contains b) with | some x => _ | none => _) = _
    rw [io_find m2 hx hb]
  have whoN : ∀ b, b ∉ L.flatMap (·.b2) → ¬ F' b → G'.who b = G.who b := fun b hb hf => by
    show (match L.find? (fun x => x.b2.contains b) with | some x => _ | none => _) = _
    rw [io_find_none hb]
    exact if_neg hf
  have whoF : ∀ b, F' b → G'.who b = .fz := fun b hf => by
    show (match L.find? (fun x => x.b2.contains b) with | some x => _ | none => _) = _
    rw [io_find_none fun hm => (inB b hm).1 hf]
    exact if_pos hf
  -- who is neither lent nor data stays
  have old : ∀ b, b < w.heap.size → b ∉ B → ¬ G.F b → G'.who b = G.who b ∧ w'.heap[b]? = w.heap[b]? := fun b hb hnB hf => by
    refine ⟨whoN b (fun hm => ?_) (fun hf' => ?_), hkp.block b ⟨hb, hnB⟩⟩
    · rcases (inB b hm).2.2 with h1 | h1
      · exact hnB h1
      · omega
    · rcases (hF2 b hf').2 with h1 | h1 | h1
      · exact hf h1
      · exact hnB h1
      · omega
  have fz : ∀ b, G.who b = .fz → G'.who b = .fz ∧ w'.heap[b]? = w.heap[b]? := fun b hb => by
    refine ⟨whoF b (hF1 b hb), hkp.block b ⟨hFlt b hb, fun hm => ?_⟩⟩
    obtain ⟨t, _, hw⟩ := htag b hm
    rw [hb] at hw; cases hw
  have notB : ∀ b, (∀ id, G.who b ≠ .rw id) → b ∉ B := fun b hb hm => by
    obtain ⟨t, _, hw⟩ := htag b hm
    exact hb _ hw
  have inn_old : ∀ id, id ∉ L.map (·.t.id) → ∀ j, G'.inn id j = G.inn id j := fun id hi j => by
    show (match L.find? (fun x => x.t.id == id) with | some x => _ | none => _) = _
    rw [io_name_none hi]
  have row_get : ∀ id r', (rows.foldl (fun r p => r.set p.1 p.2) S.rows)[id]? = some r' → (∃ x ∈ L, x.t.id = id ∧ x.row = r') ∨ (id ∉ L.map (·.t.id) ∧ S.rows[id]? = some r') := fun id r' hr' => by
    rw [l4] at hr'
    rcases fold_get _ _ _ _ hr' with ⟨p, hp, h1, h2⟩ | ⟨h1, h2⟩
    · obtain ⟨x, hx, rfl⟩ := List.mem_map.1 hp
      exact .inl ⟨x, hx, h1, h2⟩
    · refine .inr ⟨fun hm => ?_, h2⟩
      obtain ⟨x, hx, e⟩ := List.mem_map.1 hm
      exact h1 (x.t.id, x.row) (List.mem_map.2 ⟨x, hx, rfl⟩) e
  have keeps : Keeps w G S.rows S.boxes w' G' (rows.foldl (fun r p => r.set p.1 p.2) S.rows) S.boxes := by
    refine ⟨fz, fun id r' hr' => ?_, fun b B' hB => ⟨B', hB, Nat.le_refl _, fun _ h => ⟨h, rfl⟩⟩⟩
    rcases row_get id r' hr' with ⟨x, hx, rfl, rfl⟩ | ⟨h1, h2⟩
    · obtain ⟨⟨cr, hl, _, _, hA'⟩, hO, cr', hl', hb⟩ := l5 x hx
      rw [hl] at hl'
      cases hl'
      obtain ⟨r, hr, hep, hrc⟩ := live_spec hl
      refine ⟨r, hr, ?_⟩
      cases hat : x.t.at_ with
      | none =>
        rw [hat] at hb hA'
        obtain ⟨_, hk, hp1, hp2, hrow⟩ := hb
        rw [hrow]
        obtain ⟨zr, Bo, hown, _⟩ := h.row x.t.id r hr cr hrc
        have hlen : cr.l.length = x.c.l.length := by
          obtain ⟨zs0, hO⟩ := hO
          have h1 := hown.out.lies.2
          have h2 := hO.out.lies.2
          have hA'' : x.v = G.hd x.t.id := hA'
          rw [hA''] at h2
          rcases h1 with ⟨⟨y, h1⟩, h3⟩ | ⟨g, o, c1, h1, _⟩ <;> rcases h2 with ⟨⟨y', h2⟩, h4⟩ | ⟨g', o', c2, h2, _⟩
          · rw [h3, h4]; rfl
          · rw [h1] at h2; injection h2 with _ e _; rw [h3]; exact e
          · rw [h1] at h2; injection h2 with _ e _; rw [h4]; exact e
          · rw [h1] at h2; injection h2
        refine ⟨by dsimp only; omega, fun _ c' hc' => ?_, fun c' hc' hh => by cases hc'; exact ⟨cr, hrc, hh, rfl⟩⟩
        cases hc'
        exact ⟨rfl, cr, hrc, hk.symm, hlen, by dsimp only; omega, fun e => by dsimp only at e; omega⟩
      | some q =>
        obtain ⟨i, off⟩ := q
        rw [hat] at hb hA'
        obtain ⟨e, l', hh, vv, hc, hm, hrow⟩ := hb
        rw [hrow]
        refine ⟨by dsimp only; omega, fun _ c' hc' => ?_, fun c' hc' hh => by cases hc'; exact ⟨cr, hrc, hh, rfl⟩⟩
        cases hc'
        refine ⟨rfl, cr, hrc, rfl, by simp, Nat.le_refl _, fun _ => ⟨Nat.le_refl _, fun j _ => ?_⟩⟩
        show (match L.find? (fun y => y.t.id == x.t.id) with | some x => _ | none => _) = _
        rw [io_name hids hx]
        dsimp only
        rw [hat]
    · exact ⟨r', h2, RowK.refl r' rfl (inn_old id h1)⟩
  refine ⟨⟨tupT (flatT rs), rows, []⟩, G', hK, ?_⟩
  have hres := flat_tr (G := G') (rows := rows.foldl (fun r p => r.set p.1 p.2) S.rows) (by simp only [flatRes, Bool.and_eq_true] at hflat; exact hflat.1) hR
  refine h.step keeps (fun b Bx hBx cs' hcs' => ?_) (fun id r' hr' => ?_) (fun b hb => ?_) ?_ (fun b hb => ?_) (tup_tr hres) d
  · have hbx := h.box b Bx hBx cs' hcs'
    have hlt := h.lt (G.bk b) (by rw [hbx.1]; simp)
    have hnB := notB (G.bk b) fun id => by rw [hbx.1]; simp
    obtain ⟨e1, e2⟩ := old _ hlt hnB fun hf => by have hf' : G.who (G.bk b) = .fz := hf; rw [hbx.1] at hf'; cases hf'
    exact hbx.keep keeps rfl e1 e2
  · rcases row_get id r' hr' with ⟨x, hx, rfl, rfl⟩ | ⟨h1, h2⟩
    · obtain ⟨⟨cr, hl, _, hb1, hA'⟩, _, cr', hl', hb⟩ := l5 x hx
      have hO := hzs x hx
      rw [hl] at hl'
      cases hl'
      obtain ⟨r, hr, hep, hrc⟩ := live_spec hl
      obtain ⟨zr, Bo, hown, hBon, hBot, hin⟩ := h.row x.t.id r hr cr hrc
      have hx2n : x.b2.Nodup := by
        have : ∀ {L : List IoX}, (L.flatMap (·.b2)).Nodup → ∀ x ∈ L, x.b2.Nodup := by
          intro L
          induction L with
          | nil => intro _ x hx; cases hx
          | cons y L ih =>
            intro hn x hx
            rw [List.flatMap_cons] at hn
            obtain ⟨n1, n2, _⟩ := List.nodup_append.1 hn
            rcases List.mem_cons.1 hx with rfl | hx
            · exact n1
            · exact ih n2 x hx
        exact this m2 x hx
      cases hat : x.t.at_ with
      | none =>
        rw [hat] at hb hA'
        obtain ⟨he, hk, hp1, hp2, hrow⟩ := hb
        rw [hrow]
        intro c' hc'
        cases hc'
        have hv : x.v = G.hd x.t.id := hA'
        have e1 : G'.hd x.t.id = x.v := hv.symm
        rw [e1]
        have hO2 : OwnX w' F' x.v ⟨x.c.e, x.c.k, x.c.l, ⟨x.c.m.d, cr.m.h, cr.m.v + 1, cr.m.p⟩⟩ (zs x.t.id) x.b2 := hO.meta rfl rfl (by dsimp only; rw [hp1, hp2]) rfl
        refine ⟨zs x.t.id, x.b2, hO2.mono (fun b hb => ⟨whoF b hb, rfl⟩) fun _ _ => rfl, hx2n, whoB x hx, fun j hj k l _ => ?_⟩
        have hlen := (hO2.dcs.choose_spec.1).len.2
        have hg : G'.inn x.t.id j = (zs x.t.id).getD j undef := by
          show (match L.find? (fun y => y.t.id == x.t.id) with | some x => _ | none => _) = _
          rw [io_name hids hx]
          dsimp only
          rw [hat]
        rw [hg, List.getD_eq_getElem?_getD, List.getElem?_eq_getElem (by omega)]; rfl
      | some q =>
        obtain ⟨i, off⟩ := q
        rw [hat] at hb hA'
        obtain ⟨hoff, hi, hdn, hv, ⟨l, hflatj⟩, hb1e⟩ := hA'
        obtain ⟨e, l', hh, vv, hc, hm, hrow⟩ := hb
        rw [hrow]
        intro c' hc'
        cases hc'
        rw [hc] at hO
        obtain ⟨hO1, hOB⟩ := hO.plain rfl
        have hO2 : OwnsC w' 0 5 1 x.v l'.length (zs x.t.id) := hO.out
        have hb2 : x.b2 = (ownB x.v).toList := hOB
        obtain ⟨hout, Bi, hdc, hB0⟩ := hown
        have hxs := hin _ hdn _ _ hflatj
        rw [← hv] at hxs
        obtain ⟨Bj, hdcj, hBj⟩ := hdc.at hdn hxs hflatj
        obtain ⟨_, rfl⟩ := hdcj
        -- this row's other blocks
        have keepB : ∀ b ∈ Bo, ownB x.v ≠ some b → w'.heap[b]? = w.heap[b]? := fun b hb hne => by
          refine hkp.block b ⟨h.lt b (by rw [hBot b hb]; simp), fun hm => ?_⟩
          rw [l2] at hm
          obtain ⟨y, hy, hby⟩ := List.mem_flatMap.1 hm
          obtain ⟨⟨cy, hly, _, hy1, hAy⟩, _⟩ := l5 y hy
          have h3 := hy1 b hby
          rw [hBot b hb] at h3
          simp only [Tag.rw.injEq] at h3
          have hyx : y = x := by
            have q1 := io_name hids hy
            have q2 := io_name hids hx
            rw [← h3] at q1
            rw [q1] at q2
            exact Option.some.inj q2
          subst hyx
          rw [hb1e] at hby
          exact hne (by simpa using hby)
        have whoO : ∀ b ∈ Bo, G'.who b = .rw x.t.id := fun b hb => by
          by_cases hne : ownB x.v = some b
          · exact whoB x hx b (by rw [hb2, hne]; simp)
          · have hlt := h.lt b (by rw [hBot b hb]; simp)
            have hnB : b ∉ B := fun hm => by
              rw [l2] at hm
              obtain ⟨y, hy, hby⟩ := List.mem_flatMap.1 hm
              obtain ⟨⟨cy, hly, _, hy1, hAy⟩, _⟩ := l5 y hy
              have h3 := hy1 b hby
              rw [hBot b hb] at h3
              simp only [Tag.rw.injEq] at h3
              have hyx : y = x := by
                have q1 := io_name hids hy
                have q2 := io_name hids hx
                rw [← h3] at q1
                rw [q1] at q2
                exact Option.some.inj q2
              subst hyx
              rw [hb1e] at hby
              exact hne (by simpa using hby)
            rw [(old b hlt hnB fun hf => by have hf' : G.who b = .fz := hf; rw [hBot b hb] at hf'; cases hf').1, hBot b hb]
        have hFF : ∀ b, G.F b → G'.F b ∧ w'.heap[b]? = w.heap[b]? := fun b hb => fz b hb
        have hob : ∀ b ∈ obB cr (G.hd x.t.id), b ∈ Bo := fun b hb => by rw [hB0]; exact List.mem_append_left _ hb
        have hfs : flat cr.k (cr.l.set i e) = (flat cr.k cr.l).set (i * cr.k.size + off) (.r .u8 l') := by
          have hcl := cells_len cr.k (cr.k.at cr.l i)
          have hidx := idx_le (s := cr.k.size) hi
          have hfl := flat_len cr.k cr.l
          rw [flat_set cr.k cr.l i hi e, mk_cells _ _ _ hm, putC_put _ _ _ _ _ (by rw [cells_len]; exact flat_at cr.k cr.l i hi) (by omega) (by simp; omega), putC_one _ _ _ (by omega)]
        have hBn2 : Bi.Nodup := by rw [hB0] at hBon; exact (List.nodup_append.1 hBon).2.1
        have hBdis : ∀ b ∈ obB cr (G.hd x.t.id), b ∉ Bi := fun b hb hm => by
          rw [hB0] at hBon
          exact (List.nodup_append.1 hBon).2.2 b hb b hm rfl
        refine ⟨zr, Bo, ⟨?_, Bi, ?_, hB0⟩, hBon, whoO, fun j hj k2 l2 hkl => ?_⟩
        · have h1 : outC w' G'.F (G.hd x.t.id) cr zr := hout.keep hFF fun b hb => keepB b (hob b hb) fun e => hBdis b hb (hBj b (by rw [e]; simp))
          have e1 : G'.hd x.t.id = G.hd x.t.id := rfl
          rw [e1]
          unfold outC at h1 ⊢
          simpa using h1
        · show DCs w' G'.F cr.dn zr (flat cr.k (cr.l.set i e)) Bi
          rw [hfs]
          refine DCs.lend hFF ?_ hdc hBn2 hdn hxs hflatj fun b hb hne => keepB b (by rw [hB0]; exact List.mem_append_right _ hb) hne
          exact DC.own hO2 (hO1.mono fun _ _ hh => hh.mono (fun b hb => whoF b hb) fun _ _ => rfl)
        · have hj' : j < cr.dn := hj
          have hkl' : (flat cr.k (cr.l.set i e))[j]? = some (.r k2 l2) := hkl
          have hg : G'.inn x.t.id j = G.inn x.t.id j := by
            show (match L.find? (fun y => y.t.id == x.t.id) with | some x => _ | none => _) = _
            rw [io_name hids hx]
            dsimp only
            rw [hat]
          rw [hg]
          rw [hfs, List.getElem?_set] at hkl'
          by_cases hjj : i * cr.k.size + off = j
          · rw [← hjj, ← hv]; exact hxs
          · rw [if_neg hjj] at hkl'
            exact hin j hj' k2 l2 hkl'
    · refine (h.row id r' h2).keep keeps rfl (fun b hb => ?_) (fun b hb => ?_) (inn_old id h1)
      all_goals
        have hlt := h.lt b (by rw [hb]; simp)
        have hnB : b ∉ B := fun hm => by
          obtain ⟨t, ht, hw⟩ := htag b hm
          rw [hb] at hw
          simp only [Tag.rw.injEq] at hw
          rw [l1] at ht
          obtain ⟨x, hx, rfl⟩ := List.mem_map.1 ht
          exact h1 (List.mem_map.2 ⟨x, hx, hw.symm⟩)
        obtain ⟨e1, e2⟩ := old b hlt hnB fun hf => by have hf' : G.who b = .fz := hf; rw [hb] at hf'; cases hf'
        first
        | exact e1.trans hb
        | exact e2
  · by_cases h1 : b ∈ L.flatMap (·.b2)
    · exact (inB b h1).2.1
    · by_cases h2 : F' b
      · exact (hF2 b h2).1
      · rw [whoN b h1 h2] at hb
        exact Nat.lt_of_lt_of_le (h.lt b hb) hkp.size
  · refine h.kp.trans (p' := prot.p) ⟨hkp.os, hkp.tape, hkp.output, hkp.size, fun b hb => ?_⟩ fun _ hx => hx
    have hl := Nat.lt_of_lt_of_le (h.prl b hb) h.kp.size
    exact hkp.block b ⟨hl, notB b fun id => by rcases h.pr b hb with ⟨e, _⟩ | ⟨e, _⟩ <;> (rw [e]; simp)⟩
  · have hl := Nat.lt_of_lt_of_le (h.prl b hb) h.kp.size
    rcases h.pr b hb with ⟨e, hf⟩ | ⟨e, hf⟩
    · exact .inl ⟨(fz b e).1, hf⟩
    · refine .inr ⟨?_, hf⟩
      rw [(old b hl (notB b fun id => by rw [e]; simp) fun hf' => by have hf'' : G.who b = .fz := hf'; rw [e] at hf''; cases hf'').1, e]
end
end Go.Proofs.YtkencmgcibbfaaaE

/- What turns something: one theorem; an operation's outcomes. Conditions: none. -/
set_option linter.unusedVariables false
namespace Go.Proofs.YtkencmgcibbfaaaE
open Go Go.RowKit
theorem nameL_ok {α : Type} {b : Bool} {l : α} {K : α → Prop} (h : nameL b l K) : K l := by
  cases b with
  | true => exact h l rfl
  | false => exact h
theorem nameL_mono {α : Type} {b : Bool} {l : α} {K K' : α → Prop} (hm : ∀ l, K l → K' l) (h : nameL b l K) : nameL b l K' := by
  cases b with
  | true => exact fun l' e => hm l' (h l' e)
  | false => exact hm _ h
section
variable {P : Program} {V : Env} (hV : TysOk P V) (hC : AllOk P V) {w0 : World} {prot : Pro} {S : St} {G : Gh} {a : Act} {w : World}
theorem isNil_eval {x : Operand} (h : isNil x = true) : a.eval x = .slice none 0 0 := by
  unfold isNil at h
  split at h
  · rfl
  · simp at h
include hV in
theorem slice_zero (h : Inv w0 prot S G a w) {t : Nat} {I : TyI} {k : RK} {e : Nat} (hI : look t V.tys = some I) (hel : I.el = some (k, e)) {v : Value} {l : List k.El} (hvs : ∃ A cap, v = .slice A l.length cap ∧ l.length ≤ cap) {lo hi mx : Option Operand}
    (c1 : (lo.isNone || isZ lo) = true) (c2 : isZ hi = true) (c3 : isZ mx = true) : ∃ A, (Instr.sliceAt t v (lo.map a.eval) (hi.map a.eval) (mx.map a.eval)).run P w = .ok (.slice A 0 0) w := by
  have key : ∀ {y : Option Operand}, isZ y = true → ∃ k, y = some (.const (.int k 0)) := fun {y} hy => by
    unfold isZ at hy
    split at hy
    · rename_i k n
      exact ⟨k, by rw [show n = 0 by simpa using hy]⟩
    · simp at hy
  obtain ⟨kh, rfl⟩ := key c2
  obtain ⟨km, rfl⟩ := key c3
  have hlo : endT 0 (lo.map (S.opnd V 0)) = some 0 := by
    cases lo with
    | none => rfl
    | some y => obtain ⟨kl, hy⟩ := key (y := some y) (by simpa using c1); cases hy; rfl
  obtain ⟨A, cap, rfl, hcap⟩ := hvs
  obtain ⟨x1, y1, m1, _, _, _, _, _, _, g1, g2, g3, hrun⟩ := slice_run hV hI hel A l.length cap hcap (lo' := lo.map (S.opnd V 0)) (hi' := some (S.opnd V 0 (.const (.int kh 0)))) (mx' := some (S.opnd V 0 (.const (.int km 0)))) (lo := lo.map a.eval) (hi := some (a.eval (.const (.int kh 0)))) (mx := some (a.eval (.const (.int km 0)))) (lo_r h hV lo) (lo_r h hV (some _)) (lo_r h hV (some _)) l rfl
    (r := .v false [.d (.r k ((l.drop (0 : Int).toNat).take ((0 : Int).toNat - (0 : Int).toNat)))]) (p := 0 ≤ (0 : Int) ∧ (0 : Int) ≤ 0 ∧ (0 : Int) ≤ 0 ∧ (0 : Int) ≤ l.length) (by simp only [sliceT, hlo]; rfl) ⟨by omega, by omega, by omega, by omega⟩
  obtain rfl : x1 = 0 := by rw [hlo] at g1; simp only [Option.some.injEq] at g1; omega
  obtain rfl : y1 = 0 := by have : (some (0 : Int)) = some (y1 : Int) := g2; simp only [Option.some.injEq] at this; omega
  obtain rfl : m1 = 0 := by have : (some (0 : Int)) = some (m1 : Int) := g3 _ rfl; simp only [Option.some.injEq] at this; omega
  exact ⟨_, hrun⟩
theorem rd_shape {w : World} {F : Nat → Prop} {v : Value} {k : RK} {l : List k.El} (hv : Rd w F v (.r k l)) : ∃ A cap, v = .slice A l.length cap ∧ l.length ≤ cap := by
  rcases Rd.row_lies hv with ⟨⟨x, rfl⟩, rfl⟩ | ⟨g, off, cap, xs, rfl, _, hc, _⟩
  · exact ⟨_, _, rfl, Nat.le_refl _⟩
  · exact ⟨_, _, rfl, hc⟩
theorem outC.shape {w : World} {F : Nat → Prop} {v : Value} {c : RC} {xs : List Value} (h : outC w F v c xs) : ∃ A cap, v = .slice A c.l.length cap ∧ c.l.length ≤ cap := by
  rcases h.lies.2 with ⟨⟨x, rfl⟩, h2⟩ | ⟨g, off, cap, rfl, hc, _⟩
  · rw [h2]; exact ⟨_, _, rfl, Nat.le_refl _⟩
  · exact ⟨_, _, rfl, hc⟩
theorem newM_ok (V : Env) (d : Option Nat) : (newM V d).d.getD 0 = 0 ∧ (newM V d).h = false ∧ (newM V d).p = false := by
  refine ⟨?_, rfl, rfl⟩
  unfold newM
  exact dpM_getD _ _
theorem zr_nil (w : World) {v : Value} {k : RK} {l : List k.El} (h : ZR v (.r k l)) : (∃ x, v = .slice x 0 0) ∧ l = [] := by
  have := h w (fun _ => False)
  cases this with
  | nil _ x => exact ⟨⟨x, rfl⟩, rfl⟩
  | row _ _ _ _ _ _ hF => exact hF.elim
theorem zero_acs : ∀ {ds : List D} {xs : List Value} {es : List Nat}, F2 ZR xs ds → ACs w G.F xs (zeroAC ds es) []
  | [], [], es, _ => by cases es <;> rfl
  | [], _ :: _, _, h => by cases h
  | _ :: _, [], _, h => by cases h
  | d :: ds, x :: xs, es, h => by
    cases h with
    | cons h1 h2 =>
      cases d with
      | i k n => exact ⟨[], [], ⟨h1 w G.F, rfl⟩, by cases es <;> exact zero_acs h2, rfl⟩
      | b n => exact ⟨[], [], ⟨h1 w G.F, rfl⟩, by cases es <;> exact zero_acs h2, rfl⟩
      | r k l =>
        obtain ⟨⟨xx, rfl⟩, rfl⟩ := zr_nil w h1
        cases es with
        | nil => exact ⟨[], [], ⟨h1 w G.F, rfl⟩, zero_acs h2, rfl⟩
        | cons e es =>
          have h9 := OwnX.mk0 (w := w) (F := G.F) (v := .slice xx 0 0) (c := ⟨e, k, [], m0⟩) (xs := []) rfl rfl ⟨by simp, .inl ⟨⟨_, rfl⟩, rfl⟩⟩ .nil
          rw [ownB_zero] at h9
          exact ⟨[], [], ⟨[], h9⟩, zero_acs h2, rfl⟩
theorem oc_nodup {dp : Bool} {ids : List Nat} {as : List AC} {cs : List Cm} {rs : List (Nat × Row)} {is : List Nat} (h : OC S dp ids as cs rs is) : (rs.map (·.1)).Sublist ids := by
  induction h with
  | nil => simp
  | own _ _ ih => exact List.Sublist.cons_cons _ ih
  | dat _ ih => exact ih
include hV
/-- A struct's zero value, its rows one's own. -/
theorem build_own (h : Inv w0 prot S G a w) {t : Nat} {I : TyI} (hI : look t V.tys = some I) (hg : I.agg = true) {ids : List Nat} (hn : nodupB ids = true) (ps : Array (Nat × Operand)) {dp : Bool} {K : Outc → Prop}
    (hk : ownCells S dp ids (zeroAC I.zc I.zo) fun cs rs is => match buildT V S I.fs ps.toList cs with
      | some cs' => K ⟨.v true cs', rs, []⟩
      | none => False) (d : Option Nat) :
    ∃ v, (Instr.build t (ps.map fun p => (p.1, a.eval p.2))).run P w = .ok v w ∧ After w0 prot S d K (a.put d v) w := by
  obtain ⟨arr, h6, hgen⟩ := build_gen hV w hI hg ps
  obtain ⟨cs, rs, is, hK, hoc⟩ := ownCells_spec hk
  split at hK
  · rename_i cs' hb
    have hnn := nodupB_spec hn
    have hrn := hnn.sublist (oc_nodup hoc)
    obtain ⟨H, t1, t2, t3⟩ := takes_cells hoc (zero_acs (w := w) (G := G) (es := I.zo) h6) List.nodup_nil
    have hH0 : HEs H = [] := List.sublist_nil.1 t2
    obtain ⟨G', hG⟩ := call_core h G.F [] [] [] [] H none rs [] (fun _ hb => hb) (fun b hb => ⟨h.lt b (by have hb' : G.who b = .fz := hb; rw [hb']; simp), .inl hb⟩) (fun b hb => by cases hb) rfl (fun p hp => by cases hp) ⟨rfl, rfl, rfl, Nat.le_refl _⟩ (fun _ _ _ _ => rfl) (fun id hi => by cases hi)
      t1 hrn (by rw [hH0]; exact List.nodup_nil) (fun b hb => by rw [hH0] at hb; cases hb) (OC_rows hoc) (fun b x e => by cases e) (fun q hq => by cases hq) (fun p hp => by cases hp)
    obtain ⟨f1, f2⟩ := t3 G' _ hG.fr hG.hd (fun b hb _ => by cases hb) hG.rows
    obtain ⟨v, hrun, hvr⟩ := hgen G' _ S a (fun ty x g xs hx => hG.keeps.vr (opnd_vr hV h hx)) cs cs' f1 hb
    exact ⟨v, hrun, _, G', hK, hG.inv d v (.v true cs') hvr f2 (fun p hp => by cases hp)⟩
  · exact hK.elim
theorem opnds_tr (h : Inv w0 prot S G a w) : ∀ {xs : List Operand} {tys : List Nat} {ts : List T}, opnds V S xs tys = some ts → F2 (TR w G S.rows S.boxes) (xs.map a.eval) ts
  | [], tys, ts, ho => by cases tys <;> (simp only [opnds, Option.some.injEq] at ho; subst ho; exact .nil)
  | _ :: _, [], ts, ho => by simp [opnds] at ho
  | x :: xs, ty :: tys, ts, ho => by
    simp only [opnds] at ho
    split at ho
    · rename_i t ts' h1 h2
      cases ho
      exact .cons (opnd_tr hV h h1) (opnds_tr h h2)
    · simp at ho
omit hV in
/-- A row of one's own is given up: it is data. -/
theorem freeze {d : Option Nat} {id ep : Nat} {c : RC} {v : Value} (h : Inv w0 prot (S.app d ⟨.v false [.ref id ep], [(id, ⟨ep, some c⟩)], []⟩) G (a.put d v) w) (hid : id < S.rows.length) (hv : G.hd id = v) :
    ∃ G', Inv w0 prot (S.app d ⟨.v false [.d (.r c.k c.l)], [(id, ⟨ep, none⟩)], []⟩) G' (a.put d v) w ∧ Rd w G'.F v (.r c.k c.l) := by
  rw [app_row] at h
  have hr : (S.rows.set id ⟨ep, some c⟩)[id]? = some ⟨ep, some c⟩ := by rw [List.getElem?_set_self hid]
  obtain ⟨xs, B, ho, hBn, htag, _⟩ := h.row id _ hr c rfl
  let G' : Gh := { G with who := fun b => if b ∈ B then .fz else G.who b }
  have hne : ∀ b, G.who b ≠ .rw id → G'.who b = G.who b := fun b hb => by
    show (if _ then _ else _) = _
    rw [if_neg fun e => hb (htag b e)]
  have hfz : ∀ b ∈ B, G'.who b = .fz := fun b hb => by
    show (if _ then _ else _) = _
    rw [if_pos hb]
  have hlt : ∀ b, G'.who b ≠ .ot → b < w.heap.size := fun b hb => by
    by_cases e : b ∈ B
    · exact h.lt b (by rw [htag b e]; simp)
    · have e2 : G'.who b = G.who b := by
        show (if _ then _ else _) = _
        rw [if_neg e]
      rw [e2] at hb; exact h.lt b hb
  have hGF : ∀ b, G.F b → G'.F b := fun b hb => by
    have hb' : G.who b = .fz := hb
    show G'.who b = .fz
    rw [hne b (by rw [hb']; simp), hb']
  have hrd : Rd w G'.F v (.r c.k c.l) := by rw [← hv]; exact ho.data hGF hfz
  have h2 := (h.own hr ⟨ep, none⟩ (w' := w) (G' := G') (RowK.none (Nat.le_refl _) rfl) (fun b _ hb => ⟨hne b hb, rfl⟩) hlt rfl (fun _ _ => ⟨rfl, fun _ => rfl⟩) ⟨rfl, rfl, rfl, Nat.le_refl _⟩ (by intro c' hc'; cases hc')).2 v (.v false [.d (.r c.k c.l)]) ⟨_, rfl, hrd⟩ d
  rw [put_put, app_row] at h2
  refine ⟨G', ?_, hrd⟩
  rw [app_row]
  simpa [setD_setD] using h2
omit hV in
theorem opnd_slots {S S' : St} (h : S'.slots = S.slots) (ty : Nat) : S'.opnd V ty = S.opnd V ty := by
  funext x
  cases x <;> simp [St.opnd, h]
omit hV in
theorem opT_eq {S S' : St} (h : S'.slots = S.slots) (x : Option Operand) : x.map (S'.opnd V 0) = x.map (S.opnd V 0) := by rw [opnd_slots h]
/-- A part of a row of one's own that is given up. -/
theorem slice_fz (h : Inv w0 prot S G a w) {t : Nat} {I : TyI} {e : Nat} {c : RC} (hI : look t V.tys = some I) (hel : I.el = some (c.k, e)) {v : Value} {id ep : Nat} (hc : S.live id ep = some c) (hv : CR w G S.rows v (.ref id ep)) (lo hi mx : Option Operand)
    {p : Prop} {r : T} (hs : sliceT c.k c.l (lo.map (S.opnd V 0)) (hi.map (S.opnd V 0)) (mx.map (S.opnd V 0)) = some (some p, r)) (hp : p) (d : Option Nat) :
    ∃ u G', (Instr.sliceAt t v (lo.map a.eval) (hi.map a.eval) (mx.map a.eval)).run P w = .ok u w ∧ Inv w0 prot (S.app d ⟨r, [(id, ⟨ep, none⟩)], []⟩) G' (a.put d u) w := by
  obtain ⟨r0, hr, hep, hrc⟩ := live_spec hc
  have hid : id < S.rows.length := (List.getElem?_eq_some_iff.1 hr).1
  obtain ⟨hvh, _⟩ := own_of hV h hc hv
  have hset : S.rows.set id ⟨ep, some c⟩ = S.rows := by
    apply List.ext_getElem?
    intro j
    rw [List.getElem?_set]
    split
    · rename_i hj
      subst hj
      first
      | rw [if_pos hid, hr, hep, ← hrc]
      | (rw [hr, hep, ← hrc])
    · rfl
  have h1 : Inv w0 prot (S.app none ⟨.v false [.ref id ep], [(id, ⟨ep, some c⟩)], []⟩) G (a.put none v) w := by
    rw [app_row, hset]; exact h
  obtain ⟨G', h2, hrd⟩ := freeze h1 hid hvh.symm
  rw [app_row] at h2
  have h3 : Inv w0 prot ⟨S.slots, S.rows.set id ⟨ep, none⟩, S.boxes⟩ G' a w := h2
  obtain ⟨u, hrun, htr⟩ := slice_data hV h3 hI hel hrd lo hi mx (by rw [opT_eq (S := S) (S' := ⟨S.slots, S.rows.set id ⟨ep, none⟩, S.boxes⟩) rfl lo, opT_eq (S := S) (S' := ⟨S.slots, S.rows.set id ⟨ep, none⟩, S.boxes⟩) rfl hi, opT_eq (S := S) (S' := ⟨S.slots, S.rows.set id ⟨ep, none⟩, S.boxes⟩) rfl mx]; exact hs) hp
  refine ⟨u, G', hrun, ?_⟩
  have h4 := h3.put htr d
  rw [app_row]
  exact h4
/-- A part of a row of one's own: the row is given up, its elements' rows are kept. -/
theorem slice_pool (h : Inv w0 prot S G a w) {t : Nat} {I : TyI} {e q : Nat} {c : RC} (hI : look t V.tys = some I) (hel : I.el = some (c.k, e)) {v : Value} {id ep : Nat} (hc : S.live id ep = some c) (hcp : c.m.p = false) (hcd : c.m.d = some q) (hv : CR w G S.rows v (.ref id ep)) (lo hi mx : Option Operand)
    {p : Prop} {r : T} (hs : sliceT c.k c.l (lo.map (S.opnd V 0)) (hi.map (S.opnd V 0)) (mx.map (S.opnd V 0)) = some (some p, r)) (hp : p) (hq : q = c.l.length) {l2 : List c.k.El} (hr2 : r = .v false [.d (.r c.k l2)]) (d : Option Nat) :
    ∃ u G', (Instr.sliceAt t v (lo.map a.eval) (hi.map a.eval) (mx.map a.eval)).run P w = .ok u w ∧ Inv w0 prot (S.app d ⟨.v false [.ref id (ep + 1)], [(id, ⟨ep + 1, some ⟨c.e, c.k, l2, ⟨some l2.length, false, 0, true⟩⟩⟩)], []⟩) G' (a.put d u) w := by
  obtain ⟨r0, hr, hep, hrc⟩ := live_spec hc
  have hid : id < S.rows.length := (List.getElem?_eq_some_iff.1 hr).1
  obtain ⟨hvh, zs, B, ⟨hout, Bi, hdc, hB⟩, hBn, hBt, _⟩ := own_of hV h hc hv
  obtain ⟨A, cap, hvA, hcap⟩ := hout.shape
  subst hvA
  obtain ⟨x, y, m, q1, q2, q3, q4, hr', _, _, _, _, hrun⟩ := slice_run hV hI hel A c.l.length cap hcap (lo_r h hV lo) (lo_r h hV hi) (lo_r h hV mx) c.l rfl hs hp
  rw [hr2] at hr'
  have hl2 : l2 = (c.l.drop x).take (y - x) := by
    simp only [T.v.injEq, List.cons.injEq, Cm.d.injEq, D.r.injEq, heq_eq_eq, and_true, true_and] at hr'
    exact hr'
  have hl2n : l2.length = y - x := by rw [hl2]; simp; omega
  let u : Value := .slice (if m = x then A else A.map (·.add (x * c.k.size))) (y - x) (m - x)
  let zs' := cutC zs (x * c.k.size) ((y - x) * c.k.size)
  have hdn : c.dn = c.l.length * c.k.size := by unfold RC.dn; rw [hcd, hq]; rfl
  have hzl := hout.lies.1
  -- its cells: cut, and the blocks that are left
  have hcut : ∃ Bj, DCs w G.F ((y - x) * c.k.size) zs' (flat c.k l2) Bj ∧ Bj.Nodup ∧ ∀ b ∈ Bj, b ∈ Bi := by
    have hBin : Bi.Nodup := by rw [hB] at hBn; exact (List.nodup_append.1 hBn).2.1
    have key : ∀ (o k n : Nat) (vs : List Value) (ds : List D) (B : List Nat), DCs w G.F n vs ds B → B.Nodup → o + k ≤ n → ∃ Bj, DCs w G.F k (cutC vs o k) (cutC ds o k) Bj ∧ Bj.Nodup ∧ ∀ b ∈ Bj, b ∈ B := by
      intro o
      induction o with
      | zero =>
        intro k n vs ds B hD hn hle
        induction k generalizing n vs ds B with
        | zero => exact ⟨[], by simp only [cutC, List.take_zero]; exact DCs.nil, List.nodup_nil, fun b hb => by cases hb⟩
        | succ k ih =>
          cases n with
          | zero => omega
          | succ n =>
            cases vs with
            | nil => cases ds <;> exact hD.elim
            | cons v vs => cases ds with
              | nil => exact hD.elim
              | cons x ds =>
                obtain ⟨B1, B2, h1, h2, rfl⟩ := hD
                obtain ⟨n1, n2, n3⟩ := List.nodup_append.1 hn
                obtain ⟨Bj, j1, j2, j3⟩ := ih n vs ds B2 h2 n2 (by omega)
                refine ⟨B1 ++ Bj, ⟨B1, Bj, h1, by simpa [cutC] using j1, rfl⟩, List.nodup_append.2 ⟨n1, j2, fun b hb b' hb' e => n3 b hb b' (j3 b' hb') e⟩, fun b hb => ?_⟩
                rcases List.mem_append.1 hb with hb | hb
                · exact List.mem_append_left _ hb
                · exact List.mem_append_right _ (j3 b hb)
      | succ o ih =>
        intro k n vs ds B hD hn hle
        cases n with
        | zero => omega
        | succ n =>
          cases vs with
          | nil => cases ds <;> exact hD.elim
          | cons v vs => cases ds with
            | nil => exact hD.elim
            | cons x ds =>
              obtain ⟨B1, B2, h1, h2, rfl⟩ := hD
              obtain ⟨Bj, j1, j2, j3⟩ := ih k n vs ds B2 h2 (List.nodup_append.1 hn).2.1 (by omega)
              exact ⟨Bj, by simpa [cutC] using j1, j2, fun b hb => List.mem_append_right _ (j3 b hb)⟩
    have hle : x * c.k.size + (y - x) * c.k.size ≤ c.dn := by
      rw [hdn, ← Nat.add_mul]
      exact Nat.mul_le_mul_right _ (by omega)
    obtain ⟨Bj, j1, j2, j3⟩ := key (x * c.k.size) ((y - x) * c.k.size) c.dn zs _ Bi hdc hBin hle
    refine ⟨Bj, ?_, j2, j3⟩
    rw [hl2, flat_take, flat_drop]
    exact j1
  obtain ⟨Bj, hDj, hjn, hjB⟩ := hcut
  have hout' : OwnsC w 0 c.e c.k.size (.slice A c.l.length cap) c.l.length zs := by unfold outC at hout; rw [hcp] at hout; exact hout
  have hob : obB c (.slice A c.l.length cap) = (ownB (.slice A c.l.length cap)).toList := by unfold obB; rw [hcp]
  rw [hob] at hB
  let G1 : Gh := { G with who := fun b => if ownB (.slice A c.l.length cap) = some b then .fz else G.who b }
  let G' := (G1.head id u).inns id zs'
  have hne : ∀ b, G.who b ≠ .rw id → G'.who b = G.who b := fun b hb => by
    show (if _ then _ else _) = _
    rw [if_neg fun e => hb (hBt b (by rw [hB, e]; simp))]
  have hlt : ∀ b, G'.who b ≠ .ot → b < w.heap.size := fun b hb => by
    by_cases e : ownB (.slice A c.l.length cap) = some b
    · exact h.lt b (by rw [hBt b (by rw [hB, e]; simp)]; simp)
    · have e2 : G'.who b = G.who b := by
        show (if _ then _ else _) = _
        rw [if_neg e]
      rw [e2] at hb; exact h.lt b hb
  have hGF : ∀ b, G.F b → G'.F b := fun b hb => by
    have hb' : G.who b = .fz := hb
    show G'.who b = .fz
    rw [hne b (by rw [hb']; simp), hb']
  have hnd : ∀ b ∈ Bj, G'.who b = .rw id := fun b hb => by
    have hbi := hjB b hb
    have hnv : ownB (.slice A c.l.length cap) ≠ some b := fun e => by
      rw [hB] at hBn
      exact (List.nodup_append.1 hBn).2.2 b (by rw [e]; simp) b hbi rfl
    have e2 : G'.who b = G.who b := by
      show (if _ then _ else _) = _
      rw [if_neg hnv]
    rw [e2]
    exact hBt b (by rw [hB]; exact List.mem_append_right _ hbi)
  have hzl' : zs'.length = (y - x) * c.k.size := by
    have : x * c.k.size + (y - x) * c.k.size ≤ zs.length := by
      rw [hzl, ← Nat.add_mul]
      exact Nat.mul_le_mul_right _ (by omega)
    exact cutC_len _ _ _ this
  have hpool : PoolC w G'.F c.k.size u l2.length zs' := by
    refine ⟨by rw [hl2n]; exact hzl', ?_⟩
    rw [hl2n]
    rcases hout'.2 with ⟨⟨z, hz⟩, hn0⟩ | ⟨g, cap', cur, hz, _, hg, hnc, _, hcs, ht, hpos⟩
    · injection hz with z1 z2 z3
      have e1 : y - x = 0 := by omega
      have e2 : m - x = 0 := by omega
      refine .inl ⟨⟨if m = x then A else A.map (·.add (x * c.k.size)), ?_⟩, by omega⟩
      show Value.slice _ (y - x) (m - x) = _
      rw [e1, e2]
    · injection hz with z1 z2 z3
      subst z1; subst z3
      have hfz : G'.F g := by
        show (if _ then _ else _) = _
        rw [ownB_pos hpos, if_pos rfl]
      by_cases hm : m = x
      · refine .inr ⟨g, 0, m - x, ?_, hfz, by omega, fun j uu hu => ?_⟩
        · show Value.slice _ _ _ = _
          rw [if_pos hm]
        · exfalso
          have : j < zs'.length := (List.getElem?_eq_some_iff.1 hu).1
          rw [hzl', show y - x = 0 by omega] at this
          simp at this
      · refine .inr ⟨g, x * c.k.size, m - x, ?_, hfz, by omega, fun j uu hu => ?_⟩
        · show Value.slice _ _ _ = _
          rw [if_neg hm]
          simp [add_lit]
        · have := cut_get hu
          rw [cell_of_row _ _ _ _ _ _ hg, ← Array.getElem?_toList]
          rw [← ht, List.getElem?_take] at this
          split at this
          · exact this
          · simp at this
  have ho : OwnX w G'.F u ⟨c.e, c.k, l2, ⟨some l2.length, false, 0, true⟩⟩ zs' Bj := by
    refine ⟨hpool, Bj, ?_, rfl⟩
    have e1 : RC.dn ⟨c.e, c.k, l2, ⟨some l2.length, false, 0, true⟩⟩ = (y - x) * c.k.size := by
      unfold RC.dn
      simp only [Option.getD_some]
      rw [hl2n]
    rw [e1]
    exact hDj.mono (fun b hb => ⟨hGF b hb, rfl⟩) fun _ _ => rfl
  have := h.own hr ⟨ep + 1, some ⟨c.e, c.k, l2, ⟨some l2.length, false, 0, true⟩⟩⟩ (w' := w) (G' := G') (RowK.new (by dsimp only; omega) fun c' hc' => by cases hc'; rfl) (fun b _ hb => ⟨hne b hb, rfl⟩) hlt rfl (fun j hj => ⟨Gh.head_other _ _ _ hj, fun q => Gh.inns_other _ _ _ hj q⟩) ⟨rfl, rfl, rfl, Nat.le_refl _⟩
    (by
      intro c' hc'; cases hc'
      rw [show G'.hd id = u from Gh.head_same _ _ _]
      refine ⟨zs', Bj, ho, hjn, hnd, InnOk.self ?_⟩
      unfold RC.dn
      simp only [Option.getD_some]
      rw [hl2n, hzl']; exact Nat.le_refl _)
  exact ⟨u, G', hrun, this.2 _ _ (ref_tr (Gh.head_same _ _ _) (by rw [List.getElem?_set_self hid]) ho) d⟩
theorem effB_ok (h : Inv w0 prot S G a w) {b : Builtin} {args : Array Operand} {tys : Array Nat} {K : Outc → Prop} (ty : Nat) (cs : Array Bool) {fz : Bool} (he : effB V S fz b args.toList tys.toList K) (d : Option Nat) :
    ∃ v w', (builtin b tys ty cs (args.map a.eval)).run P w = .ok (.value v) w' ∧ After w0 prot S d K (a.put d v) w' := by
  generalize hA : args.toList = A at he
  generalize hT : tys.toList = Ts at he
  unfold effB at he
  split at he
  · rename_i K0 s x t u
    obtain rfl : args = #[s, x] := Array.toList_inj.1 hA
    obtain rfl : tys = #[t, u] := Array.toList_inj.1 hT
    split at he
    case h_2 => exact he.elim
    rename_i g zc k e zo fs id ep X hI hs hx
    split at he
    case h_2 => exact he.elim
    rename_i c hc
    split at he
    · exact he.elim
    rename_i hcp
    obtain ⟨cm, hcm, hsv⟩ := opnd_vr hV h hs
    cases hcm
    split at he
    · rename_i hdx
      split at he
      case h_2 => exact he.elim
      rename_i k' l' hel
      split at he
      case isFalse => exact he.elim
      rename_i hk
      split at he
      case isFalse => exact he.elim
      rename_i hcc
      obtain ⟨rfl, rfl, rfl⟩ := hcc
      obtain ⟨hlim, hK⟩ := he
      obtain ⟨v', w', G', h1, h2, h3⟩ := append_ok hV h hI rfl hc rfl rfl hcp hsv (opnd_tr hV h hx) hel hdx hk hlim ty d
      cases fz with
      | false => exact ⟨v', w', by simp [builtin, h1], _, G', hK, h2⟩
      | true =>
        obtain ⟨r, hr, _⟩ := live_spec hc
        obtain ⟨G2, h4, _⟩ := freeze h2 (List.getElem?_eq_some_iff.1 hr).1 h3
        exact ⟨v', w', by simp [builtin, h1], _, G2, hK, h4⟩
    · rename_i id2 c2 q2 hdx
      split at he
      case h_2 => exact he.elim
      rename_i q hcd
      split at he
      case isFalse => exact he.elim
      rename_i hk
      split at he
      case isFalse => exact he.elim
      rename_i hcc
      obtain ⟨rfl, rfl, rfl, _, hne, _⟩ := hcc
      obtain ⟨⟨hq, hq2, hlim⟩, hK⟩ := he
      obtain ⟨v', w', G', h1, h2⟩ := append_deep hV h hI rfl hc rfl rfl hcp hcd hsv (opnd_tr hV h hx) hdx hk hne hq hq2 hlim ty d
      exact ⟨v', w', by simp [builtin, h1], _, G', hK, h2⟩
  · exact he.elim
theorem make_own (h : Inv w0 prot S G a w) {t : Nat} {I : TyI} {k : RK} {e : Nat} (hI : look t V.tys = some I) (hel : I.el = some (k, e)) {x : Int} (q1 : 0 ≤ x) (q3 : x.toNat ≤ LIM) {id : Nat} {r : Row} (hr0 : S.rows[id]? = some r) (m : RM) (hm : m.d.getD 0 = 0 ∧ m.h = false ∧ m.p = false) (d : Option Nat) :
    ∃ v w' G', (Instr.makeSlice t (.int .i64 x) (.int .i64 x)).run P w = .ok v w' ∧ Inv w0 prot (S.app d ⟨.v false [.ref id (r.ep + 1)], [(id, ⟨r.ep + 1, some ⟨e, k, List.replicate x.toNat k.z, m⟩⟩)], []⟩) G' (a.put d v) w' := by
  obtain ⟨hu, J, hJ, hz⟩ := (hV t _ hI).sl k e hel
  obtain ⟨i, z, i1, i2, i3, i4, _⟩ := (hV e J hJ).info
  have hsz : i.size = k.size := by rw [i2, hz, cells_len]
  have hL : x.toNat ≤ 137438953472 := q3
  have hbm : (i.bytes : Int) * x ≤ 281474976710656 := by
    have h1024 : (i.bytes : Int) ≤ 1024 := by omega
    calc (i.bytes : Int) * x ≤ 1024 * x := Int.mul_le_mul_of_nonneg_right h1024 q1
      _ ≤ 281474976710656 := by omega
  have hr := run_make (P := P) w t e i z hu i1 i4 .i64 .i64 x x q1 (Int.le_refl _) hbm (by omega)
  rw [hsz] at hr
  obtain ⟨m1, m2⟩ := made_ok hV hJ hz G.F w x.toNat i1 i4
  generalize hcur : madeCells z.cells (x.toNat * k.size) = cur at hr m1 m2
  have hlr : (List.replicate x.toNat k.z).length = x.toNat := List.length_replicate
  obtain ⟨G', h4⟩ := h.own_new hr0 e k (List.replicate x.toNat k.z) m hm.2 cur (by rw [hlr]; exact m2) [] (by rw [dn_zero hm.1, DCs.zero]; exact ⟨m1, rfl⟩) List.nodup_nil (fun b hb => by cases hb) (by rw [hlr]; simp only [maxLen]; omega) d
  rw [hlr] at h4
  exact ⟨_, _, G', hr, h4⟩
theorem lit_own (h : Inv w0 prot S G a w) {t : Nat} {I : TyI} {k : RK} {e : Nat} (hI : look t V.tys = some I) (hel : I.el = some (k, e)) (n : Nat) (ps : Array (Nat × Operand)) (l : List k.El) (hb : elemsT V S k e 0 ps.toList = some l) (hl : l.length = n) (hn : n ≤ 1024)
    {id : Nat} {r : Row} (hr0 : S.rows[id]? = some r) (m : RM) (hm : m.d.getD 0 = 0 ∧ m.h = false ∧ m.p = false) (d : Option Nat) :
    ∃ v w' G', (Instr.buildSlice t n (ps.map fun p => (p.1, a.eval p.2))).run P w = .ok v w' ∧ Inv w0 prot (S.app d ⟨.v false [.ref id (r.ep + 1)], [(id, ⟨r.ep + 1, some ⟨e, k, l, m⟩⟩)], []⟩) G' (a.put d v) w' := by
  obtain ⟨arr, h2, h3⟩ := buildSlice_ok hV h hI hel n ps l hb hl hn
  have hal := h3.len
  rw [flat_len] at hal
  obtain ⟨G', h4⟩ := h.own_new hr0 e k l m hm.2 arr.toArray (by simpa using hal) [] (by rw [dn_zero hm.1, DCs.zero]; exact ⟨h3, rfl⟩) List.nodup_nil (fun b hb => by cases hb) (by rw [hl]; simp only [maxLen]; omega) d
  rw [hl] at h4
  exact ⟨_, _, G', h2, h4⟩
/-- A slice literal's cells, their rows given up into it. -/
theorem elems_fillO (h : Inv w0 prot S G a w) (k : RK) (et : Nat) : ∀ (ps : List (Nat × Operand)) (j : Nat) (l l0 : List k.El) (gs : List Nat) (arr : List Value) (T0 : List Nat), elemsO V S k et j ps = some (l, gs) → j = l0.length →
    DCs w G.F (j * k.size) (arr.take (j * k.size)) (flat k l0) T0 → arr.length = (j + l.length) * k.size →
      ∃ arr' T, Instr.fill (fun i => some (i * k.size, k.size)) arr.toArray (ps.map fun p => (p.1, a.eval p.2)) = some (List.toArray arr') ∧ arr'.length = (j + l.length) * k.size ∧ DCs w G.F ((j + l.length) * k.size) arr' (flat k (l0 ++ l)) (T0 ++ T) ∧ (gs.Nodup → T.Nodup) ∧ ∀ b ∈ T, ∃ g ∈ gs, G.who b = .rw g
  | [], j, l, l0, gs, arr, T0, he, hj, hf, hl => by
    simp only [elemsO, Option.some.injEq, Prod.mk.injEq] at he
    obtain ⟨rfl, rfl⟩ := he
    simp only [List.length_nil, Nat.add_zero] at hl
    rw [List.take_of_length_le (Nat.le_of_eq hl)] at hf
    exact ⟨arr, [], by simp [Instr.fill.eq_1], by simpa using hl, by simpa using hf, fun _ => List.nodup_nil, fun b hb => by cases hb⟩
  | (i, x) :: ps, j, l, l0, gs, arr, T0, he, hj, hf, hl => by
    simp only [elemsO] at he
    split at he
    · rename_i hij
      subst hij
      split at he
      · rename_i g cs hx
        split at he
        · rename_i ds gs1 hds
          split at he
          · rename_i e es gs2 hmk hes
            cases he
            obtain ⟨ys, hv, hys, hcl, _⟩ := VR.open (opnd_vr hV h hx)
            obtain ⟨T1, hyd, hT1, hT1t⟩ := give_ok h hys hds
            rw [← mk_cells k ds e hmk] at hyd
            have hyl := hyd.len.1
            rw [cells_len] at hyl hyd
            simp only [List.length_cons] at hl
            have hl2 : arr.length = i * k.size + k.size + es.length * k.size := by rw [hl, Nat.add_mul, Nat.add_mul]; omega
            have hpl : (putC arr (i * k.size) ys).length = arr.length := putC_len _ _ _ (by omega)
            have hTl : (arr.take (i * k.size)).length = i * k.size := by simp; omega
            obtain ⟨arr', T, h1, h2, h3, h4, h5⟩ := elems_fillO h k et ps (i + 1) es (l0 ++ [e]) gs2 (putC arr (i * k.size) ys) (T0 ++ T1) hes (by simp [hj]) (by
              have e1 : (putC arr (i * k.size) ys).take ((i + 1) * k.size) = arr.take (i * k.size) ++ ys := by
                have hlen : (arr.take (i * k.size) ++ ys).length = (i + 1) * k.size := by simp [hyl, Nat.add_mul]; omega
                rw [putC, ← hlen, List.take_left]
              rw [e1, flat_append, Nat.add_mul, Nat.one_mul]
              exact DCs.app hTl hf (by simpa [flat] using hyd)) (by rw [hpl, hl2, Nat.add_mul, Nat.add_mul]; omega)
            refine ⟨arr', T1 ++ T, ?_, by rw [h2]; simp only [List.length_cons]; congr 1; omega, ?_, fun hn => ?_, fun b hb => ?_⟩
            · rw [List.map_cons, fill_step _ arr.toArray i (i * k.size) k.size (a.eval x) _ rfl (by rw [hcl]; simp [hyl]) (by simp; omega), hcl]
              exact h1
            · simp only [List.length_cons]
              rw [show i + (es.length + 1) = i + 1 + es.length by omega]
              simpa using h3
            · obtain ⟨n1, n2, n3⟩ := List.nodup_append.1 hn
              refine List.nodup_append.2 ⟨hT1 n1, h4 n2, fun b hb b' hb' e => ?_⟩
              subst e
              obtain ⟨g1, hg1, hw1⟩ := hT1t b hb
              obtain ⟨g2, hg2, hw2⟩ := h5 b hb'
              rw [hw1] at hw2
              cases hw2
              exact n3 _ hg1 _ hg2 rfl
            · rcases List.mem_append.1 hb with hb | hb
              · obtain ⟨g1, hg1, hw1⟩ := hT1t b hb; exact ⟨g1, List.mem_append_left _ hg1, hw1⟩
              · obtain ⟨g1, hg1, hw1⟩ := h5 b hb; exact ⟨g1, List.mem_append_right _ hg1, hw1⟩
          · simp at he
        · simp at he
      · simp at he
    · simp at he
theorem lit_deep (h : Inv w0 prot S G a w) {t : Nat} {I : TyI} {k : RK} {e : Nat} (hI : look t V.tys = some I) (hel : I.el = some (k, e)) (n : Nat) (ps : Array (Nat × Operand)) (l : List k.El) (gs : List Nat) (hb : elemsO V S k e 0 ps.toList = some (l, gs)) (hl : l.length = n) (hn : n ≤ 1024)
    {id : Nat} {r : Row} (hr0 : S.rows[id]? = some r) (hgs : (id :: gs).Nodup) (d : Option Nat) :
    ∃ v w' G', (Instr.buildSlice t n (ps.map fun p => (p.1, a.eval p.2))).run P w = .ok v w' ∧ Inv w0 prot (S.app d ⟨.v false [.ref id (r.ep + 1)], deads S gs ++ [(id, ⟨r.ep + 1, some ⟨e, k, l, ⟨some l.length, false, 0, false⟩⟩⟩)], []⟩) G' (a.put d v) w' := by
  obtain ⟨hu, J, hJ, hz⟩ := (hV t I hI).sl k e hel
  have hsz : J.zc.length = k.size := by rw [hz, cells_len]
  obtain ⟨i, z, h1, h2, h3, h4, zr, h5, h6, _⟩ := (hV e J hJ).info
  have hk28 : k.size ≤ 28 := by cases k <;> decide
  have hns : n * k.size ≤ 1024 * 28 := Nat.mul_le_mul hn hk28
  obtain ⟨hidn, hgn⟩ := List.nodup_cons.1 hgs
  have key : ∀ zc : Array Value, zc.size = n * k.size → ∃ (arr' : List Value) (T : List Nat), Instr.fill (fun i => some (i * k.size, k.size)) zc (ps.toList.map fun p => (p.1, a.eval p.2)) = some arr'.toArray ∧ arr'.length = l.length * k.size ∧ DCs w G.F (l.length * k.size) arr' (flat k l) T ∧ T.Nodup ∧ ∀ b ∈ T, ∃ g ∈ gs, G.who b = .rw g := by
    intro zc hzc
    obtain ⟨arr', T, h8, h9, h10, h11, h12⟩ := elems_fillO hV h k e ps.toList 0 l [] gs zc.toList [] hb rfl (by simp [flat]; exact DCs.nil) (by simp [hzc, hl])
    exact ⟨arr', T, by simpa using h8, by simpa using h9, by simpa using h10, h11 hgn, h12⟩
  have fin : ∀ (arr' : List Value) (T : List Nat), (Instr.buildSlice t n (ps.map fun p => (p.1, a.eval p.2))).run P w = .ok (.slice (some ⟨w.heap.size, 0, none⟩) n n) (w.alloc (.cells arr'.toArray e (0, 0))) → arr'.length = l.length * k.size → DCs w G.F (l.length * k.size) arr' (flat k l) T → T.Nodup → (∀ b ∈ T, ∃ g ∈ gs, G.who b = .rw g) →
      ∃ v w' G', (Instr.buildSlice t n (ps.map fun p => (p.1, a.eval p.2))).run P w = .ok v w' ∧ Inv w0 prot (S.app d ⟨.v false [.ref id (r.ep + 1)], deads S gs ++ [(id, ⟨r.ep + 1, some ⟨e, k, l, ⟨some l.length, false, 0, false⟩⟩⟩)], []⟩) G' (a.put d v) w' := by
    intro arr' T hrun hal hD hTn hTt
    obtain ⟨hk1, hi1⟩ := h.kill gs T id hTt
    have hr1 : ((deads S gs).foldl (fun r p => r.set p.1 p.2) S.rows)[id]? = some r := by rw [deads_get hidn]; exact hr0
    obtain ⟨G', h4⟩ := hi1.own_new hr1 e k l ⟨some l.length, false, 0, false⟩ ⟨rfl, rfl⟩ arr'.toArray (by simpa using hal) T (hD.mono (fun b hb => ⟨(hk1.fz b hb).1, rfl⟩) fun _ _ => rfl) hTn (fun b hb => Gh.retag_in G id hb) (by rw [hl]; simp only [maxLen]; omega) d
    rw [hl] at h4
    refine ⟨_, _, G', hrun, ?_⟩
    rw [app_deads, hl]
    exact h4
  by_cases h0 : n * k.size = 0
  · obtain ⟨arr', T, h8, h9, h10, h11, h12⟩ := key #[] (by simp [h0])
    refine fin arr' T ?_ h9 h10 h11 h12
    have hz0 : ∀ f : Nat → Value, Array.map f (Array.range 0) = #[] := fun f => by apply Array.ext' ; simp
    simp only [Instr.buildSlice, Sem.run_bind, run_underlying hu, Result.andThen_ok, run_size hV hJ, hsz, h0]
    simp [hz0, h8, run_newRow']
  · obtain ⟨arr', T, h8, h9, h10, h11, h12⟩ := key (Array.map (fun x => z.cells[x % z.cells.size]!) (Array.range (n * k.size))) (by simp)
    refine fin arr' T ?_ h9 h10 h11 h12
    simp only [Instr.buildSlice, Sem.run_bind, run_underlying hu, Result.andThen_ok, run_size hV hJ, hsz]
    simp only [h0, show ¬ n * k.size > 2 ^ 24 by omega, if_false, zeroValue, typeInfo]
    simp [h1, h4, h8, run_newRow']
include hC
set_option maxHeartbeats 2000000 in
theorem eff_ok (h : Inv w0 prot S G a w) {o : Oper} {K : Outc → Prop} (he : eff V S o K) {Q : Exit → Act → World → Prop} {next : Act → World → Prop} (hn : ∀ a' w', After w0 prot S o.dst K a' w' → next a' w') : o.wp P a w next Q := by
  unfold eff at he
  split at he
  case h_1 t p x hop =>
    split at he
    · rename_i I b ep off g xs hI hp hx
      split at he
      · rename_i cs hcs
        split at he
        · rename_i hc
          obtain ⟨w', G', h1, h2⟩ := store_box hV h hI (opnd_tr hV h hp) (opnd_vr hV h hx) hcs hc.1 hc.2 o.dst
          exact upon_skip (by simp [execOp, hop, h1]) (hn _ _ ⟨_, G', he, h2⟩)
        · exact he.elim
      · exact he.elim
    · rename_i I id ep i off g xs hI hp hx
      split at he
      case h_2 => exact he.elim
      rename_i c hl
      split at he
      · exact he.elim
      rename_i hcp
      split at he
      · rename_i ds hds
        split at he
        case isFalse => exact he.elim
        rename_i hc
        split at he
        case h_2 => exact he.elim
        rename_i e hm
        have hg : (∀ q, c.m.d = some q → ds.any isRow = true → q ≤ i) ∧ K ⟨.und, [(id, ⟨ep, some ⟨c.e, c.k, c.l.set i e, c.m⟩⟩)], []⟩ := by
          unfold dGuard at he
          split at he
          · rename_i q hd hany
            exact ⟨fun q' hq' _ => by rw [hd] at hq'; cases hq'; exact he.1, (by have h9 := nameL_ok he.2; exact h9)⟩
          · rename_i hno
            exact ⟨fun q hq hany => absurd hany (hno q hq), (by have h9 := nameL_ok he; exact h9)⟩
        obtain ⟨w', G', h1, h2⟩ := store_row hV h hI (opnd_tr hV h hp) (opnd_vr hV h hx) hl hcp hds hc.1 hc.2 hm hg.1 o.dst
        exact upon_skip (by simp [execOp, hop, h1]) (hn _ _ ⟨_, G', hg.2, h2⟩)
      · split at he
        case h_2 => exact he.elim
        rename_i q ds gs hcd hgs
        split at he
        case isFalse => exact he.elim
        rename_i hc
        split at he
        case h_2 => exact he.elim
        rename_i e hm
        obtain ⟨⟨hc1, hc2⟩, hc3⟩ := hc
        simp only [Bool.and_eq_true, Bool.not_eq_true'] at hc3
        obtain ⟨w', G', h1, h2⟩ := store_deep hV h hI (opnd_tr hV h hp) (opnd_vr hV h hx) hl hcp hcd hgs hc1 hc2 (nodupB_spec hc3.1.1) hc3.1.2 hc3.2 hm he.1 o.dst
        exact upon_skip (by simp [execOp, hop, h1]) (hn _ _ ⟨_, G', he.2, h2⟩)
    · exact he.elim
  case h_2 op t x y u hop =>
    split at he
    · rename_i g zc kk zo fs k l hy hI hx
      obtain ⟨hu, _⟩ := elem_kind hV hI (k := kk.1) (e := kk.2) rfl
      cases hxx : S.opnd V t x with
      | none => rw [hxx] at hx; simp at hx
      | some q =>
        rw [hxx] at hx
        rcases elems_shape hV h (opnd_tr hV h hxx) hx with ⟨⟨xx, hv⟩, hl⟩ | ⟨g', off, cap, hv, _⟩
        · refine upon_val (v := .bool xx.isNone) (w' := w) (by simp [execOp, hop, hv, isNil_eval hy, eqGuard, Lib.run_eql_slice_nil w t kk.2 xx 0 0 0 0 hu]) (hn _ _ ⟨_, G, he xx.isNone (fun _ => hl), h.put (t := boo _) ⟨_, rfl, Rd.b _⟩ o.dst⟩)
        · refine upon_val (v := .bool false) (w' := w) (by simp [execOp, hop, hv, isNil_eval hy, eqGuard, Lib.run_eql_slice_nil w t kk.2 _ _ _ 0 0 hu]) (hn _ _ ⟨_, G, he false (fun h => by cases h), h.put (t := boo _) ⟨_, rfl, Rd.b _⟩ o.dst⟩)
    · rename_i g zc kk zo fs k l hy hI hx
      obtain ⟨hu, _⟩ := elem_kind hV hI (k := kk.1) (e := kk.2) rfl
      cases hxx : S.opnd V t x with
      | none => rw [hxx] at hx; simp at hx
      | some q =>
        rw [hxx] at hx
        rcases elems_shape hV h (opnd_tr hV h hxx) hx with ⟨⟨xx, hv⟩, hl⟩ | ⟨g', off, cap, hv, _⟩
        · refine upon_val (v := .bool (!xx.isNone)) (w' := w) (by simp [execOp, hop, hv, isNil_eval hy, eqGuard, run_neq_slice_nil_any w t kk.2 xx 0 0 0 0 hu]) (hn _ _ ⟨_, G, he xx.isNone (fun _ => hl), h.put (t := boo _) ⟨_, rfl, Rd.b _⟩ o.dst⟩)
        · refine upon_val (v := .bool true) (w' := w) (by simp [execOp, hop, hv, isNil_eval hy, eqGuard, run_neq_slice_nil_any w t kk.2 _ _ _ 0 0 hu]) (hn _ _ ⟨_, G, he false (fun h => by cases h), h.put (t := boo _) ⟨_, rfl, Rd.b _⟩ o.dst⟩)
    · exact he.elim
  case h_3 x hop =>
    split at he
    · rename_i id g zc k e zo fs hd' hI
      split at he
      · rename_i hx
        obtain ⟨r, hr, hK⟩ := rowNew_spec hV he
        obtain ⟨G', h2⟩ := h.own_nil hr e k (newM V o.dst) (newM_ok V o.dst) none o.dst
        exact upon_val (v := .slice none 0 0) (w' := w) (by simp [execOp, hop, isNil_eval hx]) (hn _ _ ⟨_, G', hK, h2⟩)
      · exact he.elim
    · exact he.elim
  case h_4 t ps hop =>
    split at he
    · rename_i ids I hd' hI
      split at he
      · rename_i hc
        obtain ⟨c1, c3⟩ := hc
        obtain ⟨v, h1, h2⟩ := build_own hV h hI c1 c3 ps he o.dst
        exact upon_val (by simp [execOp, hop, h1]) (hn _ _ h2)
      · exact he.elim
    · exact he.elim
  case h_5 t n ps hop =>
    split at he
    · rename_i id g zc k e zo fs hd' hI
      split at he
      · rename_i l hl
        split at he
        · rename_i hc
          obtain ⟨r, hr, hK⟩ := rowNew_spec hV he
          obtain ⟨v, w', G', h1, h2⟩ := lit_own hV h hI rfl n ps l hl hc.1 hc.2 hr (newM V o.dst) (newM_ok V o.dst) o.dst
          exact upon_val (exec_val (s := Instr.buildSlice t n (ps.map fun p => (p.1, a.eval p.2))) (by simp only [execOp, hop]) h1) (hn _ _ ⟨_, G', hK, h2⟩)
        · exact he.elim
      · split at he
        · rename_i l gs r hl hr
          split at he
          · rename_i hc
            obtain ⟨v, w', G', h1, h2⟩ := lit_deep hV h hI rfl n ps l gs hl hc.1.1 hc.1.2 hr (nodupB_spec hc.2) o.dst
            exact upon_val (exec_val (s := Instr.buildSlice t n (ps.map fun p => (p.1, a.eval p.2))) (by simp only [execOp, hop]) h1) (hn _ _ ⟨_, G', he, h2⟩)
          · exact he.elim
        · exact he.elim
    · exact he.elim
  case h_6 t n c hop =>
    split at he
    · rename_i id g zc k e zo fs x y hd' hI hx hy
      obtain ⟨⟨q1, q2, q3⟩, he⟩ := he
      subst q2
      obtain ⟨r, hr0, hK⟩ := rowNew_spec hV he
      obtain ⟨v, w', G', h1, h2⟩ := make_own hV h hI rfl q1 q3 hr0 (newM V o.dst) (newM_ok V o.dst) o.dst
      refine upon_val (exec_val (s := Instr.makeSlice t (a.eval n) (a.eval c)) (by simp only [execOp, hop]) ?_) (hn _ _ ⟨_, G', hK, h2⟩)
      rw [opnd_int hV h hx, opnd_int hV h hy]
      exact h1
    · exact he.elim
  case h_7 t x lo hi mx hop =>
    split at he
    · rename_i g zc k' e' zo fs id ep hI hx
      split at he
      · rename_i c hc
        split at he
        · rename_i hkk
          split at he
          · split at he
            · split at he
              · rename_i p k2 l2 q hs hcd
                split at he
                case isFalse => exact he.elim
                rename_i hk2
                split at he
                case isFalse => exact he.elim
                rename_i hcp
                obtain ⟨cm, hcm, hsv⟩ := opnd_vr hV h hx
                cases hcm
                obtain ⟨rfl, rfl⟩ := hkk
                subst hk2
                obtain ⟨⟨hp, hq⟩, hK⟩ := he
                obtain ⟨u, G', hrun, h2⟩ := slice_pool hV h hI rfl hc hcp hcd hsv lo hi mx hs hp hq (l2 := l2) rfl o.dst
                exact upon_val (v := u) (w' := w) (exec_val (by simp only [execOp, hop]) hrun) (hn _ _ ⟨_, G', hK, h2⟩)
              · exact he.elim
            split at he
            · split at he
              · rename_i p t' hs
                obtain ⟨cm, hcm, hsv⟩ := opnd_vr hV h hx
                cases hcm
                obtain ⟨rfl, rfl⟩ := hkk
                obtain ⟨u, G', hrun, h2⟩ := slice_fz hV h hI rfl hc hsv lo hi mx hs he.1 o.dst
                exact upon_val (v := u) (w' := w) (exec_val (by simp only [execOp, hop]) hrun) (hn _ _ ⟨_, G', he.2, h2⟩)
              · exact he.elim
            split at he
            · rename_i hi mx
              split at he
              · rename_i m n hm hn'
                obtain ⟨⟨e1, e2⟩, hK⟩ := he
                obtain ⟨cm, hcm, hsv⟩ := opnd_vr hV h hx
                cases hcm
                obtain ⟨rfl, rfl⟩ := hkk
                obtain ⟨r, hr, hep, hrc⟩ := live_spec hc
                have hid : id < S.rows.length := (List.getElem?_eq_some_iff.1 hr).1
                obtain ⟨hvh, zs, B, hown0, hBn, htag, hin⟩ := own_of hV h hc hsv
                obtain ⟨A, cap, hvA, hcap⟩ := hown0.out.shape
                obtain ⟨x1, y1, m1, _, _, _, _, _, _, g1, g2, g3, hrun⟩ := slice_run hV hI rfl A c.l.length cap hcap (lo' := none) (hi' := some (S.opnd V 0 hi)) (mx' := some (S.opnd V 0 mx)) (lo := none) (hi := some (a.eval hi)) (mx := some (a.eval mx)) trivial (lo_r h hV (some hi)) (lo_r h hV (some mx)) c.l rfl
                  (r := .v false [.d (.r c.k ((c.l.drop (0 : Int).toNat).take (m.toNat - (0 : Int).toNat)))]) (p := 0 ≤ (0 : Int) ∧ 0 ≤ m ∧ m ≤ n ∧ n ≤ c.l.length) (by simp [sliceT, endT, hm, hn']) ⟨by omega, by omega, by omega, by omega⟩
                obtain rfl : x1 = 0 := by simp only [endT, Option.some.injEq] at g1; omega
                obtain rfl : y1 = c.l.length := by simp only [endT, hm, Option.some.injEq] at g2; omega
                obtain rfl : m1 = c.l.length := by have := g3 _ rfl; simp only [hn', Option.some.injEq] at this; omega
                have hA : (if c.l.length = 0 then A else A.map (·.add (0 * c.k.size))) = A := by
                  split
                  · rfl
                  · cases A <;> simp [Addr.add]
                simp only [Nat.sub_zero] at hrun
                rw [hA] at hrun
                let v' : Value := .slice A c.l.length c.l.length
                have hvb : ∀ b, ownB v' = some b → ownB (a.eval x) = some b := fun b hb => by
                  rw [hvA]
                  cases A with
                  | none => simp [v', ownB] at hb
                  | some ad =>
                    rcases Nat.eq_zero_or_pos c.l.length with h0 | hpos
                    · simp only [v', h0, ownB_zero] at hb; cases hb
                    · rw [ownB_pos hpos] at hb
                      rw [ownB_pos (by omega)]; exact hb
                obtain ⟨hout, Bi, hdc, hB⟩ := hown0
                have hout' : outC w G.F v' c zs := by
                  unfold outC at hout ⊢
                  split at hout
                  · rename_i hpp
                    rw [hvA] at hout
                    exact hout.clip
                  · rename_i hpp
                    rw [hvA] at hout
                    refine ⟨hout.1, ?_⟩
                    rcases hout.2 with ⟨⟨xx, hxx⟩, h0⟩ | ⟨g, off, cap', hxx, q1, q2, q3⟩
                    · exact .inl ⟨⟨A, by show Value.slice A c.l.length c.l.length = _; rw [h0]⟩, h0⟩
                    · injection hxx with e1 e2 e3
                      exact .inr ⟨g, off, c.l.length, by show Value.slice A _ _ = _; rw [e1], q1, Nat.le_refl _, q3⟩
                have hsub : ∀ b ∈ obB c v', b ∈ obB c (a.eval x) := fun b hb => by
                  unfold obB at hb ⊢
                  split at hb
                  · simpa using hvb b (by simpa using hb)
                  · cases hb
                have hBn' : (obB c v' ++ Bi).Nodup := by
                  rw [hB] at hBn
                  obtain ⟨n1, n2, n3⟩ := List.nodup_append.1 hBn
                  refine List.nodup_append.2 ⟨?_, n2, fun b hb => n3 b (hsub b hb)⟩
                  unfold obB
                  split
                  · cases ownB v' <;> simp
                  · exact List.nodup_nil
                have ho : OwnX w G.F v' c zs (obB c v' ++ Bi) := ⟨hout', Bi, hdc, rfl⟩
                have hrow : RowR w (G.head id v') id ⟨ep + 1, some (c.nh false)⟩ := by
                  intro c' hc'
                  cases hc'
                  rw [Gh.head_same]
                  refine ⟨zs, _, ho.nh false, hBn', fun b hb => ?_, fun j hj k l hkl => ?_⟩
                  · show G.who b = _
                    rcases List.mem_append.1 hb with hb | hb
                    · exact htag b (by rw [hB]; exact List.mem_append_left _ (hsub b hb))
                    · exact htag b (by rw [hB]; exact List.mem_append_right _ hb)
                  · have e1 : RC.dn (c.nh false) = c.dn := by
                      unfold RC.dn RC.nh
                      dsimp only
                      rw [dpM_getD]
                    rw [e1] at hj
                    exact hin j hj k l hkl
                have := h.own hr ⟨ep + 1, some (c.nh false)⟩ (w' := w) (G' := G.head id v') (RowK.new (by dsimp only; omega) fun c' hc' => by cases hc'; rfl) (fun _ _ _ => ⟨rfl, rfl⟩) h.lt rfl (fun j hj => ⟨Gh.head_other _ _ _ hj, fun _ => rfl⟩) ⟨rfl, rfl, rfl, Nat.le_refl _⟩ hrow
                refine upon_val (v := v') (w' := w) (exec_val (s := Instr.sliceAt t (a.eval x) none (some (a.eval hi)) (some (a.eval mx))) (by simp only [execOp, hop, Option.map_none, Option.map_some]) (by rw [hvA]; exact hrun))
                  (hn _ _ ⟨_, _, hK, this.2 _ _ (ref_tr (c := c.nh false) (Gh.head_same _ _ _) (by rw [List.getElem?_set_self hid]) (ho.nh false)) o.dst⟩)
              · exact he.elim
            · exact he.elim
          · rename_i id' hd'
            split at he
            · rename_i hcz
              obtain ⟨c1, c2, c3⟩ := hcz
              obtain ⟨rfl, rfl⟩ := hkk
              obtain ⟨cm, hcm, hsv⟩ := opnd_vr hV h hx
              cases hcm
              obtain ⟨_, zs, B, hown0, _⟩ := own_of hV h hc hsv
              obtain ⟨r, hr, hK⟩ := rowNew_spec hV he
              obtain ⟨A, hrun⟩ := slice_zero hV h hI rfl hown0.out.shape c1 c2 c3
              obtain ⟨G', h2⟩ := h.own_nil hr c.e c.k (newM V o.dst) (newM_ok V o.dst) A o.dst
              exact upon_val (v := .slice A 0 0) (w' := w) (exec_val (by simp only [execOp, hop]) hrun) (hn _ _ ⟨_, G', hK, h2⟩)
            · exact he.elim
          · exact he.elim
        · exact he.elim
      · exact he.elim
    · rename_i g zc k' e' zo fs k l hI hx
      split at he
      · rename_i id hd'
        split at he
        · rename_i hc
          obtain ⟨rfl, c1, c2, c3⟩ := hc
          obtain ⟨r, hr, hK⟩ := rowNew_spec hV he
          obtain ⟨A, hrun⟩ := slice_zero hV h hI rfl (rd_shape (opnd_row hV h hx)) c1 c2 c3
          obtain ⟨G', h2⟩ := h.own_nil hr e' k (newM V o.dst) (newM_ok V o.dst) A o.dst
          exact upon_val (v := .slice A 0 0) (w' := w) (exec_val (by simp only [execOp, hop]) hrun) (hn _ _ ⟨_, G', hK, h2⟩)
        · exact he.elim
      · exact he.elim
    · exact he.elim
  case h_8 b args tys hop =>
    obtain ⟨v, w', hr, h2⟩ := effB_ok hV h o.type (args.map fun | .const v => true | x => false) he o.dst
    refine upon_val ?_ (hn _ _ h2)
    simp only [execOp, hop, resolve, Sem.run_bind, Sem.run_pure, Result.andThen_ok, invoke]
    exact hr
  case h_9 f args tys hop =>
    split at he
    · rename_i E ts hE hts
      have hcall := call_ok hC.calls h hE (d := o.dst) (opnds_tr hV h hts) he
      obtain ⟨fn, f1, f2, f3⟩ := (hC.calls f E hE).1
      unfold Oper.wp
      have hrun : (execOp a.eval o).run P w = .ok (.enter f (args.toList.map a.eval).toArray) w := by
        have hb : fn.body ≠ none := by intro hbd; rw [hbd] at f2; simp at f2
        have hnm : fn.name ≠ "runtime.NumGoroutine" := by simpa using f3
        simp [execOp, hop, resolve, Deferred.ofValue, Act.eval, invoke, callFunc, f1, hnm, hb]
        apply Array.ext'
        simp
      rw [hrun]
      refine Calls.mono hcall ?_
      rintro e w' ⟨v, rfl, h2⟩
      exact hn _ _ h2
    · rename_i ts _ hts
      split at he
      case h_2 => exact he.elim
      rename_i E hE
      have hcall := callIo_ok hC.ios h hE (d := o.dst) (opnds_tr hV h hts) he
      obtain ⟨fn, f1, f2, f3⟩ := (hC.ios f E hE).1
      unfold Oper.wp
      have hrun : (execOp a.eval o).run P w = .ok (.enter f (args.toList.map a.eval).toArray) w := by
        have hb : fn.body ≠ none := by intro hbd; rw [hbd] at f2; simp at f2
        have hnm : fn.name ≠ "runtime.NumGoroutine" := by simpa using f3
        simp [execOp, hop, resolve, Deferred.ofValue, Act.eval, invoke, callFunc, f1, hnm, hb]
        apply Array.ext'
        simp
      rw [hrun]
      refine Calls.mono hcall ?_
      rintro e w' ⟨v, rfl, h2⟩
      exact hn _ _ h2
    · exact he.elim
  case h_10 f first captured hop =>
    split at he
    · rename_i x h1 h2
      split at he
      · rename_i b ep hx
        split at he
        · rename_i cs hcs
          obtain rfl : first = #[] := Array.toList_inj.1 h1
          obtain rfl : captured = #[x] := Array.toList_inj.1 h2
          obtain ⟨B, hB, hep, hBc⟩ := box_spec hcs
          have hv := ((opnd_tr hV h hx) B hB).2 hep (by rw [hBc]; rfl)
          refine upon_val (v := .func (.func f) #[] #[.pointer (some ⟨G.bk b, 0, none⟩)]) (w' := w) ?_ (hn _ _ ⟨_, G, he, h.put (t := .fn f (some (b, ep))) (fun B' hB' => ?_) o.dst⟩)
          · simp [execOp, hop, Instr.makeFunc, hv]
          · rw [hB] at hB'; cases hB'
            exact ⟨Nat.le_of_eq hep, fun _ _ => rfl⟩
        · exact he.elim
      · exact he.elim
    · exact he.elim
  case h_11 t args tys hop =>
    split at he
    · rename_i f cb hst
      split at he
      · rename_i E ts hE hts
        split at he
        · rename_i hcl
          have hv : TR w G S.rows S.boxes (a.tmps.getD t undef) (.fn f cb) := h.slot t _ hst
          -- what the function value holds
          obtain ⟨cap, hcap, hcts⟩ : ∃ cap : List Value, a.tmps.getD t undef = .func (.func f) #[] cap.toArray ∧ F2 (TR w G S.rows S.boxes) cap (cbT cb) := by
            obtain ⟨_, hlive⟩ := hcl
            cases cb with
            | none => exact ⟨[], hv, .nil⟩
            | some p =>
              obtain ⟨b, ep⟩ := p
              obtain ⟨cs, hcs⟩ := Option.isSome_iff_exists.1 hlive
              obtain ⟨B, hB, hep, hBc⟩ := box_spec hcs
              refine ⟨[ptrV (G.bk b)], (hv B hB).2 hep (by rw [hBc]; rfl), .cons (fun B' hB' => ?_) .nil⟩
              rw [hB] at hB'; cases hB'
              exact ⟨Nat.le_of_eq hep, fun _ _ => rfl⟩
          have hcall := callC_ok hC.calls h hE (d := o.dst) ((opnds_tr hV h hts).app hcts) he
          rw [Option.isNone_iff_eq_none.1 hcl.1, wrapV_none] at hcall
          obtain ⟨fn, f1, f2, f3⟩ := (hC.calls f E hE).1
          unfold Oper.wp
          have hrun : (execOp a.eval o).run P w = .ok (.enter f (args.toList.map a.eval ++ cap).toArray) w := by
            have hb : fn.body ≠ none := by intro hbd; rw [hbd] at f2; simp at f2
            have hnm : fn.name ≠ "runtime.NumGoroutine" := by simpa using f3
            have hev : a.eval (.tmp t) = .func (.func f) #[] cap.toArray := hcap
            simp [execOp, hop, resolve, Deferred.ofValue, hev, invoke, callFunc, f1, hnm, hb]
          rw [hrun]
          refine Calls.mono hcall ?_
          rintro e w' ⟨v, rfl, h2⟩
          exact hn _ _ h2
        · exact he.elim
      · exact he.elim
    · exact he.elim
  case h_12 => exact he.elim
end
end Go.Proofs.YtkencmgcibbfaaaE

/- An operation's outcomes are Go's; regions in the order of the text. Conditions: none. -/
set_option linter.unusedVariables false
namespace Go.Proofs.YtkencmgcibbfaaaE
open Go Go.RowKit
section
variable {P : Program} {V : Env} (hV : TysOk P V) (hC : AllOk P V) {w0 : World} {prot : Pro}
theorem part0_spec {g : Bool} {out : Outc} {K : Outc → Prop} (h : part0 g out K) : K out := by
  unfold part0 at h
  split at h
  · rename_i x ht
    split at h
    · rename_i hx
      subst hx
      have : ({ out with t := boo true } : Outc) = out := by cases out; simp only at ht; subst ht; rfl
      rwa [this] at h
    · rename_i hx
      have hx' : x = false := by simpa using hx
      subst hx'
      have : ({ out with t := boo false } : Outc) = out := by cases out; simp only at ht; subst ht; rfl
      rwa [this] at h
  · exact h
theorem part0_mk {g : Bool} {out : Outc} {K : Outc → Prop} (h : K out) : part0 g out K := by
  unfold part0
  split
  · rename_i x ht
    split
    · rename_i hx
      subst hx
      have : ({ out with t := boo true } : Outc) = out := by cases out; simp only at ht; subst ht; rfl
      rwa [this]
    · rename_i hx
      have hx' : x = false := by simpa using hx
      subst hx'
      have : ({ out with t := boo false } : Outc) = out := by cases out; simp only at ht; subst ht; rfl
      rwa [this]
  · exact h
theorem part1_spec {g : Bool} {out : Outc} {K : Outc → Prop} (h : part1 g out K) : K out := by
  unfold part1 at h
  split at h
  · rename_i x ht
    cases h with
    | yes hx h =>
      subst hx
      have : ({ out with t := boo true } : Outc) = out := by cases out; simp only at ht; subst ht; rfl
      rwa [this] at h
    | no hx h =>
      have hx' : x = false := by simpa using hx
      subst hx'
      have : ({ out with t := boo false } : Outc) = out := by cases out; simp only at ht; subst ht; rfl
      rwa [this] at h
  · exact h
theorem part1_mk {g : Bool} {out : Outc} {K : Outc → Prop} (h : K out) : part1 g out K := by
  unfold part1
  split
  · rename_i x ht
    by_cases hx : x = true
    · subst hx
      have : ({ out with t := boo true } : Outc) = out := by cases out; simp only at ht; subst ht; rfl
      exact .yes rfl (by rwa [this])
    · have hx' : x = false := by simpa using hx
      subst hx'
      have : ({ out with t := boo false } : Outc) = out := by cases out; simp only at ht; subst ht; rfl
      exact .no hx (by rwa [this])
  · exact h
omit hV hC in
theorem part_spec {d : Option Nat} {g : Bool} {out : Outc} {K : Outc → Prop} (h : part V d g out K) : K out := by
  unfold part at h
  split at h
  · exact part0_spec h
  · exact part1_spec h
omit hV hC in
theorem part_mk {d : Option Nat} {g : Bool} {out : Outc} {K : Outc → Prop} (h : K out) : part V d g out K := by
  unfold part
  split
  · exact part0_mk h
  · exact part1_mk h
theorem gst_ok {S : St} {G : Gh} {a : Act} {w : World} (h : Inv w0 prot S G a w) {ops : Array Oper} {o : Oper} {b : Bool} (hg : gst S ops o = some b) : Region.wanted o (yielded ops a.tmps) = b := by
  rw [gst_eq] at hg
  unfold gst0 at hg
  unfold Region.wanted
  split at hg
  · rename_i hgd; cases hg; rw [hgd]
  · rename_i g want hgd
    rw [hgd]
    split at hg
    · rename_i t ht
      split at hg
      · rename_i x hx
        cases hg
        obtain ⟨c, hc, hr⟩ := h.slot t _ hx
        cases hc
        have hv := Rd.bool hr
        have hlt : t < a.tmps.size := by rw [h.len]; exact (List.getElem?_eq_some_iff.1 hx).1
        have : yielded ops a.tmps g = some x := by
          unfold yielded
          rw [ht]
          simp only [Option.bind_some]
          rw [show a.tmps[t]? = some (.bool x) by rw [Array.getElem?_eq_getElem hlt]; simp [Array.getD, hlt] at hv; rw [hv]]
        simp only [this]
        cases x <;> cases want <;> rfl
      · rename_i hx
        cases hg
        have hv : a.tmps.getD t undef = undef := h.slot t _ hx
        have hlt : t < a.tmps.size := by rw [h.len]; exact (List.getElem?_eq_some_iff.1 hx).1
        have : yielded ops a.tmps g = none := by
          unfold yielded
          rw [ht]
          simp only [Option.bind_some]
          rw [show a.tmps[t]? = some undef by rw [Array.getElem?_eq_getElem hlt]; simp [Array.getD, hlt] at hv; rw [hv]]
          rfl
        simp [this]
      · simp at hg
    · simp at hg
include hV hC
theorem Out_ok {S : St} {G : Gh} {a : Act} {w : World} (h : Inv w0 prot S G a w) {o : Oper} {K : Outc → Prop} (hk : Out V S o K) {Q : Exit → Act → World → Prop} {next : Act → World → Prop} (hn : ∀ a' w', After w0 prot S o.dst K a' w' → next a' w') : o.wp P a w next Q := by
  unfold Out at hk
  split at hk
  · rename_i out he
    obtain ⟨v, w', G', h1, h2⟩ := eag_ok hV h he (fun q hq => by cases hq)
    exact upon_val h1 (hn _ _ ⟨_, G', hk, h2⟩)
  · rename_i p out he
    obtain ⟨v, w', G', h1, h2⟩ := eag_ok hV h he (fun q hq => by cases hq; exact hk.1)
    exact upon_val h1 (hn _ _ ⟨_, G', hk.2, h2⟩)
  · exact eff_ok hV hC h hk hn
/-- One operation of a region. -/
theorem step_ok {S : St} {G : Gh} {a : Act} {w : World} (h : Inv w0 prot S G a w) {ops : Array Oper} {i : Nat} {o : Oper} (ho : ops[i]? = some o) {K : Outc → Prop} (hk : stepO V S ops o K) {Q : Exit → Act → World → Prop} {next : Act → World → Prop}
    (hn : ∀ a' w', After w0 prot S o.dst K a' w' → next a' w') : wpOp P ops Q i next a w := by
  unfold stepO at hk
  unfold wpOp
  simp only [ho]
  split at hk
  · rename_i b hb
    have hw := gst_ok h hb
    rw [hw]
    split at hk
    · rw [if_pos rfl]
      refine .inl (Out_ok hV hC h hk fun a' w' ha => hn a' w' ?_)
      obtain ⟨out, G', h1, h2⟩ := ha
      exact ⟨out, G', part_spec h1, h2⟩
    · rw [if_neg (by decide)]
      exact hn _ _ ⟨_, G, hk, h.put (v := undef) (t := .und) rfl o.dst⟩
  · exact hk.elim
theorem evOps_ok {ops : Array Oper} {Q : Exit → Act → World → Prop} : ∀ {l : List Oper} {i : Nat} {S : St} {G : Gh} {a : Act} {w : World} {K : St → Prop}, ops.toList.drop i = l → Inv w0 prot S G a w → evOps V ops l S K → (∀ S' G' a' w', Inv w0 prot S' G' a' w' → K S' → Q .normal a' w') → wpOps P ops Q (List.range' i l.length) a w
  | [], i, S, G, a, w, K, hl, h, hk, hn => hn S G a w h hk
  | o :: l, i, S, G, a, w, K, hl, h, hk, hn => by
    have ho : ops[i]? = some o := by
      have : (ops.toList.drop i)[0]? = some o := by rw [hl]; rfl
      rw [List.getElem?_drop] at this
      simpa using this
    have hl' : ops.toList.drop (i + 1) = l := by
      rw [← List.drop_drop, hl]; rfl
    rw [List.length_cons, List.range'_succ, wpOps_cons]
    refine step_ok hV hC h ho (show stepO V S ops o _ from hk) fun a' w' ha => ?_
    obtain ⟨out, G', h1, h2⟩ := ha
    rw [St.appK_eq] at h1
    exact evOps_ok hl' h2 h1 hn
end
end Go.Proofs.YtkencmgcibbfaaaE

/- Operations that do not touch each other may be taken in either order: what an operation looks at. Conditions: none. -/
set_option linter.unusedVariables false
namespace Go.Proofs.YtkencmgcibbfaaaE
open Go Go.RowKit
def T.bx : T → Option Nat
  | .pb b _ _ => some b
  | .fn _ (some (b, _)) => some b
  | _ => none
def noPbO (X : Option Nat) (t : T) : Prop := ∀ b, t.bx = some b → X ≠ some b
theorem noPbO_v (X : Option Nat) (g : Bool) (cs : List Cm) : noPbO X (.v g cs) := fun _ h => by cases h
theorem noPbO_und (X : Option Nat) : noPbO X .und := fun _ h => by cases h
/-- S' is S to the operation o; X: a variable that is there in S' and, to o, is not. -/
structure Sim (V : Env) (o : Oper) (X : Option Nat) (S S' : St) : Prop where
  rows : S'.rows = S.rows
  opnd : ∀ x ∈ o.op.operands, ∀ ty, S'.opnd V ty x = S.opnd V ty x
  box : ∀ b, X ≠ some b → S'.boxes[b]? = S.boxes[b]?
  no : ∀ x ∈ o.op.operands, ∀ ty t, S.opnd V ty x = some t → noPbO X t
  live : ∀ b, X = some b → ∃ B, S'.boxes[b]? = some B ∧ B.c.isSome = true
section
variable {V : Env} {o : Oper} {X : Option Nat} {S S' : St}
theorem Sim.lv (h : Sim V o X S S') (id ep : Nat) : S'.live id ep = S.live id ep := by unfold St.live; rw [h.rows]
theorem Sim.el (h : Sim V o X S S') (t : T) : S'.elems t = S.elems t := by
  unfold St.elems
  split <;> first | rfl | (rw [h.lv])
theorem Sim.bx (h : Sim V o X S S') {b : Nat} (hb : X ≠ some b) (ep : Nat) : S'.box b ep = S.box b ep := by unfold St.box; rw [h.box b hb]
theorem Sim.field (h : Sim V o X S S') {t : T} (ht : noPbO X t) (off : Nat) : fieldT S' off t = fieldT S off t := by
  unfold fieldT
  split
  · rename_i b ep o'; rw [h.bx (ht b rfl)]
  · rfl
  · rw [h.lv]
  · rfl
theorem Sim.load (h : Sim V o X S S') {t : T} (ht : noPbO X t) (g : Bool) (n : Nat) : loadT S' g n t = loadT S g n t := by
  unfold loadT
  split
  · rename_i b ep o'; rw [h.bx (ht b rfl)]
  · rfl
  · rw [h.lv]
  · rfl
theorem Sim.index (h : Sim V o X S S') (t : T) (i : Int) : indexT S' t i = indexT S t i := by
  unfold indexT
  split
  · rfl
  · rw [h.lv]
  · rfl
theorem build_sim (fs : List (Nat × Nat)) : ∀ (ps : List (Nat × Operand)) (cs : List Cm), (∀ p ∈ ps, ∀ ty, S'.opnd V ty p.2 = S.opnd V ty p.2) → buildT V S' fs ps cs = buildT V S fs ps cs
  | [], cs, _ => rfl
  | (f, x) :: ps, cs, h => by
    simp only [buildT]
    have hx := h (f, x) (by simp)
    simp only at hx
    split
    · rename_i off ft _
      rw [hx ft]
      split
      · split
        · exact build_sim fs ps _ fun p hp => h p (by simp [hp])
        · rfl
      · rfl
    · rfl
theorem elems_sim (k : RK) (et : Nat) : ∀ (ps : List (Nat × Operand)) (j : Nat), (∀ p ∈ ps, ∀ ty, S'.opnd V ty p.2 = S.opnd V ty p.2) → elemsT V S' k et j ps = elemsT V S k et j ps
  | [], j, _ => rfl
  | (i, x) :: ps, j, h => by
    simp only [elemsT]
    have hx := h (i, x) (by simp) et
    simp only at hx
    rw [hx, elems_sim k et ps (j + 1) fun p hp => h p (by simp [hp])]
theorem opnds_sim : ∀ (xs : List Operand) (tys : List Nat), (∀ x ∈ xs, ∀ ty, S'.opnd V ty x = S.opnd V ty x) → opnds V S' xs tys = opnds V S xs tys
  | [], _, _ => by simp only [opnds]
  | _ :: _, [], _ => rfl
  | x :: xs, ty :: tys, h => by
    simp only [opnds]
    rw [h x (by simp), opnds_sim xs tys fun y hy => h y (by simp [hy])]
theorem intOp_v {k : IntKind} {x y : Int} {op : BinOp} {p : Option Prop} {t : T} (h : intOp k x y op = some (p, t)) : ∃ g cs, t = .v g cs := by
  cases op <;> simp only [intOp] at h <;> first | (cases h; exact ⟨_, _, rfl⟩) | simp at h
theorem binT_v {tb : Bool} {op : BinOp} {a b t : T} {p : Option Prop} (h : binT tb op a b = some (p, t)) : ∃ g cs, t = .v g cs := by
  unfold binT at h
  split at h
  · split at h
    · cases h; exact ⟨_, _, rfl⟩
    · cases h; exact ⟨_, _, rfl⟩
    · split at h
      · exact intOp_v h
      · simp at h
  · split at h
    · cases h; exact ⟨_, _, rfl⟩
    · cases h; exact ⟨_, _, rfl⟩
    · simp at h
  · simp at h
theorem val_boxes (t : T) : (val t).boxes = [] := rfl
theorem val_t (t : T) : (val t).t = t := rfl
/-- What yields a value, but for what makes a variable. -/
theorem eag_sim (h : Sim V o X S S') (hb : ∀ t x, o.op ≠ .box t x) (ha : ∀ t, o.op ≠ .alloc t) :
    eag V S' o = eag V S o ∧ ∀ p out, eag V S o = some (p, out) → out.boxes = [] ∧ noPbO X out.t := by
  obtain ⟨dst, op, ty, pos, after, guard⟩ := o
  simp only at hb ha
  cases op with
  | move x =>
    have h0 := h.opnd x (by simp [Op.operands])
    refine ⟨by simp only [eag, h0], fun p out he => ?_⟩
    obtain ⟨t, h1, rfl⟩ := one_map he
    exact ⟨rfl, h.no x (by simp [Op.operands]) _ t h1⟩
  | assign x =>
    have h0 := h.opnd x (by simp [Op.operands])
    refine ⟨by simp only [eag, h0], fun p out he => ?_⟩
    simp only [eag] at he
    split at he
    · obtain ⟨t, h1, rfl⟩ := one_map he
      exact ⟨rfl, h.no x (by simp [Op.operands]) _ t h1⟩
    · simp at he
  | pick c x y =>
    have h0 := h.opnd c (by simp [Op.operands])
    have h1 := h.opnd x (by simp [Op.operands])
    have h2 := h.opnd y (by simp [Op.operands])
    refine ⟨by simp only [eag, h0, h1, h2], fun p out he => ?_⟩
    simp only [eag] at he
    split at he
    · rename_i t _
      obtain ⟨r, h3, rfl⟩ := one_map he
      refine ⟨rfl, ?_⟩
      rcases pickT_cases h3 with ⟨_, _, _, _, rfl⟩ | h4
      · exact noPbO_v _ _ _
      · cases t
        · exact h.no y (by simp [Op.operands]) _ r h4
        · exact h.no x (by simp [Op.operands]) _ r h4
    · simp at he
  | nilCheck x =>
    have h0 := h.opnd x (by simp [Op.operands])
    have hf : ∀ t, S.opnd V 0 x = some t → fieldT S' 0 t = fieldT S 0 t := fun t ht => h.field (h.no x (by simp [Op.operands]) _ t ht) 0
    refine ⟨?_, fun p out he => ?_⟩
    · simp only [eag, h0]
      cases ht : S.opnd V 0 x with
      | none => rfl
      | some t => simp only [Option.bind_some, hf t ht]
    · simp only [eag] at he
      obtain ⟨r, h1, rfl⟩ := one_map he
      refine ⟨rfl, ?_⟩
      cases ht : S.opnd V 0 x with
      | none => rw [ht] at h1; simp at h1
      | some t =>
        rw [ht] at h1
        have hn := h.no x (by simp [Op.operands]) _ t ht
        simp only [Option.bind_some, fieldT] at h1
        split at h1
        · split at h1
          · cases h1; intro b e; cases e; exact hn _ rfl
          · simp at h1
        · cases h1; intro _ e; cases e
        · split at h1
          · cases h1; intro _ e; cases e
          · simp at h1
        · simp at h1
  | fieldAddr s x f =>
    have h0 := h.opnd x (by simp [Op.operands])
    have hf : ∀ t off, S.opnd V 0 x = some t → fieldT S' off t = fieldT S off t := fun t off ht => h.field (h.no x (by simp [Op.operands]) _ t ht) off
    refine ⟨?_, fun p out he => ?_⟩
    · simp only [eag, h0]
      cases ht : S.opnd V 0 x with
      | none => cases V.ty s <;> rfl
      | some t =>
        have hf' := fun off => hf t off ht
        cases V.ty s with
        | none => rfl
        | some I => simp only [hf']
    · simp only [eag] at he
      split at he
      · rename_i I t _ ht
        split at he
        · split at he
          · split at he
            · simp at he
            · obtain ⟨r, h1, rfl⟩ := one_map he
              refine ⟨rfl, ?_⟩
              have hn := h.no x (by simp [Op.operands]) _ t ht
              simp only [fieldT] at h1
              split at h1
              · split at h1
                · cases h1; intro b e; cases e; exact hn _ rfl
                · simp at h1
              · cases h1; intro _ e; cases e
              · split at h1
                · cases h1; intro _ e; cases e
                · simp at h1
              · simp at h1
          · simp at he
        · simp at he
      · simp at he
  | load t x =>
    have h0 := h.opnd x (by simp [Op.operands])
    have hf : ∀ q g n, S.opnd V 0 x = some q → loadT S' g n q = loadT S g n q := fun q g n hq => h.load (h.no x (by simp [Op.operands]) _ q hq) g n
    refine ⟨?_, fun p out he => ?_⟩
    · simp only [eag, h0]
      cases hq : S.opnd V 0 x with
      | none => cases V.ty t <;> rfl
      | some q =>
        have hf' := fun g n => hf q g n hq
        cases V.ty t with
        | none => rfl
        | some I => simp only [hf']
    · simp only [eag] at he
      split at he
      · split at he
        · simp at he
        · obtain ⟨r, h1, rfl⟩ := one_spec he
          refine ⟨rfl, ?_⟩
          simp only [val_t]
          unfold loadT at h1
          split at h1
          · split at h1
            · split at h1
              · cases h1; exact noPbO_v _ _ _
              · simp at h1
            · simp at h1
          · split at h1
            · cases h1; exact noPbO_v _ _ _
            · simp at h1
          · split at h1
            · split at h1
              · split at h1
                · cases h1; exact noPbO_v _ _ _
                · split at h1
                  · cases h1; exact noPbO_v _ _ _
                  · split at h1
                    · cases h1; intro _ e; cases e
                    · cases h1; exact noPbO_v _ _ _
              · simp at h1
            · simp at h1
          · simp at h1
      · simp at he
  | binOp op t x y u =>
    have h0 := h.opnd x (by simp [Op.operands])
    have h1 := h.opnd y (by simp [Op.operands])
    refine ⟨by simp only [eag, h0, h1], fun p out he => ?_⟩
    simp only [eag] at he
    split at he
    · split at he
      · cases he
        exact ⟨rfl, noPbO_v _ _ _⟩
      · obtain ⟨r, h2, rfl⟩ := one_spec he
        obtain ⟨g, cs, rfl⟩ := binT_v h2
        exact ⟨rfl, noPbO_v _ _ _⟩
    · simp at he
  | unOp op t x =>
    have h0 := h.opnd x (by simp [Op.operands])
    refine ⟨by simp only [eag, h0], fun p out he => ?_⟩
    simp only [eag] at he
    split at he
    · obtain ⟨r, h2, rfl⟩ := one_spec he
      cases h2; exact ⟨rfl, noPbO_v _ _ _⟩
    · obtain ⟨r, h2, rfl⟩ := one_spec he
      cases h2; exact ⟨rfl, noPbO_v _ _ _⟩
    · simp at he
  | convert s t x =>
    have h0 := h.opnd x (by simp [Op.operands])
    refine ⟨by simp only [eag, h0], fun p out he => ?_⟩
    simp only [eag] at he
    split at he
    · obtain ⟨r, h2, rfl⟩ := one_spec he
      cases h2; exact ⟨rfl, noPbO_v _ _ _⟩
    · simp at he
  | extract x i =>
    have h0 := h.opnd x (by simp [Op.operands])
    refine ⟨by simp only [eag, h0], fun p out he => ?_⟩
    simp only [eag] at he
    split at he
    · split at he
      · obtain ⟨r, h2, rfl⟩ := one_spec he
        cases h2; exact ⟨rfl, noPbO_v _ _ _⟩
      · simp at he
    · simp at he
  | build t ps =>
    have hp : ∀ p ∈ ps.toList, ∀ ty, S'.opnd V ty p.2 = S.opnd V ty p.2 := fun p hp ty => h.opnd p.2 (by simp only [Op.operands, List.mem_toArray]; exact List.mem_map.2 ⟨p, hp, rfl⟩) ty
    refine ⟨?_, fun p out he => ?_⟩
    · simp only [eag, build_sim _ _ _ hp]
    · simp only [eag] at he
      split at he
      · split at he
        · split at he
          · obtain ⟨r, h2, rfl⟩ := one_spec he
            cases h2; exact ⟨rfl, noPbO_v _ _ _⟩
          · simp at he
        · simp at he
      · simp at he
  | buildSlice t n ps =>
    have hp : ∀ p ∈ ps.toList, ∀ ty, S'.opnd V ty p.2 = S.opnd V ty p.2 := fun p hp ty => h.opnd p.2 (by simp only [Op.operands, List.mem_toArray]; exact List.mem_map.2 ⟨p, hp, rfl⟩) ty
    refine ⟨?_, fun p out he => ?_⟩
    · simp only [eag, elems_sim _ _ _ _ hp]
    · simp only [eag] at he
      split at he
      · split at he
        · split at he
          · obtain ⟨r, h2, rfl⟩ := one_spec he
            cases h2; exact ⟨rfl, noPbO_v _ _ _⟩
          · simp at he
        · simp at he
      · simp at he
  | makeSlice t n c =>
    have h0 := h.opnd n (by simp [Op.operands])
    have h1 := h.opnd c (by simp [Op.operands])
    refine ⟨by simp only [eag, h0, h1], fun p out he => ?_⟩
    simp only [eag] at he
    split at he
    · obtain ⟨r, h2, rfl⟩ := one_spec he
      cases h2; exact ⟨rfl, noPbO_v _ _ _⟩
    · simp at he
  | indexAddr t x i =>
    have h0 := h.opnd x (by simp [Op.operands])
    have h1 := h.opnd i (by simp [Op.operands])
    refine ⟨by simp only [eag, h0, h1, h.el, h.index], fun p out he => ?_⟩
    simp only [eag] at he
    split at he
    · split at he
      · split at he
        · obtain ⟨r, h2, rfl⟩ := one_spec he
          refine ⟨rfl, ?_⟩
          simp only [val_t]
          unfold indexT at h2
          split at h2
          · cases h2; intro _ e; cases e
          · split at h2
            · split at h2
              · cases h2; intro _ e; cases e
              · simp at h2
            · simp at h2
          · simp at h2
        · simp at he
      · simp at he
    · simp at he
  | slice t x lo hi mx =>
    have h0 := h.opnd x (by simp [Op.operands])
    have hl : lo.map (S'.opnd V 0) = lo.map (S.opnd V 0) := by cases lo with
      | none => rfl
      | some y => simp only [Option.map_some]; rw [h.opnd y (by simp [Op.operands])]
    have hh : hi.map (S'.opnd V 0) = hi.map (S.opnd V 0) := by cases hi with
      | none => rfl
      | some y => simp only [Option.map_some]; rw [h.opnd y (by simp [Op.operands])]
    have hm : mx.map (S'.opnd V 0) = mx.map (S.opnd V 0) := by cases mx with
      | none => rfl
      | some y => simp only [Option.map_some]; rw [h.opnd y (by simp [Op.operands])]
    refine ⟨by simp only [eag, h0, hl, hh, hm], fun p out he => ?_⟩
    simp only [eag] at he
    split at he
    · split at he
      · obtain ⟨r, h2, rfl⟩ := one_spec he
        refine ⟨rfl, ?_⟩
        simp only [val_t]
        unfold sliceT at h2
        split at h2
        · split at h2
          · cases h2; exact noPbO_v _ _ _
          · split at h2
            · cases h2; exact noPbO_v _ _ _
            · simp at h2
        · simp at h2
      · simp at he
    · simp at he
  | call c =>
    obtain ⟨callee, args, tys⟩ := c
    cases callee with
    | builtin b =>
      have ho : ∀ x ∈ args.toList, ∀ ty, S'.opnd V ty x = S.opnd V ty x := fun x hx ty => h.opnd x (by simp only [Op.operands, Call.operands]; simpa using hx) ty
      have key : eagB V S' b args.toList tys.toList = eagB V S b args.toList tys.toList := by
        generalize args.toList = A at ho
        generalize tys.toList = Ts
        unfold eagB
        split
        · rename_i x t
          rw [ho x (by simp)]
          have : S'.elems = S.elems := funext h.el
          rw [this]
        · rename_i x y t u
          rw [ho x (by simp), ho y (by simp)]
        · rename_i x y t u
          rw [ho x (by simp), ho y (by simp)]
        · rfl
      refine ⟨by simp only [eag, key], fun p out he => ?_⟩
      simp only [eag] at he
      unfold eagB at he
      split at he
      · split at he
        · obtain ⟨r, h2, rfl⟩ := one_spec he
          cases h2; exact ⟨rfl, noPbO_v _ _ _⟩
        · simp at he
      · split at he
        · obtain ⟨r, h2, rfl⟩ := one_spec he
          unfold minMax at h2
          split at h2
          · split at h2
            · cases h2; exact ⟨rfl, noPbO_v _ _ _⟩
            · simp at h2
          · simp at h2
        · simp at he
      · split at he
        · obtain ⟨r, h2, rfl⟩ := one_spec he
          unfold minMax at h2
          split at h2
          · split at h2
            · cases h2; exact ⟨rfl, noPbO_v _ _ _⟩
            · simp at h2
          · simp at h2
        · simp at he
      · simp at he
    | value f => exact ⟨by simp only [eag], fun p out he => by simp [eag] at he⟩
    | invoke r m => exact ⟨by simp only [eag], fun p out he => by simp [eag] at he⟩
  | box t x => exact absurd rfl (hb t x)
  | alloc t => exact absurd rfl (ha t)
  | _ => exact ⟨by simp only [eag], fun p out he => by simp [eag] at he⟩
end
end Go.Proofs.YtkencmgcibbfaaaE

/- Operations that do not touch each other: what turns something. Conditions: none. -/
set_option linter.unusedVariables false
namespace Go.Proofs.YtkencmgcibbfaaaE
open Go Go.RowKit
/-- What is written is written in place, or where nothing is. -/
def okBx (S : St) (out : Outc) : Prop := ∀ p ∈ out.boxes, ∃ B, S.boxes[p.1]? = some B ∧ ((p.2.ep = B.ep ∧ B.c.isSome = true) ∨ B.c = none)
def offX (X : Option Nat) (out : Outc) : Prop := (∀ p ∈ out.boxes, X ≠ some p.1) ∧ noPbO X out.t
section
variable {V : Env} {o : Oper} {X : Option Nat} {S S' : St}
theorem rowNew_sim (h : S'.rows = S.rows) {id : Nat} {c : RC} {K K' : Outc → Prop} (hk : rowNew S' id c K) (hm : ∀ out, out.boxes = [] → noPbO X out.t → K out → K' out) : rowNew S id c K' := by
  unfold rowNew at hk ⊢
  rw [h] at hk
  split at hk
  · exact hm _ rfl (noPbO_v _ _ _) hk
  · exact hk
theorem ownCells_sim (h : S'.rows = S.rows) {dp : Bool} : ∀ {as : List AC} {ids : List Nat} {K K' : List Cm → List (Nat × Row) → List Nat → Prop}, ownCells S' dp ids as K → (∀ cs rs is, K cs rs is → K' cs rs is) → ownCells S dp ids as K'
  | [], ids, K, K', hk, hm => by cases ids <;> exact hm _ _ _ hk
  | x :: as, [], K, K', hk, hm => by
    cases x <;> (simp only [ownCells] at hk ⊢; exact ownCells_sim h hk fun _ _ _ h => hm _ _ _ h)
  | .d y :: as, id :: ids, K, K', hk, hm => by
    simp only [ownCells] at hk ⊢
    exact ownCells_sim h hk fun _ _ _ h => hm _ _ _ h
  | .own c :: as, id :: ids, K, K', hk, hm => by
    simp only [ownCells] at hk ⊢
    rw [h] at hk
    split at hk
    · exact ownCells_sim h hk fun _ _ _ h => hm _ _ _ h
    · exact hk
theorem resT_sim (h : S'.rows = S.rows) {dp : Bool} : ∀ {rs : List Arg} {ids : List Nat} {K K' : List (Bool × List Cm) → List (Nat × Row) → Prop}, resT S' dp ids rs K → (∀ l r, K l r → K' l r) → resT S dp ids rs K'
  | [], ids, K, K', hk, hm => by simp only [resT] at hk ⊢; exact hm _ _ hk
  | .p _ :: _, _, _, _, hk, _ => hk.elim
  | .v g cs :: rs, ids, K, K', hk, hm => by
    simp only [resT] at hk ⊢
    exact ownCells_sim h hk fun _ _ _ h1 => resT_sim h h1 fun _ _ h2 => hm _ _ h2
theorem argCells_sim (h : ∀ id ep, S'.live id ep = S.live id ep) (own : List (Nat × Nat)) (j : Nat) : ∀ (cs : List Cm) (i : Nat), argCells S' own j i cs = argCells S own j i cs
  | [], _ => rfl
  | c :: cs, i => by
    simp only [argCells, argCells_sim h own j cs (i + 1)]
    split
    · rfl
    · cases c with
      | d x => rfl
      | dead => rfl
      | ref id ep => simp only [h]
theorem argsT_sim (h : Sim V o X S S') (own : List (Nat × Nat)) : ∀ (ts : List T) (j : Nat), (∀ t ∈ ts, noPbO X t) → argsT S' own j ts = argsT S own j ts
  | [], _, _ => rfl
  | t :: ts, j, hn => by
    simp only [argsT, argsT_sim h own ts (j + 1) fun t ht => hn t (by simp [ht])]
    split
    · rfl
    · split
      · rw [argCells_sim h.lv]
      · rename_i b ep
        rw [h.bx (hn (.pb b ep 0) (by simp) b rfl)]
        split
        · rw [argCells_sim h.lv]
        · rfl
      · rfl
theorem argsT_bs {own : List (Nat × Nat)} : ∀ {ts : List T} {j : Nat} {as : List Arg} {ls gs : List Nat} {bs : List (Nat × Nat)}, argsT S own j ts = some (as, ls, gs, bs) → ∀ p ∈ bs, .pb p.1 p.2 0 ∈ ts
  | [], j, as, ls, gs, bs, h, p, hp => by simp only [argsT, Option.some.injEq, Prod.mk.injEq] at h; obtain ⟨_, _, _, rfl⟩ := h; cases hp
  | t :: ts, j, as, ls, gs, bs, h, p, hp => by
    simp only [argsT] at h
    split at h
    · simp at h
    · rename_i as' ls' gs' bs' h'
      split at h
      · split at h
        · cases h
          exact List.mem_cons_of_mem _ (argsT_bs h' p hp)
        · simp at h
      · split at h
        · split at h
          · cases h
            rcases List.mem_cons.1 hp with rfl | hp
            · simp
            · exact List.mem_cons_of_mem _ (argsT_bs h' p hp)
          · simp at h
        · simp at h
      · simp at h
theorem boxesT_ids : ∀ {bs : List (Nat × Nat)} {cs : List (List AC)} {bx : List (Nat × Box)}, boxesT bs cs = some bx → ∀ q ∈ bx, ∃ p ∈ bs, q.1 = p.1
  | [], [], bx, h, q, hq => by simp only [boxesT, Option.some.injEq] at h; subst h; cases hq
  | [], _ :: _, _, h, _, _ => by simp [boxesT] at h
  | _ :: _, [], _, h, _, _ => by simp [boxesT] at h
  | (b, ep) :: bs, c :: cs, bx, h, q, hq => by
    simp only [boxesT] at h
    split at h
    · rename_i r hr
      cases h
      rcases List.mem_cons.1 hq with rfl | hq
      · exact ⟨(b, ep), by simp, rfl⟩
      · obtain ⟨p, hp, e⟩ := boxesT_ids hr q hq
        exact ⟨p, by simp [hp], e⟩
    · simp at h
theorem tupT_no (l : List (Bool × List Cm)) : noPbO X (tupT l) := by
  unfold tupT
  split
  · exact noPbO_v _ _ _
  · intro _ e; cases e
theorem deads_sim (h : S'.rows = S.rows) : ∀ ids, deads S' ids = deads S ids
  | [] => rfl
  | id :: ids => by simp only [deads, h, deads_sim h ids]
/-- Where a variable comes to be. -/
theorem new_off (h : Sim V o X S S') {b : Nat} {B B' : Box} (hB : S'.boxes[b]? = some B) (he : B'.ep ≠ B.ep) {t : T} {r : List (Nat × Row)} {l : List (Nat × Box)} (hk : ∀ b', X = some b' → okBx S' ⟨t, r, l ++ [(b, B')]⟩) : X ≠ some b := by
  intro hx
  obtain ⟨B1, hB1, hc⟩ := hk b hx (b, B') (by simp)
  rw [hB] at hB1
  cases hB1
  obtain ⟨B2, hB2, hc2⟩ := h.live b hx
  rw [hB] at hB2
  cases hB2
  rcases hc with ⟨h1, _⟩ | h1
  · exact he h1
  · rw [h1] at hc2; simp at hc2
theorem uncl_sim (h : Sim V o X S S') (cl : Option (Nat × Bool)) : ∀ (ts : List T), (∀ t ∈ ts, noPbO X t) → uncl S' cl ts = uncl S cl ts ∧ ∀ ts', uncl S cl ts = some ts' → ∀ t ∈ ts', noPbO X t := by
  intro ts
  induction ts with
  | nil =>
    intro _
    cases cl with
    | none => exact ⟨by simp [uncl], fun ts' e t ht => by simp [uncl] at e; subst e; cases ht⟩
    | some p => exact ⟨by simp [uncl], fun ts' e => by simp [uncl] at e⟩
  | cons t ts ih =>
    intro hn
    obtain ⟨ih1, ih2⟩ := ih fun t ht => hn t (List.mem_cons_of_mem _ ht)
    cases cl with
    | none => exact ⟨by simp [uncl], fun ts' e t ht => by simp [uncl] at e; subst e; exact hn t ht⟩
    | some p =>
      unfold uncl
      split
      · simp at *
      · simp at *
      · rename_i f f' b ep heq hts
        cases heq; cases hts
        rw [h.bx (hn (.fn f' (some (b, ep))) (by simp) b rfl)]
        refine ⟨rfl, fun ts' e t ht => ?_⟩
        split at e
        · split at e
          · simp only [Option.some.injEq] at e; subst e
            simp only [List.mem_cons, List.not_mem_nil, or_false] at ht; subst ht
            exact fun b' e' => by cases e'; exact hn (.fn f' (some (b, ep))) (by simp) b rfl
          · simp at e
        · simp at e
      · refine ⟨rfl, fun ts' e t ht => ?_⟩
        split at e
        · simp only [Option.some.injEq] at e; subst e; cases ht
        · simp at e
      · rename_i p' t' ts'' _ _ heq hts
        cases heq; cases hts
        rw [ih1]
        refine ⟨rfl, fun ts' e t ht => ?_⟩
        split at e
        · rename_i r hr
          simp only [Option.some.injEq] at e; subst e
          rcases List.mem_cons.1 ht with rfl | ht
          · exact hn _ (by simp)
          · exact ih2 r hr t ht
        · simp at e
theorem callC_sim (h : Sim V o X S S') {dst : Option Nat} {E : Ent} {ts : List T} (hn : ∀ t ∈ ts, noPbO X t) {K K' : Outc → Prop} (hk : callC V S' dst E ts K) (hK : ∀ out, K out → ∀ b, X = some b → okBx S' out) (hm : ∀ out, K out → offX X out → K' out) : callC V S dst E ts K' := by
  unfold callC at hk ⊢
  rw [argsT_sim h _ _ _ hn] at hk
  split at hk
  · rename_i as ls gs bs hargs
    obtain ⟨h1, h2⟩ := hk
    refine ⟨h1, E.mono _ _ _ (fun rs cs h30 => freeQ_mono (fun h3 => ?_) h30) h2⟩
    clear h30
    split at h3
    · rename_i bx hbx
      have hbo : ∀ q ∈ bx, X ≠ some q.1 := fun q hq hx => by
        obtain ⟨p, hp, e⟩ := boxesT_ids hbx q hq
        exact hn _ (argsT_bs hargs p hp) p.1 rfl (by rw [hx, e])
      rw [deads_sim h.rows] at h3
      dsimp only at h3 ⊢
      split at h3
      · rename_i c
        split at h3
        · rename_i b hb
          split at h3
          · rename_i B hB
            obtain ⟨h4, h5⟩ := h3
            have hx := new_off (t := .pb b (B.ep+1) 0) (r := deads S (bif freeRes [Arg.p c] cs then gs else ls ++ gs)) (B' := ⟨B.ep+1, some (datCells c)⟩) (l := bx) h hB (by simp) (hK _ h5)
            have hB' : S.boxes[b]? = some B := by rw [← h.box b hx]; exact hB
            simp only [hB']
            refine ⟨h4, hm _ h5 ⟨fun p hp => ?_, fun b' e => by cases e; exact hx⟩⟩
            rcases List.mem_append.1 hp with hp | hp
            · exact hbo p hp
            · simp at hp; subst hp; exact hx
          · exact h3.elim
        · exact h3.elim
      · exact resT_sim h.rows h3 fun l r h4 => ⟨h4.1, hm _ h4.2 ⟨hbo, tupT_no l⟩⟩
    · exact h3.elim
  · exact hk
theorem callT_sim (h : Sim V o X S S') {dst : Option Nat} {E : Ent} {ts : List T} (hn : ∀ t ∈ ts, noPbO X t) {K K' : Outc → Prop} (hk : callT V S' dst E ts K) (hK : ∀ out, K out → ∀ b, X = some b → okBx S' out) (hm : ∀ out, K out → offX X out → K' out) : callT V S dst E ts K' := by
  obtain ⟨h1, h2⟩ := uncl_sim h E.clo ts hn
  unfold callT at hk ⊢
  rw [h1] at hk
  split at hk
  · rename_i ts' hts
    exact callC_sim h (h2 ts' hts) hk hK hm
  · exact hk
theorem give_sim (h : Sim V o X S S') : ∀ (cs : List Cm), giveCells S' cs = giveCells S cs
  | [] => rfl
  | .d x :: cs => by simp only [giveCells, give_sim h cs]
  | .ref id ep :: cs => by simp only [giveCells, give_sim h cs, h.lv]
  | .dead :: cs => rfl
theorem elemsO_sim (h : Sim V o X S S') (k : RK) (et : Nat) : ∀ (ps : List (Nat × Operand)) (j : Nat), (∀ p ∈ ps, ∀ ty, S'.opnd V ty p.2 = S.opnd V ty p.2) → elemsO V S' k et j ps = elemsO V S k et j ps
  | [], j, _ => rfl
  | (i, x) :: ps, j, hp => by
    simp only [elemsO]
    have hx := hp (i, x) (by simp) et
    simp only at hx
    have hg : giveCells S' = giveCells S := funext (give_sim h)
    rw [hx, hg, elemsO_sim h k et ps (j + 1) fun p hpp => hp p (by simp [hpp])]
theorem ioCells_sim (h : Sim V o X S S') (io : List (Nat × Nat)) (j : Nat) : ∀ (cs : List Cm) (i : Nat), ioCells S' io j i cs = ioCells S io j i cs
  | [], _ => rfl
  | c :: cs, i => by
    simp only [ioCells, ioCells_sim h io j cs (i + 1)]
    split
    · rfl
    · cases c with
      | d x => rfl
      | dead => rfl
      | ref id ep => simp only [h.lv]
theorem ioT_sim (h : Sim V o X S S') (io : List (Nat × Nat)) : ∀ (ts : List T) (j : Nat), ioT S' io j ts = ioT S io j ts
  | [], _ => rfl
  | t :: ts, j => by
    simp only [ioT, ioT_sim h io ts (j + 1)]
    split
    · rfl
    · cases t <;> simp only [ioCells_sim h, h.lv]
theorem ioRows_sim (h : Sim V o X S S') : ∀ (ts : List IoR) (cs : List RC), ioRows S' ts cs = ioRows S ts cs
  | [], cs => by cases cs <;> simp only [ioRows]
  | ⟨id, ep, none⟩ :: ts, [] => by simp only [ioRows]
  | ⟨id, ep, some p⟩ :: ts, [] => by simp only [ioRows]
  | ⟨id, ep, none⟩ :: ts, c :: cs => by simp only [ioRows, h.lv, ioRows_sim h ts cs]
  | ⟨id, ep, some p⟩ :: ts, c :: cs => by
    obtain ⟨i, off⟩ := p
    have ih := ioRows_sim h ts cs
    obtain ⟨e, k, l, d, hh, v, q⟩ := c
    cases k <;> first | (simp only [ioRows]; done) | (cases d <;> first | (simp only [ioRows]; done) | (cases q <;> first | (simp only [ioRows]; done) | simp only [ioRows, h.lv, ih]))
theorem deepX_sim (h : Sim V o X S S') (t : T) : deepX S' t = deepX S t := by
  unfold deepX
  split
  · rw [h.lv]
  · rfl
theorem callIo_sim (h : Sim V o X S S') {E : EntI} {ts : List T} {K K' : Outc → Prop} (hk : callIo S' E ts K) (hm : ∀ out, K out → offX X out → K' out) : callIo S E ts K' := by
  unfold callIo at hk ⊢
  rw [ioT_sim h] at hk
  split at hk
  · rename_i as tg hargs
    obtain ⟨h1, h2⟩ := hk
    refine ⟨h1, E.mono _ _ _ (fun rs cs h3 => ?_) h2⟩
    rw [ioRows_sim h] at h3
    split at h3
    · rename_i rows hr
      exact ⟨h3.1, hm _ h3.2 ⟨fun p hp => (by cases hp), tupT_no _⟩⟩
    · exact h3.elim
  · exact hk
theorem offX_app (fz : Bool) (id ep : Nat) (c : RC) : offX X (appO fz id ep c) := by
  cases fz <;> exact ⟨fun p hp => (by cases hp), noPbO_v _ _ _⟩
theorem offX_v (g : Bool) (cs : List Cm) (r : List (Nat × Row)) : offX X ⟨.v g cs, r, []⟩ := ⟨fun p hp => (by cases hp), noPbO_v _ _ _⟩
theorem eff_sim (h : Sim V o X S S') {K K' : Outc → Prop} (hk : eff V S' o K) (hK : ∀ out, K out → ∀ b, X = some b → okBx S' out) (hm : ∀ out, K out → offX X out → K' out) : eff V S o K' := by
  obtain ⟨dst, op, ty, pos, after, guard⟩ := o
  cases op with
  | store t p x =>
    have h0 := h.opnd p (by simp [Op.operands])
    have h1 := h.opnd x (by simp [Op.operands])
    simp only [eff, h0, h1] at hk ⊢
    split at hk
    · rename_i I b ep off g xs hI hp hx
      have hb := h.no p (by simp [Op.operands]) _ _ hp b rfl
      rw [h.bx hb] at hk
      split at hk
      · split at hk
        · rename_i hc
          rw [if_pos hc]
          exact hm _ hk ⟨fun q hq => (by simp at hq; subst hq; exact hb), noPbO_und _⟩
        · exact hk.elim
      · exact hk.elim
    · rw [h.lv] at hk
      split at hk
      case h_2 => exact hk.elim
      split at hk
      · exact hk.elim
      split at hk
      · split at hk
        case isFalse => exact hk.elim
        rename_i hc
        rw [if_pos hc]
        split at hk
        case h_2 => exact hk.elim
        unfold dGuard at hk ⊢
        split at hk
        · exact ⟨hk.1, nameL_mono (fun l h9 => hm _ h9 ⟨fun q hq => (by cases hq), noPbO_und _⟩) hk.2⟩
        · exact nameL_mono (fun l h9 => hm _ h9 ⟨fun q hq => (by cases hq), noPbO_und _⟩) hk
      · have hg : giveCells S' = giveCells S := funext (give_sim h)
        have hd : deads S' = deads S := funext (deads_sim h.rows)
        rw [hg, hd] at hk
        split at hk
        case h_2 => exact hk.elim
        split at hk
        case isFalse => exact hk.elim
        rename_i hc
        rw [if_pos hc]
        split at hk
        case h_2 => exact hk.elim
        exact ⟨hk.1, hm _ hk.2 ⟨fun q hq => (by cases hq), noPbO_und _⟩⟩
    · exact hk.elim
  | binOp op t x y u =>
    have h0 := h.opnd x (by simp [Op.operands])
    have hel : S'.elems = S.elems := funext h.el
    simp only [eff, h0, hel] at hk ⊢
    split at hk
    · exact fun b hb => hm _ (hk b hb) (offX_v _ _ _)
    · exact fun b hb => hm _ (hk b hb) (offX_v _ _ _)
    · exact hk.elim
  | assign x =>
    simp only [eff] at hk ⊢
    split at hk
    · split at hk
      · rename_i hx
        rw [if_pos hx]
        exact rowNew_sim (X := X) h.rows hk fun out h1 h2 h3 => hm _ h3 ⟨fun p hp => (by rw [h1] at hp; cases hp), h2⟩
      · exact hk.elim
    · exact hk.elim
  | build t ps =>
    have hp : ∀ p ∈ ps.toList, ∀ ty, S'.opnd V ty p.2 = S.opnd V ty p.2 := fun p hp ty => h.opnd p.2 (by simp only [Op.operands, List.mem_toArray]; exact List.mem_map.2 ⟨p, hp, rfl⟩) ty
    simp only [eff] at hk ⊢
    split at hk
    · split at hk
      · rename_i hc
        rw [if_pos hc]
        refine ownCells_sim h.rows hk fun cs rs is h1 => ?_
        rw [build_sim _ _ _ hp] at h1
        split at h1
        · exact hm _ h1 (offX_v _ _ _)
        · exact h1.elim
      · exact hk.elim
    · exact hk.elim
  | buildSlice t n ps =>
    have hp : ∀ p ∈ ps.toList, ∀ ty, S'.opnd V ty p.2 = S.opnd V ty p.2 := fun p hp ty => h.opnd p.2 (by simp only [Op.operands, List.mem_toArray]; exact List.mem_map.2 ⟨p, hp, rfl⟩) ty
    simp only [eff, elems_sim _ _ _ _ hp, elemsO_sim h _ _ _ _ hp, h.rows] at hk ⊢
    split at hk
    · split at hk
      · rename_i hl
        split at hk
        · rename_i hc
          rw [if_pos hc]
          exact rowNew_sim (X := X) h.rows hk fun out h1 h2 h3 => hm _ h3 ⟨fun p hp => (by rw [h1] at hp; cases hp), h2⟩
        · exact hk.elim
      · split at hk
        · split at hk
          · rename_i hc
            rw [if_pos hc]
            rw [deads_sim h.rows] at hk
            exact hm _ hk ⟨fun p hp => (by cases hp), noPbO_v _ _ _⟩
          · exact hk.elim
        · exact hk.elim
    · exact hk.elim
  | makeSlice t n c =>
    have h0 := h.opnd n (by simp [Op.operands])
    have h1 := h.opnd c (by simp [Op.operands])
    simp only [eff, h0, h1] at hk ⊢
    split at hk
    · exact ⟨hk.1, rowNew_sim (X := X) h.rows hk.2 fun out h1 h2 h3 => hm _ h3 ⟨fun p hp => (by rw [h1] at hp; cases hp), h2⟩⟩
    · exact hk.elim
  | slice t x lo hi mx =>
    have h0 := h.opnd x (by simp [Op.operands])
    simp only [eff, h0] at hk ⊢
    split at hk
    · rw [h.lv] at hk
      split at hk
      · split at hk
        · rename_i hc
          rw [if_pos hc]
          have hl : lo.map (S'.opnd V 0) = lo.map (S.opnd V 0) := by cases lo with
            | none => rfl
            | some y => simp only [Option.map_some]; rw [h.opnd y (by simp [Op.operands])]
          have hh : hi.map (S'.opnd V 0) = hi.map (S.opnd V 0) := by cases hi with
            | none => rfl
            | some y => simp only [Option.map_some]; rw [h.opnd y (by simp [Op.operands])]
          have hx : mx.map (S'.opnd V 0) = mx.map (S.opnd V 0) := by cases mx with
            | none => rfl
            | some y => simp only [Option.map_some]; rw [h.opnd y (by simp [Op.operands])]
          split at hk
          · split at hk
            · rw [hl, hh, hx] at hk
              split at hk
              · split at hk
                · rename_i hk2
                  rw [dif_pos hk2]
                  split at hk
                  · rename_i hcp
                    rw [if_pos hcp]
                    exact ⟨hk.1, hm _ hk.2 (offX_v _ _ _)⟩
                  · exact hk.elim
                · exact hk.elim
              · exact hk.elim
            split at hk
            · rw [hl, hh, hx] at hk
              split at hk
              · rename_i p t' hs
                refine ⟨hk.1, hm _ hk.2 ⟨fun p hp => (by cases hp), ?_⟩⟩
                unfold sliceT at hs
                split at hs
                · split at hs
                  · cases hs; exact noPbO_v _ _ _
                  · split at hs
                    · cases hs; exact noPbO_v _ _ _
                    · simp at hs
                · simp at hs
              · exact hk.elim
            split at hk
            · rename_i hi mx
              rw [h.opnd hi (by simp [Op.operands]), h.opnd mx (by simp [Op.operands])] at hk
              split at hk
              · exact ⟨hk.1, hm _ hk.2 (offX_v _ _ _)⟩
              · exact hk.elim
            · exact hk.elim
          · split at hk
            · rename_i hcz
              rw [if_pos hcz]
              exact rowNew_sim (X := X) h.rows hk fun out h1 h2 h3 => hm _ h3 ⟨fun p hp => (by rw [h1] at hp; cases hp), h2⟩
            · exact hk.elim
          · exact hk.elim
        · exact hk.elim
      · exact hk.elim
    · split at hk
      · split at hk
        · rename_i hc
          rw [if_pos hc]
          exact rowNew_sim (X := X) h.rows hk fun out h1 h2 h3 => hm _ h3 ⟨fun p hp => (by rw [h1] at hp; cases hp), h2⟩
        · exact hk.elim
      · exact hk.elim
    · exact hk.elim
  | makeFunc fn first captured =>
    cases fn with
    | func f =>
      simp only [eff] at hk ⊢
      split at hk
      · rename_i x h1 h2
        have hx : x ∈ (⟨dst, .makeFunc (.func f) first captured, ty, pos, after, guard⟩ : Oper).op.operands := by
          simp only [Op.operands]
          have : x ∈ captured.toList := by rw [h2]; simp
          simp; exact .inr (by simpa using this)
        rw [h.opnd x hx] at hk
        split at hk
        · rename_i b ep hxt
          have hb := h.no x hx _ _ hxt b rfl
          rw [h.bx hb] at hk
          split at hk
          · exact hm _ hk ⟨fun p hp => (by cases hp), fun b' e => by cases e; exact hb⟩
          · exact hk.elim
        · exact hk.elim
      · exact hk.elim
    | _ => exact hk.elim
  | call c =>
    obtain ⟨callee, args, tys⟩ := c
    cases callee with
    | builtin b =>
      have ho : ∀ x ∈ args.toList, ∀ ty, S'.opnd V ty x = S.opnd V ty x := fun x hx ty => h.opnd x (by simp only [Op.operands, Call.operands]; simpa using hx) ty
      simp only [eff] at hk ⊢
      generalize args.toList = A at ho hk
      generalize tys.toList = Ts at hk
      unfold effB at hk ⊢
      split at hk
      · rename_i K0 s x t u
        have hel : S'.elems = S.elems := funext h.el
        have hdx : deepX S' = deepX S := funext (deepX_sim h)
        have hdd : deads S' = deads S := funext (deads_sim h.rows)
        rw [ho s (by simp), ho x (by simp), hel, hdx, hdd] at hk
        split at hk
        case h_2 => exact hk.elim
        rw [h.lv] at hk
        split at hk
        case h_2 => exact hk.elim
        split at hk
        · exact hk.elim
        split at hk
        · split at hk
          case h_2 => exact hk.elim
          split at hk
          case isFalse => exact hk.elim
          rename_i hc
          rw [dif_pos hc]
          split at hk
          case isFalse => exact hk.elim
          rename_i hcc
          rw [if_pos hcc]
          exact ⟨hk.1, hm _ hk.2 (offX_app _ _ _ _)⟩
        · split at hk
          case h_2 => exact hk.elim
          split at hk
          case isFalse => exact hk.elim
          rename_i hc
          rw [dif_pos hc]
          split at hk
          case isFalse => exact hk.elim
          rename_i hcc
          rw [if_pos hcc]
          exact ⟨hk.1, hm _ hk.2 (offX_v _ _ _)⟩
      · exact hk.elim
    | value f =>
      cases f with
      | func f =>
        have ho : ∀ x ∈ args.toList, ∀ ty, S'.opnd V ty x = S.opnd V ty x := fun x hx ty => h.opnd x (by simp only [Op.operands, Call.operands]; simp; exact .inr (by simpa using hx)) ty
        simp only [eff, opnds_sim _ _ ho] at hk ⊢
        split at hk
        · rename_i E ts hE hts
          refine callT_sim h (fun t ht => ?_) hk hK hm
          have : ∀ (xs : List Operand) (tys : List Nat) (ts : List T), (∀ x ∈ xs, x ∈ (⟨dst, .call ⟨.value (.func f), args, tys.toArray⟩, ty, pos, after, guard⟩ : Oper).op.operands) → opnds V S xs tys = some ts → ∀ t ∈ ts, ∃ x ∈ xs, ∃ ty, S.opnd V ty x = some t := by
            intro xs
            induction xs with
            | nil => intro tys ts _ hh t ht; simp only [opnds, Option.some.injEq] at hh; subst hh; cases ht
            | cons x xs ih =>
              intro tys ts hm hh t ht
              cases tys with
              | nil => simp [opnds] at hh
              | cons ty' tys =>
                simp only [opnds] at hh
                split at hh
                · rename_i t' ts' h1 h2
                  cases hh
                  rcases List.mem_cons.1 ht with rfl | ht
                  · exact ⟨x, by simp, ty', h1⟩
                  · obtain ⟨y, hy, q⟩ := ih tys ts' (fun y hy => by
                      have := hm y (by simp [hy])
                      simpa [Op.operands, Call.operands] using this) h2 t ht
                    exact ⟨y, by simp [hy], q⟩
                · simp at hh
          obtain ⟨x, hx, ty', hxt⟩ := this args.toList tys.toList ts (fun x hx => by simp only [Op.operands, Call.operands]; simp; exact .inr (by simpa using hx)) hts t ht
          exact h.no x (by simp only [Op.operands, Call.operands]; simp; exact .inr (by simpa using hx)) ty' t hxt
        · split at hk
          · exact callIo_sim h hk hm
          · exact hk.elim
        · exact hk.elim
      | tmp tf =>
        have ho : ∀ x ∈ args.toList, ∀ ty, S'.opnd V ty x = S.opnd V ty x := fun x hx ty => h.opnd x (by simp only [Op.operands, Call.operands]; simp; exact .inr (by simpa using hx)) ty
        have hmem : Operand.tmp tf ∈ (⟨dst, .call ⟨.value (.tmp tf), args, tys⟩, ty, pos, after, guard⟩ : Oper).op.operands := by simp [Op.operands, Call.operands]
        have hsl : S'.slots[tf]? = S.slots[tf]? := by have := h.opnd (.tmp tf) hmem 0; rw [opnd_tmp, opnd_tmp] at this; exact this
        simp only [eff, opnds_sim _ _ ho, hsl] at hk ⊢
        split at hk
        · rename_i f cb hst
          have hnf : noPbO X (.fn f cb) := h.no (.tmp tf) hmem 0 _ (by rw [opnd_tmp]; exact hst)
          have hlv : cbLive S' cb = cbLive S cb := by
            cases cb with
            | none => rfl
            | some p =>
              obtain ⟨b, ep⟩ := p
              simp only [cbLive]
              rw [h.bx (hnf b rfl)]
          split at hk
          · rename_i E ts hE hts
            rw [hlv] at hk
            split at hk
            · rename_i hcl
              rw [if_pos hcl]
              refine callC_sim h (fun t ht => ?_) hk hK hm
              rcases List.mem_append.1 ht with ht | ht
              · have : ∀ (xs : List Operand) (tys : List Nat) (ts : List T), opnds V S xs tys = some ts → ∀ t ∈ ts, ∃ x ∈ xs, ∃ ty, S.opnd V ty x = some t := by
                  intro xs
                  induction xs with
                  | nil => intro tys ts hh t ht; simp only [opnds, Option.some.injEq] at hh; subst hh; cases ht
                  | cons x xs ih =>
                    intro tys ts hh t ht
                    cases tys with
                    | nil => simp [opnds] at hh
                    | cons ty' tys =>
                      simp only [opnds] at hh
                      split at hh
                      · rename_i t' ts' h1 h2
                        cases hh
                        rcases List.mem_cons.1 ht with rfl | ht
                        · exact ⟨x, by simp, ty', h1⟩
                        · obtain ⟨y, hy, q⟩ := ih tys ts' h2 t ht
                          exact ⟨y, by simp [hy], q⟩
                      · simp at hh
                obtain ⟨x, hx, ty', hxt⟩ := this args.toList tys.toList ts hts t ht
                exact h.no x (by simp only [Op.operands, Call.operands]; simp; exact .inr (by simpa using hx)) ty' t hxt
              · cases cb with
                | none => cases ht
                | some p =>
                  obtain ⟨b, ep⟩ := p
                  simp only [cbT, List.mem_cons, List.not_mem_nil, or_false] at ht
                  subst ht
                  exact fun b' e => by cases e; exact hnf b rfl
            · exact hk.elim
          · exact hk.elim
        · exact hk.elim
      | _ => exact hk.elim
    | invoke r m => exact hk.elim
  | _ => exact hk.elim
end
end Go.Proofs.YtkencmgcibbfaaaE
