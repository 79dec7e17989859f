/- A part of the proof of laws of the program: what calls of the program answer. Conditions: none. -/
import Derived.Test.YtlapeiijghebjaaMcce52956
import Derived.ChangeSlices
set_option linter.unusedVariables false
set_option linter.unusedSimpArgs false
set_option linter.unusedSectionVars false
/- What turns something: one theorem; an operation's outcomes. Conditions: none. -/
set_option linter.unusedVariables false
namespace Go.Proofs.YtlapeiijghebjaaE
open Go Go.RowKit
section
variable {P : Program} {V : Env} (hV : TysOk P V) (hC : CallsOk P V) {w0 : World} {prot : Pro} {S : St} {G : Gh} {a : Act} {w : World}
theorem isNil_eval {x : Operand} (h : isNil x = true) : a.eval x = .slice none 0 0 := by
  unfold isNil at h
  split at h
  · rfl
  · simp at h
include hV in
theorem slice_zero (h : Inv w0 prot S G a w) {t : Nat} {I : TyI} {k : RK} {e : Nat} (hI : look t V.tys = some I) (hel : I.el = some (k, e)) {v : Value} {l : List k.El} (hv : Rd w G.F v (.r k l)) {lo hi mx : Option Operand}
    (c1 : (lo.isNone || isZ lo) = true) (c2 : isZ hi = true) (c3 : isZ mx = true) : ∃ A, (Instr.sliceAt t v (lo.map a.eval) (hi.map a.eval) (mx.map a.eval)).run P w = .ok (.slice A 0 0) w := by
  have key : ∀ {y : Option Operand}, isZ y = true → ∃ k, y = some (.const (.int k 0)) := fun {y} hy => by
    unfold isZ at hy
    split at hy
    · rename_i k n
      exact ⟨k, by rw [show n = 0 by simpa using hy]⟩
    · simp at hy
  obtain ⟨kh, rfl⟩ := key c2
  obtain ⟨km, rfl⟩ := key c3
  have hlo : endT 0 (lo.map (S.opnd V 0)) = some 0 := by
    cases lo with
    | none => rfl
    | some y => obtain ⟨kl, hy⟩ := key (y := some y) (by simpa using c1); cases hy; rfl
  obtain ⟨A, cap, rfl, hcap⟩ : ∃ A cap, v = .slice A l.length cap ∧ l.length ≤ cap := by
    rcases Rd.row_lies hv with ⟨⟨x, rfl⟩, rfl⟩ | ⟨g, off, cap, xs, rfl, _, hc, _⟩
    · exact ⟨_, _, rfl, Nat.le_refl _⟩
    · exact ⟨_, _, rfl, hc⟩
  obtain ⟨x1, y1, m1, _, _, _, _, _, _, g1, g2, g3, hrun⟩ := slice_run hV hI hel A l.length cap hcap (lo' := lo.map (S.opnd V 0)) (hi' := some (S.opnd V 0 (.const (.int kh 0)))) (mx' := some (S.opnd V 0 (.const (.int km 0)))) (lo := lo.map a.eval) (hi := some (a.eval (.const (.int kh 0)))) (mx := some (a.eval (.const (.int km 0)))) (lo_r h hV lo) (lo_r h hV (some _)) (lo_r h hV (some _)) l rfl
    (r := .v false [.d (.r k ((l.drop (0 : Int).toNat).take ((0 : Int).toNat - (0 : Int).toNat)))]) (p := 0 ≤ (0 : Int) ∧ (0 : Int) ≤ 0 ∧ (0 : Int) ≤ 0 ∧ (0 : Int) ≤ l.length) (by simp only [sliceT, hlo]; rfl) ⟨by omega, by omega, by omega, by omega⟩
  obtain rfl : x1 = 0 := by rw [hlo] at g1; simp only [Option.some.injEq] at g1; omega
  obtain rfl : y1 = 0 := by have : (some (0 : Int)) = some (y1 : Int) := g2; simp only [Option.some.injEq] at this; omega
  obtain rfl : m1 = 0 := by have : (some (0 : Int)) = some (m1 : Int) := g3 _ rfl; simp only [Option.some.injEq] at this; omega
  exact ⟨_, hrun⟩
theorem zr_nil (w : World) {v : Value} {k : RK} {l : List k.El} (h : ZR v (.r k l)) : (∃ x, v = .slice x 0 0) ∧ l = [] := by
  have := h w (fun _ => False)
  cases this with
  | nil _ x => exact ⟨⟨x, rfl⟩, rfl⟩
  | row _ _ _ _ _ _ hF => exact hF.elim
theorem zero_acs : ∀ {ds : List D} {xs : List Value} {es : List Nat}, F2 ZR xs ds → ACs w G.F xs (zeroAC ds es) []
  | [], [], es, _ => by cases es <;> rfl
  | [], _ :: _, _, h => by cases h
  | _ :: _, [], _, h => by cases h
  | d :: ds, x :: xs, es, h => by
    cases h with
    | cons h1 h2 =>
      cases d with
      | i k n => exact ⟨[], [], ⟨h1 w G.F, rfl⟩, by cases es <;> exact zero_acs h2, rfl⟩
      | b n => exact ⟨[], [], ⟨h1 w G.F, rfl⟩, by cases es <;> exact zero_acs h2, rfl⟩
      | r k l =>
        obtain ⟨⟨xx, rfl⟩, rfl⟩ := zr_nil w h1
        cases es with
        | nil => exact ⟨[], [], ⟨h1 w G.F, rfl⟩, zero_acs h2, rfl⟩
        | cons e es => exact ⟨[], [], ⟨⟨[], ⟨by simp, .inl ⟨⟨_, rfl⟩, rfl⟩⟩, .nil⟩, (by simp [ownB_zero])⟩, zero_acs h2, rfl⟩
theorem oc_nodup {ids : List Nat} {as : List AC} {cs : List Cm} {rs : List (Nat × Row)} {is : List Nat} (h : OC S ids as cs rs is) : (rs.map (·.1)).Sublist ids := by
  induction h with
  | nil => simp
  | own _ _ ih => exact List.Sublist.cons_cons _ ih
  | dat _ ih => exact ih
include hV
/-- A struct's zero value, its rows one's own. -/
theorem build_own (h : Inv w0 prot S G a w) {t : Nat} {I : TyI} (hI : look t V.tys = some I) (hg : I.agg = true) {ids : List Nat} (hn : nodupB ids = true) (ps : Array (Nat × Operand)) {K : Outc → Prop}
    (hk : ownCells S ids (zeroAC I.zc I.zo) fun cs rs is => match buildT V S I.fs ps.toList cs with
      | some cs' => K ⟨.v true cs', rs, []⟩
      | none => False) (d : Option Nat) :
    ∃ v, (Instr.build t (ps.map fun p => (p.1, a.eval p.2))).run P w = .ok v w ∧ After w0 prot S d K (a.put d v) w := by
  obtain ⟨arr, h6, hgen⟩ := build_gen hV w hI hg ps
  obtain ⟨cs, rs, is, hK, hoc⟩ := ownCells_spec hk
  split at hK
  · rename_i cs' hb
    have hnn := nodupB_spec hn
    have hrn := hnn.sublist (oc_nodup hoc)
    obtain ⟨H, t1, t2, t3⟩ := takes_cells hoc (zero_acs (w := w) (G := G) (es := I.zo) h6) List.nodup_nil
    have hH0 : H.filterMap (fun q => ownB q.2) = [] := List.sublist_nil.1 t2
    obtain ⟨G', hG⟩ := call_core h G.F [] [] [] [] H none rs [] (fun _ hb => hb) (fun b hb => ⟨h.lt b (by have hb' : G.who b = .fz := hb; rw [hb']; simp), .inl hb⟩) (fun b hb => by cases hb) rfl (fun p hp => by cases hp) ⟨rfl, rfl, rfl, Nat.le_refl _⟩ (fun _ _ _ _ => rfl) (fun id hi => by cases hi)
      t1 hrn (by rw [hH0]; exact List.nodup_nil) (fun b hb => by rw [hH0] at hb; cases hb) (OC_rows hoc) (fun b x e => by cases e) (fun q hq => by cases hq) (fun p hp => by cases hp)
    obtain ⟨f1, f2⟩ := t3 G' _ hG.fr hG.hd (fun b hb _ => by cases hb) hG.rows
    obtain ⟨v, hrun, hvr⟩ := hgen G' _ S a (fun ty x g xs hx => hG.keeps.vr (opnd_vr hV h hx)) cs cs' f1 hb
    exact ⟨v, hrun, _, G', hK, hG.inv d v (.v true cs') hvr f2 (fun p hp => by cases hp)⟩
  · exact hK.elim
theorem opnds_tr (h : Inv w0 prot S G a w) : ∀ {xs : List Operand} {tys : List Nat} {ts : List T}, opnds V S xs tys = some ts → F2 (TR w G S.rows S.boxes) (xs.map a.eval) ts
  | [], tys, ts, ho => by cases tys <;> (simp only [opnds, Option.some.injEq] at ho; subst ho; exact .nil)
  | _ :: _, [], ts, ho => by simp [opnds] at ho
  | x :: xs, ty :: tys, ts, ho => by
    simp only [opnds] at ho
    split at ho
    · rename_i t ts' h1 h2
      cases ho
      exact .cons (opnd_tr hV h h1) (opnds_tr h h2)
    · simp at ho
omit hV in
/-- A row of one's own is given up: it is data. -/
theorem freeze {d : Option Nat} {id ep : Nat} {c : RC} {v : Value} (h : Inv w0 prot (S.app d ⟨.v false [.ref id ep], [(id, ⟨ep, some c⟩)], []⟩) G (a.put d v) w) (hid : id < S.rows.length) (hv : G.hd id = v) :
    ∃ G', Inv w0 prot (S.app d ⟨.v false [.d (.r c.k c.l)], [(id, ⟨ep, none⟩)], []⟩) G' (a.put d v) w ∧ Rd w G'.F v (.r c.k c.l) := by
  rw [app_row] at h
  have hr : (S.rows.set id ⟨ep, some c⟩)[id]? = some ⟨ep, some c⟩ := by rw [List.getElem?_set_self hid]
  obtain ⟨ho, htag⟩ := h.row id _ hr c rfl
  let G' : Gh := { G with who := fun b => if ownB (G.hd id) = some b then .fz else G.who b }
  have hne : ∀ b, G.who b ≠ .rw id → G'.who b = G.who b := fun b hb => by
    show (if _ then _ else _) = _
    rw [if_neg fun e => hb (htag b e)]
  have hfz : ∀ b, ownB (G.hd id) = some b → G'.who b = .fz := fun b hb => by
    show (if _ then _ else _) = _
    rw [if_pos hb]
  have hlt : ∀ b, G'.who b ≠ .ot → b < w.heap.size := fun b hb => by
    by_cases e : ownB (G.hd id) = some b
    · exact h.lt b (by rw [htag b e]; simp)
    · have e2 : G'.who b = G.who b := by
        show (if _ then _ else _) = _
        rw [if_neg e]
      rw [e2] at hb; exact h.lt b hb
  have hGF : ∀ b, G.F b → G'.F b := fun b hb => by
    have hb' : G.who b = .fz := hb
    show G'.who b = .fz
    rw [hne b (by rw [hb']; simp), hb']
  have hrd : Rd w G'.F v (.r c.k c.l) := by rw [← hv]; exact ho.data hGF hfz
  have h2 := (h.own hr ⟨ep, none⟩ (w' := w) (G' := G') ⟨Nat.le_refl _, fun _ c' hc' => by cases hc'⟩ (fun b _ hb => ⟨hne b hb, rfl⟩) hlt rfl (fun _ _ => rfl) ⟨rfl, rfl, rfl, Nat.le_refl _⟩ (by intro c' hc'; cases hc')).2 v (.v false [.d (.r c.k c.l)]) ⟨_, rfl, hrd⟩ d
  rw [put_put, app_row] at h2
  refine ⟨G', ?_, hrd⟩
  rw [app_row]
  simpa [setD_setD] using h2
omit hV in
theorem opnd_slots {S S' : St} (h : S'.slots = S.slots) (ty : Nat) : S'.opnd V ty = S.opnd V ty := by
  funext x
  cases x <;> simp [St.opnd, h]
omit hV in
theorem opT_eq {S S' : St} (h : S'.slots = S.slots) (x : Option Operand) : x.map (S'.opnd V 0) = x.map (S.opnd V 0) := by rw [opnd_slots h]
/-- A part of a row of one's own that is given up. -/
theorem slice_fz (h : Inv w0 prot S G a w) {t : Nat} {I : TyI} {e : Nat} {c : RC} (hI : look t V.tys = some I) (hel : I.el = some (c.k, e)) {v : Value} {id ep : Nat} (hc : S.live id ep = some c) (hv : CR w G S.rows v (.ref id ep)) (lo hi mx : Option Operand)
    {p : Prop} {r : T} (hs : sliceT c.k c.l (lo.map (S.opnd V 0)) (hi.map (S.opnd V 0)) (mx.map (S.opnd V 0)) = some (some p, r)) (hp : p) (d : Option Nat) :
    ∃ u G', (Instr.sliceAt t v (lo.map a.eval) (hi.map a.eval) (mx.map a.eval)).run P w = .ok u w ∧ Inv w0 prot (S.app d ⟨r, [(id, ⟨ep, none⟩)], []⟩) G' (a.put d u) w := by
  obtain ⟨r0, hr, hep, hrc⟩ := live_spec hc
  have hid : id < S.rows.length := (List.getElem?_eq_some_iff.1 hr).1
  obtain ⟨hvh, _, _⟩ := own_of hV h hc hv
  have hset : S.rows.set id ⟨ep, some c⟩ = S.rows := by
    apply List.ext_getElem?
    intro j
    rw [List.getElem?_set]
    split
    · rename_i hj
      subst hj
      first
      | rw [if_pos hid, hr, hep, ← hrc]
      | (rw [hr, hep, ← hrc])
    · rfl
  have h1 : Inv w0 prot (S.app none ⟨.v false [.ref id ep], [(id, ⟨ep, some c⟩)], []⟩) G (a.put none v) w := by
    rw [app_row, hset]; exact h
  obtain ⟨G', h2, hrd⟩ := freeze h1 hid hvh.symm
  rw [app_row] at h2
  have h3 : Inv w0 prot ⟨S.slots, S.rows.set id ⟨ep, none⟩, S.boxes⟩ G' a w := h2
  obtain ⟨u, hrun, htr⟩ := slice_data hV h3 hI hel hrd lo hi mx (by rw [opT_eq (S := S) (S' := ⟨S.slots, S.rows.set id ⟨ep, none⟩, S.boxes⟩) rfl lo, opT_eq (S := S) (S' := ⟨S.slots, S.rows.set id ⟨ep, none⟩, S.boxes⟩) rfl hi, opT_eq (S := S) (S' := ⟨S.slots, S.rows.set id ⟨ep, none⟩, S.boxes⟩) rfl mx]; exact hs) hp
  refine ⟨u, G', hrun, ?_⟩
  have h4 := h3.put htr d
  rw [app_row]
  exact h4
theorem effB_ok (h : Inv w0 prot S G a w) {b : Builtin} {args : Array Operand} {tys : Array Nat} {K : Outc → Prop} (ty : Nat) (cs : Array Bool) {fz : Bool} (he : effB V S fz b args.toList tys.toList K) (d : Option Nat) :
    ∃ v w', (builtin b tys ty cs (args.map a.eval)).run P w = .ok (.value v) w' ∧ After w0 prot S d K (a.put d v) w' := by
  generalize hA : args.toList = A at he
  generalize hT : tys.toList = Ts at he
  unfold effB at he
  split at he
  · rename_i K0 s x t u
    obtain rfl : args = #[s, x] := Array.toList_inj.1 hA
    obtain rfl : tys = #[t, u] := Array.toList_inj.1 hT
    split at he
    · rename_i g zc k e zo fs id ep k' l' hI hs hx
      split at he
      · rename_i c hc
        split at he
        · rename_i hk
          split at he
          · rename_i hcc
            obtain ⟨rfl, rfl, rfl⟩ := hcc
            obtain ⟨hlim, hK⟩ := he
            obtain ⟨cm, hcm, hsv⟩ := opnd_vr hV h hs
            cases hcm
            cases hxx : S.opnd V t x with
            | none => rw [hxx] at hx; simp at hx
            | some q =>
              rw [hxx] at hx
              obtain ⟨v', w', G', h1, h2, h3⟩ := append_ok hV h hI rfl hc rfl rfl hsv (opnd_tr hV h hxx) hx hk hlim ty d
              cases fz with
              | false => exact ⟨v', w', by simp [builtin, h1], _, G', hK, h2⟩
              | true =>
                obtain ⟨r, hr, _⟩ := live_spec hc
                obtain ⟨G2, h4, _⟩ := freeze h2 (List.getElem?_eq_some_iff.1 hr).1 h3
                exact ⟨v', w', by simp [builtin, h1], _, G2, hK, h4⟩
          · exact he.elim
        · exact he.elim
      · exact he.elim
    · exact he.elim
  · exact he.elim
theorem make_own (h : Inv w0 prot S G a w) {t : Nat} {I : TyI} {k : RK} {e : Nat} (hI : look t V.tys = some I) (hel : I.el = some (k, e)) {x : Int} (q1 : 0 ≤ x) (q3 : x.toNat ≤ LIM) {id : Nat} {r : Row} (hr0 : S.rows[id]? = some r) (d : Option Nat) :
    ∃ v w' G', (Instr.makeSlice t (.int .i64 x) (.int .i64 x)).run P w = .ok v w' ∧ Inv w0 prot (S.app d ⟨.v false [.ref id (r.ep + 1)], [(id, ⟨r.ep + 1, some ⟨e, k, List.replicate x.toNat k.z⟩⟩)], []⟩) G' (a.put d v) w' := by
  obtain ⟨hu, J, hJ, hz⟩ := (hV t _ hI).sl k e hel
  obtain ⟨i, z, i1, i2, i3, i4, _⟩ := (hV e J hJ).info
  have hsz : i.size = k.size := by rw [i2, hz, cells_len]
  have hL : x.toNat ≤ 137438953472 := q3
  have hbm : (i.bytes : Int) * x ≤ 281474976710656 := by
    have h1024 : (i.bytes : Int) ≤ 1024 := by omega
    calc (i.bytes : Int) * x ≤ 1024 * x := Int.mul_le_mul_of_nonneg_right h1024 q1
      _ ≤ 281474976710656 := by omega
  have hr := run_make (P := P) w t e i z hu i1 i4 .i64 .i64 x x q1 (Int.le_refl _) hbm (by omega)
  rw [hsz] at hr
  obtain ⟨m1, m2⟩ := made_ok hV hJ hz G.F w x.toNat i1 i4
  generalize hcur : madeCells z.cells (x.toNat * k.size) = cur at hr m1 m2
  have hlr : (List.replicate x.toNat k.z).length = x.toNat := List.length_replicate
  obtain ⟨G', h4⟩ := h.own_new hr0 e k (List.replicate x.toNat k.z) cur (by rw [hlr]; exact m2) m1 (by rw [hlr]; simp only [maxLen]; omega) d
  rw [hlr] at h4
  exact ⟨_, _, G', hr, h4⟩
theorem lit_own (h : Inv w0 prot S G a w) {t : Nat} {I : TyI} {k : RK} {e : Nat} (hI : look t V.tys = some I) (hel : I.el = some (k, e)) (n : Nat) (ps : Array (Nat × Operand)) (l : List k.El) (hb : elemsT V S k e 0 ps.toList = some l) (hl : l.length = n) (hn : n ≤ 1024)
    {id : Nat} {r : Row} (hr0 : S.rows[id]? = some r) (d : Option Nat) :
    ∃ v w' G', (Instr.buildSlice t n (ps.map fun p => (p.1, a.eval p.2))).run P w = .ok v w' ∧ Inv w0 prot (S.app d ⟨.v false [.ref id (r.ep + 1)], [(id, ⟨r.ep + 1, some ⟨e, k, l⟩⟩)], []⟩) G' (a.put d v) w' := by
  obtain ⟨arr, h2, h3⟩ := buildSlice_ok hV h hI hel n ps l hb hl hn
  have hal := h3.len
  rw [flat_len] at hal
  obtain ⟨G', h4⟩ := h.own_new hr0 e k l arr.toArray (by simpa using hal) h3 (by rw [hl]; simp only [maxLen]; omega) d
  rw [hl] at h4
  exact ⟨_, _, G', h2, h4⟩
include hC
set_option maxHeartbeats 2000000 in
theorem eff_ok (h : Inv w0 prot S G a w) {o : Oper} {K : Outc → Prop} (he : eff V S o K) {Q : Exit → Act → World → Prop} {next : Act → World → Prop} (hn : ∀ a' w', After w0 prot S o.dst K a' w' → next a' w') : o.wp P a w next Q := by
  unfold eff at he
  split at he
  case h_1 t p x hop =>
    split at he
    · rename_i I b ep off g xs hI hp hx
      split at he
      · rename_i cs hcs
        split at he
        · rename_i hc
          obtain ⟨w', G', h1, h2⟩ := store_box hV h hI (opnd_tr hV h hp) (opnd_vr hV h hx) hcs hc.1 hc.2 o.dst
          exact upon_skip (by simp [execOp, hop, h1]) (hn _ _ ⟨_, G', he, h2⟩)
        · exact he.elim
      · exact he.elim
    · rename_i I id ep i off g xs hI hp hx
      split at he
      · rename_i c ds hl hds
        split at he
        · rename_i hc
          split at he
          · rename_i e hm
            obtain ⟨w', G', h1, h2⟩ := store_row hV h hI (opnd_tr hV h hp) (opnd_vr hV h hx) hl hds hc.1 hc.2 hm o.dst
            exact upon_skip (by simp [execOp, hop, h1]) (hn _ _ ⟨_, G', he, h2⟩)
          · exact he.elim
        · exact he.elim
      · exact he.elim
    · exact he.elim
  case h_2 op t x y u hop =>
    split at he
    · rename_i g zc kk zo fs k l hy hI hx
      obtain ⟨hu, _⟩ := elem_kind hV hI (k := kk.1) (e := kk.2) rfl
      cases hxx : S.opnd V t x with
      | none => rw [hxx] at hx; simp at hx
      | some q =>
        rw [hxx] at hx
        rcases elems_lies hV h (opnd_tr hV h hxx) hx with ⟨⟨xx, hv⟩, hl⟩ | ⟨g', off, cap, xs, hv, _⟩
        · refine upon_val (v := .bool xx.isNone) (w' := w) (by simp [execOp, hop, hv, isNil_eval hy, eqGuard, Lib.run_eql_slice_nil w t kk.2 xx 0 0 0 0 hu]) (hn _ _ ⟨_, G, he xx.isNone (fun _ => hl), h.put (t := boo _) ⟨_, rfl, Rd.b _⟩ o.dst⟩)
        · refine upon_val (v := .bool false) (w' := w) (by simp [execOp, hop, hv, isNil_eval hy, eqGuard, Lib.run_eql_slice_nil w t kk.2 _ _ _ 0 0 hu]) (hn _ _ ⟨_, G, he false (fun h => by cases h), h.put (t := boo _) ⟨_, rfl, Rd.b _⟩ o.dst⟩)
    · rename_i g zc kk zo fs k l hy hI hx
      obtain ⟨hu, _⟩ := elem_kind hV hI (k := kk.1) (e := kk.2) rfl
      cases hxx : S.opnd V t x with
      | none => rw [hxx] at hx; simp at hx
      | some q =>
        rw [hxx] at hx
        rcases elems_lies hV h (opnd_tr hV h hxx) hx with ⟨⟨xx, hv⟩, hl⟩ | ⟨g', off, cap, xs, hv, _⟩
        · refine upon_val (v := .bool (!xx.isNone)) (w' := w) (by simp [execOp, hop, hv, isNil_eval hy, eqGuard, run_neq_slice_nil_any w t kk.2 xx 0 0 0 0 hu]) (hn _ _ ⟨_, G, he xx.isNone (fun _ => hl), h.put (t := boo _) ⟨_, rfl, Rd.b _⟩ o.dst⟩)
        · refine upon_val (v := .bool true) (w' := w) (by simp [execOp, hop, hv, isNil_eval hy, eqGuard, run_neq_slice_nil_any w t kk.2 _ _ _ 0 0 hu]) (hn _ _ ⟨_, G, he false (fun h => by cases h), h.put (t := boo _) ⟨_, rfl, Rd.b _⟩ o.dst⟩)
    · exact he.elim
  case h_3 x hop =>
    split at he
    · rename_i id g zc k e zo fs hd' hI
      split at he
      · rename_i hx
        obtain ⟨r, hr, hK⟩ := rowNew_spec hV he
        obtain ⟨G', h2⟩ := h.own_nil hr e k none o.dst
        exact upon_val (v := .slice none 0 0) (w' := w) (by simp [execOp, hop, isNil_eval hx]) (hn _ _ ⟨_, G', hK, h2⟩)
      · exact he.elim
    · exact he.elim
  case h_4 t ps hop =>
    split at he
    · rename_i ids I hd' hI
      split at he
      · rename_i hc
        obtain ⟨c1, c3⟩ := hc
        obtain ⟨v, h1, h2⟩ := build_own hV h hI c1 c3 ps he o.dst
        exact upon_val (by simp [execOp, hop, h1]) (hn _ _ h2)
      · exact he.elim
    · exact he.elim
  case h_5 t n ps hop =>
    split at he
    · rename_i id g zc k e zo fs hd' hI
      split at he
      · rename_i l hl
        split at he
        · rename_i hc
          obtain ⟨r, hr, hK⟩ := rowNew_spec hV he
          obtain ⟨v, w', G', h1, h2⟩ := lit_own hV h hI rfl n ps l hl hc.1 hc.2 hr o.dst
          exact upon_val (exec_val (s := Instr.buildSlice t n (ps.map fun p => (p.1, a.eval p.2))) (by simp only [execOp, hop]) h1) (hn _ _ ⟨_, G', hK, h2⟩)
        · exact he.elim
      · exact he.elim
    · exact he.elim
  case h_6 t n c hop =>
    split at he
    · rename_i id g zc k e zo fs x y hd' hI hx hy
      obtain ⟨⟨q1, q2, q3⟩, he⟩ := he
      subst q2
      obtain ⟨r, hr0, hK⟩ := rowNew_spec hV he
      obtain ⟨v, w', G', h1, h2⟩ := make_own hV h hI rfl q1 q3 hr0 o.dst
      refine upon_val (exec_val (s := Instr.makeSlice t (a.eval n) (a.eval c)) (by simp only [execOp, hop]) ?_) (hn _ _ ⟨_, G', hK, h2⟩)
      rw [opnd_int hV h hx, opnd_int hV h hy]
      exact h1
    · exact he.elim
  case h_7 t x lo hi mx hop =>
    split at he
    · rename_i g zc k' e' zo fs id ep hI hx
      split at he
      · rename_i c hc
        split at he
        · rename_i hkk
          split at he
          · split at he
            · split at he
              · rename_i p t' hs
                obtain ⟨cm, hcm, hsv⟩ := opnd_vr hV h hx
                cases hcm
                obtain ⟨rfl, rfl⟩ := hkk
                obtain ⟨u, G', hrun, h2⟩ := slice_fz hV h hI rfl hc hsv lo hi mx hs he.1 o.dst
                exact upon_val (v := u) (w' := w) (exec_val (by simp only [execOp, hop]) hrun) (hn _ _ ⟨_, G', he.2, h2⟩)
              · exact he.elim
            split at he
            · rename_i hi mx
              split at he
              · rename_i m n hm hn'
                obtain ⟨⟨e1, e2⟩, hK⟩ := he
                obtain ⟨cm, hcm, hsv⟩ := opnd_vr hV h hx
                cases hcm
                obtain ⟨rfl, rfl⟩ := hkk
                obtain ⟨r, hr, hep, hrc⟩ := live_spec hc
                have hid : id < S.rows.length := (List.getElem?_eq_some_iff.1 hr).1
                obtain ⟨hvh, ⟨zs, hown, hf⟩, htag⟩ := own_of hV h hc hsv
                have hvs : ∃ A cap, a.eval x = .slice A c.l.length cap ∧ c.l.length ≤ cap := by
                  rcases hown.2 with ⟨h1, h2⟩ | ⟨g, cap, cur, h1, _, _, h2, _⟩
                  · obtain ⟨xx, h1⟩ := h1; exact ⟨xx, 0, by rw [h2]; exact h1, by omega⟩
                  · exact ⟨_, cap, h1, h2⟩
                obtain ⟨A, cap, hvA, hcap⟩ := hvs
                obtain ⟨x1, y1, m1, _, _, _, _, _, _, g1, g2, g3, hrun⟩ := slice_run hV hI rfl A c.l.length cap hcap (lo' := none) (hi' := some (S.opnd V 0 hi)) (mx' := some (S.opnd V 0 mx)) (lo := none) (hi := some (a.eval hi)) (mx := some (a.eval mx)) trivial (lo_r h hV (some hi)) (lo_r h hV (some mx)) c.l rfl
                  (r := .v false [.d (.r c.k ((c.l.drop (0 : Int).toNat).take (m.toNat - (0 : Int).toNat)))]) (p := 0 ≤ (0 : Int) ∧ 0 ≤ m ∧ m ≤ n ∧ n ≤ c.l.length) (by simp [sliceT, endT, hm, hn']) ⟨by omega, by omega, by omega, by omega⟩
                obtain rfl : x1 = 0 := by simp only [endT, Option.some.injEq] at g1; omega
                obtain rfl : y1 = c.l.length := by simp only [endT, hm, Option.some.injEq] at g2; omega
                obtain rfl : m1 = c.l.length := by have := g3 _ rfl; simp only [hn', Option.some.injEq] at this; omega
                have hA : (if c.l.length = 0 then A else A.map (·.add (0 * c.k.size))) = A := by
                  split
                  · rfl
                  · cases A <;> simp [Addr.add]
                simp only [Nat.sub_zero] at hrun
                rw [hA] at hrun
                have hown' : OwnsC w 0 c.e c.k.size (.slice A c.l.length c.l.length) c.l.length zs := by rw [hvA] at hown; exact hown.clip
                let v' : Value := .slice A c.l.length c.l.length
                have hvb : ∀ b, ownB v' = some b → ownB (a.eval x) = some b := fun b hb => by
                  rw [hvA]
                  cases A with
                  | none => simp [v', ownB] at hb
                  | some ad =>
                    rcases Nat.eq_zero_or_pos c.l.length with h0 | hpos
                    · simp only [v', h0, ownB_zero] at hb; cases hb
                    · rw [ownB_pos hpos] at hb
                      rw [ownB_pos (by omega)]; exact hb
                have ho : OwnR w G.F v' ⟨c.e, c.k, c.l⟩ := ⟨zs, hown', hf⟩
                have := h.own hr ⟨ep + 1, some ⟨c.e, c.k, c.l⟩⟩ (w' := w) (G' := G.head id v') ⟨by simp; omega, fun h => by simp at h; omega⟩ (fun _ _ _ => ⟨rfl, rfl⟩) h.lt rfl (fun j hj => Gh.head_other _ _ _ hj) ⟨rfl, rfl, rfl, Nat.le_refl _⟩
                  (by intro c' hc'; cases hc'; rw [Gh.head_same]; exact ⟨ho, fun b hb => htag b (hvb b hb)⟩)
                refine upon_val (v := v') (w' := w) (exec_val (s := Instr.sliceAt t (a.eval x) none (some (a.eval hi)) (some (a.eval mx))) (by simp only [execOp, hop, Option.map_none, Option.map_some]) (by rw [hvA]; exact hrun))
                  (hn _ _ ⟨_, _, hK, this.2 _ _ (ref_tr (c := ⟨c.e, c.k, c.l⟩) (Gh.head_same _ _ _) (by rw [List.getElem?_set_self hid]) ho) o.dst⟩)
              · exact he.elim
            · exact he.elim
          · exact he.elim
        · exact he.elim
      · exact he.elim
    · rename_i g zc k' e' zo fs k l hI hx
      split at he
      · rename_i id hd'
        split at he
        · rename_i hc
          obtain ⟨rfl, c1, c2, c3⟩ := hc
          obtain ⟨r, hr, hK⟩ := rowNew_spec hV he
          obtain ⟨A, hrun⟩ := slice_zero hV h hI rfl (opnd_row hV h hx) c1 c2 c3
          obtain ⟨G', h2⟩ := h.own_nil hr e' k A o.dst
          exact upon_val (v := .slice A 0 0) (w' := w) (exec_val (by simp only [execOp, hop]) hrun) (hn _ _ ⟨_, G', hK, h2⟩)
        · exact he.elim
      · exact he.elim
    · exact he.elim
  case h_8 b args tys hop =>
    obtain ⟨v, w', hr, h2⟩ := effB_ok hV h o.type (args.map fun | .const v => true | x => false) he o.dst
    refine upon_val ?_ (hn _ _ h2)
    simp only [execOp, hop, resolve, Sem.run_bind, Sem.run_pure, Result.andThen_ok, invoke]
    exact hr
  case h_9 f args tys hop =>
    split at he
    · rename_i E ts hE hts
      have hcall := call_ok hC h hE (d := o.dst) (opnds_tr hV h hts) he
      obtain ⟨fn, f1, f2, f3⟩ := (hC f E hE).1
      unfold Oper.wp
      have hrun : (execOp a.eval o).run P w = .ok (.enter f (args.toList.map a.eval).toArray) w := by
        have hb : fn.body ≠ none := by intro hbd; rw [hbd] at f2; simp at f2
        have hnm : fn.name ≠ "runtime.NumGoroutine" := by simpa using f3
        simp [execOp, hop, resolve, Deferred.ofValue, Act.eval, invoke, callFunc, f1, hnm, hb]
        apply Array.ext'
        simp
      rw [hrun]
      refine Calls.mono hcall ?_
      rintro e w' ⟨v, rfl, h2⟩
      exact hn _ _ h2
    · exact he.elim
  case h_10 f first captured hop =>
    split at he
    · rename_i x h1 h2
      split at he
      · rename_i b ep hx
        split at he
        · rename_i cs hcs
          obtain rfl : first = #[] := Array.toList_inj.1 h1
          obtain rfl : captured = #[x] := Array.toList_inj.1 h2
          obtain ⟨B, hB, hep, hBc⟩ := box_spec hcs
          have hv := ((opnd_tr hV h hx) B hB).2 hep (by rw [hBc]; rfl)
          refine upon_val (v := .func (.func f) #[] #[.pointer (some ⟨G.bk b, 0, none⟩)]) (w' := w) ?_ (hn _ _ ⟨_, G, he, h.put (t := .fn f (some (b, ep))) (fun B' hB' => ?_) o.dst⟩)
          · simp [execOp, hop, Instr.makeFunc, hv]
          · rw [hB] at hB'; cases hB'
            exact ⟨Nat.le_of_eq hep, fun _ _ => rfl⟩
        · exact he.elim
      · exact he.elim
    · exact he.elim
  case h_11 t args tys hop =>
    split at he
    · rename_i f cb hst
      split at he
      · rename_i E ts hE hts
        split at he
        · rename_i hcl
          have hv : TR w G S.rows S.boxes (a.tmps.getD t undef) (.fn f cb) := h.slot t _ hst
          -- what the function value holds
          obtain ⟨cap, hcap, hcts⟩ : ∃ cap : List Value, a.tmps.getD t undef = .func (.func f) #[] cap.toArray ∧ F2 (TR w G S.rows S.boxes) cap (cbT cb) := by
            obtain ⟨_, hlive⟩ := hcl
            cases cb with
            | none => exact ⟨[], hv, .nil⟩
            | some p =>
              obtain ⟨b, ep⟩ := p
              obtain ⟨cs, hcs⟩ := Option.isSome_iff_exists.1 hlive
              obtain ⟨B, hB, hep, hBc⟩ := box_spec hcs
              refine ⟨[ptrV (G.bk b)], (hv B hB).2 hep (by rw [hBc]; rfl), .cons (fun B' hB' => ?_) .nil⟩
              rw [hB] at hB'; cases hB'
              exact ⟨Nat.le_of_eq hep, fun _ _ => rfl⟩
          have hcall := callC_ok hC h hE (d := o.dst) ((opnds_tr hV h hts).app hcts) he
          rw [Option.isNone_iff_eq_none.1 hcl.1, wrapV_none] at hcall
          obtain ⟨fn, f1, f2, f3⟩ := (hC f E hE).1
          unfold Oper.wp
          have hrun : (execOp a.eval o).run P w = .ok (.enter f (args.toList.map a.eval ++ cap).toArray) w := by
            have hb : fn.body ≠ none := by intro hbd; rw [hbd] at f2; simp at f2
            have hnm : fn.name ≠ "runtime.NumGoroutine" := by simpa using f3
            have hev : a.eval (.tmp t) = .func (.func f) #[] cap.toArray := hcap
            simp [execOp, hop, resolve, Deferred.ofValue, hev, invoke, callFunc, f1, hnm, hb]
          rw [hrun]
          refine Calls.mono hcall ?_
          rintro e w' ⟨v, rfl, h2⟩
          exact hn _ _ h2
        · exact he.elim
      · exact he.elim
    · exact he.elim
  case h_12 => exact he.elim
end
end Go.Proofs.YtlapeiijghebjaaE

/- An operation's outcomes are Go's; regions in the order of the text. Conditions: none. -/
set_option linter.unusedVariables false
namespace Go.Proofs.YtlapeiijghebjaaE
open Go Go.RowKit
section
variable {P : Program} {V : Env} (hV : TysOk P V) (hC : CallsOk P V) {w0 : World} {prot : Pro}
theorem part_spec {g : Bool} {out : Outc} {K : Outc → Prop} (h : part g out K) : K out := by
  unfold part at h
  split at h
  · rename_i x ht
    split at h
    · rename_i hx
      subst hx
      have : ({ out with t := boo true } : Outc) = out := by cases out; simp only at ht; subst ht; rfl
      rwa [this] at h
    · rename_i hx
      have hx' : x = false := by simpa using hx
      subst hx'
      have : ({ out with t := boo false } : Outc) = out := by cases out; simp only at ht; subst ht; rfl
      rwa [this] at h
  · exact h
theorem part_mk {g : Bool} {out : Outc} {K : Outc → Prop} (h : K out) : part g out K := by
  unfold part
  split
  · rename_i x ht
    split
    · rename_i hx
      subst hx
      have : ({ out with t := boo true } : Outc) = out := by cases out; simp only at ht; subst ht; rfl
      rwa [this]
    · rename_i hx
      have hx' : x = false := by simpa using hx
      subst hx'
      have : ({ out with t := boo false } : Outc) = out := by cases out; simp only at ht; subst ht; rfl
      rwa [this]
  · exact h
theorem gst_ok {S : St} {G : Gh} {a : Act} {w : World} (h : Inv w0 prot S G a w) {ops : Array Oper} {o : Oper} {b : Bool} (hg : gst S ops o = some b) : Region.wanted o (yielded ops a.tmps) = b := by
  unfold gst at hg
  unfold Region.wanted
  split at hg
  · rename_i hgd; cases hg; rw [hgd]
  · rename_i g want hgd
    rw [hgd]
    split at hg
    · rename_i t ht
      split at hg
      · rename_i x hx
        cases hg
        obtain ⟨c, hc, hr⟩ := h.slot t _ hx
        cases hc
        have hv := Rd.bool hr
        have hlt : t < a.tmps.size := by rw [h.len]; exact (List.getElem?_eq_some_iff.1 hx).1
        have : yielded ops a.tmps g = some x := by
          unfold yielded
          rw [ht]
          simp only [Option.bind_some]
          rw [show a.tmps[t]? = some (.bool x) by rw [Array.getElem?_eq_getElem hlt]; simp [Array.getD, hlt] at hv; rw [hv]]
        simp only [this]
        cases x <;> cases want <;> rfl
      · rename_i hx
        cases hg
        have hv : a.tmps.getD t undef = undef := h.slot t _ hx
        have hlt : t < a.tmps.size := by rw [h.len]; exact (List.getElem?_eq_some_iff.1 hx).1
        have : yielded ops a.tmps g = none := by
          unfold yielded
          rw [ht]
          simp only [Option.bind_some]
          rw [show a.tmps[t]? = some undef by rw [Array.getElem?_eq_getElem hlt]; simp [Array.getD, hlt] at hv; rw [hv]]
          rfl
        simp [this]
      · simp at hg
    · simp at hg
include hV hC
theorem Out_ok {S : St} {G : Gh} {a : Act} {w : World} (h : Inv w0 prot S G a w) {o : Oper} {K : Outc → Prop} (hk : Out V S o K) {Q : Exit → Act → World → Prop} {next : Act → World → Prop} (hn : ∀ a' w', After w0 prot S o.dst K a' w' → next a' w') : o.wp P a w next Q := by
  unfold Out at hk
  split at hk
  · rename_i out he
    obtain ⟨v, w', G', h1, h2⟩ := eag_ok hV h he (fun q hq => by cases hq)
    exact upon_val h1 (hn _ _ ⟨_, G', hk, h2⟩)
  · rename_i p out he
    obtain ⟨v, w', G', h1, h2⟩ := eag_ok hV h he (fun q hq => by cases hq; exact hk.1)
    exact upon_val h1 (hn _ _ ⟨_, G', hk.2, h2⟩)
  · exact eff_ok hV hC h hk hn
/-- One operation of a region. -/
theorem step_ok {S : St} {G : Gh} {a : Act} {w : World} (h : Inv w0 prot S G a w) {ops : Array Oper} {i : Nat} {o : Oper} (ho : ops[i]? = some o) {K : Outc → Prop} (hk : stepO V S ops i o K) {Q : Exit → Act → World → Prop} {next : Act → World → Prop}
    (hn : ∀ a' w', After w0 prot S o.dst K a' w' → next a' w') : wpOp P ops Q i next a w := by
  unfold stepO at hk
  unfold wpOp
  simp only [ho]
  split at hk
  · rename_i b hb
    have hw := gst_ok h hb
    rw [hw]
    split at hk
    · rename_i hbt
      rw [if_pos hbt]
      refine .inl (Out_ok hV hC h hk fun a' w' ha => hn a' w' ?_)
      obtain ⟨out, G', h1, h2⟩ := ha
      exact ⟨out, G', part_spec h1, h2⟩
    · rename_i hbt
      rw [if_neg hbt]
      exact hn _ _ ⟨_, G, hk, h.put (v := undef) (t := .und) rfl o.dst⟩
  · exact hk.elim
theorem evOps_ok {ops : Array Oper} {Q : Exit → Act → World → Prop} : ∀ {l : List Nat} {S : St} {G : Gh} {a : Act} {w : World} {K : St → Prop}, Inv w0 prot S G a w → evOps V ops l S K → (∀ S' G' a' w', Inv w0 prot S' G' a' w' → K S' → Q .normal a' w') → wpOps P ops Q l a w
  | [], S, G, a, w, K, h, hk, hn => hn S G a w h hk
  | i :: l, S, G, a, w, K, h, hk, hn => by
    rw [wpOps_cons]
    simp only [evOps] at hk
    split at hk
    · rename_i o ho
      refine step_ok hV hC h ho hk fun a' w' ha => ?_
      obtain ⟨out, G', h1, h2⟩ := ha
      exact evOps_ok h2 h1 hn
    · exact hk.elim
end
end Go.Proofs.YtlapeiijghebjaaE

/- Operations that do not touch each other may be taken in either order: what an operation looks at. Conditions: none. -/
set_option linter.unusedVariables false
namespace Go.Proofs.YtlapeiijghebjaaE
open Go Go.RowKit
def T.bx : T → Option Nat
  | .pb b _ _ => some b
  | .fn _ (some (b, _)) => some b
  | _ => none
def noPbO (X : Option Nat) (t : T) : Prop := ∀ b, t.bx = some b → X ≠ some b
theorem noPbO_v (X : Option Nat) (g : Bool) (cs : List Cm) : noPbO X (.v g cs) := fun _ h => by cases h
theorem noPbO_und (X : Option Nat) : noPbO X .und := fun _ h => by cases h
/-- S' is S to the operation o; X: a variable that is there in S' and, to o, is not. -/
structure Sim (V : Env) (o : Oper) (X : Option Nat) (S S' : St) : Prop where
  rows : S'.rows = S.rows
  opnd : ∀ x ∈ o.op.operands, ∀ ty, S'.opnd V ty x = S.opnd V ty x
  box : ∀ b, X ≠ some b → S'.boxes[b]? = S.boxes[b]?
  no : ∀ x ∈ o.op.operands, ∀ ty t, S.opnd V ty x = some t → noPbO X t
  live : ∀ b, X = some b → ∃ B, S'.boxes[b]? = some B ∧ B.c.isSome = true
section
variable {V : Env} {o : Oper} {X : Option Nat} {S S' : St}
theorem Sim.lv (h : Sim V o X S S') (id ep : Nat) : S'.live id ep = S.live id ep := by unfold St.live; rw [h.rows]
theorem Sim.el (h : Sim V o X S S') (t : T) : S'.elems t = S.elems t := by
  unfold St.elems
  split <;> first | rfl | (rw [h.lv])
theorem Sim.bx (h : Sim V o X S S') {b : Nat} (hb : X ≠ some b) (ep : Nat) : S'.box b ep = S.box b ep := by unfold St.box; rw [h.box b hb]
theorem Sim.field (h : Sim V o X S S') {t : T} (ht : noPbO X t) (off : Nat) : fieldT S' off t = fieldT S off t := by
  unfold fieldT
  split
  · rename_i b ep o'; rw [h.bx (ht b rfl)]
  · rfl
  · rw [h.lv]
  · rfl
theorem Sim.load (h : Sim V o X S S') {t : T} (ht : noPbO X t) (g : Bool) (n : Nat) : loadT S' g n t = loadT S g n t := by
  unfold loadT
  split
  · rename_i b ep o'; rw [h.bx (ht b rfl)]
  · rfl
  · rw [h.lv]
  · rfl
theorem Sim.index (h : Sim V o X S S') (t : T) (i : Int) : indexT S' t i = indexT S t i := by
  unfold indexT
  split
  · rfl
  · rw [h.lv]
  · rfl
theorem build_sim (fs : List (Nat × Nat)) : ∀ (ps : List (Nat × Operand)) (cs : List Cm), (∀ p ∈ ps, ∀ ty, S'.opnd V ty p.2 = S.opnd V ty p.2) → buildT V S' fs ps cs = buildT V S fs ps cs
  | [], cs, _ => rfl
  | (f, x) :: ps, cs, h => by
    simp only [buildT]
    have hx := h (f, x) (by simp)
    simp only at hx
    split
    · rename_i off ft _
      rw [hx ft]
      split
      · split
        · exact build_sim fs ps _ fun p hp => h p (by simp [hp])
        · rfl
      · rfl
    · rfl
theorem elems_sim (k : RK) (et : Nat) : ∀ (ps : List (Nat × Operand)) (j : Nat), (∀ p ∈ ps, ∀ ty, S'.opnd V ty p.2 = S.opnd V ty p.2) → elemsT V S' k et j ps = elemsT V S k et j ps
  | [], j, _ => rfl
  | (i, x) :: ps, j, h => by
    simp only [elemsT]
    have hx := h (i, x) (by simp) et
    simp only at hx
    rw [hx, elems_sim k et ps (j + 1) fun p hp => h p (by simp [hp])]
theorem opnds_sim : ∀ (xs : List Operand) (tys : List Nat), (∀ x ∈ xs, ∀ ty, S'.opnd V ty x = S.opnd V ty x) → opnds V S' xs tys = opnds V S xs tys
  | [], _, _ => by simp only [opnds]
  | _ :: _, [], _ => rfl
  | x :: xs, ty :: tys, h => by
    simp only [opnds]
    rw [h x (by simp), opnds_sim xs tys fun y hy => h y (by simp [hy])]
theorem intOp_v {k : IntKind} {x y : Int} {op : BinOp} {p : Option Prop} {t : T} (h : intOp k x y op = some (p, t)) : ∃ g cs, t = .v g cs := by
  cases op <;> simp only [intOp] at h <;> first | (cases h; exact ⟨_, _, rfl⟩) | simp at h
theorem binT_v {tb : Bool} {op : BinOp} {a b t : T} {p : Option Prop} (h : binT tb op a b = some (p, t)) : ∃ g cs, t = .v g cs := by
  unfold binT at h
  split at h
  · split at h
    · cases h; exact ⟨_, _, rfl⟩
    · cases h; exact ⟨_, _, rfl⟩
    · split at h
      · exact intOp_v h
      · simp at h
  · split at h
    · cases h; exact ⟨_, _, rfl⟩
    · cases h; exact ⟨_, _, rfl⟩
    · simp at h
  · simp at h
theorem val_boxes (t : T) : (val t).boxes = [] := rfl
theorem val_t (t : T) : (val t).t = t := rfl
/-- What yields a value, but for what makes a variable. -/
theorem eag_sim (h : Sim V o X S S') (hb : ∀ t x, o.op ≠ .box t x) (ha : ∀ t, o.op ≠ .alloc t) :
    eag V S' o = eag V S o ∧ ∀ p out, eag V S o = some (p, out) → out.boxes = [] ∧ noPbO X out.t := by
  obtain ⟨dst, op, ty, pos, after, guard⟩ := o
  simp only at hb ha
  cases op with
  | move x =>
    have h0 := h.opnd x (by simp [Op.operands])
    refine ⟨by simp only [eag, h0], fun p out he => ?_⟩
    obtain ⟨t, h1, rfl⟩ := one_map he
    exact ⟨rfl, h.no x (by simp [Op.operands]) _ t h1⟩
  | assign x =>
    have h0 := h.opnd x (by simp [Op.operands])
    refine ⟨by simp only [eag, h0], fun p out he => ?_⟩
    simp only [eag] at he
    split at he
    · obtain ⟨t, h1, rfl⟩ := one_map he
      exact ⟨rfl, h.no x (by simp [Op.operands]) _ t h1⟩
    · simp at he
  | pick c x y =>
    have h0 := h.opnd c (by simp [Op.operands])
    have h1 := h.opnd x (by simp [Op.operands])
    have h2 := h.opnd y (by simp [Op.operands])
    refine ⟨by simp only [eag, h0, h1, h2], fun p out he => ?_⟩
    simp only [eag] at he
    split at he
    · rename_i t _
      obtain ⟨r, h3, rfl⟩ := one_map he
      refine ⟨rfl, ?_⟩
      rcases pickT_cases h3 with ⟨_, _, _, _, rfl⟩ | h4
      · exact noPbO_v _ _ _
      · cases t
        · exact h.no y (by simp [Op.operands]) _ r h4
        · exact h.no x (by simp [Op.operands]) _ r h4
    · simp at he
  | nilCheck x =>
    have h0 := h.opnd x (by simp [Op.operands])
    have hf : ∀ t, S.opnd V 0 x = some t → fieldT S' 0 t = fieldT S 0 t := fun t ht => h.field (h.no x (by simp [Op.operands]) _ t ht) 0
    refine ⟨?_, fun p out he => ?_⟩
    · simp only [eag, h0]
      cases ht : S.opnd V 0 x with
      | none => rfl
      | some t => simp only [Option.bind_some, hf t ht]
    · simp only [eag] at he
      obtain ⟨r, h1, rfl⟩ := one_map he
      refine ⟨rfl, ?_⟩
      cases ht : S.opnd V 0 x with
      | none => rw [ht] at h1; simp at h1
      | some t =>
        rw [ht] at h1
        have hn := h.no x (by simp [Op.operands]) _ t ht
        simp only [Option.bind_some, fieldT] at h1
        split at h1
        · split at h1
          · cases h1; intro b e; cases e; exact hn _ rfl
          · simp at h1
        · cases h1; intro _ e; cases e
        · split at h1
          · cases h1; intro _ e; cases e
          · simp at h1
        · simp at h1
  | fieldAddr s x f =>
    have h0 := h.opnd x (by simp [Op.operands])
    have hf : ∀ t off, S.opnd V 0 x = some t → fieldT S' off t = fieldT S off t := fun t off ht => h.field (h.no x (by simp [Op.operands]) _ t ht) off
    refine ⟨?_, fun p out he => ?_⟩
    · simp only [eag, h0]
      cases ht : S.opnd V 0 x with
      | none => cases V.ty s <;> rfl
      | some t =>
        have hf' := fun off => hf t off ht
        cases V.ty s with
        | none => rfl
        | some I => simp only [hf']
    · simp only [eag] at he
      split at he
      · rename_i I t _ ht
        split at he
        · split at he
          · split at he
            · simp at he
            · obtain ⟨r, h1, rfl⟩ := one_map he
              refine ⟨rfl, ?_⟩
              have hn := h.no x (by simp [Op.operands]) _ t ht
              simp only [fieldT] at h1
              split at h1
              · split at h1
                · cases h1; intro b e; cases e; exact hn _ rfl
                · simp at h1
              · cases h1; intro _ e; cases e
              · split at h1
                · cases h1; intro _ e; cases e
                · simp at h1
              · simp at h1
          · simp at he
        · simp at he
      · simp at he
  | load t x =>
    have h0 := h.opnd x (by simp [Op.operands])
    have hf : ∀ q g n, S.opnd V 0 x = some q → loadT S' g n q = loadT S g n q := fun q g n hq => h.load (h.no x (by simp [Op.operands]) _ q hq) g n
    refine ⟨?_, fun p out he => ?_⟩
    · simp only [eag, h0]
      cases hq : S.opnd V 0 x with
      | none => cases V.ty t <;> rfl
      | some q =>
        have hf' := fun g n => hf q g n hq
        cases V.ty t with
        | none => rfl
        | some I => simp only [hf']
    · simp only [eag] at he
      split at he
      · split at he
        · simp at he
        · obtain ⟨r, h1, rfl⟩ := one_spec he
          refine ⟨rfl, ?_⟩
          simp only [val_t]
          unfold loadT at h1
          split at h1
          · split at h1
            · split at h1
              · cases h1; exact noPbO_v _ _ _
              · simp at h1
            · simp at h1
          · split at h1
            · cases h1; exact noPbO_v _ _ _
            · simp at h1
          · split at h1
            · split at h1
              · cases h1; exact noPbO_v _ _ _
              · simp at h1
            · simp at h1
          · simp at h1
      · simp at he
  | binOp op t x y u =>
    have h0 := h.opnd x (by simp [Op.operands])
    have h1 := h.opnd y (by simp [Op.operands])
    refine ⟨by simp only [eag, h0, h1], fun p out he => ?_⟩
    simp only [eag] at he
    split at he
    · obtain ⟨r, h2, rfl⟩ := one_spec he
      obtain ⟨g, cs, rfl⟩ := binT_v h2
      exact ⟨rfl, noPbO_v _ _ _⟩
    · simp at he
  | unOp op t x =>
    have h0 := h.opnd x (by simp [Op.operands])
    refine ⟨by simp only [eag, h0], fun p out he => ?_⟩
    simp only [eag] at he
    split at he
    · obtain ⟨r, h2, rfl⟩ := one_spec he
      cases h2; exact ⟨rfl, noPbO_v _ _ _⟩
    · obtain ⟨r, h2, rfl⟩ := one_spec he
      cases h2; exact ⟨rfl, noPbO_v _ _ _⟩
    · simp at he
  | convert s t x =>
    have h0 := h.opnd x (by simp [Op.operands])
    refine ⟨by simp only [eag, h0], fun p out he => ?_⟩
    simp only [eag] at he
    split at he
    · obtain ⟨r, h2, rfl⟩ := one_spec he
      cases h2; exact ⟨rfl, noPbO_v _ _ _⟩
    · simp at he
  | extract x i =>
    have h0 := h.opnd x (by simp [Op.operands])
    refine ⟨by simp only [eag, h0], fun p out he => ?_⟩
    simp only [eag] at he
    split at he
    · split at he
      · obtain ⟨r, h2, rfl⟩ := one_spec he
        cases h2; exact ⟨rfl, noPbO_v _ _ _⟩
      · simp at he
    · simp at he
  | build t ps =>
    have hp : ∀ p ∈ ps.toList, ∀ ty, S'.opnd V ty p.2 = S.opnd V ty p.2 := fun p hp ty => h.opnd p.2 (by simp only [Op.operands, List.mem_toArray]; exact List.mem_map.2 ⟨p, hp, rfl⟩) ty
    refine ⟨?_, fun p out he => ?_⟩
    · simp only [eag, build_sim _ _ _ hp]
    · simp only [eag] at he
      split at he
      · split at he
        · split at he
          · obtain ⟨r, h2, rfl⟩ := one_spec he
            cases h2; exact ⟨rfl, noPbO_v _ _ _⟩
          · simp at he
        · simp at he
      · simp at he
  | buildSlice t n ps =>
    have hp : ∀ p ∈ ps.toList, ∀ ty, S'.opnd V ty p.2 = S.opnd V ty p.2 := fun p hp ty => h.opnd p.2 (by simp only [Op.operands, List.mem_toArray]; exact List.mem_map.2 ⟨p, hp, rfl⟩) ty
    refine ⟨?_, fun p out he => ?_⟩
    · simp only [eag, elems_sim _ _ _ _ hp]
    · simp only [eag] at he
      split at he
      · split at he
        · split at he
          · obtain ⟨r, h2, rfl⟩ := one_spec he
            cases h2; exact ⟨rfl, noPbO_v _ _ _⟩
          · simp at he
        · simp at he
      · simp at he
  | makeSlice t n c =>
    have h0 := h.opnd n (by simp [Op.operands])
    have h1 := h.opnd c (by simp [Op.operands])
    refine ⟨by simp only [eag, h0, h1], fun p out he => ?_⟩
    simp only [eag] at he
    split at he
    · obtain ⟨r, h2, rfl⟩ := one_spec he
      cases h2; exact ⟨rfl, noPbO_v _ _ _⟩
    · simp at he
  | indexAddr t x i =>
    have h0 := h.opnd x (by simp [Op.operands])
    have h1 := h.opnd i (by simp [Op.operands])
    refine ⟨by simp only [eag, h0, h1, h.el, h.index], fun p out he => ?_⟩
    simp only [eag] at he
    split at he
    · split at he
      · split at he
        · obtain ⟨r, h2, rfl⟩ := one_spec he
          refine ⟨rfl, ?_⟩
          simp only [val_t]
          unfold indexT at h2
          split at h2
          · cases h2; intro _ e; cases e
          · split at h2
            · cases h2; intro _ e; cases e
            · simp at h2
          · simp at h2
        · simp at he
      · simp at he
    · simp at he
  | slice t x lo hi mx =>
    have h0 := h.opnd x (by simp [Op.operands])
    have hl : lo.map (S'.opnd V 0) = lo.map (S.opnd V 0) := by cases lo with
      | none => rfl
      | some y => simp only [Option.map_some]; rw [h.opnd y (by simp [Op.operands])]
    have hh : hi.map (S'.opnd V 0) = hi.map (S.opnd V 0) := by cases hi with
      | none => rfl
      | some y => simp only [Option.map_some]; rw [h.opnd y (by simp [Op.operands])]
    have hm : mx.map (S'.opnd V 0) = mx.map (S.opnd V 0) := by cases mx with
      | none => rfl
      | some y => simp only [Option.map_some]; rw [h.opnd y (by simp [Op.operands])]
    refine ⟨by simp only [eag, h0, hl, hh, hm], fun p out he => ?_⟩
    simp only [eag] at he
    split at he
    · split at he
      · obtain ⟨r, h2, rfl⟩ := one_spec he
        refine ⟨rfl, ?_⟩
        simp only [val_t]
        unfold sliceT at h2
        split at h2
        · split at h2
          · cases h2; exact noPbO_v _ _ _
          · split at h2
            · cases h2; exact noPbO_v _ _ _
            · simp at h2
        · simp at h2
      · simp at he
    · simp at he
  | call c =>
    obtain ⟨callee, args, tys⟩ := c
    cases callee with
    | builtin b =>
      have ho : ∀ x ∈ args.toList, ∀ ty, S'.opnd V ty x = S.opnd V ty x := fun x hx ty => h.opnd x (by simp only [Op.operands, Call.operands]; simpa using hx) ty
      have key : eagB V S' b args.toList tys.toList = eagB V S b args.toList tys.toList := by
        generalize args.toList = A at ho
        generalize tys.toList = Ts
        unfold eagB
        split
        · rename_i x t
          rw [ho x (by simp)]
          have : S'.elems = S.elems := funext h.el
          rw [this]
        · rename_i x y t u
          rw [ho x (by simp), ho y (by simp)]
        · rename_i x y t u
          rw [ho x (by simp), ho y (by simp)]
        · rfl
      refine ⟨by simp only [eag, key], fun p out he => ?_⟩
      simp only [eag] at he
      unfold eagB at he
      split at he
      · split at he
        · obtain ⟨r, h2, rfl⟩ := one_spec he
          cases h2; exact ⟨rfl, noPbO_v _ _ _⟩
        · simp at he
      · split at he
        · obtain ⟨r, h2, rfl⟩ := one_spec he
          unfold minMax at h2
          split at h2
          · split at h2
            · cases h2; exact ⟨rfl, noPbO_v _ _ _⟩
            · simp at h2
          · simp at h2
        · simp at he
      · split at he
        · obtain ⟨r, h2, rfl⟩ := one_spec he
          unfold minMax at h2
          split at h2
          · split at h2
            · cases h2; exact ⟨rfl, noPbO_v _ _ _⟩
            · simp at h2
          · simp at h2
        · simp at he
      · simp at he
    | value f => exact ⟨by simp only [eag], fun p out he => by simp [eag] at he⟩
    | invoke r m => exact ⟨by simp only [eag], fun p out he => by simp [eag] at he⟩
  | box t x => exact absurd rfl (hb t x)
  | alloc t => exact absurd rfl (ha t)
  | _ => exact ⟨by simp only [eag], fun p out he => by simp [eag] at he⟩
end
end Go.Proofs.YtlapeiijghebjaaE

/- Operations that do not touch each other: what turns something. Conditions: none. -/
set_option linter.unusedVariables false
namespace Go.Proofs.YtlapeiijghebjaaE
open Go Go.RowKit
/-- What is written is written in place, or where nothing is. -/
def okBx (S : St) (out : Outc) : Prop := ∀ p ∈ out.boxes, ∃ B, S.boxes[p.1]? = some B ∧ ((p.2.ep = B.ep ∧ B.c.isSome = true) ∨ B.c = none)
def offX (X : Option Nat) (out : Outc) : Prop := (∀ p ∈ out.boxes, X ≠ some p.1) ∧ noPbO X out.t
section
variable {V : Env} {o : Oper} {X : Option Nat} {S S' : St}
theorem rowNew_sim (h : S'.rows = S.rows) {id : Nat} {c : RC} {K K' : Outc → Prop} (hk : rowNew S' id c K) (hm : ∀ out, out.boxes = [] → noPbO X out.t → K out → K' out) : rowNew S id c K' := by
  unfold rowNew at hk ⊢
  rw [h] at hk
  split at hk
  · exact hm _ rfl (noPbO_v _ _ _) hk
  · exact hk
theorem ownCells_sim (h : S'.rows = S.rows) : ∀ {as : List AC} {ids : List Nat} {K K' : List Cm → List (Nat × Row) → List Nat → Prop}, ownCells S' ids as K → (∀ cs rs is, K cs rs is → K' cs rs is) → ownCells S ids as K'
  | [], ids, K, K', hk, hm => by cases ids <;> exact hm _ _ _ hk
  | x :: as, [], K, K', hk, hm => by
    cases x <;> (simp only [ownCells] at hk ⊢; exact ownCells_sim h hk fun _ _ _ h => hm _ _ _ h)
  | .d y :: as, id :: ids, K, K', hk, hm => by
    simp only [ownCells] at hk ⊢
    exact ownCells_sim h hk fun _ _ _ h => hm _ _ _ h
  | .own c :: as, id :: ids, K, K', hk, hm => by
    simp only [ownCells] at hk ⊢
    rw [h] at hk
    split at hk
    · exact ownCells_sim h hk fun _ _ _ h => hm _ _ _ h
    · exact hk
theorem resT_sim (h : S'.rows = S.rows) : ∀ {rs : List Arg} {ids : List Nat} {K K' : List (Bool × List Cm) → List (Nat × Row) → Prop}, resT S' ids rs K → (∀ l r, K l r → K' l r) → resT S ids rs K'
  | [], ids, K, K', hk, hm => by simp only [resT] at hk ⊢; exact hm _ _ hk
  | .p _ :: _, _, _, _, hk, _ => hk.elim
  | .v g cs :: rs, ids, K, K', hk, hm => by
    simp only [resT] at hk ⊢
    exact ownCells_sim h hk fun _ _ _ h1 => resT_sim h h1 fun _ _ h2 => hm _ _ h2
theorem argCells_sim (h : ∀ id ep, S'.live id ep = S.live id ep) (own : List (Nat × Nat)) (j : Nat) : ∀ (cs : List Cm) (i : Nat), argCells S' own j i cs = argCells S own j i cs
  | [], _ => rfl
  | c :: cs, i => by
    simp only [argCells, argCells_sim h own j cs (i + 1)]
    split
    · rfl
    · cases c with
      | d x => rfl
      | dead => rfl
      | ref id ep => simp only [h]
theorem argsT_sim (h : Sim V o X S S') (own : List (Nat × Nat)) : ∀ (ts : List T) (j : Nat), (∀ t ∈ ts, noPbO X t) → argsT S' own j ts = argsT S own j ts
  | [], _, _ => rfl
  | t :: ts, j, hn => by
    simp only [argsT, argsT_sim h own ts (j + 1) fun t ht => hn t (by simp [ht])]
    split
    · rfl
    · split
      · rw [argCells_sim h.lv]
      · rename_i b ep
        rw [h.bx (hn (.pb b ep 0) (by simp) b rfl)]
        split
        · rw [argCells_sim h.lv]
        · rfl
      · rfl
theorem argsT_bs {own : List (Nat × Nat)} : ∀ {ts : List T} {j : Nat} {as : List Arg} {ls gs : List Nat} {bs : List (Nat × Nat)}, argsT S own j ts = some (as, ls, gs, bs) → ∀ p ∈ bs, .pb p.1 p.2 0 ∈ ts
  | [], j, as, ls, gs, bs, h, p, hp => by simp only [argsT, Option.some.injEq, Prod.mk.injEq] at h; obtain ⟨_, _, _, rfl⟩ := h; cases hp
  | t :: ts, j, as, ls, gs, bs, h, p, hp => by
    simp only [argsT] at h
    split at h
    · simp at h
    · rename_i as' ls' gs' bs' h'
      split at h
      · split at h
        · cases h
          exact List.mem_cons_of_mem _ (argsT_bs h' p hp)
        · simp at h
      · split at h
        · split at h
          · cases h
            rcases List.mem_cons.1 hp with rfl | hp
            · simp
            · exact List.mem_cons_of_mem _ (argsT_bs h' p hp)
          · simp at h
        · simp at h
      · simp at h
theorem boxesT_ids : ∀ {bs : List (Nat × Nat)} {cs : List (List AC)} {bx : List (Nat × Box)}, boxesT bs cs = some bx → ∀ q ∈ bx, ∃ p ∈ bs, q.1 = p.1
  | [], [], bx, h, q, hq => by simp only [boxesT, Option.some.injEq] at h; subst h; cases hq
  | [], _ :: _, _, h, _, _ => by simp [boxesT] at h
  | _ :: _, [], _, h, _, _ => by simp [boxesT] at h
  | (b, ep) :: bs, c :: cs, bx, h, q, hq => by
    simp only [boxesT] at h
    split at h
    · rename_i r hr
      cases h
      rcases List.mem_cons.1 hq with rfl | hq
      · exact ⟨(b, ep), by simp, rfl⟩
      · obtain ⟨p, hp, e⟩ := boxesT_ids hr q hq
        exact ⟨p, by simp [hp], e⟩
    · simp at h
theorem tupT_no (l : List (Bool × List Cm)) : noPbO X (tupT l) := by
  unfold tupT
  split
  · exact noPbO_v _ _ _
  · intro _ e; cases e
theorem deads_sim (h : S'.rows = S.rows) : ∀ ids, deads S' ids = deads S ids
  | [] => rfl
  | id :: ids => by simp only [deads, h, deads_sim h ids]
/-- Where a variable comes to be. -/
theorem new_off (h : Sim V o X S S') {b : Nat} {B B' : Box} (hB : S'.boxes[b]? = some B) (he : B'.ep ≠ B.ep) {t : T} {r : List (Nat × Row)} {l : List (Nat × Box)} (hk : ∀ b', X = some b' → okBx S' ⟨t, r, l ++ [(b, B')]⟩) : X ≠ some b := by
  intro hx
  obtain ⟨B1, hB1, hc⟩ := hk b hx (b, B') (by simp)
  rw [hB] at hB1
  cases hB1
  obtain ⟨B2, hB2, hc2⟩ := h.live b hx
  rw [hB] at hB2
  cases hB2
  rcases hc with ⟨h1, _⟩ | h1
  · exact he h1
  · rw [h1] at hc2; simp at hc2
theorem uncl_sim (h : Sim V o X S S') (cl : Option (Nat × Bool)) : ∀ (ts : List T), (∀ t ∈ ts, noPbO X t) → uncl S' cl ts = uncl S cl ts ∧ ∀ ts', uncl S cl ts = some ts' → ∀ t ∈ ts', noPbO X t := by
  intro ts
  induction ts with
  | nil =>
    intro _
    cases cl with
    | none => exact ⟨by simp [uncl], fun ts' e t ht => by simp [uncl] at e; subst e; cases ht⟩
    | some p => exact ⟨by simp [uncl], fun ts' e => by simp [uncl] at e⟩
  | cons t ts ih =>
    intro hn
    obtain ⟨ih1, ih2⟩ := ih fun t ht => hn t (List.mem_cons_of_mem _ ht)
    cases cl with
    | none => exact ⟨by simp [uncl], fun ts' e t ht => by simp [uncl] at e; subst e; exact hn t ht⟩
    | some p =>
      unfold uncl
      split
      · simp at *
      · simp at *
      · rename_i f f' b ep heq hts
        cases heq; cases hts
        rw [h.bx (hn (.fn f' (some (b, ep))) (by simp) b rfl)]
        refine ⟨rfl, fun ts' e t ht => ?_⟩
        split at e
        · split at e
          · simp only [Option.some.injEq] at e; subst e
            simp only [List.mem_cons, List.not_mem_nil, or_false] at ht; subst ht
            exact fun b' e' => by cases e'; exact hn (.fn f' (some (b, ep))) (by simp) b rfl
          · simp at e
        · simp at e
      · refine ⟨rfl, fun ts' e t ht => ?_⟩
        split at e
        · simp only [Option.some.injEq] at e; subst e; cases ht
        · simp at e
      · rename_i p' t' ts'' _ _ heq hts
        cases heq; cases hts
        rw [ih1]
        refine ⟨rfl, fun ts' e t ht => ?_⟩
        split at e
        · rename_i r hr
          simp only [Option.some.injEq] at e; subst e
          rcases List.mem_cons.1 ht with rfl | ht
          · exact hn _ (by simp)
          · exact ih2 r hr t ht
        · simp at e
theorem callC_sim (h : Sim V o X S S') {dst : Option Nat} {E : Ent} {ts : List T} (hn : ∀ t ∈ ts, noPbO X t) {K K' : Outc → Prop} (hk : callC V S' dst E ts K) (hK : ∀ out, K out → ∀ b, X = some b → okBx S' out) (hm : ∀ out, K out → offX X out → K' out) : callC V S dst E ts K' := by
  unfold callC at hk ⊢
  rw [argsT_sim h _ _ _ hn] at hk
  split at hk
  · rename_i as ls gs bs hargs
    obtain ⟨h1, h2⟩ := hk
    refine ⟨h1, E.mono _ _ _ (fun rs cs h3 => ?_) h2⟩
    split at h3
    · rename_i bx hbx
      have hbo : ∀ q ∈ bx, X ≠ some q.1 := fun q hq hx => by
        obtain ⟨p, hp, e⟩ := boxesT_ids hbx q hq
        exact hn _ (argsT_bs hargs p hp) p.1 rfl (by rw [hx, e])
      rw [deads_sim h.rows] at h3
      dsimp only at h3 ⊢
      split at h3
      · rename_i c
        split at h3
        · rename_i b hb
          split at h3
          · rename_i B hB
            obtain ⟨h4, h5⟩ := h3
            have hx := new_off (t := .pb b (B.ep+1) 0) (r := deads S (bif flatRes [Arg.p c] cs then gs else ls ++ gs)) (B' := ⟨B.ep+1, some (datCells c)⟩) (l := bx) h hB (by simp) (hK _ h5)
            have hB' : S.boxes[b]? = some B := by rw [← h.box b hx]; exact hB
            simp only [hB']
            refine ⟨h4, hm _ h5 ⟨fun p hp => ?_, fun b' e => by cases e; exact hx⟩⟩
            rcases List.mem_append.1 hp with hp | hp
            · exact hbo p hp
            · simp at hp; subst hp; exact hx
          · exact h3.elim
        · exact h3.elim
      · exact resT_sim h.rows h3 fun l r h4 => ⟨h4.1, hm _ h4.2 ⟨hbo, tupT_no l⟩⟩
    · exact h3.elim
  · exact hk
theorem callT_sim (h : Sim V o X S S') {dst : Option Nat} {E : Ent} {ts : List T} (hn : ∀ t ∈ ts, noPbO X t) {K K' : Outc → Prop} (hk : callT V S' dst E ts K) (hK : ∀ out, K out → ∀ b, X = some b → okBx S' out) (hm : ∀ out, K out → offX X out → K' out) : callT V S dst E ts K' := by
  obtain ⟨h1, h2⟩ := uncl_sim h E.clo ts hn
  unfold callT at hk ⊢
  rw [h1] at hk
  split at hk
  · rename_i ts' hts
    exact callC_sim h (h2 ts' hts) hk hK hm
  · exact hk
theorem offX_app (fz : Bool) (id ep : Nat) (c : RC) : offX X (appO fz id ep c) := by
  cases fz <;> exact ⟨fun p hp => (by cases hp), noPbO_v _ _ _⟩
theorem offX_v (g : Bool) (cs : List Cm) (r : List (Nat × Row)) : offX X ⟨.v g cs, r, []⟩ := ⟨fun p hp => (by cases hp), noPbO_v _ _ _⟩
theorem eff_sim (h : Sim V o X S S') {K K' : Outc → Prop} (hk : eff V S' o K) (hK : ∀ out, K out → ∀ b, X = some b → okBx S' out) (hm : ∀ out, K out → offX X out → K' out) : eff V S o K' := by
  obtain ⟨dst, op, ty, pos, after, guard⟩ := o
  cases op with
  | store t p x =>
    have h0 := h.opnd p (by simp [Op.operands])
    have h1 := h.opnd x (by simp [Op.operands])
    simp only [eff, h0, h1] at hk ⊢
    split at hk
    · rename_i I b ep off g xs hI hp hx
      have hb := h.no p (by simp [Op.operands]) _ _ hp b rfl
      rw [h.bx hb] at hk
      split at hk
      · split at hk
        · rename_i hc
          rw [if_pos hc]
          exact hm _ hk ⟨fun q hq => (by simp at hq; subst hq; exact hb), noPbO_und _⟩
        · exact hk.elim
      · exact hk.elim
    · rw [h.lv] at hk
      split at hk
      · split at hk
        · rename_i hc
          rw [if_pos hc]
          split at hk
          · exact hm _ hk ⟨fun q hq => (by cases hq), noPbO_und _⟩
          · exact hk.elim
        · exact hk.elim
      · exact hk.elim
    · exact hk.elim
  | binOp op t x y u =>
    have h0 := h.opnd x (by simp [Op.operands])
    have hel : S'.elems = S.elems := funext h.el
    simp only [eff, h0, hel] at hk ⊢
    split at hk
    · exact fun b hb => hm _ (hk b hb) (offX_v _ _ _)
    · exact fun b hb => hm _ (hk b hb) (offX_v _ _ _)
    · exact hk.elim
  | assign x =>
    simp only [eff] at hk ⊢
    split at hk
    · split at hk
      · rename_i hx
        rw [if_pos hx]
        exact rowNew_sim (X := X) h.rows hk fun out h1 h2 h3 => hm _ h3 ⟨fun p hp => (by rw [h1] at hp; cases hp), h2⟩
      · exact hk.elim
    · exact hk.elim
  | build t ps =>
    have hp : ∀ p ∈ ps.toList, ∀ ty, S'.opnd V ty p.2 = S.opnd V ty p.2 := fun p hp ty => h.opnd p.2 (by simp only [Op.operands, List.mem_toArray]; exact List.mem_map.2 ⟨p, hp, rfl⟩) ty
    simp only [eff] at hk ⊢
    split at hk
    · split at hk
      · rename_i hc
        rw [if_pos hc]
        refine ownCells_sim h.rows hk fun cs rs is h1 => ?_
        rw [build_sim _ _ _ hp] at h1
        split at h1
        · exact hm _ h1 (offX_v _ _ _)
        · exact h1.elim
      · exact hk.elim
    · exact hk.elim
  | buildSlice t n ps =>
    have hp : ∀ p ∈ ps.toList, ∀ ty, S'.opnd V ty p.2 = S.opnd V ty p.2 := fun p hp ty => h.opnd p.2 (by simp only [Op.operands, List.mem_toArray]; exact List.mem_map.2 ⟨p, hp, rfl⟩) ty
    simp only [eff, elems_sim _ _ _ _ hp] at hk ⊢
    split at hk
    · split at hk
      · rename_i hl
        split at hk
        · rename_i hc
          rw [if_pos hc]
          exact rowNew_sim (X := X) h.rows hk fun out h1 h2 h3 => hm _ h3 ⟨fun p hp => (by rw [h1] at hp; cases hp), h2⟩
        · exact hk.elim
      · exact hk.elim
    · exact hk.elim
  | makeSlice t n c =>
    have h0 := h.opnd n (by simp [Op.operands])
    have h1 := h.opnd c (by simp [Op.operands])
    simp only [eff, h0, h1] at hk ⊢
    split at hk
    · exact ⟨hk.1, rowNew_sim (X := X) h.rows hk.2 fun out h1 h2 h3 => hm _ h3 ⟨fun p hp => (by rw [h1] at hp; cases hp), h2⟩⟩
    · exact hk.elim
  | slice t x lo hi mx =>
    have h0 := h.opnd x (by simp [Op.operands])
    simp only [eff, h0] at hk ⊢
    split at hk
    · rw [h.lv] at hk
      split at hk
      · split at hk
        · rename_i hc
          rw [if_pos hc]
          split at hk
          · split at hk
            · have hl : lo.map (S'.opnd V 0) = lo.map (S.opnd V 0) := by cases lo with
                | none => rfl
                | some y => simp only [Option.map_some]; rw [h.opnd y (by simp [Op.operands])]
              have hh : hi.map (S'.opnd V 0) = hi.map (S.opnd V 0) := by cases hi with
                | none => rfl
                | some y => simp only [Option.map_some]; rw [h.opnd y (by simp [Op.operands])]
              have hx : mx.map (S'.opnd V 0) = mx.map (S.opnd V 0) := by cases mx with
                | none => rfl
                | some y => simp only [Option.map_some]; rw [h.opnd y (by simp [Op.operands])]
              first | rw [hl, hh, hx] at hk | rw [← hl, ← hh, ← hx] at hk
              split at hk
              · rename_i p t' hs
                refine ⟨hk.1, hm _ hk.2 ⟨fun p hp => (by cases hp), ?_⟩⟩
                unfold sliceT at hs
                split at hs
                · split at hs
                  · cases hs; exact noPbO_v _ _ _
                  · split at hs
                    · cases hs; exact noPbO_v _ _ _
                    · simp at hs
                · simp at hs
              · exact hk.elim
            split at hk
            · rename_i hi mx
              rw [h.opnd hi (by simp [Op.operands]), h.opnd mx (by simp [Op.operands])] at hk
              split at hk
              · exact ⟨hk.1, hm _ hk.2 (offX_v _ _ _)⟩
              · exact hk.elim
            · exact hk.elim
          · exact hk.elim
        · exact hk.elim
      · exact hk.elim
    · split at hk
      · split at hk
        · rename_i hc
          rw [if_pos hc]
          exact rowNew_sim (X := X) h.rows hk fun out h1 h2 h3 => hm _ h3 ⟨fun p hp => (by rw [h1] at hp; cases hp), h2⟩
        · exact hk.elim
      · exact hk.elim
    · exact hk.elim
  | makeFunc fn first captured =>
    cases fn with
    | func f =>
      simp only [eff] at hk ⊢
      split at hk
      · rename_i x h1 h2
        have hx : x ∈ (⟨dst, .makeFunc (.func f) first captured, ty, pos, after, guard⟩ : Oper).op.operands := by
          simp only [Op.operands]
          have : x ∈ captured.toList := by rw [h2]; simp
          simp; exact .inr (by simpa using this)
        rw [h.opnd x hx] at hk
        split at hk
        · rename_i b ep hxt
          have hb := h.no x hx _ _ hxt b rfl
          rw [h.bx hb] at hk
          split at hk
          · exact hm _ hk ⟨fun p hp => (by cases hp), fun b' e => by cases e; exact hb⟩
          · exact hk.elim
        · exact hk.elim
      · exact hk.elim
    | _ => exact hk.elim
  | call c =>
    obtain ⟨callee, args, tys⟩ := c
    cases callee with
    | builtin b =>
      have ho : ∀ x ∈ args.toList, ∀ ty, S'.opnd V ty x = S.opnd V ty x := fun x hx ty => h.opnd x (by simp only [Op.operands, Call.operands]; simpa using hx) ty
      simp only [eff] at hk ⊢
      generalize args.toList = A at ho hk
      generalize tys.toList = Ts at hk
      unfold effB at hk ⊢
      split at hk
      · rename_i K0 s x t u
        have hel : S'.elems = S.elems := funext h.el
        rw [ho s (by simp), ho x (by simp), hel] at hk
        split at hk
        · rw [h.lv] at hk
          split at hk
          · split at hk
            · rename_i hc
              split at hk
              · rename_i hcc
                rw [dif_pos hc, if_pos hcc]
                exact ⟨hk.1, hm _ hk.2 (offX_app _ _ _ _)⟩
              · exact hk.elim
            · exact hk.elim
          · exact hk.elim
        · exact hk.elim
      · exact hk.elim
    | value f =>
      cases f with
      | func f =>
        have ho : ∀ x ∈ args.toList, ∀ ty, S'.opnd V ty x = S.opnd V ty x := fun x hx ty => h.opnd x (by simp only [Op.operands, Call.operands]; simp; exact .inr (by simpa using hx)) ty
        simp only [eff, opnds_sim _ _ ho] at hk ⊢
        split at hk
        · rename_i E ts hE hts
          refine callT_sim h (fun t ht => ?_) hk hK hm
          have : ∀ (xs : List Operand) (tys : List Nat) (ts : List T), (∀ x ∈ xs, x ∈ (⟨dst, .call ⟨.value (.func f), args, tys.toArray⟩, ty, pos, after, guard⟩ : Oper).op.operands) → opnds V S xs tys = some ts → ∀ t ∈ ts, ∃ x ∈ xs, ∃ ty, S.opnd V ty x = some t := by
            intro xs
            induction xs with
            | nil => intro tys ts _ hh t ht; simp only [opnds, Option.some.injEq] at hh; subst hh; cases ht
            | cons x xs ih =>
              intro tys ts hm hh t ht
              cases tys with
              | nil => simp [opnds] at hh
              | cons ty' tys =>
                simp only [opnds] at hh
                split at hh
                · rename_i t' ts' h1 h2
                  cases hh
                  rcases List.mem_cons.1 ht with rfl | ht
                  · exact ⟨x, by simp, ty', h1⟩
                  · obtain ⟨y, hy, q⟩ := ih tys ts' (fun y hy => by
                      have := hm y (by simp [hy])
                      simpa [Op.operands, Call.operands] using this) h2 t ht
                    exact ⟨y, by simp [hy], q⟩
                · simp at hh
          obtain ⟨x, hx, ty', hxt⟩ := this args.toList tys.toList ts (fun x hx => by simp only [Op.operands, Call.operands]; simp; exact .inr (by simpa using hx)) hts t ht
          exact h.no x (by simp only [Op.operands, Call.operands]; simp; exact .inr (by simpa using hx)) ty' t hxt
        · exact hk.elim
      | tmp tf =>
        have ho : ∀ x ∈ args.toList, ∀ ty, S'.opnd V ty x = S.opnd V ty x := fun x hx ty => h.opnd x (by simp only [Op.operands, Call.operands]; simp; exact .inr (by simpa using hx)) ty
        have hmem : Operand.tmp tf ∈ (⟨dst, .call ⟨.value (.tmp tf), args, tys⟩, ty, pos, after, guard⟩ : Oper).op.operands := by simp [Op.operands, Call.operands]
        have hsl : S'.slots[tf]? = S.slots[tf]? := h.opnd (.tmp tf) hmem 0
        simp only [eff, opnds_sim _ _ ho, hsl] at hk ⊢
        split at hk
        · rename_i f cb hst
          have hnf : noPbO X (.fn f cb) := h.no (.tmp tf) hmem 0 _ hst
          have hlv : cbLive S' cb = cbLive S cb := by
            cases cb with
            | none => rfl
            | some p =>
              obtain ⟨b, ep⟩ := p
              simp only [cbLive]
              rw [h.bx (hnf b rfl)]
          split at hk
          · rename_i E ts hE hts
            rw [hlv] at hk
            split at hk
            · rename_i hcl
              rw [if_pos hcl]
              refine callC_sim h (fun t ht => ?_) hk hK hm
              rcases List.mem_append.1 ht with ht | ht
              · have : ∀ (xs : List Operand) (tys : List Nat) (ts : List T), opnds V S xs tys = some ts → ∀ t ∈ ts, ∃ x ∈ xs, ∃ ty, S.opnd V ty x = some t := by
                  intro xs
                  induction xs with
                  | nil => intro tys ts hh t ht; simp only [opnds, Option.some.injEq] at hh; subst hh; cases ht
                  | cons x xs ih =>
                    intro tys ts hh t ht
                    cases tys with
                    | nil => simp [opnds] at hh
                    | cons ty' tys =>
                      simp only [opnds] at hh
                      split at hh
                      · rename_i t' ts' h1 h2
                        cases hh
                        rcases List.mem_cons.1 ht with rfl | ht
                        · exact ⟨x, by simp, ty', h1⟩
                        · obtain ⟨y, hy, q⟩ := ih tys ts' h2 t ht
                          exact ⟨y, by simp [hy], q⟩
                      · simp at hh
                obtain ⟨x, hx, ty', hxt⟩ := this args.toList tys.toList ts hts t ht
                exact h.no x (by simp only [Op.operands, Call.operands]; simp; exact .inr (by simpa using hx)) ty' t hxt
              · cases cb with
                | none => cases ht
                | some p =>
                  obtain ⟨b, ep⟩ := p
                  simp only [cbT, List.mem_cons, List.not_mem_nil, or_false] at ht
                  subst ht
                  exact fun b' e => by cases e; exact hnf b rfl
            · exact hk.elim
          · exact hk.elim
        · exact hk.elim
      | _ => exact hk.elim
    | invoke r m => exact hk.elim
  | _ => exact hk.elim
end
end Go.Proofs.YtlapeiijghebjaaE

/- Regions that draw their order: what may be taken first is taken first. Conditions: none. -/
set_option linter.unusedVariables false
namespace Go.Proofs.YtlapeiijghebjaaE
open Go Go.RowKit
def eagO (V : Env) (S : St) (ops : Array Oper) (o : Oper) : Option (Option Prop × Outc) := match gst S ops o with
  | some true => eag V S o
  | some false => some (none, val .und)
  | none => none
def okS (u : List Nat × List Nat) (S : St) (out : Outc) : Prop := (∀ p ∈ out.rows, p.1 ∈ u.2) ∧ ∀ p ∈ out.boxes, ∃ B, S.boxes[p.1]? = some B ∧ ((p.2.ep = B.ep ∧ B.c.isSome = true ∧ p.1 ∈ u.1) ∨ B.c = none)
def evAll (V : Env) (u : List Nat × List Nat) (ops : Array Oper) : Nat → Array Bool → St → (St → Prop) → Prop
  | 0, listed, S, K => Region.ready .any ops listed = [] ∧ K S
  | n + 1, listed, S, K => (Region.ready .any ops listed = [] → K S) ∧ ∀ i ∈ Region.ready .any ops listed, ∃ o, ops[i]? = some o ∧
      stepO V S ops i o fun out => okS u S out ∧ evAll V u ops n (listed.setIfInBounds i true) (S.app o.dst out) K
section
variable {V : Env} {u : List Nat × List Nat} {ops : Array Oper}
theorem stepO_eagO {S : St} {i : Nat} {o : Oper} {p : Option Prop} {out : Outc} (h : eagO V S ops o = some (p, out)) (K : Outc → Prop) : stepO V S ops i o K ↔ (∀ q, p = some q → q) ∧ K out := by
  unfold eagO at h
  unfold stepO
  split at h
  · rename_i hg
    rw [hg]
    simp only [if_true]
    unfold Out
    rw [h]
    cases p with
    | none => exact ⟨fun hk => ⟨fun q hq => (by cases hq), part_spec hk⟩, fun hk => part_mk hk.2⟩
    | some q => exact ⟨fun hk => ⟨fun q' hq => (by cases hq; exact hk.1), part_spec hk.2⟩, fun hk => ⟨hk.1 q rfl, part_mk hk.2⟩⟩
  · rename_i hg
    rw [hg]
    cases h
    simp only [Bool.false_eq_true, if_false]
    exact ⟨fun hk => ⟨fun q hq => (by cases hq), hk⟩, fun hk => hk.2⟩
  · simp at h
theorem Sim.refl (V : Env) (o : Oper) (S : St) : Sim V o none S S := ⟨rfl, fun _ _ _ => rfl, fun _ _ => rfl, fun _ _ _ _ _ _ _ h => (by cases h), fun _ h => (by cases h)⟩
theorem eag_boxes {S : St} {o : Oper} {p : Option Prop} {out : Outc} (h : eag V S o = some (p, out)) : out.boxes = [] ∨ ∃ b B cs, out.boxes = [(b, ⟨B.ep + 1, some cs⟩)] ∧ S.boxes[b]? = some B := by
  by_cases hb : ∃ t x, o.op = .box t x
  · obtain ⟨t, x, hop⟩ := hb
    unfold eag at h
    rw [hop] at h
    dsimp only at h
    split at h
    · split at h
      · rename_i B hB
        split at h
        · cases h; exact .inr ⟨_, B, _, rfl, hB⟩
        · simp at h
      · simp at h
    · simp at h
  · by_cases ha : ∃ t, o.op = .alloc t
    · obtain ⟨t, hop⟩ := ha
      unfold eag at h
      rw [hop] at h
      dsimp only at h
      split at h
      · split at h
        · rename_i B hB
          cases h; exact .inr ⟨_, B, _, rfl, hB⟩
        · simp at h
      · simp at h
    · exact .inl ((eag_sim (Sim.refl V o S) (fun t x e => hb ⟨t, x, e⟩) (fun t e => ha ⟨t, e⟩)).2 p out h).1
theorem eagO_boxes {S : St} {o : Oper} {p : Option Prop} {out : Outc} (h : eagO V S ops o = some (p, out)) : out.boxes = [] ∨ ∃ b B cs, out.boxes = [(b, ⟨B.ep + 1, some cs⟩)] ∧ S.boxes[b]? = some B := by
  unfold eagO at h
  split at h
  · exact eag_boxes h
  · cases h; exact .inl rfl
  · simp at h
theorem opnd_set {S : St} {d : Option Nat} {t : T} {r : List Row} {b : List Box} {x : Operand} (h : ∀ i, d = some i → x ≠ .tmp i) (ty : Nat) : St.opnd V ⟨setD d t S.slots, r, b⟩ ty x = S.opnd V ty x := by
  cases x with
  | tmp j =>
    show (setD d t S.slots)[j]? = S.slots[j]?
    cases d with
    | none => rfl
    | some i =>
      have hne : i ≠ j := fun e => h i rfl (by rw [e])
      simp only [setD]
      exact List.getElem?_set_ne hne
  | _ => rfl
theorem looks_op {o : Oper} {x : Operand} (hx : x ∈ o.op.operands) {d : Nat} (h : d ∉ o.looksAt ops) : x ≠ .tmp d := fun e => h (by
  subst e
  exact List.mem_append_left _ (List.mem_filterMap.2 ⟨.tmp d, by simpa using hx, rfl⟩))
theorem gst_set {S : St} {o : Oper} {d : Option Nat} {t : T} {r : List Row} {b : List Box} (h : ∀ i, d = some i → i ∉ o.looksAt ops) : gst ⟨setD d t S.slots, r, b⟩ ops o = gst S ops o := by
  unfold gst
  split
  · rfl
  · rename_i g want hgd
    split
    · rename_i s hs
      have hg : (setD d t S.slots)[s]? = S.slots[s]? := by
        cases d with
        | none => rfl
        | some i =>
          refine List.getElem?_set_ne fun e => h i rfl ?_
          subst e
          refine List.mem_append_right _ ?_
          rw [hgd]
          simp [hs]
      simp only [hg]
    · rfl
theorem okS_of_within {S : St} {out : Outc} (h : within S u out = true) : okS u S out := by
  simp only [within, Bool.and_eq_true, List.all_eq_true] at h
  refine ⟨fun p hp => by simpa using h.1 p hp, fun p hp => ?_⟩
  have := h.2 p hp
  split at this
  · rename_i B hB
    refine ⟨B, hB, ?_⟩
    simp only [Bool.or_eq_true, Bool.and_eq_true, beq_iff_eq, Option.isNone_iff_eq_none] at this
    rcases this with h1 | h1
    · exact .inl ⟨h1.1.1, h1.1.2, by simpa using h1.2⟩
    · exact .inr h1
  · simp at this
/-- What one operation does not touch. -/
theorem fold_ne {α : Type} : ∀ (l : List (Nat × α)) (r : List α) (i : Nat), (∀ p ∈ l, p.1 ≠ i) → (l.foldl (fun r p => r.set p.1 p.2) r)[i]? = r[i]?
  | [], r, i, _ => rfl
  | p :: l, r, i, h => by
    rw [List.foldl_cons, fold_ne l _ i fun q hq => h q (by simp [hq]), List.getElem?_set_ne (h p (by simp))]
theorem fold_comm {α : Type} (i : Nat) (x : α) : ∀ (l : List (Nat × α)) (r : List α), (∀ p ∈ l, p.1 ≠ i) → l.foldl (fun r p => r.set p.1 p.2) (r.set i x) = (l.foldl (fun r p => r.set p.1 p.2) r).set i x
  | [], r, _ => rfl
  | p :: l, r, h => by
    rw [List.foldl_cons, List.foldl_cons, List.set_comm _ _ (fun e => h p (by simp) e.symm), fold_comm i x l _ fun q hq => h q (by simp [hq])]
theorem setD_comm {α : Type} {d e : Option Nat} (h : ∀ i, d = some i → e ≠ some i) (x y : α) (l : List α) : setD d x (setD e y l) = setD e y (setD d x l) := by
  cases d with
  | none => rfl
  | some i =>
    cases e with
    | none => rfl
    | some j =>
      have hne : i ≠ j := fun q => h i rfl (by rw [q])
      exact List.set_comm _ _ hne.symm
theorem app_comm {S : St} {d e : Option Nat} {o1 o2 : Outc} (hd : ∀ i, d = some i → e ≠ some i) (hr : o1.rows = []) (hb : o1.boxes = [] ∨ ∃ b B, o1.boxes = [(b, B)] ∧ ∀ p ∈ o2.boxes, p.1 ≠ b) :
    (S.app d o1).app e o2 = (S.app e o2).app d o1 := by
  unfold St.app
  simp only [hr, List.foldl_nil]
  congr 1
  · rw [setD_comm hd]
  · rcases hb with hb | ⟨b, B, hb, hn⟩
    · rw [hb]; rfl
    · rw [hb]
      simp only [List.foldl_cons, List.foldl_nil]
      exact fold_comm b B _ _ hn
/-- An operation taken first, told again behind another one. -/
theorem stable {S : St} {oi oj : Oper} {out : Outc} {p : Option Prop} {o1 : Outc} (hap : ∀ d, oj.dst = some d → d ∉ oi.looksAt ops) (he : eag V S oi = some (p, o1)) (hf : fixO S u oi = true) (ho : okS u S out) (hx : ∀ q ∈ o1.boxes, ∀ r ∈ out.boxes, r.1 ≠ q.1) :
    eag V (S.app oj.dst out) oi = some (p, o1) ∧ fixO (S.app oj.dst out) u oi = true := by
  have hop : ∀ x ∈ oi.op.operands, ∀ ty, (S.app oj.dst out).opnd V ty x = S.opnd V ty x := fun x hx ty => opnd_set (fun i hi => looks_op hx (hap i hi)) ty
  have hlive : ∀ id ep, id ∉ u.2 → (S.app oj.dst out).live id ep = S.live id ep := fun id ep hid => by
    have hr : (S.app oj.dst out).rows[id]? = S.rows[id]? := fold_ne _ _ _ fun q hq e => hid (by rw [← e]; exact ho.1 q hq)
    unfold St.live
    rw [hr]
  have hbox : ∀ b ep cs, b ∉ u.1 → S.box b ep = some cs → (S.app oj.dst out).box b ep = some cs := fun b ep cs hb hcs => by
    obtain ⟨B, hB, e1, e2⟩ := box_spec hcs
    have hr : (S.app oj.dst out).boxes[b]? = S.boxes[b]? := fold_ne _ _ _ fun q hq e => by
      obtain ⟨B1, hB1, h1⟩ := ho.2 q hq
      rw [e, hB] at hB1
      cases hB1
      rcases h1 with h1 | h1
      · exact hb (by rw [← e]; exact h1.2.2)
      · rw [e2] at h1; simp at h1
    unfold St.box
    rw [hr, hB]
    simp only [if_pos e1, e2]
  have hslot : ∀ x ∈ oi.op.operands, fixX (S.app oj.dst out) u x = fixX S u x := fun x hx => by
    unfold fixX
    split
    · rename_i t
      have := hop (.tmp t) hx 0
      simp only [St.opnd] at this
      rw [this]
    · rfl
  have hfield : ∀ t off r, t.fix u = true → fieldT S off t = some r → fieldT (S.app oj.dst out) off t = some r := fun t off r ht hr => by
    unfold fieldT at hr ⊢
    split at hr
    · rename_i b ep o'
      split at hr
      · rename_i cs hcs
        rw [hbox b ep cs (by simpa [T.fix] using ht) hcs]
        exact hr
      · simp at hr
    · exact hr
    · rename_i id ep i o'
      rw [hlive id ep (by simpa [T.fix] using ht)]
      exact hr
    · simp at hr
  have hload : ∀ t g n r, t.fix u = true → loadT S g n t = some r → loadT (S.app oj.dst out) g n t = some r := fun t g n r ht hr => by
    unfold loadT at hr ⊢
    split at hr
    · rename_i b ep o'
      split at hr
      · rename_i cs hcs
        rw [hbox b ep cs (by simpa [T.fix] using ht) hcs]
        exact hr
      · simp at hr
    · exact hr
    · rename_i id ep i o'
      rw [hlive id ep (by simpa [T.fix] using ht)]
      exact hr
    · simp at hr
  have helems : ∀ t, t.fix u = true → (S.app oj.dst out).elems t = S.elems t := fun t ht => by
    unfold St.elems
    split
    · rfl
    · rename_i id ep
      rw [hlive id ep (by simpa [T.fix, cmFix] using ht)]
    · rfl
  have hindex : ∀ t i, t.fix u = true → indexT (S.app oj.dst out) t i = indexT S t i := fun t i ht => by
    unfold indexT
    split
    · rfl
    · rename_i id ep
      rw [hlive id ep (by simpa [T.fix, cmFix] using ht)]
    · rfl
  have fixOf : ∀ x t ty, fixX S u x = true → S.opnd V ty x = some t → x = x → t.fix u = true := fun x t ty hx ht _ => by
    cases x with
    | tmp j =>
      simp only [St.opnd] at ht
      simp only [fixX, ht] at hx
      exact hx
    | const v =>
      simp only [St.opnd] at ht
      unfold opC at ht
      split at ht
      · cases ht; rfl
      · cases ht; rfl
      · split at ht
        · cases ht; rfl
        · simp at ht
      · cases ht; rfl
      · rename_i heq; cases heq
      · simp at ht
    | global g => simp [St.opnd] at ht
    | func f => simp only [St.opnd, opC, Option.some.injEq] at ht; subst ht; rfl
  obtain ⟨dst, op, ty, pos, after, guard⟩ := oi
  cases op with
  | nilCheck x =>
    have h0 := hop x (by simp [Op.operands])
    have hs := hslot x (by simp [Op.operands])
    simp only [fixO] at hf ⊢
    refine ⟨?_, by rw [hs]; exact hf⟩
    simp only [eag, h0] at he ⊢
    cases ht : S.opnd V 0 x with
    | none => rw [ht] at he; simp [one] at he
    | some t =>
      rw [ht] at he
      simp only [Option.bind_some] at he ⊢
      obtain ⟨r, h1, rfl⟩ := one_map he
      rw [hfield t 0 r (fixOf x t 0 hf ht rfl) h1]
      rw [h1] at he
      exact he
  | fieldAddr s x f =>
    have h0 := hop x (by simp [Op.operands])
    have hs := hslot x (by simp [Op.operands])
    simp only [fixO] at hf ⊢
    refine ⟨?_, by rw [hs]; exact hf⟩
    simp only [eag, h0] at he ⊢
    split at he
    · rename_i I t hI ht
      split at he
      · rename_i off ft hfs
        split at he
        · rename_i J hJ
          split at he
          · simp at he
          · rename_i hz
            obtain ⟨r, h1, rfl⟩ := one_map he
            simp only [hz, if_false]
            rw [hfield t off r (fixOf x t 0 hf ht rfl) h1]
            rw [h1] at he
            exact he
        · simp at he
      · simp at he
    · simp at he
  | load t x =>
    have h0 := hop x (by simp [Op.operands])
    have hs := hslot x (by simp [Op.operands])
    simp only [fixO] at hf ⊢
    refine ⟨?_, by rw [hs]; exact hf⟩
    simp only [eag, h0] at he ⊢
    split at he
    · rename_i I q hI hq
      split at he
      · simp at he
      · rename_i hz
        obtain ⟨r, h1, rfl⟩ := one_spec he
        rw [if_neg hz, hload q _ _ _ (fixOf x q 0 hf hq rfl) h1]
        rw [h1] at he
        exact he
    · simp at he
  | indexAddr t x i =>
    have h0 := hop x (by simp [Op.operands])
    have h1 := hop i (by simp [Op.operands])
    have hs := hslot x (by simp [Op.operands])
    simp only [fixO] at hf ⊢
    refine ⟨?_, by rw [hs]; exact hf⟩
    simp only [eag, h0, h1] at he ⊢
    split at he
    · rename_i g zc k e zo fs q kk n hI hq hi
      have hq' := fixOf x q t hf hq rfl
      rw [helems q hq', hindex q n hq']
      exact he
    · simp at he
  | call c =>
    obtain ⟨callee, args, tys⟩ := c
    cases callee with
    | builtin b =>
      have hoa : ∀ x ∈ args.toList, ∀ ty, (S.app oj.dst out).opnd V ty x = S.opnd V ty x := fun x hx ty => hop x (by simp only [Op.operands, Call.operands]; simpa using hx) ty
      have hsa : ∀ x ∈ args.toList, fixX (S.app oj.dst out) u x = fixX S u x := fun x hx => hslot x (by simp only [Op.operands, Call.operands]; simpa using hx)
      simp only [eag] at he ⊢
      constructor
      · generalize hA : args.toList = A at hoa he
        generalize tys.toList = Ts at he
        unfold eagB at he ⊢
        split at he
        · rename_i x t
          rw [hoa x (by simp)]
          have hfx : fixX S u x = true := by
            simp only [fixO] at hf
            rw [hA] at hf
            simpa using hf
          cases hq : S.opnd V t x with
          | none =>
            rw [hq] at he
            dsimp only [Option.bind_none] at he ⊢
            exact he
          | some q =>
            rw [hq] at he
            simp only [Option.bind_some] at he ⊢
            rw [helems q (fixOf x q t hfx hq rfl)]
            exact he
        · rename_i x y t u'
          rw [hoa x (by simp), hoa y (by simp)]
          exact he
        · rename_i x y t u'
          rw [hoa x (by simp), hoa y (by simp)]
          exact he
        · simp at he
      · unfold fixO at hf ⊢
        simp only at hf ⊢
        cases b <;> first | rfl | (
          simp only [List.all_eq_true] at hf ⊢
          exact fun x hx => by rw [hsa x hx]; exact hf x hx)
    | value f => simp [eag] at he
    | invoke r m => simp [eag] at he
  | box t x =>
    have h0 := hop x (by simp [Op.operands])
    refine ⟨?_, rfl⟩
    simp only [eag, h0] at he ⊢
    split at he
    · rename_i b I g cs hb hI hxx
      split at he
      · rename_i B hB
        split at he
        · rename_i hc
          cases he
          have hB' : (S.app oj.dst out).boxes[b]? = some B := by
            show (out.boxes.foldl (fun r p => r.set p.1 p.2) S.boxes)[b]? = _
            rw [fold_ne _ _ _ fun q hq => hx (b, ⟨B.ep + 1, some cs⟩) (by simp) q hq, hB]
          rw [hB']
          simp only [hc, if_true]
        · simp at he
      · simp at he
    · simp at he
  | alloc t =>
    refine ⟨?_, rfl⟩
    simp only [eag] at he ⊢
    split at he
    · rename_i b I hb hI
      split at he
      · rename_i B hB
        cases he
        have hB' : (S.app oj.dst out).boxes[b]? = some B := by
          show (out.boxes.foldl (fun r p => r.set p.1 p.2) S.boxes)[b]? = _
          rw [fold_ne _ _ _ fun q hq => hx (b, ⟨B.ep + 1, some (I.zc.map .d)⟩) (by simp) q hq, hB]
        rw [hB']
      · simp at he
    · simp at he
  | build t ps =>
    refine ⟨?_, rfl⟩
    have hp : ∀ p ∈ ps.toList, ∀ ty, (S.app oj.dst out).opnd V ty p.2 = S.opnd V ty p.2 := fun p hp ty => hop p.2 (by simp only [Op.operands, List.mem_toArray]; exact List.mem_map.2 ⟨p, hp, rfl⟩) ty
    simp only [eag, build_sim _ _ _ hp] at he ⊢
    exact he
  | buildSlice t n ps =>
    refine ⟨?_, rfl⟩
    have hp : ∀ p ∈ ps.toList, ∀ ty, (S.app oj.dst out).opnd V ty p.2 = S.opnd V ty p.2 := fun p hp ty => hop p.2 (by simp only [Op.operands, List.mem_toArray]; exact List.mem_map.2 ⟨p, hp, rfl⟩) ty
    simp only [eag, elems_sim _ _ _ _ hp] at he ⊢
    exact he
  | slice t x lo hi mx =>
    refine ⟨?_, rfl⟩
    have h0 := hop x (by simp [Op.operands])
    have hl : lo.map ((S.app oj.dst out).opnd V 0) = lo.map (S.opnd V 0) := by cases lo with
      | none => rfl
      | some y => simp only [Option.map_some]; rw [hop y (by simp [Op.operands])]
    have hh : hi.map ((S.app oj.dst out).opnd V 0) = hi.map (S.opnd V 0) := by cases hi with
      | none => rfl
      | some y => simp only [Option.map_some]; rw [hop y (by simp [Op.operands])]
    have hm : mx.map ((S.app oj.dst out).opnd V 0) = mx.map (S.opnd V 0) := by cases mx with
      | none => rfl
      | some y => simp only [Option.map_some]; rw [hop y (by simp [Op.operands])]
    simp only [eag, h0, hl, hh, hm] at he ⊢
    exact he
  | move x => exact ⟨by simp only [eag, hop x (by simp [Op.operands])] at he ⊢; exact he, rfl⟩
  | assign x => exact ⟨by simp only [eag, hop x (by simp [Op.operands])] at he ⊢; exact he, rfl⟩
  | pick c x y => exact ⟨by simp only [eag, hop x (by simp [Op.operands]), hop y (by simp [Op.operands]), hop c (by simp [Op.operands])] at he ⊢; exact he, rfl⟩
  | binOp op t x y v => exact ⟨by simp only [eag, hop x (by simp [Op.operands]), hop y (by simp [Op.operands])] at he ⊢; exact he, rfl⟩
  | unOp op t x => exact ⟨by simp only [eag, hop x (by simp [Op.operands])] at he ⊢; exact he, rfl⟩
  | convert s t x => exact ⟨by simp only [eag, hop x (by simp [Op.operands])] at he ⊢; exact he, rfl⟩
  | extract x i => exact ⟨by simp only [eag, hop x (by simp [Op.operands])] at he ⊢; exact he, rfl⟩
  | makeSlice t x y => exact ⟨by simp only [eag, hop x (by simp [Op.operands]), hop y (by simp [Op.operands])] at he ⊢; exact he, rfl⟩
  | _ => simp [eag] at he
/-- What 'eager' says. -/
theorem eager_spec {S : St} {listed : Array Bool} {i : Nat} (h : eager V S u ops listed i = true) : ∃ o p out, ops[i]? = some o ∧ Region.free .any ops listed i = true ∧ eagO V S ops o = some (p, out) ∧ out.rows = [] ∧ (gst S ops o = some true → fixO S u o = true ∧ eag V S o = some (p, out)) ∧
    ∀ q ∈ out.boxes, (∀ x ∈ S.slots, noPb q.1 x = true) ∧ ∃ B, S.boxes[q.1]? = some B ∧ B.c = none := by
  unfold eager at h
  split at h
  · rename_i o ho
    simp only [Bool.and_eq_true] at h
    obtain ⟨hf, h⟩ := h
    split at h
    · rename_i hg
      exact ⟨o, none, val .und, ho, hf, by simp [eagO, hg], rfl, fun e => by rw [hg] at e; simp at e, fun q hq => by cases hq⟩
    · rename_i hg
      simp only [Bool.and_eq_true] at h
      obtain ⟨hx, h⟩ := h
      split at h
      · rename_i p out he
        simp only [Bool.and_eq_true, List.isEmpty_iff, List.all_eq_true] at h
        refine ⟨o, p, out, ho, hf, by simp [eagO, hg, he], h.1, fun _ => ⟨hx, he⟩, fun q hq => ?_⟩
        have := h.2 q hq
        simp only [freshB, Bool.and_eq_true, List.all_eq_true] at this
        refine ⟨this.1, ?_⟩
        have h2 := this.2
        split at h2
        · rename_i B hB
          exact ⟨B, hB, by simpa using h2⟩
        · simp at h2
      · simp at h
    · simp at h
  · simp at h
theorem stepO_sim {S S' : St} {o : Oper} {X : Option Nat} {i : Nat} (h : Sim V o X S S') (hg : gst S' ops o = gst S ops o) {K : Outc → Prop} (hk : stepO V S' ops i o K) (hK : ∀ out, K out → ∀ b, X = some b → okBx S' out) {K' : Outc → Prop} (hm : ∀ out, K out → offX X out → K' out) : stepO V S ops i o K' := by
  unfold stepO at hk ⊢
  rw [hg] at hk
  split at hk
  · split at hk
    · rename_i hw
      rw [if_pos hw]
      unfold Out at hk ⊢
      have mk : ∀ out, part (isG ops i) out K → offX X out → part (isG ops i) out K' := fun out h1 h2 => part_mk (hm _ (part_spec h1) h2)
      by_cases hbx : (∃ t x, o.op = .box t x) ∨ ∃ t, o.op = .alloc t
      · -- a variable is made
        have key : ∀ p out, eag V S' o = some (p, out) → K out → eag V S o = some (p, out) ∧ offX X out := by
          intro p out he hKo
          have hb1 := eag_boxes he
          rcases hbx with ⟨t, x, hop⟩ | ⟨t, hop⟩
          · unfold eag at he ⊢
            rw [hop] at he ⊢
            dsimp only at he ⊢
            rw [h.opnd x (by rw [hop]; simp [Op.operands])] at he
            split at he
            · rename_i b I g cs hb hI hxx
              split at he
              · rename_i B hB
                split at he
                · rename_i hc
                  cases he
                  have hx := new_off (l := []) (B' := ⟨B.ep + 1, some cs⟩) (t := .pb b (B.ep + 1) 0) (r := []) h hB (by simp) (hK _ hKo)
                  rw [← h.box b hx, hB]
                  simp only [hc, if_true]
                  exact ⟨trivial, fun q hq => (by simp at hq; subst hq; exact hx), fun b' e => (by cases e; exact hx)⟩
                · simp at he
              · simp at he
            · simp at he
          · unfold eag at he ⊢
            rw [hop] at he ⊢
            dsimp only at he ⊢
            split at he
            · rename_i b I hb hI
              split at he
              · rename_i B hB
                cases he
                have hx := new_off (l := []) (B' := ⟨B.ep + 1, some (I.zc.map .d)⟩) (t := .pb b (B.ep + 1) 0) (r := []) h hB (by simp) (hK _ hKo)
                rw [← h.box b hx, hB]
                exact ⟨rfl, fun q hq => (by simp at hq; subst hq; exact hx), fun b' e => (by cases e; exact hx)⟩
              · simp at he
            · simp at he
        split at hk
        · rename_i out he
          obtain ⟨h1, h2⟩ := key _ _ he (part_spec hk)
          rw [h1]
          exact mk _ hk h2
        · rename_i p out he
          obtain ⟨h1, h2⟩ := key _ _ he (part_spec hk.2)
          rw [h1]
          exact ⟨hk.1, mk _ hk.2 h2⟩
        · unfold eff at hk
          rcases hbx with ⟨t, x, hop⟩ | ⟨t, hop⟩ <;> (rw [hop] at hk; exact hk.elim)
      · have hes := eag_sim h (fun t x e => hbx (.inl ⟨t, x, e⟩)) (fun t e => hbx (.inr ⟨t, e⟩))
        rw [hes.1] at hk
        split at hk
        · rename_i out he
          obtain ⟨h1, h2⟩ := hes.2 _ _ he
          exact mk _ hk ⟨fun q hq => (by rw [h1] at hq; cases hq), h2⟩
        · rename_i p out he
          obtain ⟨h1, h2⟩ := hes.2 _ _ he
          exact ⟨hk.1, mk _ hk.2 ⟨fun q hq => (by rw [h1] at hq; cases hq), h2⟩⟩
        · exact eff_sim h hk (fun out ho => hK out (part_spec ho)) mk
    · rename_i hw
      rw [if_neg hw]
      exact hm _ hk ⟨fun q hq => (by cases hq), noPbO_und _⟩
  · exact hk.elim
end
end Go.Proofs.YtlapeiijghebjaaE

/- Regions that draw their order: any order answers as the evaluator's. Conditions: none. -/
set_option linter.unusedVariables false
namespace Go.Proofs.YtlapeiijghebjaaE
open Go Go.RowKit
section
variable {V : Env} {u : List Nat × List Nat} {ops : Array Oper}
theorem stepO_mono {S : St} {o : Oper} {i : Nat} {K K' : Outc → Prop} (hk : stepO V S ops i o K) (hm : ∀ out, K out → K' out) : stepO V S ops i o K' :=
  stepO_sim (Sim.refl V o S) rfl hk (fun _ _ _ h => by cases h) fun out h _ => hm out h
theorem okS_eager {S : St} {out : Outc} (h1 : out.rows = []) (h2 : ∀ q ∈ out.boxes, (∀ x ∈ S.slots, noPb q.1 x = true) ∧ ∃ B, S.boxes[q.1]? = some B ∧ B.c = none) : okS u S out :=
  ⟨fun p hp => (by rw [h1] at hp; cases hp), fun p hp => by obtain ⟨_, B, hB, hc⟩ := h2 p hp; exact ⟨B, hB, .inr hc⟩⟩
theorem noPb_spec {b : Nat} {x : T} (h : noPb b x = true) : noPbO (some b) x := by
  intro b' e hb
  cases hb
  cases x with
  | pb b0 ep off => cases e; simp [noPb] at h
  | fn f cb =>
    cases cb with
    | none => cases e
    | some p => obtain ⟨b0, ep⟩ := p; cases e; simp [noPb] at h
  | _ => cases e
/-- The variable that an operation makes. -/
def madeX (out : Outc) : Option Nat := match out.boxes with
  | [] => none
  | p :: _ => some p.1
theorem ready_set {i j : Nat} {listed : Array Bool} (hj : j ∈ Region.ready .any ops listed) (hne : j ≠ i) : j ∈ Region.ready .any ops (listed.setIfInBounds i true) := ready_mono hj hne
theorem free_set {i j : Nat} {listed : Array Bool} (h : Region.free .any ops listed i = true) : Region.free .any ops (listed.setIfInBounds j true) i = true := by
  unfold Region.free at h ⊢
  split at h
  · simp at h
  · rename_i oi hoi
    rw [List.all_eq_true] at h ⊢
    intro k hk
    have := h k hk
    simp only [Bool.or_eq_true] at this ⊢
    rcases this with (h1 | h1) | h1
    · exact .inl (.inl h1)
    · refine .inl (.inr ?_)
      by_cases hkj : j = k
      · subst hkj
        by_cases hl : j < listed.size
        · simp [hl]
        · simp
      · rw [getD_set_ne true hkj]; exact h1
    · exact .inr h1
theorem first {i : Nat} {oi : Oper} : ∀ (n : Nat) (listed : Array Bool) (S : St) (K : St → Prop), eager V S u ops listed i = true → ops[i]? = some oi → i ∈ Region.ready .any ops listed →
    (∀ p out, eagO V S ops oi = some (p, out) → (∀ q, p = some q → q) ∧ evAll V u ops n (listed.setIfInBounds i true) (S.app oi.dst out) K) → evAll V u ops (n + 1) listed S K := by
  intro n
  induction n with
  | zero =>
    intro listed S K he hoi hr H
    obtain ⟨o, p, out, ho, hfree, hO, hrows, _, hbx⟩ := eager_spec he
    rw [hoi] at ho; cases ho
    obtain ⟨hp, hall⟩ := H p out hO
    refine ⟨fun h => (by rw [h] at hr; cases hr), fun j hj => ?_⟩
    by_cases hji : j = i
    · subst hji
      exact ⟨oi, hoi, (stepO_eagO hO _).2 ⟨hp, okS_eager hrows hbx, hall⟩⟩
    · have := ready_set hj hji
      rw [hall.1] at this
      cases this
  | succ n ih =>
    intro listed S K he hoi hr H
    obtain ⟨o, p, out, ho, hfree, hO, hrows, hfix, hbx⟩ := eager_spec he
    rw [hoi] at ho; cases ho
    obtain ⟨hp, hall⟩ := H p out hO
    refine ⟨fun h => (by rw [h] at hr; cases hr), fun j hj => ?_⟩
    by_cases hji : j = i
    · subst hji
      exact ⟨oi, hoi, (stepO_eagO hO _).2 ⟨hp, okS_eager hrows hbx, hall⟩⟩
    · obtain ⟨oj, hoj, hstep⟩ := hall.2 j (ready_set hj hji)
      refine ⟨oj, hoj, ?_⟩
      obtain ⟨hjun, oj', hoj', hdep⟩ := mem_ready.1 hj
      rw [hoj] at hoj'; cases hoj'
      have hnot : ∀ e ∈ oj.after, Region.binds .any e = true → e.on ≠ i := fun e he' hb heq => by
        have h1 := hdep e he' hb
        have h0 := (mem_ready.1 hr).1
        rw [heq] at h1
        rcases Nat.lt_or_ge i listed.size with h' | h'
        · simp [h'] at h0 h1; rw [h0] at h1; cases h1
        · simp [Array.getElem?_eq_none h'] at h1
      have hap := Region.free_spec hoi hfree j oj hoj hji hjun hnot
      obtain ⟨a1, a2, a3⟩ := Oper.apart_spec hap
      have hob := eagO_boxes hO
      -- j, ahead of i
      have hsim : Sim V oj (madeX out) S (S.app oi.dst out) := by
        refine ⟨by show out.rows.foldl _ S.rows = _; rw [hrows]; rfl, fun x hx ty => opnd_set (fun d hd => looks_op hx (a1 d hd)) ty, fun b hb => ?_, fun x hx ty t ht => ?_, fun b hb => ?_⟩
        · show (out.boxes.foldl (fun r p => r.set p.1 p.2) S.boxes)[b]? = _
          refine fold_ne _ _ _ fun q hq e => hb ?_
          rcases hob with h1 | ⟨b', B, cs, h1, _⟩
          · rw [h1] at hq; cases hq
          · rw [h1] at hq; simp at hq; subst hq; simp only at e; subst e; simp [madeX, h1]
        · rcases hob with h1 | ⟨b', B, cs, h1, _⟩
          · intro b _ hX; simp [madeX, h1] at hX
          · have hX : madeX out = some b' := by simp [madeX, h1]
            rw [hX]
            have hfr := (hbx (b', ⟨B.ep + 1, some cs⟩) (by rw [h1]; simp)).1
            cases x with
            | tmp k => exact noPb_spec (hfr t (List.mem_of_getElem? ht))
            | const v =>
              simp only [St.opnd] at ht
              unfold opC at ht
              split at ht
              · cases ht; exact noPbO_v _ _ _
              · cases ht; exact noPbO_v _ _ _
              · split at ht
                · cases ht; exact noPbO_v _ _ _
                · simp at ht
              · cases ht; intro _ e; cases e
              · cases ht; intro _ e; cases e
              · simp at ht
            | global g => simp [St.opnd] at ht
            | func f => simp only [St.opnd, opC, Option.some.injEq] at ht; subst ht; intro _ e; cases e
        · rcases hob with h1 | ⟨b', B, cs, h1, h2⟩
          · simp [madeX, h1] at hb
          · have hX : madeX out = some b' := by simp [madeX, h1]
            rw [hX] at hb
            cases hb
            refine ⟨⟨B.ep + 1, some cs⟩, ?_, rfl⟩
            show (out.boxes.foldl (fun r p => r.set p.1 p.2) S.boxes)[_]? = _
            rw [h1]
            simp only [List.foldl_cons, List.foldl_nil]
            rw [List.getElem?_set_self (List.getElem?_eq_some_iff.1 h2).1]
      have hgj : gst (S.app oi.dst out) ops oj = gst S ops oj := gst_set fun d hd => a1 d hd
      refine stepO_sim hsim hgj hstep (fun out' h1 b _ p hp => ?_) fun out' h1 hoff => ?_
      · obtain ⟨B, hB, hc⟩ := h1.1.2 p hp
        exact ⟨B, hB, hc.imp (fun h => ⟨h.1, h.2.1⟩) id⟩
      · obtain ⟨⟨q1, q2⟩, q3⟩ := h1
        -- what j writes is fine ahead of i, too
        have hok : okS u S out' := ⟨q1, fun p hp => by
          obtain ⟨B, hB, hc⟩ := q2 p hp
          have := hsim.box p.1 (hoff.1 p hp)
          rw [this] at hB
          exact ⟨B, hB, hc⟩⟩
        refine ⟨hok, ?_⟩
        have hxb : ∀ q ∈ out.boxes, ∀ r ∈ out'.boxes, r.1 ≠ q.1 := fun q hq r hr' e => by
          rcases hob with h1 | ⟨b', B, cs, h1, _⟩
          · rw [h1] at hq; cases hq
          · rw [h1] at hq; simp at hq; subst hq
            exact hoff.1 r hr' (by simp [madeX, h1]; exact e.symm)
        have hgi : gst (S.app oj.dst out') ops oi = gst S ops oi := gst_set fun d hd => a3 d hd
        have hO' : eagO V (S.app oj.dst out') ops oi = some (p, out) ∧ (gst S ops oi = some true → fixO (S.app oj.dst out') u oi = true ∧ eag V (S.app oj.dst out') oi = some (p, out)) := by
          unfold eagO at hO ⊢
          rw [hgi]
          split at hO
          · rename_i hg
            obtain ⟨hfx, hea⟩ := hfix hg
            obtain ⟨s1, s2⟩ := stable (fun d hd => a3 d hd) hea hfx hok hxb
            exact ⟨s1, fun _ => ⟨s2, s1⟩⟩
          · rename_i hg
            exact ⟨hO, fun e => by rw [hg] at e; simp at e⟩
          · simp at hO
        refine ih (listed.setIfInBounds j true) (S.app oj.dst out') K ?_ hoi (ready_set hr (Ne.symm hji)) ?_
        · -- i may still be taken first
          unfold eager
          rw [hoi]
          simp only [free_set hfree, Bool.true_and, hgi]
          unfold eagO at hO
          split at hO
          · rename_i hg
            obtain ⟨s1, s2⟩ := hO'.2 hg
            rw [hg]
            simp only [s1, s2, Bool.true_and, Bool.and_eq_true, List.isEmpty_iff, List.all_eq_true]
            refine ⟨hrows, fun q hq => ?_⟩
            obtain ⟨hfr, B, hB, hc⟩ := hbx q hq
            simp only [freshB, Bool.and_eq_true, List.all_eq_true]
            refine ⟨fun x hx => ?_, ?_⟩
            · -- no word of the variable behind j
              obtain ⟨k, hk⟩ := List.mem_iff_getElem?.1 hx
              rcases setD_get hk with ⟨_, rfl, _⟩ | ⟨_, hk⟩
              · have hX : madeX out = some q.1 := by
                  rcases hob with h1 | ⟨b', B, cs, h1, _⟩
                  · rw [h1] at hq; cases hq
                  · rw [h1] at hq; simp at hq; subst hq; simp [madeX, h1]
                have := hoff.2
                rw [hX] at this
                unfold noPb
                split
                · rename_i b' _ _ he'
                  have h2 := this b' (by rw [he']; rfl)
                  simp only [bne_iff_ne, ne_eq]
                  exact fun e => h2 (by rw [e])
                · rename_i b' _ he'
                  have h2 := this b' (by rw [he']; rfl)
                  simp only [bne_iff_ne, ne_eq]
                  exact fun e => h2 (by rw [e])
                · rfl
              · exact hfr x (List.mem_of_getElem? hk)
            · have hB' : (S.app oj.dst out').boxes[q.1]? = some B := by
                show (out'.boxes.foldl (fun r p => r.set p.1 p.2) S.boxes)[q.1]? = _
                rw [fold_ne _ _ _ fun r hr' => hxb q hq r hr', hB]
              rw [hB']
              simp [hc]
          · rename_i hg
            rw [hg]
          · simp at hO
        · intro p' out'' hO2
          rw [hO'.1] at hO2
          cases hO2
          refine ⟨hp, ?_⟩
          have hcomm : (S.app oj.dst out').app oi.dst out = (S.app oi.dst out).app oj.dst out' := by
            refine (app_comm (fun d hd => a2 d hd) hrows ?_).symm
            rcases hob with h1 | ⟨b', B, cs, h1, _⟩
            · exact .inl h1
            · exact .inr ⟨b', _, h1, fun r hr' => hxb (b', ⟨B.ep + 1, some cs⟩) (by rw [h1]; simp) r hr'⟩
          rw [hcomm, Array.setIfInBounds_comm _ _ hji]
          exact q3
theorem conjL_spec {f : Nat → Prop} : ∀ {l : List Nat}, conjL l f → ∀ i ∈ l, f i
  | [], _, i, hi => by cases hi
  | [x], h, i, hi => by simp at hi; subst hi; exact h
  | x :: y :: l, h, i, hi => by
    rcases List.mem_cons.1 hi with rfl | hi
    · exact h.1
    · exact conjL_spec h.2 i hi
theorem evR_all : ∀ (n : Nat) (listed : Array Bool) (S : St) (K : St → Prop), evR V u ops n listed S K → evAll V u ops n listed S K
  | 0, listed, S, K, h => by
    simp only [evR] at h
    split at h
    · rename_i hr; exact ⟨hr, h⟩
    · exact h.elim
  | n + 1, listed, S, K, h => by
    simp only [evR] at h
    split at h
    · rename_i hr
      exact ⟨fun _ => h, fun i hi => by rw [hr] at hi; cases hi⟩
    · rename_i rs hne
      split at h
      · rename_i i hfind
        split at h
        · rename_i o ho
          have hmem := List.mem_of_find?_eq_some hfind
          have he := List.find?_some hfind
          obtain ⟨o', p, out, ho', _, hO, _⟩ := eager_spec he
          rw [ho] at ho'; cases ho'
          obtain ⟨h1, h2⟩ := (stepO_eagO hO _).1 h
          refine first n listed S K he ho hmem fun p' out' hO' => ?_
          rw [hO] at hO'; cases hO'
          exact ⟨h1, evR_all n _ _ _ h2⟩
        · exact h.elim
      · refine ⟨fun h0 => absurd h0 hne, fun i hi => ?_⟩
        have := conjL_spec h i hi
        split at this
        · rename_i o ho
          exact ⟨o, ho, stepO_mono this fun out h1 => ⟨okS_of_within h1.1, evR_all n _ _ _ h1.2⟩⟩
        · exact this.elim
end
section
variable {P : Program} {V : Env} (hV : TysOk P V) (hC : CallsOk P V) {w0 : World} {prot : Pro}
include hV hC
theorem evAll_ok {u : List Nat × List Nat} {ops : Array Oper} {Q : Exit → Act → World → Prop} {K : St → Prop} (hn : ∀ S' G' a' w', Inv w0 prot S' G' a' w' → K S' → Q .normal a' w') :
    ∀ (n : Nat) (listed : Array Bool) (S : St) (G : Gh) (a : Act) (w : World), Inv w0 prot S G a w → evAll V u ops n listed S K → wpAny P .any ops Q n listed a w
  | 0, listed, S, G, a, w, h, hk => ⟨hk.1, hn _ _ _ _ h hk.2⟩
  | n + 1, listed, S, G, a, w, h, hk => by
    refine ⟨fun h0 => hn _ _ _ _ h (hk.1 h0), fun i hi => ?_⟩
    obtain ⟨o, ho, hs⟩ := hk.2 i hi
    refine step_ok hV hC h ho hs fun a' w' ha => ?_
    obtain ⟨out, G', h1, h2⟩ := ha
    exact evAll_ok hn n _ _ _ _ _ h2 h1.2
end
end Go.Proofs.YtlapeiijghebjaaE

/- A body of code answers as the evaluator's: regions, choices, blocks, loops. Conditions: none. -/
set_option linter.unusedVariables false
namespace Go.Proofs.YtlapeiijghebjaaE
open Go Go.RowKit
/-! ### forgetting -/
def Le (S S' : St) : Prop := ∀ (w0 : World) (prot : Pro) (G : Gh) (a : Act) (w : World), Inv w0 prot S G a w → Inv w0 prot S' G a w
theorem Le.refl (S : St) : Le S S := fun _ _ _ _ _ h => h
theorem Le.trans {S S' S'' : St} (h : Le S S') (h' : Le S' S'') : Le S S'' := fun w0 prot G a w hi => h' w0 prot G a w (h w0 prot G a w hi)
theorem mapI_get {α β : Type} (f : Nat → α → β) : ∀ (l : List α) (i j : Nat), (mapI f i l)[j]? = (l[j]?).map (f (i + j))
  | [], i, j => by simp [mapI]
  | x :: xs, i, 0 => by simp [mapI]
  | x :: xs, i, j + 1 => by
    simp only [mapI, List.getElem?_cons_succ]
    rw [mapI_get f xs (i + 1) j, Nat.add_right_comm, Nat.add_assoc]
theorem mapI_len {α β : Type} (f : Nat → α → β) : ∀ (l : List α) (i : Nat), (mapI f i l).length = l.length
  | [], i => rfl
  | x :: xs, i => by simp [mapI, mapI_len f xs]
theorem live_eq {S : St} {id ep : Nat} {c : RC} (h : S.live id ep = some c) : ∃ r, S.rows[id]? = some r ∧ ep = r.ep ∧ r.c = some c := by
  unfold St.live at h
  split at h
  · rename_i r hr
    split at h
    · rename_i he
      exact ⟨r, hr, by simpa using he, h⟩
    · simp at h
  · simp at h
theorem box_eq {S : St} {b ep : Nat} {cs : List Cm} (h : S.box b ep = some cs) : ∃ B, S.boxes[b]? = some B ∧ ep = B.ep ∧ B.c = some cs := by
  unfold St.box at h
  split at h
  · rename_i r hr
    split at h
    · rename_i he
      exact ⟨r, hr, by simpa using he, h⟩
    · simp at h
  · simp at h
theorem cut_cr {S : St} {ks kb kr : List Nat} {w : World} {G : Gh} {v : Value} {c : Cm} (h : CR w G S.rows v c) : CR w G (S.cut ks kb kr).rows v (S.cutCm kr c) := by
  cases c with
  | d x => exact h
  | dead => exact h
  | ref id ep =>
    simp only [St.cutCm]
    split
    · rename_i c hc
      obtain ⟨r, hr, he, hrc⟩ := live_eq hc
      cases hk : kr.contains id with
      | false => exact ⟨h.1, h.2.1⟩
      | true =>
        refine ⟨h.1, h.2.1, fun r' hr' => ?_⟩
        simp only [St.cut, mapI_get, hr, Option.map_some, Nat.zero_add, hk, cond_true, Option.some.injEq] at hr'
        subst hr'
        exact ⟨Nat.le_refl _, fun _ _ => (h.2.2 r hr).2 he (by simp [hrc])⟩
    · exact ⟨h.1, h.2.1⟩
theorem Le.cut (S : St) (ks kb kr : List Nat) : Le S (S.cut ks kb kr) := by
  intro w0 prot G a w h
  refine ⟨?_, ?_, ?_, ?_, h.lt, h.kp, h.pr, h.prl, h.df, ?_⟩
  · simp [St.cut, mapI_len, h.len]
  · intro t x hx
    simp only [St.cut, mapI_get, Option.map_eq_some_iff, Nat.zero_add] at hx
    obtain ⟨y, hy, rfl⟩ := hx
    have ht := h.slot t y hy
    cases hk : ks.contains t with
    | false => trivial
    | true =>
      simp only [cond_true]
      cases y with
      | un => trivial
      | und => exact ht
      | v g cs =>
        show VR w G _ _ g _
        cases g with
        | false => obtain ⟨c, rfl, h2⟩ := ht; exact ⟨_, rfl, cut_cr (ks := ks) (kb := kb) h2⟩
        | true =>
          obtain ⟨arr, h1, h2⟩ := ht
          exact ⟨arr, h1, F2.map (h2.mono fun _ _ hc => cut_cr (ks := ks) (kb := kb) hc)⟩
      | pb b ep off =>
        simp only [St.cutT]
        split
        · rename_i cs hcs
          obtain ⟨B, hB, he, hc⟩ := box_eq hcs
          cases hkb : kb.contains b with
          | false => trivial
          | true =>
            simp only [cond_true]
            intro B' hB'
            simp only [St.cut, mapI_get, hB, Option.map_some, Nat.zero_add, hkb, cond_true, Option.some.injEq] at hB'
            subst hB'
            subst he
            exact ⟨Nat.le_refl _, fun _ _ => (ht B hB).2 rfl (by simp [hc])⟩
        · trivial
      | pr id ep i off => trivial
      | pp k l i off => exact ht
      | tup l => trivial
      | fn f cb =>
        cases cb with
        | none => exact ht
        | some p =>
          obtain ⟨b, ep⟩ := p
          simp only [St.cutT]
          split
          · rename_i cs hcs
            obtain ⟨B, hB, he, hc⟩ := box_eq hcs
            cases hkb : kb.contains b with
            | false => trivial
            | true =>
              simp only [cond_true]
              intro B' hB'
              simp only [St.cut, mapI_get, hB, Option.map_some, Nat.zero_add, hkb, cond_true, Option.some.injEq] at hB'
              subst hB'
              subst he
              exact ⟨Nat.le_refl _, fun _ _ => (ht B hB).2 rfl (by simp [hc])⟩
          · trivial
  · intro b B hB cs hcs
    simp only [St.cut, mapI_get, Option.map_eq_some_iff, Nat.zero_add] at hB
    obtain ⟨B0, hB0, rfl⟩ := hB
    cases hk : kb.contains b with
    | false => rw [hk] at hcs; simp at hcs
    | true =>
      simp only [hk, cond_true, Option.map_eq_some_iff] at hcs
      obtain ⟨cs0, hc0, rfl⟩ := hcs
      obtain ⟨h1, arr, ty, h2, h3⟩ := h.box b B0 hB0 cs0 hc0
      exact ⟨h1, arr, ty, h2, F2.map (h3.mono fun _ _ hc => cut_cr (ks := ks) (kb := kb) hc)⟩
  · intro id r hr c hc
    simp only [St.cut, mapI_get, Option.map_eq_some_iff, Nat.zero_add] at hr
    obtain ⟨r0, hr0, rfl⟩ := hr
    cases hk : kr.contains id with
    | false => rw [hk] at hc; simp at hc
    | true =>
      simp only [hk, cond_true] at hc
      exact h.row id r0 hr0 c hc
  · intro j b hj B hB he hs
    simp only [St.cut, mapI_get, Option.map_eq_some_iff, Nat.zero_add] at hB
    obtain ⟨B0, hB0, rfl⟩ := hB
    cases hk : kb.contains j with
    | false => rw [hk] at hs; simp at hs
    | true =>
      simp only [hk, cond_true, Option.isSome_map] at he hs
      exact h.hb j b hj B0 hB0 (by omega) hs
/-! ### loops -/
/-- A loop: what holds ahead of each round, and a number that falls. -/
def evLoop (V : Env) (b : Code) (S : St) (K : Ex → St → Prop) : Prop :=
  ∃ (I : Nat → St → Prop) (n : Nat) (S0 : St), Le S S0 ∧ I n S0 ∧ ∀ n S, I n S → evC V b S fun e S' => match e with
    | .normal => ∃ m S'', m < n ∧ Le S' S'' ∧ I m S''
    | .exit j => ∃ S'', Le S' S'' ∧ K (.exit j) S''
    | .ret => ∃ S'', Le S' S'' ∧ K .ret S''
def LoopsIn (V : Env) : Code → Prop
  | .seq x y => LoopsIn V x ∧ LoopsIn V y
  | .cond _ x y => LoopsIn V x ∧ LoopsIn V y
  | .block id c => match look id V.loops with
    | some L => match c with
      | .loop b => (∀ S K, L S K → evLoop V b S (inB id K)) ∧ LoopsIn V b
      | _ => False
    | none => LoopsIn V c
  | _ => True
def exE : Ex → Exit
  | .normal => .normal
  | .exit j => .exit j
  | .ret => .ret
def Post (w0 : World) (prot : Pro) (K : Ex → St → Prop) (e : Exit) (a : Act) (w : World) : Prop := ∃ x S G, e = exE x ∧ Inv w0 prot S G a w ∧ K x S
open Classical in
theorem least {p : Nat → Prop} : ∀ n, p n → ∃ m, p m ∧ ∀ k, p k → m ≤ k := by
  intro n
  induction n using Nat.strongRecOn with
  | _ n ih =>
    intro hn
    by_cases h : ∃ k, k < n ∧ p k
    · obtain ⟨k, hk, hp⟩ := h
      exact ih k hk hp
    · exact ⟨n, hn, fun k hk => Nat.le_of_not_lt fun hlt => h ⟨k, hlt, hk⟩⟩
open Classical in
noncomputable def leastOf (p : Nat → Prop) : Nat := if h : ∃ m, p m ∧ ∀ k, p k → m ≤ k then Classical.choose h else 0
theorem leastOf_spec {p : Nat → Prop} {n : Nat} (h : p n) : p (leastOf p) ∧ leastOf p ≤ n := by
  have := least n h
  unfold leastOf
  rw [dif_pos this]
  exact ⟨(Classical.choose_spec this).1, (Classical.choose_spec this).2 n h⟩
section
variable {P : Program} {V : Env} (hV : TysOk P V) (hC : CallsOk P V) (hm : P.follows .mixedOrders = true) {w0 : World} {prot : Pro}
include hV hC hm
theorem evC_ok : ∀ (c : Code), LoopsIn V c → ∀ (S : St) (G : Gh) (a : Act) (w : World) (K : Ex → St → Prop), Inv w0 prot S G a w → evC V c S K → c.wp P (Post w0 prot K) a w
  | .skip, _, S, G, a, w, K, h, hk => wp_skip ⟨.normal, S, G, rfl, h, hk⟩
  | .label l, _, S, G, a, w, K, h, hk => wp_label ⟨.normal, S, G, rfl, h, hk⟩
  | .exit id, _, S, G, a, w, K, h, hk => wp_exit ⟨.exit id, S, G, rfl, h, hk⟩
  | .ret, _, S, G, a, w, K, h, hk => wp_ret ⟨.ret, S, G, rfl, h, hk⟩
  | .region id ops d, _, S, G, a, w, K, h, hk => by
    cases d with
    | false =>
      exact wp_region (evOps_ok hV hC h hk fun S' G' a' w' h' hk' => ⟨.normal, S', G', rfl, h', by rw [forceS_eq] at hk'; exact hk'⟩)
    | true =>
      refine wp_region_any hm ?_
      exact evAll_ok hV hC (fun S' G' a' w' h' hk' => ⟨.normal, S', G', rfl, h', by rw [forceS_eq] at hk'; exact hk'⟩) _ _ _ _ _ _ h.drew (evR_all _ _ _ _ hk)
  | .seq x y, hl, S, G, a, w, K, h, hk => by
    refine wp_seq (wp_mono (evC_ok x hl.1 S G a w _ h hk) fun e a' w' hp => ?_)
    obtain ⟨x', S', G', rfl, h', hk'⟩ := hp
    cases x' with
    | normal => exact evC_ok y hl.2 S' G' a' w' K h' hk'
    | exit j => exact ⟨.exit j, S', G', rfl, h', hk'⟩
    | ret => exact ⟨.ret, S', G', rfl, h', hk'⟩
  | .cond c x y, hl, S, G, a, w, K, h, hk => by
    simp only [evC] at hk
    split at hk
    · rename_i t ht
      have := opnd_bool hV h ht
      refine wp_cond this ?_
      cases t with
      | true => exact evC_ok x hl.1 S G a w K h (by simpa using hk)
      | false => exact evC_ok y hl.2 S G a w K h (by simpa using hk)
    · exact hk.elim
  | .block id c, hl, S, G, a, w, K, h, hk => by
    simp only [evC] at hk
    simp only [LoopsIn] at hl
    have hin : ∀ {K : Ex → St → Prop} {e a' w'}, Post w0 prot (inB id K) e a' w' → Exit.inBlock id (Post w0 prot K) e a' w' := by
      rintro K e a' w' ⟨x, S', G', rfl, h', hk'⟩
      cases x with
      | normal => exact ⟨.normal, S', G', rfl, h', hk'⟩
      | ret => exact ⟨.ret, S', G', rfl, h', hk'⟩
      | exit j =>
        simp only [inB] at hk'
        simp only [exE, Exit.inBlock]
        split at hk'
        · rename_i hj
          rw [if_pos hj]
          exact ⟨.normal, S', G', rfl, h', hk'⟩
        · rename_i hj
          rw [if_neg hj]
          exact ⟨.exit j, S', G', rfl, h', hk'⟩
    cases hlk : look id V.loops with
    | none =>
      rw [hlk] at hk hl
      exact wp_block (wp_mono (evC_ok c hl S G a w _ h hk) fun e a' w' hp => hin hp)
    | some L =>
      rw [hlk] at hk hl
      dsimp only at hk hl
      split at hl
      · rename_i b
        obtain ⟨I, n, S0, h0, hI, hround⟩ := hl.1 S K hk
        refine wp_block (wp_mono (Q := Post w0 prot (inB id K)) ?_ fun e a' w' hp => hin hp)
        refine wp_loop (fun a w => ∃ n S G, I n S ∧ Inv w0 prot S G a w) (fun a w => leastOf fun n => ∃ S G, I n S ∧ Inv w0 prot S G a w) ⟨n, S0, G, hI, h0 _ _ _ _ _ h⟩ ?_
        rintro a1 w1 ⟨n1, S1, G1, hI1, hi1⟩
        obtain ⟨⟨S2, G2, hI2, hi2⟩, hle⟩ := leastOf_spec (p := fun n => ∃ S G, I n S ∧ Inv w0 prot S G a1 w1) ⟨S1, G1, hI1, hi1⟩
        refine wp_mono (evC_ok b hl.2 S2 G2 a1 w1 _ hi2 (hround _ S2 hI2)) fun e a' w' hp => ?_
        obtain ⟨x, S', G', rfl, h', hk'⟩ := hp
        cases x with
        | normal =>
          obtain ⟨m, S'', hm', hle', hI'⟩ := hk'
          have hh := hle' _ _ _ _ _ h'
          refine ⟨⟨m, S'', G', hI', hh⟩, ?_⟩
          exact Nat.lt_of_le_of_lt (leastOf_spec (p := fun n => ∃ S G, I n S ∧ Inv w0 prot S G a' w') ⟨S'', G', hI', hh⟩).2 hm'
        | exit j =>
          obtain ⟨S'', hle', hk''⟩ := hk'
          exact ⟨.exit j, S'', G', rfl, hle' _ _ _ _ _ h', hk''⟩
        | ret =>
          obtain ⟨S'', hle', hk''⟩ := hk'
          exact ⟨.ret, S'', G', rfl, hle' _ _ _ _ _ h', hk''⟩
      · exact hl.elim
  | .loop b, _, S, G, a, w, K, h, hk => hk.elim
  | .goto l, _, S, G, a, w, K, h, hk => hk.elim
end
end Go.Proofs.YtlapeiijghebjaaE

/- A function: its arguments are read, its body walked, its results read. Conditions: none. -/
set_option linter.unusedVariables false
namespace Go.Proofs.YtlapeiijghebjaaE
open Go Go.RowKit
/-! ### the way in -/
theorem initCells_ok {w : World} {F : Nat → Prop} : ∀ {as : List AC} {xs : List Value} {B : List Nat} (id : Nat), ACs w F xs as B → ∃ H : List Value, H.length = (initCells id as).2.length ∧ B = H.filterMap ownB ∧
    ∀ (G : Gh) (rows : List Row), (∀ b, F b → G.F b) → (∀ j v, H[j]? = some v → G.hd (id + j) = v ∧ ∀ b, (ownB v) = some b → G.who b = .rw (id + j)) → (∀ j r, (initCells id as).2[j]? = some r → rows[id + j]? = some r) →
      F2 (CR w G rows) xs (initCells id as).1 ∧ ∀ j r, (initCells id as).2[j]? = some r → RowR w G (id + j) r
  | [], [], B, id, h => ⟨[], rfl, h, fun G rows _ _ _ => ⟨.nil, fun j r hr => (by simp [initCells] at hr)⟩⟩
  | [], _ :: _, _, _, h => h.elim
  | _ :: _, [], _, _, h => h.elim
  | .d x :: as, v :: xs, B, id, h => by
    obtain ⟨B1, B2, ⟨h1, rfl⟩, h2, rfl⟩ := h
    obtain ⟨H, k1, k2, k3⟩ := initCells_ok id h2
    refine ⟨H, k1, by simpa using k2, fun G rows g1 g2 g3 => ?_⟩
    obtain ⟨f1, f2⟩ := k3 G rows g1 g2 g3
    exact ⟨.cons (h1.mono g1 fun _ _ => rfl) f1, f2⟩
  | .own c :: as, v :: xs, B, id, h => by
    obtain ⟨B1, B2, ⟨h1, rfl⟩, h2, rfl⟩ := h
    obtain ⟨H, k1, k2, k3⟩ := initCells_ok (id + 1) h2
    have e1 : (initCells id (.own c :: as)).1 = .ref id 0 :: (initCells (id + 1) as).1 := rfl
    have e2 : (initCells id (.own c :: as)).2 = ⟨0, some c⟩ :: (initCells (id + 1) as).2 := rfl
    rw [e1, e2]
    refine ⟨v :: H, by simp [k1], ?_, fun G rows g1 g2 g3 => ?_⟩
    · rw [k2, List.filterMap_cons]; cases (ownB v) <;> simp
    · have hh := g2 0 v rfl
      have hown : OwnR w G.F v c := h1.mono (fun b hb => ⟨g1 b hb, rfl⟩) fun _ _ => rfl
      have h1c := slice_one v c _ hown
      obtain ⟨f1, f2⟩ := k3 G rows g1 (fun j u hu => by rw [Nat.add_right_comm]; exact g2 (j + 1) u hu) (fun j r hr => by rw [Nat.add_right_comm]; exact g3 (j + 1) r hr)
      refine ⟨.cons ⟨h1c.1, h1c.2, fun r hr => ?_⟩ f1, fun j r hr => ?_⟩
      · have g30 : rows[id]? = some ⟨0, some c⟩ := g3 0 ⟨0, some c⟩ rfl
        rw [g30] at hr
        cases hr
        exact ⟨Nat.le_refl _, fun _ _ => hh.1.symm⟩
      · cases j with
        | zero =>
          simp at hr
          subst hr
          intro c' hc'
          cases hc'
          rw [hh.1]
          exact ⟨hown, hh.2⟩
        | succ j =>
          rw [← Nat.add_assoc, Nat.add_right_comm]
          exact f2 j r (by simpa using hr)
theorem initA_ok {w : World} {F : Nat → Prop} : ∀ {as : List Arg} {vs : List Value} {B hb : List Nat} (id bi : Nat), ArgsR w F vs as B hb → ∃ H : List Value, H.length = (initA id bi as).2.1.length ∧ B.Perm (H.filterMap ownB ++ hb) ∧ hb.length = (initA id bi as).2.2.length ∧
    ∀ (G : Gh) (rows : List Row) (boxes : List Box), (∀ b, F b → G.F b) → (∀ j v, H[j]? = some v → G.hd (id + j) = v ∧ ∀ b, (ownB v) = some b → G.who b = .rw (id + j)) → (∀ j b, hb[j]? = some b → G.bk (bi + j) = b ∧ G.who b = .bx (bi + j)) →
      (∀ j r, (initA id bi as).2.1[j]? = some r → rows[id + j]? = some r) → (∀ j r, (initA id bi as).2.2[j]? = some r → boxes[bi + j]? = some r) →
      F2 (TR w G rows boxes) vs (initA id bi as).1 ∧ (∀ j r, (initA id bi as).2.1[j]? = some r → RowR w G (id + j) r) ∧ ∀ j r, (initA id bi as).2.2[j]? = some r → ∀ cs, r.c = some cs → BoxR w G rows (bi + j) cs
  | [], [], B, hb, id, bi, h => by
    obtain ⟨rfl, rfl⟩ := h
    exact ⟨[], rfl, .nil, rfl, fun G rows boxes _ _ _ _ _ => ⟨.nil, fun j r hr => (by simp [initA] at hr), fun j r hr => (by simp [initA] at hr)⟩⟩
  | [], _ :: _, _, _, _, _, h => h.elim
  | _ :: _, [], _, _, _, _, h => h.elim
  | .v g cs :: as, v :: vs, B, hb, id, bi, h => by
    obtain ⟨B1, B2, h1, h2, ⟨xs, q1, q2, q3, q4, rfl⟩, h3, rfl, rfl⟩ := h
    obtain ⟨H1, k1, k2, k3⟩ := initCells_ok id q4
    obtain ⟨H2, m1, m2, m4, m3⟩ := initA_ok (id + (initCells id cs).2.length) bi h3
    have e1 : (initA id bi (.v g cs :: as)).1 = .v g (initCells id cs).1 :: (initA (id + (initCells id cs).2.length) bi as).1 := rfl
    have e2 : (initA id bi (.v g cs :: as)).2.1 = (initCells id cs).2 ++ (initA (id + (initCells id cs).2.length) bi as).2.1 := rfl
    have e3 : (initA id bi (.v g cs :: as)).2.2 = (initA (id + (initCells id cs).2.length) bi as).2.2 := rfl
    rw [e1, e2, e3]
    refine ⟨H1 ++ H2, by simp [k1, m1], ?_, by simpa using m4, fun G rows boxes g1 g2 g3 g4 g5 => ?_⟩
    · rw [List.filterMap_append, k2, List.append_assoc]
      exact m2.append_left _
    · obtain ⟨f1, f2⟩ := k3 G rows g1 (fun j u hu => g2 j u (by rw [List.getElem?_append_left (List.getElem?_eq_some_iff.1 hu).1]; exact hu)) (fun j r hr => g4 j r (by rw [List.getElem?_append_left (List.getElem?_eq_some_iff.1 hr).1]; exact hr))
      obtain ⟨f3, f4, f5⟩ := m3 G rows boxes g1 (fun j u hu => by rw [Nat.add_assoc]; exact g2 _ u (by rw [List.getElem?_append_right (by omega), ← k1, Nat.add_sub_cancel_left]; exact hu)) (fun j b hb => g3 j b (by simpa using hb)) (fun j r hr => by rw [Nat.add_assoc]; exact g4 _ r (by rw [List.getElem?_append_right (by omega), Nat.add_sub_cancel_left]; exact hr)) g5
      refine ⟨.cons ?_ f3, fun j r hr => ?_, f5⟩
      · rw [q1]; exact VR.mk f1 q3
      · rcases Nat.lt_or_ge j (initCells id cs).2.length with hj | hj
        · rw [List.getElem?_append_left hj] at hr
          exact f2 j r hr
        · rw [List.getElem?_append_right hj] at hr
          have := f4 _ r hr
          rwa [show id + (initCells id cs).2.length + (j - (initCells id cs).2.length) = id + j by omega] at this
  | .p cs :: as, v :: vs, B, hb, id, bi, h => by
    obtain ⟨B1, B2, h1, h2, ⟨b, arr, ty, Bi, q1, q2, q3, rfl, rfl⟩, h3, rfl, rfl⟩ := h
    obtain ⟨H1, k1, k2, k3⟩ := initCells_ok id q3
    obtain ⟨H2, m1, m2, m4, m3⟩ := initA_ok (id + (initCells id cs).2.length) (bi + 1) h3
    have e1 : (initA id bi (.p cs :: as)).1 = .pb bi 0 0 :: (initA (id + (initCells id cs).2.length) (bi + 1) as).1 := rfl
    have e2 : (initA id bi (.p cs :: as)).2.1 = (initCells id cs).2 ++ (initA (id + (initCells id cs).2.length) (bi + 1) as).2.1 := rfl
    have e3 : (initA id bi (.p cs :: as)).2.2 = ⟨0, some (initCells id cs).1⟩ :: (initA (id + (initCells id cs).2.length) (bi + 1) as).2.2 := rfl
    rw [e1, e2, e3]
    refine ⟨H1 ++ H2, by simp [k1, m1], ?_, by simp [m4], fun G rows boxes g1 g2 g3 g4 g5 => ?_⟩
    · rw [List.filterMap_append, ← k2, List.cons_append, List.cons_append, List.nil_append]
      refine List.Perm.trans ?_ List.perm_middle.symm
      rw [List.append_assoc]
      exact (m2.append_left _).cons _
    · obtain ⟨f1, f2⟩ := k3 G rows g1 (fun j u hu => g2 j u (by rw [List.getElem?_append_left (List.getElem?_eq_some_iff.1 hu).1]; exact hu)) (fun j r hr => g4 j r (by rw [List.getElem?_append_left (List.getElem?_eq_some_iff.1 hr).1]; exact hr))
      obtain ⟨f3, f4, f5⟩ := m3 G rows boxes g1 (fun j u hu => by rw [Nat.add_assoc]; exact g2 _ u (by rw [List.getElem?_append_right (by omega), ← k1, Nat.add_sub_cancel_left]; exact hu)) (fun j b' hb' => by rw [Nat.add_right_comm]; exact g3 (j + 1) b' (by simpa using hb')) (fun j r hr => by rw [Nat.add_assoc]; exact g4 _ r (by rw [List.getElem?_append_right (by omega), Nat.add_sub_cancel_left]; exact hr)) (fun j r hr => by rw [Nat.add_right_comm]; exact g5 (j + 1) r (by simpa using hr))
      obtain ⟨g6, g7⟩ := g3 0 b (by simp)
      have g8 := g5 0 _ rfl
      refine ⟨.cons (fun B' hB' => ?_) f3, fun j r hr => ?_, fun j r hr cs' hcs' => ?_⟩
      · rw [show bi = bi + 0 from rfl, g8] at hB'
        cases hB'
        refine ⟨Nat.le_refl _, fun _ _ => ?_⟩
        rw [q1, show bi = bi + 0 from rfl, g6]
      · rcases Nat.lt_or_ge j (initCells id cs).2.length with hj | hj
        · rw [List.getElem?_append_left hj] at hr
          exact f2 j r hr
        · rw [List.getElem?_append_right hj] at hr
          have := f4 _ r hr
          rwa [show id + (initCells id cs).2.length + (j - (initCells id cs).2.length) = id + j by omega] at this
      · cases j with
        | zero =>
          simp at hr
          subst hr
          cases hcs'
          refine ⟨by rw [g6]; exact g7, arr, ty, by rw [g6]; exact q2, f1⟩
        | succ j =>
          rw [← Nat.add_assoc, Nat.add_right_comm]
          exact f5 j r (by simpa using hr) cs' hcs'
theorem key_idx {α : Type} {f : α → Option Nat} : ∀ {l : List α}, (l.filterMap f).Nodup → ∀ {i j : Nat} {x y : α} {b : Nat}, l[i]? = some x → l[j]? = some y → f x = some b → f y = some b → i = j
  | [], _, i, j, x, y, b, hi, _, _, _ => by simp at hi
  | z :: l, hn, i, j, x, y, b, hi, hj, hx, hy => by
    have hn' : (l.filterMap f).Nodup := by
      rw [List.filterMap_cons] at hn
      split at hn
      · exact hn
      · exact (List.nodup_cons.1 hn).2
    have out : ∀ {k : Nat} {u : α}, f z = some b → l[k]? = some u → f u = some b → False := fun {k u} hz hu hfu => by
      rw [List.filterMap_cons, hz] at hn
      exact (List.nodup_cons.1 hn).1 (List.mem_filterMap.2 ⟨u, List.mem_of_getElem? hu, hfu⟩)
    cases i with
    | zero =>
      cases j with
      | zero => rfl
      | succ j => simp at hi hj; subst hi; exact (out hx hj hy).elim
    | succ i =>
      cases j with
      | zero => simp at hi hj; subst hj; exact (out hy hi hx).elim
      | succ j => simp at hi hj; rw [key_idx hn' hi hj hx hy]
open Classical in
noncomputable def entGh (F : Nat → Prop) (H : List Value) (hb : List Nat) : Gh where
  who b := if F b then .fz else if h : ∃ j, hb[j]? = some b then .bx (Classical.choose h) else if h : ∃ j v, H[j]? = some v ∧ (ownB v) = some b then .rw (Classical.choose h) else .ot
  bk j := hb.getD j 0
  hd id := H.getD id undef
/-! ### the way out -/
def resF (tmps : Array Value) : ResultVar → Sem Value
  | .tmp t => pure (tmps.getD t undef)
  | .cell a t => do loadVar t (← asAddr (tmps.getD a undef))
section
variable {P : Program} {V : Env} (hV : TysOk P V) {w0 : World} {prot : Pro}
include hV
theorem run_loadVar' {t : Nat} {I : TyI} (hI : look t V.tys = some I) {w : World} (g o : Nat) (xs : List Value) (hl : xs.length = I.zc.length)
    (hx : ∀ j u, xs[j]? = some u → w.cell? ⟨g, o + j, none⟩ = some u) : (loadVar t ⟨g, o, none⟩).run P w = .ok (mkV I.agg xs) w := by
  have hx' : ∀ j u, xs[j]? = some u → w.cell? ((⟨g, o, none⟩ : Addr).add j) = some u := fun j u h => by rw [add_lit]; exact hx j u h
  have hc := run_loadCells_list (P := P) w ⟨g, o, none⟩ xs hx'
  cases hg : I.agg with
  | true =>
    simp [loadVar, run_agg hV hI, hg, run_size hV hI, ← hl, hc, mkV]
  | false =>
    have h1 := ((hV t I hI).sc hg).1
    rw [h1] at hl
    obtain ⟨v, rfl⟩ : ∃ v, xs = [v] := by
      cases xs with
      | nil => simp at hl
      | cons v l => cases l with
        | nil => exact ⟨v, rfl⟩
        | cons => simp at hl
    have := hx 0 v rfl
    simp only [Nat.add_zero] at this
    simp [loadVar, run_agg hV hI, hg, load, Sem.run, this, mkV]
theorem resVars_ok {S : St} {G : Gh} {a : Act} {w : World} (h : Inv w0 prot S G a w) : ∀ {rv : List ResultVar} {ts : List T}, resVars V S rv = some ts → ∃ vs, (rv.mapM (resF a.tmps)).run P w = .ok vs w ∧ F2 (TR w G S.rows S.boxes) vs ts
  | [], ts, hr => by simp only [resVars, Option.some.injEq] at hr; subst hr; exact ⟨[], rfl, .nil⟩
  | .tmp t :: r, ts, hr => by
    simp only [resVars] at hr
    split at hr
    · rename_i x xs hx hxs
      cases hr
      obtain ⟨vs, h1, h2⟩ := resVars_ok h hxs
      refine ⟨_ :: vs, ?_, .cons (h.slot t x hx) h2⟩
      rw [List.mapM_cons]
      simp [resF, h1]
    · simp at hr
  | .cell c t :: r, ts, hr => by
    simp only [resVars] at hr
    split at hr
    · rename_i I b ep xs hI hx hxs
      split at hr
      · rename_i cs hcs
        split at hr
        · rename_i hc
          cases hr
          obtain ⟨vs, h1, h2⟩ := resVars_ok h hxs
          obtain ⟨BB, hB, he, hcc⟩ := box_eq hcs
          have hv := (h.slot c _ hx BB hB).2 he (by simp [hcc])
          obtain ⟨hw, arr, ty, hh, q2⟩ := h.box b BB hB cs hcc
          have hlen := q2.len
          have hl := run_loadVar' (P := P) hV hI (w := w) (G.bk b) 0 arr (by omega) (fun j u hu => by
            simp only [World.cell?, hh]; simpa using hu)
          refine ⟨mkV I.agg arr :: vs, ?_, .cons (VR.mk q2 fun hg => ?_) h2⟩
          · rw [List.mapM_cons]
            simp [resF, hv, asAddr, hl, h1]
          · rcases hc.2 with h3 | h3
            · rw [hg] at h3; cases h3
            · omega
        · simp at hr
      · simp at hr
    · simp at hr
end
theorem results_eq (fn : Func) (tmps : Array Value) {P : Program} {w : World} {vs : List Value} (h : (fn.results.toList.mapM (resF tmps)).run P w = .ok vs w) : (results fn tmps).run P w = .ok (retV vs) w := by
  have e : results fn tmps = (do let vs ← fn.results.mapM (resF tmps); pure (if h : vs.size = 1 then vs[0] else .tuple vs)) := rfl
  rw [e, Array.mapM_eq_mapM_toList, map_eq_pure_bind]
  simp only [Sem.run_bind, h, Result.andThen_ok, Sem.run_pure]
  cases vs with
  | nil => rfl
  | cons v vs => cases vs with
    | nil => rfl
    | cons => rfl
theorem ArgsR.len {w : World} {F : Nat → Prop} : ∀ {vs : List Value} {as : List Arg} {B hb : List Nat}, ArgsR w F vs as B hb → vs.length = as.length
  | [], [], _, _, _ => rfl
  | [], _ :: _, _, _, h => h.elim
  | _ :: _, [], _, _, h => h.elim
  | _ :: _, _ :: _, _, _, h => by obtain ⟨_, _, _, _, _, h, _⟩ := h; simp [ArgsR.len h]
theorem ArgsR.app {w : World} {F : Nat → Prop} : ∀ {vs vs2 : List Value} {as as2 : List Arg} {B B2 hb hb2 : List Nat}, ArgsR w F vs as B hb → ArgsR w F vs2 as2 B2 hb2 → ArgsR w F (vs ++ vs2) (as ++ as2) (B ++ B2) (hb ++ hb2)
  | [], vs2, [], as2, B, B2, hb, hb2, h, h' => by obtain ⟨rfl, rfl⟩ := h; exact h'
  | [], _, _ :: _, _, _, _, _, _, h, _ => h.elim
  | _ :: _, _, [], _, _, _, _, _, h, _ => h.elim
  | v :: vs, vs2, x :: as, as2, B, B2, hb, hb2, h, h' => by
    obtain ⟨C1, C2, d1, d2, k1, k2, rfl, rfl⟩ := h
    exact ⟨C1, C2 ++ B2, d1, d2 ++ hb2, k1, k2.app h', by simp, by simp⟩
theorem pbs_args {S : St} : ∀ {n b j : Nat} {as : List Arg} {ls gs : List Nat} {bs : List (Nat × Nat)}, argsT S [] j (pbs b n) = some (as, ls, gs, bs) → (as.map pcells).map .p = as
  | 0, b, j, as, ls, gs, bs, h => by simp only [pbs, argsT, Option.some.injEq, Prod.mk.injEq] at h; obtain ⟨rfl, _⟩ := h; rfl
  | n + 1, b, j, as, ls, gs, bs, h => by
    simp only [pbs, argsT] at h
    split at h
    · simp at h
    · rename_i as' ls' gs' bs' ha
      split at h
      · split at h
        · cases h
          simp [pcells, pbs_args ha]
        · simp at h
      · simp at h
theorem pbs_tr {w : World} {G : Gh} {rows : List Row} {boxes : List Box} : ∀ {hb : List Nat} {b : Nat}, (∀ j x, hb[j]? = some x → ∀ B, boxes[b + j]? = some B → B.ep = 0 → B.c.isSome = true → G.bk (b + j) = x) → F2 (TR w G rows boxes) (hb.map ptrV) (pbs b hb.length)
  | [], b, h => .nil
  | x :: hb, b, h => by
    refine .cons (fun B hB => ⟨Nat.zero_le _, fun he hs => ?_⟩) (pbs_tr fun j y hy => by rw [Nat.add_right_comm]; exact h (j + 1) y (by simpa using hy))
    have := h 0 x rfl B hB he.symm hs
    rw [Nat.add_zero] at this
    rw [this]; rfl
theorem initA_np (id bi : Nat) : ∀ {as : List Arg}, (initA id bi as).2.2.length = argP as := by
  intro as
  induction as generalizing id bi with
  | nil => rfl
  | cons x as ih =>
    cases x with
    | v g cs => exact ih _ _
    | p cs =>
      show ((⟨0, some (initCells id cs).1⟩ : Box) :: (initA (id + (initCells id cs).2.length) (bi + 1) as).2.2).length = _
      rw [List.length_cons, ih]
      simp [argP]
theorem inclo_ok {w : World} {G : Gh} {rows : List Row} {boxes : List Box} (cl : Option (Nat × Bool)) : ∀ {vs : List Value} {ts : List T}, F2 (TR w G rows boxes) vs ts → F2 (TR w G rows boxes) (wrapV cl vs) (inclo cl ts) := by
  intro vs ts h
  match cl with
  | none => rw [wrapV_none]; simpa [inclo] using h
  | some (f, false) =>
    rw [wrapV_false]
    have : inclo (some (f, false)) ts = ts ++ [.fn f none] := by simp [inclo]
    rw [this]
    exact h.app (.cons rfl .nil)
  | some (f, true) =>
    induction h with
    | nil => simpa [wrapV, inclo] using F2.nil
    | @cons v t vs ts h1 h2 ih =>
      cases h2 with
      | nil =>
        have e1 : wrapV (some (f, true)) [v] = [.func (.func f) #[] #[v]] := by simp [wrapV]
        rw [e1]
        unfold inclo
        split
        · simp at *
        · simp at *
        · simp at *
        · rename_i b ep heq hts
          cases heq; cases hts
          refine .cons (fun B hB => ?_) .nil
          obtain ⟨q1, q2⟩ := h1 B hB
          exact ⟨q1, fun e s => by rw [q2 e s]⟩
        · rename_i heq hts
          cases hts
          exact .cons trivial .nil
        · rename_i hts
          cases hts
          simp at *
      | @cons x y xs ys h3 h4 =>
        rw [wrapV_cons]
        have e2 : inclo (some (f, true)) (t :: y :: ys) = t :: inclo (some (f, true)) (y :: ys) := by simp [inclo]
        rw [e2]
        exact .cons h1 ih
open Classical in
theorem valid_of {P : Program} {V : Env} (hV : TysOk P V) (hC : CallsOk P V) (hm : P.follows .mixedOrders = true) {f : Nat} {fn : Func} {E : Ent} (nr nb : Nat) (hf : P.funcs[f]? = some fn) (hbody : fn.body.isSome = true) (hname : (fn.name == "runtime.NumGoroutine") = false)
    (hl : ∀ c, fn.body = some c → LoopsIn V c) (H : ∀ as K, E.F as K → evF V E fn nr nb as K) : Valid P f E := by
  refine ⟨⟨fn, hf, hbody, hname⟩, fun w F vs as B hb K hA hBn hBF hF hK => ?_⟩
  obtain ⟨c, hc⟩ := Option.isSome_iff_exists.1 hbody
  have hev := H as K hK
  unfold evF at hev
  rw [hc] at hev
  dsimp only at hev
  obtain ⟨Hs, k1, k2, k3, k4⟩ := initA_ok 0 0 hA
  have hnd := (k2.nodup_iff).1 hBn
  obtain ⟨n1, n2, n3⟩ := List.nodup_append.1 hnd
  let G := entGh F Hs hb
  have inB : ∀ b, b ∈ Hs.filterMap ownB ∨ b ∈ hb → b ∈ B := fun b hb0 => k2.mem_iff.2 (List.mem_append.2 hb0)
  have whoF : ∀ b, F b → G.who b = .fz := fun b h => by show (if _ then _ else _) = _; rw [if_pos h]
  have whoB : ∀ j b, hb[j]? = some b → G.who b = .bx j := fun j b h => by
    have hm := List.mem_of_getElem? h
    have hex : ∃ j, hb[j]? = some b := ⟨j, h⟩
    show (if _ then _ else _) = _
    rw [if_neg (hBF b (inB b (.inr hm))).1, dif_pos hex]
    congr 1
    have hs := Classical.choose_spec hex
    exact key_idx (f := some) (by simpa using n2) hs h rfl rfl
  have whoH : ∀ (j : Nat) (v : Value) (b : Nat), Hs[j]? = some v → (ownB v) = some b → G.who b = .rw j := fun j (v : Value) b h hv => by
    have hm : b ∈ Hs.filterMap ownB := List.mem_filterMap.2 ⟨v, List.mem_of_getElem? h, hv⟩
    have hex : ∃ (j : Nat) (v : Value), Hs[j]? = some v ∧ (ownB v) = some b := ⟨j, v, h, hv⟩
    show (if _ then _ else _) = _
    rw [if_neg (hBF b (inB b (.inl hm))).1, dif_neg (fun ⟨i, hi⟩ => n3 b hm b (List.mem_of_getElem? hi) rfl), dif_pos hex]
    congr 1
    obtain ⟨u, h1, h2⟩ := Classical.choose_spec hex
    exact key_idx (f := ownB) n1 h1 h h2 hv
  have whoN : ∀ b, ¬ F b → b ∉ B → G.who b = .ot := fun b h1 h2 => by
    show (if _ then _ else _) = _
    rw [if_neg h1, dif_neg (fun ⟨i, hi⟩ => h2 (inB b (.inr (List.mem_of_getElem? hi)))), dif_neg (fun ⟨j, v, h3, h4⟩ => h2 (inB b (.inl (List.mem_filterMap.2 ⟨v, List.mem_of_getElem? h3, h4⟩))))]
  have hdG : ∀ j v, Hs[j]? = some v → G.hd j = v := fun j v h => by show Hs.getD j undef = v; simp [List.getD_eq_getElem?_getD, h]
  have bkG : ∀ j b, hb[j]? = some b → G.bk j = b := fun j b h => by show hb.getD j 0 = b; simp [List.getD_eq_getElem?_getD, h]
  let S := St.init E.clo fn.ntmps nr nb as
  have eS1 : S.slots = inclo E.clo (initA 0 0 as).1 ++ List.replicate (fn.ntmps - (inclo E.clo (initA 0 0 as).1).length) .und := rfl
  have eS2 : S.rows = (initA 0 0 as).2.1 ++ List.replicate nr ⟨0, none⟩ := rfl
  have eS3 : S.boxes = (initA 0 0 as).2.2 ++ List.replicate nb ⟨0, none⟩ := rfl
  obtain ⟨f10, f2, f3⟩ := k4 G S.rows S.boxes whoF (fun j v h => by rw [Nat.zero_add]; exact ⟨hdG j v h, fun b hb0 => whoH j v b h hb0⟩) (fun j b h => by rw [Nat.zero_add]; exact ⟨bkG j b h, whoB j b h⟩)
    (fun j r h => by rw [Nat.zero_add, eS2, List.getElem?_append_left (List.getElem?_eq_some_iff.1 h).1]; exact h) (fun j r h => by rw [Nat.zero_add, eS3, List.getElem?_append_left (List.getElem?_eq_some_iff.1 h).1]; exact h)
  have f1 := inclo_ok E.clo f10
  generalize hus : wrapV E.clo vs = us at f1 ⊢
  have hlen := f1.len
  have hinv : Inv w ⟨fun b => b < w.heap.size ∧ b ∉ B, F, hb⟩ S G { tmps := us.toArray ++ Array.replicate (fn.ntmps - us.toArray.size) undef, defers := [] } w := by
    refine ⟨?_, ?_, ?_, ?_, ?_, Kp.refl _ _, ?_, fun b hb0 => hb0.1, rfl, ?_⟩
    · rw [eS1]; simp [hlen]
    · intro t x hx
      rw [eS1] at hx
      rcases Nat.lt_or_ge t (inclo E.clo (initA 0 0 as).1).length with ht | ht
      · rw [List.getElem?_append_left ht] at hx
        obtain ⟨v, hv, hr⟩ := f1.get t x hx
        have hge : (us.toArray ++ Array.replicate (fn.ntmps - us.toArray.size) undef).getD t undef = v := by
          rw [Array.getD_eq_getD_getElem?, Array.getElem?_append_left (by simp; omega)]
          simp [hv]
        show TR w G S.rows S.boxes ((us.toArray ++ Array.replicate (fn.ntmps - us.toArray.size) undef).getD t undef) x
        rw [hge]
        exact hr
      · rw [List.getElem?_append_right ht] at hx
        obtain ⟨hlt, hxe⟩ := List.getElem?_eq_some_iff.1 hx
        simp at hxe
        subst hxe
        show (us.toArray ++ Array.replicate (fn.ntmps - us.toArray.size) undef).getD t undef = undef
        rw [Array.getD_eq_getD_getElem?, Array.getElem?_append_right (by simp; omega)]
        simp only [List.length_replicate] at hlt
        rw [Array.getElem?_replicate]
        split <;> rfl
    · intro b Bx hB cs hcs
      rw [eS3] at hB
      rcases Nat.lt_or_ge b (initA 0 0 as).2.2.length with ht | ht
      · rw [List.getElem?_append_left ht] at hB
        have := f3 b Bx hB cs hcs
        rwa [Nat.zero_add] at this
      · rw [List.getElem?_append_right ht] at hB
        obtain ⟨hlt, hxe⟩ := List.getElem?_eq_some_iff.1 hB
        simp at hxe
        subst hxe
        cases hcs
    · intro id r hr
      rw [eS2] at hr
      rcases Nat.lt_or_ge id (initA 0 0 as).2.1.length with ht | ht
      · rw [List.getElem?_append_left ht] at hr
        have := f2 id r hr
        rwa [Nat.zero_add] at this
      · rw [List.getElem?_append_right ht] at hr
        obtain ⟨hlt, hxe⟩ := List.getElem?_eq_some_iff.1 hr
        simp at hxe
        subst hxe
        intro c hc; cases hc
    · intro b hb0
      by_cases h1 : F b
      · exact hF b h1
      · by_cases h2 : b ∈ B
        · exact (hBF b h2).2
        · exact absurd (whoN b h1 h2) hb0
    · intro b hb0
      by_cases h1 : F b
      · exact .inl ⟨whoF b h1, h1⟩
      · exact .inr ⟨whoN b h1 hb0.2, h1⟩
    · intro j b hj Bx _ _ _
      exact bkG j b hj
  refine calls_of_wp hf hc (wp_mono (evC_ok hV hC hm c (hl c hc) S G _ w _ hinv hev) ?_)
  rintro e a' w' ⟨x, S', G', rfl, h, hk⟩
  have key : retT V E fn.results.toList (argP as) S' K → a'.defers = [] ∧ ∃ v, (results fn a'.tmps).run P w' = .ok v w' ∧ ∃ rv rs bs F' B' hb', Ending.returned v = .returned (retV rv) ∧ K rs bs ∧ ArgsR w' F' (rv ++ hb.map ptrV) (rs ++ bs.map .p) B' hb' ∧ rv.length = rs.length ∧
      B'.Nodup ∧ (∀ b ∈ B', ¬ F' b ∧ b < w'.heap.size ∧ (b ∈ B ∨ w.heap.size ≤ b)) ∧ (∀ b, F b → F' b) ∧ (∀ b, F' b → b < w'.heap.size ∧ (F b ∨ b ∈ B ∨ w.heap.size ≤ b)) ∧
      Kp (fun b => b < w.heap.size ∧ b ∉ B) w w' := by
    intro hk
    unfold retT at hk
    split at hk
    · rename_i ts hts
      obtain ⟨rv, r1, r2⟩ := resVars_ok hV h hts
      split at hk
      · rename_i rs ls gs bs cs ls' bs' e1 e2
        obtain ⟨hcond, hKK⟩ := hk
        simp only [Bool.and_eq_true, Bool.not_eq_true', List.any_eq_false, List.contains_eq_mem, decide_eq_true_eq] at hcond
        have c1 := nodupB_spec hcond.1.1
        have c2 := nodupB_spec hcond.1.2
        rw [List.map_append] at c2
        obtain ⟨c3, c4, c5⟩ := List.nodup_append.1 c2
        obtain ⟨B1, hb1, p1, p2, p3, p4, p5, p6, p7, p8⟩ := argsT_ok h E.res (ls ++ ls') r2 e1 fun i hi => List.mem_append_left _ hi
        have hpb : F2 (TR w' G' S'.rows S'.boxes) (hb.map ptrV) (pbs 0 (argP as)) := by
          rw [← initA_np 0 0, ← k3]
          exact pbs_tr fun j x hx Bx hB he hs => by rw [Nat.zero_add] at hB ⊢; exact h.hb j x hx Bx hB he hs
        obtain ⟨B2, hb2, q1, q2, q3, q4, q5, q6, q7, q8⟩ := argsT_ok h [] (ls ++ ls') hpb e2 fun i hi => List.mem_append_right _ hi
        have tag1 : ∀ b ∈ B1, (∃ id ∈ gs, G'.who b = .rw id) ∨ ∃ p ∈ bs, G'.who b = .bx p.1 := fun b hb0 => by
          rcases p3 b hb0 with h1 | h1
          · exact .inl h1
          · rw [p2] at h1
            obtain ⟨p, hp, rfl⟩ := List.mem_map.1 h1
            obtain ⟨_, _, h2⟩ := p8 p hp
            exact .inr ⟨p, hp, h2⟩
        have tag2 : ∀ b ∈ B2, ∃ p ∈ bs', G'.who b = .bx p.1 := fun b hb0 => by
          rcases q3 b hb0 with ⟨id, hid, _⟩ | h1
          · cases hid
          · rw [q2] at h1
            obtain ⟨p, hp, rfl⟩ := List.mem_map.1 h1
            obtain ⟨_, _, h2⟩ := q8 p hp
            exact ⟨p, hp, h2⟩
        have tagB : ∀ b ∈ B1 ++ B2, ¬ lent G' (ls ++ ls') b ∧ G'.who b ≠ .ot ∧ G'.who b ≠ .fz := fun b hb0 => by
          rcases List.mem_append.1 hb0 with hb0 | hb0
          · rcases tag1 b hb0 with ⟨id, hid, h1⟩ | ⟨p, _, h1⟩
            · refine ⟨fun h2 => ?_, by rw [h1]; simp, by rw [h1]; simp⟩
              rcases h2 with h2 | ⟨id', hid', h2⟩
              · rw [h1] at h2; simp at h2
              · rw [h1] at h2; cases h2; exact hcond.2 id hid' hid
            · refine ⟨fun h2 => ?_, by rw [h1]; simp, by rw [h1]; simp⟩
              rcases h2 with h2 | ⟨id', hid', h2⟩ <;> (rw [h1] at h2; simp at h2)
          · obtain ⟨p, _, h1⟩ := tag2 b hb0
            refine ⟨fun h2 => ?_, by rw [h1]; simp, by rw [h1]; simp⟩
            rcases h2 with h2 | ⟨id', hid', h2⟩ <;> (rw [h1] at h2; simp at h2)
        refine ⟨h.df, _, results_eq fn _ r1, rv, rs, cs.map pcells, lent G' (ls ++ ls'), B1 ++ B2, hb1 ++ hb2, rfl, hKK, ?_, ?_, ?_, ?_, ?_, ?_, h.kp⟩
        · have e3 : (cs.map pcells).map Arg.p = cs := pbs_args e2
          rw [e3]
          exact p1.app q1
        · exact ArgsR.len p1
        · refine List.nodup_append.2 ⟨p5 c1 c3, q5 List.nodup_nil c4, fun b hb0 b' hb' e => ?_⟩
          subst e
          obtain ⟨p', hp', h2⟩ := tag2 b hb'
          rcases tag1 b hb0 with ⟨id, hid, h1⟩ | ⟨p, hp, h1⟩
          · rw [h1] at h2; simp at h2
          · rw [h1] at h2
            simp only [Tag.bx.injEq] at h2
            exact c5 p.1 (List.mem_map.2 ⟨p, hp, rfl⟩) p'.1 (List.mem_map.2 ⟨p', hp', rfl⟩) h2
        · intro b hb0
          obtain ⟨t1, t2, t3⟩ := tagB b hb0
          refine ⟨t1, h.lt b t2, ?_⟩
          by_cases hbB : b ∈ B
          · exact .inl hbB
          · rcases Nat.lt_or_ge b w.heap.size with hlt | hge
            · rcases h.pr b ⟨hlt, hbB⟩ with ⟨h1, _⟩ | ⟨h1, _⟩
              · exact absurd h1 t3
              · exact absurd h1 t2
            · exact .inr hge
        · intro b hb0
          have hbB : b ∉ B := fun hm => (hBF b hm).1 hb0
          rcases h.pr b ⟨hF b hb0, hbB⟩ with ⟨h1, _⟩ | ⟨_, h1⟩
          · exact .inl h1
          · exact absurd hb0 h1
        · intro b hb0
          have hne : G'.who b ≠ .ot := by rcases hb0 with h1 | ⟨id, _, h1⟩ <;> (rw [h1]; simp)
          refine ⟨h.lt b hne, ?_⟩
          by_cases hbB : b ∈ B
          · exact .inr (.inl hbB)
          · rcases Nat.lt_or_ge b w.heap.size with hlt | hge
            · rcases h.pr b ⟨hlt, hbB⟩ with ⟨_, h1⟩ | ⟨h1, _⟩
              · exact .inl h1
              · exact absurd h1 hne
            · exact .inr (.inr hge)
      · exact hk.elim
    · exact hk.elim
  cases x with
  | exit j => exact hk.elim
  | normal =>
    exact key hk
  | ret =>
    exact key hk
end Go.Proofs.YtlapeiijghebjaaE

/- Types: what is told of them is checked by counting. Conditions: none. -/
set_option linter.unusedVariables false
namespace Go.Proofs.YtlapeiijghebjaaE
open Go Go.RowKit
def zB : Value → D → Bool
  | .int k x, .i k' y => decide (k = k') && x == y
  | .bool x, .b y => x == y
  | .slice none 0 0, .r k l => l.isEmpty
  | _, _ => false
theorem zB_ok {v : Value} {x : D} (h : zB v x = true) : ZR v x := by
  intro w F
  unfold zB at h
  split at h
  · simp only [Bool.and_eq_true, decide_eq_true_eq, beq_iff_eq] at h
    obtain ⟨rfl, rfl⟩ := h
    exact .i _ _
  · simp only [beq_iff_eq] at h
    subst h
    exact .b _
  · rename_i k l
    have : l = [] := by simpa using h
    subst this
    exact .nil _ _
  · simp at h
def zsB : List Value → List D → Bool
  | [], [] => true
  | v :: vs, d :: ds => zB v d && zsB vs ds
  | _, _ => false
theorem zsB_ok : ∀ {vs : List Value} {ds : List D}, zsB vs ds = true → F2 ZR vs ds
  | [], [], _ => .nil
  | v :: vs, d :: ds, h => by
    simp only [zsB, Bool.and_eq_true] at h
    exact .cons (zB_ok h.1) (zsB_ok h.2)
  | [], _ :: _, h => by simp [zsB] at h
  | _ :: _, [], h => by simp [zsB] at h
def dB : D → D → Bool
  | .i k x, .i k' y => decide (k = k') && x == y
  | .b x, .b y => x == y
  | .r k l, .r k' l' => decide (k = k') && l.isEmpty && l'.isEmpty
  | _, _ => false
theorem dB_ok {x y : D} (h : dB x y = true) : x = y := by
  unfold dB at h
  split at h
  · simp only [Bool.and_eq_true, decide_eq_true_eq, beq_iff_eq] at h
    obtain ⟨rfl, rfl⟩ := h; rfl
  · simp only [beq_iff_eq] at h; subst h; rfl
  · rename_i k l k' l'
    simp only [Bool.and_eq_true, decide_eq_true_eq, List.isEmpty_iff] at h
    obtain ⟨⟨rfl, rfl⟩, rfl⟩ := h; rfl
  · simp at h
def dsB : List D → List D → Bool
  | [], [] => true
  | v :: vs, d :: ds => dB v d && dsB vs ds
  | _, _ => false
theorem dsB_ok : ∀ {vs ds : List D}, dsB vs ds = true → vs = ds
  | [], [], _ => rfl
  | v :: vs, d :: ds, h => by
    simp only [dsB, Bool.and_eq_true] at h
    rw [dB_ok h.1, dsB_ok h.2]
  | [], _ :: _, h => by simp [dsB] at h
  | _ :: _, [], h => by simp [dsB] at h
def tyB (P : Program) (tys : List (Nat × TyI)) (t : Nat) (I : TyI) : Bool :=
  (match P.info? t with
  | some i => i.size == I.zc.length && decide (i.bytes ≤ 1024) && (match i.zero with
    | some z => match I.agg, z with
      | true, .agg arr => zsB arr.toList I.zc
      | true, _ => false
      | false, z => zsB [z] I.zc
    | none => false)
  | none => false) &&
  (match I.agg, P.underlying t with
  | true, some (.struct fs) => (fs.toList.all fun f => (P.info? f.type).isSome) && ((List.range I.fs.length).all fun f => match I.fs[f]?, fs[f]? with
    | some (o, ft), some fl => fl.offset == o && fl.type == ft
    | _, _ => false)
  | false, some (.struct _) => false
  | false, some (.array _ _) => false
  | false, some _ => I.fs.isEmpty && I.zc.length == 1
  | _, _ => false) &&
  (match I.el with
  | some (k, e) => (match P.underlying t with
    | some (.slice e') => e' == e
    | _ => false) && (match look e tys with
    | some J => dsB J.zc (k.cells k.z)
    | none => false)
  | none => true) &&
  (match I.agg, I.zc with
  | false, [.i k _] => match P.underlying t with
    | some (.int k') => decide (k' = k)
    | _ => false
  | false, [.b _] => match P.underlying t with
    | some .bool => true
    | _ => false
  | _, _ => true)
theorem agg_cells (arr : Array Value) : (Value.agg arr).cells = arr := rfl
theorem tyB_ok {P : Program} {V : Env} {t : Nat} {I : TyI} (h : tyB P V.tys t I = true) : TyOk P V t I := by
  unfold tyB at h
  simp only [Bool.and_eq_true] at h
  obtain ⟨⟨⟨h1, h2⟩, h3⟩, h4⟩ := h
  refine ⟨?_, ?_, ?_, ?_, ?_, ?_, ?_⟩
  · split at h1
    · rename_i i hi
      simp only [Bool.and_eq_true, beq_iff_eq, decide_eq_true_eq] at h1
      obtain ⟨⟨e1, e2⟩, e3⟩ := h1
      split at e3
      · rename_i z hz
        refine ⟨i, z, hi, e1, e2, hz, ?_⟩
        split at e3
        · rename_i arr hg
          exact ⟨arr.toList, by simp [agg_cells], zsB_ok e3, fun _ => by simp, fun h => (by rw [hg] at h; cases h)⟩
        · simp at e3
        · rename_i hg
          have hz2 := zsB_ok e3
          refine ⟨[_], ?_, hz2, fun h => (by rw [hg] at h; cases h), fun _ => ⟨_, rfl, rfl⟩⟩
          generalize I.zc = zc at hz2
          cases hz2 with
          | cons q1 q2 => rw [(q1 (default : World) (fun _ => False)).cells]
      · simp at e3
    · simp at h1
  · intro hg
    split at h2
    · rename_i fs _ hu
      simp only [Bool.and_eq_true, List.all_eq_true] at h2
      exact ⟨fs, hu, fun f hf => Option.isSome_iff_exists.1 (h2.1 f hf)⟩
    all_goals first | (simp at h2; done) | (rename_i h0 _; rw [hg] at h0; cases h0) | (rename_i h0 _ _ _; rw [hg] at h0; cases h0) | (rename_i h0 _ _ _ _; rw [hg] at h0; cases h0)
  · intro f o ft hf
    have hlt : f < I.fs.length := (List.getElem?_eq_some_iff.1 hf).1
    split at h2
    · rename_i fs _ hu
      simp only [Bool.and_eq_true, List.all_eq_true] at h2
      have := h2.2 f (List.mem_range.2 hlt)
      rw [hf] at this
      split at this
      · rename_i o' ft' fl he hfl
        simp only [Option.some.injEq, Prod.mk.injEq] at he
        obtain ⟨rfl, rfl⟩ := he
        simp only [Bool.and_eq_true, beq_iff_eq] at this
        exact ⟨fs, fl, hu, hfl, this.1, this.2⟩
      · simp at this
    · simp at h2
    · simp at h2
    · simp only [Bool.and_eq_true, List.isEmpty_iff] at h2
      rw [h2.1] at hlt; simp at hlt
    · simp at h2
  · intro hg
    split at h2
    · rename_i h0 _; rw [hg] at h0; cases h0
    · simp at h2
    · simp at h2
    · rename_i d n1 n2 _ hu
      simp only [Bool.and_eq_true, beq_iff_eq] at h2
      exact ⟨h2.2, d, hu, fun fs e => n1 fs e, fun n e' e => n2 _ _ e⟩
    · simp at h2
  · intro k e hel
    rw [hel] at h3
    dsimp only at h3
    simp only [Bool.and_eq_true] at h3
    obtain ⟨e1, e2⟩ := h3
    split at e1
    · rename_i e' hu
      simp only [beq_iff_eq] at e1
      subst e1
      split at e2
      · rename_i J hJ
        exact ⟨hu, J, hJ, dsB_ok e2⟩
      · simp at e2
    · simp at e1
  · intro k x hg hz
    rw [hg, hz] at h4
    dsimp only at h4
    split at h4
    · rename_i k' hu
      simp only [decide_eq_true_eq] at h4
      rw [hu, h4]
    · simp at h4
  · intro x hg hz
    rw [hg, hz] at h4
    dsimp only at h4
    split at h4
    · rename_i hu; exact hu
    · simp at h4
def tysB (P : Program) (tys : List (Nat × TyI)) : Bool := tys.all fun p => tyB P tys p.1 p.2
theorem look_mem {β : Type} {a : Nat} {y : β} : ∀ {l : List (Nat × β)}, look a l = some y → (a, y) ∈ l
  | [], h => by simp [look] at h
  | (x, z) :: l, h => by
    simp only [look] at h
    split at h
    · rename_i he; cases h; subst he; simp
    · exact List.mem_cons_of_mem _ (look_mem h)
theorem tysB_ok {P : Program} {V : Env} (h : tysB P V.tys = true) : TysOk P V := fun t I hI => by
  unfold tysB at h
  rw [List.all_eq_true] at h
  exact tyB_ok (h _ (look_mem hI))
/-- Callees, one by one. -/
def CallsL (P : Program) (l : List (Nat × Ent)) : Prop := ∀ f E, look f l = some E → Valid P f E
theorem CallsL.nil (P : Program) : CallsL P [] := fun f E h => by simp [look] at h
theorem CallsL.cons {P : Program} {f : Nat} {E : Ent} {l : List (Nat × Ent)} (h : Valid P f E) (hl : CallsL P l) : CallsL P ((f, E) :: l) := fun g E' hg => by
  simp only [look] at hg
  split at hg
  · rename_i he; cases hg; subst he; exact h
  · exact hl g E' hg
end Go.Proofs.YtlapeiijghebjaaE

/- Contracts: arguments as plain data, what must hold ahead, what is answered. Conditions: none. -/
set_option linter.unusedVariables false
namespace Go.Proofs.YtlapeiijghebjaaE
open Go Go.RowKit
def aI (k : IntKind) (x : Int) : Arg := .v false [.d (.i k x)]
def aB (x : Bool) : Arg := .v false [.d (.b x)]
def aR (k : RK) (l : List k.El) : Arg := .v false [.d (.r k l)]
def at_u8 (l : List Int) (i : Nat) : Int := l.getD i 0
def at_i64 (l : List Int) (i : Nat) : Int := l.getD i 0
def at_byr (l : List (List Int)) (i : Nat) : List Int := l.getD i []
def at_part (l : List Part) (i : Nat) : Part := l.getD i ⟨0, 0, []⟩
def at_frm (l : List Frm) (i : Nat) : Frm := l.getD i ⟨0, 0, 0, false, false, 0, 0, 0, []⟩
def at_wend (l : List EndS) (i : Nat) : EndS := RK.at .wend l i
def at_netm (l : List NetS) (i : Nat) : NetS := l.getD i ⟨false, []⟩
def at_nets (l : List (List NetS)) (i : Nat) : List NetS := l.getD i []
/-- One argument as data. -/
structure Rep (α : Type) where
  to : α → Arg
  of : Arg → Option α
  inv : ∀ a x, of a = some x → a = to x
def val1 : Arg → Option D
  | .v false [.d x] => some x
  | _ => none
theorem val1_spec {a : Arg} {x : D} (h : val1 a = some x) : a = .v false [.d x] := by
  unfold val1 at h
  split at h
  · cases h; rfl
  · simp at h
def oI (k : IntKind) (a : Arg) : Option Int := match val1 a with
  | some (.i k' x) => if k = k' then some x else none
  | _ => none
def rI (k : IntKind) : Rep Int where
  to x := .v false [.d (.i k x)]
  of := oI k
  inv a x h := by
    unfold oI at h
    split at h
    · rename_i k' y hv
      split at h
      · rename_i hk; cases h; subst hk; exact val1_spec hv
      · simp at h
    · simp at h
def oB (a : Arg) : Option Bool := match val1 a with
  | some (.b x) => some x
  | _ => none
def rB : Rep Bool where
  to x := .v false [.d (.b x)]
  of := oB
  inv a x h := by
    unfold oB at h
    split at h
    · rename_i y hv; cases h; exact val1_spec hv
    · simp at h
def oR (k : RK) (a : Arg) : Option (List k.El) := match val1 a with
  | some (.r k' l) => if h : k' = k then some (castL h l) else none
  | _ => none
def rR (k : RK) : Rep (List k.El) where
  to x := .v false [.d (.r k x)]
  of := oR k
  inv a x h := by
    unfold oR at h
    split at h
    · rename_i k' l hv
      split at h
      · rename_i hk; subst hk; cases h; exact val1_spec hv
      · simp at h
    · simp at h
def own1 : Arg → Option RC
  | .v false [.own c] => some c
  | _ => none
theorem own1_spec {a : Arg} {c : RC} (h : own1 a = some c) : a = .v false [.own c] := by
  unfold own1 at h
  split at h
  · cases h; rfl
  · simp at h
def oO (e : Nat) (k : RK) (a : Arg) : Option (List k.El) := match own1 a with
  | some ⟨e', k', l⟩ => if e' = e then if h : k' = k then some (castL h l) else none else none
  | none => none
/-- A row of one's own, of elements of type e. -/
def rO (e : Nat) (k : RK) : Rep (List k.El) where
  to l := .v false [.own ⟨e, k, l⟩]
  of := oO e k
  inv a x h := by
    unfold oO at h
    split at h
    · rename_i e' k' l hv
      split at h
      · rename_i he
        split at h
        · rename_i hk; subst he; subst hk; cases h; exact own1_spec hv
        · simp at h
      · simp at h
    · simp at h
def dats : List AC → Option (List D)
  | [] => some []
  | .d x :: r => match dats r with
    | some xs => some (x :: xs)
    | none => none
  | .own _ :: _ => none
theorem dats_spec : ∀ {cs : List AC} {ds : List D}, dats cs = some ds → cs = ds.map .d
  | [], ds, h => by simp only [dats, Option.some.injEq] at h; subst h; rfl
  | .d x :: r, ds, h => by
    simp only [dats] at h
    split at h
    · rename_i xs hx; cases h; rw [dats_spec hx]; rfl
    · simp at h
  | .own _ :: _, ds, h => by simp [dats] at h
def valS : Arg → Option (List D)
  | .v true cs => dats cs
  | _ => none
theorem valS_spec {a : Arg} {x : List D} (h : valS a = some x) : a = .v true (x.map .d) := by
  unfold valS at h
  split at h
  · rw [dats_spec h]
  · simp at h
def oS {α : Type} (mk : List D → Option α) (a : Arg) : Option α := match valS a with
  | some ds => mk ds
  | none => none
/-- A struct. -/
def rS {α : Type} (cells : α → List D) (mk : List D → Option α) (h : ∀ ds e, mk ds = some e → cells e = ds) : Rep α where
  to x := .v true ((cells x).map .d)
  of := oS mk
  inv a x hx := by
    unfold oS at hx
    split at hx
    · rename_i ds hv; rw [h ds x hx]; exact valS_spec hv
    · simp at hx
/-- A pointer to a variable of these cells. -/
def oP {α : Type} (mk : List D → Option α) : Arg → Option α
  | .p cs => match dats cs with
    | some ds => mk ds
    | none => none
  | _ => none
def rP {α : Type} (cells : α → List D) (mk : List D → Option α) (h : ∀ ds e, mk ds = some e → cells e = ds) : Rep α where
  to x := .p ((cells x).map .d)
  of := oP mk
  inv a x hx := by
    unfold oP at hx
    split at hx
    · split at hx
      · rename_i ds hv; rw [h ds x hx, dats_spec hv]
      · simp at hx
    · simp at hx
def cfgC (c : Cfg) : List D := [.i .i64 c.mode, .i .i64 c.win, .i .i64 c.mps, .i .i64 c.mtu, .i .i64 c.try_]
def mkCfg : List D → Option Cfg
  | [.i .i64 a, .i .i64 b, .i .i64 c, .i .i64 d, .i .i64 e] => some ⟨a, b, c, d, e⟩
  | _ => none
theorem mkCfg_cells (ds : List D) (e : Cfg) (h : mkCfg ds = some e) : cfgC e = ds := by unfold mkCfg at h; split at h <;> first | (cases h; rfl) | simp at h
def joinC (j : JoinS) : List D := [.i .i64 j.len, .r .u8 j.got]
def mkJoin : List D → Option JoinS
  | [.i .i64 a, .r .u8 b] => some ⟨a, b⟩
  | _ => none
theorem mkJoin_cells (ds : List D) (e : JoinS) (h : mkJoin ds = some e) : joinC e = ds := by unfold mkJoin at h; split at h <;> first | (cases h; rfl) | simp at h
/-- Who reads a code. -/
structure RdS where
  b : List Int
  p : Int
def rdC (r : RdS) : List D := [.r .u8 r.b, .i .i64 r.p]
def mkRd : List D → Option RdS
  | [.r .u8 b, .i .i64 p] => some ⟨b, p⟩
  | _ => none
theorem mkRd_cells (ds : List D) (e : RdS) (h : mkRd ds = some e) : rdC e = ds := by unfold mkRd at h; split at h <;> first | (cases h; rfl) | simp at h
structure WldS where
  cfg : Cfg
  link : Int
  ends : List EndS
  net : List (List NetS)
def wldC (w : WldS) : List D := cfgC w.cfg ++ [.i .i64 w.link, .r .wend w.ends, .r .nets w.net]
def mkWld : List D → Option WldS
  | [.i .i64 a, .i .i64 b, .i .i64 c, .i .i64 d, .i .i64 e, .i .i64 l, .r .wend es, .r .nets ns] => some ⟨⟨a, b, c, d, e⟩, l, es, ns⟩
  | _ => none
theorem mkWld_cells (ds : List D) (e : WldS) (h : mkWld ds = some e) : wldC e = ds := by unfold mkWld at h; split at h <;> first | (cases h; rfl) | simp at h
structure EvS where
  kind : Int
  who : Int
  at_ : Int
  v : Int
  data : List Int
def evS (e : EvS) : List D := [.i .i64 e.kind, .i .i64 e.who, .i .i64 e.at_, .i .i64 e.v, .r .u8 e.data]
def mkEv : List D → Option EvS
  | [.i .i64 a, .i .i64 b, .i .i64 c, .i .i64 d, .r .u8 e] => some ⟨a, b, c, d, e⟩
  | _ => none
theorem mkEv_cells (ds : List D) (e : EvS) (h : mkEv ds = some e) : evS e = ds := by unfold mkEv at h; split at h <;> first | (cases h; rfl) | simp at h
def rInt : Rep Int := rI .i64
def rByte : Rep Int := rI .u8
def rBytes : Rep (List Int) := rR .u8
def rCfg : Rep Cfg := rS cfgC mkCfg mkCfg_cells
def rJoin : Rep JoinS := rS joinC mkJoin mkJoin_cells
def rPart : Rep Part := rS (RK.cells .part) (RK.mk .part) (mk_cells .part)
def rFrm : Rep Frm := rS (RK.cells .frm) (RK.mk .frm) (mk_cells .frm)
def rTx : Rep TxS := rS txC mkTx fun _ _ h => mkTx_cells h
def rRx : Rep RxS := rS rxC mkRx fun _ _ h => mkRx_cells h
def rCt : Rep CtS := rS ctC mkCt fun _ _ h => mkCt_cells h
def rCr : Rep CrS := rS crC mkCr fun _ _ h => mkCr_cells h
def rEnd : Rep EndS := rS (RK.cells .wend) (RK.mk .wend) (mk_cells .wend)
def rNet : Rep NetS := rS (RK.cells .netm) (RK.mk .netm) (mk_cells .netm)
def rWld : Rep WldS := rS wldC mkWld mkWld_cells
def rEv : Rep EvS := rS evS mkEv mkEv_cells
def rRd : Rep RdS := rP rdC mkRd mkRd_cells
def rPTx : Rep TxS := rP txC mkTx fun _ _ h => mkTx_cells h
def rPRx : Rep RxS := rP rxC mkRx fun _ _ h => mkRx_cells h
def rPCr : Rep CrS := rP crC mkCr fun _ _ h => mkCr_cells h
def rPWld : Rep WldS := rP wldC mkWld mkWld_cells
/-! ### arguments, one behind the other -/
structure Reps (α : Type) where
  to : α → List Arg
  of : List Arg → Option α
  inv : ∀ a x, of a = some x → a = to x
def rs0 : Reps Unit where
  to _ := []
  of | [] => some ()
     | _ => none
  inv a x h := by
    split at h
    · rfl
    · simp at h
def rs1 {α : Type} (A : Rep α) : Reps α where
  to x := [A.to x]
  of | [a] => A.of a
     | _ => none
  inv a x h := by
    split at h
    · rw [A.inv _ _ h]
    · simp at h
def rs {α β : Type} (A : Rep α) (B : Reps β) : Reps (α × β) where
  to x := A.to x.1 :: B.to x.2
  of | a :: as => match A.of a, B.of as with
       | some x, some y => some (x, y)
       | _, _ => none
     | _ => none
  inv a x h := by
    split at h
    · split at h
      · rename_i h1 h2; cases h; rw [A.inv _ _ h1, B.inv _ _ h2]
      · simp at h
    · simp at h
/-- A function's promise. -/
def ctr {α ρ : Type} (own res : List (Nat × Nat)) (A : Reps α) (pre : α → Prop) (post : α → ρ → Prop) (out : ρ → List Arg) (bs : ρ → List (List AC)) (clo : Option (Nat × Bool) := none) : Ent where
  own := own
  res := res
  clo := clo
  F as K := match A.of as with
    | some x => pre x ∧ ∀ r, post x r → K (out r) (bs r)
    | none => False
  mono as K K' hm h := by
    split at h
    · exact ⟨h.1, fun r hr => hm _ _ (h.2 r hr)⟩
    · exact h
theorem valid_ctr {P : Program} {V : Env} (hV : TysOk P V) (hC : CallsOk P V) (hm : P.follows .mixedOrders = true) {f : Nat} {fn : Func} {α ρ : Type} {own res : List (Nat × Nat)} {A : Reps α} {pre : α → Prop} {post : α → ρ → Prop} {out : ρ → List Arg} {bs : ρ → List (List AC)} {clo : Option (Nat × Bool)} (nr nb : Nat)
    (hf : P.funcs[f]? = some fn) (hbody : fn.body.isSome = true) (hname : (fn.name == "runtime.NumGoroutine") = false)
    (hl : ∀ c, fn.body = some c → LoopsIn V c) (H : ∀ x K, pre x → (∀ r, post x r → K (out r) (bs r)) → evF V (ctr own res A pre post out bs clo) fn nr nb (A.to x) K) : Valid P f (ctr own res A pre post out bs clo) :=
  valid_of hV hC hm nr nb hf hbody hname hl fun as K h => by
    have h' : (match A.of as with
      | some x => pre x ∧ ∀ r, post x r → K (out r) (bs r)
      | none => False) := h
    split at h'
    · rename_i x hx
      rw [A.inv _ _ hx]
      exact H x K h'.1 h'.2
    · exact h'.elim
/-- The same, the condition written out elsewhere. -/
theorem valid_ctr2 {P : Program} {V : Env} (hV : TysOk P V) (hC : CallsOk P V) (hm : P.follows .mixedOrders = true) {f : Nat} {fn : Func} {α ρ : Type} {own res : List (Nat × Nat)} {A : Reps α} {pre : α → Prop} {post : α → ρ → Prop} {out : ρ → List Arg} {bs : ρ → List (List AC)} {clo : Option (Nat × Bool)} (nr nb : Nat)
    (hf : P.funcs[f]? = some fn) (hbody : fn.body.isSome = true) (hname : (fn.name == "runtime.NumGoroutine") = false)
    (hl : ∀ c, fn.body = some c → LoopsIn V c) (H : ∀ x K, pre x → (∀ r, post x r → K (out r) (bs r)) → ∃ p : Prop, evF V (ctr own res A pre post out bs clo) fn nr nb (A.to x) K = p ∧ p) : Valid P f (ctr own res A pre post out bs clo) :=
  valid_ctr hV hC hm nr nb hf hbody hname hl fun x K hp hk => by
    obtain ⟨p, h1, h2⟩ := H x K hp hk
    rw [h1]; exact h2
end Go.Proofs.YtlapeiijghebjaaE

/- Loops by data: what stands at a loop's head, what stands behind it. Conditions: none. -/
set_option linter.unusedVariables false
namespace Go.Proofs.YtlapeiijghebjaaE
open Go Go.RowKit
/-- What is kept of a state: slots, variables, rows. -/
structure Kept where
  s : List Nat
  b : List Nat
  r : List Nat
/-- What is kept, laid out: are there n slots?; the slots; rows; variables. -/
structure KS where
  ok : Bool
  s : List (Nat × T)
  r : List Row
  b : List Box
def lenB : List T → Nat → Bool
  | [], n => n == 0
  | _ :: l, n + 1 => lenB l n
  | _ :: _, 0 => false
def St.keep (S : St) (k : Kept) (n : Nat) : KS := ⟨lenB S.slots n, k.s.map fun t => (t, S.cutT k.b k.r (S.slots.getD t .un)), (S.cut [] k.b k.r).rows, (S.cut [] k.b k.r).boxes⟩
def KS.st (x : KS) (n : Nat) : St := ⟨mkSlots n x.s, x.r, x.b⟩
theorem lenB_eq : ∀ {l : List T} {n : Nat}, lenB l n = true → l.length = n
  | [], n, h => by simp [lenB] at h; simp [h]
  | _ :: l, n + 1, h => by simp [lenB_eq (l := l) (n := n) h]
  | _ :: _, 0, h => by simp [lenB] at h
theorem foldS_len : ∀ (l : List (Nat × T)) (s : List T), (l.foldl (fun s p => s.set p.1 p.2) s).length = s.length
  | [], s => rfl
  | p :: l, s => by rw [List.foldl_cons, foldS_len l]; simp
theorem foldS_get : ∀ (l : List (Nat × T)) (s : List T) (t : Nat) (x : T), (l.foldl (fun s p => s.set p.1 p.2) s)[t]? = some x → s[t]? = some x ∨ (t, x) ∈ l
  | [], s, t, x, h => .inl h
  | p :: l, s, t, x, h => by
    rw [List.foldl_cons] at h
    rcases foldS_get l _ t x h with h | h
    · rw [List.getElem?_set] at h
      split at h
      · rename_i hp
        split at h
        · cases h; subst hp; exact .inr (List.mem_cons_self)
        · simp at h
      · exact .inl h
    · exact .inr (List.mem_cons_of_mem _ h)
theorem Le.slots {S S' : St} (hr : S'.rows = S.rows) (hb : S'.boxes = S.boxes) (hl : S'.slots.length = S.slots.length) (hs : ∀ (t : Nat) (x : T), S'.slots[t]? = some x → x = T.un ∨ S.slots[t]? = some x) : Le S S' := by
  intro w0 prot G a w h
  obtain ⟨s', r', b'⟩ := S'
  dsimp only at hr hb hl hs
  subst hr; subst hb
  refine ⟨h.len.trans hl.symm, ?_, h.box, h.row, h.lt, h.kp, h.pr, h.prl, h.df, h.hb⟩
  intro t x hx
  rcases hs t x hx with rfl | hx
  · trivial
  · exact h.slot t x hx
theorem Le.keep {S : St} {k : Kept} {n : Nat} {x : KS} (h : S.keep k n = { x with ok := true }) : Le S (x.st n) := by
  have hx : (S.keep k n).ok = true := by rw [h]
  have e : x.st n = (S.keep k n).st n := by rw [h]; rfl
  rw [e]
  clear h e
  have hlen := lenB_eq hx
  refine Le.trans (Le.cut S k.s k.b k.r) (Le.slots rfl rfl ?_ ?_)
  · simp only [KS.st, mkSlots, foldS_len, List.length_replicate, St.cut, mapI_len]
    exact hlen.symm
  · intro t y hy
    rcases foldS_get _ _ t y hy with h | h
    · rw [List.getElem?_replicate] at h
      split at h
      · cases h; exact .inl rfl
      · simp at h
    · simp only [St.keep, List.mem_map, Prod.mk.injEq] at h
      obtain ⟨t', ht, rfl, rfl⟩ := h
      have hlt : t' < S.slots.length := by
        rw [hlen]
        have := (List.getElem?_eq_some_iff.1 hy).1
        simpa [KS.st, mkSlots, foldS_len] using this
      right
      simp only [St.cut, mapI_get, List.getElem?_eq_getElem hlt, Option.map_some, Nat.zero_add, List.getD_eq_getElem?_getD, Option.getD_some]
      rw [List.contains_iff_mem.2 ht]
      rfl
/-- A loop told by data: its head's state; what must hold; the states behind it. -/
structure LoopD (σ ρ η : Type) where
  n : Nat
  head : Kept
  st : σ → KS
  pre : σ → Prop
  nk : Kept
  nst : ρ → KS
  npost : σ → ρ → Prop
  rk : Kept
  rst : η → KS
  rpost : σ → η → Prop
def LoopD.L {σ ρ η : Type} (l : LoopD σ ρ η) (S : St) (K : Ex → St → Prop) : Prop :=
  ∃ s, S.keep l.head l.n = { l.st s with ok := true } ∧ l.pre s ∧ (∀ r, l.npost s r → K .normal ((l.nst r).st l.n)) ∧ ∀ r, l.rpost s r → K .ret ((l.rst r).st l.n)
/-- What a round answers. -/
def LoopD.K {σ ρ η : Type} (l : LoopD σ ρ η) (id : Nat) (s0 : σ) (inv : Nat → σ → Prop) (n : Nat) : Ex → St → Prop
  | .normal, S => ∃ s, S.keep l.head l.n = { l.st s with ok := true } ∧ ∃ m, m < n ∧ inv m s
  | .exit j, S => if j = id then ∃ r, S.keep l.nk l.n = { l.nst r with ok := true } ∧ l.npost s0 r else False
  | .ret, S => ∃ r, S.keep l.rk l.n = { l.rst r with ok := true } ∧ l.rpost s0 r
section
variable {V : Env}
theorem evOps_mono {ops : Array Oper} : ∀ {l : List Nat} {S : St} {K K' : St → Prop}, evOps V ops l S K → (∀ S, K S → K' S) → evOps V ops l S K'
  | [], S, K, K', h, hm => hm _ h
  | i :: l, S, K, K', h, hm => by
    simp only [evOps] at h ⊢
    split at h
    · exact stepO_mono h fun out ho => evOps_mono ho hm
    · exact h.elim
theorem conjL_mono {f g : Nat → Prop} (h : ∀ i, f i → g i) : ∀ {l : List Nat}, conjL l f → conjL l g
  | [], _ => trivial
  | [i], hk => h i hk
  | i :: j :: l, hk => ⟨h i hk.1, conjL_mono h hk.2⟩
theorem evR_mono {u : List Nat × List Nat} {ops : Array Oper} : ∀ {n : Nat} {listed : Array Bool} {S : St} {K K' : St → Prop}, evR V u ops n listed S K → (∀ S, K S → K' S) → evR V u ops n listed S K'
  | 0, listed, S, K, K', h, hm => by
    simp only [evR] at h ⊢
    split at h
    · exact hm _ h
    · exact h.elim
  | n + 1, listed, S, K, K', h, hm => by
    simp only [evR] at h ⊢
    split at h
    · exact hm _ h
    · split at h
      · split at h
        · exact stepO_mono h fun out ho => evR_mono ho hm
        · exact h.elim
      · refine conjL_mono (fun i hi => ?_) h
        split at hi
        · exact stepO_mono hi fun out ho => ⟨ho.1, evR_mono ho.2 hm⟩
        · exact hi.elim
def LoopMono (V : Env) : Prop := ∀ id L, look id V.loops = some L → ∀ S (K K' : Ex → St → Prop), (∀ e S, K e S → K' e S) → L S K → L S K'
theorem inB_mono {id : Nat} {K K' : Ex → St → Prop} (hm : ∀ e S, K e S → K' e S) : ∀ e S, inB id K e S → inB id K' e S := fun e S h => by
  cases e with
  | normal => exact hm _ _ h
  | ret => exact hm _ _ h
  | exit j =>
    simp only [inB] at h ⊢
    split at h
    · rename_i hj; rw [if_pos hj]; exact hm _ _ h
    · rename_i hj; rw [if_neg hj]; exact hm _ _ h
theorem evC_mono (hl : LoopMono V) : ∀ (c : Code) {S : St} {K K' : Ex → St → Prop}, evC V c S K → (∀ e S, K e S → K' e S) → evC V c S K'
  | .skip, _, _, _, h, hm => hm _ _ h
  | .label _, _, _, _, h, hm => hm _ _ h
  | .exit _, _, _, _, h, hm => hm _ _ h
  | .ret, _, _, _, h, hm => hm _ _ h
  | .region id ops d, _, _, _, h, hm => by
    cases d with
    | false => exact evOps_mono h fun S hS => by rw [forceS_eq] at hS ⊢; exact hm _ S hS
    | true => exact evR_mono h fun S hS => by rw [forceS_eq] at hS ⊢; exact hm _ S hS
  | .seq x y, S, K, K', h, hm => by
    refine evC_mono hl x (K := fun e S' => match e with
      | .normal => evC V y S' K
      | .exit j => K (.exit j) S'
      | .ret => K .ret S') h fun e S' hk => ?_
    cases e with
    | normal => exact evC_mono hl y hk hm
    | exit j => exact hm _ _ hk
    | ret => exact hm _ _ hk
  | .cond c x y, S, K, K', h, hm => by
    simp only [evC] at h ⊢
    split at h
    · split at h
      · rename_i t _ ht; rw [if_pos ht]; exact evC_mono hl x h hm
      · rename_i t _ ht; rw [if_neg ht]; exact evC_mono hl y h hm
    · exact h.elim
  | .block id c, S, K, K', h, hm => by
    simp only [evC] at h ⊢
    split at h
    · rename_i L hL; exact hl id L hL _ _ _ hm h
    · exact evC_mono hl c h (inB_mono hm)
  | .loop b, _, _, _, h, _ => h.elim
  | .goto l, _, _, _, h, _ => h.elim
theorem LoopD.mono {σ ρ η : Type} (l : LoopD σ ρ η) (S : St) (K K' : Ex → St → Prop) (hm : ∀ e S, K e S → K' e S) (h : l.L S K) : l.L S K' := by
  obtain ⟨s, h1, h2, h3, h4⟩ := h
  exact ⟨s, h1, h2, fun r hr => hm _ _ (h3 r hr), fun r hr => hm _ _ (h4 r hr)⟩
theorem LoopMono.nil {V : Env} (h : V.loops = []) : LoopMono V := fun id L hL => by rw [h] at hL; simp [look] at hL
/-- Loops, one by one. -/
def LoopsM (l : List (Nat × (St → (Ex → St → Prop) → Prop))) : Prop := ∀ id L, look id l = some L → ∀ S (K K' : Ex → St → Prop), (∀ e S, K e S → K' e S) → L S K → L S K'
theorem LoopsM.nil : LoopsM [] := fun id L hL => by simp [look] at hL
theorem LoopsM.cons {σ ρ η : Type} (id : Nat) (l : LoopD σ ρ η) {r : List (Nat × (St → (Ex → St → Prop) → Prop))} (h : LoopsM r) : LoopsM ((id, l.L) :: r) := fun j L hL => by
  simp only [look] at hL
  split at hL
  · cases hL; exact l.mono
  · exact h j L hL
/-- A loop whose rounds are known. -/
theorem LoopD.ok {σ ρ η : Type} (l : LoopD σ ρ η) (hl : LoopMono V) (id : Nat) (b : Code) (inv : σ → Nat → σ → Prop) (hstart : ∀ s0, l.pre s0 → ∃ n, inv s0 n s0)
    (hround : ∀ s0, l.pre s0 → ∀ n s, inv s0 n s → evC V b ((l.st s).st l.n) (l.K id s0 (inv s0) n)) : ∀ S K, l.L S K → evLoop V b S (inB id K) := by
  rintro S K ⟨s0, hcut, hpre, hN, hR⟩
  obtain ⟨n0, hn0⟩ := hstart s0 hpre
  refine ⟨fun n S => ∃ s, S = (l.st s).st l.n ∧ inv s0 n s, n0, (l.st s0).st l.n, Le.keep hcut, ⟨s0, rfl, hn0⟩, ?_⟩
  rintro n S1 ⟨s, rfl, hi⟩
  refine evC_mono hl b (hround s0 hpre n s hi) fun e S' hk => ?_
  cases e with
  | normal =>
    obtain ⟨s', h1, m, hm, h2⟩ := hk
    exact ⟨m, (l.st s').st l.n, hm, Le.keep h1, s', rfl, h2⟩
  | exit j =>
    simp only [LoopD.K] at hk
    split at hk
    · rename_i hj
      obtain ⟨r, h1, h2⟩ := hk
      exact ⟨(l.nst r).st l.n, Le.keep h1, by simp only [inB]; rw [if_pos hj]; exact hN r h2⟩
    · exact hk.elim
  | ret =>
    obtain ⟨r, h1, h2⟩ := hk
    exact ⟨(l.rst r).st l.n, Le.keep h1, hR r h2⟩
theorem LoopD.ok2 {σ ρ η : Type} (l : LoopD σ ρ η) (hl : LoopMono V) (id : Nat) (b : Code) (inv : σ → Nat → σ → Prop) (hstart : ∀ s0, l.pre s0 → ∃ n, inv s0 n s0)
    (hround : ∀ s0, l.pre s0 → ∀ n s, inv s0 n s → ∃ p : Prop, evC V b ((l.st s).st l.n) (l.K id s0 (inv s0) n) = p ∧ p) : ∀ S K, l.L S K → evLoop V b S (inB id K) :=
  l.ok hl id b inv hstart fun s0 hp n s hi => by
    obtain ⟨p, h1, h2⟩ := hround s0 hp n s hi
    rw [h1]; exact h2
end
end Go.Proofs.YtlapeiijghebjaaE

/- Plain numbers and bytes: no program in sight. Conditions: none. -/
set_option linter.unusedVariables false
namespace Go.Proofs.YtlapeiijghebjaaE
open Go
theorem iteI {c : Prop} [Decidable c] {a b : Prop} (h1 : c → a) (h2 : ¬ c → b) : if c then a else b := by split <;> rename_i h <;> first | exact h1 h | exact h2 h
def rd (l : List Int) (i : Int) : Int := l.getD i.toNat 0
theorem take_at (k : RK) (l : List k.El) (i : Nat) (h : i < l.length) : l.take (i + 1) = l.take i ++ [k.at l i] := by
  rw [List.take_succ_eq_append_getElem h]; congr 2
  show _ = l.getD i k.z
  rw [List.getD_eq_getElem?_getD, List.getElem?_eq_getElem h]; rfl
theorem at_mem (k : RK) (l : List k.El) (i : Nat) (h : i < l.length) : k.at l i ∈ l := by
  have : k.at l i = l[i] := by
    show l.getD i k.z = _
    rw [List.getD_eq_getElem?_getD, List.getElem?_eq_getElem h]; rfl
  rw [this]; exact List.getElem_mem h
theorem wr {x : Int} (h1 : -9223372036854775808 ≤ x) (h2 : x ≤ 9223372036854775807) : IntKind.i64.wrap x = x := by rw [IntKind.wrap_i64]; omega
theorem wr8m (x : Int) : IntKind.u8.wrap x = x % 256 := by rw [IntKind.wrap_u8]
theorem wr8 {x : Int} (h1 : 0 ≤ x) (h2 : x ≤ 255) : IntKind.u8.wrap x = x := by rw [wr8m]; omega
/-! ### numbers -/
theorem xor64 (a b : Nat) (ha : a < 2 ^ 62) (hb : b < 2 ^ 62) : Go.bits .xor .i64 (a : Int) (b : Int) = ((a ^^^ b : Nat) : Int) := by
  have h := Nat.xor_lt_two_pow ha hb
  simp only [Go.bits, BitVec.ofInt_natCast, BitVec.toNat_xor, BitVec.toNat_ofNat]
  rw [Nat.mod_eq_of_lt (Nat.lt_trans ha (by decide)), Nat.mod_eq_of_lt (Nat.lt_trans hb (by decide)), IntKind.wrap_i64]
  omega
theorem xor8 (a b : Nat) (ha : a < 2 ^ 8) (hb : b < 2 ^ 8) : Go.bits .xor .u8 (a : Int) (b : Int) = ((a ^^^ b : Nat) : Int) := by
  have h := Nat.xor_lt_two_pow ha hb
  simp only [Go.bits, BitVec.ofInt_natCast, BitVec.toNat_xor, BitVec.toNat_ofNat]
  rw [Nat.mod_eq_of_lt (Nat.lt_of_lt_of_le ha (by decide)), Nat.mod_eq_of_lt (Nat.lt_of_lt_of_le hb (by decide)), IntKind.wrap_u8]
  omega
theorem and1 (a : Nat) (ha : a < 2 ^ 62) : Go.bits .and .i64 (a : Int) 1 = ((a % 2 : Nat) : Int) := by
  have h1 : (1 : Int) = ((1 : Nat) : Int) := rfl
  simp only [Go.bits]
  rw [h1]
  simp only [BitVec.ofInt_natCast, BitVec.toNat_and, BitVec.toNat_ofNat]
  rw [Nat.mod_eq_of_lt (Nat.lt_trans ha (by decide)), Nat.mod_eq_of_lt (by decide : 1 < 2 ^ IntKind.i64.bits), Nat.and_one_is_mod, IntKind.wrap_i64]
  omega
def Bytes (l : List Int) : Prop := ∀ x ∈ l, 0 ≤ x ∧ x ≤ 255
theorem Bytes.nil : Bytes [] := fun x h => by simp at h
theorem Bytes.cons {a : Int} {l : List Int} (h1 : 0 ≤ a) (h2 : a ≤ 255) (h : Bytes l) : Bytes (a :: l) := fun x hx => by
  rcases List.mem_cons.1 hx with rfl | hx
  · exact ⟨h1, h2⟩
  · exact h x hx
theorem Bytes.append {l m : List Int} (h : Bytes l) (k : Bytes m) : Bytes (l ++ m) := fun x hx => by
  rcases List.mem_append.1 hx with hx | hx
  · exact h x hx
  · exact k x hx
theorem Bytes.snoc {a : Int} {l : List Int} (h1 : 0 ≤ a) (h2 : a ≤ 255) (h : Bytes l) : Bytes (l ++ [a]) := h.append (.cons h1 h2 .nil)
theorem Bytes.take {l : List Int} (h : Bytes l) (n : Nat) : Bytes (l.take n) := fun x hx => h x (List.mem_of_mem_take hx)
theorem Bytes.drop {l : List Int} (h : Bytes l) (n : Nat) : Bytes (l.drop n) := fun x hx => h x (List.mem_of_mem_drop hx)
theorem Bytes.set {l : List Int} (h : Bytes l) (n : Nat) {a : Int} (h1 : 0 ≤ a) (h2 : a ≤ 255) : Bytes (l.set n a) := fun x hx => by
  rcases List.mem_or_eq_of_mem_set hx with hx | rfl
  · exact h x hx
  · exact ⟨h1, h2⟩
theorem Bytes.at_ {l : List Int} (h : Bytes l) (i : Int) : 0 ≤ rd l i ∧ rd l i ≤ 255 := by
  unfold rd
  rw [List.getD_eq_getElem?_getD]
  by_cases hi : i.toNat < l.length
  · rw [List.getElem?_eq_getElem hi]
    exact h _ (List.getElem_mem hi)
  · rw [List.getElem?_eq_none (by omega)]
    exact ⟨by simp, by simp⟩
theorem Bytes.of_wf {l : List Int} (h : ∀ x ∈ l, (Lit.int .u8 x).wf = true) : Bytes l := fun x hx => by
  have := h x hx
  simp only [Lit.wf, IntKind.min, IntKind.max, IntKind.signed, IntKind.bits, Bool.and_eq_true, decide_eq_true_eq] at this
  simp at this
  omega
/-! ### sums: sh1 bit, eight bits, a byte, bytes -/
def sh1 (x : Nat) : Nat := if x % 2 = 1 then (x / 2) ^^^ 40961 else x / 2
def ones : Nat → Nat → Nat
  | 0, x => x
  | n + 1, x => ones n (sh1 x)
def stp (s b : Nat) : Nat := ones 8 (s ^^^ b)
def crc (s : Nat) (l : List Int) : Nat := l.foldl (fun s b => stp s b.toNat) s
theorem div_xor (a b : Nat) : (a ^^^ b) / 2 = a / 2 ^^^ b / 2 := by
  have := Nat.shiftRight_xor_distrib (a := a) (b := b) (i := 1)
  simpa [Nat.shiftRight_eq_div_pow] using this
theorem mod_xor (a b : Nat) : (a ^^^ b) % 2 = (a % 2 + b % 2) % 2 := by
  have h := Nat.testBit_xor (x := a) (y := b) (i := 0)
  simp only [Nat.testBit_zero] at h
  rcases Nat.mod_two_eq_zero_or_one a with h1 | h1 <;> rcases Nat.mod_two_eq_zero_or_one b with h2 | h2 <;> rcases Nat.mod_two_eq_zero_or_one (a ^^^ b) with h3 | h3 <;> simp_all
theorem one_lt {x : Nat} (h : x < 2 ^ 16) : sh1 x < 2 ^ 16 := by
  unfold sh1
  split
  · exact Nat.xor_lt_two_pow (by omega) (by decide)
  · omega
theorem ones_lt (n : Nat) : ∀ {x : Nat}, x < 2 ^ 16 → ones n x < 2 ^ 16 := by
  induction n with
  | zero => exact fun h => h
  | succ n ih => exact fun h => ih (one_lt h)
theorem stp_lt {s b : Nat} (h : s < 2 ^ 16) (hb : b < 2 ^ 16) : stp s b < 2 ^ 16 := ones_lt 8 (Nat.xor_lt_two_pow h hb)
theorem one_xor (x y : Nat) : sh1 (x ^^^ y) = sh1 x ^^^ sh1 y := by
  unfold sh1
  rw [mod_xor, div_xor]
  rcases Nat.mod_two_eq_zero_or_one x with hx | hx <;> rcases Nat.mod_two_eq_zero_or_one y with hy | hy <;> rw [hx, hy]
  · simp
  · simp [Nat.xor_assoc]
  · simp only [show (1 + 0) % 2 = 1 by decide, show ¬ (0 = 1) by decide, if_true, if_false]
    rw [Nat.xor_assoc, Nat.xor_assoc, Nat.xor_comm (y / 2)]
  · simp only [show (1 + 1) % 2 ≠ 1 by decide, if_true, if_false]
    rw [Nat.xor_assoc, ← Nat.xor_assoc 40961, Nat.xor_comm 40961 (y / 2), Nat.xor_assoc (y / 2), Nat.xor_self, Nat.xor_zero]
theorem ones_xor (n : Nat) : ∀ (x y : Nat), ones n (x ^^^ y) = ones n x ^^^ ones n y := by
  induction n with
  | zero => exact fun _ _ => rfl
  | succ n ih => intro x y; rw [ones, one_xor, ih]; rfl
theorem one_zero {x : Nat} (hx : x < 2 ^ 16) (h : sh1 x = 0) : x = 0 := by
  unfold sh1 at h
  split at h
  · have h2 : x / 2 = 40961 := by
      have := congrArg (fun z => z ^^^ 40961) h
      simpa [Nat.xor_assoc] using this
    omega
  · omega
theorem ones_zero (n : Nat) : ∀ {x : Nat}, x < 2 ^ 16 → ones n x = 0 → x = 0 := by
  induction n with
  | zero => exact fun _ h => h
  | succ n ih => exact fun hx h => one_zero hx (ih (one_lt hx) h)
theorem ones_at_zero (n : Nat) : ones n 0 = 0 := by
  induction n with
  | zero => rfl
  | succ n ih => rw [ones]; exact ih
theorem xor_eq_zero' {a b : Nat} (h : a ^^^ b = 0) : a = b := by
  have := congrArg (fun z => z ^^^ b) h
  simpa [Nat.xor_assoc] using this
theorem ones_inj (n : Nat) {x y : Nat} (hx : x < 2 ^ 16) (hy : y < 2 ^ 16) (h : ones n x = ones n y) : x = y := by
  apply xor_eq_zero'
  apply ones_zero n (Nat.xor_lt_two_pow hx hy)
  rw [ones_xor, h, Nat.xor_self]
theorem xor_left_inj' {a b c : Nat} (h : a ^^^ b = a ^^^ c) : b = c := by
  have := congrArg (fun z => a ^^^ z) h
  simpa [← Nat.xor_assoc] using this
theorem xor_right_inj' {a b c : Nat} (h : b ^^^ a = c ^^^ a) : b = c := by
  rw [Nat.xor_comm b, Nat.xor_comm c] at h
  exact xor_left_inj' h
theorem stp_inj_byte {s b c : Nat} (hs : s < 2 ^ 16) (hb : b < 2 ^ 16) (hc : c < 2 ^ 16) (h : stp s b = stp s c) : b = c :=
  xor_left_inj' (ones_inj 8 (Nat.xor_lt_two_pow hs hb) (Nat.xor_lt_two_pow hs hc) h)
theorem stp_inj_sum {s t b : Nat} (hs : s < 2 ^ 16) (ht : t < 2 ^ 16) (hb : b < 2 ^ 16) (h : stp s b = stp t b) : s = t :=
  xor_right_inj' (ones_inj 8 (Nat.xor_lt_two_pow hs hb) (Nat.xor_lt_two_pow ht hb) h)
theorem byte_lt {x : Int} (h : 0 ≤ x ∧ x ≤ 255) : x.toNat < 2 ^ 16 := by omega
theorem crc_lt {l : List Int} (hl : Bytes l) : ∀ {s : Nat}, s < 2 ^ 16 → crc s l < 2 ^ 16 := by
  induction l with
  | nil => exact fun h => h
  | cons a l ih =>
    intro s hs
    exact ih (fun x hx => hl x (List.mem_cons_of_mem _ hx)) (stp_lt hs (byte_lt (hl a List.mem_cons_self)))
theorem crc_append (s : Nat) (l m : List Int) : crc s (l ++ m) = crc (crc s l) m := by simp [crc, List.foldl_append]
theorem crc_cons (s : Nat) (a : Int) (l : List Int) : crc s (a :: l) = crc (stp s a.toNat) l := rfl
/-- What follows tells two sums apart. -/
theorem crc_inj {l : List Int} (hl : Bytes l) : ∀ {s t : Nat}, s < 2 ^ 16 → t < 2 ^ 16 → crc s l = crc t l → s = t := by
  induction l with
  | nil => exact fun _ _ h => h
  | cons a l ih =>
    intro s t hs ht h
    have hb := byte_lt (hl a List.mem_cons_self)
    exact stp_inj_sum hs ht hb (ih (fun x hx => hl x (List.mem_cons_of_mem _ hx)) (stp_lt hs hb) (stp_lt ht hb) h)
/-- A sum's lower byte behind it leaves its higher sh1. -/
theorem ones_shift (n : Nat) : ∀ (q : Nat), ones n (2 ^ n * q) = q := by
  induction n with
  | zero => intro q; simp [ones]
  | succ n ih =>
    intro q
    rw [ones]
    have h : sh1 (2 ^ (n + 1) * q) = 2 ^ n * q := by
      have e : 2 ^ (n + 1) * q = 2 * (2 ^ n * q) := by rw [Nat.pow_succ, Nat.mul_comm (2 ^ n) 2, Nat.mul_assoc]
      rw [e]
      unfold sh1
      rw [if_neg (by omega)]
      omega
    rw [h, ih]
theorem low_xor (s : Nat) : s ^^^ s % 256 = 256 * (s / 256) := by
  have h1 : s = 256 * (s / 256) + s % 256 := by omega
  have h2 : 256 * (s / 256) + s % 256 = 256 * (s / 256) ||| s % 256 := by
    have := Nat.two_pow_add_eq_or_of_lt (i := 8) (b := s % 256) (by omega) (s / 256)
    simpa using this
  apply Nat.eq_of_testBit_eq
  intro i
  rw [Nat.testBit_xor]
  have h3 : (256 * (s / 256)).testBit i = (decide (8 ≤ i) && (s / 256).testBit (i - 8)) := by
    have := Nat.testBit_two_pow_mul (i := 8) (a := s / 256) (j := i)
    simpa using this
  have h4 : (s % 256).testBit i = (decide (i < 8) && s.testBit i) := by
    have := Nat.testBit_mod_two_pow s 8 i
    simpa using this
  have h5 : (s / 256).testBit (i - 8) = s.testBit (8 + (i - 8)) := by
    have := Nat.testBit_div_two_pow (n := 8) s (i - 8)
    simpa [Nat.add_comm] using this
  rw [h3, h4, h5]
  by_cases hi : i < 8
  · simp [hi, show ¬ 8 ≤ i by omega]
  · simp [hi, show 8 ≤ i by omega, show 8 + (i - 8) = i by omega]
theorem stp_low (s : Nat) : stp s (s % 256) = s / 256 := by
  unfold stp
  rw [low_xor]
  exact ones_shift 8 _
theorem stp_self (s : Nat) : stp s s = 0 := by
  unfold stp
  rw [Nat.xor_self]
  exact ones_at_zero 8
/-- Bytes with their sum behind have the sum 0. -/
theorem crc_put (s : Nat) : stp (stp s (s % 256)) (s / 256) = 0 := by rw [stp_low, stp_self]
/-- Two bytes behind sh1 another, from two sums. -/
theorem stp_xor (s t b c : Nat) : stp (s ^^^ t) (b ^^^ c) = stp s b ^^^ stp t c := by
  unfold stp
  rw [← ones_xor]
  congr 1
  rw [Nat.xor_assoc, Nat.xor_assoc]
  congr 1
  rw [← Nat.xor_assoc, Nat.xor_comm t b, Nat.xor_assoc]
theorem two_stps {a b : Nat} (ha : a < 256) (hb : b < 256) (h : stp (stp 0 a) b = 0) : a = 0 ∧ b = 0 := by
  have h1 : stp (stp 0 a) b = ones 8 (ones 8 (a ^^^ 256 * b)) := by
    unfold stp
    rw [ones_xor 8 a, Nat.zero_xor]
    congr 1
    have := ones_shift 8 b
    rw [show 2 ^ 8 = 256 by decide] at this
    rw [this]
  rw [h1] at h
  have h256 : 256 * b < 2 ^ 16 := by omega
  have hlt : a ^^^ 256 * b < 2 ^ 16 := Nat.xor_lt_two_pow (by omega) h256
  have h2 := xor_eq_zero' (ones_zero 8 hlt (ones_zero 8 (ones_lt 8 hlt) h))
  omega
end Go.Proofs.YtlapeiijghebjaaE

/- The program's functions as plain functions: frames, pieces, who hears, what one wants. Conditions: none. -/
set_option linter.unusedVariables false
namespace Go.Proofs.YtlapeiijghebjaaE
open Go
/-! ### what one wants -/
def CfgP (c : Cfg) : Prop := 1 ≤ c.mode ∧ c.mode ≤ 2 ∧ 1 ≤ c.win ∧ c.win ≤ 4 ∧ 1 ≤ c.mps ∧ c.mps ≤ 8 ∧ 1 ≤ c.mtu ∧ c.mtu ≤ 24 ∧ 1 ≤ c.try_ ∧ c.try_ ≤ 5
instance (c : Cfg) : Decidable (CfgP c) := by unfold CfgP; infer_instance
/-! ### frames -/
def SegP (seg len n : Int) : Prop := (seg = 0 ∧ n ≤ 8 ∧ len = n) ∨ (seg = 1 ∧ 1 ≤ n ∧ n ≤ 8 ∧ n + 1 ≤ len ∧ len ≤ 24) ∨ ((seg = 2 ∨ seg = 3) ∧ 1 ≤ n ∧ n ≤ 8 ∧ len = 0)
instance (seg len n : Int) : Decidable (SegP seg len n) := by unfold SegP; infer_instance
def FrmP (f : Frm) : Prop :=
  (f.kind = 1 ∧ (0 ≤ f.seq ∧ f.seq ≤ 7) ∧ (0 ≤ f.ack ∧ f.ack ≤ 7) ∧ f.poll = false ∧ f.say = 0 ∧ SegP f.seg f.len f.data.length) ∨
  (f.kind = 2 ∧ f.seq = 0 ∧ (0 ≤ f.ack ∧ f.ack ≤ 7) ∧ (f.poll && f.final) = false ∧ (0 ≤ f.say ∧ f.say ≤ 2) ∧ f.seg = 0 ∧ f.len = 0 ∧ f.data.length = 0) ∨
  (f.kind = 3 ∧ f.seq = 0 ∧ f.ack = 0 ∧ f.poll = false ∧ f.final = false ∧ f.say = 0 ∧ SegP f.seg f.len f.data.length) ∨
  (f.kind = 4 ∧ f.seq = 0 ∧ f.ack = 0 ∧ f.poll = false ∧ f.final = false ∧ f.say = 0 ∧ f.seg = 0 ∧ (1 ≤ f.len ∧ f.len ≤ 255) ∧ f.data.length = 0)
instance (f : Frm) : Decidable (FrmP f) := by unfold FrmP; infer_instance
def bit (b : Bool) : Int := if b = true then 1 else 0
def zFrm : Frm := ⟨0, 0, 0, false, false, 0, 0, 0, []⟩
def crcPut (l : List Int) : List Int := l ++ [((crc 0 l % 256 : Nat) : Int), ((crc 0 l / 256 : Nat) : Int)]
/-- Has it its sum? -/
def CutP (l : List Int) : Prop := 2 ≤ l.length ∧ ((crc 0 (l.take (l.length - 2)) : Nat) : Int) = rd l (l.length - 2) + rd l (l.length - 1) * 256
instance (l : List Int) : Decidable (CutP l) := by unfold CutP; infer_instance
def crcCut (l : List Int) : List Int := if CutP l then l.take (l.length - 2) else []
def frmHead (f : Frm) : List Int := [f.kind, f.seq * 16 + f.ack, bit f.poll + 2 * bit f.final + 4 * f.say + 16 * f.seg, f.len, f.data.length]
def frmBytes (f : Frm) : List Int := if FrmP f then crcPut (frmHead f ++ f.data) else []
def frmOf (b : List Int) : Frm := ⟨rd b 0, rd b 1 / 16, rd b 1 % 16, rd b 2 % 2 == 1, rd b 2 / 2 % 2 == 1, rd b 2 / 4 % 4, rd b 2 / 16, rd b 3, b.drop 5⟩
/-- Is it a frame's bytes? -/
def ReadP (l : List Int) : Prop := CutP l ∧ 5 ≤ (crcCut l).length ∧ rd (crcCut l) 4 = (crcCut l).length - 5 ∧ FrmP (frmOf (crcCut l))
instance (l : List Int) : Decidable (ReadP l) := by unfold ReadP; infer_instance
def frmRead (l : List Int) : Frm := if ReadP l then frmOf (crcCut l) else zFrm
/-! ### pieces -/
def PartP (p : Part) : Prop := SegP p.seg p.len p.data.length
instance (p : Part) : Decidable (PartP p) := by unfold PartP; infer_instance
def JoinP (j : JoinS) : Prop := (j.len = 0 ∧ j.got.length = 0) ∨ (2 ≤ j.len ∧ j.len ≤ 24 ∧ 1 ≤ j.got.length ∧ (j.got.length : Int) ≤ j.len - 1)
instance (j : JoinS) : Decidable (JoinP j) := by unfold JoinP; infer_instance
def zJoin : JoinS := ⟨0, []⟩
/-- What comes of a piece: what has come, the message, how. -/
structure PutR where
  j : JoinS
  sdu : List Int
  how : Int
def segPut (j : JoinS) (p : Part) : PutR :=
  if p.seg = 0 then (if j.len = 0 then ⟨zJoin, j.got ++ p.data, 2⟩ else ⟨zJoin, [], 3⟩)
  else if p.seg = 1 then (if j.len = 0 then ⟨⟨p.len, j.got ++ p.data⟩, [], 1⟩ else ⟨zJoin, [], 3⟩)
  else if p.seg = 2 then (if j.len ≠ 0 ∧ ((j.got ++ p.data).length : Int) < j.len then ⟨⟨j.len, j.got ++ p.data⟩, [], 1⟩ else ⟨zJoin, [], 3⟩)
  else (if j.len ≠ 0 ∧ ((j.got ++ p.data).length : Int) = j.len then ⟨zJoin, j.got ++ p.data, 2⟩ else ⟨zJoin, [], 3⟩)
/-! ### who hears -/
def RxP (r : RxS) : Prop := (0 ≤ r.expect ∧ r.expect ≤ 7) ∧ (0 ≤ r.count ∧ r.count ≤ 9999) ∧ r.count % 8 = r.expect ∧ JoinP r.join
instance (r : RxS) : Decidable (RxP r) := by unfold RxP; infer_instance
def zRx : RxS := ⟨0, 0, zJoin, false, false, false⟩
def sayF (r : RxS) (what : Int) (final : Bool) : Frm := ⟨2, 0, r.expect, false, final, what, 0, 0, []⟩
def goWait (b : Bool) : Int := if b = true then 2 else 0
structure HearR where
  r : RxS
  sdus : List (List Int)
  says : List Frm
def rxTake (c : Cfg) (r : RxS) (f : Frm) : HearR :=
  if f.len > c.mtu ∨ (f.data.length : Int) > c.mps ∨ r.count = 9999 then ⟨{ r with dead := true }, [], []⟩ else
  let q := segPut r.join ⟨f.seg, f.len, f.data⟩
  if q.how = 3 then ⟨{ r with join := q.j, dead := true }, [], []⟩ else
  ⟨{ r with join := q.j, expect := (r.expect + 1) % 8, count := r.count + 1, again := false }, if q.how = 2 then [q.sdu] else [], []⟩
def rxData (c : Cfg) (r : RxS) (f : Frm) : HearR :=
  if r.busy = true then ⟨r, [], [sayF r 2 false]⟩ else
  if f.seq = r.expect then rxTake c r f else
  if (f.seq - r.expect + 8) % 8 < c.win ∧ r.again = false then ⟨{ r with again := true }, [], [sayF r 1 false]⟩ else ⟨r, [], []⟩
def rxHear1 (c : Cfg) (r : RxS) (f : Frm) : HearR :=
  if r.dead = true then ⟨r, [], []⟩ else
  if f.kind = 1 then rxData c r f else
  if f.poll = true then ⟨{ r with again := false }, [], [sayF r (goWait r.busy) true]⟩ else ⟨r, [], []⟩
def RxIn (c : Cfg) (r : RxS) (f : Frm) : Prop := CfgP c ∧ RxP r ∧ FrmP f ∧ (f.kind = 1 ∨ f.kind = 2)
instance (c : Cfg) (r : RxS) (f : Frm) : Decidable (RxIn c r f) := by unfold RxIn; infer_instance
def rxHear (c : Cfg) (r : RxS) (f : Frm) : HearR := if RxIn c r f then rxHear1 c r f else ⟨zRx, [], []⟩
structure BusyR where
  r : RxS
  says : List Frm
def rxBusy (r : RxS) (b : Bool) : BusyR :=
  if RxP r then (if r.busy = b ∨ r.dead = true then ⟨r, []⟩ else ⟨{ r with busy := b, again := false }, [sayF r (goWait b) false]⟩) else ⟨zRx, []⟩
def rxAck (r : RxS) : Frm := if RxP r then sayF r (goWait r.busy) false else zFrm
/-! ### who grants credits -/
def CrP (r : CrS) : Prop := (0 ≤ r.out ∧ r.out ≤ 255) ∧ JoinP r.join
instance (r : CrS) : Decidable (CrP r) := by unfold CrP; infer_instance
def zCr : CrS := ⟨0, zJoin, false⟩
structure GrantR where
  r : CrS
  f : Frm
  ok : Bool
def crdGrant (r : CrS) : GrantR :=
  if CrP r then (if r.dead = true ∨ 6 ≤ r.out then ⟨r, zFrm, false⟩ else ⟨{ r with out := 6 }, ⟨4, 0, 0, false, false, 0, 0, 6 - r.out, []⟩, true⟩) else ⟨zCr, zFrm, false⟩
structure CrHearR where
  r : CrS
  sdus : List (List Int)
def crdHear1 (c : Cfg) (r : CrS) (f : Frm) : CrHearR :=
  if r.dead = true then ⟨r, []⟩ else
  if r.out = 0 ∨ f.len > c.mtu ∨ (f.data.length : Int) > c.mps then ⟨{ r with dead := true }, []⟩ else
  let q := segPut r.join ⟨f.seg, f.len, f.data⟩
  ⟨⟨r.out - 1, q.j, if q.how = 3 then true else r.dead⟩, if q.how = 2 then [q.sdu] else []⟩
def CrIn (c : Cfg) (r : CrS) (f : Frm) : Prop := CfgP c ∧ CrP r ∧ FrmP f ∧ f.kind = 3
instance (c : Cfg) (r : CrS) (f : Frm) : Decidable (CrIn c r f) := by unfold CrIn; infer_instance
def crdHear (c : Cfg) (r : CrS) (f : Frm) : CrHearR := if CrIn c r f then crdHear1 c r f else ⟨zCr, []⟩
end Go.Proofs.YtlapeiijghebjaaE

/- A law of bytes: out of its contract. Conditions: none. -/
set_option linter.unusedVariables false
namespace Go.Proofs.YtlapeiijghebjaaE
open Go Go.RowKit
/-- A row of bytes as a claim reads it. -/
def IsRow (w : World) (a : Option Addr) (len cap : Nat) (zs : List Int) : Prop :=
  (a = none ∧ len = 0 ∧ cap = 0 ∧ zs = []) ∨
  ∃ x, a = some x ∧ len ≤ cap ∧ cap ≤ maxLen ∧ zs.length = cap ∧ (∀ i, i < zs.length → w.cell? (x.add i) = some (.int .u8 (zs.getD i 0))) ∧ ∀ n ∈ zs, (Lit.int .u8 n).wf = true
theorem spot_none {w : World} {x : Addr} {v : Value} (h : w.cell? x = some v) : x.spot = none := by
  unfold World.cell? at h
  split at h
  · split at h
    · simp at h
    · rename_i hs; simpa using hs
  · simp at h
theorem flat_u8 : ∀ l : List RK.u8.El, flat .u8 l = l.map (fun x => D.i .u8 x)
  | [] => rfl
  | x :: l => by
    have h := flat_u8 l
    show RK.cells .u8 x ++ flat .u8 l = _
    rw [h]; rfl
theorem map_getD (f : Int → D) (l : List Int) (j : Nat) (h : j < l.length) : (l.map f).getD j (.b false) = f (l.getD j 0) := by
  rw [List.getD_eq_getElem?_getD, List.getElem?_map, List.getD_eq_getElem?_getD, List.getElem?_eq_getElem h]; rfl
theorem take_getD (l : List Int) (n j : Nat) (h : j < n) : l.getD j 0 = (l.take n).getD j 0 := by
  rw [List.getD_eq_getElem?_getD, List.getD_eq_getElem?_getD, List.getElem?_take_of_lt h]
theorem rd_bytes {w : World} {F : Nat → Prop} (l : List RK.u8.El) (n : Nat) {g off cap : Nat} (hg : F g) (hn : l.length = n) (h0 : n ≤ cap) (hc : ∀ j, j < n → w.cell? ⟨g, off + j, none⟩ = some (.int .u8 (l.getD j (0 : Int)))) :
    Rd w F (.slice (some ⟨g, off, none⟩) n cap) (.r .u8 l) := by
  subst hn
  refine .row .u8 l g off cap (fun j => .int .u8 (l.getD j (0 : Int))) hg h0 (fun j hj => hc j (by simpa [RK.size] using hj)) fun j hj => ?_
  have hj' : j < l.length := by simpa [RK.size] using hj
  have e : (flat .u8 l).getD j (.b false) = .i .u8 (l.getD j (0 : Int)) := by
    rw [flat_u8]; exact map_getD _ l j hj'
  rw [e]; exact .i _ _
theorem IsRow.rd {w : World} {F : Nat → Prop} {a : Option Addr} {len cap : Nat} {zs : List Int} (h : IsRow w a len cap zs) (hF : ∀ x, a = some x → 0 < cap → F x.block) : ∀ l : List RK.u8.El, l = zs.take len → Rd w F (.slice a len cap) (.r .u8 l) := by
  intro l hl0
  rcases h with ⟨rfl, rfl, rfl, rfl⟩ | ⟨x, rfl, hl, hm, hz, hc, hw⟩
  · subst hl0; exact .nil _ _
  · by_cases h0 : cap = 0
    · have h1 : len = 0 := by omega
      subst h1; subst h0; subst hl0
      exact .nil _ _
    · have hx0 := hc 0 (by omega)
      have hs : x.spot = none := spot_none (w := w) (x := x) (by simpa [Addr.add] using hx0)
      obtain ⟨g, off, sp⟩ := x
      dsimp only at hs
      subst hs
      have hlen : (zs.take len).length = len := by rw [List.length_take]; omega
      subst hl0
      refine rd_bytes _ len (hF _ rfl (by omega)) hlen hl fun j hj => ?_
      have := hc j (by omega)
      rw [add_lit] at this
      rw [this]
      exact congrArg (fun z => some (Value.int .u8 z)) (take_getD zs len j hj)
theorem cell_lt {w : World} {x : Addr} {v : Value} (h : w.cell? x = some v) : x.block < w.heap.size := by
  unfold World.cell? at h
  split at h
  · rename_i c _ _ hb
    have := (Array.getElem?_eq_some_iff.1 hb).1
    exact this
  · simp at h
theorem IsRow.lt {w : World} {a : Option Addr} {len cap : Nat} {zs : List Int} (h : IsRow w a len cap zs) {x : Addr} (hx : a = some x) (hc : 0 < cap) : x.block < w.heap.size := by
  rcases h with ⟨rfl, rfl, rfl, rfl⟩ | ⟨y, rfl, hl, hm, hz, hcell, hw⟩
  · cases hx
  · cases hx
    exact cell_lt (w := w) (by simpa [Addr.add] using hcell 0 (by omega))
theorem IsRow.bytes {w : World} {a : Option Addr} {len cap : Nat} {zs : List Int} (h : IsRow w a len cap zs) : Bytes (zs.take len) := by
  rcases h with ⟨rfl, rfl, rfl, rfl⟩ | ⟨x, rfl, hl, hm, hz, hc, hw⟩
  · exact Bytes.nil.take _
  · exact (Bytes.of_wf hw).take _
theorem argR_d {w : World} {F : Nat → Prop} {v : Value} {x : D} (h : Rd w F v x) : ArgR w F v [] [] (.v false [.d x]) :=
  ⟨[v], rfl, h.cells, fun _ => rfl, ⟨[], [], ⟨h, rfl⟩, rfl, rfl⟩, rfl⟩
theorem argsR_nil (w : World) (F : Nat → Prop) : ArgsR w F [] [] [] [] := ⟨rfl, rfl⟩
theorem argsR_cons {w : World} {F : Nat → Prop} {v : Value} {vs : List Value} {x : Arg} {xs : List Arg} (h : ArgR w F v [] [] x) (k : ArgsR w F vs xs [] []) : ArgsR w F (v :: vs) (x :: xs) [] [] := ⟨[], [], [], [], h, k, rfl, rfl⟩
/-- A law that answers true, whatever it is handed as data. -/
theorem law_of {P : Program} {f : Nat} {c : Ent} (h : Valid P f c) (hcl : c.clo = none) {w : World} {vs : List Value} {ys : List Arg} (ha : ArgsR w (fun b => b < w.heap.size) vs ys [] []) (hF : ∀ K, K [aB true] [] → c.F ys K) :
    Calls P f vs.toArray w fun e w' => e = .returned (.bool true) ∧ Below w.heap.size w w' := by
  have e0 : vs = wrapV c.clo vs := by rw [hcl, wrapV_none]
  rw [e0]
  refine (h.2 w _ vs ys [] [] (fun rs bs => rs = [aB true] ∧ bs = []) ha List.nodup_nil (fun b hb => by cases hb) (fun b hb => hb) (hF _ ⟨rfl, rfl⟩)).mono ?_
  rintro e w' ⟨rv, rs, bs, F', B', hb', rfl, ⟨rfl, rfl⟩, hR, hlen, -, -, -, -, hk⟩
  refine ⟨?_, hk.os, hk.tape, hk.output, hk.size, fun b hb => hk.block b ⟨hb, by simp⟩⟩
  match rv, hlen, hR with
  | [v], _, hR =>
    obtain ⟨B1, B2, h1, h2, ⟨xs, q1, q2, q3, q4, -⟩, -⟩ := hR
    match xs, q3 rfl, q1, q4 with
    | [u], _, q1, ⟨C1, C2, ⟨hr, _⟩, _⟩ =>
      have := hr.bool
      subst this
      rw [q1]; rfl
end Go.Proofs.YtlapeiijghebjaaE
