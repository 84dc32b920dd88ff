/- A literal that is written to: a slice of the call's own; clear of one element. -/
import Derived.Test.YtlgfbiepbneihaaDF
namespace Go.Ab
open Go.RowKit
set_option linter.unusedVariables false
set_option linter.unusedSimpArgs false
set_option linter.unnecessarySimpa false
theorem buildS_run2 {P : Program} {t : TypeId} {len sz : Nat} {c : Cx} {h : List ABlk} {w : World} {l : List (Nat × AV)} {vs : Array (Nat × Value)} {rows : List (List PV)} (hl : l.length = vs.size)
    (hp : ∀ (k : Nat) (i : Nat) (x : AV), l[k]? = some (i, x) → ∃ v, vs[k]? = some (i, v) ∧ ARep c h w x v) (hb : buildS P t len l = some (.lst true sz rows)) (hlen0 : 0 < len) :
    ∃ (cs : Array Value) (e : TypeId), (Instr.buildSlice t len vs).run P w = .ok (.slice (some ⟨w.heap.size, 0, none⟩) len len) (w.alloc (.cells cs e)) ∧ cs.size = len * sz ∧ rows.length = len ∧
      (∀ (j : Nat) (row : List PV), rows[j]? = some row → row.length = sz) ∧
      ∀ (j : Nat) (row : List PV) (k : Nat) (q : PV), rows[j]? = some row → row[k]? = some q → ∃ u, cs[j * sz + k]? = some u ∧ u.oneCell' = true ∧ Rep c.ok w q u := by
  unfold buildS at hb
  split at hb
  · rename_i e sz' b hk
    obtain ⟨hu, hsz, hby⟩ := tk_slice hk
    split at hb
    · rename_i zs hz
      obtain ⟨zv, hzr, hzc⟩ := zro_rep hz c h w
      split at hb
      · rename_i hc
        obtain ⟨hzl, hpos, hlen, hsmall⟩ := hc
        split at hb
        · rename_i xs hf
          split at hb
          · rename_i ps hps
            split at hb
            · rename_i hpl
              injection hb with hb
              injection hb with _ hb1 hb2; subst hb1; subst hb2
              obtain ⟨ie, hie⟩ : ∃ i, P.info? e = some i := by
                cases hi : P.info? e with
                | none => simp [szOf, hi] at hsz; omega
                | some i => exact ⟨i, rfl⟩
              have hisz : ie.size = sz' := by rw [← hsz]; simp [szOf, hie]
              have hzero : ie.zero = some zv := by
                simp [zeroValue, typeInfo, hie] at hzr
                cases hq : ie.zero with
                | none => simp [hq] at hzr
                | some q => simp [hq] at hzr; rw [hzr]
              have hzs : zv.cells.size = sz' := by rw [hzc.1, hzl]
              have hcz : CRep c h w (repA zs len) ((Array.range (len * sz')).map (zv.cells[· % zv.cells.size]!)) := by
                refine ⟨by simp [repA_length, hzl], fun k x hk => ?_⟩
                have hkl : k < len * sz' := by have := (List.getElem?_eq_some_iff.1 hk).1; rw [repA_length, ← hzl] at this; exact this
                rw [repA_get zs (by omega) len k (by rw [← hzl]; exact hkl)] at hk
                obtain ⟨u, u1, u2, u3⟩ := hzc.2 _ x hk
                refine ⟨u, ?_, u2, u3⟩
                rw [hzc.1]
                simp only [Array.getElem?_map, Array.getElem?_range, hkl, if_true, Option.map_some]
                have hlt : k % zs.length < zv.cells.size := by rw [hzs, ← hzl]; exact Nat.mod_lt _ (by omega)
                rw [Array.getElem?_eq_getElem hlt] at u1
                injection u1 with u1
                rw [getElem!_pos zv.cells (k % zs.length) hlt, u1]
              obtain ⟨cs, f1, f2⟩ := fillA_run l vs.toList (repA zs len) xs _ (by simpa using hl) (fun k i x hk => by simpa using hp k i x hk) hcz hf
              obtain ⟨g1, g2⟩ := purL_get hps
              refine ⟨cs, e, run_buildSlice w t e len vs cs ie zv hu hie hzero (by rw [hisz]; omega) (by rw [hisz]; have := Nat.mul_pos hlen hpos; omega) (by rw [hisz]; exact f1), by rw [f2.1, g1, hpl], chunk_length _ _ _, fun j row hj => ?_, fun j row k q hj hkq => ?_⟩
              · obtain ⟨hjn, rfl⟩ := chunk_get sz' len ps j row hj
                have : (j + 1) * sz' ≤ len * sz' := Nat.mul_le_mul_right _ (by omega)
                rw [Nat.add_mul] at this
                simp; omega
              · obtain ⟨hjn, rfl⟩ := chunk_get sz' len ps j row hj
                have hk : k < sz' := by have := (List.getElem?_eq_some_iff.1 hkq).1; simp at this; omega
                rw [List.getElem?_take_of_lt hk, List.getElem?_drop] at hkq
                obtain ⟨x, hx, hpx⟩ := g2 _ q hkq
                obtain ⟨u, u1, u2, u3⟩ := f2.2 _ x hx
                exact ⟨u, u1, u2, u3.pur hpx⟩
            · cases hb
          · cases hb
        · cases hb
      · split at hb
        · rename_i h0; omega
        · cases hb
    · cases hb
  · cases hb
section
variable {P : Program} {z : Ini} {ops : Array Oper} {l : List Oper} {Q : Exit → St → Prop} {o : Oper} {t : List AV} {h : List ABlk} {T ty : TypeId} {x : Operand}
/-- A slice literal that is written to later. -/
theorem AWL.bvec {len sz : Nat} {parts : Array (Nat × Operand)} {rows : List (List PV)} {t1 : List AV} {h1 : List ABlk} (hw : wantB ops.toList t o.guard = some true) (ho : o.op = .buildSlice T len parts)
    (hb : buildS P T len (parts.toList.map fun p => (p.1, evO t p.2)) = some (.lst true sz rows)) (hl : 0 < len) (ht : putT t o.dst (.vs h.length 0 len) = t1) (hh : setx h h.length (.vec sz rows) = h1)
    (k : AWL P z ops l ⟨t1, h1⟩ Q) : AWL P z ops (o :: l) ⟨t, h⟩ Q :=
  .op2 hw (r := .vs h.length 0 len) (h' := h1) (fun c a w s => by
    subst hh
    obtain ⟨cs, e, r1, r2, r3, r4, r5⟩ := buildS_run2 (P := P) (vs := parts.map fun p => (p.1, a.eval p.2)) (c := c) (h := h) (w := w) (by simp) (fun k i x hk => by
      simp only [List.getElem?_map, Option.map_eq_some_iff] at hk
      obtain ⟨q, hq, e⟩ := hk
      injection e with e1 e2; subst e1; subst e2
      exact ⟨a.eval q.2, by simp [hq, Array.getElem?_map, ← Array.getElem?_toList], evO_rep s.ts q.2⟩) hb hl
    have hn : z.n ≤ h.length := s.m.ext.1
    have hu : unborn h h.length := .inl (List.getElem?_eq_none (Nat.le_refl _))
    have hB : BRep (c.born h.length w.heap.size (0, len)) (setx h h.length (.vec sz rows)) (w.alloc (.cells cs e)) h.length (.vec sz rows) := by
      refine ⟨by rw [Cx.born_vd]; simp; omega, fun j row hj => r4 j row hj, fun _ => ⟨_, e, by rw [Cx.born_mu]; exact heap_alloc_new _ _, by rw [Cx.born_vd, r2]; simp, fun j row k p hj hk => ?_⟩⟩
      obtain ⟨u, u1, u2, u3⟩ := r5 j row k p hj hk
      exact ⟨u, by rw [Cx.born_vd]; simpa using u1, u2, u3.mono (fun b hb => hb) (keep_alloc c.ok w _ s.m.hs.okb)⟩
    obtain ⟨L, M⟩ := s.m.born h.length hu hn (.vec sz rows) (0, len) (.cells cs e) hB
    unfold Yields
    have : (execOp a.eval o).run P w = .ok (.value (.slice (some ⟨w.heap.size, 0, none⟩) len len)) (w.alloc (.cells cs e)) := by simp [execOp, ho, r1]
    rw [this]
    refine ⟨_, L, M, .vs h.length 0 _ _ (.vec sz rows) rfl (setx_same _ _ _) (by intro h; cases h) fun sz' rows' e' => ?_⟩
    injection e' with e1 e2; subst e1; subst e2
    refine ⟨by omega, some ⟨w.heap.size, 0, none⟩, by rw [Cx.born_vd]; simp, fun _ => ?_⟩
    rw [Cx.born_mu, Cx.born_vd]
    simp) (by subst ht; exact k)
theorem storeCells_of {P : Program} {e : TypeId} {w w' : World} {a : Addr} {v : Value} (h : (Instr.storeAt e (.pointer (some a)) v).run P w = .ok () w') (h1 : szOf P e = 1) (hv : v.cells = #[v]) : (storeCells a [v]).run P w = .ok () w' := by
  have e1 : v.cells.size = 1 := by rw [hv]; rfl
  have h2 := szOf_run h1 (by omega) w
  simp only [Instr.storeAt, Instr.sureAddr, storeVar, Sem.run_bind, Sem.run_pure, Result.andThen_ok, h2, e1] at h
  simpa [hv] using h
theorem run_clear1 {P : Program} {w w' : World} {T e ty' : TypeId} {a : Addr} {zv u : Value} {cc : Nat} (hu : P.underlying T = some (.slice e)) (hz : (zeroValue e).run P w = .ok zv w) (hc : zv.cells = #[u]) (h : (storeCells a [u]).run P w = .ok () w') :
    (Builtin.clear_ #[T] ty' #[.slice (some a) 1 cc]).run P w = .ok (.tuple #[]) w' := by
  have e1 : (Builtin.zeroCells zv.cells 1).toList = [u] := by rw [hc]; simp [Builtin.zeroCells]
  simp [Builtin.clear_, run_underlying hu, hz, e1, h]
/-- clear(s) of one element that is a number. -/
theorem AWL.clr1 {e : TypeId} {by' i off : Nat} {k0 : IntKind} {rows : List (List PV)} {t1 : List AV} {h1 : List ABlk} (hw : wantB ops.toList t o.guard = some true) (ho : o.op = .call ⟨.builtin .clear, #[x], #[T]⟩)
    (hT : tk P T = .slice e 1 by') (hz : zro P e = some [.pv (.int k0 0)]) (hx : evO t x = .vs i off 1) (hi : h[i]? = some (.vec 1 rows)) (hr : rows[off]? ≠ none) (hr1 : ∀ row ∈ rows, row.length = 1)
    (ht : putT t o.dst .any = t1) (hh : setx h i (.vec 1 (rows.set off [.int k0 0])) = h1) (k : AWL P z ops l ⟨t1, h1⟩ Q) : AWL P z ops (o :: l) ⟨t, h⟩ Q :=
  .op2 hw (r := .any) (h' := h1) (fun c a w s => by
    subst hh
    obtain ⟨hu, hsz, _⟩ := tk_slice hT
    have hv := evO_rep s.ts x
    rw [hx] at hv
    generalize hval : a.eval x = vx at hv
    cases hv with
    | vs _ _ _ _ b hone hib hnb hvv =>
      rw [hi] at hib; injection hib with hib; subst hib
      obtain ⟨g1, A, g2, g3⟩ := hvv 1 rows rfl
      obtain ⟨b1, b2, b3⟩ := s.m.hs.blk i _ hi
      have hA := g3 (by omega)
      subst g2; subst hA
      obtain ⟨zv, z1, z2⟩ := zro_rep hz c h w
      obtain ⟨u, u1, u2, u3⟩ := z2.2 0 _ rfl
      have hu0 : u = .int k0 0 := by cases u3 with | pv _ _ hr => cases hr; rfl
      subst hu0
      have hzc : zv.cells = #[.int k0 0] := by
        have hs : zv.cells.size = 1 := z2.1
        apply Array.ext
        · rw [hs]; rfl
        · intro j j1 j2
          have : j = 0 := by omega
          subst this
          rw [Array.getElem?_eq_getElem j1] at u1
          injection u1
      obtain ⟨row, hrow⟩ := Option.ne_none_iff_exists'.1 hr
      have hlen := hr1 row (List.mem_of_getElem? hrow)
      have hst : storeA (szOf P e) h (.pv (.int k0 0)) (.ve i off 0) = some [(i, .vec 1 (rows.set off [.int k0 0]))] := by
        simp only [storeA, hi, acells, hrow, hsz, hlen]
        cases row with
        | nil => simp at hlen
        | cons q qs =>
          cases qs with
          | nil => simp [purL, pur, splice, hrow]
          | cons _ _ => simp at hlen
      obtain ⟨w', s1, s2, s3⟩ := storeA_run (P := P) (t := e) s.m (x := .ve i off 0) (va := .pointer (some ⟨c.mu i, (c.vd i).1 + off * 1 + 0, none⟩)) (y := .pv (.int k0 0)) (v := .int k0 0)
        (.ve i off 0 _ (.vec 1 rows) rfl hi (by intro h; cases h) (fun sz' rows' e' => by injection e' with e1 e2; subst e1; subst e2; rfl)) (.pv _ _ (.int _ _)) hst (by omega)
      have sc := storeCells_of s1 hsz rfl
      have rc := run_clear1 (T := T) (ty' := o.type) (cc := (c.vd i).2 - off) hu z1 hzc sc
      unfold Yields
      have : (execOp a.eval o).run P w = .ok (.value (.tuple #[])) w' := by
        simp only [Nat.add_zero, Nat.mul_one] at rc
        simp [execOp, ho, resolve, invoke, builtin, hval, rc]
      rw [this]
      exact ⟨c, s2, s3, .any _⟩) (by subst ht; exact k)
/-- A cut of a list that has nothing, of whatever width. -/
theorem AWL.cut0 {e : TypeId} {sz' by' s0 : Nat} {f : Bool} {lo hi : Option Operand} {t1 : List AV} (hw : wantB ops.toList t o.guard = some true) (ho : o.op = .slice T x lo hi none) (hT : tk P T = .slice e sz' by') (hp : 0 < sz') (hx : evO t x = .pv (.lst f s0 []))
    (h1 : bndA 0 (lo.map (evO t)) = some 0) (h2 : bndA 0 (hi.map (evO t)) = some 0) (ht : putT t o.dst (.pv (.lst f s0 [])) = t1) (k : AWL P z ops l ⟨t1, h⟩ Q) : AWL P z ops (o :: l) ⟨t, h⟩ Q :=
  .op2 hw (fun c a w s => by
    have hv := evO_rep s.ts x
    rw [hx] at hv
    obtain ⟨hu, hsz, _⟩ := tk_slice hT
    have ev : ∀ (m : Option Operand) (x : AV), m.map (evO t) = some x → ∃ v, m.map a.eval = some v ∧ ARep c h w x v := fun m x hm => by
      cases m with
      | none => cases hm
      | some y => injection hm with hm; subst hm; exact ⟨_, rfl, evO_rep s.ts y⟩
    have en : ∀ m : Option Operand, m.map (evO t) = none → m.map a.eval = none := fun m hm => by cases m <;> simp_all
    cases hv with
    | pv _ _ hr =>
      generalize hval : a.eval x = u at hr
      cases hr with
      | lst _ _ _ A cc us g1 g2 g3 g4 g5 g6 =>
        have hrun := bounds_run (P := P) (w := w) (c := c) (h := h) (isS := true) (len := 0) (cap := cc) (ev lo) (en lo) (ev hi) (en hi) h1 h2 ⟨by omega, by omega, by omega⟩ (by omega)
        simp only [Int.toNat_zero] at hrun
        refine .val s.m (v := .slice (if cc = 0 then A else A.map (·.add (0 * sz'))) 0 cc) ?_ (.pv _ _ (.lst f s0 [] _ cc (fun _ _ => undef) (fun j row hj => by simp at hj) (Nat.zero_le _) (fun hf => by simpa using g3 hf) (fun h0 => by simp at h0) (fun ad ea j row k p hj => by simp at hj) (fun j row k p hj => by simp at hj)))
        have : (Instr.sliceAt T (.slice A 0 cc) (lo.map a.eval) (hi.map a.eval) none).run P w = .ok (.slice (if cc = 0 then A else A.map (·.add (0 * sz'))) 0 cc) w := by
          simp [Instr.sliceAt, Instr.slice, run_underlying hu, hrun, szOf_run hsz hp]
        simp [execOp, ho, hval, this]) (by subst ht; exact k)
end
section
variable {P : Program} {z : Ini} {ops : List Oper}
/-- The first k operations of what is left. -/
theorem ARE.runK {K : List PE → RS → Prop} (k : Nat) : ∀ {i i' : Nat} {l : List Oper} {s s' : RS} {es es' : List PE}, runD P ops i (l.take k) s es = (i', [], s', es') → ARE P z ops i' (l.drop k) s' es' K → ARE P z ops i l s es K := by
  induction k with
  | zero =>
    intro i i' l s s' es es' he h
    simp only [List.take_zero, runD, Prod.mk.injEq] at he
    obtain ⟨rfl, _, rfl, rfl⟩ := he
    simpa using h
  | succ k ih =>
    intro i i' l s s' es es' he h
    cases l with
    | nil =>
      simp only [List.take_nil, runD, Prod.mk.injEq] at he
      obtain ⟨rfl, _, rfl, rfl⟩ := he
      simpa using h
    | cons o l =>
      simp only [List.take_succ_cons, runD, onB, onS] at he
      split at he
      · rename_i hg
        split at he
        · rename_i r hs
          exact ARE.op (stepR_ok rfl hg hs) (ih he (by simpa using h))
        · simp at he
      · simp at he
/-- An operation whose guard does not hold. -/
theorem ARE.off {i : Nat} {l : List Oper} {s : RS} {o : Oper} {pp : Path} {es : List PE} {K : List PE → RS → Prop} {s1 : RS} (hp : pG ops s.g o.guard = pp) (hg : gOkB ops i s.t o.guard = true) (hn : ppF ops s.t pp = true) (he : (⟨putT s.t o.dst (.pv (.bool false)), putG s.g o.dst pp, s.h⟩ : RS) = s1)
    (k : ARE P z ops (i + 1) l s1 (⟨.pv (.bool false), [], pp, []⟩ :: es) K) : ARE P z ops i (o :: l) s es K := by
  subst he
  exact ARE.skip _ hp hg (ppF_not hn) k
end
end Go.Ab
