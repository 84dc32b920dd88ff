/- Guards that are left, ranges, tables, interfaces. -/
import Derived.Test.YtlgfbiepbneihaaKD
import Derived.MapFrom
import Derived.Maps.RangeRun
namespace Go.Ab
open Go.RowKit
set_option linter.unusedVariables false
set_option linter.unusedSimpArgs false
def InR8 (j : Int) : Prop := 0 ≤ j ∧ j < 8
def sel8 {α : Type} (j : Int) (a b c d e f g h : α) : α := if j = 0 then a else if j = 1 then b else if j = 2 then c else if j = 3 then d else if j = 4 then e else if j = 5 then f else if j = 6 then g else h
def upd8 {α : Type} (k j : Int) (x y : α) : α := if j = k then y else x
theorem InR8.cases {j : Int} (h : InR8 j) : j = 0 ∨ j = 1 ∨ j = 2 ∨ j = 3 ∨ j = 4 ∨ j = 5 ∨ j = 6 ∨ j = 7 := by unfold InR8 at h; omega
@[go_sem] theorem get8 {α : Type} {j : Int} (hj : InR8 j) (a b c d e f g h : α) (r : List α) : (a :: b :: c :: d :: e :: f :: g :: h :: r)[j.toNat]? = some (sel8 j a b c d e f g h) := by
  rcases hj.cases with rfl | rfl | rfl | rfl | rfl | rfl | rfl | rfl <;> rfl
@[go_sem] theorem set8 {α : Type} {j : Int} (hj : InR8 j) (a b c d e f g h y : α) (r : List α) : (a :: b :: c :: d :: e :: f :: g :: h :: r).set j.toNat y =
    upd8 0 j a y :: upd8 1 j b y :: upd8 2 j c y :: upd8 3 j d y :: upd8 4 j e y :: upd8 5 j f y :: upd8 6 j g y :: upd8 7 j h y :: r := by
  rcases hj.cases with rfl | rfl | rfl | rfl | rfl | rfl | rfl | rfl <;> rfl
@[go_sem] theorem sel8_int (j : Int) (k : IntKind) (a b c d e f g h : Int) : sel8 j (AV.pv (.int k a)) (.pv (.int k b)) (.pv (.int k c)) (.pv (.int k d)) (.pv (.int k e)) (.pv (.int k f)) (.pv (.int k g)) (.pv (.int k h)) = .pv (.int k (sel8 j a b c d e f g h)) := by
  unfold sel8; repeat' split
  all_goals rfl
@[go_sem] theorem sel8_bool (j : Int) (a b c d e f g h : Bool) : sel8 j (AV.pv (.bool a)) (.pv (.bool b)) (.pv (.bool c)) (.pv (.bool d)) (.pv (.bool e)) (.pv (.bool f)) (.pv (.bool g)) (.pv (.bool h)) = .pv (.bool (sel8 j a b c d e f g h)) := by
  unfold sel8; repeat' split
  all_goals rfl
@[go_sem] theorem upd8_int (k j : Int) (q : IntKind) (x y : Int) : upd8 k j (AV.pv (.int q x)) (.pv (.int q y)) = .pv (.int q (upd8 k j x y)) := by unfold upd8; split <;> rfl
@[go_sem] theorem upd8_bool (k j : Int) (x y : Bool) : upd8 k j (AV.pv (.bool x)) (.pv (.bool y)) = .pv (.bool (upd8 k j x y)) := by unfold upd8; split <;> rfl
theorem InR8.lo {j : Int} (h : InR8 j) : 0 ≤ j := h.1
theorem InR8.hi {j : Int} (h : InR8 j) : j < 8 := h.2
theorem InR8.le {j : Int} (h : InR8 j) {n : Nat} (hn : 8 ≤ n) : (j.toNat + 1 ≤ n) = True := eq_true (by have := h.1; have := h.2; omega)
end Go.Ab
namespace Go.Ab
open Go.RowKit
set_option linter.unusedVariables false
set_option linter.unusedSimpArgs false
set_option linter.unnecessarySimpa false

section
variable {P : Program} {ops opsA : Array Oper} {Q Q' : Exit → Act → World → Prop}
def Clo (ops : Array Oper) (l : Array Bool) : Prop := ∀ j o, ops.toList[j]? = some o → l.getD j false = true → ∀ e ∈ o.after, Region.binds .any e = true → l.getD e.on false = true
theorem Clo.set {l : Array Bool} {j : Nat} (hl : l.size = ops.size) (hc : Clo ops l) (h : j ∈ Region.ready .any ops l) : Clo ops (l.setIfInBounds j true) := by
  intro i oi hoi hL e' he' hb
  by_cases hij : j = i
  · subst hij
    rw [mem_ready] at h
    obtain ⟨_, o, h2, h3⟩ := h
    have : ops.toList[j]? = some o := by simpa using h2
    rw [hoi] at this; injection this with this; subst this
    exact getD_set_true (h3 e' he' hb)
  · rw [getD_set_ne false hij] at hL
    exact getD_set_true (hc i oi hoi hL e' he' hb)
end

section
variable {P : Program} {z : Ini} {ops pre post : List Oper} {id n : Nat} {t : List AV} {h : List ABlk} {Q : Exit → St → Prop} {t2 : List AV} {g1 : List (Nat × Path)} {i : Nat}
end
end Go.Ab
namespace Go.Ab
open Go.RowKit
set_option linter.unusedVariables false
set_option linter.unusedSimpArgs false
set_option linter.unnecessarySimpa false
section
variable {P : Program} {z : Ini} {ops : List Oper} {i : Nat} {l : List Oper} {s : RS} {o : Oper}
end
end Go.Ab
namespace Go.Ab
open Go.RowKit
set_option linter.unusedVariables false
set_option linter.unusedSimpArgs false
set_option linter.unnecessarySimpa false
theorem buildS_run2 {P : Program} {t : TypeId} {len sz : Nat} {c : Cx} {h : List ABlk} {w : World} {l : List (Nat × AV)} {vs : Array (Nat × Value)} {rows : List (List PV)} (hl : l.length = vs.size)
    (hp : ∀ (k : Nat) (i : Nat) (x : AV), l[k]? = some (i, x) → ∃ v, vs[k]? = some (i, v) ∧ ARep c h w x v) (hb : buildS P t len l = some (.lst true sz rows)) (hlen0 : 0 < len) :
    ∃ (cs : Array Value) (e : TypeId), (Instr.buildSlice t len vs).run P w = .ok (.slice (some ⟨w.heap.size, 0, none⟩) len len) (w.alloc (.cells cs e)) ∧ cs.size = len * sz ∧ rows.length = len ∧
      (∀ (j : Nat) (row : List PV), rows[j]? = some row → row.length = sz) ∧
      ∀ (j : Nat) (row : List PV) (k : Nat) (q : PV), rows[j]? = some row → row[k]? = some q → ∃ u, cs[j * sz + k]? = some u ∧ u.oneCell' = true ∧ Rep c.ok w q u := by
  unfold buildS at hb
  split at hb
  · rename_i e sz' b hk
    obtain ⟨hu, hsz, hby⟩ := tk_slice hk
    split at hb
    · rename_i zs hz
      obtain ⟨zv, hzr, hzc⟩ := zro_rep hz c h w
      split at hb
      · rename_i hc
        obtain ⟨hzl, hpos, hlen, hsmall⟩ := hc
        split at hb
        · rename_i xs hf
          split at hb
          · rename_i ps hps
            split at hb
            · rename_i hpl
              injection hb with hb
              injection hb with _ hb1 hb2; subst hb1; subst hb2
              obtain ⟨ie, hie⟩ : ∃ i, P.info? e = some i := by
                cases hi : P.info? e with
                | none => simp [szOf, hi] at hsz; omega
                | some i => exact ⟨i, rfl⟩
              have hisz : ie.size = sz' := by rw [← hsz]; simp [szOf, hie]
              have hzero : ie.zero = some zv := by
                simp [zeroValue, typeInfo, hie] at hzr
                cases hq : ie.zero with
                | none => simp [hq] at hzr
                | some q => simp [hq] at hzr; rw [hzr]
              have hzs : zv.cells.size = sz' := by rw [hzc.1, hzl]
              have hcz : CRep c h w (repA zs len) ((Array.range (len * sz')).map (zv.cells[· % zv.cells.size]!)) := by
                refine ⟨by simp [repA_length, hzl], fun k x hk => ?_⟩
                have hkl : k < len * sz' := by have := (List.getElem?_eq_some_iff.1 hk).1; rw [repA_length, ← hzl] at this; exact this
                rw [repA_get zs (by omega) len k (by rw [← hzl]; exact hkl)] at hk
                obtain ⟨u, u1, u2, u3⟩ := hzc.2 _ x hk
                refine ⟨u, ?_, u2, u3⟩
                rw [hzc.1]
                simp only [Array.getElem?_map, Array.getElem?_range, hkl, if_true, Option.map_some]
                have hlt : k % zs.length < zv.cells.size := by rw [hzs, ← hzl]; exact Nat.mod_lt _ (by omega)
                rw [Array.getElem?_eq_getElem hlt] at u1
                injection u1 with u1
                rw [getElem!_pos zv.cells (k % zs.length) hlt, u1]
              obtain ⟨cs, f1, f2⟩ := fillA_run l vs.toList (repA zs len) xs _ (by simpa using hl) (fun k i x hk => by simpa using hp k i x hk) hcz hf
              obtain ⟨g1, g2⟩ := purL_get hps
              refine ⟨cs, e, run_buildSlice w t e len vs cs ie zv hu hie hzero (by rw [hisz]; omega) (by rw [hisz]; have := Nat.mul_pos hlen hpos; omega) (by rw [hisz]; exact f1), by rw [f2.1, g1, hpl], chunk_length _ _ _, fun j row hj => ?_, fun j row k q hj hkq => ?_⟩
              · obtain ⟨hjn, rfl⟩ := chunk_get sz' len ps j row hj
                have : (j + 1) * sz' ≤ len * sz' := Nat.mul_le_mul_right _ (by omega)
                rw [Nat.add_mul] at this
                simp; omega
              · obtain ⟨hjn, rfl⟩ := chunk_get sz' len ps j row hj
                have hk : k < sz' := by have := (List.getElem?_eq_some_iff.1 hkq).1; simp at this; omega
                rw [List.getElem?_take_of_lt hk, List.getElem?_drop] at hkq
                obtain ⟨x, hx, hpx⟩ := g2 _ q hkq
                obtain ⟨u, u1, u2, u3⟩ := f2.2 _ x hx
                exact ⟨u, u1, u2, u3.pur hpx⟩
            · cases hb
          · cases hb
        · cases hb
      · split at hb
        · rename_i h0; omega
        · cases hb
    · cases hb
  · cases hb
section
variable {P : Program} {z : Ini} {ops : Array Oper} {l : List Oper} {Q : Exit → St → Prop} {o : Oper} {t : List AV} {h : List ABlk} {T ty : TypeId} {x : Operand}
/-- A slice literal that is written to later. -/
theorem AWL.bvec {len sz : Nat} {parts : Array (Nat × Operand)} {rows : List (List PV)} {t1 : List AV} {h1 : List ABlk} (hw : wantB ops.toList t o.guard = some true) (ho : o.op = .buildSlice T len parts)
    (hb : buildS P T len (parts.toList.map fun p => (p.1, evO t p.2)) = some (.lst true sz rows)) (hl : 0 < len) (ht : putT t o.dst (.vs h.length 0 len) = t1) (hh : setx h h.length (.vec sz rows) = h1)
    (k : AWL P z ops l ⟨t1, h1⟩ Q) : AWL P z ops (o :: l) ⟨t, h⟩ Q :=
  .op2 hw (r := .vs h.length 0 len) (h' := h1) (fun c a w s => by
    subst hh
    obtain ⟨cs, e, r1, r2, r3, r4, r5⟩ := buildS_run2 (P := P) (vs := parts.map fun p => (p.1, a.eval p.2)) (c := c) (h := h) (w := w) (by simp) (fun k i x hk => by
      simp only [List.getElem?_map, Option.map_eq_some_iff] at hk
      obtain ⟨q, hq, e⟩ := hk
      injection e with e1 e2; subst e1; subst e2
      exact ⟨a.eval q.2, by simp [hq, Array.getElem?_map, ← Array.getElem?_toList], evO_rep s.ts q.2⟩) hb hl
    have hn : z.n ≤ h.length := s.m.ext.1
    have hu : unborn h h.length := .inl (List.getElem?_eq_none (Nat.le_refl _))
    have hB : BRep (c.born h.length w.heap.size (0, len)) (setx h h.length (.vec sz rows)) (w.alloc (.cells cs e)) h.length (.vec sz rows) := by
      refine ⟨by rw [Cx.born_vd]; simp; omega, fun j row hj => r4 j row hj, fun _ => ⟨_, e, by rw [Cx.born_mu]; exact heap_alloc_new _ _, by rw [Cx.born_vd, r2]; simp, fun j row k p hj hk => ?_⟩⟩
      obtain ⟨u, u1, u2, u3⟩ := r5 j row k p hj hk
      exact ⟨u, by rw [Cx.born_vd]; simpa using u1, u2, u3.mono (fun b hb => hb) (keep_alloc c.ok w _ s.m.hs.okb)⟩
    obtain ⟨L, M⟩ := s.m.born h.length hu hn (.vec sz rows) (0, len) (.cells cs e) hB
    unfold Yields
    have : (execOp a.eval o).run P w = .ok (.value (.slice (some ⟨w.heap.size, 0, none⟩) len len)) (w.alloc (.cells cs e)) := by simp [execOp, ho, r1]
    rw [this]
    refine ⟨_, L, M, .vs h.length 0 _ _ (.vec sz rows) rfl (setx_same _ _ _) (by intro h; cases h) fun sz' rows' e' => ?_⟩
    injection e' with e1 e2; subst e1; subst e2
    refine ⟨by omega, some ⟨w.heap.size, 0, none⟩, by rw [Cx.born_vd]; simp, fun _ => ?_⟩
    rw [Cx.born_mu, Cx.born_vd]
    simp) (by subst ht; exact k)
theorem storeCells_of {P : Program} {e : TypeId} {w w' : World} {a : Addr} {v : Value} (h : (Instr.storeAt e (.pointer (some a)) v).run P w = .ok () w') (h1 : szOf P e = 1) (hv : v.cells = #[v]) : (storeCells a [v]).run P w = .ok () w' := by
  have e1 : v.cells.size = 1 := by rw [hv]; rfl
  have h2 := szOf_run h1 (by omega) w
  simp only [Instr.storeAt, Instr.sureAddr, storeVar, Sem.run_bind, Sem.run_pure, Result.andThen_ok, h2, e1] at h
  simpa [hv] using h
theorem run_clear1 {P : Program} {w w' : World} {T e ty' : TypeId} {a : Addr} {zv u : Value} {cc : Nat} (hu : P.underlying T = some (.slice e)) (hz : (zeroValue e).run P w = .ok zv w) (hc : zv.cells = #[u]) (h : (storeCells a [u]).run P w = .ok () w') :
    (Builtin.clear_ #[T] ty' #[.slice (some a) 1 cc]).run P w = .ok (.tuple #[]) w' := by
  have e1 : (Builtin.zeroCells zv.cells 1).toList = [u] := by rw [hc]; simp [Builtin.zeroCells]
  simp [Builtin.clear_, run_underlying hu, hz, e1, h]
/-- clear(s) of one element that is a number. -/
theorem AWL.clr1 {e : TypeId} {by' i off : Nat} {k0 : IntKind} {rows : List (List PV)} {t1 : List AV} {h1 : List ABlk} (hw : wantB ops.toList t o.guard = some true) (ho : o.op = .call ⟨.builtin .clear, #[x], #[T]⟩)
    (hT : tk P T = .slice e 1 by') (hz : zro P e = some [.pv (.int k0 0)]) (hx : evO t x = .vs i off 1) (hi : h[i]? = some (.vec 1 rows)) (hr : rows[off]? ≠ none) (hr1 : ∀ row ∈ rows, row.length = 1)
    (ht : putT t o.dst .any = t1) (hh : setx h i (.vec 1 (rows.set off [.int k0 0])) = h1) (k : AWL P z ops l ⟨t1, h1⟩ Q) : AWL P z ops (o :: l) ⟨t, h⟩ Q :=
  .op2 hw (r := .any) (h' := h1) (fun c a w s => by
    subst hh
    obtain ⟨hu, hsz, _⟩ := tk_slice hT
    have hv := evO_rep s.ts x
    rw [hx] at hv
    generalize hval : a.eval x = vx at hv
    cases hv with
    | vs _ _ _ _ b hone hib hnb hvv =>
      rw [hi] at hib; injection hib with hib; subst hib
      obtain ⟨g1, A, g2, g3⟩ := hvv 1 rows rfl
      obtain ⟨b1, b2, b3⟩ := s.m.hs.blk i _ hi
      have hA := g3 (by omega)
      subst g2; subst hA
      obtain ⟨zv, z1, z2⟩ := zro_rep hz c h w
      obtain ⟨u, u1, u2, u3⟩ := z2.2 0 _ rfl
      have hu0 : u = .int k0 0 := by cases u3 with | pv _ _ hr => cases hr; rfl
      subst hu0
      have hzc : zv.cells = #[.int k0 0] := by
        have hs : zv.cells.size = 1 := z2.1
        apply Array.ext
        · rw [hs]; rfl
        · intro j j1 j2
          have : j = 0 := by omega
          subst this
          rw [Array.getElem?_eq_getElem j1] at u1
          injection u1
      obtain ⟨row, hrow⟩ := Option.ne_none_iff_exists'.1 hr
      have hlen := hr1 row (List.mem_of_getElem? hrow)
      have hst : storeA (szOf P e) h (.pv (.int k0 0)) (.ve i off 0) = some [(i, .vec 1 (rows.set off [.int k0 0]))] := by
        simp only [storeA, hi, acells, hrow, hsz, hlen]
        cases row with
        | nil => simp at hlen
        | cons q qs =>
          cases qs with
          | nil => simp [purL, pur, splice, hrow]
          | cons _ _ => simp at hlen
      obtain ⟨w', s1, s2, s3⟩ := storeA_run (P := P) (t := e) s.m (x := .ve i off 0) (va := .pointer (some ⟨c.mu i, (c.vd i).1 + off * 1 + 0, none⟩)) (y := .pv (.int k0 0)) (v := .int k0 0)
        (.ve i off 0 _ (.vec 1 rows) rfl hi (by intro h; cases h) (fun sz' rows' e' => by injection e' with e1 e2; subst e1; subst e2; rfl)) (.pv _ _ (.int _ _)) hst (by omega)
      have sc := storeCells_of s1 hsz rfl
      have rc := run_clear1 (T := T) (ty' := o.type) (cc := (c.vd i).2 - off) hu z1 hzc sc
      unfold Yields
      have : (execOp a.eval o).run P w = .ok (.value (.tuple #[])) w' := by
        simp only [Nat.add_zero, Nat.mul_one] at rc
        simp [execOp, ho, resolve, invoke, builtin, hval, rc]
      rw [this]
      exact ⟨c, s2, s3, .any _⟩) (by subst ht; exact k)
/-- A cut of a list that has nothing, of whatever width. -/
theorem AWL.cut0 {e : TypeId} {sz' by' s0 : Nat} {f : Bool} {lo hi : Option Operand} {t1 : List AV} (hw : wantB ops.toList t o.guard = some true) (ho : o.op = .slice T x lo hi none) (hT : tk P T = .slice e sz' by') (hp : 0 < sz') (hx : evO t x = .pv (.lst f s0 []))
    (h1 : bndA 0 (lo.map (evO t)) = some 0) (h2 : bndA 0 (hi.map (evO t)) = some 0) (ht : putT t o.dst (.pv (.lst f s0 [])) = t1) (k : AWL P z ops l ⟨t1, h⟩ Q) : AWL P z ops (o :: l) ⟨t, h⟩ Q :=
  .op2 hw (fun c a w s => by
    have hv := evO_rep s.ts x
    rw [hx] at hv
    obtain ⟨hu, hsz, _⟩ := tk_slice hT
    have ev : ∀ (m : Option Operand) (x : AV), m.map (evO t) = some x → ∃ v, m.map a.eval = some v ∧ ARep c h w x v := fun m x hm => by
      cases m with
      | none => cases hm
      | some y => injection hm with hm; subst hm; exact ⟨_, rfl, evO_rep s.ts y⟩
    have en : ∀ m : Option Operand, m.map (evO t) = none → m.map a.eval = none := fun m hm => by cases m <;> simp_all
    cases hv with
    | pv _ _ hr =>
      generalize hval : a.eval x = u at hr
      cases hr with
      | lst _ _ _ A cc us g1 g2 g3 g4 g5 g6 =>
        have hrun := bounds_run (P := P) (w := w) (c := c) (h := h) (isS := true) (len := 0) (cap := cc) (ev lo) (en lo) (ev hi) (en hi) h1 h2 ⟨by omega, by omega, by omega⟩ (by omega)
        simp only [Int.toNat_zero] at hrun
        refine .val s.m (v := .slice (if cc = 0 then A else A.map (·.add (0 * sz'))) 0 cc) ?_ (.pv _ _ (.lst f s0 [] _ cc (fun _ _ => undef) (fun j row hj => by simp at hj) (Nat.zero_le _) (fun hf => by simpa using g3 hf) (fun h0 => by simp at h0) (fun ad ea j row k p hj => by simp at hj) (fun j row k p hj => by simp at hj)))
        have : (Instr.sliceAt T (.slice A 0 cc) (lo.map a.eval) (hi.map a.eval) none).run P w = .ok (.slice (if cc = 0 then A else A.map (·.add (0 * sz'))) 0 cc) w := by
          simp [Instr.sliceAt, Instr.slice, run_underlying hu, hrun, szOf_run hsz hp]
        simp [execOp, ho, hval, this]) (by subst ht; exact k)
end
section
variable {P : Program} {z : Ini} {ops : List Oper}
/-- The first k operations of what is left. -/
theorem ARE.runK {K : List PE → RS → Prop} (k : Nat) : ∀ {i i' : Nat} {l : List Oper} {s s' : RS} {es es' : List PE}, runD P ops i (l.take k) s es = (i', [], s', es') → ARE P z ops i' (l.drop k) s' es' K → ARE P z ops i l s es K := by
  induction k with
  | zero =>
    intro i i' l s s' es es' he h
    simp only [List.take_zero, runD, Prod.mk.injEq] at he
    obtain ⟨rfl, _, rfl, rfl⟩ := he
    simpa using h
  | succ k ih =>
    intro i i' l s s' es es' he h
    cases l with
    | nil =>
      simp only [List.take_nil, runD, Prod.mk.injEq] at he
      obtain ⟨rfl, _, rfl, rfl⟩ := he
      simpa using h
    | cons o l =>
      simp only [List.take_succ_cons, runD, onB, onS] at he
      split at he
      · rename_i hg
        split at he
        · rename_i r hs
          exact ARE.op (stepR_ok rfl hg hs) (ih he (by simpa using h))
        · simp at he
      · simp at he
/-- An operation whose guard does not hold. -/
theorem ARE.off {i : Nat} {l : List Oper} {s : RS} {o : Oper} {pp : Path} {es : List PE} {K : List PE → RS → Prop} {s1 : RS} (hp : pG ops s.g o.guard = pp) (hg : gOkB ops i s.t o.guard = true) (hn : ppF ops s.t pp = true) (he : (⟨putT s.t o.dst (.pv (.bool false)), putG s.g o.dst pp, s.h⟩ : RS) = s1)
    (k : ARE P z ops (i + 1) l s1 (⟨.pv (.bool false), [], pp, []⟩ :: es) K) : ARE P z ops i (o :: l) s es K := by
  subst he
  exact ARE.skip _ hp hg (ppF_not hn) k
end
end Go.Ab
namespace Go.Ab
open Go.RowKit
set_option linter.unusedVariables false
set_option linter.unusedSimpArgs false
set_option linter.unnecessarySimpa false
section
variable {P : Program} {z : Ini} {ops : List Oper} {i : Nat} {l : List Oper} {s : RS} {o : Oper}
theorem LS.elx {q n sz : Nat} {g : Bool} {T e : TypeId} {x y : Operand} {row : List PV} {off : Nat} {k : IntKind} {j : Int} {p : Path} (ho : o.op = .indexAddr T x y) (hT : tk P T = .arr n e sz g) (hx : evG p s.t s.g x = .el row off) (hy : evG p s.t s.g y = .pv (.int k j)) (hj : 0 ≤ j ∧ j < n) (hs : 0 < sz) :
    LS P z ops q o s ⟨.el row (off + j.toNat * sz), [], p, []⟩ := by
  intro C h' c w ρ hC hp hn hft hu M hfn hev
  obtain ⟨hu', hsz, _⟩ := tk_arr hT
  have vx := hev x (by simp [ho, Op.operands]) p hp
  have vy := hev y (by simp [ho, Op.operands]) p hp
  rw [hx] at vx
  rw [hy] at vy
  have ey : ρ y = .int k j := by cases vy with | pv _ _ hr => generalize ρ y = u at hr; cases hr; rfl
  generalize ex : ρ x = vv at vx
  cases vx with
  | el _ _ a us hcell =>
    refine Yields.val M (v := .pointer (some (a.add (off + j.toNat * sz)))) ?_ (.el row _ a us hcell)
    rw [← Addr.add_add]
    simp [execOp, ho, ex, ey, Instr.indexAt, asIntOf, run_underlying hu', Instr.sureAddr, hj, szOf_run hsz hs]
/-- An element of an array that stands in a list's row. -/
theorem ARN.elx {K : RS → Prop} {n sz : Nat} {g : Bool} {T e : TypeId} {x y : Operand} {row : List PV} {off : Nat} {k : IntKind} {j : Int} {p : Path} {s1 : RS} (ho : o.op = .indexAddr T x y) (hp : pG ops s.g o.guard = p) (hg : gOkB ops i s.t o.guard = true) (hT : tk P T = .arr n e sz g) (hx : evG p s.t s.g x = .el row off) (hy : evG p s.t s.g y = .pv (.int k j)) (hj : 0 ≤ j ∧ j < n) (hs : 0 < sz)
    (h1 : (⟨putT s.t o.dst (.el row (off + j.toNat * sz)), putG s.g o.dst p, s.h⟩ : RS) = s1) (h : ARN P z ops (i + 1) l s1 K) : ARN P z ops i (o :: l) s K := by
  subst h1
  exact ARN.op (e := ⟨.el row (off + j.toNat * sz), [], p, []⟩) ⟨hp.symm, fun _ => rfl, gOkB_spec hg, fun _ => LS.elx ho hT hx hy hj hs⟩ h
end
section
variable {P : Program} {z : Ini} {ops : List Oper}
theorem ARN.runK {K : RS → Prop} (k : Nat) : ∀ {i i' : Nat} {l : List Oper} {s s' : RS}, runN P ops i (l.take k) s = (i', [], s') → ARN P z ops i' (l.drop k) s' K → ARN P z ops i l s K := by
  induction k with
  | zero =>
    intro i i' l s s' he h
    simp only [List.take_zero, runN, Prod.mk.injEq] at he
    obtain ⟨rfl, _, rfl⟩ := he
    simpa using h
  | succ k ih =>
    intro i i' l s s' he h
    cases l with
    | nil =>
      simp only [List.take_nil, runN, Prod.mk.injEq] at he
      obtain ⟨rfl, _, rfl⟩ := he
      simpa using h
    | cons o l =>
      simp only [List.take_succ_cons, runN, onB, onS] at he
      split at he
      · rename_i hg
        split at he
        · rename_i r hs
          exact ARN.op (stepR_ok rfl hg hs) (ih he (by simpa using h))
        · simp at he
      · simp at he
theorem ARN.off {i : Nat} {l : List Oper} {s : RS} {o : Oper} {pp : Path} {K : RS → Prop} {s1 : RS} (hp : pG ops s.g o.guard = pp) (hg : gOkB ops i s.t o.guard = true) (hn : ppF ops s.t pp = true) (he : (⟨putT s.t o.dst (.pv (.bool false)), putG s.g o.dst pp, s.h⟩ : RS) = s1)
    (k : ARN P z ops (i + 1) l s1 K) : ARN P z ops i (o :: l) s K := by
  subst he
  exact ARN.op (e := ⟨.pv (.bool false), [], pp, []⟩) ⟨hp.symm, fun _ => rfl, gOkB_spec hg, fun hh => (ppF_not hn hh).elim⟩ k
end
end Go.Ab
namespace Go.Ab
open Go.RowKit
set_option linter.unusedVariables false
set_option linter.unusedSimpArgs false
set_option linter.unnecessarySimpa false
section
variable {P : Program} {z : Ini} {ops : List Oper} {i : Nat} {l : List Oper} {s : RS} {o : Oper}
theorem LS.vex {q n sz szr b r : Nat} {g : Bool} {T e : TypeId} {x y : Operand} {rows : List (List PV)} {off : Nat} {k : IntKind} {j : Int} {p : Path} (ho : o.op = .indexAddr T x y) (hT : tk P T = .arr n e sz g) (hx : evG p s.t s.g x = .ve b r off) (hb : s.h[b]? = some (.vec szr rows)) (hy : evG p s.t s.g y = .pv (.int k j)) (hj : 0 ≤ j ∧ j < n) (hs : 0 < sz) :
    LS P z ops q o s ⟨.ve b r (off + j.toNat * sz), [], p, [b]⟩ := by
  intro C h' c w ρ hC hp hn hft hu M hfn hev
  obtain ⟨hu', hsz, _⟩ := tk_arr hT
  have vx := hev x (by simp [ho, Op.operands]) p hp
  have vy := hev y (by simp [ho, Op.operands]) p hp
  rw [hx] at vx
  rw [hy] at vy
  have ey : ρ y = .int k j := by cases vy with | pv _ _ hr => generalize ρ y = u at hr; cases hr; rfl
  have hb' : h'[b]? = some (.vec szr rows) := by
    rcases hft b (by simp) with e | ⟨e, _⟩
    · rw [e]; exact hb
    · rw [hb] at e; cases e
  have hptr : ∃ a, ρ x = .pointer (some a) := by
    cases vx with
    | ve _ _ _ _ b2 ho2 hi2 hb2 hv2 =>
      rw [hb'] at hi2; injection hi2 with hi2; subst hi2
      exact ⟨_, hv2 _ _ rfl⟩
  obtain ⟨a, ea, ra⟩ := vx.shift (n := j.toNat * sz) rfl hptr
  refine Yields.val M (v := .pointer (some (a.add (j.toNat * sz)))) ?_ ra
  simp [execOp, ho, ea, ey, Instr.indexAt, asIntOf, run_underlying hu', Instr.sureAddr, hj, szOf_run hsz hs]
theorem ARN.vex {K : RS → Prop} {n sz szr b r : Nat} {g : Bool} {T e : TypeId} {x y : Operand} {rows : List (List PV)} {off : Nat} {k : IntKind} {j : Int} {p : Path} {s1 : RS} (ho : o.op = .indexAddr T x y) (hp : pG ops s.g o.guard = p) (hg : gOkB ops i s.t o.guard = true) (hT : tk P T = .arr n e sz g) (hx : evG p s.t s.g x = .ve b r off) (hb : s.h[b]? = some (.vec szr rows)) (hy : evG p s.t s.g y = .pv (.int k j)) (hj : 0 ≤ j ∧ j < n) (hs : 0 < sz)
    (h1 : (⟨putT s.t o.dst (.ve b r (off + j.toNat * sz)), putG s.g o.dst p, s.h⟩ : RS) = s1) (h : ARN P z ops (i + 1) l s1 K) : ARN P z ops i (o :: l) s K := by
  subst h1
  exact ARN.op (e := ⟨.ve b r (off + j.toNat * sz), [], p, [b]⟩) ⟨hp.symm, fun _ => rfl, gOkB_spec hg, fun _ => LS.vex ho hT hx hb hy hj hs⟩ h
theorem ARE.elx {K : List PE → RS → Prop} {es : List PE} {n sz : Nat} {g : Bool} {T e : TypeId} {x y : Operand} {row : List PV} {off : Nat} {k : IntKind} {j : Int} {p : Path} {s1 : RS} (ho : o.op = .indexAddr T x y) (hp : pG ops s.g o.guard = p) (hg : gOkB ops i s.t o.guard = true) (hT : tk P T = .arr n e sz g) (hx : evG p s.t s.g x = .el row off) (hy : evG p s.t s.g y = .pv (.int k j)) (hj : 0 ≤ j ∧ j < n) (hs : 0 < sz)
    (h1 : (⟨putT s.t o.dst (.el row (off + j.toNat * sz)), putG s.g o.dst p, s.h⟩ : RS) = s1) (h : ARE P z ops (i + 1) l s1 (⟨.el row (off + j.toNat * sz), [], p, []⟩ :: es) K) : ARE P z ops i (o :: l) s es K := by
  subst h1
  exact ARE.op (e := ⟨.el row (off + j.toNat * sz), [], p, []⟩) ⟨hp.symm, fun _ => rfl, gOkB_spec hg, fun _ => LS.elx ho hT hx hy hj hs⟩ h
end
end Go.Ab
namespace Go.Ab
open Go.RowKit
set_option linter.unusedVariables false
set_option linter.unusedSimpArgs false
set_option linter.unnecessarySimpa false
section
variable {P : Program} {z : Ini} {ops : Array Oper} {l : List Oper} {Q : Exit → St → Prop} {o : Oper} {t : List AV} {h : List ABlk} {T : TypeId} {x y : Operand}
end
end Go.Ab
namespace Go.Ab
open Go.RowKit
set_option linter.unusedVariables false
set_option linter.unusedSimpArgs false
set_option linter.unnecessarySimpa false
/-- A map's entries, by its keys. -/
def setE (ks : List Int) : List (PV × PV) := ks.map fun a => (.int .i64 a, .bool true)
def seenE (js : List Nat) : List (PV × PV) := js.map fun (j : Nat) => (.int .i64 (Int.ofNat j), .nilPtr)
def insK (ks : List Int) (a : Int) : List Int := if a ∈ ks then ks else ks ++ [a]
theorem setE_len (ks : List Int) : (setE ks).length = ks.length := by simp [setE]
theorem seen_of (js : List Nat) : (seenE js).map (fun e => metN e.1) = js := by
  induction js with
  | nil => rfl
  | cons j js ih => show metN (.int .i64 (Int.ofNat j)) :: (seenE js).map (fun e => metN e.1) = j :: js; rw [ih]; rfl
section
variable {P : Program} {z : Ini} {ops : Array Oper} {l : List Oper} {Q : Exit → St → Prop} {o : Oper} {t : List AV} {h : List ABlk} {T : TypeId} {x y m : Operand}
theorem rep_int {ok : Nat → Prop} {w : World} {k : IntKind} {a : Int} {v : Value} (h : Rep ok w (.int k a) v) : v = .int k a := by cases h; rfl
theorem rep_bool {ok : Nat → Prop} {w : World} {a : Bool} {v : Value} (h : Rep ok w (.bool a) v) : v = .bool a := by cases h; rfl
theorem av_int {c : Cx} {h : List ABlk} {w : World} {k : IntKind} {a : Int} {v : Value} (r : ARep c h w (.pv (.int k a)) v) : v = .int k a := by cases r with | pv _ _ hr => exact rep_int hr
theorem av_bool {c : Cx} {h : List ABlk} {w : World} {a : Bool} {v : Value} (r : ARep c h w (.pv (.bool a)) v) : v = .bool a := by cases r with | pv _ _ hr => exact rep_bool hr
theorem av_map {c : Cx} {h : List ABlk} {w : World} {i : Nat} {es : List (PV × PV)} {v : Value} (r : ARep c h w (.mp i) v) (hi : h[i]? = some (.mp none es)) : v = .map (some (c.mu i)) := by
  cases r with
  | mp _ _ b _ hib _ hv => rw [hi] at hib; injection hib with hib; exact hv none es hib.symm
theorem av_iter {c : Cx} {h : List ABlk} {w : World} {i : Nat} {mn : Nat × Nat} {es : List (PV × PV)} {v : Value} (r : ARep c h w (.mp i) v) (hi : h[i]? = some (.mp (some mn) es)) : v = .pointer (some ⟨c.mu i, 0, none⟩) := by
  cases r with
  | mp _ _ b _ hib _ hv => rw [hi] at hib; injection hib with hib; exact hv (some mn) es hib.symm
/-- What a set of the plain memory says of the machine's map. -/
theorem set_of {c : Cx} {h : List ABlk} {w : World} {i : Nat} {ks : List Int} (b : BRep c h w i (.mp none (setE ks))) : ∃ ms : Array MapEntry, w.heap[c.mu i]? = some (.map ms ks.length) ∧ ms.size = ks.length ∧
    (∀ (j : Nat) (a : Int), ks[j]? = some a → ∃ e, ms[j]? = some e ∧ e.born = j ∧ e.key = .int .i64 a ∧ e.val = .bool true) ∧ (∀ e ∈ ms.toList, ∃ (j : Nat) (a : Int), ms[j]? = some e ∧ ks[j]? = some a ∧ e.born = j ∧ e.key = .int .i64 a ∧ e.val = .bool true) := by
  obtain ⟨ms, h1, h2, h3⟩ := b
  rw [setE_len] at h1 h2
  have h4 : ∀ (j : Nat) (a : Int), ks[j]? = some a → ∃ e, ms[j]? = some e ∧ e.born = j ∧ e.key = .int .i64 a ∧ e.val = .bool true := fun j a hj => by
    obtain ⟨e, e1, e2, e3, e4⟩ := h3 j (.int .i64 a) (.bool true) (by simp [setE, hj])
    exact ⟨e, e1, e2, rep_int e3, rep_bool e4⟩
  refine ⟨ms, h1, h2, h4, fun e he => ?_⟩
  obtain ⟨j, hj, e1⟩ := List.getElem_of_mem he
  have hj' : j < ms.size := by simpa using hj
  have hk : j < ks.length := by omega
  obtain ⟨e', g1, g2, g3, g4⟩ := h4 j ks[j] (List.getElem?_eq_getElem hk)
  have : ms[j]? = some e := by rw [Array.getElem?_eq_getElem hj']; rw [← e1]; simp
  rw [this] at g1; injection g1 with g1; subst g1
  exact ⟨j, ks[j], this, List.getElem?_eq_getElem hk, g2, g3, g4⟩
theorem AWL.mkmap {t1 : List AV} {h1 : List ABlk} (hw : wantB ops.toList t o.guard = some true) (ho : o.op = .makeMap T none) (ht : putT t o.dst (.mp h.length) = t1) (hh : setx h h.length (.mp none (setE [])) = h1)
    (k : AWL P z ops l ⟨t1, h1⟩ Q) : AWL P z ops (o :: l) ⟨t, h⟩ Q :=
  .op2 hw (r := .mp h.length) (h' := h1) (fun c a w s => by
    subst hh
    have hu : unborn h h.length := .inl (List.getElem?_eq_none (Nat.le_refl _))
    obtain ⟨L, M⟩ := s.m.born h.length hu s.m.ext.1 (.mp none (setE [])) (0, 0) (.map #[] 0) ⟨#[], by rw [Cx.born_mu]; exact heap_alloc_new _ _, rfl, fun j k x hj => by simp [setE] at hj⟩
    unfold Yields
    have : (execOp a.eval o).run P w = .ok (.value (.map (some w.heap.size))) (w.alloc (.map #[] 0)) := by simp [execOp, ho, Instr.makeMap, newObj]; rfl
    rw [this]
    refine ⟨_, L, M, .mp h.length _ (.mp none (setE [])) rfl (setx_same _ _ _) (by intro h; cases h) fun k es e => ?_⟩
    injection e with e1 e2; subst e1
    rw [Cx.born_mu]; rfl) (by subst ht; exact k)
theorem AWL.look {kt et : TypeId} {i : Nat} {ks : List Int} {a0 : Int} {t1 : List AV} (hw : wantB ops.toList t o.guard = some true) (ho : o.op = .lookup T m x false) (hT : P.underlying T = some (.map kt et)) (hk : P.underlying kt = some (.int .i64))
    (hz : zro P et = some [.pv (.bool false)]) (hz1 : ∀ w, (zeroValue et).run P w = .ok (.bool false) w) (hm : evO t m = .mp i) (hi : h[i]? = some (.mp none (setE ks))) (hx : evO t x = .pv (.int .i64 a0)) (ht : putT t o.dst (.pv (.bool (decide (a0 ∈ ks)))) = t1)
    (k : AWL P z ops l ⟨t1, h⟩ Q) : AWL P z ops (o :: l) ⟨t, h⟩ Q :=
  .op2 hw (r := .pv (.bool (decide (a0 ∈ ks)))) (h' := h) (fun c a w s => by
    have hv := evO_rep s.ts m
    rw [hm] at hv
    have em := av_map hv hi
    have hvx := evO_rep s.ts x
    rw [hx] at hvx
    have ex := av_int hvx
    obtain ⟨ms, h1, h2, h3, h4⟩ := set_of (s.m.hs.blk i _ hi)
    have hik : MapKept.IsKey (.int .i64) (.int .i64 a0) := rfl
    have hrun : (Instr.lookup T (.map (some (c.mu i))) (.int .i64 a0) false).run P w = .ok (.bool (decide (a0 ∈ ks))) w := by
      rcases MapKept.findNow_spec hik ms.toList 0 (fun e he => by obtain ⟨j, b, _, _, _, e4, _⟩ := h4 e he; rw [e4]; rfl) with ⟨g1, g2⟩ | ⟨j, e, g1, g2, g3⟩
      · have hn : a0 ∉ ks := fun hin => by
          obtain ⟨j, hj, e1⟩ := List.getElem_of_mem hin
          obtain ⟨e, q1, _, q3, _⟩ := h3 j a0 (by rw [List.getElem?_eq_getElem hj, e1])
          exact g2 e (by rw [Array.mem_toList_iff, Array.mem_iff_getElem?]; exact ⟨j, q1⟩) q3
        simp [Instr.lookup, run_underlying hT, MapKept.run_getObj_map h1, MapKept.run_checkKey hk hik, MapKept.run_findKey hk g1, hz1, Result.andThen, hn]
      · obtain ⟨j', b, q1, q2, q3, q4, q5⟩ := h4 e (List.mem_of_getElem? g2)
        have hb : b = a0 := by rw [g3] at q4; injection q4 with _ q4; exact q4.symm
        subst hb
        simp [Instr.lookup, run_underlying hT, MapKept.run_getObj_map h1, MapKept.run_checkKey hk hik, MapKept.run_findKey hk g1, Result.andThen, q5, List.mem_of_getElem? q2]
    exact .val s.m (v := .bool (decide (a0 ∈ ks))) (by simp [execOp, ho, em, ex, hrun]) (.pv _ _ (.bool _))) (by subst ht; exact k)
theorem put_yields {kt et : TypeId} {i : Nat} {ks : List Int} {a0 : Int} {c : Cx} {w : World} (s : MSim z h c w) (hT : P.underlying T = some (.map kt et)) (hk : P.underlying kt = some (.int .i64)) (hi : h[i]? = some (.mp none (setE ks))) :
    ∃ w', (Instr.mapUpdate T (.map (some (c.mu i))) (.int .i64 a0) (.bool true)).run P w = .ok () w' ∧ Later c h w c (setx h i (.mp none (setE (insK ks a0)))) w' ∧ MSim z (setx h i (.mp none (setE (insK ks a0)))) c w' := by
  obtain ⟨ms, h1, h2, h3, h4⟩ := set_of (s.hs.blk i _ hi)
  have hik : MapKept.IsKey (.int .i64) (.int .i64 a0) := rfl
  have hlv : lv c h i := by simp [lv, hi]
  have hlv' : lv c (setx h i (.mp none (setE (insK ks a0)))) i := by simp [lv, setx_same]
  have fin : ∀ (ms' : Array MapEntry), ms'.size = (insK ks a0).length → (∀ (j : Nat) (b : Int), (insK ks a0)[j]? = some b → ∃ e, ms'[j]? = some e ∧ e.born = j ∧ e.key = .int .i64 b ∧ e.val = .bool true) →
      Later c h w c (setx h i (.mp none (setE (insK ks a0)))) { w with heap := w.heap.setIfInBounds (c.mu i) (.map ms' (insK ks a0).length) } ∧ MSim z (setx h i (.mp none (setE (insK ks a0)))) c { w with heap := w.heap.setIfInBounds (c.mu i) (.map ms' (insK ks a0).length) } := fun ms' e1 e2 =>
    s.turn i _ _ hi hlv hlv' ⟨(fun cs e => by cases e), (fun sz rows e => by cases e), (fun k es e => by injection e with e e'; subst e; exact ⟨_, rfl⟩)⟩ rfl rfl rfl (by simp) (fun x _ hx => (MapKept.heap_set h1).2 x hx)
      (fun _ => ⟨ms', by rw [setE_len]; exact (MapKept.heap_set h1).1, by rw [setE_len]; exact e1, fun j k x hj => by
        simp only [setE, List.getElem?_map, Option.map_eq_some_iff] at hj
        obtain ⟨b, hb, e⟩ := hj
        injection e with e3 e4; subst e3; subst e4
        obtain ⟨en, q1, q2, q3, q4⟩ := e2 j b hb
        exact ⟨en, q1, q2, by rw [q3]; exact .int _ _, by rw [q4]; exact .bool _⟩⟩)
  rcases MapKept.findNow_spec hik ms.toList 0 (fun e he => by obtain ⟨j, b, _, _, _, e4, _⟩ := h4 e he; rw [e4]; rfl) with ⟨g1, g2⟩ | ⟨j, e, g1, g2, g3⟩
  · have hn : a0 ∉ ks := fun hin => by
      obtain ⟨j, hj, e1⟩ := List.getElem_of_mem hin
      obtain ⟨e, q1, _, q3, _⟩ := h3 j a0 (by rw [List.getElem?_eq_getElem hj, e1])
      exact g2 e (by rw [Array.mem_toList_iff, Array.mem_iff_getElem?]; exact ⟨j, q1⟩) q3
    have hI : insK ks a0 = ks ++ [a0] := if_neg hn
    refine ⟨_, ?_, fin (ms.push { key := .int .i64 a0, val := .bool true, born := ks.length }) (by rw [hI]; simp [h2]) (fun j b hj => ?_)⟩
    · simp [Instr.mapUpdate, run_underlying hT, MapKept.run_getObj_map h1, MapKept.run_checkKey hk hik, MapKept.run_findKey hk g1, MapKept.run_setObj_map _ h1, Result.andThen, hI]
    · rw [hI] at hj
      rcases Nat.lt_or_ge j ks.length with hlt | hge
      · rw [List.getElem?_append_left hlt] at hj
        obtain ⟨en, q1, q2⟩ := h3 j b hj
        exact ⟨en, by rw [Array.getElem?_push_lt (by omega)]; rw [← q1, Array.getElem?_eq_getElem (by omega)], q2⟩
      · rw [List.getElem?_append_right hge] at hj
        have hj0 : j = ks.length := by have := (List.getElem?_eq_some_iff.1 hj).1; simp at this; omega
        subst hj0
        simp at hj; subst hj
        have hp := Array.getElem?_push_size (xs := ms) (x := ({ key := .int .i64 a0, val := .bool true, born := ks.length } : MapEntry))
        rw [h2] at hp
        exact ⟨_, hp, rfl, rfl, rfl⟩
  · obtain ⟨j', b, q1, q2, q3, q4, q5⟩ := h4 e (List.mem_of_getElem? g2)
    have hb : b = a0 := by rw [g3] at q4; injection q4 with _ q4; exact q4.symm
    subst hb
    have hI : insK ks b = ks := if_pos (List.mem_of_getElem? q2)
    have hj : ms[j]? = some e := by simpa using g2
    refine ⟨_, ?_, fin (ms.modify j fun e => { e with key := .int .i64 b, val := .bool true }) (by rw [hI]; simp [h2]) (fun j₂ b₂ hj₂ => ?_)⟩
    · simp [Instr.mapUpdate, run_underlying hT, MapKept.run_getObj_map h1, MapKept.run_checkKey hk hik, MapKept.run_findKey hk g1, hj, g3, MapKept.run_keyThatStays hik, MapKept.run_setObj_map _ h1, Result.andThen, hI]
    · rw [hI] at hj₂
      obtain ⟨en, p1, p2, p3, p4⟩ := h3 j₂ b₂ hj₂
      rw [Array.getElem?_modify, p1]
      by_cases hjj : j = j₂
      · subst hjj
        rw [hj] at p1; injection p1 with p1; subst p1
        rw [g3] at p3
        exact ⟨{ e with key := .int .i64 b, val := .bool true }, by simp, p2, p3, rfl⟩
      · exact ⟨en, by simp [hjj], p2, p3, p4⟩
theorem AWL.mput {kt et : TypeId} {i : Nat} {ks : List Int} {a0 : Int} {t1 : List AV} {h1 : List ABlk} (hw : wantB ops.toList t o.guard = some true) (ho : o.op = .mapUpdate T m x y ∨ o.op = .insert T m x y) (hT : P.underlying T = some (.map kt et)) (hk : P.underlying kt = some (.int .i64))
    (hm : evO t m = .mp i) (hi : h[i]? = some (.mp none (setE ks))) (hx : evO t x = .pv (.int .i64 a0)) (hy : evO t y = .pv (.bool true)) (ht : putT t o.dst .any = t1) (hh : setx h i (.mp none (setE (insK ks a0))) = h1)
    (k : AWL P z ops l ⟨t1, h1⟩ Q) : AWL P z ops (o :: l) ⟨t, h⟩ Q :=
  .op2 hw (r := .any) (h' := h1) (fun c a w s => by
    subst hh
    have hv := evO_rep s.ts m
    rw [hm] at hv
    have em := av_map hv hi
    have hvx := evO_rep s.ts x
    rw [hx] at hvx
    have ex := av_int hvx
    have hvy := evO_rep s.ts y
    rw [hy] at hvy
    have ey := av_bool hvy
    obtain ⟨w', r1, L, M⟩ := put_yields (a0 := a0) s.m hT hk hi
    unfold Yields
    have : (execOp a.eval o).run P w = .ok .skip w' := by rcases ho with ho | ho <;> simp [execOp, ho, em, ex, ey, r1]
    rw [this]
    exact ⟨_, L, M, .any _⟩) (by subst ht; exact k)
theorem AWL.rangeM {kt et : TypeId} {i : Nat} {ks : List Int} {t1 : List AV} {h1 : List ABlk} (hw : wantB ops.toList t o.guard = some true) (ho : o.op = .range T m) (hT : P.underlying T = some (.map kt et))
    (hm : evO t m = .mp i) (hi : h[i]? = some (.mp none (setE ks))) (ht : putT t o.dst (.mp h.length) = t1) (hh : setx h h.length (.mp (some (i, ks.length)) (seenE [])) = h1)
    (k : AWL P z ops l ⟨t1, h1⟩ Q) : AWL P z ops (o :: l) ⟨t, h⟩ Q :=
  .op2 hw (r := .mp h.length) (h' := h1) (fun c a w s => by
    subst hh
    have hv := evO_rep s.ts m
    rw [hm] at hv
    have em := av_map hv hi
    obtain ⟨ms, q1, q2, q3, q4⟩ := set_of (s.m.hs.blk i _ hi)
    have hil : i < h.length := (List.getElem?_eq_some_iff.1 hi).1
    have hne : i ≠ h.length := by omega
    have hu : unborn h h.length := .inl (List.getElem?_eq_none (Nat.le_refl _))
    have hs : (setx h h.length (.mp (some (i, ks.length)) (seenE [])))[i]? = some (.mp none (setE ks)) := setx_some hne hi
    obtain ⟨L, M⟩ := s.m.born h.length hu s.m.ext.1 (.mp (some (i, ks.length)) (seenE [])) (0, 0) (.mapIter (some (c.mu i)) ks.length #[] ks.length)
      ⟨c.mu i, .mp i _ (.mp none (setE ks)) rfl hs (by intro h; cases h) (fun k es e => by injection e with e1 e2; subst e1; rw [(c.born_other h.length _ (0, 0) i hne).1]; rfl), by rw [Cx.born_mu, seen_of]; exact heap_alloc_new _ _⟩
    unfold Yields
    have : (execOp a.eval o).run P w = .ok (.value (.pointer (some ⟨w.heap.size, 0, none⟩))) (w.alloc (.mapIter (some (c.mu i)) ks.length #[] ks.length)) := by simp [execOp, ho, em, run_range_map w T kt et (c.mu i) ms ks.length hT q1]
    rw [this]
    refine ⟨_, L, M, .mp h.length _ (.mp (some (i, ks.length)) (seenE [])) rfl (setx_same _ _ _) (by intro h; cases h) fun k es e => ?_⟩
    injection e with e1 e2; subst e1
    rw [Cx.born_mu]; rfl) (by subst ht; exact k)
/-- One step of going through a map: all were met, or any one that was not. -/
theorem AWL.nextM {i q : Nat} {ks : List Int} {js : List Nat} (hw : wantB ops.toList t o.guard = some true) (ho : o.op = .next m false)
    (hm : evO t m = .mp q) (hq : h[q]? = some (.mp (some (i, ks.length)) (seenE js))) (hi : h[i]? = some (.mp none (setE ks)))
    (k1 : (∀ j, j < ks.length → j ∈ js) → AWL P z ops l ⟨putT t o.dst (.pv (.tup [.bool false])), h⟩ Q)
    (k2 : ∀ j a, j ∉ js → ks[j]? = some a → AWL P z ops l ⟨putT t o.dst (.pv (.tup [.bool true, .int .i64 a, .bool true])), setx h q (.mp (some (i, ks.length)) (seenE (js ++ [j])))⟩ Q) : AWL P z ops (o :: l) ⟨t, h⟩ Q := fun c a w s => by
  refine wpList_step fun K hK => ?_
  rw [wantB_run s hw]
  simp only [if_true]
  have hv := evO_rep s.ts m
  rw [hm] at hv
  have em := av_iter hv hq
  obtain ⟨ms, q1, q2, q3, q4⟩ := set_of (s.m.hs.blk i _ hi)
  obtain ⟨g, g1, g2⟩ := s.m.hs.blk q _ hq
  have eg : g = c.mu i := by have := av_map g1 hi; injection this with this; injection this
  subst eg
  rw [seen_of] at g2
  have hlt : ∀ e ∈ ms.toList, e.born < ks.length := fun e he => by
    obtain ⟨j, b, p1, p2, p3, _⟩ := q4 e he
    rw [p3]; exact (List.getElem?_eq_some_iff.1 p2).1
  rcases run_next_at (P := P) w o.type (c.mu q) (c.mu i) ks.length ks.length js.toArray ms ks.length g2 q1 hlt (Nat.le_refl _) with ⟨e0, r0⟩ | ⟨e, e0, w1, e1, r1⟩
  · have hy : Yields P z o a.eval c h w (.pv (.tup [.bool false])) h := .val s.m (v := .tuple #[.bool false]) (by simp [execOp, ho, em, r0]) (.pv _ _ (.tup [.bool false] [.bool false] rfl (fun k p v h1 h2 => by
      cases k with
      | zero => simp at h1 h2; subst h1; subst h2; exact .bool _
      | succ k => simp at h1)))
    refine hy.wp fun c' v w' L M hr => hK _ _ (k1 (fun j hj => ?_) c' _ w' ⟨M, (s.ts.later L).put hr o.dst, by rw [put_defers]; exact s.df⟩)
    obtain ⟨en, p1, p2, _⟩ := q3 j ks[j] (List.getElem?_eq_getElem hj)
    by_cases hin : j ∈ js
    · exact hin
    · exfalso
      have : en ∈ leftOf ms js.toArray := by
        unfold leftOf
        rw [Array.mem_filter]
        exact ⟨Array.mem_iff_getElem?.2 ⟨j, p1⟩, by simp [p2, hin]⟩
      have h0 : leftOf ms js.toArray = #[] := Array.eq_empty_of_size_eq_zero e0
      rw [h0] at this
      simp at this
  · have hin : e ∈ ms ∧ e.born ∉ js := by
      unfold leftOf at e0
      rw [Array.mem_toList_iff, Array.mem_filter] at e0
      exact ⟨e0.1, by simpa using e0.2⟩
    obtain ⟨j, b, p1, p2, p3, p4, p5⟩ := q4 e (by simpa using hin.1)
    have hqr : q ≠ i := fun e => by subst e; rw [hq] at hi; injection hi with hi; cases hi
    have M1 : MSim z h c w1 := by rcases e1 with rfl | rfl; exact s.m; exact (s.drew).m
    have L1 : Later c h w c h w1 := by rcases e1 with rfl | rfl; exact .refl _ _ _; exact Later.same c h rfl
    have g2' : w1.heap[c.mu q]? = some (.mapIter (some (c.mu i)) ks.length js.toArray ks.length) := by rcases e1 with rfl | rfl <;> exact g2
    have hlv : lv c h q := by simp [lv, hq]
    have hs : (setx h q (.mp (some (i, ks.length)) (seenE (js ++ [j]))))[i]? = some (.mp none (setE ks)) := setx_some (Ne.symm hqr) hi
    obtain ⟨L2, M2⟩ := M1.turn (w' := ChangeMaps.setBlock w1 (c.mu q) (.mapIter (some (c.mu i)) ks.length (js.toArray.push e.born) ks.length)) q _ (.mp (some (i, ks.length)) (seenE (js ++ [j]))) hq hlv (by simp [lv, setx_same]) ⟨(fun cs e => by cases e), (fun sz rows e => by cases e), (fun k es e => by injection e with e e'; subst e; exact ⟨_, rfl⟩)⟩ rfl rfl rfl (by simp [ChangeMaps.setBlock])
      (fun x _ hx => by simp [ChangeMaps.setBlock, Ne.symm hx])
      (fun L => ⟨c.mu i, .mp i _ (.mp none (setE ks)) rfl hs (by intro h; cases h) (fun k es e => by injection e with e1 e2; subst e1; rfl), by
        rw [seen_of]
        have : (c.mu q) < w1.heap.size := (Array.getElem?_eq_some_iff.1 g2').1
        simp [ChangeMaps.setBlock, this, p3]⟩)
    have hy : Yields P z o a.eval c h w (.pv (.tup [.bool true, .int .i64 b, .bool true])) (setx h q (.mp (some (i, ks.length)) (seenE (js ++ [j])))) := by
      unfold Yields
      have : (execOp a.eval o).run P w = .ok (.value (.tuple #[.bool true, e.key, e.val])) (ChangeMaps.setBlock w1 (c.mu q) (.mapIter (some (c.mu i)) ks.length (js.toArray.push e.born) ks.length)) := by simp [execOp, ho, em, r1]
      rw [this]
      refine ⟨c, L1.trans L2, M2, .pv _ _ (.tup [.bool true, .int .i64 b, .bool true] [.bool true, e.key, e.val] rfl (fun k p v h1 h2 => ?_))⟩
      rw [p4, p5] at h2
      rcases k with _ | _ | _ | k
      · simp at h1 h2; subst h1; subst h2; exact .bool _
      · simp at h1 h2; subst h1; subst h2; exact .int _ _
      · simp at h1 h2; subst h1; subst h2; exact .bool _
      · simp at h1
    exact hy.wp fun c' v w' L M hr => hK _ _ (k2 j b (by rw [← p3]; exact hin.2) p2 c' _ w' ⟨M, (s.ts.later L).put hr o.dst, by rw [put_defers]; exact s.df⟩)
theorem AWL.entryM {i q j : Nat} {ks : List Int} {js : List Nat} {a0 : Int} {t1 : List AV} (hw : wantB ops.toList t o.guard = some true) (ho : o.op = .entry m)
    (hm : evO t m = .mp q) (hq : h[q]? = some (.mp (some (i, ks.length)) (seenE (js ++ [j])))) (hi : h[i]? = some (.mp none (setE ks))) (hj : ks[j]? = some a0) (ht : putT t o.dst (.pv (.tup [.int .i64 a0, .bool true])) = t1)
    (k : AWL P z ops l ⟨t1, h⟩ Q) : AWL P z ops (o :: l) ⟨t, h⟩ Q :=
  .op2 hw (r := .pv (.tup [.int .i64 a0, .bool true])) (h' := h) (fun c a w s => by
    have hv := evO_rep s.ts m
    rw [hm] at hv
    have em := av_iter hv hq
    obtain ⟨ms, q1, q2, q3, q4⟩ := set_of (s.m.hs.blk i _ hi)
    obtain ⟨g, g1, g2⟩ := s.m.hs.blk q _ hq
    have eg : g = c.mu i := by have := av_map g1 hi; injection this with this; injection this
    subst eg
    rw [seen_of] at g2
    obtain ⟨e, p1, p2, p3, p4⟩ := q3 j a0 hj
    have hn : (ms.toList.map (·.born)).Nodup := by
      rw [List.Nodup, List.pairwise_iff_getElem]
      intro a b ha hb hab
      have ha' : a < ms.size := by simpa using ha
      have hb' : b < ms.size := by simpa using hb
      obtain ⟨ea, x1, x2, _⟩ := q3 a ks[a] (List.getElem?_eq_getElem (by omega))
      obtain ⟨eb, y1, y2, _⟩ := q3 b ks[b] (List.getElem?_eq_getElem (by omega))
      rw [Array.getElem?_eq_getElem ha'] at x1; injection x1 with x1
      rw [Array.getElem?_eq_getElem hb'] at y1; injection y1 with y1
      simp [x1, y1, x2, y2]; omega
    have hr := run_entry_at (P := P) w (c.mu q) (c.mu i) ks.length js.toArray ms ks.length e (by rw [g2, p2]; simp) q1 (by rw [Array.mem_toList_iff, Array.mem_iff_getElem?]; exact ⟨j, p1⟩) hn
    exact .val s.m (v := .tuple #[e.key, e.val]) (by simp [execOp, ho, em, hr]) (.pv _ _ (.tup [.int .i64 a0, .bool true] [e.key, e.val] rfl (fun k p v h1 h2 => by
      rw [p3, p4] at h2
      rcases k with _ | _ | k
      · simp at h1 h2; subst h1; subst h2; exact .int _ _
      · simp at h1 h2; subst h1; subst h2; exact .bool _
      · simp at h1)))) (by subst ht; exact k)
/-- A cut off behind of a slice of the call's own: what is left bears a new name. -/
theorem AWL.cutw {e : TypeId} {sz by' i : Nat} {k1 : IntKind} {d : Int} {rows : List (List PV)} {t1 : List AV} {h1 : List ABlk} (hw : wantB ops.toList t o.guard = some true) (ho : o.op = .slice T x none (some y) none) (hT : tk P T = .slice e sz by') (hp : 0 < sz)
    (hx : evO t x = .vs i 0 rows.length) (hi : h[i]? = some (.vec sz rows)) (hy : evO t y = .pv (.int k1 d)) (hd : 0 ≤ d ∧ d ≤ (rows.length : Int)) (ht : putT t o.dst (.vs h.length 0 d.toNat) = t1) (hh : setx (setx h i .gone) h.length (.vec sz (rows.take d.toNat)) = h1)
    (k : AWL P z ops l ⟨t1, h1⟩ Q) : AWL P z ops (o :: l) ⟨t, h⟩ Q :=
  .op2 hw (r := .vs h.length 0 d.toNat) (h' := h1) (fun c a w s0 => by
    subst hh
    have s := s0.m
    obtain ⟨hu, hsz, _⟩ := tk_slice hT
    have hv := evO_rep s0.ts x
    rw [hx] at hv
    have hvy := evO_rep s0.ts y
    rw [hy] at hvy
    have ey : a.eval y = .int k1 d := av_int hvy
    generalize hval : a.eval x = vx at hv
    cases hv with
    | vs _ _ _ _ b hone hib hnb hvv =>
      rw [hi] at hib; injection hib with hib; subst hib
      obtain ⟨g1, A, rfl, g3⟩ := hvv _ _ rfl
      obtain ⟨b1, b2, b3⟩ := s.hs.blk i _ hi
      simp only [Nat.sub_zero, Nat.zero_mul, Nat.add_zero] at g3 hval
      have hrun := bounds_run (P := P) (w := w) (c := c) (h := h) (isS := true) (len := rows.length) (cap := (c.vd i).2) (lo := none) (hi := some (.pv (.int k1 d))) (lov := none) (hiv := some (.int k1 d)) (l := 0) (r := d)
        (fun x hx => by cases hx) (fun _ => rfl) (fun x hx => by injection hx with hx; subst hx; exact ⟨_, rfl, .pv _ _ (.int _ _)⟩) (fun h => by cases h) rfl rfl ⟨Int.le_refl _, hd.1, hd.2⟩ b1
      have hsl : (Instr.sliceAt T (.slice A rows.length (c.vd i).2) none (some (.int k1 d)) none).run P w = .ok (.slice A d.toNat (c.vd i).2) w := by
        simp [Instr.sliceAt, Instr.slice, run_underlying hu, hrun, szOf_run hsz hp]
        cases A <;> simp [Addr.add]
      obtain ⟨Ld, Md⟩ := s.drop i _ hi (by intro h; cases h) (fun _ => False) (fun x h => h.elim)
      have hil : i < h.length := (List.getElem?_eq_some_iff.1 hi).1
      have hne : h.length ≠ i := by omega
      have hu₁ : unborn (setx h i .gone) h.length := by
        unfold unborn
        rcases setx_other h i h.length .gone hne with e | ⟨e1, e2⟩
        · rw [e]; exact .inl (List.getElem?_eq_none (Nat.le_refl _))
        · exact .inr e2
      have hdn : d.toNat ≤ rows.length := by omega
      obtain ⟨k2, k3⟩ := Md.take (w' := w) (g := c.mu i) (vd := c.vd i) (b := .vec sz (rows.take d.toNat)) hu₁ s.ext.1
        (fun lj => by
          have hcap : 0 < (c.vd i).2 := by simpa only [lv, setx_same, Cx.born_vd] using lj
          have hl : lv c h i := by simp [lv, hi, hcap]
          exact ⟨s.own i hl, (fun h => h.elim (s.hs.nok i hl) id), fun j lj e => by
            by_cases hji : j = i
            · subst hji; simp [lv, setx_same] at lj
            · exact hji (s.hs.inj j i ((lv_setx_other (c := c) (c' := { c with ok := fun x => c.ok x ∨ False }) hji rfl).1 lj) hl e)⟩) rfl rfl rfl (Nat.le_refl _) (fun _ _ _ => rfl)
        (fun _ => by
          refine ⟨by rw [Cx.born_vd]; simp; omega, fun j row hj => ?_, fun hp2 => ?_⟩
          · exact b2 j row (by rw [List.getElem?_take] at hj; split at hj <;> first | exact hj | cases hj)
          · rw [Cx.born_vd] at hp2
            obtain ⟨vs, te, q1, q2, q3⟩ := b3 hp2
            refine ⟨vs, te, by rw [Cx.born_mu]; exact q1, by rw [Cx.born_vd]; exact q2, fun j row k p hj hk => ?_⟩
            have hj' : rows[j]? = some row := by rw [List.getElem?_take] at hj; split at hj <;> first | exact hj | cases hj
            obtain ⟨v, v1, v2, v3⟩ := q3 j row k p hj' hk
            exact ⟨v, by rw [Cx.born_vd]; exact v1, v2, v3.mono (fun b hb => .inl hb) (fun _ _ => rfl)⟩)
      unfold Yields
      have : (execOp a.eval o).run P w = .ok (.value (.slice A d.toNat (c.vd i).2)) w := by simp [execOp, ho, hval, ey, hsl]
      rw [this]
      refine ⟨_, Ld.trans k2, k3, .vs h.length 0 _ _ (.vec sz (rows.take d.toNat)) rfl (setx_same _ _ _) (by intro h; cases h) fun sz' rows' e' => ?_⟩
      injection e' with e1 e2; subst e1; subst e2
      refine ⟨by simp; omega, A, by rw [Cx.born_vd]; simp, fun hlt => ?_⟩
      rw [Cx.born_vd] at hlt ⊢
      rw [Cx.born_mu]
      rw [g3 hlt]
      simp) (by subst ht; exact k)
end
end Go.Ab
