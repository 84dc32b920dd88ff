/- Whether two values of one type are the same: numbers, truths, texts, and rows of such. -/
import Derived.Test.YtknlgjeeenkleaaAH
import Derived.DeepKeys
namespace Go.Ab
open Go.RowKit
set_option linter.unusedVariables false
set_option linter.unusedSimpArgs false

def eqP : PV → PV → Option Bool
  | .int k a, .int k' b => if k = k' then some (decide (a = b)) else none
  | .bool a, .bool b => some (a == b)
  | .str a, .str b => some (decide (a = b))
  | _, _ => none
def eqL : List PV → List PV → Option Bool
  | [], [] => some true
  | x :: xs, y :: ys => match eqP x y, eqL xs ys with
    | some a, some b => some (a && b)
    | _, _ => none
  | _, _ => none
theorem eqL_append {as bs : List PV} : ∀ {xs ys : List PV} {r : Bool}, xs.length = ys.length → eqL (xs ++ as) (ys ++ bs) = some r → ∃ p q, eqL xs ys = some p ∧ eqL as bs = some q ∧ r = (p && q)
  | [], [], r, _, h => ⟨true, r, rfl, h, rfl⟩
  | x :: xs, y :: ys, r, hl, h => by
    simp only [List.cons_append, eqL] at h
    split at h
    · rename_i a b h1 h2
      injection h with h; subst h
      obtain ⟨p, q, g1, g2, rfl⟩ := eqL_append (by simpa using hl) h2
      exact ⟨a && p, q, by simp [eqL, h1, g1], g2, by simp [Bool.and_assoc]⟩
    · cases h
  | [], _ :: _, _, hl, _ => by simp at hl
  | _ :: _, [], _, hl, _ => by simp at hl

/-- Which kind each cell of a type is: 0 a number, 1 a truth, 2 a text. -/
def shpF (P : Program) (g : TypeId → Option (List Nat)) : Nat → List Field → Option (List Nat)
  | _, [] => some []
  | off, f :: fs => if f.name ≠ "_" ∧ f.offset = off then (match g f.type with
    | some l => if szOf P f.type = l.length ∧ 0 < l.length then (shpF P g (off + l.length) fs).map (l ++ ·) else none
    | none => none) else none
def shp (P : Program) : Nat → TypeId → Option (List Nat)
  | 0, _ => none
  | d + 1, t => match P.underlying t with
    | some .bool => some [1]
    | some (.int _) => some [0]
    | some .string => some [2]
    | some (.array n e) => match shp P d e with
      | some l => if szOf P e = l.length ∧ 0 < l.length then some (List.replicate n l).flatten else none
      | none => none
    | some (.struct fs) => if P.stoodInHeld t = true then none else shpF P (shp P d) 0 fs.toList
    | _ => none
def fitP : Nat → PV → Bool
  | 0, .int _ _ => true
  | 1, .bool _ => true
  | 2, .str _ => true
  | _, _ => false
def fit : List Nat → List PV → Bool
  | [], [] => true
  | l :: ls, x :: xs => fitP l x && fit ls xs
  | _, _ => false
theorem fit_length : ∀ {l : List Nat} {xs : List PV}, fit l xs = true → xs.length = l.length
  | [], [], _ => rfl
  | _ :: _, _ :: _, h => by simp only [fit, Bool.and_eq_true] at h; simp [fit_length h.2]
  | [], _ :: _, h => by cases h
  | _ :: _, [], h => by cases h
theorem fit_append {m : List Nat} : ∀ {l : List Nat} {xs : List PV}, fit (l ++ m) xs = true → fit l (xs.take l.length) = true ∧ fit m (xs.drop l.length) = true
  | [], xs, h => ⟨by simp [fit], by simpa using h⟩
  | a :: l, x :: xs, h => by
    simp only [List.cons_append, fit, Bool.and_eq_true] at h
    obtain ⟨h1, h2⟩ := fit_append h.2
    exact ⟨by simp [fit, h.1, h1], by simpa using h2⟩
  | _ :: _, [], h => by cases h

def tov : PV → Value
  | .int k n => .int k n
  | .bool b => .bool b
  | .str s => .string s
  | _ => undef
theorem tov_rep {ok : Nat → Prop} {w : World} {k : Nat} {p : PV} {v : Value} (h : Rep ok w p v) (hf : fitP k p = true) : v = tov p := by
  cases h <;> first | rfl | (match k, hf with | 0, hf => cases hf | 1, hf => cases hf | 2, hf => cases hf | _ + 3, hf => cases hf)
theorem tovs_rep {ok : Nat → Prop} {w : World} : ∀ {l : List Nat} {ps : List PV} {vs : List Value}, fit l ps = true → ps.length = vs.length → (∀ (k : Nat) (p : PV) (v : Value), ps[k]? = some p → vs[k]? = some v → Rep ok w p v) → vs = ps.map tov
  | [], [], [], _, _, _ => rfl
  | l :: ls, p :: ps, v :: vs, hf, hl, hr => by
    simp only [fit, Bool.and_eq_true] at hf
    have h1 := tov_rep (hr 0 p v rfl rfl) hf.1
    have h2 := tovs_rep (vs := vs) hf.2 (by simpa using hl) fun k p v hk hv => hr (k + 1) p v (by simpa using hk) (by simpa using hv)
    simp [h1, ← h2]
  | [], [], _ :: _, _, hl, _ => by simp at hl
  | [], _ :: _, _, hf, _, _ => by cases hf
  | _ :: _, [], _, hf, _, _ => by cases hf
  | _ :: _, _ :: _, [], _, hl, _ => by simp at hl

/-- A value of a type, of its cells. -/
def wrapV (P : Program) (t : TypeId) (xs : List PV) : Value := if agOf P t = 2 then .agg (xs.map tov).toArray else tov (xs.headD .nilFn)

theorem part_wrap {P : Program} {e : TypeId} {d : Nat} {l : List Nat} (hs : shp P d e = some l) (hsz : szOf P e = l.length) (hpos : 0 < l.length) {xs : List PV} {off : Nat} (hl : off + l.length ≤ xs.length) (w : World) :
    (part e (xs.map tov).toArray off).run P w = .ok (wrapV P e ((xs.drop off).take l.length)) w := by
  by_cases hag : agOf P e = 2
  · have he : (xs.map tov).toArray.extract off (off + szOf P e) = (((xs.drop off).take l.length).map tov).toArray := by
      rw [hsz, List.extract_toArray, List.extract_eq_take_drop, ← List.map_drop, ← List.map_take]
      simp
    simp only [part, Sem.run_bind, agOf_run hag (by omega), szOf_run rfl (show 0 < szOf P e by omega), Result.andThen_ok, wrapV, hag, beq_self_eq_true, if_true, Sem.run_pure, he]
  · have h1 : agOf P e = 1 ∧ l.length = 1 := by
      cases d with
      | zero => simp [shp] at hs
      | succ d =>
        simp only [shp] at hs
        unfold agOf at hag ⊢
        cases hu : P.underlying e with
        | none => simp [hu] at hs
        | some k =>
          simp only [hu] at hs hag ⊢
          cases k <;> simp at hs hag ⊢ <;> (subst hs; rfl)
    have hlt : off < xs.length := by omega
    have hx : ((xs.drop off).take l.length).headD .nilFn = xs[off] := by
      rw [h1.2, List.drop_eq_getElem_cons hlt]; rfl
    have hg : (xs.map tov).toArray[off]? = some (tov xs[off]) := by simp [hlt]
    simp only [part, Sem.run_bind, agOf_run h1.1 (by omega), Result.andThen_ok, wrapV, hag, hx, hg]
    rfl

/-- What is asked at a type. -/
def EqF (P : Program) (dd : Nat) (t : TypeId) (l : List Nat) : Prop := ∀ (xs ys : List PV) (r : Bool) (w : World), fit l xs = true → fit l ys = true → eqL xs ys = some r → (Op.equalIn dd t (wrapV P t xs) (wrapV P t ys)).run P w = .ok r w

theorem take_drop_app (xs : List PV) (n : Nat) : xs.take n ++ xs.drop n = xs := List.take_append_drop n xs
theorem eqFields_flat {P : Program} {d dd : Nat} {xs ys : List PV} {w : World} (ih : ∀ t l, shp P d t = some l → EqF P dd t l) : ∀ (fs : List Field) (off : Nat) (m : List Nat) (r : Bool), shpF P (shp P d) off fs = some m → fit m (xs.drop off) = true → fit m (ys.drop off) = true →
    eqL (xs.drop off) (ys.drop off) = some r → (Op.eqFields dd (xs.map tov).toArray (ys.map tov).toArray fs).run P w = .ok r w
  | [], off, m, r, hm, hx, hy, he => by
    simp only [shpF, Option.some.injEq] at hm; subst hm
    have h1 := fit_length hx
    have h2 := fit_length hy
    have e1 : xs.drop off = [] := List.eq_nil_of_length_eq_zero h1
    have e2 : ys.drop off = [] := List.eq_nil_of_length_eq_zero h2
    rw [e1, e2] at he
    simp only [eqL, Option.some.injEq] at he; subst he
    simp [Op.eqFields]
  | f :: fs, off, m, r, hm, hx, hy, he => by
    simp only [shpF] at hm
    split at hm
    · rename_i hn
      split at hm
      · rename_i l hl
        split at hm
        · rename_i hsz
          simp only [Option.map_eq_some_iff] at hm
          obtain ⟨m', hm', rfl⟩ := hm
          obtain ⟨x1, x2⟩ := fit_append hx
          obtain ⟨y1, y2⟩ := fit_append hy
          have lx := fit_length x1
          have ly := fit_length y1
          rw [List.drop_drop] at x2 y2
          have lx' : off + l.length ≤ xs.length := by simp at lx; omega
          have ly' : off + l.length ≤ ys.length := by simp at ly; omega
          rw [← take_drop_app (xs.drop off) l.length, ← take_drop_app (ys.drop off) l.length] at he
          obtain ⟨p, q, g1, g2, rfl⟩ := eqL_append (by rw [lx, ly]) he
          rw [List.drop_drop, List.drop_drop] at g2
          have hrest := eqFields_flat (w := w) ih fs (off + l.length) m' q hm' x2 y2 g2
          have ho := hn.2
          simp only [Op.eqFields, hn.1, ne_eq, not_false_eq_true, if_true, Sem.run_bind]
          rw [ho, part_wrap hl hsz.1 hsz.2 lx' w]
          simp only [Result.andThen_ok]
          rw [part_wrap hl hsz.1 hsz.2 ly' w]
          simp only [Result.andThen_ok]
          rw [ih f.type l hl _ _ p w x1 y1 g1]
          cases p
          · simp
          · simpa using hrest
        · cases hm
      · cases hm
    · cases hm

theorem eqItems_flat {P : Program} {dd : Nat} {e : TypeId} {d : Nat} {l : List Nat} {xs ys : List PV} {w : World} (hl : shp P d e = some l) (hsz : szOf P e = l.length) (hpos : 0 < l.length) (ih : EqF P dd e l) : ∀ (n i : Nat) (r : Bool), fit (List.replicate n l).flatten (xs.drop (i * l.length)) = true → fit (List.replicate n l).flatten (ys.drop (i * l.length)) = true →
    eqL (xs.drop (i * l.length)) (ys.drop (i * l.length)) = some r → (Op.eqItems dd e (szOf P e) (xs.map tov).toArray (ys.map tov).toArray (List.range' i n)).run P w = .ok r w
  | 0, i, r, hx, hy, he => by
    have h1 := fit_length hx
    have h2 := fit_length hy
    simp only [List.replicate_zero, List.flatten_nil, List.length_nil] at h1 h2
    have e1 := List.eq_nil_of_length_eq_zero h1
    have e2 := List.eq_nil_of_length_eq_zero h2
    rw [e1, e2] at he
    simp only [eqL, Option.some.injEq] at he; subst he
    simp [Op.eqItems]
  | n + 1, i, r, hx, hy, he => by
    simp only [List.replicate_succ, List.flatten_cons] at hx hy
    obtain ⟨x1, x2⟩ := fit_append hx
    obtain ⟨y1, y2⟩ := fit_append hy
    have lx := fit_length x1
    have ly := fit_length y1
    have hm : i * l.length + l.length = (i + 1) * l.length := by rw [Nat.add_mul]; omega
    rw [List.drop_drop, hm] at x2 y2
    have lx' : i * l.length + l.length ≤ xs.length := by simp at lx; omega
    have ly' : i * l.length + l.length ≤ ys.length := by simp at ly; omega
    rw [← take_drop_app (xs.drop (i * l.length)) l.length, ← take_drop_app (ys.drop (i * l.length)) l.length] at he
    obtain ⟨p, q, g1, g2, rfl⟩ := eqL_append (by rw [lx, ly]) he
    rw [List.drop_drop, List.drop_drop, hm] at g2
    have hrest := eqItems_flat (w := w) hl hsz hpos ih n (i + 1) q x2 y2 g2
    simp only [List.range'_succ, Op.eqItems, Sem.run_bind, hsz] at hrest ⊢
    rw [part_wrap hl hsz hpos lx' w]
    simp only [Result.andThen_ok]
    rw [part_wrap hl hsz hpos ly' w]
    simp only [Result.andThen_ok]
    rw [ih _ _ p w x1 y1 g1]
    cases p
    · simp
    · simpa using hrest

theorem eqFlat {P : Program} (D : Nat) : ∀ (d : Nat) (t : TypeId) (l : List Nat), shp P d t = some l → EqF P (D + d) t l
  | 0, t, l, h => by simp [shp] at h
  | d + 1, t, l, h => by
    intro xs ys r w hx hy he
    simp only [shp] at h
    cases hu : P.underlying t with
    | none => simp [hu] at h
    | some k =>
      simp only [hu] at h
      have one : ∀ n, l = [n] → ∃ x y, xs = [x] ∧ ys = [y] ∧ fitP n x = true ∧ fitP n y = true ∧ eqP x y = some r := by
        rintro n rfl
        have h1 := fit_length hx
        have h2 := fit_length hy
        obtain ⟨x, rfl⟩ := List.length_eq_one_iff.1 h1
        obtain ⟨y, rfl⟩ := List.length_eq_one_iff.1 h2
        simp only [fit, Bool.and_true] at hx hy
        refine ⟨x, y, rfl, rfl, hx, hy, ?_⟩
        simp only [eqL] at he
        split at he
        · rename_i a b h1 h2
          simp only [Option.some.injEq] at h2 he; subst h2; rw [h1, ← he]; simp
        · cases he
      cases k <;> simp only [reduceCtorEq, Option.some.injEq] at h
      case bool =>
        have hag : agOf P t = 1 := by simp [agOf, hu]
        obtain ⟨x, y, rfl, rfl, fx, fy, e⟩ := one 1 h.symm
        cases x <;> simp only [fitP] at fx <;> try cases fx
        cases y <;> simp only [fitP] at fy <;> try cases fy
        simp only [eqP, Option.some.injEq] at e; subst e
        simp only [wrapV, hag, show ¬ (1 : Nat) = 2 by omega, if_false, List.headD_cons, tov]
        exact run_equalIn_bool' w (D + d) t _ _ hu
      case int q =>
        have hag : agOf P t = 1 := by simp [agOf, hu]
        obtain ⟨x, y, rfl, rfl, fx, fy, e⟩ := one 0 h.symm
        cases x <;> simp only [fitP] at fx <;> try cases fx
        cases y <;> simp only [fitP] at fy <;> try cases fy
        simp only [eqP] at e
        split at e
        · rename_i hk; subst hk
          simp only [Option.some.injEq] at e; subst e
          simp only [wrapV, hag, show ¬ (1 : Nat) = 2 by omega, if_false, List.headD_cons, tov]
          exact run_equalIn_int w (D + d) t _ _ _ _ hu
        · cases e
      case string =>
        have hag : agOf P t = 1 := by simp [agOf, hu]
        obtain ⟨x, y, rfl, rfl, fx, fy, e⟩ := one 2 h.symm
        cases x <;> simp only [fitP] at fx <;> try cases fx
        cases y <;> simp only [fitP] at fy <;> try cases fy
        simp only [eqP, Option.some.injEq] at e; subst e
        simp only [wrapV, hag, show ¬ (1 : Nat) = 2 by omega, if_false, List.headD_cons, tov, ← toList_eq_iff]
        exact run_equalIn_string w (D + d) t _ _ hu
      case array n e =>
        have hag : agOf P t = 2 := by simp [agOf, hu]
        split at h
        · rename_i l' hl'
          split at h
          · rename_i hsz
            injection h with h; subst h
            simp only [wrapV, hag, if_true]
            obtain ⟨i, hi⟩ : ∃ i, P.info? e = some i := by
              cases hi : P.info? e with
              | none => have := hsz.1; simp [szOf, hi] at this; omega
              | some i => exact ⟨i, rfl⟩
            have hc : P.cellsOf e = szOf P e := by simp [Program.cellsOf, szOf, hi]
            rw [show D + (d + 1) = (D + d) + 1 from rfl, run_equalIn_array w (D + d) _ _ hu hi, hc, List.range_eq_range']
            exact eqItems_flat hl' hsz.1 hsz.2 (eqFlat D d e l' hl') n 0 r (by simpa using hx) (by simpa using hy) (by simpa using he)
          · cases h
        · cases h
      case struct fs =>
        have hag : agOf P t = 2 := by simp [agOf, hu]
        split at h
        · cases h
        · rename_i hst
          simp only [wrapV, hag, if_true]
          have hfs : P.fieldsOf t = fs := by simp [Program.fieldsOf, hu]
          rw [show D + (d + 1) = (D + d) + 1 from rfl, run_equalIn_struct w (D + d) t _ _ (by rw [hfs]; exact hu) (by simpa using hst), hfs]
          exact eqFields_flat (fun t l h => eqFlat D d t l h) fs.toList 0 l r h (by simpa using hx) (by simpa using hy) (by simpa using he)

/-- A type's cells, where values of it are told apart by them. -/
def eqT (P : Program) (t : TypeId) : Option (List Nat) := if P.eqGuardType P.depth t = true then none else shp P 20 t
/-- '==' and '!=' at a type, of truths, of rows of numbers, truths and texts. -/
def eqA (P : Program) (op : BinOp) (T : TypeId) (x y : AV) : Option PV :=
  match op with
  | .eql => (match pur x, pur y, eqT P T with
    | some (.agg xs), some (.agg ys), some l => if fit l xs = true ∧ fit l ys = true ∧ agOf P T = 2 then (eqL xs ys).map .bool else none
    | some (.bool a), some (.bool b), some [1] => if agOf P T = 1 then some (.bool (a == b)) else none
    | _, _, _ => none)
  | .neq => (match pur x, pur y, eqT P T with
    | some (.agg xs), some (.agg ys), some l => if fit l xs = true ∧ fit l ys = true ∧ agOf P T = 2 then (eqL xs ys).map fun b => .bool (!b) else none
    | some (.bool a), some (.bool b), some [1] => if agOf P T = 1 then some (.bool (!(a == b))) else none
    | _, _, _ => none)
  | _ => none
theorem eqT_bool {P : Program} {T : TypeId} {l : List Nat} (h : eqT P T = some l) (hag : agOf P T = 1) (w : World) {a b r : Bool} (hl : l = [1]) (hr : (a == b) = r) : (Op.equal T (.bool a) (.bool b)).run P w = .ok r w := by
  unfold eqT at h
  split at h
  · cases h
  · have := eqFlat (P := P) 9980 20 T l h [.bool a] [.bool b] r w (by rw [hl]; rfl) (by rw [hl]; rfl) (by simp [eqL, eqP, hr])
    simpa [wrapV, hag, tov, Op.equal, Op.maxDepth] using this
theorem eqA_run {P : Program} {op : BinOp} {T : TypeId} {X Y : Operand} {c : Cx} {h : List ABlk} {w : World} {x y : AV} {u v : Value} {p : PV} (hx : ARep c h w x u) (hy : ARep c h w y v) (hb : eqA P op T x y = some p) :
    ∃ q, (do eqGuard op T X Y u v; binOp op T u v : Sem Value).run P w = .ok q w ∧ Rep c.ok w p q := by
  have agg : ∀ {xs ys : List PV} {l : List Nat} {r : Bool}, pur x = some (.agg xs) → pur y = some (.agg ys) → eqT P T = some l → fit l xs = true ∧ fit l ys = true ∧ agOf P T = 2 → eqL xs ys = some r →
      ∃ X Y, u = .agg X ∧ v = .agg Y ∧ P.eqGuardType P.depth T = false ∧ (Op.equalIn 10000 T (.agg X) (.agg Y)).run P w = .ok r w := by
    intro xs ys l r px py ht hf he
    have rx := hx.pur px
    have ry := hy.pur py
    unfold eqT at ht
    split at ht
    · cases ht
    · rename_i hg
      cases rx with
      | agg _ us hl ho hr =>
        cases ry with
        | agg _ vs hl' ho' hr' =>
          have e1 := tovs_rep hf.1 hl hr
          have e2 := tovs_rep hf.2.1 hl' hr'
          have := eqFlat (P := P) 9980 20 T l ht xs ys r w hf.1 hf.2.1 he
          simp only [wrapV, hf.2.2, if_true, ← e1, ← e2] at this
          exact ⟨_, _, rfl, rfl, by simpa using hg, this⟩
  unfold eqA at hb
  split at hb
  · split at hb
    · rename_i xs ys l px py ht
      split at hb
      · rename_i hf
        simp only [Option.map_eq_some_iff] at hb
        obtain ⟨r, hr, rfl⟩ := hb
        obtain ⟨A, B, rfl, rfl, hg, he⟩ := agg px py ht hf hr
        refine ⟨.bool r, ?_, .bool r⟩
        rw [Sem.run_bind, run_eqGuard_agg w _ _ _ _ _ _ hg]
        simp only [Result.andThen_ok]
        rw [run_eql_struct, he]; rfl
      · cases hb
    · rename_i a b px py ht
      split at hb
      · rename_i hag
        injection hb with hb; subst hb
        have rx := hx.pur px
        have ry := hy.pur py
        cases rx; cases ry
        refine ⟨.bool (a == b), ?_, .bool _⟩
        simp [eqGuard, binOp, eqT_bool ht hag w rfl rfl]
      · cases hb
    · cases hb
  · split at hb
    · rename_i xs ys l px py ht
      split at hb
      · rename_i hf
        simp only [Option.map_eq_some_iff] at hb
        obtain ⟨r, hr, rfl⟩ := hb
        obtain ⟨A, B, rfl, rfl, hg, he⟩ := agg px py ht hf hr
        refine ⟨.bool (!r), ?_, .bool _⟩
        rw [Sem.run_bind, run_eqGuard_agg w _ _ _ _ _ _ hg]
        simp only [Result.andThen_ok]
        rw [run_neq_struct, he]; rfl
      · cases hb
    · rename_i a b px py ht
      split at hb
      · rename_i hag
        injection hb with hb; subst hb
        have rx := hx.pur px
        have ry := hy.pur py
        cases rx; cases ry
        refine ⟨.bool (!(a == b)), ?_, .bool _⟩
        simp [eqGuard, binOp, eqT_bool ht hag w rfl rfl]
      · cases hb
    · cases hb
  · cases hb
def binP (P : Program) (op : BinOp) (T : TypeId) (x y : AV) : Option PV := match binA op x y with
  | some p => some p
  | none => eqA P op T x y
theorem binP_run {P : Program} {op : BinOp} {T : TypeId} {X Y : Operand} {c : Cx} {h : List ABlk} {w : World} {x y : AV} {u v : Value} {p : PV} (hx : ARep c h w x u) (hy : ARep c h w y v) (hb : binP P op T x y = some p) :
    ∃ q, (do eqGuard op T X Y u v; binOp op T u v : Sem Value).run P w = .ok q w ∧ Rep c.ok w p q := by
  unfold binP at hb
  split at hb
  · rename_i q hq
    injection hb with hb; subst hb
    exact binA_run hx hy hq
  · exact eqA_run hx hy hb
end Go.Ab
