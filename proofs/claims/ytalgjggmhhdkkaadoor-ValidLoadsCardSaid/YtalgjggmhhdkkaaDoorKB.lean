/- Steps over the plain state; contracts of functions. -/
import Derived.Test.YtalgjggmhhdkkaaDoorKA
import Derived.DeepKeys
import Derived.Orders
namespace Go.Ab
open Go.RowKit
set_option linter.unusedVariables false
set_option linter.unusedSimpArgs false

def eqP : PV → PV → Option Bool
  | .int k a, .int k' b => if k = k' then some (decide (a = b)) else none
  | .bool a, .bool b => some (a == b)
  | .str a, .str b => some (decide (a = b))
  | _, _ => none
def eqL : List PV → List PV → Option Bool
  | [], [] => some true
  | x :: xs, y :: ys => match eqP x y, eqL xs ys with
    | some a, some b => some (a && b)
    | _, _ => none
  | _, _ => none
theorem eqL_append {as bs : List PV} : ∀ {xs ys : List PV} {r : Bool}, xs.length = ys.length → eqL (xs ++ as) (ys ++ bs) = some r → ∃ p q, eqL xs ys = some p ∧ eqL as bs = some q ∧ r = (p && q)
  | [], [], r, _, h => ⟨true, r, rfl, h, rfl⟩
  | x :: xs, y :: ys, r, hl, h => by
    simp only [List.cons_append, eqL] at h
    split at h
    · rename_i a b h1 h2
      injection h with h; subst h
      obtain ⟨p, q, g1, g2, rfl⟩ := eqL_append (by simpa using hl) h2
      exact ⟨a && p, q, by simp [eqL, h1, g1], g2, by simp [Bool.and_assoc]⟩
    · cases h
  | [], _ :: _, _, hl, _ => by simp at hl
  | _ :: _, [], _, hl, _ => by simp at hl

/-- Which kind each cell of a type is: 0 a number, 1 a truth, 2 a text. -/
def shpF (P : Program) (g : TypeId → Option (List Nat)) : Nat → List Field → Option (List Nat)
  | _, [] => some []
  | off, f :: fs => if f.name ≠ "_" ∧ f.offset = off then (match g f.type with
    | some l => if szOf P f.type = l.length ∧ 0 < l.length then (shpF P g (off + l.length) fs).map (l ++ ·) else none
    | none => none) else none
def shp (P : Program) : Nat → TypeId → Option (List Nat)
  | 0, _ => none
  | d + 1, t => match P.underlying t with
    | some .bool => some [1]
    | some (.int _) => some [0]
    | some .string => some [2]
    | some (.array n e) => match shp P d e with
      | some l => if szOf P e = l.length ∧ 0 < l.length then some (List.replicate n l).flatten else none
      | none => none
    | some (.struct fs) => if P.stoodInHeld t = true then none else shpF P (shp P d) 0 fs.toList
    | _ => none
def fitP : Nat → PV → Bool
  | 0, .int _ _ => true
  | 1, .bool _ => true
  | 2, .str _ => true
  | _, _ => false
def fit : List Nat → List PV → Bool
  | [], [] => true
  | l :: ls, x :: xs => fitP l x && fit ls xs
  | _, _ => false
theorem fit_length : ∀ {l : List Nat} {xs : List PV}, fit l xs = true → xs.length = l.length
  | [], [], _ => rfl
  | _ :: _, _ :: _, h => by simp only [fit, Bool.and_eq_true] at h; simp [fit_length h.2]
  | [], _ :: _, h => by cases h
  | _ :: _, [], h => by cases h
theorem fit_append {m : List Nat} : ∀ {l : List Nat} {xs : List PV}, fit (l ++ m) xs = true → fit l (xs.take l.length) = true ∧ fit m (xs.drop l.length) = true
  | [], xs, h => ⟨by simp [fit], by simpa using h⟩
  | a :: l, x :: xs, h => by
    simp only [List.cons_append, fit, Bool.and_eq_true] at h
    obtain ⟨h1, h2⟩ := fit_append h.2
    exact ⟨by simp [fit, h.1, h1], by simpa using h2⟩
  | _ :: _, [], h => by cases h

def tov : PV → Value
  | .int k n => .int k n
  | .bool b => .bool b
  | .str s => .string s
  | _ => undef
theorem tov_rep {ok : Nat → Prop} {w : World} {k : Nat} {p : PV} {v : Value} (h : Rep ok w p v) (hf : fitP k p = true) : v = tov p := by
  cases h <;> first | rfl | (match k, hf with | 0, hf => cases hf | 1, hf => cases hf | 2, hf => cases hf | _ + 3, hf => cases hf)
theorem tovs_rep {ok : Nat → Prop} {w : World} : ∀ {l : List Nat} {ps : List PV} {vs : List Value}, fit l ps = true → ps.length = vs.length → (∀ (k : Nat) (p : PV) (v : Value), ps[k]? = some p → vs[k]? = some v → Rep ok w p v) → vs = ps.map tov
  | [], [], [], _, _, _ => rfl
  | l :: ls, p :: ps, v :: vs, hf, hl, hr => by
    simp only [fit, Bool.and_eq_true] at hf
    have h1 := tov_rep (hr 0 p v rfl rfl) hf.1
    have h2 := tovs_rep (vs := vs) hf.2 (by simpa using hl) fun k p v hk hv => hr (k + 1) p v (by simpa using hk) (by simpa using hv)
    simp [h1, ← h2]
  | [], [], _ :: _, _, hl, _ => by simp at hl
  | [], _ :: _, _, hf, _, _ => by cases hf
  | _ :: _, [], _, hf, _, _ => by cases hf
  | _ :: _, _ :: _, [], _, hl, _ => by simp at hl

/-- A value of a type, of its cells. -/
def wrapV (P : Program) (t : TypeId) (xs : List PV) : Value := if agOf P t = 2 then .agg (xs.map tov).toArray else tov (xs.headD .nilFn)

theorem part_wrap {P : Program} {e : TypeId} {d : Nat} {l : List Nat} (hs : shp P d e = some l) (hsz : szOf P e = l.length) (hpos : 0 < l.length) {xs : List PV} {off : Nat} (hl : off + l.length ≤ xs.length) (w : World) :
    (part e (xs.map tov).toArray off).run P w = .ok (wrapV P e ((xs.drop off).take l.length)) w := by
  by_cases hag : agOf P e = 2
  · have he : (xs.map tov).toArray.extract off (off + szOf P e) = (((xs.drop off).take l.length).map tov).toArray := by
      rw [hsz, List.extract_toArray, List.extract_eq_take_drop, ← List.map_drop, ← List.map_take]
      simp
    simp only [part, Sem.run_bind, agOf_run hag (by omega), szOf_run rfl (show 0 < szOf P e by omega), Result.andThen_ok, wrapV, hag, beq_self_eq_true, if_true, Sem.run_pure, he]
  · have h1 : agOf P e = 1 ∧ l.length = 1 := by
      cases d with
      | zero => simp [shp] at hs
      | succ d =>
        simp only [shp] at hs
        unfold agOf at hag ⊢
        cases hu : P.underlying e with
        | none => simp [hu] at hs
        | some k =>
          simp only [hu] at hs hag ⊢
          cases k <;> simp at hs hag ⊢ <;> (subst hs; rfl)
    have hlt : off < xs.length := by omega
    have hx : ((xs.drop off).take l.length).headD .nilFn = xs[off] := by
      rw [h1.2, List.drop_eq_getElem_cons hlt]; rfl
    have hg : (xs.map tov).toArray[off]? = some (tov xs[off]) := by simp [hlt]
    simp only [part, Sem.run_bind, agOf_run h1.1 (by omega), Result.andThen_ok, wrapV, hag, hx, hg]
    rfl

/-- What is asked at a type. -/
def EqF (P : Program) (dd : Nat) (t : TypeId) (l : List Nat) : Prop := ∀ (xs ys : List PV) (r : Bool) (w : World), fit l xs = true → fit l ys = true → eqL xs ys = some r → (Op.equalIn dd t (wrapV P t xs) (wrapV P t ys)).run P w = .ok r w

theorem take_drop_app (xs : List PV) (n : Nat) : xs.take n ++ xs.drop n = xs := List.take_append_drop n xs
theorem eqFields_flat {P : Program} {d dd : Nat} {xs ys : List PV} {w : World} (ih : ∀ t l, shp P d t = some l → EqF P dd t l) : ∀ (fs : List Field) (off : Nat) (m : List Nat) (r : Bool), shpF P (shp P d) off fs = some m → fit m (xs.drop off) = true → fit m (ys.drop off) = true →
    eqL (xs.drop off) (ys.drop off) = some r → (Op.eqFields dd (xs.map tov).toArray (ys.map tov).toArray fs).run P w = .ok r w
  | [], off, m, r, hm, hx, hy, he => by
    simp only [shpF, Option.some.injEq] at hm; subst hm
    have h1 := fit_length hx
    have h2 := fit_length hy
    have e1 : xs.drop off = [] := List.eq_nil_of_length_eq_zero h1
    have e2 : ys.drop off = [] := List.eq_nil_of_length_eq_zero h2
    rw [e1, e2] at he
    simp only [eqL, Option.some.injEq] at he; subst he
    simp [Op.eqFields]
  | f :: fs, off, m, r, hm, hx, hy, he => by
    simp only [shpF] at hm
    split at hm
    · rename_i hn
      split at hm
      · rename_i l hl
        split at hm
        · rename_i hsz
          simp only [Option.map_eq_some_iff] at hm
          obtain ⟨m', hm', rfl⟩ := hm
          obtain ⟨x1, x2⟩ := fit_append hx
          obtain ⟨y1, y2⟩ := fit_append hy
          have lx := fit_length x1
          have ly := fit_length y1
          rw [List.drop_drop] at x2 y2
          have lx' : off + l.length ≤ xs.length := by simp at lx; omega
          have ly' : off + l.length ≤ ys.length := by simp at ly; omega
          rw [← take_drop_app (xs.drop off) l.length, ← take_drop_app (ys.drop off) l.length] at he
          obtain ⟨p, q, g1, g2, rfl⟩ := eqL_append (by rw [lx, ly]) he
          rw [List.drop_drop, List.drop_drop] at g2
          have hrest := eqFields_flat (w := w) ih fs (off + l.length) m' q hm' x2 y2 g2
          have ho := hn.2
          simp only [Op.eqFields, hn.1, ne_eq, not_false_eq_true, if_true, Sem.run_bind]
          rw [ho, part_wrap hl hsz.1 hsz.2 lx' w]
          simp only [Result.andThen_ok]
          rw [part_wrap hl hsz.1 hsz.2 ly' w]
          simp only [Result.andThen_ok]
          rw [ih f.type l hl _ _ p w x1 y1 g1]
          cases p
          · simp
          · simpa using hrest
        · cases hm
      · cases hm
    · cases hm

theorem eqItems_flat {P : Program} {dd : Nat} {e : TypeId} {d : Nat} {l : List Nat} {xs ys : List PV} {w : World} (hl : shp P d e = some l) (hsz : szOf P e = l.length) (hpos : 0 < l.length) (ih : EqF P dd e l) : ∀ (n i : Nat) (r : Bool), fit (List.replicate n l).flatten (xs.drop (i * l.length)) = true → fit (List.replicate n l).flatten (ys.drop (i * l.length)) = true →
    eqL (xs.drop (i * l.length)) (ys.drop (i * l.length)) = some r → (Op.eqItems dd e (szOf P e) (xs.map tov).toArray (ys.map tov).toArray (List.range' i n)).run P w = .ok r w
  | 0, i, r, hx, hy, he => by
    have h1 := fit_length hx
    have h2 := fit_length hy
    simp only [List.replicate_zero, List.flatten_nil, List.length_nil] at h1 h2
    have e1 := List.eq_nil_of_length_eq_zero h1
    have e2 := List.eq_nil_of_length_eq_zero h2
    rw [e1, e2] at he
    simp only [eqL, Option.some.injEq] at he; subst he
    simp [Op.eqItems]
  | n + 1, i, r, hx, hy, he => by
    simp only [List.replicate_succ, List.flatten_cons] at hx hy
    obtain ⟨x1, x2⟩ := fit_append hx
    obtain ⟨y1, y2⟩ := fit_append hy
    have lx := fit_length x1
    have ly := fit_length y1
    have hm : i * l.length + l.length = (i + 1) * l.length := by rw [Nat.add_mul]; omega
    rw [List.drop_drop, hm] at x2 y2
    have lx' : i * l.length + l.length ≤ xs.length := by simp at lx; omega
    have ly' : i * l.length + l.length ≤ ys.length := by simp at ly; omega
    rw [← take_drop_app (xs.drop (i * l.length)) l.length, ← take_drop_app (ys.drop (i * l.length)) l.length] at he
    obtain ⟨p, q, g1, g2, rfl⟩ := eqL_append (by rw [lx, ly]) he
    rw [List.drop_drop, List.drop_drop, hm] at g2
    have hrest := eqItems_flat (w := w) hl hsz hpos ih n (i + 1) q x2 y2 g2
    simp only [List.range'_succ, Op.eqItems, Sem.run_bind, hsz] at hrest ⊢
    rw [part_wrap hl hsz hpos lx' w]
    simp only [Result.andThen_ok]
    rw [part_wrap hl hsz hpos ly' w]
    simp only [Result.andThen_ok]
    rw [ih _ _ p w x1 y1 g1]
    cases p
    · simp
    · simpa using hrest

theorem eqFlat {P : Program} (D : Nat) : ∀ (d : Nat) (t : TypeId) (l : List Nat), shp P d t = some l → EqF P (D + d) t l
  | 0, t, l, h => by simp [shp] at h
  | d + 1, t, l, h => by
    intro xs ys r w hx hy he
    simp only [shp] at h
    cases hu : P.underlying t with
    | none => simp [hu] at h
    | some k =>
      simp only [hu] at h
      have one : ∀ n, l = [n] → ∃ x y, xs = [x] ∧ ys = [y] ∧ fitP n x = true ∧ fitP n y = true ∧ eqP x y = some r := by
        rintro n rfl
        have h1 := fit_length hx
        have h2 := fit_length hy
        obtain ⟨x, rfl⟩ := List.length_eq_one_iff.1 h1
        obtain ⟨y, rfl⟩ := List.length_eq_one_iff.1 h2
        simp only [fit, Bool.and_true] at hx hy
        refine ⟨x, y, rfl, rfl, hx, hy, ?_⟩
        simp only [eqL] at he
        split at he
        · rename_i a b h1 h2
          simp only [Option.some.injEq] at h2 he; subst h2; rw [h1, ← he]; simp
        · cases he
      cases k <;> simp only [reduceCtorEq, Option.some.injEq] at h
      case bool =>
        have hag : agOf P t = 1 := by simp [agOf, hu]
        obtain ⟨x, y, rfl, rfl, fx, fy, e⟩ := one 1 h.symm
        cases x <;> simp only [fitP] at fx <;> try cases fx
        cases y <;> simp only [fitP] at fy <;> try cases fy
        simp only [eqP, Option.some.injEq] at e; subst e
        simp only [wrapV, hag, show ¬ (1 : Nat) = 2 by omega, if_false, List.headD_cons, tov]
        exact run_equalIn_bool' w (D + d) t _ _ hu
      case int q =>
        have hag : agOf P t = 1 := by simp [agOf, hu]
        obtain ⟨x, y, rfl, rfl, fx, fy, e⟩ := one 0 h.symm
        cases x <;> simp only [fitP] at fx <;> try cases fx
        cases y <;> simp only [fitP] at fy <;> try cases fy
        simp only [eqP] at e
        split at e
        · rename_i hk; subst hk
          simp only [Option.some.injEq] at e; subst e
          simp only [wrapV, hag, show ¬ (1 : Nat) = 2 by omega, if_false, List.headD_cons, tov]
          exact run_equalIn_int w (D + d) t _ _ _ _ hu
        · cases e
      case string =>
        have hag : agOf P t = 1 := by simp [agOf, hu]
        obtain ⟨x, y, rfl, rfl, fx, fy, e⟩ := one 2 h.symm
        cases x <;> simp only [fitP] at fx <;> try cases fx
        cases y <;> simp only [fitP] at fy <;> try cases fy
        simp only [eqP, Option.some.injEq] at e; subst e
        simp only [wrapV, hag, show ¬ (1 : Nat) = 2 by omega, if_false, List.headD_cons, tov, ← toList_eq_iff]
        exact run_equalIn_string w (D + d) t _ _ hu
      case array n e =>
        have hag : agOf P t = 2 := by simp [agOf, hu]
        split at h
        · rename_i l' hl'
          split at h
          · rename_i hsz
            injection h with h; subst h
            simp only [wrapV, hag, if_true]
            obtain ⟨i, hi⟩ : ∃ i, P.info? e = some i := by
              cases hi : P.info? e with
              | none => have := hsz.1; simp [szOf, hi] at this; omega
              | some i => exact ⟨i, rfl⟩
            have hc : P.cellsOf e = szOf P e := by simp [Program.cellsOf, szOf, hi]
            rw [show D + (d + 1) = (D + d) + 1 from rfl, run_equalIn_array w (D + d) _ _ hu hi, hc, List.range_eq_range']
            exact eqItems_flat hl' hsz.1 hsz.2 (eqFlat D d e l' hl') n 0 r (by simpa using hx) (by simpa using hy) (by simpa using he)
          · cases h
        · cases h
      case struct fs =>
        have hag : agOf P t = 2 := by simp [agOf, hu]
        split at h
        · cases h
        · rename_i hst
          simp only [wrapV, hag, if_true]
          have hfs : P.fieldsOf t = fs := by simp [Program.fieldsOf, hu]
          rw [show D + (d + 1) = (D + d) + 1 from rfl, run_equalIn_struct w (D + d) t _ _ (by rw [hfs]; exact hu) (by simpa using hst), hfs]
          exact eqFields_flat (fun t l h => eqFlat D d t l h) fs.toList 0 l r h (by simpa using hx) (by simpa using hy) (by simpa using he)

/-- A type's cells, where values of it are told apart by them. -/
def eqT (P : Program) (t : TypeId) : Option (List Nat) := if P.eqGuardType P.depth t = true then none else shp P 20 t
/-- '==' and '!=' at a type, of truths, of rows of numbers, truths and texts. -/
def eqA (P : Program) (op : BinOp) (T : TypeId) (x y : AV) : Option PV :=
  match op with
  | .eql => (match pur x, pur y, eqT P T with
    | some (.agg xs), some (.agg ys), some l => if fit l xs = true ∧ fit l ys = true ∧ agOf P T = 2 then (eqL xs ys).map .bool else none
    | some (.bool a), some (.bool b), some [1] => if agOf P T = 1 then some (.bool (a == b)) else none
    | _, _, _ => none)
  | .neq => (match pur x, pur y, eqT P T with
    | some (.agg xs), some (.agg ys), some l => if fit l xs = true ∧ fit l ys = true ∧ agOf P T = 2 then (eqL xs ys).map fun b => .bool (!b) else none
    | some (.bool a), some (.bool b), some [1] => if agOf P T = 1 then some (.bool (!(a == b))) else none
    | _, _, _ => none)
  | _ => none
theorem eqT_bool {P : Program} {T : TypeId} {l : List Nat} (h : eqT P T = some l) (hag : agOf P T = 1) (w : World) {a b r : Bool} (hl : l = [1]) (hr : (a == b) = r) : (Op.equal T (.bool a) (.bool b)).run P w = .ok r w := by
  unfold eqT at h
  split at h
  · cases h
  · have := eqFlat (P := P) 9980 20 T l h [.bool a] [.bool b] r w (by rw [hl]; rfl) (by rw [hl]; rfl) (by simp [eqL, eqP, hr])
    simpa [wrapV, hag, tov, Op.equal, Op.maxDepth] using this
theorem eqA_run {P : Program} {op : BinOp} {T : TypeId} {X Y : Operand} {c : Cx} {h : List ABlk} {w : World} {x y : AV} {u v : Value} {p : PV} (hx : ARep c h w x u) (hy : ARep c h w y v) (hb : eqA P op T x y = some p) :
    ∃ q, (do eqGuard op T X Y u v; binOp op T u v : Sem Value).run P w = .ok q w ∧ Rep c.ok w p q := by
  have agg : ∀ {xs ys : List PV} {l : List Nat} {r : Bool}, pur x = some (.agg xs) → pur y = some (.agg ys) → eqT P T = some l → fit l xs = true ∧ fit l ys = true ∧ agOf P T = 2 → eqL xs ys = some r →
      ∃ X Y, u = .agg X ∧ v = .agg Y ∧ P.eqGuardType P.depth T = false ∧ (Op.equalIn 10000 T (.agg X) (.agg Y)).run P w = .ok r w := by
    intro xs ys l r px py ht hf he
    have rx := hx.pur px
    have ry := hy.pur py
    unfold eqT at ht
    split at ht
    · cases ht
    · rename_i hg
      cases rx with
      | agg _ us hl ho hr =>
        cases ry with
        | agg _ vs hl' ho' hr' =>
          have e1 := tovs_rep hf.1 hl hr
          have e2 := tovs_rep hf.2.1 hl' hr'
          have := eqFlat (P := P) 9980 20 T l ht xs ys r w hf.1 hf.2.1 he
          simp only [wrapV, hf.2.2, if_true, ← e1, ← e2] at this
          exact ⟨_, _, rfl, rfl, by simpa using hg, this⟩
  unfold eqA at hb
  split at hb
  · split at hb
    · rename_i xs ys l px py ht
      split at hb
      · rename_i hf
        simp only [Option.map_eq_some_iff] at hb
        obtain ⟨r, hr, rfl⟩ := hb
        obtain ⟨A, B, rfl, rfl, hg, he⟩ := agg px py ht hf hr
        refine ⟨.bool r, ?_, .bool r⟩
        rw [Sem.run_bind, run_eqGuard_agg w _ _ _ _ _ _ hg]
        simp only [Result.andThen_ok]
        rw [run_eql_struct, he]; rfl
      · cases hb
    · rename_i a b px py ht
      split at hb
      · rename_i hag
        injection hb with hb; subst hb
        have rx := hx.pur px
        have ry := hy.pur py
        cases rx; cases ry
        refine ⟨.bool (a == b), ?_, .bool _⟩
        simp [eqGuard, binOp, eqT_bool ht hag w rfl rfl]
      · cases hb
    · cases hb
  · split at hb
    · rename_i xs ys l px py ht
      split at hb
      · rename_i hf
        simp only [Option.map_eq_some_iff] at hb
        obtain ⟨r, hr, rfl⟩ := hb
        obtain ⟨A, B, rfl, rfl, hg, he⟩ := agg px py ht hf hr
        refine ⟨.bool (!r), ?_, .bool _⟩
        rw [Sem.run_bind, run_eqGuard_agg w _ _ _ _ _ _ hg]
        simp only [Result.andThen_ok]
        rw [run_neq_struct, he]; rfl
      · cases hb
    · rename_i a b px py ht
      split at hb
      · rename_i hag
        injection hb with hb; subst hb
        have rx := hx.pur px
        have ry := hy.pur py
        cases rx; cases ry
        refine ⟨.bool (!(a == b)), ?_, .bool _⟩
        simp [eqGuard, binOp, eqT_bool ht hag w rfl rfl]
      · cases hb
    · cases hb
  · cases hb
def binP (P : Program) (op : BinOp) (T : TypeId) (x y : AV) : Option PV := match binA op x y with
  | some p => some p
  | none => eqA P op T x y
theorem binP_run {P : Program} {op : BinOp} {T : TypeId} {X Y : Operand} {c : Cx} {h : List ABlk} {w : World} {x y : AV} {u v : Value} {p : PV} (hx : ARep c h w x u) (hy : ARep c h w y v) (hb : binP P op T x y = some p) :
    ∃ q, (do eqGuard op T X Y u v; binOp op T u v : Sem Value).run P w = .ok q w ∧ Rep c.ok w p q := by
  unfold binP at hb
  split at hb
  · rename_i q hq
    injection hb with hb; subst hb
    exact binA_run hx hy hq
  · exact eqA_run hx hy hb
end Go.Ab
namespace Go.Ab
open Go.RowKit
set_option linter.unusedVariables false
set_option linter.unusedSimpArgs false

/-- What an operand is. -/
def evO (t : List AV) : Operand → AV
  | .tmp i => t.getD i .any
  | .const v => (constV v).getD .any
  | .func f => .fn (.func f) [] []
  | .global _ => .any
theorem evO_rep {c : Cx} {h : List ABlk} {w : World} {t : List AV} {a : Act} (s : TSim c h w t a.tmps) (x : Operand) : ARep c h w (evO t x) (a.eval x) := by
  cases x with
  | tmp i =>
    simp only [evO, Act.eval, List.getD_eq_getElem?_getD]
    cases hi : t[i]? with
    | none => exact .any _
    | some x => exact s.tmp hi
  | const v =>
    simp only [evO, Act.eval]
    cases hv : constV v with
    | none => exact .any _
    | some x => exact (constV_rep hv c h w).1
  | func f => exact .fn (.func f) [] [] [] [] rfl (fun k x v hk => by simp at hk) rfl (fun k x v hk => by simp at hk)
  | global g => exact .any _

/-- May an element's address be asked for? -/
def liveE (h : List ABlk) : AV → Bool
  | .ptr i o => live h (.ptr i o)
  | .sl i _ _ _ => match h[i]? with | some (.box _) => true | _ => false
  | _ => true

def boolOf : AV → Option Bool
  | .pv (.bool b) => some b
  | _ => none
def intOfA : AV → Option (IntKind × Int)
  | .pv (.int k n) => some (k, n)
  | _ => none

/-- The built-in calls among them. -/
def callv (P : Program) (ev : Operand → AV) (n : Nat) (h : List ABlk) (b : Builtin) (xs : List Operand) (ts : List TypeId) : Option (AV × List (Nat × ABlk)) :=
  match b, xs, ts with
  | .len, [x], [T] => if liveS h (ev x) = true then (match lenA (tk P T) (ev x) with | some p => some (.pv p, []) | none => none) else none
  | .max, [x, y], _ => match ev x, ev y with
    | .pv (.int k a), .pv (.int _ b) => some (.pv (.int k (if a < b then b else a)), [])
    | _, _ => none
  | .min, [x, y], _ => match ev x, ev y with
    | .pv (.int k a), .pv (.int _ b) => some (.pv (.int k (if b < a then b else a)), [])
    | _, _ => none
  | .append, [x, y], [T, Tx] => appA P n h T Tx (ev x) (ev y)
  | _, _, _ => none

/-- One plain operation: its value, what turns in memory. 'none': not one of these. -/
def stepv (P : Program) (ev : Operand → AV) (n : Nat) (h : List ABlk) : Op → Option (AV × List (Nat × ABlk))
  | .move x => some (ev x, [])
  | .assign x => some (ev x, [])
  | .alloc e => match zro P e with | some zs => some (.ptr n 0, [(n, .box zs)]) | none => none
  | .box e x => match acells (ev x) with | some xs => some (.ptr n 0, [(n, .box xs)]) | none => none
  | .buildSlice T len parts => match buildS P T len (parts.toList.map fun p => (p.1, ev p.2)) with | some r => some (.pv r, []) | none => none
  | .build T parts => match buildA P T (parts.toList.map fun p => (p.1, ev p.2)) with | some r => some (r, []) | none => none
  | .load T a => if 0 < szOf P T then (match loadA (agOf P T) (szOf P T) h (ev a) with | some r => some (r, []) | none => none) else none
  | .store T a x => if 0 < szOf P T then (match storeA (szOf P T) h (ev x) (ev a) with | some d => some (.any, d) | none => none) else none
  | .nilCheck x => if live h (ev x) = true then some (ev x, []) else none
  | .binOp op T x y _ => match binP P op T (ev x) (ev y) with | some p => some (.pv p, []) | none => none
  | .unOp u _ x => match unA u (ev x) with | some p => some (.pv p, []) | none => none
  | .convert s d x => match convA P s d (ev x) with
    | some p => some (.pv p, [])
    | none => match cnvA P h s d (ev x) with | some p => some (.pv p, []) | none => none
  | .fieldAddr s x f => if live h (ev x) = true then (match fieldA (tk P s) f (ev x) with | some r => some (r, []) | none => none) else none
  | .field s x f => match partA P (tk P s) f (ev x) with | some r => some (r, []) | none => none
  | .indexAddr T x i => match intOfA (ev i) with
    | some (_, j) => if liveE h (ev x) = true then (match elemA (tk P T) h (ev x) j with | some r => some (r, []) | none => none) else none
    | none => none
  | .index T x i => match intOfA (ev i) with
    | some (_, j) => match idxA P (tk P T) (ev x) j with | some r => some (r, []) | none => none
    | none => none
  | .extract x i => match extA (ev x) i with | some r => some (r, []) | none => none
  | .makeSlice T l c => mkA P n T (ev l) (ev c)
  | .slice T x lo hi mx => match mx with
    | none => match slcA (tk P T) h (ev x) (lo.map ev) (hi.map ev) with | some r => some (r, []) | none => none
    | some _ => none
  | .makeFunc f xs ys => some (.fn f (xs.toList.map ev) (ys.toList.map ev), [])
  | .call c => match c.callee with
    | .builtin b => callv P ev n h b c.args.toList c.argTypes.toList
    | _ => none
  | _ => none

/-- What an operation does to memory is by names that are free, or by names that are there: so it may be said of any list that agrees. -/
theorem stepv_yields {P : Program} {z : Ini} {o : Oper} {ρ : Operand → Value} {ev : Operand → AV} {c : Cx} {h : List ABlk} {w : World} (s : MSim z h c w) (hev : ∀ x, ARep c h w (ev x) (ρ x)) {r : AV} {d : List (Nat × ABlk)} {n : Nat}
    (hn : z.n ≤ n) (hu : ∀ x ∈ d, n ≤ x.1 → unborn h x.1) (hs : stepv P ev n h o.op = some (r, d)) : Yields P z o ρ c h w r (app h d) := by
  cases hop : o.op <;> rw [hop] at hs <;> simp only [stepv] at hs
  case move x =>
    injection hs with hs; simp only [Prod.mk.injEq] at hs; obtain ⟨rfl, rfl⟩ := hs
    exact .val s (v := ρ x) (by simp [execOp, hop]) (hev x)
  case assign x =>
    injection hs with hs; simp only [Prod.mk.injEq] at hs; obtain ⟨rfl, rfl⟩ := hs
    exact .val s (v := ρ x) (by simp [execOp, hop]) (hev x)
  case alloc e =>
    split at hs
    · rename_i zs hz
      injection hs with hs; simp only [Prod.mk.injEq] at hs; obtain ⟨rfl, rfl⟩ := hs
      obtain ⟨zv, h1, h2⟩ := zro_rep hz c h w
      exact .var s (v := zv) (e := e) _ (hu _ (List.mem_singleton.2 rfl) (Nat.le_refl _)) hn (by simp [execOp, hop, Instr.alloc, h1, newVar, newRow]) h2
    · cases hs
  case box e x =>
    split at hs
    · rename_i xs hz
      injection hs with hs; simp only [Prod.mk.injEq] at hs; obtain ⟨rfl, rfl⟩ := hs
      exact .var s (v := ρ x) (e := e) _ (hu _ (List.mem_singleton.2 rfl) (Nat.le_refl _)) hn (by simp [execOp, hop, Instr.box, newVar, newRow]) ((hev x).cells hz)
    · cases hs
  case buildSlice T len parts =>
    split at hs
    · rename_i q hz
      injection hs with hs; simp only [Prod.mk.injEq] at hs; obtain ⟨rfl, rfl⟩ := hs
      obtain ⟨cs, e, u, h1, h2⟩ := buildS_run (P := P) (vs := parts.map fun p => (p.1, ρ p.2)) (c := c) (h := h) (w := w) (by simp) (fun k i x hk => by
        simp only [List.getElem?_map, Option.map_eq_some_iff] at hk
        obtain ⟨p, hp, he⟩ := hk
        simp only [Prod.mk.injEq] at he
        obtain ⟨rfl, rfl⟩ := he
        exact ⟨ρ p.2, by simp [Array.getElem?_toList] at hp; simp [hp], hev p.2⟩) hz s.hs.okb
      obtain ⟨L, M⟩ := s.beyond (w' := w.alloc (.cells cs e)) ((Below.refl _ w).alloc (Nat.le_refl _) _) (fun b => b = w.heap.size) (fun b hb => by subst hb; exact ⟨Nat.le_refl _, by show w.heap.size < (w.heap.push _).size; simp⟩)
      unfold Yields
      have : (execOp ρ o).run P w = .ok (.value u) (w.alloc (.cells cs e)) := by simp [execOp, hop, h1]
      rw [this]
      exact ⟨_, L, M, .pv _ _ h2⟩
    · cases hs
  case build T parts =>
    split at hs
    · rename_i q hz
      injection hs with hs; simp only [Prod.mk.injEq] at hs; obtain ⟨rfl, rfl⟩ := hs
      obtain ⟨u, h1, h2⟩ := buildA_run (P := P) (vs := parts.map fun p => (p.1, ρ p.2)) (c := c) (h := h) (w := w) (by simp) (fun k i x hk => by
        simp only [List.getElem?_map, Option.map_eq_some_iff] at hk
        obtain ⟨p, hp, he⟩ := hk
        simp only [Prod.mk.injEq] at he
        obtain ⟨rfl, rfl⟩ := he
        exact ⟨ρ p.2, by simp [Array.getElem?_toList] at hp; simp [hp], hev p.2⟩) hz
      exact .val s (v := u) (by simp [execOp, hop, h1]) h2
    · cases hs
  case load T a =>
    split at hs
    · rename_i hpos
      split at hs
      · rename_i q hz
        injection hs with hs; simp only [Prod.mk.injEq] at hs; obtain ⟨rfl, rfl⟩ := hs
        obtain ⟨u, h1, h2⟩ := loadA_run (P := P) (t := T) s (hev a) hz hpos
        exact .val s (v := u) (by simp [execOp, hop, h1]) h2
      · cases hs
    · cases hs
  case store T a x =>
    split at hs
    · rename_i hpos
      split at hs
      · rename_i q hz
        injection hs with hs; simp only [Prod.mk.injEq] at hs; obtain ⟨rfl, rfl⟩ := hs
        exact .store s hop (hev a) (hev x) hz hpos
      · cases hs
    · cases hs
  case nilCheck x =>
    split at hs
    · rename_i hl
      injection hs with hs; simp only [Prod.mk.injEq] at hs; obtain ⟨rfl, rfl⟩ := hs
      obtain ⟨a, ha⟩ := live_ptr (hev x) hl
      exact .val s (v := ρ x) (by simp [execOp, hop, ha]) (hev x)
    · cases hs
  case binOp op T x y yt =>
    split at hs
    · rename_i q hz
      injection hs with hs; simp only [Prod.mk.injEq] at hs; obtain ⟨rfl, rfl⟩ := hs
      obtain ⟨u, h1, h2⟩ := binP_run (P := P) (T := T) (X := x) (Y := y) (hev x) (hev y) hz
      refine .val s (v := u) ?_ (.pv _ _ h2)
      simp only [execOp, hop]
      rw [Sem.run_bind, h1]
      rfl
    · cases hs
  case unOp u T x =>
    split at hs
    · rename_i q hz
      injection hs with hs; simp only [Prod.mk.injEq] at hs; obtain ⟨rfl, rfl⟩ := hs
      obtain ⟨u, h1, h2⟩ := unA_run (P := P) (hev x) hz
      exact .val s (v := u) (by simp [execOp, hop, h1]) (.pv _ _ h2)
    · cases hs
  case convert a b x =>
    split at hs
    · rename_i q hz
      injection hs with hs; simp only [Prod.mk.injEq] at hs; obtain ⟨rfl, rfl⟩ := hs
      obtain ⟨u, h1, h2⟩ := convA_run (P := P) (hev x) hz
      exact .val s (v := u) (by simp [execOp, hop, h1]) (.pv _ _ h2)
    · split at hs
      · rename_i q hz
        injection hs with hs; simp only [Prod.mk.injEq] at hs; obtain ⟨rfl, rfl⟩ := hs
        obtain ⟨u, h1, h2⟩ := cnvA_run s (hev x) hz
        exact .val s (v := u) (by simp [execOp, hop, h1]) (.pv _ _ h2)
      · cases hs
  case fieldAddr T x f =>
    split at hs
    · rename_i hl
      split at hs
      · rename_i q hz
        injection hs with hs; simp only [Prod.mk.injEq] at hs; obtain ⟨rfl, rfl⟩ := hs
        obtain ⟨u, h1, h2⟩ := fieldA_run (P := P) (hev x) hz hl
        exact .val s (v := u) (by simp [execOp, hop, h1]) h2
      · cases hs
    · cases hs
  case field T x f =>
    split at hs
    · rename_i q hz
      injection hs with hs; simp only [Prod.mk.injEq] at hs; obtain ⟨rfl, rfl⟩ := hs
      obtain ⟨u, h1, h2⟩ := partA_run (P := P) (hev x) hz
      exact .val s (v := u) (by simp [execOp, hop, h1]) h2
    · cases hs
  case indexAddr T x i =>
    split at hs
    · rename_i k j hi
      split at hs
      · rename_i hl
        split at hs
        · rename_i q hz
          injection hs with hs; simp only [Prod.mk.injEq] at hs; obtain ⟨rfl, rfl⟩ := hs
          have hri := hev i
          have hpi : ev i = .pv (.int k j) := by
            unfold intOfA at hi
            split at hi
            · rename_i e; injection hi with hi; simp only [Prod.mk.injEq] at hi; obtain ⟨rfl, rfl⟩ := hi; exact e
            · cases hi
          rw [hpi] at hri
          cases hri with
          | pv _ _ hr =>
            generalize hq : ρ i = vi at hr
            cases hr with
            | int _ _ =>
              obtain ⟨u, h1, h2⟩ := elemA_run (P := P) (k := k) s (hev x) hz (fun a b e => by rw [e] at hl ⊢; simpa [liveE] using hl) (fun a b n cap e => by
                rw [e] at hl
                simp only [liveE] at hl
                split at hl
                · rename_i cs e2; exact ⟨cs, e2⟩
                · cases hl)
              exact .val s (v := u) (by simp [execOp, hop, hq, h1]) h2
        · cases hs
      · cases hs
    · cases hs
  case index T x i =>
    split at hs
    · rename_i k j hi
      split at hs
      · rename_i q hz
        injection hs with hs; simp only [Prod.mk.injEq] at hs; obtain ⟨rfl, rfl⟩ := hs
        have hri := hev i
        have hpi : ev i = .pv (.int k j) := by
          unfold intOfA at hi
          split at hi
          · rename_i e; injection hi with hi; simp only [Prod.mk.injEq] at hi; obtain ⟨rfl, rfl⟩ := hi; exact e
          · cases hi
        rw [hpi] at hri
        cases hri with
        | pv _ _ hr =>
          generalize hq : ρ i = vi at hr
          cases hr with
          | int _ _ =>
            obtain ⟨u, h1, h2⟩ := idxA_run (P := P) (k := k) (hev x) hz
            exact .val s (v := u) (by simp [execOp, hop, hq, h1]) h2
      · cases hs
    · cases hs
  case extract x i =>
    split at hs
    · rename_i q hz
      injection hs with hs; simp only [Prod.mk.injEq] at hs; obtain ⟨rfl, rfl⟩ := hs
      obtain ⟨u, h1, h2⟩ := extA_run (P := P) (hev x) hz
      exact .val s (v := u) (by simp [execOp, hop, h1]) h2
    · cases hs
  case makeFunc f xs ys =>
    injection hs with hs; simp only [Prod.mk.injEq] at hs; obtain ⟨rfl, rfl⟩ := hs
    have hm : ∀ (l : Array Operand) (k : Nat) (x : AV) (v : Value), (l.toList.map ev)[k]? = some x → (l.toList.map ρ)[k]? = some v → ARep c h w x v := by
      intro l k x v hk hv
      simp only [List.getElem?_map, Option.map_eq_some_iff] at hk hv
      obtain ⟨q, hq, rfl⟩ := hk
      obtain ⟨q', hq', rfl⟩ := hv
      rw [hq] at hq'; injection hq' with hq'; subst hq'
      exact hev q
    have hr := ARep.fn (c := c) (h := h) (w := w) f (xs.toList.map ev) (ys.toList.map ev) (xs.toList.map ρ) (ys.toList.map ρ) (by simp) (hm xs) (by simp) (hm ys)
    have ha : ∀ l : Array Operand, (l.toList.map ρ).toArray = l.map ρ := fun l => by simp [← List.map_toArray]
    rw [ha, ha] at hr
    exact .val s (by simp [execOp, hop, Instr.makeFunc]) hr
  case makeSlice T l cc =>
    have hun : unborn h n := by
      have hmem : ∃ b, (n, b) ∈ d := by
        unfold mkA at hs
        split at hs
        case h_2 => cases hs
        split at hs
        case h_2 => cases hs
        split at hs
        case h_2 => cases hs
        split at hs
        case isFalse => cases hs
        injection hs with hs; simp only [Prod.mk.injEq] at hs; obtain ⟨_, rfl⟩ := hs; exact ⟨_, by simp; rfl⟩
      obtain ⟨b, hb⟩ := hmem
      exact hu _ hb (Nat.le_refl _)
    obtain ⟨q, w', c', h1, h2, h3, h4⟩ := mkA_run s (hev l) (hev cc) hn hun hs
    unfold Yields
    have : (execOp ρ o).run P w = .ok (.value q) w' := by simp [execOp, hop, h1]
    rw [this]
    exact ⟨c', h2, h3, h4⟩
  case slice T x lo hi mx =>
    cases mx with
    | some m => cases hs
    | none =>
      simp only at hs
      split at hs
      · rename_i q hz
        injection hs with hs; simp only [Prod.mk.injEq] at hs; obtain ⟨rfl, rfl⟩ := hs
        have om : ∀ (lo : Option Operand) (y : AV), lo.map ev = some y → ∃ v, lo.map ρ = some v ∧ ARep c h w y v := fun lo y e => by
          cases lo with
          | none => cases e
          | some a => injection e with e; subst e; exact ⟨_, rfl, hev a⟩
        have on : ∀ (lo : Option Operand), lo.map ev = none → lo.map ρ = none := fun lo e => by cases lo with | none => rfl | some a => cases e
        obtain ⟨u, h1, h2⟩ := slcA_run s (hev x) (om lo) (on lo) (om hi) (on hi) hz
        exact .val s (v := u) (by simp [execOp, hop, h1]) h2
      · cases hs
  case call cl =>
    split at hs
    · rename_i b hb
      obtain ⟨callee, args, tys⟩ := cl
      simp only at hb hs
      subst hb
      unfold callv at hs
      split at hs
      · rename_i x T hargs htys
        have e1 : args = #[x] := by rw [← Array.toArray_toList (xs := args), hargs]
        have e2 : tys = #[T] := by rw [← Array.toArray_toList (xs := tys), htys]
        subst e1; subst e2
        split at hs
        · rename_i hl
          split at hs
          · rename_i q hz
            injection hs with hs; simp only [Prod.mk.injEq] at hs; obtain ⟨rfl, rfl⟩ := hs
            obtain ⟨u, h1, h2⟩ := lenA_run (P := P) (ty := o.type) (hev x) hl hz
            exact .val s (v := u) (by simp [execOp, hop, resolve, invoke, builtin, h1]) (.pv _ _ h2)
          · cases hs
        · cases hs
      · rename_i x y hargs
        have e1 : args = #[x, y] := by rw [← Array.toArray_toList (xs := args), hargs]
        subst e1
        split at hs
        · rename_i k a k' b h1 h2
          injection hs with hs; simp only [Prod.mk.injEq] at hs; obtain ⟨rfl, rfl⟩ := hs
          have r1 := hev x
          have r2 := hev y
          rw [h1] at r1; rw [h2] at r2
          cases r1 with
          | pv _ _ r1 => cases r2 with
            | pv _ _ r2 =>
              generalize hx : ρ x = vx at r1
              generalize hy : ρ y = vy at r2
              cases r1; cases r2
              refine .val s (v := .int k (if a < b then b else a)) ?_ (.pv _ _ (.int _ _))
              simp [execOp, hop, resolve, invoke, builtin, Builtin.max_, Builtin.max2, hx, hy]
        · cases hs
      · rename_i x y hargs
        have e1 : args = #[x, y] := by rw [← Array.toArray_toList (xs := args), hargs]
        subst e1
        split at hs
        · rename_i k a k' b h1 h2
          injection hs with hs; simp only [Prod.mk.injEq] at hs; obtain ⟨rfl, rfl⟩ := hs
          have r1 := hev x
          have r2 := hev y
          rw [h1] at r1; rw [h2] at r2
          cases r1 with
          | pv _ _ r1 => cases r2 with
            | pv _ _ r2 =>
              generalize hx : ρ x = vx at r1
              generalize hy : ρ y = vy at r2
              cases r1; cases r2
              refine .val s (v := .int k (if b < a then b else a)) ?_ (.pv _ _ (.int _ _))
              simp [execOp, hop, resolve, invoke, builtin, Builtin.min_, Builtin.min2, hx, hy]
        · cases hs
      · rename_i x y T Tx hargs htys
        have e1 : args = #[x, y] := by rw [← Array.toArray_toList (xs := args), hargs]
        have e2 : tys = #[T, Tx] := by rw [← Array.toArray_toList (xs := tys), htys]
        subst e1; subst e2
        have hun : unborn h n := by
          have hmem : ∃ b, (n, b) ∈ d := by
            unfold appA at hs
            split at hs
            case h_2 => cases hs
            split at hs
            case h_2 => cases hs
            split at hs
            case isFalse => cases hs
            split at hs
            · split at hs
              · injection hs with hs; simp only [Prod.mk.injEq] at hs; obtain ⟨_, rfl⟩ := hs; exact ⟨_, by simp; right; rfl⟩
              · cases hs
            · split at hs
              · cases hs
              · injection hs with hs; simp only [Prod.mk.injEq] at hs; obtain ⟨_, rfl⟩ := hs; exact ⟨_, by simp; rfl⟩
          obtain ⟨b, hb⟩ := hmem
          exact hu _ hb (Nat.le_refl _)
        obtain ⟨q, w', c', h1, h2, h3, h4⟩ := appA_run (ty := o.type) s (hev x) (hev y) hn hun hs
        unfold Yields
        have : (execOp ρ o).run P w = .ok (.value q) w' := by simp [execOp, hop, resolve, invoke, builtin, h1]
        rw [this]
        exact ⟨c', h2, h3, h4⟩
      · cases hs
    · cases hs
  all_goals cases hs
end Go.Ab
namespace Go.Ab
open Go.RowKit
set_option linter.unusedVariables false
set_option linter.unusedSimpArgs false

/-- What stands behind, said of the plain state. -/
def lift (z : Ini) (Q : Exit → St → Prop) : Exit → Act → World → Prop := fun e a w => ∃ σ c, Q e σ ∧ Sim z σ c a w
/-- Code, from a plain state. -/
def AW (P : Program) (z : Ini) (code : Code) (σ : St) (Q : Exit → St → Prop) : Prop := ∀ c a w, Sim z σ c a w → code.wp P (lift z Q) a w
/-- A region's operations, from a plain state. -/
def AWL (P : Program) (z : Ini) (ops : Array Oper) (l : List Oper) (σ : St) (Q : Exit → St → Prop) : Prop := ∀ c a w, Sim z σ c a w → wpList P ops (lift z Q) l a w

section
variable {P : Program} {z : Ini} {ops : Array Oper} {l : List Oper} {σ σ' : St} {Q Q' : Exit → St → Prop}

theorem lift_mono (h : ∀ e σ, Q e σ → Q' e σ) : ∀ e a w, lift z Q e a w → lift z Q' e a w := fun e a w ⟨σ, c, q, s⟩ => ⟨σ, c, h _ _ q, s⟩
theorem AW.mono {code : Code} (h : AW P z code σ Q) (hq : ∀ e σ, Q e σ → Q' e σ) : AW P z code σ Q' := fun c a w s => Code.wp_mono (lift_mono hq) (h c a w s)

theorem AWL.nil (h : Q .normal σ) : AWL P z ops [] σ Q := fun c a w s => ⟨σ, c, h, s⟩
/-- One operation, whatever it is. -/
theorem AWL.op {o : Oper} {r : AV} {h' : List ABlk} (hg : o.guard = none) (hy : ∀ c a w, Sim z σ c a w → Yields P z o a.eval c σ.h w r h') (h : AWL P z ops l ⟨putT σ.t o.dst r, h'⟩ Q) : AWL P z ops (o :: l) σ Q :=
  fun c a w s => wpList_plain hg fun K hK => (hy c a w s).wp fun c' v w' L M hr => hK _ _ (h c' _ w' ⟨M, (s.ts.later L).put hr o.dst, by rw [put_defers]; exact s.df⟩)
/-- A plain operation. -/
theorem AWL.plain {o : Oper} {r : AV} {d : List (Nat × ABlk)} (hg : o.guard = none) (hs : stepv P (evO σ.t) σ.h.length σ.h o.op = some (r, d)) (h : AWL P z ops l ⟨putT σ.t o.dst r, app σ.h d⟩ Q) : AWL P z ops (o :: l) σ Q :=
  .op hg (fun c a w s => stepv_yields s.m (evO_rep s.ts) s.m.ext.1 (fun x _ hx => .inl (List.getElem?_eq_none hx)) hs) h

/-- As many plain operations as there are. -/
def runL (P : Program) : List Oper → St → List Oper × St
  | [], σ => ([], σ)
  | o :: l, σ => match o.guard with
    | none => match stepv P (evO σ.t) σ.h.length σ.h o.op with
      | some (r, d) => runL P l ⟨putT σ.t o.dst r, app σ.h d⟩
      | none => (o :: l, σ)
    | some _ => (o :: l, σ)
theorem AWL.run (h : AWL P z ops (runL P l σ).1 (runL P l σ).2 Q) : AWL P z ops l σ Q := by
  induction l generalizing σ with
  | nil => exact h
  | cons o l ih =>
    simp only [runL] at h
    split at h
    · rename_i hg
      split at h
      · rename_i r d hs
        exact .plain hg hs (ih h)
      · exact h
    · exact h

/-! ### Code -/
theorem AW.skip (h : Q .normal σ) : AW P z .skip σ Q := fun c a w s => wp_skip ⟨σ, c, h, s⟩
theorem AW.ret (h : Q .ret σ) : AW P z .ret σ Q := fun c a w s => wp_ret ⟨σ, c, h, s⟩
theorem AW.exit {id : Nat} (h : Q (.exit id) σ) : AW P z (.exit id) σ Q := fun c a w s => wp_exit ⟨σ, c, h, s⟩
theorem AW.region {id : Nat} (h : AWL P z ops ops.toList σ Q) : AW P z (.region id ops false) σ Q := fun c a w s => wp_region_list (h c a w s)
def thenK (P : Program) (z : Ini) (b : Code) (Q : Exit → St → Prop) : Exit → St → Prop := fun e σ => match e with
  | .normal => AW P z b σ Q
  | e => Q e σ
theorem AW.seq {a b : Code} (h : AW P z a σ (thenK P z b Q)) : AW P z (.seq a b) σ Q := fun c ac w s => by
  refine wp_seq (Code.wp_mono ?_ (h c ac w s))
  intro e a' w' ⟨σ', c', q, s'⟩
  cases e with
  | normal => exact q c' a' w' s'
  | _ => exact ⟨σ', c', q, s'⟩
theorem AW.cond {x : Operand} {p q : Code} {b : Bool} (hx : evO σ.t x = .pv (.bool b)) (h1 : b = true → AW P z p σ Q) (h2 : b = false → AW P z q σ Q) : AW P z (.cond x p q) σ Q := fun c a w s => by
  have hr := evO_rep s.ts x
  rw [hx] at hr
  have : a.eval x = .bool b := by cases hr with | pv _ _ hr => generalize a.eval x = u at hr; cases hr; rfl
  exact wp_cond this (by cases b with | true => exact h1 rfl c a w s | false => exact h2 rfl c a w s)
def blockK (id : Nat) (Q : Exit → St → Prop) : Exit → St → Prop := fun e σ => match e with
  | .exit j => if j = id then Q .normal σ else Q (.exit j) σ
  | e => Q e σ
theorem AW.block {id : Nat} {b : Code} (h : AW P z b σ (blockK id Q)) : AW P z (.block id b) σ Q := fun c a w s => by
  refine wp_block (Code.wp_mono ?_ (h c a w s))
  intro e a' w' ⟨σ', c', q, s'⟩
  cases e with
  | exit j =>
    simp only [blockK] at q
    simp only [Exit.inBlock]
    split at q <;> rename_i hj
    · simp only [hj, if_true]; exact ⟨σ', c', q, s'⟩
    · simp only [hj, if_false]; exact ⟨σ', c', q, s'⟩
  | _ => exact ⟨σ', c', q, s'⟩
end
end Go.Ab
namespace Go.Ab
open Go.RowKit
set_option linter.unusedVariables false
set_option linter.unusedSimpArgs false

/-! ### From one plain state to one that says less -/
def Wk (z : Ini) (σ σ' : St) : Prop := ∀ c a w, Sim z σ c a w → ∃ c', Sim z σ' c' a w
theorem Wk.refl (z : Ini) (σ : St) : Wk z σ σ := fun c _ _ s => ⟨c, s⟩
theorem Wk.trans {z : Ini} {σ σ₁ σ₂ : St} (h : Wk z σ σ₁) (k : Wk z σ₁ σ₂) : Wk z σ σ₂ := fun c a w s => let ⟨c', s'⟩ := h c a w s; k c' a w s'
theorem Wk.aw {P : Program} {z : Ini} {code : Code} {σ σ' : St} {Q : Exit → St → Prop} (h : Wk z σ σ') (k : AW P z code σ' Q) : AW P z code σ Q := fun c a w s => let ⟨c', s'⟩ := h c a w s; k c' a w s'
/-- Each temporary is what it was, or nothing is said of it. -/
def wkT : List AV → List AV → Prop
  | [], [] => True
  | x :: xs, y :: ys => (y = .any ∨ y = x) ∧ wkT xs ys
  | _, _ => False
theorem wkT_get : ∀ {xs ys : List AV}, wkT xs ys → xs.length = ys.length ∧ ∀ (k : Nat) (y : AV), ys[k]? = some y → y = .any ∨ xs[k]? = some y
  | [], [], _ => ⟨rfl, fun k y h => by simp at h⟩
  | x :: xs, y :: ys, h => by
    obtain ⟨h1, h2⟩ := wkT_get h.2
    refine ⟨by simp [h1], fun k v hk => ?_⟩
    cases k with
    | zero => simp at hk; subst hk; rcases h.1 with e | e
              · exact .inl e
              · exact .inr (by simp [e])
    | succ k => simpa using h2 k v (by simpa using hk)
  | [], _ :: _, h => h.elim
  | _ :: _, [], h => h.elim
theorem Wk.any {z : Ini} {t t' : List AV} {h : List ABlk} (hw : wkT t t') : Wk z ⟨t, h⟩ ⟨t', h⟩ := fun c a w s => by
  obtain ⟨h1, h2⟩ := wkT_get hw
  refine ⟨c, s.m, ⟨by rw [← h1]; exact s.ts.1, fun k x v hk hv => ?_⟩, s.df⟩
  rcases h2 k x hk with rfl | e
  · exact .any _
  · exact s.ts.2 k x v e hv

/-- Temporaries whose value says less, by whatever reason. -/
theorem Wk.weak {z : Ini} {t t' : List AV} {h : List ABlk} (hl : t.length = t'.length) (hw : ∀ c w, MSim z h c w → ∀ (k : Nat) (x x' : AV) (v : Value), t[k]? = some x → t'[k]? = some x' → ARep c h w x v → ARep c h w x' v) : Wk z ⟨t, h⟩ ⟨t', h⟩ := fun c a w s => by
  refine ⟨c, s.m, ⟨by rw [← hl]; exact s.ts.1, fun k x v hk hv => ?_⟩, s.df⟩
  have hlt : k < t.length := by rw [hl]; exact (List.getElem?_eq_some_iff.1 hk).1
  exact hw c w s.m k _ x v (List.getElem?_eq_getElem hlt) hk (s.ts.2 k _ v (List.getElem?_eq_getElem hlt) hv)

/-! ### A nil slice as one that may grow -/
theorem Wk.vec {z : Ini} {t : List AV} {h : List ABlk} (sz : Nat) (k sz' : Nat) (hk : t[k]? = some (.pv (.lst true sz' []))) : Wk z ⟨t, h⟩ ⟨t.set k (.vs h.length 0 0), setx h h.length (.vec sz [])⟩ := fun c a w s => by
  have hu := unborn_len h
  let c' : Cx := c.born h.length 0 (0, 0)
  have L : Later c h w c' (setx h h.length (.vec sz [])) w := later_born hu (fun _ h => h) (fun _ _ => rfl) (c.born_other h.length 0 (0, 0))
  have lvi : ¬ lv c' (setx h h.length (.vec sz [])) h.length := by simp [lv, setx_same, c', Cx.born_vd]
  have lvo : ∀ j, lv c' (setx h h.length (.vec sz [])) j → j ≠ h.length ∧ lv c h j := fun j l => by
    by_cases hne : j = h.length
    · subst hne; exact (lvi l).elim
    · exact ⟨hne, (lv_setx_other hne (c.born_other h.length 0 (0, 0) j hne).2).1 l⟩
  have M : MSim z (setx h h.length (.vec sz [])) c' w := by
    refine s.m.step rfl rfl rfl (Nat.le_refl _) (fun _ _ _ => rfl) ⟨fun j x hj => ?_, fun j q lj lq e => ?_, fun j lj => ?_, s.m.hs.okb⟩ (fun j lj => .inl ⟨j, (lvo j lj).2, (c.born_other _ _ _ j (lvo j lj).1).1⟩) (fun x hx => .inl hx) (fun x hx => hx)
      (Nat.le_trans s.m.ext.1 (setx_length _ _ _)) (fun j hj => c.born_other _ _ _ j (by have := s.m.ext.1; simp only at this; omega))
    · rcases setx_get hj with ⟨rfl, rfl⟩ | ⟨hne, hj' | rfl⟩
      · exact ⟨by simp, fun j row hr => by simp at hr, fun hp => by simp [c', Cx.born_vd] at hp⟩
      · exact (s.m.hs.blk j x hj').later L (fun _ => c.born_other _ _ _ j hne) (fun l => rfl) hj'
      · trivial
    · rw [(c.born_other _ _ _ j (lvo j lj).1).1, (c.born_other _ _ _ q (lvo q lq).1).1] at e
      exact s.m.hs.inj j q (lvo j lj).2 (lvo q lq).2 e
    · rw [(c.born_other _ _ _ j (lvo j lj).1).1]
      exact s.m.hs.nok j (lvo j lj).2
  refine ⟨c', M, ⟨by simp only [List.length_set]; exact s.ts.1, fun j x v hj hv => ?_⟩, s.df⟩
  simp only [List.getElem?_set] at hj
  by_cases hjk : k = j
  · subst hjk
    have hlt : k < t.length := (List.getElem?_eq_some_iff.1 hk).1
    simp only [if_pos, hlt] at hj
    injection hj with hj; subst hj
    have hr := s.ts.2 k _ v hk hv
    cases hr with
    | pv _ _ hr =>
      cases hr with
      | lst _ _ _ A cc us h1 h2 h3 h4 h5 h6 =>
        have hc0 : cc = 0 := h3 rfl
        subst hc0
        refine .vs _ 0 0 _ (.vec sz []) rfl (setx_same _ _ _) (by intro h; cases h) fun sz2 rows2 e => ?_
        injection e with e1 e2; subst e1; subst e2
        exact ⟨by simp, A, by simp [c', Cx.born_vd], fun h => by simp [c', Cx.born_vd] at h⟩
  · rw [if_neg hjk] at hj
    exact (s.ts.2 j x v hj hv).later L

/-! ### A loop -/
def loopK (I : Nat → St → Prop) (z : Ini) (n : Nat) (Q : Exit → St → Prop) : Exit → St → Prop := fun e σ => match e with
  | .normal => ∃ m σ', m < n ∧ I m σ' ∧ Wk z σ σ'
  | e => Q e σ
theorem AW.loop {P : Program} {z : Ini} {b : Code} {σ : St} {Q : Exit → St → Prop} (I : Nat → St → Prop) (n : Nat) (σ₀ : St) (h₀ : I n σ₀) (hw : Wk z σ σ₀)
    (hr : ∀ n σ, I n σ → AW P z b σ (loopK I z n Q)) : AW P z (.loop b) σ Q := by
  have key : ∀ N m σ, m < N → I m σ → ∀ c a w, Sim z σ c a w → Code.rounds P b (lift z Q) N a w := by
    intro N
    induction N with
    | zero => intro m σ hm; omega
    | succ N ih =>
      intro m σ hm hI c a w s
      rw [rounds_succ]
      refine Code.wp_mono ?_ (hr m σ hI c a w s)
      intro e a' w' ⟨σ', c', q, s'⟩
      cases e with
      | normal =>
        obtain ⟨m', σ'', h1, h2, h3⟩ := q
        obtain ⟨c'', s''⟩ := h3 c' a' w' s'
        exact ih m' σ'' (by omega) h2 c'' a' w' s''
      | _ => exact ⟨σ', c', q, s'⟩
  intro c a w s
  obtain ⟨c', s'⟩ := hw c a w s
  exact wp_loop_rounds (n + 1) (key (n + 1) n σ₀ (by omega) h₀ c' a w s')
/-- A loop that goes round no more than n times, round by round. -/
def roundK (R : St → Prop) (Q : Exit → St → Prop) : Exit → St → Prop := fun e σ => match e with
  | .normal => R σ
  | e => Q e σ
def ARounds (P : Program) (z : Ini) (b : Code) (Q : Exit → St → Prop) : Nat → St → Prop
  | 0, _ => False
  | n + 1, σ => AW P z b σ (roundK (ARounds P z b Q n) Q)
theorem AW.rounds {P : Program} {z : Ini} {b : Code} {σ : St} {Q : Exit → St → Prop} (n : Nat) (h : ARounds P z b Q n σ) : AW P z (.loop b) σ Q := by
  have key : ∀ n σ, ARounds P z b Q n σ → ∀ c a w, Sim z σ c a w → Code.rounds P b (lift z Q) n a w := by
    intro n
    induction n with
    | zero => intro σ h; exact h.elim
    | succ n ih =>
      intro σ h c a w s
      rw [rounds_succ]
      refine Code.wp_mono ?_ (h c a w s)
      intro e a' w' ⟨σ', c', q, s'⟩
      cases e with
      | normal => exact ih σ' q c' a' w' s'
      | _ => exact ⟨σ', c', q, s'⟩
  exact fun c a w s => wp_loop_rounds n (key n σ h c a w s)

end Go.Ab
namespace Go.Ab
open Go.RowKit
set_option linter.unusedVariables false
set_option linter.unusedSimpArgs false

/-! ### Results -/
mutual
/-- A value without memory, slices of the call's own read as they stand. -/
def purH (S : Nat → Bool) (h : List ABlk) : AV → Option PV
  | .pv p => some p
  | .agg xs => (purHL S h xs).map .agg
  | .tup xs => (purHL S h xs).map .tup
  | .ifc t x => (purH S h x).map (.ifc t)
  | .vs i off n => match S i, h[i]? with
    | true, some (.vec sz rows) => some (.lst false sz ((rows.drop off).take n))
    | _, _ => none
  | _ => none
def purHL (S : Nat → Bool) (h : List ABlk) : List AV → Option (List PV)
  | [] => some []
  | x :: xs => match purH S h x, purHL S h xs with
    | some p, some ps => some (p :: ps)
    | _, _ => none
end
theorem purHL_get {S : Nat → Bool} {h : List ABlk} : ∀ {xs : List AV} {ps : List PV}, purHL S h xs = some ps → xs.length = ps.length ∧ ∀ (k : Nat) (p : PV), ps[k]? = some p → ∃ x, xs[k]? = some x ∧ purH S h x = some p
  | [], ps, hh => by simp [purHL] at hh; subst hh; exact ⟨rfl, fun k p hk => by simp at hk⟩
  | x :: xs, ps, hh => by
    rw [purHL] at hh
    split at hh
    · rename_i p qs h1 h2
      injection hh with hh; subst hh
      obtain ⟨h3, h4⟩ := purHL_get h2
      refine ⟨by simp [h3], fun k q hk => ?_⟩
      cases k with
      | zero => simp at hk; subst hk; exact ⟨x, rfl, h1⟩
      | succ k => exact h4 k q (by simpa using hk)
    · cases hh
/-- The blocks that nobody changes, and with them some of the call's own. -/
def Cx.all (c : Cx) (S : Nat → Bool) (h : List ABlk) : Nat → Prop := fun b => c.ok b ∨ ∃ i, S i = true ∧ lv c h i ∧ b = c.mu i

theorem ARep.purH {S : Nat → Bool} {z : Ini} {c : Cx} {h : List ABlk} {w : World} (s : MSim z h c w) {x : AV} {v : Value} (r : ARep c h w x v) : ∀ {p : PV}, Ab.purH S h x = some p → Rep (c.all S h) w p v := by
  have up : ∀ {p : PV} {v : Value}, Rep c.ok w p v → Rep (c.all S h) w p v := fun hr => hr.mono (fun b hb => .inl hb) (fun _ _ => rfl)
  induction r with
  | pv p v hr => intro q hq; simp [Ab.purH] at hq; subst hq; exact up hr
  | agg xs vs hl ho hr ih =>
    intro q hq
    simp only [Ab.purH, Option.map_eq_some_iff] at hq
    obtain ⟨ps, hp, rfl⟩ := hq
    obtain ⟨h1, h2⟩ := purHL_get hp
    refine .agg ps vs (h1.symm.trans hl) ho fun k p v hk hv => ?_
    obtain ⟨x, hx, hpx⟩ := h2 k p hk
    exact ih k x v hx hv hpx
  | tup xs vs hl hr ih =>
    intro q hq
    simp only [Ab.purH, Option.map_eq_some_iff] at hq
    obtain ⟨ps, hp, rfl⟩ := hq
    obtain ⟨h1, h2⟩ := purHL_get hp
    refine .tup ps vs (h1.symm.trans hl) fun k p v hk hv => ?_
    obtain ⟨x, hx, hpx⟩ := h2 k p hk
    exact ih k x v hx hv hpx
  | ifc t x v hr ih =>
    intro q hq
    simp only [Ab.purH, Option.map_eq_some_iff] at hq
    obtain ⟨p, hp, rfl⟩ := hq
    exact .ifc t p v (ih hp)
  | vs i off n v b ho hi hb hv =>
    intro q hq
    simp only [Ab.purH, hi] at hq
    cases hS : S i with
    | false => simp [hS] at hq
    | true =>
    simp only [hS] at hq
    cases b with
    | vec sz rows =>
      simp only [Option.some.injEq] at hq; subst hq
      obtain ⟨h1, A, rfl, h3⟩ := hv sz rows rfl
      obtain ⟨b1, b2, b3⟩ := s.hs.blk i _ hi
      have hlen : ((rows.drop off).take n).length = n := by simp; omega
      have hrow : ∀ (j : Nat) (row : List PV), ((rows.drop off).take n)[j]? = some row → j < n ∧ rows[off + j]? = some row := by
        intro j row hj
        have hjn : j < n := by rw [← hlen]; exact (List.getElem?_eq_some_iff.1 hj).1
        rw [List.getElem?_take_of_lt hjn, List.getElem?_drop] at hj
        exact ⟨hjn, hj⟩
      by_cases hn : n = 0
      · subst hn
        have : (rows.drop off).take 0 = [] := rfl
        rw [this]
        exact .lst false sz [] A _ (fun _ _ => undef) (fun j row h => by simp at h) (by simp) (fun h => by cases h) (fun h => by simp at h) (fun ad e j row k p h => by simp at h) (fun j row k p h => by simp at h)
      · obtain ⟨vs, ty, g1, g2, g3⟩ := b3 (by omega)
        obtain rfl := h3 (by omega)
        have e : Value.slice (some ⟨c.mu i, (c.vd i).1 + off * sz, none⟩) n ((c.vd i).2 - off) = .slice (some ⟨c.mu i, (c.vd i).1 + off * sz, none⟩) ((rows.drop off).take n).length ((c.vd i).2 - off) := by rw [hlen]
        rw [e]
        have key : ∀ (j : Nat) (row : List PV) (k : Nat) (p : PV), ((rows.drop off).take n)[j]? = some row → row[k]? = some p → ∃ u, vs[(c.vd i).1 + ((off + j) * sz + k)]? = some u ∧ u.oneCell' = true ∧ Rep c.ok w p u := fun j row k p hj hk => g3 (off + j) row k p (hrow j row hj).2 hk
        refine .lst false sz _ _ _ (fun j k => (vs[(c.vd i).1 + ((off + j) * sz + k)]?).getD undef) (fun j row hj => b2 _ row (hrow j row hj).2) (by rw [hlen]; omega) (fun h => by cases h) (fun _ => ⟨_, rfl⟩) (fun ad ea j row k p hj hk => ?_) (fun j row k p hj hk => ?_)
        · injection ea with ea; subst ea
          obtain ⟨u, u1, u2, u3⟩ := key j row k p hj hk
          refine ⟨.inr ⟨i, hS, by simp [lv, hi]; omega, rfl⟩, ?_, by rw [u1]; exact u2⟩
          rw [Addr.add_plain, u1]
          simp only [World.cell?, g1, Option.getD_some]
          rw [← u1]
          have : (c.vd i).1 + off * sz + (j * sz + k) = (c.vd i).1 + ((off + j) * sz + k) := by rw [Nat.add_mul]; omega
          simp [this]
        · obtain ⟨u, u1, u2, u3⟩ := key j row k p hj hk
          simp only [u1, Option.getD_some]
          exact up u3
    | _ => simp at hq
  | ptr | el | ve | sl | fn | mp | any => intro q hq; simp [Ab.purH] at hq

/-- What is shown of p is shown of q. -/
def Sub (p q : PV) : Prop := ∀ ok w v, Rep ok w p v → Rep ok w q v
theorem Sub.refl (p : PV) : Sub p p := fun _ _ _ h => h
theorem Sub.trans {p q r : PV} (h : Sub p q) (k : Sub q r) : Sub p r := fun ok w v g => k ok w v (h ok w v g)
theorem Sub.full (sz : Nat) (rows : List (List PV)) (b : Bool) : Sub (.lst b sz rows) (.lst false sz rows) := fun ok w v h => by
  cases h with
  | lst _ _ _ A c us h1 h2 h3 h4 h5 h6 => exact .lst false sz rows A c us h1 h2 (fun h => by cases h) h4 h5 h6
theorem Sub.nil (sz sz' : Nat) (b : Bool) : Sub (.lst b sz []) (.lst b sz' []) := fun ok w v h => by
  cases h with
  | lst _ _ _ A c us h1 h2 h3 h4 h5 h6 => exact .lst b sz' [] A c us (fun j row h => by simp at h) h2 h3 h4 (fun ad e j row k p h => by simp at h) (fun j row k p h => by simp at h)
theorem Sub.nil0 (sz sz' : Nat) (b : Bool) : Sub (.lst b sz []) (.lst false sz' []) := (Sub.full sz [] b).trans (Sub.nil sz sz' false)
/-- One by one. -/
def SubL : List PV → List PV → Prop
  | [], [] => True
  | p :: ps, q :: qs => Sub p q ∧ SubL ps qs
  | _, _ => False
theorem SubL_get : ∀ {ps qs : List PV}, SubL ps qs → ps.length = qs.length ∧ ∀ (k : Nat) (q : PV), qs[k]? = some q → ∃ p, ps[k]? = some p ∧ Sub p q
  | [], [], _ => ⟨rfl, fun k q h => by simp at h⟩
  | p :: ps, q :: qs, h => by
    obtain ⟨h1, h2⟩ := SubL_get h.2
    refine ⟨by simp [h1], fun k r hk => ?_⟩
    cases k with
    | zero => simp at hk; subst hk; exact ⟨p, rfl, h.1⟩
    | succ k => exact h2 k r (by simpa using hk)
  | [], _ :: _, h => h.elim
  | _ :: _, [], h => h.elim
theorem SubL.refl : ∀ ps : List PV, SubL ps ps
  | [] => trivial
  | p :: ps => ⟨Sub.refl p, SubL.refl ps⟩
theorem Sub.agg {ps qs : List PV} (h : SubL ps qs) : Sub (.agg ps) (.agg qs) := fun ok w v hr => by
  obtain ⟨h1, h2⟩ := SubL_get h
  cases hr with
  | agg _ vs hl ho hr =>
    refine .agg qs vs (h1.symm.trans hl) ho fun k q v hk hv => ?_
    obtain ⟨p, hp, hs⟩ := h2 k q hk
    exact hs _ _ _ (hr k p v hp hv)
theorem Sub.tup {ps qs : List PV} (h : SubL ps qs) : Sub (.tup ps) (.tup qs) := fun ok w v hr => by
  obtain ⟨h1, h2⟩ := SubL_get h
  cases hr with
  | tup _ vs hl hr =>
    refine .tup qs vs (h1.symm.trans hl) fun k q v hk hv => ?_
    obtain ⟨p, hp, hs⟩ := h2 k q hk
    exact hs _ _ _ (hr k p v hp hv)

/-! ### The contract -/
/-- Values, one by one. -/
def Reps (ok : Nat → Prop) (w : World) (ps : List PV) (vs : List Value) : Prop := ps.length = vs.length ∧ ∀ (k : Nat) (p : PV) (v : Value), ps[k]? = some p → vs[k]? = some v → Rep ok w p v
/-- Called with what shows 'ps', the function returns what shows 'r', and leaves all that stood as it stood. -/
structure PC (P : Program) (f : FuncId) (ps : List PV) (r : PV) : Prop where
  call : ∀ (args : Array Value) (w : World), (callFunc f args).run P w = .ok (.enter f args) w
  spec : ∀ (ok : Nat → Prop) (w : World) (vs : List Value), (∀ b, ok b → b < w.heap.size) → Glob w → Reps ok w ps vs →
    Calls P f vs.toArray w fun e w' => match e with
      | .returned v => Below w.heap.size w w' ∧ Rep (fun b => ok b ∨ (w.heap.size ≤ b ∧ b < w'.heap.size)) w' r v
      | _ => False

theorem PC.sub {P : Program} {f : FuncId} {ps : List PV} {r r' : PV} (h : PC P f ps r) (hs : Sub r r') : PC P f ps r' := ⟨h.call, fun ok w vs h1 hG h2 =>
  (h.spec ok w vs h1 hG h2).mono fun e w' he => by
    cases e with
    | returned v => exact ⟨he.1, hs _ _ _ he.2⟩
    | panicked _ => exact he.elim
    | outgrown => exact he.elim⟩

/-! ### From the body -/
def resOne (P : Program) (σ : St) : ResultVar → Option AV
  | .tmp t => some (evO σ.t (.tmp t))
  | .cell a ty => if 0 < szOf P ty then (if live σ.h (evO σ.t (.tmp a)) = true then loadA (agOf P ty) (szOf P ty) σ.h (evO σ.t (.tmp a)) else none) else none
def resAll (P : Program) (σ : St) : List ResultVar → Option (List AV)
  | [] => some []
  | r :: rs => match resOne P σ r, resAll P σ rs with
    | some x, some xs => some (x :: xs)
    | _, _ => none
def resA (P : Program) (σ : St) (rs : List ResultVar) : Option AV := match resAll P σ rs with
  | some [x] => some x
  | some xs => some (.tup xs)
  | none => none
end Go.Ab
namespace Go.Ab
open Go.RowKit
set_option linter.unusedVariables false
set_option linter.unusedSimpArgs false

theorem resOne_run {P : Program} {z : Ini} {σ : St} {c : Cx} {a : Act} {w : World} (s : Sim z σ c a w) {r : ResultVar} {x : AV} (h : resOne P σ r = some x) :
    ∃ v, ((match r with | .tmp t => pure (a.tmps.getD t undef) | .cell q t => do loadVar t (← asAddr (a.tmps.getD q undef)) : Sem Value)).run P w = .ok v w ∧ ARep c σ.h w x v := by
  cases r with
  | tmp t =>
    simp only [resOne, Option.some.injEq] at h; subst h
    exact ⟨_, rfl, evO_rep s.ts (.tmp t)⟩
  | cell q t =>
    simp only [resOne] at h
    split at h
    · rename_i hpos
      split at h
      · rename_i hl
        have hr := evO_rep s.ts (.tmp q)
        obtain ⟨u, h1, h2⟩ := loadA_run (P := P) (t := t) s.m hr h hpos
        obtain ⟨ad, e⟩ := live_ptr hr hl
        rw [e] at h1
        have e' : a.tmps.getD q undef = .pointer (some ad) := e
        refine ⟨u, ?_, h2⟩
        simp only [Instr.loadAt, Instr.sureAddr, Sem.run_bind, Sem.run_pure, Result.andThen_ok] at h1
        simp only [e', asAddr, Sem.run_bind, Sem.run_pure, Result.andThen_ok, h1]
      · cases h
    · cases h

theorem resAll_run {P : Program} {z : Ini} {σ : St} {c : Cx} {a : Act} {w : World} (s : Sim z σ c a w) : ∀ {rs : List ResultVar} {xs : List AV}, resAll P σ rs = some xs →
    ∃ vs, (rs.mapM (fun r => match r with | .tmp t => pure (a.tmps.getD t undef) | .cell q t => do loadVar t (← asAddr (a.tmps.getD q undef)) : ResultVar → Sem Value)).run P w = .ok vs w ∧ xs.length = vs.length ∧
      ∀ (k : Nat) (x : AV) (v : Value), xs[k]? = some x → vs[k]? = some v → ARep c σ.h w x v
  | [], xs, h => by simp [resAll] at h; subst h; exact ⟨[], by simp, rfl, fun k x v hk => by simp at hk⟩
  | r :: rs, xs, h => by
    simp only [resAll] at h
    split at h
    · rename_i x ys h1 h2
      injection h with h; subst h
      obtain ⟨v, g1, g2⟩ := resOne_run s h1
      obtain ⟨vs, g3, g4, g5⟩ := resAll_run s h2
      refine ⟨v :: vs, by rw [List.mapM_cons, Sem.run_bind, g1, Result.andThen_ok, Sem.run_bind, g3]; rfl, by simp [g4], fun k x v hk hv => ?_⟩
      cases k with
      | zero => simp at hk hv; subst hk; subst hv; exact g2
      | succ k => exact g5 k x v (by simpa using hk) (by simpa using hv)
    · cases h

theorem resA_run {P : Program} {z : Ini} {σ : St} {c : Cx} {a : Act} {w : World} {fn : Func} (s : Sim z σ c a w) {x : AV} (h : resA P σ fn.results.toList = some x) :
    ∃ v, (results fn a.tmps).run P w = .ok v w ∧ ARep c σ.h w x v := by
  unfold resA at h
  have run : ∀ vs, (fn.results.toList.mapM (fun r => match r with | .tmp t => pure (a.tmps.getD t undef) | .cell q t => do loadVar t (← asAddr (a.tmps.getD q undef)) : ResultVar → Sem Value)).run P w = .ok vs w →
      (results fn a.tmps).run P w = .ok (if h : vs.toArray.size = 1 then vs.toArray[0] else .tuple vs.toArray) w := by
    intro vs hv
    unfold results
    rw [Sem.run_bind]
    have : (fn.results.mapM (fun r => match r with | .tmp t => pure (a.tmps.getD t undef) | .cell q t => do loadVar t (← asAddr (a.tmps.getD q undef)) : ResultVar → Sem Value)).run P w = .ok vs.toArray w := by
      rw [← Array.toArray_toList (xs := fn.results), List.mapM_toArray, map_eq_pure_bind, Sem.run_bind, hv]
      rfl
    exact congrArg (fun q : Result (Array Value) => q.andThen fun vs w' => Sem.run P (pure (if h : vs.size = 1 then vs[0] else .tuple vs)) w') this
  split at h
  · rename_i x' hx
    injection h with h; subst h
    obtain ⟨vs, h1, h2, h3⟩ := resAll_run s hx
    cases vs with
    | nil => simp at h2
    | cons v vs =>
      have : vs = [] := by simpa using h2
      subst this
      exact ⟨v, by rw [run _ h1]; simp, h3 0 _ v rfl rfl⟩
  · rename_i xs hne hx
    injection h with h; subst h
    obtain ⟨vs, h1, h2, h3⟩ := resAll_run s hx
    refine ⟨.tuple vs.toArray, ?_, .tup _ vs h2 h3⟩
    rw [run _ h1]
    have : ¬ vs.toArray.size = 1 := by
      intro e
      have e1 : xs.length = 1 := by rw [h2]; simpa using e
      match xs, e1 with
      | [y], _ => exact hne y rfl
    rw [dif_neg this]
  · cases h

/-- What a body must come to. -/
def retK (P : Program) (rs : List ResultVar) (r : PV) : Exit → St → Prop := fun e σ => match e with
  | .normal => ∃ x p, resA P σ rs = some x ∧ purH (fun _ => true) σ.h x = some p ∧ Sub p r
  | .ret => ∃ x p, resA P σ rs = some x ∧ purH (fun _ => true) σ.h x = some p ∧ Sub p r
  | _ => False

theorem PC.body {P : Program} {f : FuncId} {fn : Func} {code : Code} {ps : List PV} {r : PV} (n : Nat) (hc : ∀ (args : Array Value) (w : World), (callFunc f args).run P w = .ok (.enter f args) w)
    (hf : P.funcs[f]? = some fn) (hb : fn.body = some code) (hn : fn.ntmps = n)
    (h : ∀ z : Ini, z.n = 0 → AW P z code ⟨ps.map .pv ++ List.replicate (n - ps.length) .any, []⟩ (retK P fn.results.toList r)) : PC P f ps r := by
  refine ⟨hc, fun ok w vs hok hG hreps => ?_⟩
  let c₀ : Cx := ⟨fun _ => 0, fun _ => (0, 0), ok⟩
  let z : Ini := ⟨w, fun _ => False, c₀, 0, hG, fun _ _ h => h⟩
  have lv0 : ∀ i, ¬ lv c₀ [] i := fun i h => by simp [lv] at h
  have M : MSim z [] c₀ w := ⟨Fr.refl w _, ⟨fun i b hi => by simp at hi, fun i j li => (lv0 i li).elim, fun i li => (lv0 i li).elim, hok⟩, fun i li => (lv0 i li).elim, fun b hb => .inl hb, fun b hb => hb, by simp [z]⟩
  refine calls_of_wp hf hb (Code.wp_mono ?_ (h z rfl c₀ _ w ⟨M, ?_, rfl⟩))
  · intro e a' w' ⟨σ', c', q, s'⟩
    have fin : ∀ x p, resA P σ' fn.results.toList = some x → purH (fun _ => true) σ'.h x = some p → Sub p r →
        a'.defers = [] ∧ ∃ v, (results fn a'.tmps).run P w' = .ok v w' ∧ (Below w.heap.size w w' ∧ Rep (fun b => ok b ∨ (w.heap.size ≤ b ∧ b < w'.heap.size)) w' r v) := by
      intro x p h1 h2 h3
      obtain ⟨v, g1, g2⟩ := resA_run s' h1
      refine ⟨s'.df, v, g1, ⟨s'.m.fr.os, s'.m.fr.tape, s'.m.fr.output, s'.m.fr.size, fun b hb => s'.m.fr.block b hb (fun h => h)⟩, ?_⟩
      refine (h3 _ _ _ (g2.purH s'.m h2)).mono (fun b hb => ?_) (fun _ _ => rfl)
      rcases hb with hb | ⟨i, _, li, rfl⟩
      · rcases s'.m.okn b hb with h | h | h
        · exact .inl h
        · exact h.elim
        · exact .inr ⟨h, s'.m.hs.okb b hb⟩
      · rcases s'.m.own i li with h | h
        · exact h.elim
        · exact .inr ⟨h, s'.m.hs.lv_lt li⟩
    cases e with
    | normal => obtain ⟨x, p, h1, h2, h3⟩ := q; exact fin x p h1 h2 h3
    | ret => obtain ⟨x, p, h1, h2, h3⟩ := q; exact fin x p h1 h2 h3
    | exit | goto | panic | outgrown => exact q.elim
  · obtain ⟨hl, hr⟩ := hreps
    refine ⟨by simp [hl, hn], fun k x v hk hv => ?_⟩
    simp only [List.getElem?_append, List.length_map] at hk
    split at hk
    · rename_i hlt
      simp only [List.getElem?_map, Option.map_eq_some_iff] at hk
      obtain ⟨p, hp, rfl⟩ := hk
      have hv' : vs[k]? = some v := by
        rw [Array.getElem?_append_left (by simp; omega)] at hv
        simpa using hv
      exact .pv _ _ (hr k p v hp hv')
    · simp only [List.getElem?_replicate] at hk
      split at hk
      · injection hk with hk; subst hk; exact .any _
      · cases hk

/-! ### A call -/
theorem run_call_func {P : Program} {o : Oper} {ρ : Operand → Value} {w : World} {f : FuncId} {args : Array Operand} {tys : Array TypeId} (ho : o.op = .call ⟨.value (.func f), args, tys⟩) (hf : ρ (.func f) = .func (.func f) #[] #[])
    (hc : ∀ (args : Array Value) (w : World), (callFunc f args).run P w = .ok (.enter f args) w) : (execOp ρ o).run P w = .ok (.enter f (args.map ρ)) w := by
  simp [execOp, ho, resolve, hf, Deferred.ofValue, invoke, hc]

theorem args_reps {ok : Nat → Prop} {w : World} {args : Array Operand} {ρ : Operand → Value} {ps : List PV} (hl : args.toList.length = ps.length) (h : ∀ (k : Nat) (p : PV), ps[k]? = some p → ∃ x, args.toList[k]? = some x ∧ Rep ok w p (ρ x)) : Reps ok w ps (args.toList.map ρ) := by
  refine ⟨by simp [hl], fun k p v hk hv => ?_⟩
  obtain ⟨x, hx, hr⟩ := h k p hk
  simp only [List.getElem?_map, hx, Option.map_some, Option.some.injEq] at hv
  exact hv ▸ hr

/-- Values that need no memory at all. -/
def scal : PV → Bool
  | .int _ _ => true
  | .bool _ => true
  | .str _ => true
  | .nilIfc => true
  | .nilFn => true
  | .nilPtr => true
  | .nilMap => true
  | .tup vs => scalL vs
  | .agg vs => scalL vs
  | .ifc _ v => scal v
  | .lst _ _ _ => false
where scalL : List PV → Bool
  | [] => true
  | p :: ps => scal p && scalL ps
section
variable {P : Program} {z : Ini} {o : Oper} {ρ : Operand → Value} {ev : Operand → AV} {c : Cx} {h : List ABlk} {w : World} {f : FuncId} {args : Array Operand} {tys : Array TypeId} {ps : List PV} {r : PV}

/-- A call whose arguments need no memory of the call's own. -/
theorem Yields.pcall (s : MSim z h c w) (hev : ∀ x, ARep c h w (ev x) (ρ x)) (hρ : ρ (.func f) = .func (.func f) #[] #[]) (ho : o.op = .call ⟨.value (.func f), args, tys⟩) (hp : purL (args.toList.map ev) = some ps) (hc : PC P f ps r) :
    Yields P z o ρ c h w (.pv r) h := by
  unfold Yields
  rw [run_call_func ho hρ hc.call]
  obtain ⟨h1, h2⟩ := purL_get hp
  have hreps : Reps c.ok w ps (args.toList.map ρ) := args_reps (by simpa using h1) fun k p hk => by
    obtain ⟨x, hx, hpx⟩ := h2 k p hk
    simp only [List.getElem?_map, Option.map_eq_some_iff] at hx
    obtain ⟨y, hy, rfl⟩ := hx
    exact ⟨y, hy, (hev y).pur hpx⟩
  have ha : (args.toList.map ρ).toArray = args.map ρ := by simp [← List.map_toArray]
  have := hc.spec c.ok w _ s.hs.okb s.glob hreps
  rw [ha] at this
  refine this.mono fun e w' he => ?_
  cases e with
  | returned v =>
    obtain ⟨L, M⟩ := s.beyond he.1 (fun b => w.heap.size ≤ b ∧ b < w'.heap.size) (fun _ h => h)
    exact ⟨_, L, M, .pv _ _ he.2⟩
  | panicked _ => exact he.elim
  | outgrown => exact he.elim

end

section
variable {P : Program} {z : Ini} {ops : Array Oper} {l : List Oper} {σ : St} {Q : Exit → St → Prop} {o : Oper} {f : FuncId} {args : Array Operand} {tys : Array TypeId} {ps : List PV} {r : PV}
theorem AWL.pcall (hc : PC P f ps r) (hg : o.guard = none) (ho : o.op = .call ⟨.value (.func f), args, tys⟩) (hp : purL (args.toList.map (evO σ.t)) = some ps) (h : AWL P z ops l ⟨putT σ.t o.dst (.pv r), σ.h⟩ Q) : AWL P z ops (o :: l) σ Q :=
  .op hg (fun c a w s => .pcall s.m (evO_rep s.ts) rfl ho hp hc) h
end
end Go.Ab
namespace Go.Ab
attribute [go_sem] runL stepv callv evO putT app setx constV acells loadA loadC storeA splice pur purL purH purHL fieldA partA vcells elemA idxA lenA live liveE liveS binA intB unA convA extA buildA fillA buildS repA chunk appA xOwn yRows mkA cnvA bytesA_map slcA cutA bndA intAV lenZ intOfA boolOf resOne resAll resA
attribute [go_sem] List.getD_cons_zero List.getD_cons_succ List.set_cons_zero List.set_cons_succ List.map_cons List.map_nil List.cons_append List.nil_append List.append_nil List.getElem?_cons_zero List.getElem?_cons_succ List.length_cons List.length_nil List.drop_succ_cons List.drop_zero List.take_succ_cons List.take_zero List.all_cons List.all_nil
attribute [go_sem] Option.map_some Option.map_none Option.getD_some Option.getD_none Option.bind_some Option.bind_none
attribute [go_sem] List.isEmpty_nil List.isEmpty_cons
end Go.Ab
namespace Go.Ab
open Go.RowKit
set_option linter.unusedVariables false
set_option linter.unusedSimpArgs false

/-! ### Which names a value bears -/
mutual
def refs : AV → List Nat
  | .ptr i _ => [i]
  | .vs i _ _ => [i]
  | .ve i _ _ => [i]
  | .sl i _ _ _ => [i]
  | .mp i => [i]
  | .agg xs => refsL xs
  | .tup xs => refsL xs
  | .ifc _ x => refs x
  | _ => []
def refsL : List AV → List Nat
  | [] => []
  | x :: xs => refs x ++ refsL xs
end

/-- At k the second list is as the first one, but for a name that is not there yet. -/
def EqN (h h' : List ABlk) (k : Nat) : Prop := h'[k]? = h[k]? ∨ (h[k]? = none ∧ h'[k]? = some .nb)
theorem loadA_congr {h h' : List ABlk} {x : AV} (hh : ∀ k ∈ refs x, EqN h h' k) (ag sz : Nat) : loadA ag sz h' x = loadA ag sz h x := by
  cases x <;> first | rfl | (simp only [loadA]; rcases hh _ (by simp [refs]; rfl) with e | ⟨e, e'⟩ <;> first | (rw [e, e']; done) | (rw [e, e']; rfl) | rw [e])
theorem storeA_congr {h h' : List ABlk} {x : AV} (hh : ∀ k ∈ refs x, EqN h h' k) (sz : Nat) (y : AV) : storeA sz h' y x = storeA sz h y x := by
  cases x <;> first | rfl | (simp only [storeA]; rcases hh _ (by simp [refs]; rfl) with e | ⟨e, e'⟩ <;> first | (rw [e, e']; done) | (rw [e, e']; rfl) | rw [e])
theorem live_congr {h h' : List ABlk} {x : AV} (hh : ∀ k ∈ refs x, EqN h h' k) : live h' x = live h x := by
  cases x <;> first | rfl | (simp only [live]; rcases hh _ (by simp [refs]; rfl) with e | ⟨e, e'⟩ <;> first | (rw [e, e']; done) | (rw [e, e']; rfl) | rw [e])
theorem liveE_congr {h h' : List ABlk} {x : AV} (hh : ∀ k ∈ refs x, EqN h h' k) : liveE h' x = liveE h x := by
  cases x <;> first | rfl | (simp only [liveE, live]; rcases hh _ (by simp [refs]; rfl) with e | ⟨e, e'⟩ <;> first | (rw [e, e']; done) | (rw [e, e']; rfl) | rw [e])
theorem liveS_congr {h h' : List ABlk} {x : AV} (hh : ∀ k ∈ refs x, EqN h h' k) : liveS h' x = liveS h x := by
  cases x <;> first | rfl | (simp only [liveS]; rcases hh _ (by simp [refs]; rfl) with e | ⟨e, e'⟩ <;> first | (rw [e, e']; done) | (rw [e, e']; rfl) | rw [e])
theorem elemA_congr {h h' : List ABlk} {x : AV} (hh : ∀ k ∈ refs x, EqN h h' k) (k : TK) (j : Int) : elemA k h' x j = elemA k h x j := by
  cases k <;> cases x <;> first | rfl | (simp only [elemA]; rcases hh _ (by simp [refs]; rfl) with e | ⟨e, e'⟩ <;> first | (rw [e, e']; done) | (rw [e, e']; rfl) | rw [e]) | (rename_i p; cases p <;> rfl)
theorem xOwn_congr {h h' : List ABlk} {x : AV} (hh : ∀ k ∈ refs x, EqN h h' k) (sz : Nat) : xOwn h' sz x = xOwn h sz x := by
  cases x <;> first | rfl | (rename_i p; cases p <;> first | rfl | (rename_i f _ _; cases f <;> rfl)) | (simp only [xOwn]; rcases hh _ (by simp [refs]; rfl) with e | ⟨e, e'⟩ <;> first | (rw [e, e']; done) | (rw [e, e']; rfl) | rw [e])
theorem yRows_congr {h h' : List ABlk} {x : AV} (hh : ∀ k ∈ refs x, EqN h h' k) (tk : TK) (sz : Nat) : yRows h' tk sz x = yRows h tk sz x := by
  cases x <;> first | rfl | (rename_i p; cases p <;> rfl) | (simp only [yRows]; rcases hh _ (by simp [refs]; rfl) with e | ⟨e, e'⟩ <;> first | (rw [e, e']; done) | (rw [e, e']; rfl) | rw [e])
theorem callv_congr {P : Program} {ev : Operand → AV} {n : Nat} {h h' : List ABlk} {b : Builtin} {xs : List Operand} {ts : List TypeId} (hh : ∀ x ∈ xs, ∀ k ∈ refs (ev x), EqN h h' k) : callv P ev n h' b xs ts = callv P ev n h b xs ts := by
  unfold callv
  split
  · rename_i x T; rw [liveS_congr (hh x (by simp))]
  · rfl
  · rfl
  · rename_i x y T Tx; unfold appA; simp only [xOwn_congr (hh x (by simp)), yRows_congr (hh y (by simp))]
  · rfl

theorem slcA_congr {h h' : List ABlk} {x : AV} (hh : ∀ k ∈ refs x, EqN h h' k) (tk : TK) (lo hi : Option AV) : slcA tk h' x lo hi = slcA tk h x lo hi := by
  have hc : ∀ l r, cutA tk h' x l r = cutA tk h x l r := fun l r => by
    cases tk <;> cases x <;> first | rfl | (rename_i p; cases p <;> rfl) | (simp only [cutA]; rcases hh _ (by simp [refs]; rfl) with e | ⟨e, e'⟩ <;> first | (rw [e, e']; done) | (rw [e, e']; rfl) | rw [e])
  unfold slcA
  split
  · exact hc _ _
  · rfl
theorem stepv_congr {P : Program} {ev : Operand → AV} {n : Nat} {h h' : List ABlk} {op : Op} (hh : ∀ x ∈ op.operands, ∀ k ∈ refs (ev x), EqN h h' k) : stepv P ev n h' op = stepv P ev n h op := by
  cases op <;> simp only [stepv]
  case convert s d x =>
    have : cnvA P h' s d (ev x) = cnvA P h s d (ev x) := by
      unfold cnvA
      simp only [yRows_congr (hh x (by simp [Op.operands]))]
    rw [this]
  case slice T x lo hi mx => rw [slcA_congr (hh x (by simp [Op.operands]))]
  case load T a => rw [loadA_congr (hh a (by simp [Op.operands]))]
  case store T a x => rw [storeA_congr (hh a (by simp [Op.operands]))]
  case nilCheck x => rw [live_congr (hh x (by simp [Op.operands]))]
  case fieldAddr s x f => rw [live_congr (hh x (by simp [Op.operands]))]
  case indexAddr T x i =>
    have h1 := hh x (by simp [Op.operands])
    split
    · rw [liveE_congr h1]
      split
      · rw [elemA_congr h1]
      · rfl
    · rfl
  case call c =>
    split
    · rename_i b hb
      exact callv_congr fun x hx => hh x (by simp [Op.operands, Call.operands, hb]; simpa using hx)
    · rfl
theorem callv_ev {P : Program} {ev ev' : Operand → AV} {n : Nat} {h : List ABlk} {b : Builtin} {xs : List Operand} {ts : List TypeId} (hh : ∀ x ∈ xs, ev x = ev' x) : callv P ev n h b xs ts = callv P ev' n h b xs ts := by
  unfold callv
  split
  · rename_i x T; rw [hh x (by simp)]
  · rename_i x y; rw [hh x (by simp), hh y (by simp)]
  · rename_i x y; rw [hh x (by simp), hh y (by simp)]
  · rename_i x y T Tx; rw [hh x (by simp), hh y (by simp)]
  · rfl
theorem stepv_ev {P : Program} {ev ev' : Operand → AV} {n : Nat} {h : List ABlk} {op : Op} (hh : ∀ x ∈ op.operands, ev x = ev' x) : stepv P ev n h op = stepv P ev' n h op := by
  cases op <;> simp only [stepv] <;> try rfl
  case build T parts =>
    have : (parts.toList.map fun p => (p.1, ev p.2)) = parts.toList.map fun p => (p.1, ev' p.2) := List.map_congr_left fun p hp => by
      rw [hh p.2 (by simp only [Op.operands]; simp; exact ⟨p.1, by simpa using hp⟩)]
    rw [this]
  case buildSlice T len parts =>
    have : (parts.toList.map fun p => (p.1, ev p.2)) = parts.toList.map fun p => (p.1, ev' p.2) := List.map_congr_left fun p hp => by
      rw [hh p.2 (by simp only [Op.operands]; simp; exact ⟨p.1, by simpa using hp⟩)]
    rw [this]
  case makeFunc f xs ys =>
    have h1 : xs.toList.map ev = xs.toList.map ev' := List.map_congr_left fun p hp => hh p (by simp [Op.operands]; left; simpa using hp)
    have h2 : ys.toList.map ev = ys.toList.map ev' := List.map_congr_left fun p hp => hh p (by simp [Op.operands]; right; simpa using hp)
    rw [h1, h2]
  case call c =>
    split
    · rename_i b hb
      exact callv_ev fun x hx => hh x (by simp [Op.operands, Call.operands, hb]; simpa using hx)
    · rfl
  case makeSlice T l c => rw [hh l (by simp [Op.operands]), hh c (by simp [Op.operands])]
  case slice T x lo hi mx =>
    have h1 : ev x = ev' x := hh x (by simp [Op.operands])
    have h2 : lo.map ev = lo.map ev' := by
      cases lo with
      | none => rfl
      | some a => simp only [Option.map_some]; rw [hh a (by simp [Op.operands])]
    have h3 : hi.map ev = hi.map ev' := by
      cases hi with
      | none => rfl
      | some a => simp only [Option.map_some]; rw [hh a (by simp [Op.operands])]
    rw [h1, h2, h3]
  case move x => rw [hh x (by simp [Op.operands])]
  case assign x => rw [hh x (by simp [Op.operands])]
  case box e x => rw [hh x (by simp [Op.operands])]
  case load T a => rw [hh a (by simp [Op.operands])]
  case store T a x => rw [hh a (by simp [Op.operands]), hh x (by simp [Op.operands])]
  case nilCheck x => rw [hh x (by simp [Op.operands])]
  case binOp op T x y yt => rw [hh x (by simp [Op.operands]), hh y (by simp [Op.operands])]
  case unOp u T x => rw [hh x (by simp [Op.operands])]
  case convert s d x => rw [hh x (by simp [Op.operands])]
  case fieldAddr s x f => rw [hh x (by simp [Op.operands])]
  case field s x f => rw [hh x (by simp [Op.operands])]
  case indexAddr T x i => rw [hh x (by simp [Op.operands]), hh i (by simp [Op.operands])]
  case index T x i => rw [hh x (by simp [Op.operands]), hh i (by simp [Op.operands])]
  case extract x i => rw [hh x (by simp [Op.operands])]

/-! ### Paths -/
abbrev Path := List (Nat × Bool)
def lk : List (Nat × Path) → Nat → Option Path
  | [], _ => none
  | (i, p) :: g, k => if i = k then some p else lk g k
def memP (x : Nat × Bool) : Path → Bool
  | [] => false
  | y :: l => (x.1 == y.1 && x.2 == y.2) || memP x l
def subP : Path → Path → Bool
  | [], _ => true
  | x :: p, q => memP x q && subP p q
theorem memP_mem {x : Nat × Bool} : ∀ {l : Path}, memP x l = true → x ∈ l
  | [], h => by cases h
  | y :: l, h => by
    simp only [memP, Bool.or_eq_true, Bool.and_eq_true, beq_iff_eq] at h
    rcases h with h | h
    · have : x = y := Prod.ext h.1 h.2
      simp [this]
    · exact List.mem_cons_of_mem _ (memP_mem h)
def holds (C : Nat → Bool) (p : Path) : Prop := ∀ x ∈ p, C x.1 = x.2
theorem subP_holds {C : Nat → Bool} : ∀ {p q : Path}, subP p q = true → holds C q → holds C p
  | [], q, _, _ => fun x hx => by cases hx
  | y :: p, q, h, hq => fun x hx => by
    simp only [subP, Bool.and_eq_true] at h
    rcases List.mem_cons.1 hx with rfl | hx
    · exact hq _ (memP_mem h.1)
    · exact subP_holds h.2 hq x hx

/-- A region's state on the way: temporaries, which of them hang on a path, memory. -/
structure RS where
  t : List AV
  g : List (Nat × Path)
  h : List ABlk
def evG (p : Path) (t : List AV) (g : List (Nat × Path)) : Operand → AV
  | .tmp k => match lk g k with
    | none => t.getD k .any
    | some q => if subP q p = true then t.getD k .any else .any
  | x => evO t x
def dstOf (ops : List Oper) (j : Nat) : Option Tmp := (ops[j]?).bind (·.dst)
/-- What an operation of a region came to. -/
structure PE where
  r : AV
  d : List (Nat × ABlk)
  p : Path
  ft : List Nat

def CF (ops : List Oper) (j : Nat) (t : List AV) (C : Nat → Bool) : Prop := ∀ i d v, i < j → dstOf ops i = some d → boolOf (t.getD d .any) = some v → C i = v
/-- The operation does this, whatever else has come up already. -/
def LS (P : Program) (z : Ini) (ops : List Oper) (j : Nat) (o : Oper) (s : RS) (e : PE) : Prop :=
  ∀ (C : Nat → Bool) (h' : List ABlk) (c : Cx) (w : World) (ρ : Operand → Value), CF ops j s.t C → holds C e.p → z.n ≤ s.h.length → (∀ k ∈ e.ft, EqN s.h h' k) → (∀ x ∈ e.d, s.h.length ≤ x.1 → unborn h' x.1) →
    MSim z h' c w → (∀ f, ρ (.func f) = .func (.func f) #[] #[]) → (∀ x ∈ o.op.operands, ∀ q, holds C q → ARep c h' w (evG q s.t s.g x) (ρ x)) → Yields P z o ρ c h' w e.r (app h' e.d)

theorem LS.step {P : Program} {z : Ini} {ops : List Oper} {j : Nat} {o : Oper} {s : RS} {r : AV} {d : List (Nat × ABlk)} {p : Path} (hs : stepv P (evG p s.t s.g) s.h.length s.h o.op = some (r, d)) :
    LS P z ops j o s ⟨r, d, p, o.op.operands.toList.flatMap fun x => refs (evG p s.t s.g x)⟩ := by
  intro C h' c w ρ hC hp hn hft hu M hfn hev
  classical
  let ev' : Operand → AV := fun x => if x ∈ o.op.operands then evG p s.t s.g x else .any
  have e1 : stepv P ev' s.h.length h' o.op = some (r, d) := by
    rw [← stepv_ev (ev := evG p s.t s.g) (fun x hx => by simp [ev', hx]), ← hs]
    exact stepv_congr fun x hx k hk => hft k (by simp only [List.mem_flatMap]; exact ⟨x, by simpa using hx, hk⟩)
  refine stepv_yields M (fun x => ?_) hn hu e1
  by_cases hx : x ∈ o.op.operands
  · simp only [ev', if_pos hx]; exact hev x hx p hp
  · simp only [ev', if_neg hx]; exact .any _

/-- 'if c then a else b', of truths. -/
def pickB (c a b : Bool) : Bool := (c && a) || (!c && b)
@[go_sem] theorem pickB_or (c b : Bool) : pickB c true b = (c || b) := by cases c <;> rfl
@[go_sem] theorem pickB_and (c a : Bool) : pickB c a false = (c && a) := by cases c <;> cases a <;> rfl
/-- Which operation wrote the temporary. -/
def ixOf : List Oper → Nat → Operand → Nat
  | [], _, _ => 0
  | o :: l, i, x => match x, o.dst with
    | .tmp k, some d => if d = k then i else ixOf l (i + 1) x
    | _, _ => ixOf l (i + 1) x
theorem holds_snoc {C : Nat → Bool} {p : Path} {j : Nat} {b : Bool} (hp : holds C p) (hj : C j = b) : holds C (p ++ [(j, b)]) := by
  intro x hx
  rcases List.mem_append.1 hx with hx | hx
  · exact hp x hx
  · simp at hx; subst hx; exact hj

theorem LS.pick {P : Program} {z : Ini} {ops : List Oper} {j : Nat} {o : Oper} {s : RS} {p : Path} {k : Tmp} {a b : Operand} {vc va vb : Bool} (ho : o.op = .pick (.tmp k) a b) (hix : ixOf ops 0 (.tmp k) < j) (hd : dstOf ops (ixOf ops 0 (.tmp k)) = some k)
    (hc : boolOf (evG p s.t s.g (.tmp k)) = some vc) (ha : boolOf (evG (p ++ [(ixOf ops 0 (.tmp k), true)]) s.t s.g a) = some va) (hb : boolOf (evG (p ++ [(ixOf ops 0 (.tmp k), false)]) s.t s.g b) = some vb) :
    LS P z ops j o s ⟨.pv (.bool (pickB vc va vb)), [], p, []⟩ := by
  intro C h' c w ρ hC hp hn hft hu M hfn hev
  have tob : ∀ {x : AV} {v : Value} {q : Bool}, ARep c h' w x v → boolOf x = some q → v = .bool q := by
    intro x v q hr hq
    unfold boolOf at hq
    split at hq
    · injection hq with hq; subst hq
      cases hr with | pv _ _ hr => cases hr; rfl
    · cases hq
  have h1 := tob (hev (.tmp k) (by simp [ho, Op.operands]) p hp) hc
  have hck : C (ixOf ops 0 (.tmp k)) = vc := by
    refine hC _ k vc hix hd ?_
    simp only [evG] at hc
    split at hc
    · exact hc
    · split at hc
      · exact hc
      · simp [boolOf] at hc
  unfold Yields
  cases vc with
  | true =>
    have h2 := tob (hev a (by simp [ho, Op.operands]) _ (holds_snoc hp hck)) ha
    have : (execOp ρ o).run P w = .ok (.value (.bool va)) w := by simp [execOp, ho, h1, h2, asBool]
    rw [this]
    exact ⟨c, Later.refl _ _ _, M, .pv _ _ (by simp [pickB]; exact .bool _)⟩
  | false =>
    have h2 := tob (hev b (by simp [ho, Op.operands]) _ (holds_snoc hp hck)) hb
    have : (execOp ρ o).run P w = .ok (.value (.bool vb)) w := by simp [execOp, ho, h1, h2, asBool]
    rw [this]
    exact ⟨c, Later.refl _ _ _, M, .pv _ _ (by simp [pickB]; exact .bool _)⟩
end Go.Ab
namespace Go.Ab
open Go.RowKit
set_option linter.unusedVariables false
set_option linter.unusedSimpArgs false

def putG (g : List (Nat × Path)) (dst : Option Tmp) (p : Path) : List (Nat × Path) := match dst, p with
  | some d, x :: q => (d, x :: q) :: g
  | _, _ => g
def RS.put (s : RS) (o : Oper) (e : PE) : RS := ⟨putT s.t o.dst e.r, putG s.g o.dst e.p, app s.h e.d⟩
/-- An operation's path: what its guard asks. -/
def pG (ops : List Oper) (g : List (Nat × Path)) : Option (Nat × Bool) → Path
  | none => []
  | some (j, b) => match dstOf ops j with
    | some d => ((lk g d).getD []) ++ [(j, b)]
    | none => []
/-- What a path says of the truths that were yielded. -/
def ppT (ops : List Oper) (t : List AV) : Path → Prop
  | [] => True
  | (j, b) :: p => (match dstOf ops j with | some d => boolOf (t.getD d .any) = some b | none => False) ∧ ppT ops t p
def gOk (ops : List Oper) (i : Nat) (t : List AV) : Option (Nat × Bool) → Prop
  | none => True
  | some (j, _) => j < i ∧ (match dstOf ops j with | some d => (boolOf (t.getD d .any)).isSome = true | none => False)

structure OK1 (P : Program) (z : Ini) (ops : List Oper) (i : Nat) (o : Oper) (s : RS) (e : PE) : Prop where
  p : e.p = pG ops s.g o.guard
  d : e.p ≠ [] → e.d = []
  g : gOk ops i s.t o.guard
  ls : ppT ops s.t e.p → LS P z ops i o s e

inductive RTr (P : Program) (z : Ini) (ops : List Oper) : Nat → List Oper → RS → List PE → RS → Prop
  | nil (i : Nat) (s : RS) : RTr P z ops i [] s [] s
  | cons (i : Nat) (o : Oper) (l : List Oper) (s : RS) (e : PE) (es : List PE) (s' : RS) (h : OK1 P z ops i o s e) (rest : RTr P z ops (i + 1) l (s.put o e) es s') : RTr P z ops i (o :: l) s (e :: es) s'

/-- The state ahead of operation j. -/
def stN (ops : List Oper) (es : List PE) (s₀ : RS) : Nat → RS
  | 0 => s₀
  | j + 1 => match ops[j]?, es[j]? with
    | some o, some e => (stN ops es s₀ j).put o e
    | _, _ => stN ops es s₀ j

theorem RTr.all {P : Program} {z : Ini} {ops : List Oper} {s₀ : RS} {es₀ : List PE} : ∀ {i : Nat} {l : List Oper} {s : RS} {es : List PE} {s' : RS}, RTr P z ops i l s es s' → (∀ j, l[j]? = ops[i + j]?) → (∀ j, es[j]? = es₀[i + j]?) → s = stN ops es₀ s₀ i →
    es.length = l.length ∧ s' = stN ops es₀ s₀ (i + l.length) ∧ ∀ j o e, l[j]? = some o → es[j]? = some e → OK1 P z ops (i + j) o (stN ops es₀ s₀ (i + j)) e
  | i, _, s, _, _, .nil _ _, _, _, hs => ⟨rfl, hs, fun j o e h => by simp at h⟩
  | i, _, s, _, _, .cons _ o l _ e es s' h rest, hl, hes, hs => by
    have h0 : ops[i]? = some o := by simpa using (hl 0).symm
    have e0 : es₀[i]? = some e := by simpa using (hes 0).symm
    obtain ⟨r1, r2, r3⟩ := RTr.all (s₀ := s₀) (es₀ := es₀) rest (fun j => by have := hl (j + 1); simpa [Nat.add_assoc, Nat.add_comm 1 j] using this) (fun j => by have := hes (j + 1); simpa [Nat.add_assoc, Nat.add_comm 1 j] using this)
      (by simp only [stN, h0, e0, ← hs])
    refine ⟨by simp [r1], by rw [r2]; congr 1; simp; omega, fun j o' e' ho he => ?_⟩
    cases j with
    | zero => simp at ho he; subst ho; subst he; rw [Nat.add_zero, ← hs]; exact h
    | succ j =>
      have := r3 j o' e' (by simpa using ho) (by simpa using he)
      rw [show i + (j + 1) = i + 1 + j from by omega]
      exact this

/-! ### Temporaries on the way -/
section
variable {ops : List Oper} {es : List PE} {s₀ : RS}
theorem putT_get {t : List AV} {d : Tmp} {x : AV} {k : Nat} : (putT t (some d) x)[k]? = if d = k then (if k < t.length then some x else none) else t[k]? := by
  simp only [putT, List.getElem?_set]
  by_cases h : d = k
  · subst h; simp
  · simp [h]
theorem stN_len (n : Nat) : (stN ops es s₀ n).t.length = s₀.t.length := by
  induction n with
  | zero => rfl
  | succ n ih =>
    simp only [stN]
    split
    · rename_i o e _ _
      simp only [RS.put]
      cases o.dst <;> simp [putT, ih]
    · exact ih
/-- Written by operation i, ahead of j: as it left it. -/
theorem stN_written (hdis : ∀ i j d, dstOf ops i = some d → dstOf ops j = some d → i = j) {i k : Nat} {e : PE} (hd : dstOf ops i = some k) (he : es[i]? = some e) : ∀ j, i < j → j ≤ ops.length →
    ((stN ops es s₀ j).t[k]? = if k < s₀.t.length then some e.r else none) ∧ (e.p ≠ [] → lk (stN ops es s₀ j).g k = some e.p)
  | 0, h, _ => absurd h (by omega)
  | j + 1, h, hj => by
    simp only [stN]
    by_cases hij : i = j
    · subst hij
      unfold dstOf at hd
      cases ho : ops[i]? with
      | none => simp [ho] at hd
      | some o =>
        simp only [ho, Option.bind_some] at hd
        simp only [he, RS.put, hd]
        refine ⟨by rw [putT_get, if_pos rfl, stN_len], fun hp => ?_⟩
        cases hq : e.p with
        | nil => exact absurd hq hp
        | cons x q => simp [putG, lk]
    · obtain ⟨h1, h2⟩ := stN_written hdis hd he j (by omega) (by omega)
      split
      · rename_i o e' ho he'
        have hne : o.dst ≠ some k := fun hk => hij (hdis i j k hd (by simp [dstOf, ho, hk]))
        simp only [RS.put]
        refine ⟨?_, fun hp => ?_⟩
        · cases hdst : o.dst with
          | none => exact h1
          | some d => rw [putT_get, if_neg (fun e => hne (by rw [hdst, e]))]; exact h1
        · cases hdst : o.dst with
          | none => exact h2 hp
          | some d =>
            cases e'.p with
            | nil => exact h2 hp
            | cons x q => simp only [putG, lk]; rw [if_neg (fun e => hne (by rw [hdst, e]))]; exact h2 hp
      · exact ⟨h1, h2⟩
/-- Paths are told only of temporaries that were written, and just of those with one. -/
theorem stN_path (hg : s₀.g = []) {k : Nat} {q : Path} : ∀ j, lk (stN ops es s₀ j).g k = some q → ∃ i e, i < j ∧ dstOf ops i = some k ∧ es[i]? = some e ∧ e.p = q ∧ q ≠ []
  | 0, h => by simp [stN, hg, lk] at h
  | j + 1, h => by
    simp only [stN] at h
    split at h
    · rename_i o e ho he
      simp only [RS.put] at h
      have old : lk (stN ops es s₀ j).g k = some q → ∃ i e, i < j + 1 ∧ dstOf ops i = some k ∧ es[i]? = some e ∧ e.p = q ∧ q ≠ [] := fun h => by
        obtain ⟨i, e, h1, h2⟩ := stN_path hg j h
        exact ⟨i, e, by omega, h2⟩
      cases hdst : o.dst with
      | none => rw [hdst] at h; exact old h
      | some d =>
        cases hp : e.p with
        | nil => rw [hdst, hp] at h; exact old h
        | cons x p =>
          rw [hdst, hp] at h
          simp only [putG, lk] at h
          split at h
          · rename_i hk
            injection h with h
            exact ⟨j, e, by omega, by simp [dstOf, ho, hdst, hk], he, by rw [hp, h], by rw [← h]; simp⟩
          · exact old h
    · obtain ⟨i, e, h1, h2⟩ := stN_path hg j h
      exact ⟨i, e, by omega, h2⟩
theorem stN_unwritten {k : Nat} : ∀ j, (∀ i, i < j → dstOf ops i ≠ some k) → (stN ops es s₀ j).t[k]? = s₀.t[k]?
  | 0, _ => rfl
  | j + 1, h => by
    have ih := stN_unwritten (k := k) j (fun i hi => h i (by omega))
    simp only [stN]
    split
    · rename_i o e ho he
      have hne : o.dst ≠ some k := fun hk => h j (by omega) (by simp [dstOf, ho, hk])
      simp only [RS.put]
      cases hdst : o.dst with
      | none => exact ih
      | some d => rw [putT_get, if_neg (fun e => hne (by rw [hdst, e]))]; exact ih
    · exact ih
end

/-! ### Memory on the way -/
/-- The same, but for names that are not there yet. -/
def AgP (h hp : List ABlk) : Prop := ∀ k : Nat, (∀ b, h[k]? = some b → hp[k]? = some b) ∧ (h[k]? = none → hp[k]? = none ∨ hp[k]? = some .nb)
theorem AgP.setx {h hp : List ABlk} (a : AgP h hp) (hl : h.length ≤ hp.length) (i : Nat) (b : ABlk) : AgP (Ab.setx h i b) (Ab.setx hp i b) := by
  intro k
  rw [setx_at, setx_at]
  by_cases hk : k = i
  · simp [hk]
  · rw [if_neg hk, if_neg hk]
    by_cases h1 : h.length ≤ k ∧ k < i
    · rw [if_pos h1]
      refine ⟨fun b' hb => ?_, fun h => by cases h⟩
      injection hb with hb; subst hb
      by_cases h2 : hp.length ≤ k ∧ k < i
      · rw [if_pos h2]
      · rw [if_neg h2]
        rcases (a k).2 (List.getElem?_eq_none h1.1) with h3 | h3
        · rw [List.getElem?_eq_none_iff] at h3; omega
        · exact h3
    · rw [if_neg h1]
      have h2 : ¬ (hp.length ≤ k ∧ k < i) := by omega
      rw [if_neg h2]
      exact a k
theorem app_len : ∀ (d : List (Nat × ABlk)) (h : List ABlk), h.length ≤ (app h d).length
  | [], h => Nat.le_refl _
  | (i, b) :: d, h => Nat.le_trans (setx_length h i b) (app_len d _)
theorem app_len_same : ∀ (d : List (Nat × ABlk)) (h : List ABlk), (∀ x ∈ d, x.1 < h.length) → (app h d).length = h.length
  | [], h, _ => rfl
  | (i, b) :: d, h, hd => by
    have h1 : (setx h i b).length = h.length := by rw [setx_len]; have := hd (i, b) (by simp); simp only at this; omega
    rw [app, app_len_same d _ (fun x hx => by rw [h1]; exact hd x (by simp [hx])), h1]
theorem AgP.app : ∀ (d : List (Nat × ABlk)) {h hp : List ABlk}, AgP h hp → h.length ≤ hp.length → AgP (Ab.app h d) (Ab.app hp d)
  | [], _, _, a, _ => a
  | (i, b) :: d, h, hp, a, hl => AgP.app d (a.setx hl i b) (by rw [setx_len, setx_len]; omega)

def inD (d : List (Nat × ABlk)) (k : Nat) : Prop := ∃ b, (k, b) ∈ d
/-- What stands at k behind those changes, where k is there. -/
theorem app_get {k : Nat} : ∀ (d : List (Nat × ABlk)) (h h' : List ABlk), (∀ x ∈ d, x.1 < h.length) → (∀ x ∈ d, x.1 < h'.length) → (inD d k ∨ h[k]? = h'[k]?) → (app h d)[k]? = (app h' d)[k]?
  | [], h, h', _, _, hk => by
    rcases hk with ⟨b, hb⟩ | hk
    · cases hb
    · exact hk
  | (i, b) :: d, h, h', h1, h2, hk => by
    have g1 := h1 (i, b) (by simp)
    have g2 := h2 (i, b) (by simp)
    simp only at g1 g2
    refine app_get d (setx h i b) (setx h' i b) (fun x hx => Nat.lt_of_lt_of_le (h1 x (by simp [hx])) (setx_length _ _ _)) (fun x hx => Nat.lt_of_lt_of_le (h2 x (by simp [hx])) (setx_length _ _ _)) ?_
    rw [setx_at, setx_at, if_neg (show ¬ (h.length ≤ k ∧ k < i) by omega), if_neg (show ¬ (h'.length ≤ k ∧ k < i) by omega)]
    by_cases hi : k = i
    · right; rw [if_pos hi, if_pos hi]
    · rw [if_neg hi, if_neg hi]
      rcases hk with ⟨b', hb'⟩ | hk
      · rcases List.mem_cons.1 hb' with e | e
        · simp only [Prod.mk.injEq] at e; exact absurd e.1 hi
        · exact .inl ⟨b', e⟩
      · exact .inr hk
theorem app_other {k : Nat} : ∀ (d : List (Nat × ABlk)) (h : List ABlk), (∀ x ∈ d, x.1 < h.length) → ¬ inD d k → (app h d)[k]? = h[k]?
  | [], h, _, _ => rfl
  | (i, b) :: d, h, h1, hk => by
    have g1 := h1 (i, b) (by simp)
    simp only at g1
    have hne : k ≠ i := fun e => hk ⟨b, by simp [e]⟩
    rw [app, app_other d _ (fun x hx => Nat.lt_of_lt_of_le (h1 x (by simp [hx])) (setx_length _ _ _)) (fun ⟨b', hb⟩ => hk ⟨b', by simp [hb]⟩), setx_at, if_neg hne, if_neg (by omega)]

/-- The memory of those that have come up. -/
def HL (es : List PE) (h : List ABlk) (L : Nat → Bool) : Nat → List ABlk
  | 0 => h
  | j + 1 => match es[j]? with
    | some e => if L j = true then app (HL es h L j) e.d else HL es h L j
    | none => HL es h L j
section
variable {es : List PE} {h : List ABlk} (hin : ∀ (j : Nat) (e : PE), es[j]? = some e → ∀ x ∈ e.d, x.1 < h.length)
include hin
theorem HL_len (L : Nat → Bool) : ∀ n, (HL es h L n).length = h.length
  | 0 => rfl
  | n + 1 => by
    have ih := HL_len L n
    simp only [HL]
    split
    · rename_i e he
      split
      · rw [app_len_same _ _ (fun x hx => by rw [ih]; exact hin n e he x hx), ih]
      · exact ih
    · exact ih
/-- At k only those count that write there. -/
theorem HL_at (L L' : Nat → Bool) (k : Nat) : ∀ n, (∀ j e, j < n → es[j]? = some e → inD e.d k → L j = L' j) → (HL es h L n)[k]? = (HL es h L' n)[k]?
  | 0, _ => rfl
  | n + 1, hk => by
    have ih := HL_at L L' k n (fun j e hj => hk j e (by omega))
    have l1 := HL_len hin L n
    have l2 := HL_len hin L' n
    simp only [HL]
    cases he : es[n]? with
    | none => exact ih
    | some e =>
      simp only
      by_cases hd : inD e.d k
      · have := hk n e (by omega) he hd
        rw [← this]
        split
        · exact app_get e.d _ _ (fun x hx => by rw [l1]; exact hin n e he x hx) (fun x hx => by rw [l2]; exact hin n e he x hx) (.inl hd)
        · exact ih
      · have o1 := app_other e.d (HL es h L n) (fun x hx => by rw [l1]; exact hin n e he x hx) hd
        have o2 := app_other e.d (HL es h L' n) (fun x hx => by rw [l2]; exact hin n e he x hx) hd
        split <;> split <;> simp [o1, o2, ih]
end
/-- Those behind n do not count. -/
theorem HL_cut {es : List PE} {h : List ABlk} (L : Nat → Bool) (j n : Nat) (hjn : j ≤ n) (hL : ∀ i, j ≤ i → L i = false) : HL es h L n = HL es h L j := by
  induction n with
  | zero => obtain rfl : j = 0 := by omega
            rfl
  | succ n ih =>
    by_cases hj : j = n + 1
    · rw [hj]
    · simp only [HL]
      rw [ih (by omega)]
      split
      · rw [hL n (by omega)]; simp
      · rfl
end Go.Ab
namespace Go.Ab
open Go.RowKit
set_option linter.unusedVariables false
set_option linter.unusedSimpArgs false

/-- What a region comes to, gone through in the order of its text. -/
structure Good (P : Program) (z : Ini) (ops : List Oper) (es : List PE) (s₀ : RS) : Prop where
  len : es.length = ops.length
  g : s₀.g = []
  ok : ∀ j o e, ops[j]? = some o → es[j]? = some e → OK1 P z ops j o (stN ops es s₀ j) e
  dis : ∀ i j d, dstOf ops i = some d → dstOf ops j = some d → i = j
  zn : z.n ≤ s₀.h.length

def Cof (es : List PE) (j : Nat) : Bool := match es[j]? with | some e => (boolOf e.r).getD false | none => false

section
variable {P : Program} {z : Ini} {ops : List Oper} {es : List PE} {s₀ : RS}

theorem stN_hlen (m n : Nat) (h : m ≤ n) : (stN ops es s₀ m).h.length ≤ (stN ops es s₀ n).h.length := by
  induction n with
  | zero => obtain rfl : m = 0 := by omega
            exact Nat.le_refl _
  | succ n ih =>
    by_cases hm : m = n + 1
    · rw [hm]; exact Nat.le_refl _
    · refine Nat.le_trans (ih (by omega)) ?_
      simp only [stN]
      split
      · exact app_len _ _
      · exact Nat.le_refl _

theorem app_bound : ∀ (d : List (Nat × ABlk)) (h : List ABlk), ∀ x ∈ d, x.1 < (app h d).length
  | (i, b) :: d, h, x, hx => by
    rcases List.mem_cons.1 hx with rfl | hx
    · refine Nat.lt_of_lt_of_le ?_ (app_len d _)
      rw [setx_len]; simp only; omega
    · exact app_bound d _ x hx

/-- The memory at the begin, with room for all names. -/
def h0p (ops : List Oper) (es : List PE) (s₀ : RS) : List ABlk := s₀.h ++ List.replicate ((stN ops es s₀ ops.length).h.length - s₀.h.length) .nb

theorem h0p_len : (h0p ops es s₀).length = (stN ops es s₀ ops.length).h.length := by
  have := stN_hlen (ops := ops) (es := es) (s₀ := s₀) 0 ops.length (by omega)
  simp only [stN] at this
  simp [h0p]; omega

theorem Good.din (G : Good P z ops es s₀) : ∀ (j : Nat) (e : PE), es[j]? = some e → ∀ x ∈ e.d, x.1 < (h0p ops es s₀).length := by
  intro j e he x hx
  have hj : j < ops.length := by rw [← G.len]; exact (List.getElem?_eq_some_iff.1 he).1
  rw [h0p_len]
  refine Nat.lt_of_lt_of_le ?_ (stN_hlen (j + 1) ops.length (by omega))
  have ho : ops[j]? = some ops[j] := List.getElem?_eq_getElem hj
  simp only [stN, ho, he, RS.put]
  exact app_bound e.d _ x hx

theorem Good.at (G : Good P z ops es s₀) {j : Nat} (hj : j < ops.length) : ∃ e, es[j]? = some e := ⟨_, List.getElem?_eq_getElem (by rw [G.len]; exact hj)⟩

theorem Good.agp (G : Good P z ops es s₀) : ∀ j, j ≤ ops.length → AgP (stN ops es s₀ j).h (HL es (h0p ops es s₀) (fun _ => true) j)
  | 0, _ => by
    intro k
    simp only [stN, HL, h0p]
    rcases Nat.lt_or_ge k s₀.h.length with h | h
    · rw [List.getElem?_append_left h]; exact ⟨fun b hb => hb, fun hn => .inl hn⟩
    · rw [List.getElem?_append_right h, List.getElem?_eq_none h, List.getElem?_replicate]
      refine ⟨fun b hb => by simp at hb, fun _ => ?_⟩
      split
      · exact .inr rfl
      · exact .inl rfl
  | j + 1, hj => by
    have ih := G.agp j (by omega)
    have ho : ops[j]? = some ops[j] := List.getElem?_eq_getElem (by omega)
    obtain ⟨e, he⟩ := G.at (j := j) (by omega)
    simp only [stN, HL, ho, he, RS.put, if_true]
    refine ih.app _ ?_
    rw [HL_len G.din, h0p_len]
    exact stN_hlen j _ (by omega)

theorem Good.fin (G : Good P z ops es s₀) : HL es (h0p ops es s₀) (fun _ => true) ops.length = (stN ops es s₀ ops.length).h := by
  have a := G.agp ops.length (Nat.le_refl _)
  refine List.ext_getElem? fun k => ?_
  rcases Nat.lt_or_ge k (stN ops es s₀ ops.length).h.length with h | h
  · rw [List.getElem?_eq_getElem h]; exact (a k).1 _ (List.getElem?_eq_getElem h)
  · rw [List.getElem?_eq_none h, List.getElem?_eq_none (by rw [HL_len G.din, h0p_len]; exact h)]

/-- What a path names came up ahead, and was a truth. -/
theorem Good.path (G : Good P z ops es s₀) : ∀ (j : Nat) (e : PE), es[j]? = some e → ∀ x ∈ e.p, x.1 < j ∧ ∃ d, dstOf ops x.1 = some d ∧ d < s₀.t.length ∧ ∃ e', es[x.1]? = some e' ∧ (boolOf e'.r).isSome = true := by
  intro j
  induction j using Nat.strongRecOn with
  | ind j ih =>
    intro e he x hx
    have hj : j < ops.length := by rw [← G.len]; exact (List.getElem?_eq_some_iff.1 he).1
    have ho : ops[j]? = some ops[j] := List.getElem?_eq_getElem hj
    have k := G.ok j _ e ho he
    rw [k.p] at hx
    cases hg : ops[j].guard with
    | none => rw [hg] at hx; simp [pG] at hx
    | some jb =>
      obtain ⟨m, b⟩ := jb
      have kg := k.g
      rw [hg] at hx kg
      simp only [gOk] at kg
      obtain ⟨hm, kg⟩ := kg
      cases hd : dstOf ops m with
      | none => rw [hd] at kg; exact kg.elim
      | some d =>
        rw [hd] at kg
        simp only [pG, hd] at hx
        obtain ⟨em, hem⟩ := G.at (j := m) (by omega)
        obtain ⟨t1, t2⟩ := stN_written (s₀ := s₀) G.dis hd hem j hm (by omega)
        have hlt : d < s₀.t.length := by
          rcases Nat.lt_or_ge d s₀.t.length with h | h
          · exact h
          · rw [if_neg (by omega)] at t1
            simp [List.getD_eq_getElem?_getD, t1, boolOf] at kg
        rcases List.mem_append.1 hx with hx1 | hx
        · cases hlk : lk (stN ops es s₀ j).g d with
          | none => rw [hlk] at hx1; simp at hx1
          | some q =>
            rw [hlk] at hx1
            simp only [Option.getD_some] at hx1
            obtain ⟨i, e', h1, h2, h3, h4, _⟩ := stN_path G.g j hlk
            have : i = m := G.dis i m d h2 hd
            subst this
            rw [← h4] at hx1
            obtain ⟨g1, g2⟩ := ih i hm e' h3 x hx1
            exact ⟨by omega, g2⟩
        · simp at hx
          subst hx
          refine ⟨hm, d, hd, hlt, _, hem, ?_⟩
          rw [if_pos hlt] at t1
          simpa [List.getD_eq_getElem?_getD, t1] using kg

theorem Good.cf (G : Good P z ops es s₀) (j : Nat) (hj : j ≤ ops.length) : CF ops j (stN ops es s₀ j).t (Cof es) := by
  intro i d v hi hd hv
  obtain ⟨e, he⟩ := G.at (j := i) (by omega)
  obtain ⟨t1, _⟩ := stN_written (s₀ := s₀) G.dis hd he j hi hj
  simp only [List.getD_eq_getElem?_getD, t1] at hv
  split at hv
  · simp only [Cof, he]
    simp only [Option.getD_some] at hv
    rw [hv]; rfl
  · simp [boolOf] at hv

/-- Of the operations that have come up, what the machine shows. -/
structure RInv (z : Ini) (ops : List Oper) (es : List PE) (s₀ : RS) (L : Nat → Bool) (u : Array Value) (c : Cx) (w : World) : Prop where
  m : MSim z (HL es (h0p ops es s₀) L ops.length) c w
  sz : u.size = s₀.t.length
  tmp : ∀ (k : Nat) (v : Value), u[k]? = some v →
    (∀ j e, L j = true → dstOf ops j = some k → es[j]? = some e → (holds (Cof es) e.p → ARep c (HL es (h0p ops es s₀) L ops.length) w e.r v) ∧ (¬ holds (Cof es) e.p → v = undef)) ∧
    ((∀ j, L j = true → dstOf ops j ≠ some k) → ∀ x, s₀.t[k]? = some x → ARep c (HL es (h0p ops es s₀) L ops.length) w x v)

def add (L : Nat → Bool) (j : Nat) : Nat → Bool := fun i => i == j || L i

/-- May operation j come up where L has? -/
structure May (ops : List Oper) (es : List PE) (s₀ : RS) (L : Nat → Bool) (j : Nat) (o : Oper) (e : PE) : Prop where
  new : L j = false
  opd : ∀ k, .tmp k ∈ o.op.operands → ∀ i, dstOf ops i = some k → (i < j ↔ L i = true)
  grd : ∀ m b, o.guard = some (m, b) → L m = true
  mem : ∀ k, (k ∈ e.ft ∨ inD e.d k) → ∀ i e', es[i]? = some e' → inD e'.d k → (i < j ↔ L i = true)

theorem Good.memAt (G : Good P z ops es s₀) {L : Nat → Bool} {j : Nat} (hj : j ≤ ops.length) {k : Nat} (hk : ∀ i e', es[i]? = some e' → inD e'.d k → (i < j ↔ L i = true)) :
    (HL es (h0p ops es s₀) L ops.length)[k]? = (HL es (h0p ops es s₀) (fun _ => true) j)[k]? := by
  have e1 := HL_at G.din L (fun i => decide (i < j)) k ops.length (fun i e' hi he hd => by
    have := hk i e' he hd
    by_cases h : i < j
    · simp [h, this.1 h]
    · have h2 : L i = false := by
        cases hL : L i with
        | false => rfl
        | true => exact absurd (this.2 hL) h
      simp [h, h2])
  have e2 := HL_cut (es := es) (h := h0p ops es s₀) (fun i => decide (i < j)) j ops.length hj (fun i hi => by simp; omega)
  have e3 := HL_at G.din (fun i => decide (i < j)) (fun _ => true) k j (fun i e' hi _ _ => by simp [hi])
  rw [e1, e2, e3]

theorem RInv.operand (G : Good P z ops es s₀) {L : Nat → Bool} {a : Act} {c : Cx} {w : World} (r : RInv z ops es s₀ L a.tmps c w) {j : Nat} (hj : j ≤ ops.length) {x : Operand} (hx : ∀ k, x = .tmp k → ∀ i, dstOf ops i = some k → (i < j ↔ L i = true))
    {q : Path} (hq : holds (Cof es) q) : ARep c (HL es (h0p ops es s₀) L ops.length) w (evG q (stN ops es s₀ j).t (stN ops es s₀ j).g x) (a.eval x) := by
  cases x with
  | const v =>
    simp only [evG, evO, Act.eval]
    cases hv : constV v with
    | none => exact .any _
    | some x => exact (constV_rep hv c _ w).1
  | func f => exact .fn (.func f) [] [] [] [] rfl (fun k x v hk => by simp at hk) rfl (fun k x v hk => by simp at hk)
  | global g => exact .any _
  | tmp k =>
    simp only [Act.eval]
    rcases Nat.lt_or_ge k a.tmps.size with hk | hk
    · have hu : a.tmps[k]? = some a.tmps[k] := Array.getElem?_eq_getElem hk
      have hv : a.tmps.getD k undef = a.tmps[k] := by simp [Array.getD_eq_getD_getElem?, hu]
      rw [hv]
      obtain ⟨r1, r2⟩ := r.tmp k _ hu
      have hks : k < s₀.t.length := by rw [← r.sz]; exact hk
      by_cases hw : ∃ i, i < j ∧ dstOf ops i = some k
      · obtain ⟨i, hi, hd⟩ := hw
        obtain ⟨ei, he⟩ := G.at (j := i) (by omega)
        obtain ⟨t1, t2⟩ := stN_written (s₀ := s₀) G.dis hd he j hi hj
        rw [if_pos hks] at t1
        obtain ⟨a1, _⟩ := r1 i _ ((hx k rfl i hd).1 hi) hd he
        simp only [evG]
        cases hlk : lk (stN ops es s₀ j).g k with
        | none =>
          have hp : ei.p = [] := by
            by_cases hp : ei.p = []
            · exact hp
            · rw [t2 hp] at hlk; cases hlk
          simp only [List.getD_eq_getElem?_getD, t1, Option.getD_some]
          exact a1 (by rw [hp]; intro x hx; cases hx)
        | some q' =>
          obtain ⟨i', e', h1, h2, h3, h4, _⟩ := stN_path G.g j hlk
          have : i' = i := G.dis i' i k h2 hd
          subst this
          rw [he] at h3; injection h3 with h3
          simp only
          split
          · rename_i hs
            simp only [List.getD_eq_getElem?_getD, t1, Option.getD_some]
            exact a1 (by rw [h3, h4]; exact subP_holds hs hq)
          · exact .any _
      · have hno : ∀ i, i < j → dstOf ops i ≠ some k := fun i hi hd => hw ⟨i, hi, hd⟩
        have t1 := stN_unwritten (es := es) (s₀ := s₀) (k := k) j hno
        have hlk : lk (stN ops es s₀ j).g k = none := by
          cases hlk : lk (stN ops es s₀ j).g k with
          | none => rfl
          | some q' => obtain ⟨i', e', h1, h2, _⟩ := stN_path G.g j hlk; exact absurd h2 (hno i' h1)
        simp only [evG, hlk, List.getD_eq_getElem?_getD, t1, List.getElem?_eq_getElem hks, Option.getD_some]
        exact r2 (fun i hL hd => hno i ((hx k rfl i hd).2 hL) hd) _ (List.getElem?_eq_getElem hks)
    · have hks : s₀.t.length ≤ k := by rw [← r.sz]; exact hk
      have hn : (stN ops es s₀ j).t.getD k .any = .any := by
        rw [List.getD_eq_getElem?_getD, List.getElem?_eq_none (by rw [stN_len]; exact hks)]; rfl
      simp only [evG, hn]
      split
      · exact .any _
      · split <;> exact .any _
end
end Go.Ab
