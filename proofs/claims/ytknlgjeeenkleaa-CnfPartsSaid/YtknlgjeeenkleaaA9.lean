/- Values that are built; lengths; bytes of texts; parts of tuples; functions. -/
import Derived.Test.YtknlgjeeenkleaaA8
namespace Go.Ab
open Go.RowKit
set_option linter.unusedVariables false
set_option linter.unusedSimpArgs false

/-! ### Cells, one by one -/
def CRep (c : Cx) (h : List ABlk) (w : World) (xs : List AV) (cs : Array Value) : Prop :=
  cs.size = xs.length ∧ ∀ (k : Nat) (x : AV), xs[k]? = some x → ∃ u, cs[k]? = some u ∧ u.oneCell' = true ∧ ARep c h w x u

theorem foldl_put (off : Nat) : ∀ (l : List Value) (i : Nat) (cs : Array Value), ((l.zipIdx i).foldl (fun cs (c, j) => cs.setIfInBounds (off + j) c) cs).size = cs.size ∧
    ∀ k, ((l.zipIdx i).foldl (fun cs (c, j) => cs.setIfInBounds (off + j) c) cs)[k]? = if off + i ≤ k ∧ k < off + i + l.length ∧ k < cs.size then l[k - off - i]? else cs[k]?
  | [], i, cs => ⟨rfl, fun k => by rw [if_neg (by simp; omega)]; rfl⟩
  | v :: l, i, cs => by
    have ih := foldl_put off l (i + 1) (cs.setIfInBounds (off + i) v)
    simp only [List.zipIdx_cons, List.foldl_cons, Array.size_setIfInBounds] at ih ⊢
    refine ⟨ih.1, fun k => ?_⟩
    rw [ih.2 k]
    by_cases h1 : k = off + i
    · subst h1
      rw [if_neg (by omega), Array.getElem?_setIfInBounds]
      simp only [if_pos]
      by_cases h2 : off + i < cs.size
      · rw [if_pos h2, if_pos ⟨by omega, by simp, h2⟩]
        simp
      · rw [if_neg h2, if_neg (by omega), Array.getElem?_eq_none (by omega)]
    · by_cases h2 : off + (i + 1) ≤ k ∧ k < off + (i + 1) + l.length ∧ k < cs.size
      · rw [if_pos h2, if_pos ⟨by omega, by simp; omega, h2.2.2⟩]
        rw [show k - off - i = (k - off - (i + 1)) + 1 from by omega, List.getElem?_cons_succ]
      · rw [if_neg h2, Array.getElem?_setIfInBounds, if_neg (by omega), if_neg (by simp; omega)]

def fillA (place : Nat → Option (Nat × Nat)) (zs : List AV) : List (Nat × AV) → Option (List AV)
  | [] => some zs
  | (i, x) :: l => match place i, acells x with
    | some (off, sz), some ys => if ys.length = sz ∧ off + sz ≤ zs.length then fillA place (splice zs off ys) l else none
    | _, _ => none

theorem fillA_run {c : Cx} {h : List ABlk} {w : World} {place : Nat → Option (Nat × Nat)} : ∀ (l : List (Nat × AV)) (vs : List (Nat × Value)) (zs r : List AV) (cs : Array Value), l.length = vs.length →
    (∀ (k : Nat) (i : Nat) (x : AV), l[k]? = some (i, x) → ∃ v, vs[k]? = some (i, v) ∧ ARep c h w x v) → CRep c h w zs cs → fillA place zs l = some r → ∃ cs', Instr.fill place cs vs = some cs' ∧ CRep c h w r cs'
  | [], vs, zs, r, cs, hl, _, hz, hr => by
    simp at hl
    obtain rfl : vs = [] := List.eq_nil_of_length_eq_zero hl.symm
    simp [fillA] at hr; subst hr
    exact ⟨cs, rfl, hz⟩
  | (i, x) :: l, vs, zs, r, cs, hl, hp, hz, hr => by
    obtain ⟨v, hv, hx⟩ := hp 0 i x rfl
    cases vs with
    | nil => simp at hv
    | cons q vs =>
      simp at hv; subst hv
      simp only [fillA] at hr
      split at hr
      · rename_i off sz ys h1 h2
        split at hr
        · rename_i hsz
          obtain ⟨g1, g2⟩ := hx.cells h2
          have hsp := splice_get zs ys off (by omega)
          have hf := foldl_put off v.cells.toList 0 cs
          have hz' : CRep c h w (splice zs off ys) ((v.cells.toList.zipIdx 0).foldl (fun cs (c, j) => cs.setIfInBounds (off + j) c) cs) := by
            refine ⟨by rw [hf.1, hz.1, hsp.1], fun k y hk => ?_⟩
            rw [hsp.2 k] at hk
            rw [hf.2 k]
            have hlen : v.cells.toList.length = ys.length := by simpa using g1
            have hsize := hz.1
            by_cases hin : off ≤ k ∧ k < off + ys.length
            · rw [if_pos hin] at hk
              rw [if_pos (by omega)]
              obtain ⟨u, u1, u2, u3⟩ := g2 (k - off) y hk
              exact ⟨u, by rw [Nat.sub_zero, Array.getElem?_toList]; exact u1, u2, u3⟩
            · rw [if_neg hin] at hk
              rw [if_neg (by omega)]
              exact hz.2 k y hk
          obtain ⟨cs', e1, e2⟩ := fillA_run l vs _ r _ (by simpa using hl) (fun k i x hk => by simpa using hp (k + 1) i x (by simpa using hk)) hz' hr
          refine ⟨cs', ?_, e2⟩
          have hsize := hz.1
          have hcond : ¬ ((v.cells.size ≠ sz || decide (off + v.cells.size > cs.size)) = true) := by simp; omega
          have hfold : v.cells.zipIdx.foldl (fun cs (x : Value × Nat) => cs.setIfInBounds (off + x.2) x.1) cs = (v.cells.toList.zipIdx 0).foldl (fun cs (c, j) => cs.setIfInBounds (off + j) c) cs := by
            rw [← Array.foldl_toList]; simp
          simp only [Instr.fill, h1]
          rw [if_neg hcond]
          rw [← e1]
          congr 1
        · cases hr
      · cases hr

theorem run_mapM {P : Program} {α β : Type} {f : α → Sem β} {g : α → β} {w : World} : ∀ (l : List α), (∀ x ∈ l, (f x).run P w = .ok (g x) w) → (l.mapM f).run P w = .ok (l.map g) w
  | [], _ => by simp
  | x :: l, h => by
    rw [List.mapM_cons]
    simp [h x (by simp), run_mapM l (fun y hy => h y (by simp [hy]))]

/-- A struct or an array out of parts. -/
def buildA (P : Program) (t : TypeId) (parts : List (Nat × AV)) : Option AV :=
  match zro P t, tk P t with
  | some zs, .strct fs => if fs.all (fun f => decide (0 < f.2.2.1)) then (fillA (fun i => (fs[i]?).map fun f => (f.2.1, f.2.2.1)) zs parts).map .agg else none
  | some zs, .arr n e sz g => if 0 < sz then (fillA (fun i => some (i * sz, sz)) zs parts).map .agg else none
  | _, _ => none

theorem agg_of_cells {c : Cx} {h : List ABlk} {w : World} {xs : List AV} {cs : Array Value} (r : CRep c h w xs cs) : ARep c h w (.agg xs) (.agg cs) := by
  have h2 : cs = cs.toList.toArray := by simp
  rw [h2]
  refine .agg xs cs.toList (by simp [r.1]) (fun v hv => ?_) fun k x v hk hv => ?_
  · obtain ⟨k, hk, e⟩ := List.getElem_of_mem hv
    have hk' : k < xs.length := by rw [← r.1]; simpa using hk
    obtain ⟨u, u1, u2, _⟩ := r.2 k _ (List.getElem?_eq_getElem hk')
    rw [← Array.getElem?_toList, List.getElem?_eq_getElem hk] at u1
    injection u1 with u1; rw [← e, u1]; exact u2
  · obtain ⟨u, u1, _, u3⟩ := r.2 k x hk
    rw [← Array.getElem?_toList, hv] at u1
    injection u1 with u1; rw [u1]; exact u3

theorem zro_rep {P : Program} {t : TypeId} {xs : List AV} (hz : zro P t = some xs) (c : Cx) (h : List ABlk) (w : World) : ∃ zv, (zeroValue t).run P w = .ok zv w ∧ CRep c h w xs zv.cells := by
  obtain ⟨zv, h1, h2⟩ := zro_run hz w
  obtain ⟨h3, h4⟩ := constVs_rep h2 c h w
  exact ⟨zv, h1, by simpa using h3, fun k x hk => by obtain ⟨v, v1, v2, v3⟩ := h4 k x hk; exact ⟨v, by rw [← Array.getElem?_toList]; exact v1, v2, v3⟩⟩

theorem buildA_run {P : Program} {t : TypeId} {c : Cx} {h : List ABlk} {w : World} {l : List (Nat × AV)} {vs : Array (Nat × Value)} {r : AV} (hl : l.length = vs.size)
    (hp : ∀ (k : Nat) (i : Nat) (x : AV), l[k]? = some (i, x) → ∃ v, vs[k]? = some (i, v) ∧ ARep c h w x v) (hb : buildA P t l = some r) :
    ∃ u, (Instr.build t vs).run P w = .ok u w ∧ ARep c h w r u := by
  unfold buildA at hb
  split at hb
  · rename_i zs fs hz hk
    obtain ⟨fs', hu, rfl⟩ := tk_strct hk
    obtain ⟨zv, h1, h2⟩ := zro_rep hz c h w
    split at hb
    · rename_i hall
      simp only [Option.map_eq_some_iff] at hb
      obtain ⟨q, hq, rfl⟩ := hb
      obtain ⟨cs', e1, e2⟩ := fillA_run l vs.toList zs q zv.cells (by simpa using hl) (fun k i x hk => by simpa using hp k i x hk) h2 hq
      refine ⟨.agg cs', ?_, agg_of_cells e2⟩
      have hm : (fs'.mapM (fun f => do pure (f.offset, ← sizeOf f.type) : Field → Sem (Nat × Nat))).run P w = .ok (fs'.map fun f => (f.offset, szOf P f.type)) w := by
        have := run_mapM (P := P) (w := w) (f := fun f => (do pure (f.offset, ← sizeOf f.type) : Sem (Nat × Nat))) (g := fun f : Field => (f.offset, szOf P f.type)) fs'.toList (fun f hf => by
          have : 0 < szOf P f.type := by
            simp only [List.all_map, List.all_eq_true, Function.comp] at hall
            simpa using hall f hf
          simp [szOf_run rfl this])
        rw [← Array.toArray_toList (xs := fs'), List.mapM_toArray, map_eq_pure_bind, Sem.run_bind, this]
        simp only [Result.andThen_ok, Sem.run_pure]
        rw [← List.map_toArray, Array.toArray_toList]
      have hpl : (fun i : Nat => (fs'.map fun f => (f.offset, szOf P f.type))[i]?) = fun i : Nat => ((fs'.toList.map fun f => (f.type, f.offset, szOf P f.type, agOf P f.type == 2))[i]?).map fun f : Nat × Nat × Nat × Bool => (f.2.1, f.2.2.1) := by
        funext i
        simp only [List.getElem?_map, Array.getElem?_map, Array.getElem?_toList, Option.map_map]
        rfl
      simp only [Instr.build, Sem.run_bind, h1, Result.andThen_ok, run_underlying hu, hm]
      rw [hpl, e1]
      rfl
    · cases hb
  · rename_i zs n e sz g hz hk
    obtain ⟨hu, rfl, _⟩ := tk_arr hk
    obtain ⟨zv, h1, h2⟩ := zro_rep hz c h w
    split at hb
    · rename_i hpos
      simp only [Option.map_eq_some_iff] at hb
      obtain ⟨q, hq, rfl⟩ := hb
      obtain ⟨cs', e1, e2⟩ := fillA_run l vs.toList zs q zv.cells (by simpa using hl) (fun k i x hk => by simpa using hp k i x hk) h2 hq
      refine ⟨.agg cs', ?_, agg_of_cells e2⟩
      simp only [Instr.build, Sem.run_bind, h1, Result.andThen_ok, run_underlying hu, szOf_run (P := P) (t := e) rfl hpos]
      rw [e1]
      rfl
    · cases hb
  · cases hb

/-! ### Lengths -/
def lenA (k : TK) : AV → Option PV
  | .pv (.str s) => match k with | .str => some (.int .i64 s.size) | _ => none
  | .pv (.lst _ _ rows) => match k with | .slice _ _ _ => some (.int .i64 rows.length) | _ => none
  | .sl i off n cap => match k with | .slice _ _ _ => some (.int .i64 n) | _ => none
  | .vs i off n => match k with | .slice _ _ _ => some (.int .i64 n) | _ => none
  | _ => none
/-- Is it a slice that is there? -/
def liveS (h : List ABlk) : AV → Bool
  | .vs i _ _ => match h[i]? with | some (.vec _ _) => true | _ => false
  | .sl i _ _ _ => match h[i]? with | some (.box _) => true | _ => false
  | _ => true
theorem lenA_run {P : Program} {t ty : TypeId} {c : Cx} {h : List ABlk} {w : World} {x : AV} {v : Value} {p : PV} (hx : ARep c h w x v) (hl : liveS h x = true) (hp : lenA (tk P t) x = some p) :
    ∃ u, (Builtin.len_ #[t] ty #[v]).run P w = .ok u w ∧ Rep c.ok w p u := by
  cases x with
  | pv q =>
    cases hx with
    | pv _ _ hr =>
      cases hr with
      | str s =>
        simp only [lenA] at hp
        split at hp
        · rename_i hk; injection hp with hp; subst hp
          exact ⟨_, by simp [Builtin.len_, run_underlying (tk_str hk), goInt], .int _ _⟩
        · cases hp
      | lst full sz rows A cc us h1 h2 h3 h4 h5 h6 =>
        simp only [lenA] at hp
        split at hp
        · rename_i hk; injection hp with hp; subst hp
          exact ⟨_, by simp [Builtin.len_, run_underlying (tk_slice hk).1, goInt], .int _ _⟩
        · cases hp
      | _ => simp [lenA] at hp
  | vs i off n =>
    cases hx with
    | vs _ _ _ _ b ho hi hb hv =>
      simp only [lenA] at hp
      split at hp
      · rename_i hk; injection hp with hp; subst hp
        cases b with
        | vec sz rows => obtain ⟨_, A, rfl, _⟩ := hv _ _ rfl; exact ⟨_, by simp [Builtin.len_, run_underlying (tk_slice hk).1, goInt], .int _ _⟩
        | _ => simp [liveS, hi] at hl
      · cases hp
  | sl i off n cap =>
    cases hx with
    | sl _ _ _ _ _ b ho hi hb hv =>
      simp only [lenA] at hp
      split at hp
      · rename_i hk; injection hp with hp; subst hp
        cases b with
        | box cs => obtain ⟨_, A, rfl, _⟩ := hv _ rfl; exact ⟨_, by simp [Builtin.len_, run_underlying (tk_slice hk).1, goInt], .int _ _⟩
        | _ => simp [liveS, hi] at hl
      · cases hp
  | _ => simp [lenA] at hp

/-! ### A text's byte, an array value's element; a tuple's part -/
def idxA (P : Program) (k : TK) (x : AV) (j : Int) : Option AV :=
  match k with
  | .str => match x with | .pv (.str s) => if 0 ≤ j ∧ j < s.size then some (.pv (.int .u8 (bat s j.toNat))) else none | _ => none
  | .arr n e sz _ => match vcells x with | some xs => if 0 ≤ j ∧ j < n ∧ 0 < sz then loadC (agOf P e) sz xs (j.toNat * sz) else none | none => none
  | _ => none
theorem idxA_run {P : Program} {t : TypeId} {c : Cx} {h : List ABlk} {w : World} {x y : AV} {v : Value} {k : IntKind} {j : Int} (hx : ARep c h w x v) (he : idxA P (tk P t) x j = some y) :
    ∃ u, (Instr.index t v (.int k j)).run P w = .ok u w ∧ ARep c h w y u := by
  unfold idxA at he
  split at he
  · rename_i hk
    split at he
    · rename_i s
      split at he
      · rename_i hj
        injection he with he; subst he
        cases hx with
        | pv _ _ hr =>
          cases hr with
          | str s =>
            have hlt : j.toNat < s.size := by omega
            refine ⟨_, ?_, .pv _ _ (.int _ _)⟩
            have hb : s[j.toNat]? = some (s.data.toList.getD j.toNat 0) := by
              rw [getElem?_pos s j.toNat hlt]
              have : j.toNat < s.data.toList.length := by simpa using hlt
              simp [List.getD_eq_getElem?_getD, List.getElem?_eq_getElem this]
              rfl
            simp only [Instr.index, asIntOf, Sem.run_bind, Sem.run_pure, Result.andThen_ok, run_underlying (tk_str hk), if_pos hj.1, hb]
            rfl
      · cases he
    · cases he
  · rename_i n e sz g hk
    obtain ⟨hu, rfl, _⟩ := tk_arr hk
    split at he
    · rename_i xs hv
      split at he
      · rename_i hj
        obtain ⟨vs, rfl, hl, ho, hr⟩ := vcells_rep hx hv
        obtain ⟨u, h1, h2⟩ := part_run hl ho hr hj.2.2 he
        have hj' : 0 ≤ j ∧ j < (n : Int) := ⟨hj.1, hj.2.1⟩
        exact ⟨u, by simp [Instr.index, asIntOf, run_underlying hu, hj', szOf_run (P := P) (t := e) rfl hj.2.2, h1], h2⟩
      · cases he
    · cases he
  · cases he

def extA (x : AV) (i : Nat) : Option AV :=
  match x with
  | .tup xs => xs[i]?
  | .pv (.tup ps) => (ps[i]?).map .pv
  | _ => none
theorem extA_run {P : Program} {c : Cx} {h : List ABlk} {w : World} {x y : AV} {v : Value} {i : Nat} (hx : ARep c h w x v) (he : extA x i = some y) :
    ∃ u, (Instr.extract v i).run P w = .ok u w ∧ ARep c h w y u := by
  unfold extA at he
  split at he
  · rename_i xs
    cases hx with
    | tup _ vs hl hr =>
      have hlt : i < vs.length := by rw [← hl]; exact (List.getElem?_eq_some_iff.1 he).1
      exact ⟨vs[i], by simp [Instr.extract, hlt], hr i y _ he (List.getElem?_eq_getElem hlt)⟩
  · rename_i ps
    cases hx with
    | pv _ _ hp =>
      cases hp with
      | tup _ vs hl hr =>
        simp only [Option.map_eq_some_iff] at he
        obtain ⟨p, hp, rfl⟩ := he
        have hlt : i < vs.length := by rw [← hl]; exact (List.getElem?_eq_some_iff.1 hp).1
        exact ⟨vs[i], by simp [Instr.extract, hlt], .pv _ _ (hr i p _ hp (List.getElem?_eq_getElem hlt))⟩
  · cases he
end Go.Ab
