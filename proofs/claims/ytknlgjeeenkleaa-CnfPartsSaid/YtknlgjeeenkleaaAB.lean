/- What is appended: rows, as the machine reads them. -/
import Derived.Test.YtknlgjeeenkleaaAA
import Derived.Deep.AppendSrc
namespace Go.Ab
open Go.RowKit
set_option linter.unusedVariables false
set_option linter.unusedSimpArgs false

/-- Cells, row by row. -/
def cellsR (us : Nat → Nat → Value) (sz n : Nat) : List Value := (List.range (n * sz)).map fun q => us (q / sz) (q % sz)
theorem cellsR_length (us : Nat → Nat → Value) (sz n : Nat) : (cellsR us sz n).length = n * sz := by simp [cellsR]
theorem cellsR_get (us : Nat → Nat → Value) (sz n q : Nat) (h : q < n * sz) : (cellsR us sz n)[q]? = some (us (q / sz) (q % sz)) := by simp [cellsR, h]
theorem cellsR_at (us : Nat → Nat → Value) {sz n j k : Nat} (hj : j < n) (hk : k < sz) : (cellsR us sz n)[j * sz + k]? = some (us j k) := by
  have h : j * sz + k < n * sz := by
    have : (j + 1) * sz ≤ n * sz := Nat.mul_le_mul_right _ hj
    rw [Nat.add_mul] at this; omega
  rw [cellsR_get us sz n _ h, Nat.mul_comm j sz, Nat.mul_add_div (by omega), Nat.div_eq_of_lt hk, Nat.mul_add_mod, Nat.mod_eq_of_lt hk]
  simp
theorem cellsR_mem {us : Nat → Nat → Value} {sz n : Nat} {v : Value} (h : v ∈ cellsR us sz n) : ∃ j k, j < n ∧ k < sz ∧ v = us j k := by
  simp only [cellsR, List.mem_map, List.mem_range] at h
  obtain ⟨q, hq, rfl⟩ := h
  have hs : 0 < sz := by
    rcases Nat.eq_zero_or_pos sz with h | h
    · subst h; simp at hq
    · exact h
  exact ⟨q / sz, q % sz, (Nat.div_lt_iff_lt_mul hs).2 hq, Nat.mod_lt _ hs, rfl⟩

/-- Rows whose cells are those. -/
def RowsAs (ok : Nat → Prop) (w : World) (sz : Nat) (rows : List (List PV)) (us : Nat → Nat → Value) : Prop :=
  (∀ (j : Nat) (row : List PV), rows[j]? = some row → row.length = sz) ∧ ∀ (j : Nat) (row : List PV) (k : Nat) (p : PV), rows[j]? = some row → row[k]? = some p → (us j k).oneCell' = true ∧ Rep ok w p (us j k)
theorem RowsAs.one {ok : Nat → Prop} {w : World} {sz : Nat} {rows : List (List PV)} {us : Nat → Nat → Value} (h : RowsAs ok w sz rows us) {u : Value} (hu : u ∈ cellsR us sz rows.length) : u.oneCell' = true := by
  obtain ⟨j, k, hj, hk, rfl⟩ := cellsR_mem hu
  have hl := h.1 j _ (List.getElem?_eq_getElem hj)
  exact (h.2 j _ k _ (List.getElem?_eq_getElem hj) (List.getElem?_eq_getElem (by omega))).1

/-- The rows that are appended. -/
def yRows (h : List ABlk) (tk : TK) (sz : Nat) : AV → Option (List (List PV))
  | .pv (.lst _ sz' rows) => match tk with | .slice _ _ _ => if sz' = sz then some rows else (match rows with | [] => some [] | _ :: _ => none) | _ => none
  | .vs i off n => match tk with | .slice _ _ _ => (match h[i]? with | some (.vec sz' rows) => if sz' = sz then some ((rows.drop off).take n) else none | _ => none) | _ => none
  | .pv (.str s) => match tk with | .str => if sz = 1 then some (s.data.toList.map fun b => [.int .u8 b.toNat]) else none | _ => none
  | _ => none

theorem rep_src {P : Program} {tx e' : TypeId} {ok : Nat → Prop} {w : World} {full : Bool} {sz : Nat} {rows : List (List PV)} {v : Value} (hk : P.underlying tx = some (.slice e')) (hs : 0 < sz) (h : Rep ok w (.lst full sz rows) v) :
    ∃ us, RowsAs ok w sz rows us ∧ Src P sz tx v rows.length (cellsR us sz rows.length) w := by
  cases h with
  | lst _ _ _ A c us hlen hc hf hA hcell hrep =>
    cases A with
    | none =>
      have h0 : rows = [] := by
        cases rows with
        | nil => rfl
        | cons r rows => obtain ⟨ad, e⟩ := hA (by simp); cases e
      subst h0
      exact ⟨us, ⟨fun j row h => by simp at h, fun j row k p h => by simp at h⟩, by simpa [cellsR] using Src.ofNil w hk c⟩
    | some ad =>
      have R : RowsAs ok w sz rows us := ⟨hlen, fun j row k p hj hkp => ⟨(hcell ad rfl j row k p hj hkp).2.2, hrep j row k p hj hkp⟩⟩
      refine ⟨us, R, Src.ofSlice w hk ad rows.length c _ (cellsR_length _ _ _) (fun q u hq => ?_) fun u hu => R.one hu⟩
      have hlt : q < rows.length * sz := by have := (List.getElem?_eq_some_iff.1 hq).1; rwa [cellsR_length] at this
      rw [cellsR_get us sz _ q hlt] at hq
      injection hq with hq; subst hq
      have hj : q / sz < rows.length := (Nat.div_lt_iff_lt_mul hs).2 hlt
      have hl := hlen _ _ (List.getElem?_eq_getElem hj)
      have := (hcell ad rfl (q / sz) _ (q % sz) _ (List.getElem?_eq_getElem hj) (List.getElem?_eq_getElem (by rw [hl]; exact Nat.mod_lt _ hs))).2.1
      rw [Nat.div_add_mod'] at this
      exact this

theorem Sub0 {ok : Nat → Prop} {w : World} {full : Bool} {sz sz' : Nat} {v : Value} (h : Rep ok w (.lst full sz []) v) : Rep ok w (.lst full sz' []) v := by
  cases h with
  | lst _ _ _ A c us h1 h2 h3 h4 h5 h6 => exact .lst full sz' [] A c us (fun j row h => by simp at h) h2 h3 h4 (fun ad e j row k p h => by simp at h) (fun j row k p h => by simp at h)
theorem src_empty {P : Program} {tx e' : TypeId} {w : World} {sz : Nat} (hk : P.underlying tx = some (.slice e')) (A : Option Addr) (cap : Nat) : Src P sz tx (.slice A 0 cap) 0 [] w := by
  cases A with
  | none => exact Src.ofNil w hk cap
  | some a => exact Src.ofSlice w hk a 0 cap [] (by simp) (fun j u h => by simp at h) (fun u h => by cases h)

theorem yRows_src {P : Program} {tx : TypeId} {z : Ini} {c : Cx} {h : List ABlk} {w : World} (s : MSim z h c w) {y : AV} {v : Value} {sz : Nat} {rows : List (List PV)} (hx : ARep c h w y v) (hy : yRows h (tk P tx) sz y = some rows) (hs : 0 < sz) :
    ∃ us, RowsAs c.ok w sz rows us ∧ Src P sz tx v rows.length (cellsR us sz rows.length) w := by
  cases hx with
  | pv p _ hr =>
    cases p with
    | lst full sz' rows' =>
      simp only [yRows] at hy
      split at hy
      · rename_i e q b hk
        obtain ⟨hu, _, _⟩ := tk_slice hk
        split at hy
        · rename_i he; subst he
          injection hy with hy; subst hy
          exact rep_src hu hs hr
        · split at hy
          · injection hy with hy; subst hy
            have : Rep c.ok w (.lst full sz []) v := Sub0 hr
            exact rep_src hu hs this
          · cases hy
      · cases hy
    | str st =>
      simp only [yRows] at hy
      split at hy
      · rename_i hk
        have hu := tk_str hk
        split at hy
        · rename_i h1; subst h1
          injection hy with hy; subst hy
          cases hr
          have hlen : (st.data.toList.map fun b => [PV.int .u8 (b.toNat : Int)]).length = st.size := by rw [List.length_map, Array.length_toList]; rfl
          rw [hlen]
          have hget : ∀ j : Nat, (byteCells st)[j]? = (st.data.toList[j]?).map (fun b : UInt8 => Value.int .u8 b.toNat) := fun j => by rw [byteCells, List.getElem?_map]
          have e : cellsR (fun j _ => (byteCells st).getD j undef) 1 st.size = byteCells st := by
            apply List.ext_getElem?
            intro q
            by_cases hq : q < st.size
            · rw [cellsR_get _ 1 _ q (by omega), Nat.div_one, List.getD_eq_getElem?_getD]
              have : q < (byteCells st).length := by rw [byteCells_length]; exact hq
              rw [List.getElem?_eq_getElem this]; rfl
            · rw [List.getElem?_eq_none (by rw [cellsR_length]; omega), List.getElem?_eq_none (by rw [byteCells_length]; omega)]
          refine ⟨fun j _ => (byteCells st).getD j undef, ⟨fun j row hj => ?_, fun j row k p hj hk => ?_⟩, by rw [e]; exact Src.ofString w hu st⟩
          · simp only [List.getElem?_map, Option.map_eq_some_iff] at hj
            obtain ⟨b, _, rfl⟩ := hj; rfl
          · simp only [List.getElem?_map, Option.map_eq_some_iff] at hj
            obtain ⟨b, hb, rfl⟩ := hj
            cases k with
            | zero =>
              simp at hk; subst hk
              simp only [List.getD_eq_getElem?_getD, hget, hb, Option.map_some, Option.getD_some]
              exact ⟨rfl, .int _ _⟩
            | succ k => simp at hk
        · cases hy
      · cases hy
    | _ => simp [yRows] at hy
  | vs i off n v b ho hi hb hv =>
    simp only [yRows, hi] at hy
    split at hy
    · rename_i e q b' hk
      obtain ⟨hu, _, _⟩ := tk_slice hk
      split at hy
      · rename_i sz' rows' heq
        injection heq with heq; subst heq
        split at hy
        · rename_i he; subst he
          injection hy with hy; subst hy
          obtain ⟨h1, A, rfl, h3⟩ := hv _ _ rfl
          obtain ⟨b1, b2, b3⟩ := s.hs.blk i _ hi
          have hlen : ((rows'.drop off).take n).length = n := by simp; omega
          rw [hlen]
          by_cases hn : n = 0
          · subst hn
            refine ⟨fun _ _ => undef, ⟨fun j row h => by simp at h, fun j row k p h => by simp at h⟩, ?_⟩
            have : cellsR (fun _ _ => undef) sz' 0 = [] := by simp [cellsR]
            rw [this]
            exact src_empty hu A _
          · obtain ⟨vs, ty, g1, g2, g3⟩ := b3 (by omega)
            obtain rfl := h3 (by omega)
            have hrow : ∀ (j : Nat) (row : List PV), ((rows'.drop off).take n)[j]? = some row → j < n ∧ rows'[off + j]? = some row := by
              intro j row hj
              have hjn : j < n := by rw [← hlen]; exact (List.getElem?_eq_some_iff.1 hj).1
              rw [List.getElem?_take_of_lt hjn, List.getElem?_drop] at hj
              exact ⟨hjn, hj⟩
            have R : RowsAs c.ok w sz' ((rows'.drop off).take n) (fun j k => (vs[(c.vd i).1 + ((off + j) * sz' + k)]?).getD undef) := ⟨fun j row hj => b2 _ row (hrow j row hj).2, fun j row k p hj hkp => by
              obtain ⟨u, u1, u2, u3⟩ := g3 _ row k p (hrow j row hj).2 hkp
              simp only [u1, Option.getD_some]; exact ⟨u2, u3⟩⟩
            refine ⟨_, R, Src.ofSlice w hu _ n _ _ (cellsR_length _ _ _) (fun q u hq => ?_) fun u hu => by
              rw [← hlen] at hu
              exact R.one hu⟩
            have hlt : q < n * sz' := by have := (List.getElem?_eq_some_iff.1 hq).1; rwa [cellsR_length] at this
            rw [cellsR_get _ sz' _ q hlt] at hq
            injection hq with hq; subst hq
            have hj : q / sz' < n := (Nat.div_lt_iff_lt_mul hs).2 hlt
            have hj' : off + q / sz' < rows'.length := by omega
            have hl := b2 _ _ (List.getElem?_eq_getElem hj')
            obtain ⟨u, u1, _, _⟩ := g3 _ _ (q % sz') _ (List.getElem?_eq_getElem hj') (List.getElem?_eq_getElem (by rw [hl]; exact Nat.mod_lt _ hs))
            rw [Addr.add_plain]
            have e : (c.vd i).1 + off * sz' + q = (c.vd i).1 + ((off + q / sz') * sz' + q % sz') := by
              have := Nat.div_add_mod' q sz'
              rw [Nat.add_mul]; omega
            simp only [World.cell?, g1, e, u1, Option.getD_some]
            rfl
        · cases hy
      · cases hy
    · cases hy
  | _ => simp [yRows] at hy
end Go.Ab
