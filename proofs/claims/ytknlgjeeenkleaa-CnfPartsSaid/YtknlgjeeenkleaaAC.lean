/- append: the old slice is given up, a new one taken. -/
import Derived.Test.YtknlgjeeenkleaaAB
import Derived.Laws.AppendOwn
namespace Go.Ab
open Go.RowKit
set_option linter.unusedVariables false
set_option linter.unusedSimpArgs false

/-- A name for a block that nobody else has. -/
theorem MSim.take {z : Ini} {h : List ABlk} {c : Cx} {w w' : World} (s : MSim z h c w) {n g : Nat} {vd : Nat × Nat} {b : ABlk} (hu : unborn h n) (hn : z.n ≤ n)
    (hL : lv (c.born n g vd) (setx h n b) n → (z.O g ∨ z.w.heap.size ≤ g) ∧ ¬ c.ok g ∧ ∀ j, lv c h j → c.mu j ≠ g)
    (h1 : w'.os = w.os) (h2 : w'.tape = w.tape) (h3 : w'.output = w.output) (h4 : w.heap.size ≤ w'.heap.size)
    (h5 : ∀ x, x < w.heap.size → (lv (c.born n g vd) (setx h n b) n → x ≠ g) → w'.heap[x]? = w.heap[x]?)
    (hb : Later c h w (c.born n g vd) (setx h n b) w' → BRep (c.born n g vd) (setx h n b) w' n b) : Later c h w (c.born n g vd) (setx h n b) w' ∧ MSim z (setx h n b) (c.born n g vd) w' := by
  have hm : ∀ j, j ≠ n → (c.born n g vd).mu j = c.mu j ∧ (c.born n g vd).vd j = c.vd j := c.born_other n g vd
  have hk : Keep c.ok w w' := fun x hx => h5 x (s.hs.okb x hx) (fun l e => (hL l).2.1 (e ▸ hx))
  have L : Later c h w (c.born n g vd) (setx h n b) w' := later_born hu (fun _ h => h) hk hm
  have lvo : ∀ j, j ≠ n → (lv (c.born n g vd) (setx h n b) j ↔ lv c h j) := fun j hj => lv_setx_other hj (hm j hj).2
  refine ⟨L, ⟨h1.trans s.fr.os, h2.trans s.fr.tape, h3.trans s.fr.output, Nat.le_trans s.fr.size h4, fun x hx hO => ?_⟩, ⟨fun j x hj => ?_, fun j k lj lk e => ?_, fun j lj => ?_, fun x hx => Nat.lt_of_lt_of_le (s.hs.okb x hx) h4⟩, fun j lj => ?_, s.okn, s.okm, Nat.le_trans s.ext.1 (setx_length _ _ _), fun j hj => ?_⟩
  · rw [h5 x (Nat.lt_of_lt_of_le hx s.fr.size) (fun l e => ?_), s.fr.block x hx hO]
    subst e
    rcases (hL l).1 with h | h
    · exact hO h
    · omega
  · rcases setx_get hj with ⟨rfl, rfl⟩ | ⟨hne, hj' | rfl⟩
    · exact hb L
    · exact (s.hs.blk j x hj').later L (fun _ => hm j hne) (fun l => h5 _ (s.hs.lv_lt l) (fun ln e => (hL ln).2.2 j l e)) hj'
    · trivial
  · by_cases e1 : j = n <;> by_cases e2 : k = n
    · rw [e1, e2]
    · subst e1
      rw [Cx.born_mu, (hm k e2).1] at e
      exact ((hL lj).2.2 k ((lvo k e2).1 lk) e.symm).elim
    · subst e2
      rw [Cx.born_mu, (hm j e1).1] at e
      exact ((hL lk).2.2 j ((lvo j e1).1 lj) e).elim
    · rw [(hm j e1).1, (hm k e2).1] at e
      exact s.hs.inj j k ((lvo j e1).1 lj) ((lvo k e2).1 lk) e
  · by_cases e1 : j = n
    · subst e1; rw [Cx.born_mu]; exact (hL lj).2.1
    · rw [(hm j e1).1]; exact s.hs.nok j ((lvo j e1).1 lj)
  · by_cases e1 : j = n
    · subst e1; rw [Cx.born_mu]; exact (hL lj).1
    · rw [(hm j e1).1]; exact s.own j ((lvo j e1).1 lj)
  · have : j ≠ n := by omega
    exact ⟨(hm j this).1.trans (s.ext.2 j hj).1, (hm j this).2.trans (s.ext.2 j hj).2⟩

theorem run_append_room_at {P : Program} {w : World} (t tx ty e : TypeId) (i : TypeInfo) (ht : P.underlying t = some (.slice e)) (hi : P.info? e = some i) (b off sLen sCap : Nat) (x : Value) (n : Nat) (news : List Value) (hs : Src P i.size tx x n news w)
    (hroom : sLen + n ≤ sCap) {cur : Array Value} {te : TypeId} (hg : w.heap[b]? = some (.cells cur te (0, 0))) (hl : off + sLen * i.size + news.length ≤ cur.size) :
    (Builtin.append_ #[t, tx] ty #[.slice (some ⟨b, off, none⟩) sLen sCap, x]).run P w = .ok (.slice (some ⟨b, off, none⟩) (sLen + n) sCap) (w.setRow b (cur.toList.take (off + sLen * i.size) ++ news ++ cur.toList.drop (off + sLen * i.size + news.length)).toArray) := by
  have hst := run_storeCells_at (P := P) b (off + sLen * i.size) te news 0 cur w hg (by simpa using hl) hs.one
  simp only [Nat.add_zero] at hst
  rcases hs.kind with ⟨e', hk⟩ | hk <;> simp [Builtin.append_, run_underlying ht, run_underlying hk, sizeOf, typeInfo, hi, hs.len, hroom, hs.cells, Addr.add_plain, hst]

/-- The slice that is appended to: the call's own one, or one that has no room. -/
def xOwn (h : List ABlk) (sz : Nat) : AV → Option (Option Nat × List (List PV))
  | .pv (.lst true sz' rows) => if sz' = sz then some (none, rows) else (match rows with | [] => some (none, []) | _ :: _ => none)
  | .vs i off n => if off = 0 then (match h[i]? with | some (.vec sz' rows) => if sz' = sz ∧ n = rows.length then some (some i, rows) else none | _ => none) else none
  | _ => none
/-- 'append': a new name for the slice; the old one is given up. -/
def appA (P : Program) (n : Nat) (h : List ABlk) (T Tx : TypeId) (x y : AV) : Option (AV × List (Nat × ABlk)) :=
  match tk P T with
  | .slice e sz by' => match zro P e, xOwn h sz x, yRows h (tk P Tx) sz y with
    | some zs, some (o, rows), some rows2 => if 0 < sz ∧ zs.length = sz ∧ (rows.length + rows2.length) * by' ≤ 140737488355328 ∧ rows.length + rows2.length ≤ 140737488355328 then
        (match o, rows2 with
        | some i, rows2 => if i < n then some (.vs n 0 (rows.length + rows2.length), [(i, .gone), (n, .vec sz (rows ++ rows2))]) else none
        | none, r :: rows2 => some (.vs n 0 (rows.length + (r :: rows2).length), [(n, .vec sz (rows ++ (r :: rows2)))])
        | none, [] => none) else none
    | _, _, _ => none
  | _ => none

theorem rows_append {ok : Nat → Prop} {w : World} {sz : Nat} {rows rows2 : List (List PV)} {us us2 : Nat → Nat → Value} (h1 : RowsAs ok w sz rows us) (h2 : RowsAs ok w sz rows2 us2) :
    RowsAs ok w sz (rows ++ rows2) (fun j k => if j < rows.length then us j k else us2 (j - rows.length) k) := by
  refine ⟨fun j row hj => ?_, fun j row k p hj hk => ?_⟩
  · by_cases h : j < rows.length
    · rw [List.getElem?_append_left h] at hj; exact h1.1 j row hj
    · rw [List.getElem?_append_right (by omega)] at hj; exact h2.1 _ row hj
  · by_cases h : j < rows.length
    · rw [List.getElem?_append_left h] at hj; simp only [if_pos h]; exact h1.2 j row k p hj hk
    · rw [List.getElem?_append_right (by omega)] at hj; simp only [if_neg h]; exact h2.2 _ row k p hj hk
theorem cells_append {us us2 : Nat → Nat → Value} {sz n m : Nat} {j k : Nat} (hj : j < n + m) (hk : k < sz) :
    (cellsR us sz n ++ cellsR us2 sz m)[j * sz + k]? = some (if j < n then us j k else us2 (j - n) k) := by
  by_cases h : j < n
  · have hlt : j * sz + k < n * sz := by
      have : (j + 1) * sz ≤ n * sz := Nat.mul_le_mul_right _ h
      rw [Nat.add_mul] at this; omega
    rw [List.getElem?_append_left (by rw [cellsR_length]; exact hlt), cellsR_at us h hk, if_pos h]
  · have hge : n * sz ≤ j * sz := Nat.mul_le_mul_right _ (by omega)
    have e : j * sz + k - n * sz = (j - n) * sz + k := by rw [Nat.sub_mul]; omega
    rw [List.getElem?_append_right (by rw [cellsR_length]; omega), cellsR_length, e, cellsR_at us2 (by omega) hk, if_neg h]
theorem RowsAs.mono {ok ok' : Nat → Prop} {w w' : World} {sz : Nat} {rows : List (List PV)} {us : Nat → Nat → Value} (h : RowsAs ok w sz rows us) (h1 : ∀ b, ok b → ok' b) (h2 : Keep ok w w') : RowsAs ok' w' sz rows us :=
  ⟨h.1, fun j row k p hj hk => ⟨(h.2 j row k p hj hk).1, (h.2 j row k p hj hk).2.mono h1 h2⟩⟩
end Go.Ab
