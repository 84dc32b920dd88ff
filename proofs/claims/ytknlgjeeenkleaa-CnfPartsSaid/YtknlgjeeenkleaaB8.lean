/- A region gone through in the order of its text tells what it comes to in whatever order. -/
import Derived.Test.YtknlgjeeenkleaaB7
namespace Go.Ab
open Go.RowKit
set_option linter.unusedVariables false
set_option linter.unusedSimpArgs false

def putG (g : List (Nat × Path)) (dst : Option Tmp) (p : Path) : List (Nat × Path) := match dst, p with
  | some d, x :: q => (d, x :: q) :: g
  | _, _ => g
def RS.put (s : RS) (o : Oper) (e : PE) : RS := ⟨putT s.t o.dst e.r, putG s.g o.dst e.p, app s.h e.d⟩
/-- An operation's path: what its guard asks. -/
def pG (ops : List Oper) (g : List (Nat × Path)) : Option (Nat × Bool) → Path
  | none => []
  | some (j, b) => match dstOf ops j with
    | some d => ((lk g d).getD []) ++ [(j, b)]
    | none => []
/-- What a path says of the truths that were yielded. -/
def ppT (ops : List Oper) (t : List AV) : Path → Prop
  | [] => True
  | (j, b) :: p => (match dstOf ops j with | some d => boolOf (t.getD d .any) = some b | none => False) ∧ ppT ops t p
def gOk (ops : List Oper) (i : Nat) (t : List AV) : Option (Nat × Bool) → Prop
  | none => True
  | some (j, _) => j < i ∧ (match dstOf ops j with | some d => (boolOf (t.getD d .any)).isSome = true | none => False)

structure OK1 (P : Program) (z : Ini) (ops : List Oper) (i : Nat) (o : Oper) (s : RS) (e : PE) : Prop where
  p : e.p = pG ops s.g o.guard
  d : e.p ≠ [] → e.d = []
  g : gOk ops i s.t o.guard
  ls : ppT ops s.t e.p → LS P z ops i o s e

inductive RTr (P : Program) (z : Ini) (ops : List Oper) : Nat → List Oper → RS → List PE → RS → Prop
  | nil (i : Nat) (s : RS) : RTr P z ops i [] s [] s
  | cons (i : Nat) (o : Oper) (l : List Oper) (s : RS) (e : PE) (es : List PE) (s' : RS) (h : OK1 P z ops i o s e) (rest : RTr P z ops (i + 1) l (s.put o e) es s') : RTr P z ops i (o :: l) s (e :: es) s'

/-- The state ahead of operation j. -/
def stN (ops : List Oper) (es : List PE) (s₀ : RS) : Nat → RS
  | 0 => s₀
  | j + 1 => match ops[j]?, es[j]? with
    | some o, some e => (stN ops es s₀ j).put o e
    | _, _ => stN ops es s₀ j

theorem RTr.all {P : Program} {z : Ini} {ops : List Oper} {s₀ : RS} {es₀ : List PE} : ∀ {i : Nat} {l : List Oper} {s : RS} {es : List PE} {s' : RS}, RTr P z ops i l s es s' → (∀ j, l[j]? = ops[i + j]?) → (∀ j, es[j]? = es₀[i + j]?) → s = stN ops es₀ s₀ i →
    es.length = l.length ∧ s' = stN ops es₀ s₀ (i + l.length) ∧ ∀ j o e, l[j]? = some o → es[j]? = some e → OK1 P z ops (i + j) o (stN ops es₀ s₀ (i + j)) e
  | i, _, s, _, _, .nil _ _, _, _, hs => ⟨rfl, hs, fun j o e h => by simp at h⟩
  | i, _, s, _, _, .cons _ o l _ e es s' h rest, hl, hes, hs => by
    have h0 : ops[i]? = some o := by simpa using (hl 0).symm
    have e0 : es₀[i]? = some e := by simpa using (hes 0).symm
    obtain ⟨r1, r2, r3⟩ := RTr.all (s₀ := s₀) (es₀ := es₀) rest (fun j => by have := hl (j + 1); simpa [Nat.add_assoc, Nat.add_comm 1 j] using this) (fun j => by have := hes (j + 1); simpa [Nat.add_assoc, Nat.add_comm 1 j] using this)
      (by simp only [stN, h0, e0, ← hs])
    refine ⟨by simp [r1], by rw [r2]; congr 1; simp; omega, fun j o' e' ho he => ?_⟩
    cases j with
    | zero => simp at ho he; subst ho; subst he; rw [Nat.add_zero, ← hs]; exact h
    | succ j =>
      have := r3 j o' e' (by simpa using ho) (by simpa using he)
      rw [show i + (j + 1) = i + 1 + j from by omega]
      exact this

/-! ### Temporaries on the way -/
section
variable {ops : List Oper} {es : List PE} {s₀ : RS}
theorem putT_get {t : List AV} {d : Tmp} {x : AV} {k : Nat} : (putT t (some d) x)[k]? = if d = k then (if k < t.length then some x else none) else t[k]? := by
  simp only [putT, List.getElem?_set]
  by_cases h : d = k
  · subst h; simp
  · simp [h]
theorem stN_len (n : Nat) : (stN ops es s₀ n).t.length = s₀.t.length := by
  induction n with
  | zero => rfl
  | succ n ih =>
    simp only [stN]
    split
    · rename_i o e _ _
      simp only [RS.put]
      cases o.dst <;> simp [putT, ih]
    · exact ih
/-- Written by operation i, ahead of j: as it left it. -/
theorem stN_written (hdis : ∀ i j d, dstOf ops i = some d → dstOf ops j = some d → i = j) {i k : Nat} {e : PE} (hd : dstOf ops i = some k) (he : es[i]? = some e) : ∀ j, i < j → j ≤ ops.length →
    ((stN ops es s₀ j).t[k]? = if k < s₀.t.length then some e.r else none) ∧ (e.p ≠ [] → lk (stN ops es s₀ j).g k = some e.p)
  | 0, h, _ => absurd h (by omega)
  | j + 1, h, hj => by
    simp only [stN]
    by_cases hij : i = j
    · subst hij
      unfold dstOf at hd
      cases ho : ops[i]? with
      | none => simp [ho] at hd
      | some o =>
        simp only [ho, Option.bind_some] at hd
        simp only [he, RS.put, hd]
        refine ⟨by rw [putT_get, if_pos rfl, stN_len], fun hp => ?_⟩
        cases hq : e.p with
        | nil => exact absurd hq hp
        | cons x q => simp [putG, lk]
    · obtain ⟨h1, h2⟩ := stN_written hdis hd he j (by omega) (by omega)
      split
      · rename_i o e' ho he'
        have hne : o.dst ≠ some k := fun hk => hij (hdis i j k hd (by simp [dstOf, ho, hk]))
        simp only [RS.put]
        refine ⟨?_, fun hp => ?_⟩
        · cases hdst : o.dst with
          | none => exact h1
          | some d => rw [putT_get, if_neg (fun e => hne (by rw [hdst, e]))]; exact h1
        · cases hdst : o.dst with
          | none => exact h2 hp
          | some d =>
            cases e'.p with
            | nil => exact h2 hp
            | cons x q => simp only [putG, lk]; rw [if_neg (fun e => hne (by rw [hdst, e]))]; exact h2 hp
      · exact ⟨h1, h2⟩
/-- Paths are told only of temporaries that were written, and just of those with one. -/
theorem stN_path (hg : s₀.g = []) {k : Nat} {q : Path} : ∀ j, lk (stN ops es s₀ j).g k = some q → ∃ i e, i < j ∧ dstOf ops i = some k ∧ es[i]? = some e ∧ e.p = q ∧ q ≠ []
  | 0, h => by simp [stN, hg, lk] at h
  | j + 1, h => by
    simp only [stN] at h
    split at h
    · rename_i o e ho he
      simp only [RS.put] at h
      have old : lk (stN ops es s₀ j).g k = some q → ∃ i e, i < j + 1 ∧ dstOf ops i = some k ∧ es[i]? = some e ∧ e.p = q ∧ q ≠ [] := fun h => by
        obtain ⟨i, e, h1, h2⟩ := stN_path hg j h
        exact ⟨i, e, by omega, h2⟩
      cases hdst : o.dst with
      | none => rw [hdst] at h; exact old h
      | some d =>
        cases hp : e.p with
        | nil => rw [hdst, hp] at h; exact old h
        | cons x p =>
          rw [hdst, hp] at h
          simp only [putG, lk] at h
          split at h
          · rename_i hk
            injection h with h
            exact ⟨j, e, by omega, by simp [dstOf, ho, hdst, hk], he, by rw [hp, h], by rw [← h]; simp⟩
          · exact old h
    · obtain ⟨i, e, h1, h2⟩ := stN_path hg j h
      exact ⟨i, e, by omega, h2⟩
theorem stN_unwritten {k : Nat} : ∀ j, (∀ i, i < j → dstOf ops i ≠ some k) → (stN ops es s₀ j).t[k]? = s₀.t[k]?
  | 0, _ => rfl
  | j + 1, h => by
    have ih := stN_unwritten (k := k) j (fun i hi => h i (by omega))
    simp only [stN]
    split
    · rename_i o e ho he
      have hne : o.dst ≠ some k := fun hk => h j (by omega) (by simp [dstOf, ho, hk])
      simp only [RS.put]
      cases hdst : o.dst with
      | none => exact ih
      | some d => rw [putT_get, if_neg (fun e => hne (by rw [hdst, e]))]; exact ih
    · exact ih
end

/-! ### Memory on the way -/
/-- The same, but for names that are not there yet. -/
def AgP (h hp : List ABlk) : Prop := ∀ k : Nat, (∀ b, h[k]? = some b → hp[k]? = some b) ∧ (h[k]? = none → hp[k]? = none ∨ hp[k]? = some .nb)
theorem AgP.setx {h hp : List ABlk} (a : AgP h hp) (hl : h.length ≤ hp.length) (i : Nat) (b : ABlk) : AgP (Ab.setx h i b) (Ab.setx hp i b) := by
  intro k
  rw [setx_at, setx_at]
  by_cases hk : k = i
  · simp [hk]
  · rw [if_neg hk, if_neg hk]
    by_cases h1 : h.length ≤ k ∧ k < i
    · rw [if_pos h1]
      refine ⟨fun b' hb => ?_, fun h => by cases h⟩
      injection hb with hb; subst hb
      by_cases h2 : hp.length ≤ k ∧ k < i
      · rw [if_pos h2]
      · rw [if_neg h2]
        rcases (a k).2 (List.getElem?_eq_none h1.1) with h3 | h3
        · rw [List.getElem?_eq_none_iff] at h3; omega
        · exact h3
    · rw [if_neg h1]
      have h2 : ¬ (hp.length ≤ k ∧ k < i) := by omega
      rw [if_neg h2]
      exact a k
theorem app_len : ∀ (d : List (Nat × ABlk)) (h : List ABlk), h.length ≤ (app h d).length
  | [], h => Nat.le_refl _
  | (i, b) :: d, h => Nat.le_trans (setx_length h i b) (app_len d _)
theorem app_len_le : ∀ (d : List (Nat × ABlk)) (h hp : List ABlk), h.length ≤ hp.length → (app h d).length ≤ (app hp d).length
  | [], h, hp, hl => hl
  | (i, b) :: d, h, hp, hl => app_len_le d _ _ (by rw [setx_len, setx_len]; omega)
theorem app_len_same : ∀ (d : List (Nat × ABlk)) (h : List ABlk), (∀ x ∈ d, x.1 < h.length) → (app h d).length = h.length
  | [], h, _ => rfl
  | (i, b) :: d, h, hd => by
    have h1 : (setx h i b).length = h.length := by rw [setx_len]; have := hd (i, b) (by simp); simp only at this; omega
    rw [app, app_len_same d _ (fun x hx => by rw [h1]; exact hd x (by simp [hx])), h1]
theorem AgP.app : ∀ (d : List (Nat × ABlk)) {h hp : List ABlk}, AgP h hp → h.length ≤ hp.length → AgP (Ab.app h d) (Ab.app hp d)
  | [], _, _, a, _ => a
  | (i, b) :: d, h, hp, a, hl => AgP.app d (a.setx hl i b) (by rw [setx_len, setx_len]; omega)

def inD (d : List (Nat × ABlk)) (k : Nat) : Prop := ∃ b, (k, b) ∈ d
/-- What stands at k behind those changes, where k is there. -/
theorem app_get {k : Nat} : ∀ (d : List (Nat × ABlk)) (h h' : List ABlk), (∀ x ∈ d, x.1 < h.length) → (∀ x ∈ d, x.1 < h'.length) → (inD d k ∨ h[k]? = h'[k]?) → (app h d)[k]? = (app h' d)[k]?
  | [], h, h', _, _, hk => by
    rcases hk with ⟨b, hb⟩ | hk
    · cases hb
    · exact hk
  | (i, b) :: d, h, h', h1, h2, hk => by
    have g1 := h1 (i, b) (by simp)
    have g2 := h2 (i, b) (by simp)
    simp only at g1 g2
    refine app_get d (setx h i b) (setx h' i b) (fun x hx => Nat.lt_of_lt_of_le (h1 x (by simp [hx])) (setx_length _ _ _)) (fun x hx => Nat.lt_of_lt_of_le (h2 x (by simp [hx])) (setx_length _ _ _)) ?_
    rw [setx_at, setx_at, if_neg (show ¬ (h.length ≤ k ∧ k < i) by omega), if_neg (show ¬ (h'.length ≤ k ∧ k < i) by omega)]
    by_cases hi : k = i
    · right; rw [if_pos hi, if_pos hi]
    · rw [if_neg hi, if_neg hi]
      rcases hk with ⟨b', hb'⟩ | hk
      · rcases List.mem_cons.1 hb' with e | e
        · simp only [Prod.mk.injEq] at e; exact absurd e.1 hi
        · exact .inl ⟨b', e⟩
      · exact .inr hk
theorem app_other {k : Nat} : ∀ (d : List (Nat × ABlk)) (h : List ABlk), (∀ x ∈ d, x.1 < h.length) → ¬ inD d k → (app h d)[k]? = h[k]?
  | [], h, _, _ => rfl
  | (i, b) :: d, h, h1, hk => by
    have g1 := h1 (i, b) (by simp)
    simp only at g1
    have hne : k ≠ i := fun e => hk ⟨b, by simp [e]⟩
    rw [app, app_other d _ (fun x hx => Nat.lt_of_lt_of_le (h1 x (by simp [hx])) (setx_length _ _ _)) (fun ⟨b', hb⟩ => hk ⟨b', by simp [hb]⟩), setx_at, if_neg hne, if_neg (by omega)]

/-- The memory of those that have come up. -/
def HL (es : List PE) (h : List ABlk) (L : Nat → Bool) : Nat → List ABlk
  | 0 => h
  | j + 1 => match es[j]? with
    | some e => if L j = true then app (HL es h L j) e.d else HL es h L j
    | none => HL es h L j
section
variable {es : List PE} {h : List ABlk} (hin : ∀ (j : Nat) (e : PE), es[j]? = some e → ∀ x ∈ e.d, x.1 < h.length)
include hin
theorem HL_len (L : Nat → Bool) : ∀ n, (HL es h L n).length = h.length
  | 0 => rfl
  | n + 1 => by
    have ih := HL_len L n
    simp only [HL]
    split
    · rename_i e he
      split
      · rw [app_len_same _ _ (fun x hx => by rw [ih]; exact hin n e he x hx), ih]
      · exact ih
    · exact ih
/-- At k only those count that write there. -/
theorem HL_at (L L' : Nat → Bool) (k : Nat) : ∀ n, (∀ j e, j < n → es[j]? = some e → inD e.d k → L j = L' j) → (HL es h L n)[k]? = (HL es h L' n)[k]?
  | 0, _ => rfl
  | n + 1, hk => by
    have ih := HL_at L L' k n (fun j e hj => hk j e (by omega))
    have l1 := HL_len hin L n
    have l2 := HL_len hin L' n
    simp only [HL]
    cases he : es[n]? with
    | none => exact ih
    | some e =>
      simp only
      by_cases hd : inD e.d k
      · have := hk n e (by omega) he hd
        rw [← this]
        split
        · exact app_get e.d _ _ (fun x hx => by rw [l1]; exact hin n e he x hx) (fun x hx => by rw [l2]; exact hin n e he x hx) (.inl hd)
        · exact ih
      · have o1 := app_other e.d (HL es h L n) (fun x hx => by rw [l1]; exact hin n e he x hx) hd
        have o2 := app_other e.d (HL es h L' n) (fun x hx => by rw [l2]; exact hin n e he x hx) hd
        split <;> split <;> simp [o1, o2, ih]
end
/-- Those behind n do not count. -/
theorem HL_cut {es : List PE} {h : List ABlk} (L : Nat → Bool) (j n : Nat) (hjn : j ≤ n) (hL : ∀ i, j ≤ i → L i = false) : HL es h L n = HL es h L j := by
  induction n with
  | zero => obtain rfl : j = 0 := by omega
            rfl
  | succ n ih =>
    by_cases hj : j = n + 1
    · rw [hj]
    · simp only [HL]
      rw [ih (by omega)]
      split
      · rw [hL n (by omega)]; simp
      · rfl
end Go.Ab
