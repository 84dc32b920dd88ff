/- Where a code may go: which places are come to, and what goes round. -/
import Derived.Test.YtlgfbiepbneihaaLZ
namespace Go.Ab.Try
open Go.Proofs Go.Ab
set_option linter.unusedVariables false
set_option linter.unusedSimpArgs false
set_option linter.unnecessarySimpa false
/-- The places that are come to from some. -/
inductive Rch (code : List Ins) (S : Int → Prop) : Int → Prop
  | here {a : Int} : S a → Rch code S a
  | go {a b : Int} : Rch code S a → b ∈ nextS code a → Rch code S b
variable {code : List Ins} {S : Int → Prop}
def InC (code : List Ins) (a : Int) : Prop := 0 ≤ a ∧ a ≤ code.length
theorem Rch.inn (hc : OkC code) (hN : code.length < 65536) (hS : ∀ a, S a → InC code a) {a : Int} (h : Rch code S a) : InC code a := by
  induction h with
  | here h => exact hS _ h
  | go _ h _ => exact next_in hc hN h
theorem Rch.least {T : Int → Prop} (h1 : ∀ a, S a → T a) (h2 : ∀ a, T a → ∀ b ∈ nextS code a, T b) {a : Int} (h : Rch code S a) : T a := by
  induction h with
  | here h => exact h1 _ h
  | go _ h ih => exact h2 _ ih _ h
open Classical in
noncomputable def rB (code : List Ins) (S : Int → Prop) (a : Int) : Bool := decide (Rch code S a)
theorem rB_iff {a : Int} : rB code S a = true ↔ Rch code S a := by unfold rB; simp
noncomputable def reachL (code : List Ins) (S : Int → Prop) : List Bool := (List.range (code.length + 1)).map fun k : Nat => rB code S (k : Int)
theorem reachL_len : (reachL code S).length = code.length + 1 := by simp [reachL]
theorem reachL_at {k : Nat} (h : k ≤ code.length) : (reachL code S).getD k false = rB code S (k : Int) := by
  have h' : k < code.length + 1 := by omega
  simp [reachL, List.getD_eq_getElem?_getD, h']
def zeS (a : Int) : Prop := a = 0
def neS (code : List Ins) (p : Int) (a : Int) : Prop := a ∈ nextS code p
theorem ze_in : ∀ a, zeS a → InC code a := fun a h => by unfold zeS at h; subst h; exact ⟨Int.le_refl 0, by omega⟩
theorem ne_in (hc : OkC code) (hN : code.length < 65536) {p : Int} : ∀ a, neS code p a → InC code a := fun a h => next_in hc hN h
/-! ### Going on with what waits -/
structure WInv (code : List Ins) (S : Int → Prop) (W ks : List Int) : Prop where
  w : ∀ a ∈ W, Rch code S a
  k : ∀ a ∈ ks, Rch code S a
  s : ∀ a, S a → a ∈ ks ∨ a ∈ W
  c : ∀ a ∈ ks, ∀ b ∈ nextS code a, b ∈ ks ∨ b ∈ W
  n : ks.Nodup
theorem WInv.start (L : List Int) (hL : ∀ a, S a ↔ a ∈ L) : WInv code S L [] := ⟨fun a h => .here ((hL a).2 h), (fun a h => by cases h), fun a h => Or.inr ((hL a).1 h), (fun a h => by cases h), List.Pairwise.nil⟩
theorem mem_split {W : List Int} {x : Int} (h : W.getLast? = some x) {a : Int} : a ∈ W ↔ a ∈ W.take (W.length - 1) ∨ a = x := by
  obtain ⟨ys, rfl⟩ := List.getLast?_eq_some_iff.1 h
  simp
theorem WInv.met {W ks : List Int} (v : WInv code S W ks) {x : Int} (h : W.getLast? = some x) (hx : x ∈ ks) : WInv code S (W.take (W.length - 1)) ks := by
  refine ⟨fun a ha => v.w a ((mem_split h).2 (.inl ha)), v.k, fun a ha => ?_, fun a ha b hb => ?_, v.n⟩
  · rcases v.s a ha with q | q
    · exact .inl q
    · rcases (mem_split h).1 q with q | rfl
      · exact .inr q
      · exact .inl hx
  · rcases v.c a ha b hb with q | q
    · exact .inl q
    · rcases (mem_split h).1 q with q | rfl
      · exact .inr q
      · exact .inl hx
theorem WInv.fresh {W ks : List Int} (v : WInv code S W ks) {x : Int} (h : W.getLast? = some x) (hx : x ∉ ks) : WInv code S (W.take (W.length - 1) ++ nextS code x) (ks ++ [x]) := by
  have hR : Rch code S x := v.w x ((mem_split h).2 (.inr rfl))
  refine ⟨fun a ha => ?_, fun a ha => ?_, fun a ha => ?_, fun a ha b hb => ?_, ?_⟩
  · rcases List.mem_append.1 ha with q | q
    · exact v.w a ((mem_split h).2 (.inl q))
    · exact .go hR q
  · rcases List.mem_append.1 ha with q | q
    · exact v.k a q
    · have := List.mem_singleton.1 q; subst this; exact hR
  · rcases v.s a ha with q | q
    · exact .inl (List.mem_append.2 (.inl q))
    · rcases (mem_split h).1 q with q | rfl
      · exact .inr (List.mem_append.2 (.inl q))
      · exact .inl (List.mem_append.2 (.inr (List.mem_singleton.2 rfl)))
  · rcases List.mem_append.1 ha with q | q
    · rcases v.c a q b hb with q | q
      · exact .inl (List.mem_append.2 (.inl q))
      · rcases (mem_split h).1 q with q | rfl
        · exact .inr (List.mem_append.2 (.inl q))
        · exact .inl (List.mem_append.2 (.inr (List.mem_singleton.2 rfl)))
    · have := List.mem_singleton.1 q; subst this
      exact .inr (List.mem_append.2 (.inr hb))
  · rw [List.nodup_append]
    exact ⟨v.n, by simp, fun a ha b hb e => by have := List.mem_singleton.1 hb; subst this; subst e; exact hx ha⟩
theorem WInv.done {ks : List Int} (v : WInv code S [] ks) {a : Int} : a ∈ ks ↔ Rch code S a :=
  ⟨v.k a, fun h => h.least (T := fun a => a ∈ ks) (fun a ha => (v.s a ha).resolve_right (by simp)) (fun a ha b hb => (v.c a ha b hb).resolve_right (by simp))⟩
theorem nodup_bound : ∀ (n : Nat) (ks : List Int), ks.Nodup → (∀ a ∈ ks, 0 ≤ a ∧ a < n) → ks.length ≤ n
  | 0, ks, _, h => by
    cases ks with
    | nil => simp
    | cons a ks => have := h a (by simp); omega
  | n + 1, ks, hn, h => by
    have e : (ks.filter fun a => decide (a ≠ (n : Int))).length + 1 ≥ ks.length := by
      clear h
      induction ks with
      | nil => simp
      | cons a ks ih =>
        obtain ⟨h1, h2⟩ := List.nodup_cons.1 hn
        by_cases ha : a = (n : Int)
        · subst ha
          have : ks.filter (fun a => decide (a ≠ (n : Int))) = ks := List.filter_eq_self.2 fun x hx => by simp; rintro rfl; exact h1 hx
          rw [List.filter_cons_of_neg (by simp), this]; simp
        · have := ih h2
          rw [List.filter_cons_of_pos (by simpa using ha)]; simp only [List.length_cons]; omega
    have := nodup_bound n (ks.filter fun a => decide (a ≠ (n : Int))) (List.Pairwise.filter _ hn) fun a ha => by
      obtain ⟨h1, h2⟩ := List.mem_filter.1 ha
      have := h a h1
      simp at h2
      omega
    omega
theorem WInv.few {W ks : List Int} (v : WInv code S W ks) (hc : OkC code) (hN : code.length < 65536) (hS : ∀ a, S a → InC code a) : ks.length ≤ code.length + 1 :=
  nodup_bound (code.length + 1) ks v.n fun a ha => by have := (v.k a ha).inn hc hN hS; unfold InC at this; omega
/-! ### The document's way -/
def boR (b : Bool) : List PV := [.bool b]
theorem bo_at {l : List Bool} {j : Int} (h : 0 ≤ j ∧ j < l.length) : (l.map boR)[j.toNat]? = some [.bool (l.getD j.toNat false)] := by
  have : j.toNat < l.length := by omega
  simp [this, boR]
def atS (at0 : List Bool) (a : Int) : Prop := 0 ≤ a ∧ at0.getD a.toNat false = true
structure FrI (code : List Ins) (at0 at1 : List Bool) : Prop where
  len : at1.length = code.length + 1
  up : ∀ k : Nat, at0.getD k false = true → at1.getD k false = true
  r : ∀ k : Nat, at1.getD k false = true → Rch code (atS at0) (k : Int)
theorem FrI.start {at0 : List Bool} (h : at0.length = code.length + 1) : FrI code at0 at0 := ⟨h, fun _ h => h, fun k hk => .here ⟨by omega, by simpa using hk⟩⟩
theorem FrI.set {at0 at1 : List Bool} (v : FrI code at0 at1) {p b : Int} (hp : 0 ≤ p) (h1 : at1.getD p.toNat false = true) (hb : b ∈ nextS code p) (h2 : 0 ≤ b ∧ b ≤ code.length) : FrI code at0 (at1.set b.toNat true) := by
  have hl : b.toNat < at1.length := by rw [v.len]; omega
  refine ⟨by rw [List.length_set]; exact v.len, fun k hk => ?_, fun k hk => ?_⟩
  · rw [getD_set hl]; split
    · rfl
    · exact v.up k hk
  · rw [getD_set hl] at hk; split at hk
    · rename_i e; subst e
      have := (v.r p.toNat h1).go (by rw [show ((p.toNat : Nat) : Int) = p by omega]; exact hb)
      rw [show ((b.toNat : Nat) : Int) = b by omega]; exact this
    · exact v.r k hk
def cloF (code : List Ins) (at1 : List Bool) (p : Int) : Prop := at1.getD p.toNat false = true → ∀ b ∈ nextS code p, at1.getD b.toNat false = true
theorem FrI.done {at0 at1 : List Bool} (v : FrI code at0 at1) (hc : OkC code) (hN : code.length < 65536) (h : ∀ p : Int, 0 ≤ p → p < code.length → cloF code at1 p) (h0 : at0.length = code.length + 1) : at1 = reachL code (atS at0) := by
  apply List.ext_getElem?
  intro k
  rcases Nat.lt_or_ge k (code.length + 1) with hk | hk
  · rw [List.getElem?_eq_getElem (by rw [v.len]; exact hk), List.getElem?_eq_getElem (by rw [reachL_len]; exact hk)]
    have e1 : at1.getD k false = at1[k]'(by rw [v.len]; exact hk) := by simp [List.getD_eq_getElem?_getD, v.len, hk]
    have e2 : (reachL code (atS at0)).getD k false = (reachL code (atS at0))[k]'(by rw [reachL_len]; exact hk) := by simp [List.getD_eq_getElem?_getD, reachL_len, hk]
    rw [← e1, ← e2, reachL_at (by omega)]
    congr 1
    rw [Bool.eq_iff_iff, rB_iff]
    refine ⟨v.r k, fun hR => ?_⟩
    have := hR.least (T := fun a => 0 ≤ a ∧ at1.getD a.toNat false = true) (fun a ha => ⟨ha.1, v.up _ ha.2⟩) fun a ha b hb => by
      have hbi := next_in hc hN hb
      refine ⟨hbi.1, ?_⟩
      by_cases hlt : a < code.length
      · exact h a ha.1 hlt ha.2 b hb
      · rw [next_out (fun q => hlt q.2)] at hb; cases hb
    simpa using this.2
  · rw [List.getElem?_eq_none (by rw [v.len]; exact hk), List.getElem?_eq_none (by rw [reachL_len]; exact hk)]
def falN (l : List Bool) : Nat := (l.map nb).sum
theorem falN_set {l : List Bool} {k : Nat} (hk : k < l.length) (h : l.getD k false = false) : falN (l.set k true) + 1 = falN l := by
  induction l generalizing k with
  | nil => simp at hk
  | cons a l ih =>
    cases k with
    | zero => simp at h; subst h; simp [falN, nb]; omega
    | succ k =>
      have := ih (k := k) (by simpa using hk) (by simpa using h)
      simp only [falN, List.set_cons_succ, List.map_cons, List.sum_cons] at this ⊢
      omega
theorem fal_meas {X X2 : List Bool} {ag ag2 : Bool} (k4 : ag2 = false → X2 = X) (k5 : ag2 = true → falN X2 < falN X) (h : ag = true) : 2 * falN X2 + (if ag2 = true then 1 else 0) < 2 * falN X + (if ag = true then 1 else 0) := by
  rw [if_pos h]
  cases ag2 with
  | false => rw [k4 rfl]; simp
  | true => have := k5 rfl; simp; omega
theorem fal_lt {X X3 : List Bool} {ag3 : Bool} {k : Nat} (hk : k < X3.length) (h : X3.getD k false = false) (j4 : ag3 = false → X3 = X) (j5 : ag3 = true → falN X3 < falN X) : falN (X3.set k true) < falN X := by
  have := falN_set hk h
  cases ag3 with
  | false => rw [← j4 rfl]; omega
  | true => have := j5 rfl; omega
theorem set_keep {X : List Bool} {k j : Nat} (hk : k < X.length) (h : X.getD j false = true) : (X.set k true).getD j false = true := by rw [getD_set hk]; split <;> first | rfl | exact h
open Classical in
noncomputable def loopB (code : List Ins) : Bool := decide (∃ a, Rch code zeS a ∧ Rch code (neS code a) a)
theorem loopB_yes {a : Int} (h : Rch code zeS a) (k : Rch code (neS code a) a) : loopB code = true := by unfold loopB; simp; exact ⟨a, h, k⟩
theorem loopB_no (h : ∀ a, Rch code zeS a → ¬ Rch code (neS code a) a) : loopB code = false := by unfold loopB; simp; exact h
end Go.Ab.Try
