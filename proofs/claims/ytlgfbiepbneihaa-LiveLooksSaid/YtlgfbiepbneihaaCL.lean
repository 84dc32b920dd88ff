/- Literals, clauses, lists of truths. -/
import Derived.Test.YtlgfbiepbneihaaKD
namespace Go.Ab
set_option linter.unusedVariables false
set_option linter.unusedSimpArgs false

/-! ### Literals -/
def ofV (l : Int) : Int := if l < 0 then -1 else l / 2
def ofN (l : Int) : Bool := decide (0 ≤ l ∧ l % 2 = 1)
def bools (b : Bool) (m : List Bool) : PV := .lst b 1 (m.map fun x => [.bool x])
def hold (l : Int) (m : List Bool) : Bool := if l < 0 then false else (m.getD (ofV l).toNat false != ofN l)
theorem bools_at {m : List Bool} {j : Int} (h : 0 ≤ j ∧ j < m.length) : (m.map fun x => [PV.bool x])[j.toNat]? = some [.bool (m.getD j.toNat false)] := by
  have : j.toNat < m.length := by omega
  simp [this]
theorem bools_none {m : List Bool} {j : Int} (h : ¬ j < m.length) : (m.map fun x => [PV.bool x])[j.toNat]? = none := by
  have : m.length ≤ j.toNat := by omega
  simp [this]
theorem ofV_neg {l : Int} (h : ¬ ofV l < 0) : ¬ l < 0 := fun hl => h (by unfold ofV; rw [if_pos hl]; omega)
theorem hold_ge {l : Int} {m : List Bool} (h : I64 l) (h0 : ¬ l < 0) (hm : ¬ ofV l < m.length) : hold l m = ofN l := by
  have h1 : 0 ≤ ofV l := by unfold ofV; rw [if_neg h0]; omega
  have h2 : m.length ≤ (ofV l).toNat := by omega
  unfold hold
  rw [if_neg h0, List.getD_eq_getElem?_getD, List.getElem?_eq_none h2]
  simp
theorem nat_hold {l : Int} (h : I64 l) (h0 : ¬ l < 0) : 0 ≤ ofV l := by unfold ofV; rw [if_neg h0]; omega

/-! ### Clauses -/
def cl (b : Bool) (c : List Int) : PV := .lst b 1 (c.map fun x => [.int .i64 x])
def cls (l : List (List Int)) : PV := .lst false 1 (l.map fun c => [cl false c])
/-- Numbers that are such, lists that may be. -/
def Wf (l : List (List Int)) : Prop := (l.length : Int) ≤ 9223372036854775807 ∧ ∀ c ∈ l, (c.length : Int) ≤ 9223372036854775807 ∧ ∀ x ∈ c, I64 x
theorem cl_at {c : List Int} {j : Int} (h : 0 ≤ j ∧ j < c.length) : (c.map fun x => [PV.int .i64 x])[j.toNat]? = some [.int .i64 (c.getD j.toNat 0)] := by
  have : j.toNat < c.length := by omega
  simp [this]
theorem cls_at {l : List (List Int)} {j : Int} (h : 0 ≤ j ∧ j < l.length) : (l.map fun c => [cl false c])[j.toNat]? = some [cl false (l.getD j.toNat [])] := by
  have : j.toNat < l.length := by omega
  simp [this]
theorem getD_mem {α : Type} {l : List α} {j : Nat} {d : α} (h : j < l.length) : l.getD j d ∈ l := by
  rw [List.getD_eq_getElem?_getD, List.getElem?_eq_getElem h]; exact List.getElem_mem h
theorem Wf.at {l : List (List Int)} (h : Wf l) {j : Nat} (hj : j < l.length) : ((l.getD j []).length : Int) ≤ 9223372036854775807 ∧ ∀ x ∈ l.getD j [], I64 x := h.2 _ (getD_mem hj)
def clH (m : List Bool) (c : List Int) : Bool := c.any fun x => hold x m
theorem clH_yes {m : List Bool} {c : List Int} {j : Nat} (hj : j < c.length) (h : hold (c.getD j 0) m = true) : clH m c = true := by
  unfold clH; rw [List.any_eq_true]; exact ⟨_, getD_mem hj, h⟩
theorem clH_no {m : List Bool} {c : List Int} (h : ∀ j : Nat, j < c.length → hold (c.getD j 0) m = false) : clH m c = false := by
  unfold clH; rw [List.any_eq_false]; intro x hx
  obtain ⟨j, hj, rfl⟩ := List.getElem_of_mem hx
  have := h j hj
  rw [List.getD_eq_getElem?_getD, List.getElem?_eq_getElem hj] at this
  simp at this; simp [this]
def fbI (l : List (List Int)) (m : List Bool) : Int := match l.findIdx? (fun c => !clH m c) with | some i => i | none => -1
theorem fb_some {l : List (List Int)} {m : List Bool} {i : Nat} (hi : i < l.length) (h : clH m (l.getD i []) = false) (hj : ∀ j : Nat, j < i → clH m (l.getD j []) = true) : fbI l m = i := by
  have : l.findIdx? (fun c => !clH m c) = some i := by
    rw [List.findIdx?_eq_some_iff_getElem]
    refine ⟨hi, ?_, fun j hji => ?_⟩
    · rw [List.getD_eq_getElem?_getD, List.getElem?_eq_getElem hi] at h; simpa using h
    · have := hj j hji
      rw [List.getD_eq_getElem?_getD, List.getElem?_eq_getElem (by omega)] at this; simpa using this
  unfold fbI; rw [this]
theorem fb_none {l : List (List Int)} {m : List Bool} (h : ∀ j : Nat, j < l.length → clH m (l.getD j []) = true) : fbI l m = -1 := by
  have : l.findIdx? (fun c => !clH m c) = none := by
    rw [List.findIdx?_eq_none_iff]
    intro c hc
    obtain ⟨j, hj, rfl⟩ := List.getElem_of_mem hc
    have := h j hj
    rw [List.getD_eq_getElem?_getD, List.getElem?_eq_getElem hj] at this; simpa using this
  unfold fbI; rw [this]
theorem fb_neg {l : List (List Int)} {m : List Bool} : fbI l m < 0 ↔ ∀ c ∈ l, clH m c = true := by
  unfold fbI
  cases h : l.findIdx? (fun c => !clH m c) with
  | none => rw [List.findIdx?_eq_none_iff] at h; simp; intro c hc; simpa using h c hc
  | some i =>
    rw [List.findIdx?_eq_some_iff_getElem] at h
    obtain ⟨hi, h1, _⟩ := h
    simp only [show ¬ ((i : Int) < 0) by omega, false_iff]
    intro hh
    have := hh _ (List.getElem_mem hi)
    rw [this] at h1; simp at h1
def badX (vars x : Int) : Bool := decide (x < 0 ∨ vars ≤ x / 2)
def chkC (vars : Int) (l : List (List Int)) : Int := if vars < 0 ∨ 1048576 < vars then 10 else if 1048576 < l.length then 8 else if l.any (fun c => c.any (badX vars)) then 10 else 0
theorem any_at {α : Type} {p : α → Bool} {l : List α} {d : α} {j : Nat} (hj : j < l.length) (h : p (l.getD j d) = true) : l.any p = true := by
  rw [List.any_eq_true]; exact ⟨_, getD_mem hj, h⟩
theorem any_not {α : Type} {p : α → Bool} {l : List α} (d : α) (h : ∀ j : Nat, j < l.length → p (l.getD j d) = false) : l.any p = false := by
  rw [List.any_eq_false]; intro x hx
  obtain ⟨j, hj, rfl⟩ := List.getElem_of_mem hx
  have := h j hj
  rw [List.getD_eq_getElem?_getD, List.getElem?_eq_getElem hj] at this
  simp at this; simp [this]
theorem chk_vars {vars : Int} {l : List (List Int)} (h : vars < 0 ∨ 1048576 < vars) : (10 : Int) = chkC vars l := by unfold chkC; rw [if_pos h]
theorem chk_many {vars : Int} {l : List (List Int)} (h : ¬ (vars < 0 ∨ 1048576 < vars)) (h2 : 1048576 < (l.length : Int)) : (8 : Int) = chkC vars l := by unfold chkC; rw [if_neg h, if_pos (by omega)]
theorem chk_bad {vars : Int} {l : List (List Int)} (h : ¬ (vars < 0 ∨ 1048576 < vars)) (h2 : ¬ 1048576 < (l.length : Int)) {i k : Nat} (hi : i < l.length) (hk : k < (l.getD i []).length) (hb : badX vars ((l.getD i []).getD k 0) = true) : (10 : Int) = chkC vars l := by
  unfold chkC; rw [if_neg h, if_neg (by omega), if_pos (any_at hi (any_at hk hb))]
theorem chk_good {vars : Int} {l : List (List Int)} (h : ¬ (vars < 0 ∨ 1048576 < vars)) (h2 : ¬ 1048576 < (l.length : Int)) (hb : ∀ i : Nat, i < l.length → ∀ k : Nat, k < (l.getD i []).length → badX vars ((l.getD i []).getD k 0) = false) : (0 : Int) = chkC vars l := by
  unfold chkC; rw [if_neg h, if_neg (by omega), if_neg (by rw [any_not [] fun i hi => any_not 0 fun k hk => hb i hi k hk]; exact Bool.false_ne_true)]
theorem bad_of {vars x : Int} (hv : 0 ≤ vars) : (ofV x < 0 ∨ vars ≤ ofV x) ↔ badX vars x = true := by
  unfold badX ofV
  simp only [decide_eq_true_eq]
  split <;> omega
theorem bad_of2 {vars x : Int} (hx : I64 x) : (x < 0 ∨ vars ≤ IntKind.i64.wrap (x.tdiv 2)) ↔ badX vars x = true := by
  unfold badX
  simp only [decide_eq_true_eq]
  unfold I64 at hx
  by_cases h : x < 0
  · simp [h]
  · rw [Int.tdiv_eq_ediv_of_nonneg (by omega), w64 (by omega) (by omega)]
theorem bad_false {vars x : Int} {p : Prop} (h : p ↔ badX vars x = true) (hn : ¬ p) : badX vars x = false := by
  cases hb : badX vars x with
  | false => rfl
  | true => exact (hn (h.2 hb)).elim
def fewC (l : List (List Int)) (most : Int) : Int := if most < l.length then 0 else if l.any (fun c => decide (40 < c.length)) then 0 else 1
/-! ### Lists of truths, counted -/
def tr : Nat → Int → List Bool
  | 0, _ => []
  | k + 1, n => decide (n % 2 = 1) :: tr k (n / 2)
theorem tr_length (k : Nat) (n : Int) : (tr k n).length = k := by induction k generalizing n with | zero => rfl | succ k ih => simp [tr, ih]
theorem tr_at {k j : Nat} (n : Int) (h : j < k) : (tr k n)[j]? = some (decide (n / 2 ^ j % 2 = 1)) := by
  induction k generalizing n j with
  | zero => omega
  | succ k ih =>
    cases j with
    | zero => simp [tr]
    | succ j =>
      simp only [tr, List.getElem?_cons_succ]
      rw [ih (n / 2) (by omega)]
      have : n / 2 / 2 ^ j = n / 2 ^ (j + 1) := by rw [Int.ediv_ediv_of_nonneg (by omega), Int.pow_succ, Int.mul_comm]
      rw [this]
def good (vars : Nat) (l : List (List Int)) (j : Nat) : Bool := decide (fbI l (tr vars j) < 0)
def cnt (vars : Nat) (l : List (List Int)) : Nat → Int
  | 0 => 0
  | i + 1 => cnt vars l i + if good vars l i = true then 1 else 0
def fst (vars : Nat) (l : List (List Int)) : Nat → Int
  | 0 => -1
  | i + 1 => if fst vars l i < 0 ∧ good vars l i = true then i else fst vars l i
theorem cnt_rng (vars : Nat) (l : List (List Int)) (i : Nat) : 0 ≤ cnt vars l i ∧ cnt vars l i ≤ i := by
  induction i with
  | zero => simp [cnt]
  | succ i ih => simp only [cnt]; split <;> omega
theorem fst_rng (vars : Nat) (l : List (List Int)) (i : Nat) : -1 ≤ fst vars l i ∧ fst vars l i < i := by
  induction i with
  | zero => simp [fst]
  | succ i ih => simp only [fst]; split <;> omega
theorem fst_stay {vars : Nat} {l : List (List Int)} {i : Nat} (h : ¬ fst vars l i < 0) (k : Nat) : fst vars l (i + k) = fst vars l i := by
  induction k with
  | zero => rfl
  | succ k ih => rw [← Nat.add_assoc]; simp only [fst]; rw [ih, if_neg (fun hh => h hh.1)]
theorem shl_one {v : Int} {N : Nat} (h : 0 ≤ v ∧ v ≤ 16) (hN : N = 2 ^ v.toNat) : ishl .i64 1 v = (N : Int) := by
  have hle : N ≤ 65536 := by
    have := Nat.pow_le_pow_right (n := 2) (by omega) (show v.toNat ≤ 16 by omega)
    subst hN; simpa using this
  unfold ishl
  have : min v.toNat IntKind.i64.bits = v.toNat := by simp only [IntKind.bits]; omega
  rw [this]
  have e : (1 : Int) * 2 ^ v.toNat = (N : Int) := by rw [hN]; simp
  rw [e]; exact w64 (by omega) (by omega)
theorem pow_le {v : Int} (h : v ≤ 16) : 2 ^ v.toNat ≤ 65536 := by
  have := Nat.pow_le_pow_right (n := 2) (by omega) (show v.toNat ≤ 16 by omega)
  simpa using this
theorem tN {i : Int} (h : 0 ≤ i) : ((i.toNat : Nat) : Int) = i := by omega
theorem cnt_yes {k : Nat} {l : List (List Int)} {i : Int} (h : 0 ≤ i) (hg : fbI l (tr k i) < 0) : cnt k l (i + 1).toNat = cnt k l i.toNat + 1 := by
  have e : (i + 1).toNat = i.toNat + 1 := by omega
  rw [e]; simp only [cnt]; rw [if_pos (by unfold good; rw [tN h]; simpa using hg)]
theorem cnt_no {k : Nat} {l : List (List Int)} {i : Int} (h : 0 ≤ i) (hg : ¬ fbI l (tr k i) < 0) : cnt k l (i + 1).toNat = cnt k l i.toNat := by
  have e : (i + 1).toNat = i.toNat + 1 := by omega
  rw [e]; simp only [cnt]; rw [if_neg (by unfold good; rw [tN h]; simpa using hg)]; omega
theorem fst_yes {k : Nat} {l : List (List Int)} {i : Int} (h : 0 ≤ i) (hg : fbI l (tr k i) < 0) (hf : fst k l i.toNat < 0) : fst k l (i + 1).toNat = i := by
  have e : (i + 1).toNat = i.toNat + 1 := by omega
  rw [e]; simp only [fst]; rw [if_pos ⟨hf, by unfold good; rw [tN h]; simpa using hg⟩]; omega
theorem fst_keep {k : Nat} {l : List (List Int)} {i : Int} (h : 0 ≤ i) (hf : ¬ (fst k l i.toNat < 0 ∧ fbI l (tr k i) < 0)) : fst k l (i + 1).toNat = fst k l i.toNat := by
  have e : (i + 1).toNat = i.toNat + 1 := by omega
  rw [e]; simp only [fst]; rw [if_neg (fun hh => hf ⟨hh.1, by have := hh.2; unfold good at this; rw [tN h] at this; simpa using this⟩)]
theorem cnt_z (k : Nat) (l : List (List Int)) : cnt k l 0 = 0 := rfl
theorem fst_z (k : Nat) (l : List (List Int)) : fst k l 0 = -1 := rfl
theorem bools_ext {a b : List Bool} (hl : a.length = b.length) (h : ∀ j : Nat, j < a.length → a.getD j false = b.getD j false) : a = b := by
  apply List.ext_getElem hl
  intro j h1 h2
  have := h j h1
  rw [List.getD_eq_getElem?_getD, List.getD_eq_getElem?_getD, List.getElem?_eq_getElem h1, List.getElem?_eq_getElem h2] at this
  simpa using this
def mayC (vars : Int) (l : List (List Int)) : Int := if chkC vars l = 0 then (if 16 < vars then 8 else 0) else chkC vars l
theorem may_rng {vars : Int} {l : List (List Int)} (h : mayC vars l = 0) : 0 ≤ vars ∧ vars ≤ 16 := by
  unfold mayC at h
  split at h
  · rename_i hc
    split at h
    · omega
    · unfold chkC at hc
      by_cases hv : vars < 0 ∨ 1048576 < vars
      · rw [if_pos hv] at hc; omega
      · omega
  · contradiction
def cntV (vars : Int) (l : List (List Int)) : Int := if mayC vars l = 0 then cnt vars.toNat l (2 ^ vars.toNat) else 0
def okF (vars : Int) (l : List (List Int)) : Bool := decide (mayC vars l = 0 ∧ ¬ fst vars.toNat l (2 ^ vars.toNat) < 0)
def mF (vars : Int) (l : List (List Int)) : List Bool := if okF vars l = true then tr vars.toNat (fst vars.toNat l (2 ^ vars.toNat)) else []
end Go.Ab
