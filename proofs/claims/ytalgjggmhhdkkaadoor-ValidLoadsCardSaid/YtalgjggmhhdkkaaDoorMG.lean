/- What the laws ask of bytes and programs. -/
import Derived.Test.YtalgjggmhhdkkaaDoorMF
namespace Go.Ab.Tryd
open Go.Proofs Go.Ab
set_option linter.unusedVariables false
set_option linter.unusedSimpArgs false
set_option linter.unnecessarySimpa false
def few (p : Pg) : Prop := p.D.length ≤ 300 ∧ p.c0.length ≤ 300 ∧ p.c1.length ≤ 300 ∧ p.c2.length ≤ 300
theorem few_sm {p : Pg} (h : few p) : smP p := ⟨by have := h.1; omega, by have := h.2.1; omega, by have := h.2.2.1; omega, by have := h.2.2.2; omega⟩
theorem few_of {p : Pg} (h : ¬ (if p.D.length ≤ 300 ∧ p.c0.length ≤ 300 ∧ p.c1.length ≤ 300 ∧ p.c2.length ≤ 300 then (1 : Int) else 0) = 0) : few p :=
  Classical.byContradiction fun hn => h (if_neg hn)
def okR (r : Res) : Prop := r.2 = 0 ∨ r.1 = pg0
theorem okR_short : okR short := .inr rfl
theorem okR_end (p : Pg) (l : List Int) : okR (pEnd p l) := by
  cases l with
  | nil => exact .inl rfl
  | cons a l => exact .inr rfl
theorem okR_ins {k : List Ins → List Int → Res} (hk : ∀ K l, okR (k K l)) : ∀ (m : Nat) (K : List Ins) (l : List Int), okR (pIns k m K l)
  | 0, K, l => hk K l
  | m + 1, K, l => by
    rw [pIns]; split
    · exact okR_short
    · exact okR_ins hk m _ _
theorem okR_code {k : List Ins → List Int → Res} (hk : ∀ K l, okR (k K l)) (l : List Int) : okR (pCode k l) := by
  cases l with
  | nil => exact okR_short
  | cons m l => exact okR_ins hk _ _ _
theorem okR_disk {k : List Int → List Int → Res} (hk : ∀ D l, okR (k D l)) : ∀ (m : Nat) (D l : List Int), okR (pDisk k m D l)
  | 0, D, l => hk D l
  | m + 1, D, l => by
    rw [pDisk]; split
    · exact okR_short
    · exact okR_disk hk m _ _
theorem okR_top : ∀ l, okR (pTop l)
  | [] => okR_short
  | [a] => okR_short
  | [a, b] => okR_short
  | B :: C :: n :: l => okR_disk (fun D l => okR_code (fun K0 l => okR_code (fun K1 l => okR_code (fun K2 l => okR_end _ l) l) l) l) _ _ _
theorem okR_mag : ∀ ms l, okR (pMag ms l)
  | [], l => okR_top l
  | m :: ms, [] => okR_short
  | m :: ms, c :: l => by
    rw [pMag]; split
    · exact okR_mag ms l
    · exact .inr rfl
theorem read_ok {l : List Int} (h : OkB l) : (((readL l).2 = 0 ∧ l = putL (readL l).1 ∧ sizeOk (readL l).1 ∧ formOk (readL l).1 ∧ OkPg (readL l).1) ∨ ¬ (readL l).2 = 0) ∧ smP (readL l).1 := by
  rcases okR_mag [66, 87, 75, 49] l with q | q
  · have q' : readL l = ((readL l).1, 0) := Prod.ext rfl q
    obtain ⟨h1, h2, h3, h4⟩ := read_inv h q'
    refine ⟨.inl ⟨q, h1, h2, h3, h4⟩, ?_⟩
    have s := h2
    exact ⟨by have := s.2.2.1; omega, by have := s.2.2.2.1; omega, by have := s.2.2.2.2.1; omega, by have := s.2.2.2.2.2; omega⟩
  · have sm : smP (readL l).1 := by
      rw [show (readL l).1 = pg0 from q]; exact ⟨by decide, by decide, by decide, by decide⟩
    by_cases e : (readL l).2 = 0
    · have q' : readL l = ((readL l).1, 0) := Prod.ext rfl e
      obtain ⟨h1, h2, h3, h4⟩ := read_inv h q'
      exact ⟨.inl ⟨e, h1, h2, h3, h4⟩, sm⟩
    · exact ⟨.inr e, sm⟩
theorem flat8_len (D : List Int) : (D.flatMap eightL).length = 8 * D.length := by
  induction D with
  | nil => rfl
  | cons a D ih => rw [List.flatMap_cons, List.length_append, ih, eight_len, List.length_cons]; omega
theorem flat12_len (K : List Ins) : (K.flatMap insL).length = 12 * K.length := by
  induction K with
  | nil => rfl
  | cons a K ih => rw [List.flatMap_cons, List.length_append, ih, ins_len, List.length_cons]; omega
theorem put_len {p : Pg} (h : sizeOk p) : 10 ≤ (putL p).length ∧ (putL p).length ≤ 20000 := by
  obtain ⟨_, _, h3, h4, h5, h6⟩ := h
  unfold putL codL
  simp only [List.length_append, List.length_cons, List.length_nil, flat8_len, flat12_len]
  omega
theorem back_same {p : Pg} (h : OkPg p) : readL (putL p) = (p, 0) := by have := read_put h []; rwa [List.append_nil] at this
/-! ### The example -/
def lA : List Int := [66, 87, 75, 49, 1, 2, 0, 1, 14, 3, 0, 0, 0, 0, 0, 0, 0, 0, 0, 7, 0, 0]
theorem ok_dec {l : List Int} (h : l.all (fun x => decide (0 ≤ x) && decide (x < 256)) = true) : OkB l := fun x hx => by
  have := List.all_eq_true.1 h x hx; simpa using this
theorem sm_0 : smP pg0 := ⟨by decide, by decide, by decide, by decide⟩
end Go.Ab.Tryd
