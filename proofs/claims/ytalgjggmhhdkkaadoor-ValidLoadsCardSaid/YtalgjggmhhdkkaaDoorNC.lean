/- Errors of programs, and what loading makes. -/
import Derived.Test.YtalgjggmhhdkkaaDoorNB
import Derived.Test.YtalgjggmhhdkkaaDoorAT
namespace Go.Ab.Tryd
open Go.Proofs Go.Ab
set_option linter.unusedVariables false
set_option linter.unusedSimpArgs false
set_option linter.unnecessarySimpa false
theorem check_geo {p : Pg} (h : geoB p) : checkP p = (0, 0, 17) := by unfold checkP; rw [if_pos h]
theorem check_0 {p : Pg} (hg : ¬ geoB p) (h : ¬ (codeE p.c0 0).2 = 0) : checkP p = (0, codeE p.c0 0) := by unfold checkP; rw [if_neg hg, if_pos h]
theorem check_1 {p : Pg} (hg : ¬ geoB p) (h0 : (codeE p.c0 0).2 = 0) (h : ¬ (codeE p.c1 1).2 = 0) : checkP p = (1, codeE p.c1 1) := by unfold checkP; rw [if_neg hg, if_neg (not_not_intro h0), if_pos h]
theorem check_2 {p : Pg} (hg : ¬ geoB p) (h0 : (codeE p.c0 0).2 = 0) (h1 : (codeE p.c1 1).2 = 0) (h : ¬ (codeE p.c2 2).2 = 0) : checkP p = (2, codeE p.c2 2) := by
  unfold checkP; rw [if_neg hg, if_neg (not_not_intro h0), if_neg (not_not_intro h1), if_pos h]
theorem check_ok {p : Pg} (hg : ¬ geoB p) (h0 : (codeE p.c0 0).2 = 0) (h1 : (codeE p.c1 1).2 = 0) (h2 : (codeE p.c2 2).2 = 0) : checkP p = (0, 0, 0) := by
  unfold checkP; rw [if_neg hg, if_neg (not_not_intro h0), if_neg (not_not_intro h1), if_neg (not_not_intro h2)]
theorem check_zero {p : Pg} (h : (checkP p).2.2 = 0) : checkP p = (0, 0, 0) := by
  by_cases hg : geoB p
  · rw [check_geo hg] at h; cases h
  · by_cases h0 : (codeE p.c0 0).2 = 0
    · by_cases h1 : (codeE p.c1 1).2 = 0
      · by_cases h2 : (codeE p.c2 2).2 = 0
        · exact check_ok hg h0 h1 h2
        · rw [check_2 hg h0 h1 h2] at h; exact absurd h h2
      · rw [check_1 hg h0 h1] at h; exact absurd h h1
    · rw [check_0 hg h0] at h; exact absurd h h0
theorem badF_fin {l : List Ins} {r : Int} {i : Int} (h : codeE l r = badF l r (l.length - i.toNat) i.toNat) (hi : ¬ i < (l.length : Int)) : codeE l r = (0, 0) := by rw [h, badF_end (by omega)]
theorem badF_at {l : List Ins} {r : Int} {i : Int} (h : codeE l r = badF l r (l.length - i.toNat) i.toNat) (h0 : 0 ≤ i) (hi : i < (l.length : Int)) (hb : ¬ badI l r i.toNat = 0) : codeE l r = (i, badI l r i.toNat) := by
  rw [h, badF_hit (by omega) hb, Int.toNat_of_nonneg h0]
theorem badF_go {l : List Ins} {r : Int} {i : Int} (h : codeE l r = badF l r (l.length - i.toNat) i.toNat) (h0 : 0 ≤ i) (hi : i < (l.length : Int)) (hb : badI l r i.toNat = 0) : codeE l r = badF l r (l.length - (i + 1).toNat) (i + 1).toNat := by
  rw [h, badF_step (by omega) hb, show (i + 1).toNat = i.toNat + 1 by omega]
theorem load_r {l : List Int} (h : ¬ (readL l).2 = 0) : loadL l = (pg0, (readL l).2) := by unfold loadL; rw [if_neg h]
theorem load_c {l : List Int} (h : (readL l).2 = 0) (k : ¬ (checkP (readL l).1).2.2 = 0) : loadL l = (pg0, (checkP (readL l).1).2.2) := by unfold loadL; rw [if_pos h, if_neg k]
theorem load_k {l : List Int} (h : (readL l).2 = 0) (k : (checkP (readL l).1).2.2 = 0) : loadL l = ((readL l).1, 0) := by
  unfold loadL; rw [if_pos h, if_pos k]; exact Prod.ext rfl h
theorem okpg_0 : OkPg pg0 := ⟨fun _ h => (by cases h), fun _ h => (by cases h), fun _ h => (by cases h), fun _ h => (by cases h)⟩
theorem okR_read (l : List Int) : okR (readL l) := okR_mag _ _
theorem read_okpg {l : List Int} (ok : OkB l) : OkPg (readL l).1 ∧ smP (readL l).1 := by
  obtain ⟨h, s⟩ := read_ok ok
  refine ⟨h.elim (fun q => q.2.2.2.2) fun q => ?_, s⟩
  rcases okR_read l with e | e
  · exact absurd e q
  · rw [e]; exact okpg_0
theorem load_sm {l : List Int} (ok : OkB l) : smP (loadL l).1 := by
  unfold loadL; split
  · split
    · exact (read_okpg ok).2
    · exact sm_0
  · exact sm_0
def iH : Ins := (14, 0, 0, 0, 0)
def pQ : Pg := ⟨1, 0, [0], [iH], [iH], [iH]⟩
def pR : Pg := ⟨1, 0, [0], [iH], [(12, 0, 0, 0, 0), (9, 0, 0, 0, 0)], [iH]⟩
theorem check_Q : checkP pQ = (0, 0, 0) := by decide +kernel
theorem check_Z : checkP pg0 = (0, 0, 17) := by decide +kernel
theorem check_R : checkP pR = (1, 1, 16) := by decide +kernel
theorem load_B : loadL [66, 87, 75, 49] = (pg0, 6) := by decide +kernel
def wB (x : Int) : Bool := decide (0 ≤ x) && decide (x < 18446744073709551616)
theorem wB_ok {x : Int} (h : wB x = true) : W64 x := by unfold wB at h; unfold W64; simpa using h
theorem okpg_dec {p : Pg} (h : (p.D.all wB && p.c0.all (fun i => wB i.2.2.2.2) && p.c1.all (fun i => wB i.2.2.2.2) && p.c2.all (fun i => wB i.2.2.2.2)) = true) : OkPg p := by
  simp only [Bool.and_eq_true] at h
  exact ⟨fun x hx => wB_ok (List.all_eq_true.1 h.1.1.1 x hx), fun x hx => wB_ok (List.all_eq_true.1 h.1.1.2 x hx), fun x hx => wB_ok (List.all_eq_true.1 h.1.2 x hx), fun x hx => wB_ok (List.all_eq_true.1 h.2 x hx)⟩
theorem lit_V : (⟨#[66, 87, 75, 49]⟩ : ByteArray) = strOf [66, 87, 75, 49] := by apply byteArray_ext; rw [strOf_data]; rfl
end Go.Ab.Tryd
