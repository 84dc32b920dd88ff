/- Facts: what two know, one register after the other; operators of two readings. -/
import Derived.Test.YtlgfbiepbneihaaQC
namespace Go.Ab.Try
open Go.Proofs Go.Ab
set_option linter.unusedVariables false
set_option linter.unusedSimpArgs false
set_option linter.unnecessarySimpa false
theorem upd_upd {α : Type} (k j : Int) (x y z : α) : upd8 k j (upd8 k j x y) z = upd8 k j x z := by unfold upd8; split <;> rfl
def fZ : List AV := [.pv (.bool false), .pv (.bool false), .pv (.bool false), .pv (.bool false), .pv (.bool false), .pv (.bool false), .pv (.bool false), .pv (.bool false), .pv (.bool false), .pv (.int .u64 0), .pv (.int .u64 0), .pv (.int .u64 0), .pv (.int .u64 0), .pv (.int .u64 0), .pv (.int .u64 0), .pv (.int .u64 0), .pv (.int .u64 0)]
attribute [go_sem] fZ
section
variable {a b g : Fa} {r : Int}
def InJ (a b g : Fa) (r : Int) : Prop := g.met = a.met ∧ ∀ j, InR8 j → g.is.get j = (if j < r then sameR a b j else a.is.get j) ∧ g.val.get j = (if j < r then (if sameR a b j = true then a.val.get j else 0) else a.val.get j)
theorem inj_0 : InJ a b a 0 := ⟨rfl, fun j hj => by rw [if_neg (by have := hj.1; omega), if_neg (by have := hj.1; omega)]; exact ⟨rfl, rfl⟩⟩
theorem inj_same (h : InJ a b g r) (hr : InR8 r) : sameR g b r = sameR a b r := by
  obtain ⟨h1, h2⟩ := h.2 r hr
  rw [if_neg (by omega)] at h1 h2
  unfold sameR; rw [h1, h2]
theorem inj_no (h : InJ a b g r) (hr : InR8 r) (hs : sameR g b r = false) : InJ a b (setF g r false 0) (r + 1) := by
  rw [inj_same h hr] at hs
  refine ⟨h.1, fun j hj => ?_⟩
  rw [(set_get hr hj).1, (set_get hr hj).2]
  by_cases e : j = r
  · subst e; have hl : j < j + 1 := by omega
    simp [hl, hs]
  · rw [if_neg e, if_neg e]
    obtain ⟨h1, h2⟩ := h.2 j hj
    rw [h1, h2]
    by_cases hl : j < r
    · have hl' : j < r + 1 := by omega
      simp [hl, hl']
    · have hl' : ¬ j < r + 1 := by omega
      simp [hl, hl']
theorem inj_yes (h : InJ a b g r) (hr : InR8 r) (hs : sameR g b r = true) : InJ a b g (r + 1) := by
  rw [inj_same h hr] at hs
  refine ⟨h.1, fun j hj => ?_⟩
  obtain ⟨h1, h2⟩ := h.2 j hj
  by_cases hl : j < r
  · have hl' : j < r + 1 := by omega
    rw [h1, h2]; simp [hl, hl']
  · by_cases e : j = r
    · subst e
      have hl' : j < j + 1 := by omega
      rw [h1, h2]; simp [hl', hs, (same_iff.1 hs).1]
    · have hl' : ¬ j < r + 1 := by omega
      rw [h1, h2]; simp [hl, hl']
theorem inj_8 (h : InJ a b g r) (h8 : 8 ≤ r) (ha : ¬ a.met = false) (hb : ¬ b.met = false) : g = joinF a b := by
  unfold joinF
  rw [if_neg ha, if_neg hb]
  refine Fa.ext2 h.1 (fun j hj => ?_) (fun j hj => ?_)
  · rw [(h.2 j hj).1, if_pos (by have := hj.2; omega)]; exact (R8.get_of _ hj).symm
  · rw [(h.2 j hj).2, if_pos (by have := hj.2; omega)]; exact (R8.get_of (fun r => if sameR a b r = true then a.val.get r else 0) hj).symm
end
def opr2 (m : Int) : Int := if m < 100 then m else 0
theorem setF_eq {f : Fa} {a x y : Int} {b d : Bool} (h : b = d) (hx : d = true → x = y) : setF f a b x = setF f a d y := by
  subst h; unfold setF
  cases b
  · rfl
  · rw [hx rfl]
theorem opr_bin {m : Int} (h0 : 0 ≤ m) : (binE (opr2 m) 64 = 0 ↔ binE (oprI m) 64 = 0) ∧ (binE (oprI m) 64 = 0 → opr2 m = oprI m) := by
  have hw : fitW 64 := by unfold fitW; omega
  have k : ∀ o, binE o 64 = 0 ↔ 1 ≤ o ∧ o ≤ 14 := fun o => by unfold binE; rw [if_pos hw]; split <;> omega
  rw [k, k]; unfold opr2 oprI
  constructor
  · split <;> split <;> omega
  · split <;> split <;> omega
theorem opr_un {m : Int} (h0 : 0 ≤ m) : (unE (opr2 m) 64 = 0 ↔ unE (oprI m) 64 = 0) ∧ (unE (oprI m) 64 = 0 → opr2 m = oprI m) := by
  have hw : fitW 64 := by unfold fitW; omega
  have k : ∀ o, unE o 64 = 0 ↔ o = 15 ∨ o = 16 := fun o => by unfold unE; rw [if_pos hw]; split <;> omega
  rw [k, k]; unfold opr2 oprI
  constructor
  · split <;> split <;> omega
  · split <;> split <;> omega
end Go.Ab.Try
