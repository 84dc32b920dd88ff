/- The example's places, blocks and rounds. -/
import Derived.Test.YtlgfbiepbneihaaRD
namespace Go.Ab.Try
open Go.Proofs Go.Ab
set_option linter.unusedVariables false
set_option linter.unusedSimpArgs false
set_option linter.unnecessarySimpa false
def exF : List Ins := [(1, 0, 0, 0, 0), (5, 0, 0, 0, 3), (12, 0, 0, 0, 0), (6, 0, 0, 0, 0)]
def exG : List Ins := [(1, 0, 0, 0, 0)]
theorem w_exF : OkC exF := by intro i h; simp [exF] at h; rcases h with rfl | rfl | rfl | rfl <;> (unfold W64; decide)
theorem w_exG : OkC exG := by intro i h; simp [exG] at h; subst h; unfold W64; decide
theorem w_ex0 : OkC [] := by intro i h; cases h
theorem nx0 : nextS exF 0 = [1] := by decide +kernel
theorem nx1 : nextS exF 1 = [3] := by decide +kernel
theorem nx3 : nextS exF 3 = [0, 4] := by decide +kernel
theorem nx4 : nextS exF 4 = [] := by decide +kernel
theorem ng0 : nextS exG 0 = [1] := by decide +kernel
theorem blk_exF : blkS exF = [(0, 2), (2, 3), (3, 4)] := by decide +kernel
theorem rch0 : Rch exF zeS 0 := .here rfl
theorem rch1 : Rch exF zeS 1 := .go rch0 (by rw [nx0]; simp)
theorem rch3 : Rch exF zeS 3 := .go rch1 (by rw [nx1]; simp)
theorem rch4 : Rch exF zeS 4 := .go rch3 (by rw [nx3]; simp)
theorem rch2 : ¬ Rch exF zeS 2 := fun h => h.least (T := fun a => a ≠ 2) (fun a ha => by unfold zeS at ha; omega) (fun a ha b hb => by
  by_cases hr : 0 ≤ a ∧ a < exF.length
  · have hl : exF.length = 4 := rfl
    have : a = 0 ∨ a = 1 ∨ a = 2 ∨ a = 3 := by omega
    rcases this with rfl | rfl | rfl | rfl
    · rw [nx0] at hb; simp at hb; omega
    · rw [nx1] at hb; simp at hb; omega
    · exact absurd rfl ha
    · rw [nx3] at hb; simp at hb; omega
  · rw [next_out hr] at hb; cases hb) rfl
theorem reach_exF : reachL exF zeS = [true, true, false, true, true] := by
  have h0 : rB exF zeS 0 = true := rB_iff.2 rch0
  have h1 : rB exF zeS 1 = true := rB_iff.2 rch1
  have h3 : rB exF zeS 3 = true := rB_iff.2 rch3
  have h4 : rB exF zeS 4 = true := rB_iff.2 rch4
  have h2 : rB exF zeS 2 = false := by rw [← Bool.not_eq_true, rB_iff]; exact rch2
  show [rB exF zeS 0, rB exF zeS 1, rB exF zeS 2, rB exF zeS 3, rB exF zeS 4] = _
  rw [h0, h1, h2, h3, h4]
theorem loop_exF : loopB exF = true := by
  have h1 : Rch exF (neS exF 0) 1 := .here (by unfold neS; rw [nx0]; simp)
  have h3 : Rch exF (neS exF 0) 3 := .go h1 (by rw [nx1]; simp)
  exact loopB_yes rch0 (.go h3 (by rw [nx3]; simp))
theorem loop_exG : loopB exG = false := loopB_no fun a _ h => by
  have hl : exG.length = 1 := rfl
  have key : ∀ b, b ∈ nextS exG a → b = 1 ∧ a = 0 := fun b hb => by
    by_cases hr : 0 ≤ a ∧ a < exG.length
    · have : a = 0 := by omega
      subst this; rw [ng0] at hb; simp at hb; exact ⟨hb, rfl⟩
    · rw [next_out hr] at hb; cases hb
  have : a = 1 ∧ a = 0 := h.least (T := fun b => b = 1 ∧ a = 0) (fun b hb => key b hb) fun b hb c hc => by
    rw [hb.1, next_out (by omega)] at hc; cases hc
  omega
theorem reach_at2 {code : List Ins} {S : Int → Prop} {a : Int} (h : 0 ≤ a ∧ a ≤ code.length) : ((reachL code S).map boR)[a.toNat]? = some [.bool (rB code S a)] := by
  have := bo_at (l := reachL code S) (j := a) ⟨h.1, by rw [reachL_len]; omega⟩
  rw [this, reachL_at (by omega), show ((a.toNat : Nat) : Int) = a by omega]
/-- Where the i-th block begins. -/
def atB (L : List (Int × Int)) (i : Nat) : Int := if i = 0 then 0 else (L.getD (i - 1) (0, 0)).2
theorem blk_few (code : List Ins) : ((blkS code).length : Int) ≤ code.length := by have := (blk_chn code).few; omega
theorem blk_at {code : List Ins} {i : Int} (h0 : 0 ≤ i) (h1 : i < (blkS code).length) : ((blkS code).getD i.toNat (0, 0)).1 = atB (blkS code) i.toNat ∧ ((blkS code).getD i.toNat (0, 0)).1 < ((blkS code).getD i.toNat (0, 0)).2 ∧ ((blkS code).getD i.toNat (0, 0)).2 ≤ code.length := by
  obtain ⟨g1, g2, g3, _, _⟩ := (blk_chn code).at i.toNat (by omega)
  exact ⟨g1, g2, g3⟩
theorem atB_next (L : List (Int × Int)) {i : Int} (h : 0 ≤ i) : atB L (i + 1).toNat = (L.getD i.toNat (0, 0)).2 := by
  unfold atB; rw [if_neg (by omega), show (i + 1).toNat - 1 = i.toNat by omega]
theorem atB_end (code : List Ins) : atB (blkS code) (blkS code).length = code.length := (blk_chn code).last
theorem into' {code : List Ins} (hc : OkC code) (hL : code.length ≤ 100) {pc x i : Int} (h : x ∈ nextS code pc) (h0 : 0 ≤ i) (hi : i < (blkS code).length) (h1 : ((blkS code).getD i.toNat (0, 0)).1 < x) (h2 : x < ((blkS code).getD i.toNat (0, 0)).2) : x = pc + 1 := into hc hL h (by omega) h1 h2
end Go.Ab.Try
