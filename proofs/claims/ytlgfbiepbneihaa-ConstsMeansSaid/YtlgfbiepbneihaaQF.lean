/- Facts of each place: the example; a run. -/
import Derived.Test.YtlgfbiepbneihaaQE
import Derived.Test.YtlgfbiepbneihaaVC
namespace Go.Ab.Try
open Go.Proofs Go.Ab
set_option linter.unusedVariables false
set_option linter.unusedSimpArgs false
set_option linter.unnecessarySimpa false
def exK : List Ins := [(1, 1, 0, 0, 5), (2, 2, 1, 0, 0), (9, 1, 0, 0, 0), (6, 1, 0, 0, 0)]
def knE : List Fa := [⟨true, ⟨true, false, false, true, true, true, true, true⟩, ⟨0, 0, 0, 0, 0, 0, 0, 0⟩⟩, ⟨true, ⟨true, true, false, true, true, true, true, true⟩, ⟨0, 5, 0, 0, 0, 0, 0, 0⟩⟩, ⟨true, topB, ⟨0, 5, 5, 0, 0, 0, 0, 0⟩⟩,
  ⟨true, ⟨true, false, true, true, true, true, true, true⟩, ⟨0, 0, 5, 0, 0, 0, 0, 0⟩⟩, ⟨true, ⟨true, false, true, true, true, true, true, true⟩, ⟨0, 0, 5, 0, 0, 0, 0, 0⟩⟩]
theorem w_exK : OkC exK := by intro i h; simp [exK] at h; rcases h with rfl | rfl | rfl | rfl <;> (unfold W64; decide)
theorem known_exK : knownS exK = knE := by
  have e : knE = updK exK (updK exK (updK exK (updK exK (updK exK (updK exK (begK exK) 0 1) 1 2) 2 3) 3 4) 3 0) 0 1 := by decide +kernel
  have hN : exK.length < 65536 := by decide
  have hl : LowK exK knE := by
    rw [e]
    refine low_upd (low_upd (low_upd (low_upd (low_upd (low_upd (low_beg exK) ?_ w_exK hN ?_) ?_ w_exK hN ?_) ?_ w_exK hN ?_) ?_ w_exK hN ?_) ?_ w_exK hN ?_) ?_ w_exK hN ?_
    all_goals first | exact ⟨by decide, by decide⟩ | decide +kernel
  refine known_of hl ⟨rfl, ?_, fun pc hp => ?_⟩
  · have := le_join2 (a := knE.getD 0 botF) (b := begF)
    rwa [show joinF (knE.getD 0 botF) begF = knE.getD 0 botF by decide +kernel] at this
  · have hp4 : pc < 4 := hp
    have n0 : nextS exK 0 = [1] := by decide +kernel
    have n1 : nextS exK 1 = [2] := by decide +kernel
    have n2 : nextS exK 2 = [3] := by decide +kernel
    have n3 : nextS exK 3 = [0, 4] := by decide +kernel
    intro to ht
    have : pc = 0 ∨ pc = 1 ∨ pc = 2 ∨ pc = 3 := by omega
    rcases this with rfl | rfl | rfl | rfl
    · rw [show ((0 : Nat) : Int) = 0 from rfl, n0, List.mem_singleton] at ht; subst ht; exact le_of_join (by decide +kernel)
    · rw [show ((1 : Nat) : Int) = 1 from rfl, n1, List.mem_singleton] at ht; subst ht; exact le_of_join (by decide +kernel)
    · rw [show ((2 : Nat) : Int) = 2 from rfl, n2, List.mem_singleton] at ht; subst ht; exact le_of_join (by decide +kernel)
    · rw [show ((3 : Nat) : Int) = 3 from rfl, n3] at ht
      simp only [List.mem_cons, List.not_mem_nil, or_false] at ht
      rcases ht with rfl | rfl
      · exact le_of_join (by decide +kernel)
      · exact le_of_join (by decide +kernel)
def OnT (code : List Ins) (s : St) : Prop := s.en = 0 → 0 ≤ s.pc ∧ s.pc ≤ (code.length : Int) ∧ Snd ((knownS code).getD s.pc.toNat botF) s.r
theorem on_start {code : List Ins} (hc : OkC code) (hN : code.length < 65536) (D : List Int) (l : List Pn) (e n : Int) : OnT code (startS D l e n) := fun _ => by
  refine ⟨Int.le_refl 0, Int.natCast_nonneg _, snd_le (known_ex hc hN).2.beg ⟨rfl, fun j hj _ => ?_⟩⟩
  rcases hj.cases with rfl | rfl | rfl | rfl | rfl | rfl | rfl | rfl <;> rfl
theorem on_step {code : List Ins} {inp : List Int} {most : Int} {s : St} (hc : OkC code) (hL : code.length ≤ 100) (he : s.en = 0) (h : OnT code s) : OnT code (stepS code inp most s) := fun he2 => by
  have hN : code.length < 65536 := by omega
  obtain ⟨h0, h1, h2⟩ := h he
  obtain ⟨g', _, k⟩ := step_sim (inp := inp) (most := most) (g := s.r) hc hL he (fun _ _ _ => rfl)
  have hin := (k he2).1
  have hb := next_in hc hN hin
  have hp := next_pos hin
  have hm : mayS code s.pc := by
    unfold nextS at hin
    by_cases hm : mayS code s.pc
    · exact hm
    · rw [if_neg hm] at hin; simp at hin
  refine ⟨hb.1, hb.2, ?_⟩
  have hs := snd_step (inp := inp) (most := most) he hm h2
  have hcl0 := (known_ex hc hN).2.cl s.pc.toNat (by omega)
  rw [show ((s.pc.toNat : Nat) : Int) = s.pc by omega] at hcl0
  have hcl := hcl0 _ hin
  exact snd_le hcl hs
theorem known_len {code : List Ins} (hc : OkC code) (hN : code.length < 65536) : (knownS code).length = code.length + 1 := (known_ex hc hN).1.len
end Go.Ab.Try
