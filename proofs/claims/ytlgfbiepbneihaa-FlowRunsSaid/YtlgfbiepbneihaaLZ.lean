/- A register that plays no part may be any word. -/
import Derived.Test.YtlgfbiepbneihaaLY
namespace Go.Ab.Try
open Go.Proofs Go.Ab
set_option linter.unusedVariables false
set_option linter.unusedSimpArgs false
set_option linter.unnecessarySimpa false
theorem live_ex2 (code : List Ins) : LowS code (liveS code) ∧ FixS code (liveS code) := by
  have h : ∀ n : Nat, ∀ all, LowS code all → falS all = n → ∃ all, LowS code all ∧ FixS code all := by
    intro n
    induction n using Nat.strongRecOn with
    | ind n ih =>
      intro all hl hn
      by_cases hf : ∀ j : Nat, j < code.length → all.getD j noB = oneS code all j
      · exact ⟨all, hl, low_fixed hl hf⟩
      · simp only [Classical.not_forall] at hf
        obtain ⟨j, hj, hne⟩ := hf
        exact ih _ (by rw [← hn]; exact (low_fal hl hj).2 hne) _ (low_set hl hj) rfl
  obtain ⟨all, h1, h2⟩ := h _ _ (low_start code) rfl
  rw [live_of h1 h2]; exact ⟨h1, h2⟩
def St.wr (s : St) (g : R8 Int) : St := { s with r := g }
/-- They agree on what plays a part. -/
def Agr (code : List Ins) (pc : Int) (f g : R8 Int) : Prop := ∀ r, InR8 r → ((liveS code).getD pc.toNat noB).get r = true → f.get r = g.get r
section
variable {code : List Ins} {pc : Int} {f g : R8 Int} {op a b c m : Int}
theorem live_pc (h0 : 0 ≤ pc) (h1 : pc < code.length) : (liveS code).getD pc.toNat noB = oneS code (liveS code) pc := by
  have := (live_ex2 code).2.eq pc.toNat (by omega)
  rwa [show ((pc.toNat : Nat) : Int) = pc by omega] at this
theorem used (h0 : 0 ≤ pc) (h1 : pc < code.length) (hI : code.getD pc.toNat i0 = (op, a, b, c, m)) (h : Agr code pc f g) {r : Int} (hr : InR8 r) (hu : (usesS op a b c).get r = true) : f.get r = g.get r := by
  refine h r hr ?_
  rw [live_pc h0 h1]; unfold oneS; rw [R8.get_of _ hr, hI, hu]; rfl
theorem carry (h0 : 0 ≤ pc) (h1 : pc < code.length) (hI : code.getD pc.toNat i0 = (op, a, b, c, m)) (h : Agr code pc f g) {r to : Int} (hr : InR8 r) (ht : to ∈ nextS code pc) (hl : ((liveS code).getD to.toNat noB).get r = true) (hs : (setsS op a b c).get r = false) : f.get r = g.get r := by
  refine h r hr ?_
  rw [live_pc h0 h1]; unfold oneS; rw [R8.get_of _ hr, hI, Bool.or_eq_true]
  refine .inr ?_
  rw [List.any_eq_true]
  exact ⟨to, ht, by rw [hl, hs]; rfl⟩
/-- Behind an instruction that sets a register alike. -/
theorem agr_put (h0 : 0 ≤ pc) (h1 : pc < code.length) (hI : code.getD pc.toNat i0 = (op, a, b, c, m)) (h : Agr code pc f g) (ha : InR8 a) {to x y : Int} (ht : to ∈ nextS code pc) (hs : setsS op a b c = noB.put a true) (hxy : x = y) : Agr code to (f.put a x) (g.put a y) := by
  intro r hr hl
  rw [f.get_put ha hr, g.get_put ha hr]
  split
  · exact hxy
  · rename_i e
    exact carry h0 h1 hI h hr ht hl (by rw [hs, noB.get_put ha hr, if_neg e, noB_get hr])
theorem agr_same (h0 : 0 ≤ pc) (h1 : pc < code.length) (hI : code.getD pc.toNat i0 = (op, a, b, c, m)) (h : Agr code pc f g) {to : Int} (ht : to ∈ nextS code pc) (hs : setsS op a b c = noB) : Agr code to f g := by
  intro r hr hl
  exact carry h0 h1 hI h hr ht hl (by rw [hs, noB_get hr])
end
section
variable {code : List Ins} {inp : List Int} {most fuel : Int}
/-- What is behind a step from states that agree. -/
def Aft (code : List Ins) (s s' t' : St) : Prop := ∃ g', t' = s'.wr g' ∧ (s'.en = 0 → s'.pc ∈ nextS code s.pc ∧ Agr code s'.pc s'.r g')
theorem sets_put {op a b c : Int} (hn : namS op a b c) (h : op = 1 ∨ op = 2 ∨ op = 3 ∨ op = 4 ∨ op = 7 ∨ op = 9 ∨ op = 10) : setsS op a b c = noB.put a true := by unfold setsS; rw [if_pos hn, if_pos h]
theorem sets_no {op a b c : Int} (h : ¬ (op = 1 ∨ op = 2 ∨ op = 3 ∨ op = 4 ∨ op = 7 ∨ op = 9 ∨ op = 10)) : setsS op a b c = noB := by
  unfold setsS; rw [if_neg h]; split <;> rfl
theorem uses_b {op a b c : Int} (hn : namS op a b c) (h : op = 2 ∨ op = 4 ∨ op = 7 ∨ op = 10) : (usesS op a b c).get b = true := by unfold usesS; rw [if_pos hn, if_pos h, noB.get_put hn.2.2.2.1 hn.2.2.2.1, if_pos rfl]
theorem uses_3 {a b c : Int} (hn : namS 3 a b c) : (usesS 3 a b c).get b = true ∧ (usesS 3 a b c).get c = true := by
  unfold usesS; rw [if_pos hn, if_neg (by decide), if_pos rfl]
  have hb := hn.2.2.2.1; have hc := hn.2.2.2.2
  rw [R8.get_put _ hc hb, R8.get_put _ hc hc, R8.get_put _ hb hb, if_pos rfl]
  exact ⟨by split <;> rfl, by rw [if_pos rfl]⟩
theorem uses_a {op a b c : Int} (hn : namS op a b c) (h : op = 6 ∨ op = 14) : (usesS op a b c).get a = true := by
  unfold usesS; rw [if_pos hn, if_neg (by omega), if_neg (by omega), if_pos h, noB.get_put hn.2.2.1 hn.2.2.1, if_pos rfl]
theorem uses_ab {op a b c : Int} (hn : namS op a b c) (h : op = 8 ∨ op = 11) : (usesS op a b c).get a = true ∧ (usesS op a b c).get b = true := by
  have ha := hn.2.2.1; have hb := hn.2.2.2.1
  unfold usesS; rw [if_pos hn, if_neg (by omega), if_neg (by omega), if_neg (by omega), if_pos h]
  rw [R8.get_put _ hb ha, R8.get_put _ hb hb, R8.get_put _ ha ha, if_pos rfl]
  exact ⟨by split <;> rfl, by rw [if_pos rfl]⟩
theorem step_sim {s : St} {g : R8 Int} (hc : OkC code) (hL : code.length ≤ 100) (he : s.en = 0) (h : Agr code s.pc s.r g) : Aft code s (stepS code inp most s) (stepS code inp most (s.wr g)) := by
  by_cases hm : mayS code s.pc
  · obtain ⟨h0, h1, h2⟩ := hm
    obtain ⟨⟨op, a, b, c, m⟩, hI⟩ : ∃ i, code.getD s.pc.toNat i0 = i := ⟨_, rfl⟩
    have hw : W64 m := by have := hc _ (getD_mem (d := i0) (show s.pc.toNat < code.length by omega)); rw [hI] at this; exact this
    have h2 : checkE op a b c m 0 code.length = 0 := by rw [hI] at h2; exact h2
    have hn : namS op a b c := chk_in h2
    have hN := next_is h0 h1 hI h2
    have hp : IntKind.i64.wrap (s.pc + 1) = s.pc + 1 := w64 (by omega) (by omega)
    have hu : ∀ r, InR8 r → (usesS op a b c).get r = true → s.r.get r = g.get r := fun r hr => used h0 h1 hI h hr
    rw [step_in he h0 h1 hI h2, step_in (s := s.wr g) he h0 h1 hI h2]
    have PUT : (op = 1 ∨ op = 2 ∨ op = 3 ∨ op = 4 ∨ op = 7 ∨ op = 9 ∨ op = 10) → ∀ x y, x = y → Aft code s ((s.tick.put a x).nx) (((s.wr g).tick.put a y).nx) := fun ho x y hxy => by
      refine ⟨g.put a y, rfl, fun _ => ?_⟩
      have hin : IntKind.i64.wrap (s.pc + 1) ∈ nextS code s.pc := by rw [hN, nextI_o (by omega) (by omega) (by omega) (by omega), hp]; simp
      exact ⟨hin, agr_put h0 h1 hI h hn.2.2.1 hin (sets_put hn ho) hxy⟩
    have TRAP : ∀ x y, x = y → Aft code s (s.tick.trap x) ((s.wr g).tick.trap y) := fun x y hxy => ⟨g, by rw [hxy]; rfl, fun e => absurd e (by show ¬ (2 : Int) = 0; decide)⟩
    have SAME : ∀ (s' : St), s'.r = s.r → s'.pc ∈ nextS code s.pc → ¬ (op = 1 ∨ op = 2 ∨ op = 3 ∨ op = 4 ∨ op = 7 ∨ op = 9 ∨ op = 10) → Aft code s s' (s'.wr g) := fun s' hr hin ho => ⟨g, rfl, fun _ => ⟨hin, by rw [hr]; exact agr_same h0 h1 hI h hin (sets_no ho)⟩⟩
    have h15 := hn.2.1
    rcases op_cases hn.1 hn.2.1 with rfl | rfl | rfl | rfl | rfl | rfl | rfl | rfl | rfl | rfl | rfl | rfl | rfl | rfl | rfl
    · rw [do_1 rfl, do_1 rfl]; exact PUT (by decide) _ _ rfl
    · rw [do_2 rfl, do_2 rfl]; exact PUT (by decide) _ _ (hu b hn.2.2.2.1 (uses_b hn (by decide)))
    · rw [do_3 rfl, do_3 rfl]; exact PUT (by decide) _ _ (by show binW _ 64 (s.r.get b) (s.r.get c) = binW _ 64 (g.get b) (g.get c); rw [hu b hn.2.2.2.1 (uses_3 hn).1, hu c hn.2.2.2.2 (uses_3 hn).2])
    · rw [do_4 rfl, do_4 rfl]; exact PUT (by decide) _ _ (by show unW _ 64 (s.r.get b) = unW _ 64 (g.get b); rw [hu b hn.2.2.2.1 (uses_b hn (by decide))])
    · rw [do_5 rfl, do_5 rfl]
      have := chk_jump h2 (.inl rfl) (by omega) (by omega)
      exact SAME { s.tick with pc := IntKind.i64.wrap m } rfl (by show IntKind.i64.wrap m ∈ _; rw [hN, nextI_5, w64 (by have := hw.1; omega) (by omega)]; simp) (by decide)
    · rw [do_6 rfl, do_6 rfl]
      have hj := chk_jump h2 (.inr rfl) (by omega) (by omega)
      have e : (s.wr g).tick.r.get a = s.tick.r.get a := (hu a hn.2.2.1 (uses_a hn (by decide))).symm
      have i1 : IntKind.i64.wrap (s.pc + 1) ∈ nextS code s.pc := by rw [hN, hp]; unfold nextI; rw [if_neg (by decide), if_pos rfl]; (repeat' split) <;> simp
      have i2 : IntKind.i64.wrap m ∈ nextS code s.pc := by rw [hN, w64 (by have := hw.1; omega) (by omega)]; unfold nextI; rw [if_neg (by decide), if_pos rfl]; (repeat' split) <;> simp_all
      rw [e]
      split
      · exact SAME s.tick.nx rfl i1 (by decide)
      · exact SAME { s.tick with pc := IntKind.i64.wrap m } rfl i2 (by decide)
    · rw [do_7 rfl, do_7 rfl]
      have e : (s.wr g).tick.r.get b = s.tick.r.get b := (hu b hn.2.2.2.1 (uses_b hn (by decide))).symm
      rw [e]
      show Aft code s (if (s.tick.C.length : Int) ≤ _ then _ else _) (if (s.tick.C.length : Int) ≤ _ then _ else _)
      split
      · exact TRAP _ _ rfl
      · exact PUT (by decide) _ _ rfl
    · rw [do_8 rfl, do_8 rfl]
      have e : (s.wr g).tick.r.get a = s.tick.r.get a := (hu a hn.2.2.1 (uses_ab hn (by decide)).1).symm
      have e2 : (s.wr g).tick.r.get b = s.tick.r.get b := (hu b hn.2.2.2.1 (uses_ab hn (by decide)).2).symm
      rw [e, e2]
      show Aft code s (if (s.tick.C.length : Int) ≤ _ then _ else _) (if (s.tick.C.length : Int) ≤ _ then _ else _)
      split
      · exact TRAP _ _ rfl
      · exact SAME ({ s.tick with C := s.tick.C.set (s.tick.r.get a).toNat (s.tick.r.get b) }.nx) rfl (by show IntKind.i64.wrap (s.pc + 1) ∈ _; rw [hN, nextI_o (by decide) (by decide) (by decide) (by decide), hp]; simp) (by decide)
    · rw [do_9 rfl, do_9 rfl]; exact PUT (by decide) _ _ rfl
    · rw [do_10 rfl, do_10 rfl]
      have e : (s.wr g).tick.r.get b = s.tick.r.get b := (hu b hn.2.2.2.1 (uses_b hn (by decide))).symm
      rw [e]
      show Aft code s (if (s.tick.D.length : Int) ≤ _ then _ else _) (if (s.tick.D.length : Int) ≤ _ then _ else _)
      split
      · exact TRAP _ _ rfl
      · exact PUT (by decide) _ _ rfl
    · rw [do_11 rfl, do_11 rfl]
      have e : (s.wr g).tick.r.get a = s.tick.r.get a := (hu a hn.2.2.1 (uses_ab hn (by decide)).1).symm
      have e2 : (s.wr g).tick.r.get b = s.tick.r.get b := (hu b hn.2.2.2.1 (uses_ab hn (by decide)).2).symm
      rw [e, e2]
      show Aft code s (if wrC s.tick.D s.tick.l _ _ = 0 then _ else _) (if wrC s.tick.D s.tick.l _ _ = 0 then _ else _)
      split
      · exact SAME ({ s.tick with l := wrL s.tick.D s.tick.l s.tick.e (s.tick.r.get a) (s.tick.r.get b) most }.nxc) rfl (by show IntKind.i64.wrap (s.pc + 1) ∈ _; rw [hN, nextI_o (by decide) (by decide) (by decide) (by decide), hp]; simp) (by decide)
      · exact TRAP _ _ rfl
    · rw [do_12 rfl, do_12 rfl]
      exact SAME ({ s.tick with D := putsD s.tick.D s.tick.l, l := [], e := 0 }.nxc) rfl (by show IntKind.i64.wrap (s.pc + 1) ∈ _; rw [hN, nextI_o (by decide) (by decide) (by decide) (by decide), hp]; simp) (by decide)
    · rw [do_13 rfl, do_13 rfl]
      exact SAME ({ s.tick with e := bumpE s.tick.l s.tick.e }.nxc) rfl (by show IntKind.i64.wrap (s.pc + 1) ∈ _; rw [hN, nextI_o (by decide) (by decide) (by decide) (by decide), hp]; simp) (by decide)
    · rw [do_14 rfl, do_14 rfl]
      have e : (s.wr g).tick.r.get a = s.tick.r.get a := (hu a hn.2.2.1 (uses_a hn (by decide))).symm
      exact ⟨g, by rw [e]; rfl, fun q => absurd q (by show ¬ (1 : Int) = 0; decide)⟩
    · rw [do_15 rfl, do_15 rfl]; exact TRAP _ _ rfl
  · have e1 : stepS code inp most s = s.tick.trap 256 := by unfold stepS; rw [if_pos he, if_neg hm]
    have e2 : stepS code inp most (s.wr g) = (s.wr g).tick.trap 256 := by unfold stepS; rw [if_pos (show (s.wr g).en = 0 from he), if_neg (show ¬ mayS code (s.wr g).pc from hm)]
    rw [e1, e2]
    exact ⟨g, rfl, fun q => absurd q (by show ¬ (2 : Int) = 0; decide)⟩
end
def chgV (k r x : Int) : PV := .agg [.int .u8 k, .int .u8 r, .int .u64 x]
def chA (k r x : Int) : List AV := [.pv (.int .u8 k), .pv (.int .u8 r), .pv (.int .u64 x)]
attribute [go_sem] chgV chA
end Go.Ab.Try
