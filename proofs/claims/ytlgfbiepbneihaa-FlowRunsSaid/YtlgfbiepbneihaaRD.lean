/- Where a code may go: rows of truths, step by step. -/
import Derived.Test.YtlgfbiepbneihaaRC
namespace Go.Ab.Try
open Go.Proofs Go.Ab
set_option linter.unusedVariables false
set_option linter.unusedSimpArgs false
set_option linter.unnecessarySimpa false
variable {code : List Ins}
theorem Rch.congr {S T : Int → Prop} (h : ∀ a, S a ↔ T a) {a : Int} : Rch code S a ↔ Rch code T a :=
  ⟨fun q => q.least (T := fun a => Rch code T a) (fun a ha => .here ((h a).1 ha)) fun a ha b hb => .go ha hb, fun q => q.least (T := fun a => Rch code S a) (fun a ha => .here ((h a).2 ha)) fun a ha b hb => .go ha hb⟩
theorem rB_congr {S T : Int → Prop} (h : ∀ a, S a ↔ T a) (a : Int) : rB code S a = rB code T a := by rw [Bool.eq_iff_iff, rB_iff, rB_iff]; exact Rch.congr h
theorem reachL_congr {S T : Int → Prop} (h : ∀ a, S a ↔ T a) : reachL code S = reachL code T := by
  unfold reachL; exact List.map_congr_left fun k _ => rB_congr h k
def zrow (n : Nat) : List Bool := (List.replicate (n + 1) false).set 0 true
theorem zrow_len (n : Nat) : (zrow n).length = n + 1 := by simp [zrow]
theorem zrow_S (n : Nat) (a : Int) : atS (zrow n) a ↔ zeS a := by
  unfold atS zeS zrow
  rw [getD_set (by simp)]
  constructor
  · rintro ⟨h1, h2⟩
    split at h2
    · omega
    · rw [List.getD_eq_getElem?_getD, List.getElem?_replicate] at h2; split at h2 <;> simp at h2
  · rintro rfl; simp
theorem zrow_rows (n : Nat) : (zrow n).map boR = (List.replicate (n + 1) [PV.bool false]).set 0 [PV.bool true] := by
  unfold zrow; rw [List.map_set, List.map_replicate]; rfl
theorem zrow_take (n : Nat) : List.take (n + 1) ((List.replicate (n + 1) [PV.bool false]).set 0 [PV.bool true]) = (zrow n).map boR := by
  rw [zrow_rows]; exact List.take_of_length_le (by simp)
theorem fal_rows (n : Nat) : List.replicate (n + 1) [PV.bool false] = (List.replicate (n + 1) false).map boR := by rw [List.map_replicate]; rfl
theorem fal_at (n k : Nat) : (List.replicate n false).getD k false = false := by
  rw [List.getD_eq_getElem?_getD, List.getElem?_replicate]; split <;> rfl
theorem bo_take {X : List Bool} {n : Nat} (h : X.length = n) : List.take n (X.map boR) = X.map boR := List.take_of_length_le (by simp [h])
theorem reach_at {S : Int → Prop} {a : Int} (h : 0 ≤ a ∧ a < code.length) : ((reachL code S).map boR)[a.toNat]? = some [.bool (rB code S a)] := by
  have := bo_at (l := reachL code S) (j := a) ⟨h.1, by rw [reachL_len]; omega⟩
  rw [this, reachL_at (by omega), show ((a.toNat : Nat) : Int) = a by omega]
/-- Rows that stand for the first of some places. -/
structure NeI (code : List Ins) (pc : Int) (X : List Bool) (k : Int) : Prop where
  len : X.length = code.length + 1
  v : ∀ j : Nat, X.getD j false = true ↔ (j : Int) ∈ (nextS code pc).take k.toNat
theorem NeI.start {pc : Int} : NeI code pc (List.replicate (code.length + 1) false) 0 := ⟨by simp, fun j => by rw [fal_at]; simp⟩
theorem NeI.next {pc : Int} {X : List Bool} {k : Int} (v : NeI code pc X k) (h0 : 0 ≤ k) (hk : k < (nextS code pc).length) (hto : 0 ≤ (nextS code pc).getD k.toNat 0 ∧ (nextS code pc).getD k.toNat 0 ≤ code.length) :
    NeI code pc (X.set ((nextS code pc).getD k.toNat 0).toNat true) (k + 1) := by
  have hl := v.len
  refine ⟨by simp [hl], fun j => ?_⟩
  have hk' : k.toNat < (nextS code pc).length := by omega
  rw [show (k + 1).toNat = k.toNat + 1 by omega, List.take_add_one, List.mem_append, getD_set (by omega), List.getElem?_eq_getElem hk', ← v.v j]
  have e : (nextS code pc).getD k.toNat 0 = (nextS code pc)[k.toNat] := by simp [List.getD_eq_getElem?_getD, hk']
  rw [e] at hto ⊢
  simp only [Option.toList_some, List.mem_singleton]
  constructor
  · intro h; split at h
    · rename_i q; right; omega
    · exact .inl h
  · rintro (h | h)
    · split
      · rfl
      · exact h
    · rw [if_pos (by omega)]
theorem NeI.S {pc : Int} {X : List Bool} {k : Int} (v : NeI code pc X k) (hc : OkC code) (hN : code.length < 65536) (hk : ¬ k < (nextS code pc).length) (a : Int) : atS X a ↔ neS code pc a := by
  unfold atS neS
  have h : (nextS code pc).take k.toNat = nextS code pc := List.take_of_length_le (by omega)
  rw [v.v, h]
  constructor
  · rintro ⟨h1, h2⟩; rwa [show ((a.toNat : Nat) : Int) = a by omega] at h2
  · intro h2; have := next_in hc hN h2; exact ⟨this.1, by rwa [show ((a.toNat : Nat) : Int) = a by omega]⟩
/-! ### Where blocks begin -/
structure FsI (code : List Ins) (X : List Bool) (pc : Int) : Prop where
  len : X.length = code.length + 1
  v : ∀ k : Nat, k ≤ code.length → X.getD k false = fsB code pc.toNat k
theorem FsI.start : FsI code (zrow code.length) 0 := ⟨zrow_len _, fun k hk => by
  show _ = decide ((k : Int) = 0)
  unfold zrow; rw [getD_set (by simp), fal_at]
  split
  · rename_i h; subst h; rfl
  · rename_i h; symm; simp; omega⟩
theorem FsI.next {X Y Z : List Bool} {pc : Int} (v : FsI code X pc) (hp : 0 ≤ pc ∧ pc < code.length) (hm : 0 ≤ imI code pc)
    (hY : Y = if tgt code pc (imI code pc) then X.set (imI code pc).toNat true else X) (hZ : Z = if endI (opI code pc) = true then Y.set (pc + 1).toNat true else Y) : FsI code Z (pc + 1) := by
  have hl := v.len
  have hYl : Y.length = code.length + 1 := by subst hY; split <;> simp [hl]
  refine ⟨by subst hZ; split <;> simp [hYl], fun k hk => ?_⟩
  rw [show (pc + 1).toNat = pc.toNat + 1 by omega, fsB, show ((pc.toNat : Nat) : Int) = pc by omega, ← v.v k hk]
  have e1 : Y.getD k false = (X.getD k false || decide (tgt code pc k)) := by
    subst hY
    split
    · rename_i h
      have hlt : imI code pc < code.length := h.2.1
      rw [getD_set (by omega)]
      split
      · rename_i q
        have : tgt code pc k := by rw [show (k : Int) = imI code pc by omega]; exact h
        simp [this]
      · rename_i q
        have : ¬ tgt code pc k := fun t => q (by have := t.2.2; omega)
        simp [this]
    · rename_i h
      have : ¬ tgt code pc k := fun t => h (by have := t.2.2; exact ⟨t.1, t.2.1, rfl⟩)
      simp [this]
  rw [← e1]
  subst hZ
  split
  · rename_i h
    rw [getD_set (by omega), h]
    split
    · rename_i q; have : (k : Int) = pc + 1 := by omega
      simp [this]
    · rename_i q; have : ¬ (k : Int) = pc + 1 := by omega
      simp [this]
  · rename_i h
    have : endI (opI code pc) = false := by simpa using h
    simp [this]
theorem Chn.few {F : Int → Bool} : ∀ {l : List (Int × Int)} {a b : Int}, Chn F a l b → (l.length : Int) ≤ b - a
  | [], a, b, h => by rw [Chn] at h; subst h; simp
  | x :: l, a, b, h => by rw [Chn] at h; have := h.2.2.2.2.few; have := h.1; have := h.2.1; simp only [List.length_cons]; omega
/-- Blocks from the first place on, found one after the other. -/
def BkI (F : Int → Bool) (n : Int) (L : List (Int × Int)) (pc : Int) : Prop := ∃ e, Chn F 0 L e ∧ pc ≤ e ∧ e ≤ n ∧ (∀ k, pc ≤ k → k < e → F k = false) ∧ (e < n → F e = true)
theorem BkI.start {F : Int → Bool} {n : Int} (hn : 0 ≤ n) (h : F 0 = true) : BkI F n [] 0 := ⟨0, rfl, by omega, hn, fun k k1 k2 => by omega, fun _ => h⟩
theorem BkI.no {F : Int → Bool} {n pc : Int} {L : List (Int × Int)} (v : BkI F n L pc) (hp : pc < n) (h : F pc = false) : BkI F n L (pc + 1) := by
  obtain ⟨e, h1, h2, h3, h4, h5⟩ := v
  have : pc ≠ e := fun q => by subst q; rw [h5 hp] at h; cases h
  exact ⟨e, h1, by omega, h3, fun k k1 k2 => h4 k (by omega) k2, h5⟩
theorem BkI.yes {F : Int → Bool} {n pc e : Int} {L : List (Int × Int)} (v : BkI F n L pc) (h : F pc = true) (h1 : pc + 1 ≤ e) (h2 : e ≤ n) (h3 : ∀ k, pc < k → k < e → F k = false) (h4 : ¬ e < n ∨ F e = true) : BkI F n (L ++ [(pc, e)]) (pc + 1) := by
  obtain ⟨e0, k1, k2, k3, k4, k5⟩ := v
  have : pc = e0 := by
    by_cases q : pc = e0
    · exact q
    · have := k4 pc (by omega) (by omega); rw [this] at h; cases h
  subst this
  exact ⟨e, k1.snoc (by omega) h h3, by omega, h2, fun k q1 q2 => h3 k (by omega) q2, fun q => h4.resolve_left (fun w => w q)⟩
theorem BkI.few {F : Int → Bool} {n pc : Int} {L : List (Int × Int)} (v : BkI F n L pc) : (L.length : Int) ≤ n := by
  obtain ⟨e, k1, k2, k3, k4, k5⟩ := v
  have := k1.few; omega
theorem BkI.done {L : List (Int × Int)} {pc : Int} (v : BkI (fsB code code.length) code.length L pc) (h : ¬ pc < code.length) : L = blkS code := by
  obtain ⟨e, k1, k2, k3, k4, k5⟩ := v
  have : e = code.length := by omega
  subst this
  exact k1.uniq (blk_chn code)
theorem fs_at {X : List Bool} (v : FsI code X (code.length : Int)) {k : Int} (h : 0 ≤ k ∧ k ≤ code.length) : X.getD k.toNat false = fsB code code.length k := by
  have := v.v k.toNat (by omega)
  rw [this, show ((k.toNat : Nat) : Int) = k by omega, Int.toNat_natCast]
/-! ### A table of what is met, as a set -/
structure KyI (code : List Ins) (ks : List Int) (pc : Int) : Prop where
  v : ∀ k : Int, k ∈ ks ↔ fsB code pc.toNat k = true
theorem KyI.start : KyI code (insK [] 0) 0 := ⟨fun k => by rw [mem_ins]; simp [fsB]⟩
theorem KyI.next {ks ks2 ks3 : List Int} {pc : Int} (v : KyI code ks pc) (hp : 0 ≤ pc) (h2 : ks2 = if tgt code pc (imI code pc) then insK ks (imI code pc) else ks) (h3 : ks3 = if endI (opI code pc) = true then insK ks2 (pc + 1) else ks2) : KyI code ks3 (pc + 1) := by
  refine ⟨fun k => ?_⟩
  rw [show (pc + 1).toNat = pc.toNat + 1 by omega, fsB, show ((pc.toNat : Nat) : Int) = pc by omega, Bool.or_eq_true, Bool.or_eq_true, ← v.v k, decide_eq_true_eq, Bool.and_eq_true, decide_eq_true_eq]
  have e2 : k ∈ ks2 ↔ k ∈ ks ∨ tgt code pc k := by
    subst h2; split
    · rename_i h; rw [mem_ins]
      exact or_congr Iff.rfl ⟨fun q => by subst q; exact h, fun q => q.2.2⟩
    · rename_i h
      exact ⟨.inl, fun q => q.elim id fun t => (h ⟨t.1, by have := t.2.2; have := t.2.1; omega, rfl⟩).elim⟩
  rw [← e2]
  subst h3; split
  · rename_i h; rw [mem_ins]; simp [h]
  · rename_i h; simp [h]
theorem KyI.few {ks : List Int} {pc : Int} (v : KyI code ks pc) (k : Int) : decide (k ∈ ks) = fsB code pc.toNat k := by
  rw [Bool.eq_iff_iff, decide_eq_true_eq]; exact v.v k
theorem code_m (hc : OkC code) {pc : Int} (hp : 0 ≤ pc ∧ pc < code.length) : W64 (code.getD pc.toNat i0).2.2.2.2 := hc _ (getD_mem (by omega))
theorem no_loop_end {a : Int} (h : ¬ a < code.length) : ¬ Rch code (neS code a) a := fun q =>
  q.least (T := fun _ => False) (fun b hb => by unfold neS at hb; rw [next_out (fun w => h w.2)] at hb; cases hb) fun _ h => h.elim
theorem insK_new {ks : List Int} {a : Int} (h : a ∉ ks) : insK ks a = ks ++ [a] := if_neg h
theorem snoc_of {W : List Int} (h : 0 < (W.length : Int)) : ∃ (V : List Int) (x : Int), W = V ++ [x] := by
  have hn : W ≠ [] := fun e => by subst e; simp at h
  exact ⟨W.dropLast, W.getLast hn, (List.dropLast_concat_getLast hn).symm⟩
theorem snoc_take (V : List Int) (x : Int) : (V ++ [x]).take ((V ++ [x]).length - 1) = V := by simp
theorem WInv.met' {S : Int → Prop} {V ks : List Int} {x : Int} (v : WInv code S (V ++ [x]) ks) (hx : x ∈ ks) : WInv code S V ks := by
  have := v.met (x := x) (by simp) hx; rwa [snoc_take] at this
theorem WInv.fresh' {S : Int → Prop} {V ks : List Int} {x : Int} (v : WInv code S (V ++ [x]) ks) (hx : x ∉ ks) : WInv code S (V ++ nextS code x) (ks ++ [x]) := by
  have := v.fresh (x := x) (by simp) hx; rwa [snoc_take] at this
theorem snoc_rows (V : List Int) (x : Int) : (V.map nR ++ [[PV.int .i64 x]])[V.length]? = some [.int .i64 x] := by simp
theorem snoc_cut (V : List Int) (x : Int) : List.take V.length (V.map nR ++ [[PV.int .i64 x]]) = V.map nR := by
  rw [List.take_left' (by simp)]
theorem walk_meas {S : Int → Prop} {V ks : List Int} {x : Int} (v : WInv code S (V ++ nextS code x) (ks ++ [x])) (hc : OkC code) (hN : code.length < 65536) (hS : ∀ a, S a → InC code a) :
    3 * (code.length + 2 - (ks ++ [x]).length) + (V ++ nextS code x).length < 3 * (code.length + 2 - ks.length) + (V ++ [x]).length := by
  have h1 := v.few hc hN hS
  have h2 := next_len code x
  simp only [List.length_append, List.length_cons, List.length_nil] at h1 ⊢
  omega
theorem fill_next {n : Nat} {X : List Bool} {ks : List Int} {i : Int} (h3 : X.length = n + 1) (h1 : 0 ≤ i) (h2 : i < (n + 1 : Nat)) (h4 : ∀ j : Nat, (j : Int) < i → X.getD j false = decide ((j : Int) ∈ ks)) (j : Nat) (hj : (j : Int) < i + 1) :
    (X.set i.toNat (decide (i ∈ ks))).getD j false = decide ((j : Int) ∈ ks) := by
  rw [getD_set (by omega)]
  split
  · rename_i e; rw [show (j : Int) = i by omega]
  · exact h4 j (by omega)
theorem fill_done {X : List Bool} {ks : List Int} {S : Int → Prop} (hX : X.length = code.length + 1) (h : ∀ j : Nat, j ≤ code.length → X.getD j false = decide ((j : Int) ∈ ks)) (hk : ∀ a : Int, a ∈ ks ↔ Rch code S a) : X = reachL code S := by
  refine list_ext (d := false) (by rw [hX, reachL_len]) fun j hj => ?_
  rw [h j (by omega), reachL_at (by omega)]
  rw [Bool.eq_iff_iff, decide_eq_true_eq, rB_iff]; exact hk _
theorem set_snoc {α : Type} (A : List α) (x y : α) {n : Nat} (h : A.length = n) : (A ++ [x]).set n y = A ++ [y] := by
  subst h; simp [List.set_append]
theorem row_snoc {α : Type} (A : List α) (x : α) {n : Nat} (h : A.length = n) : (A ++ [x])[n]? = some x := by subst h; simp
theorem bk_yes {F : Int → Bool} {p : Int} (hp : 0 ≤ p) (h : F p = true) : bkP F (p + 1).toNat = bkP F p.toNat ++ [(p, p + 1)] := by
  rw [show (p + 1).toNat = p.toNat + 1 by omega, bkP, show ((p.toNat : Nat) : Int) = p by omega, if_pos h, setL_snoc]
theorem bk_no {F : Int → Bool} {p a b : Int} {M : List (Int × Int)} (hp : 0 ≤ p) (h : F p = false) (hM : M ++ [(a, b)] = bkP F p.toNat) : M ++ [(a, p + 1)] = bkP F (p + 1).toNat := by
  rw [show (p + 1).toNat = p.toNat + 1 by omega, bkP, show ((p.toNat : Nat) : Int) = p by omega, h, ← hM]
  simp [setL, List.set_append]
theorem bk_last {F : Int → Bool} (h0 : F 0 = true) {p : Int} {L : List (Int × Int)} (hp : 0 ≤ p) (h : F p = false) (hL : L = bkP F p.toNat) : ∃ (M : List (Int × Int)) (a b : Int), L = M ++ [(a, b)] := by
  subst hL
  have hn : bkP F p.toNat ≠ [] := (bk_chn h0 p.toNat).2 (by
    rcases Nat.eq_zero_or_pos p.toNat with e | e
    · rw [show p = 0 by omega, h0] at h; cases h
    · exact e)
  exact ⟨(bkP F p.toNat).dropLast, ((bkP F p.toNat).getLast hn).1, ((bkP F p.toNat).getLast hn).2, (List.dropLast_concat_getLast hn).symm⟩
theorem bk_len {F : Int → Bool} (h0 : F 0 = true) {p : Int} {L : List (Int × Int)} (hp : 0 ≤ p) (hL : L = bkP F p.toNat) : (L.length : Int) ≤ p := by
  subst hL; have := (bk_chn h0 p.toNat).1.few; omega
theorem nodup_snoc {js : List Nat} {j : Nat} (h : js.Nodup) (hj : j ∉ js) : (js ++ [j]).Nodup := by
  rw [List.nodup_append]; exact ⟨h, by simp, fun a ha b hb e => by have := List.mem_singleton.1 hb; subst this; subst e; exact hj ha⟩
theorem lt_snoc {js : List Nat} {j : Nat} {ks : List Int} {a : Int} (h : ∀ j ∈ js, j < ks.length) (hj : ks[j]? = some a) : ∀ i ∈ js ++ [j], i < ks.length := fun i hi => by
  rcases List.mem_append.1 hi with q | q
  · exact h i q
  · have := List.mem_singleton.1 q; subst this; exact (List.getElem?_eq_some_iff.1 hj).1
theorem loop_meas {js : List Nat} {j : Nat} {ks : List Int} {a : Int} (h1 : js.Nodup) (h2 : ∀ j ∈ js, j < ks.length) (hj : j ∉ js) (ha : ks[j]? = some a) : (js ++ [j]).length ≤ ks.length := by
  have h := nodup_bound ks.length ((js ++ [j]).map fun k : Nat => (k : Int)) (List.Pairwise.map _ (fun a b q e => q (by omega)) (nodup_snoc h1 hj)) fun b hb => by
    obtain ⟨k, hk, rfl⟩ := List.mem_map.1 hb
    have := lt_snoc h2 ha k hk; omega
  simpa using h
end Go.Ab.Try
