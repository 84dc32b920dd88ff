/- Blocks of a code: rows of instructions, one behind the other. -/
import Derived.Test.YtlgfbiepbneihaaRA
import Derived.Test.YtlgfbiepbneihaaKE
namespace Go.Ab.Try
open Go.Proofs Go.Ab
set_option linter.unusedVariables false
set_option linter.unusedSimpArgs false
set_option linter.unnecessarySimpa false
def opI (code : List Ins) (p : Int) : Int := (code.getD p.toNat i0).1
def imI (code : List Ins) (p : Int) : Int := (code.getD p.toNat i0).2.2.2.2
def endI (op : Int) : Bool := decide (op = 5 ∨ op = 6 ∨ op = 14 ∨ op = 15)
def tgt (code : List Ins) (p k : Int) : Prop := (opI code p = 5 ∨ opI code p = 6) ∧ imI code p < code.length ∧ k = imI code p
instance (code : List Ins) (p k : Int) : Decidable (tgt code p k) := by unfold tgt; infer_instance
/-- Where blocks begin, by the instructions ahead of a place. -/
def fsB (code : List Ins) : Nat → Int → Bool
  | 0, k => decide (k = 0)
  | i + 1, k => fsB code i k || decide (tgt code i k) || (endI (opI code i) && decide (k = (i : Int) + 1))
theorem fsB_0 (code : List Ins) : ∀ i, fsB code i 0 = true
  | 0 => rfl
  | i + 1 => by rw [fsB, fsB_0 code i]; rfl
theorem fsB_up {code : List Ins} {i : Nat} {k : Int} (h : fsB code i k = true) : ∀ {j : Nat}, i ≤ j → fsB code j k = true := fun {j} hj => by
  induction j with
  | zero => rw [show i = 0 by omega] at h; exact h
  | succ j ih =>
    by_cases e : i = j + 1
    · rw [← e]; exact h
    · rw [fsB, ih (by omega)]; rfl
theorem fsB_tgt {code : List Ins} {p : Nat} {k : Int} (hp : p < code.length) (h : tgt code p k) : fsB code code.length k = true :=
  fsB_up (i := p + 1) (by rw [fsB]; simp [h]) hp
theorem mem_ins {ks : List Int} {a k : Int} : k ∈ insK ks a ↔ k ∈ ks ∨ k = a := by
  unfold insK; split
  · rename_i h
    exact ⟨.inl, fun q => q.elim id fun e => by subst e; exact h⟩
  · simp
def setL (l : List (Int × Int)) (x : Int) : List (Int × Int) := l.set (l.length - 1) ((l.getD (l.length - 1) (0, 0)).1, x)
def bkP (F : Int → Bool) : Nat → List (Int × Int)
  | 0 => []
  | i + 1 => setL (if F i then bkP F i ++ [((i : Int), (i : Int))] else bkP F i) (i + 1)
/-- From a place to a place, block by block. -/
def Chn (F : Int → Bool) : Int → List (Int × Int) → Int → Prop
  | a, [], b => a = b
  | a, x :: l, b => x.1 = a ∧ a < x.2 ∧ F a = true ∧ (∀ k, a < k → k < x.2 → F k = false) ∧ Chn F x.2 l b
theorem Chn.le {F : Int → Bool} : ∀ {l : List (Int × Int)} {a b : Int}, Chn F a l b → a ≤ b
  | [], a, b, h => by rw [Chn] at h; omega
  | x :: l, a, b, h => by rw [Chn] at h; have := h.2.2.2.2.le; omega
theorem Chn.snoc {F : Int → Bool} : ∀ {l : List (Int × Int)} {a b c : Int}, Chn F a l b → b < c → F b = true → (∀ k, b < k → k < c → F k = false) → Chn F a (l ++ [(b, c)]) c
  | [], a, b, c, h, h1, h2, h3 => by rw [Chn] at h; subst h; exact ⟨rfl, h1, h2, h3, rfl⟩
  | x :: l, a, b, c, h, h1, h2, h3 => by rw [Chn] at h; exact ⟨h.1, h.2.1, h.2.2.1, h.2.2.2.1, h.2.2.2.2.snoc h1 h2 h3⟩
theorem setL_cons {x y : Int × Int} {l : List (Int × Int)} {z : Int} : setL (x :: y :: l) z = x :: setL (y :: l) z := by
  simp [setL]
theorem Chn.more {F : Int → Bool} : ∀ {l : List (Int × Int)} {a b : Int}, l ≠ [] → Chn F a l b → F b = false → Chn F a (setL l (b + 1)) (b + 1)
  | [x], a, b, _, h, hF => by
    simp only [Chn] at h
    obtain ⟨h1, h2, h3, h4, h5⟩ := h
    subst h5
    refine ⟨h1, by simp [setL]; omega, h3, fun k k1 k2 => ?_, by simp [setL, Chn]⟩
    simp [setL] at k2
    by_cases e : k = x.2
    · rw [e]; exact hF
    · exact h4 k k1 (by omega)
  | x :: y :: l, a, b, _, h, hF => by
    rw [Chn] at h
    rw [setL_cons]
    exact ⟨h.1, h.2.1, h.2.2.1, h.2.2.2.1, h.2.2.2.2.more (by simp) hF⟩
theorem setL_snoc (l : List (Int × Int)) (a b : Int) : setL (l ++ [(a, a)]) b = l ++ [(a, b)] := by
  unfold setL
  simp [List.set_append]
theorem bk_chn {F : Int → Bool} (h0 : F 0 = true) : ∀ i : Nat, Chn F 0 (bkP F i) i ∧ (0 < i → bkP F i ≠ [])
  | 0 => ⟨rfl, fun h => by omega⟩
  | i + 1 => by
    obtain ⟨h1, h2⟩ := bk_chn h0 i
    rw [bkP]
    split
    · rename_i hF
      rw [setL_snoc]
      exact ⟨h1.snoc (by omega) hF (fun k k1 k2 => by omega), fun _ => by simp⟩
    · rename_i hF
      have hi : 0 < i := by
        rcases Nat.eq_zero_or_pos i with e | e
        · subst e; exact absurd h0 hF
        · exact e
      refine ⟨h1.more (h2 hi) (by simpa using hF), fun _ e => h2 hi ?_⟩
      have := congrArg List.length e
      simp [setL] at this
      exact this
theorem Chn.uniq {F : Int → Bool} : ∀ {l l' : List (Int × Int)} {a b : Int}, Chn F a l b → Chn F a l' b → l = l'
  | [], [], _, _, _, _ => rfl
  | [], x :: l', a, b, h, h' => by
    have h : a = b := h
    rw [Chn] at h'; have := h'.2.2.2.2.le; omega
  | x :: l, [], a, b, h, h' => by
    have h' : a = b := h'
    rw [Chn] at h; have := h.2.2.2.2.le; omega
  | x :: l, y :: l', a, b, h, h' => by
    have hh := h
    have hh' := h'
    rw [Chn] at h h'
    have l1 := h.2.2.2.2.le
    have l2 := h'.2.2.2.2.le
    have hx : ∀ {u v : Int × Int} {m m' : List (Int × Int)}, Chn F u.2 m b → u.2 < v.2 → v.2 ≤ b → a < u.2 → (∀ k, a < k → k < v.2 → F k = false) → False := fun {u v m m'} c1 c2 c3 c4 c5 => by
      cases m with
      | nil => rw [Chn] at c1; omega
      | cons w m => rw [Chn] at c1; have := c5 u.2 c4 c2; rw [c1.2.2.1] at this; cases this
    have e : x.2 = y.2 := by
      rcases Int.lt_trichotomy x.2 y.2 with g | g | g
      · exact (hx (m' := []) h.2.2.2.2 g l2 h.2.1 h'.2.2.2.1).elim
      · exact g
      · exact (hx (m' := []) h'.2.2.2.2 g l1 h'.2.1 h.2.2.2.1).elim
    have e1 : x = y := Prod.ext (h.1.trans h'.1.symm) e
    subst e1
    rw [h.2.2.2.2.uniq h'.2.2.2.2]
theorem Chn.at {F : Int → Bool} : ∀ {l : List (Int × Int)} {a b : Int}, Chn F a l b → ∀ i : Nat, i < l.length → (l.getD i (0, 0)).1 = (if i = 0 then a else (l.getD (i - 1) (0, 0)).2) ∧ (l.getD i (0, 0)).1 < (l.getD i (0, 0)).2 ∧ (l.getD i (0, 0)).2 ≤ b ∧ a ≤ (l.getD i (0, 0)).1 ∧
    (∀ k, (l.getD i (0, 0)).1 < k → k < (l.getD i (0, 0)).2 → F k = false)
  | [], _, _, _, i, hi => by simp at hi
  | x :: l, a, b, h, 0, _ => by rw [Chn] at h; have := h.2.2.2.2.le; exact ⟨h.1, by simp [h.1]; exact h.2.1, by simpa using this, by simp [h.1], by simp only [List.getD_cons_zero, h.1]; exact h.2.2.2.1⟩
  | x :: l, a, b, h, i + 1, hi => by
    rw [Chn] at h
    have := h.2.2.2.2.at i (by simpa using hi)
    obtain ⟨g1, g2, g3, g4, g5⟩ := this
    refine ⟨?_, by simpa using g2, by simpa using g3, by simp only [List.getD_cons_succ]; omega, by simpa using g5⟩
    cases i with
    | zero => simpa using g1
    | succ i => simpa using g1
theorem Chn.last {F : Int → Bool} : ∀ {l : List (Int × Int)} {a b : Int}, Chn F a l b → (if l.length = 0 then a else (l.getD (l.length - 1) (0, 0)).2) = b
  | [], _, _, h => h
  | x :: l, a, b, h => by
    rw [Chn] at h
    have := h.2.2.2.2.last
    cases l with
    | nil => simpa using this
    | cons y l => simpa using this
def blkS (code : List Ins) : List (Int × Int) := bkP (fsB code code.length) code.length
theorem blk_chn (code : List Ins) : Chn (fsB code code.length) 0 (blkS code) code.length := (bk_chn (fsB_0 code _) _).1
def prR (p : Int × Int) : List PV := [.int .i64 p.1, .int .i64 p.2]
theorem pr_at {l : List (Int × Int)} {j : Int} (h : 0 ≤ j ∧ j < l.length) : (l.map prR)[j.toNat]? = some [.int .i64 (l.getD j.toNat (0, 0)).1, .int .i64 (l.getD j.toNat (0, 0)).2] := by
  have : j.toNat < l.length := by omega
  simp [this, prR]
/-- A run that comes into a block other than at its first place comes from the place ahead. -/
theorem into {code : List Ins} (hc : OkC code) (hL : code.length ≤ 100) {pc x : Int} (h : x ∈ nextS code pc) {i : Nat} (hi : i < (blkS code).length) (h1 : ((blkS code).getD i (0, 0)).1 < x) (h2 : x < ((blkS code).getD i (0, 0)).2) : x = pc + 1 := by
  obtain ⟨g1, g2, g3, g4, g5⟩ := (blk_chn code).at i hi
  by_cases hm : mayS code pc
  · have h' := h
    unfold nextS at h; rw [if_pos hm] at h
    rcases nextI_mem h with ⟨e, ho⟩ | e
    · have := g5 x h1 h2
      have hp : pc.toNat < code.length := by have := hm.1; have := hm.2.1; omega
      have e' : x = imI code pc := e
      have hpc : ((pc.toNat : Nat) : Int) = pc := by have := hm.1; omega
      rw [fsB_tgt (p := pc.toNat) hp (by rw [hpc]; exact ⟨ho, by rw [← e']; omega, e'⟩)] at this
      cases this
    · exact e
  · rw [next_no hm] at h; cases h
end Go.Ab.Try
