/- Registers that play a part: the least facts. -/
import Derived.Test.YtlgfbiepbneihaaVB
namespace Go.Ab.Try
open Go.Proofs Go.Ab
set_option linter.unusedVariables false
set_option linter.unusedSimpArgs false
set_option linter.unnecessarySimpa false
def R8.of {α : Type} (f : Int → α) : R8 α := ⟨f 0, f 1, f 2, f 3, f 4, f 5, f 6, f 7⟩
theorem R8.get_of {α : Type} (f : Int → α) {j : Int} (hj : InR8 j) : (R8.of f).get j = f j := by
  rcases hj.cases with rfl | rfl | rfl | rfl | rfl | rfl | rfl | rfl <;> rfl
abbrev B8 := R8 Bool
def bR (g : B8) : List PV := [.bool g.a, .bool g.b, .bool g.c, .bool g.d, .bool g.e, .bool g.f, .bool g.g, .bool g.h]
def noB : B8 := ⟨false, false, false, false, false, false, false, false⟩
theorem noB_get {j : Int} (hj : InR8 j) : noB.get j = false := by
  rcases hj.cases with rfl | rfl | rfl | rfl | rfl | rfl | rfl | rfl <;> rfl
def namS (op a b c : Int) : Prop := 1 ≤ op ∧ op ≤ 15 ∧ InR8 a ∧ InR8 b ∧ InR8 c
instance (op a b c : Int) : Decidable (namS op a b c) := by unfold namS; infer_instance
def usesS (op a b c : Int) : B8 :=
  if namS op a b c then
    if op = 2 ∨ op = 4 ∨ op = 7 ∨ op = 10 then noB.put b true
    else if op = 3 then (noB.put b true).put c true
    else if op = 6 ∨ op = 14 then noB.put a true
    else if op = 8 ∨ op = 11 then (noB.put a true).put b true
    else noB
  else noB
def setsS (op a b c : Int) : B8 :=
  if namS op a b c then
    if op = 1 ∨ op = 2 ∨ op = 3 ∨ op = 4 ∨ op = 7 ∨ op = 9 ∨ op = 10 then noB.put a true else noB
  else noB
/-- Where a run may go. -/
def nextI (op m pc : Int) : List Int :=
  if op = 5 then [m]
  else if op = 6 then (if pc + 1 = m then [pc + 1] else if pc + 1 < m then [pc + 1, m] else [m, pc + 1])
  else if op = 14 ∨ op = 15 then [] else [pc + 1]
def nextS (code : List Ins) (pc : Int) : List Int := if mayS code pc then nextI (code.getD pc.toNat i0).1 (code.getD pc.toNat i0).2.2.2.2 pc else []
theorem nextI_mem {op m pc x : Int} (h : x ∈ nextI op m pc) : (x = m ∧ (op = 5 ∨ op = 6)) ∨ x = pc + 1 := by
  unfold nextI at h
  split at h
  · rw [List.mem_singleton] at h; exact .inl ⟨h, .inl ‹_›⟩
  · split at h
    · rename_i h6
      split at h
      · rw [List.mem_singleton] at h; exact .inr h
      · split at h <;> (simp only [List.mem_cons, List.not_mem_nil, or_false] at h; rcases h with h | h <;> first | exact .inr h | exact .inl ⟨h, .inr h6⟩)
    · split at h
      · simp at h
      · rw [List.mem_singleton] at h; exact .inr h
theorem next_in {code : List Ins} (hc : OkC code) (hN : code.length < 65536) {pc x : Int} (h : x ∈ nextS code pc) : 0 ≤ x ∧ x ≤ code.length := by
  unfold nextS at h
  split at h
  · rename_i hm
    obtain ⟨h0, h1, h2⟩ := hm
    have hw := hc _ (getD_mem (d := i0) (show pc.toNat < code.length by omega))
    unfold W64 at hw
    rcases nextI_mem h with ⟨hx, ho⟩ | hx
    · have := chk_jump h2 ho (by omega) (by omega); omega
    · omega
  · simp at h
def oneS (code : List Ins) (all : List B8) (pc : Int) : B8 := R8.of fun r =>
  (usesS (code.getD pc.toNat i0).1 (code.getD pc.toNat i0).2.1 (code.getD pc.toNat i0).2.2.1 (code.getD pc.toNat i0).2.2.2.1).get r ||
    (nextS code pc).any fun to => (all.getD to.toNat noB).get r && !(setsS (code.getD pc.toNat i0).1 (code.getD pc.toNat i0).2.1 (code.getD pc.toNat i0).2.2.1 (code.getD pc.toNat i0).2.2.2.1).get r
def LeB (a b : B8) : Prop := ∀ r, InR8 r → a.get r = true → b.get r = true
theorem LeB.refl (a : B8) : LeB a a := fun _ _ h => h
theorem LeB.trans {a b c : B8} (h : LeB a b) (k : LeB b c) : LeB a c := fun r hr q => k r hr (h r hr q)
theorem LeB.anti {a b : B8} (h : LeB a b) (k : LeB b a) : a = b := R8.ext_get fun j hj => by
  cases e : a.get j
  · cases e' : b.get j
    · rfl
    · rw [k j hj e'] at e; exact absurd e (by decide)
  · rw [h j hj e]
theorem noB_le (a : B8) : LeB noB a := fun r hr h => by rw [noB_get hr] at h; exact absurd h (by decide)
theorem one_mono {code : List Ins} {a b : List B8} (h : ∀ k : Nat, LeB (a.getD k noB) (b.getD k noB)) (pc : Int) : LeB (oneS code a pc) (oneS code b pc) := by
  intro r hr q
  unfold oneS at q ⊢
  rw [R8.get_of _ hr] at q ⊢
  rw [Bool.or_eq_true] at q ⊢
  rcases q with q | q
  · exact .inl q
  · refine .inr ?_
    rw [List.any_eq_true] at q ⊢
    obtain ⟨to, h1, h2⟩ := q
    rw [Bool.and_eq_true] at h2
    exact ⟨to, h1, by rw [Bool.and_eq_true]; exact ⟨h _ r hr h2.1, h2.2⟩⟩
structure FixS (code : List Ins) (all : List B8) : Prop where
  len : all.length = code.length + 1
  eq : ∀ k : Nat, k < code.length → all.getD k noB = oneS code all k
  last : all.getD code.length noB = noB
structure LowS (code : List Ins) (all : List B8) : Prop where
  len : all.length = code.length + 1
  least : ∀ F, FixS code F → ∀ k : Nat, LeB (all.getD k noB) (F.getD k noB)
  up : ∀ k : Nat, k < code.length → LeB (all.getD k noB) (oneS code all k)
  last : all.getD code.length noB = noB
theorem getD_rep {α : Type} (d : α) (n k : Nat) : (List.replicate n d).getD k d = d := by
  rw [List.getD_eq_getElem?_getD]
  by_cases h : k < n
  · rw [List.getElem?_replicate, if_pos h]; rfl
  · rw [List.getElem?_eq_none (by simp; omega)]; rfl
theorem getD_set {α : Type} {l : List α} {k j : Nat} {d x : α} (h : k < l.length) : (l.set k x).getD j d = if k = j then x else l.getD j d := by
  rw [List.getD_eq_getElem?_getD, List.getD_eq_getElem?_getD, List.getElem?_set]
  split
  · rename_i e; subst e; simp [h]
  · rfl
theorem low_start (code : List Ins) : LowS code (List.replicate (code.length + 1) noB) :=
  ⟨by simp, fun F _ k => by rw [getD_rep]; exact noB_le _, fun k _ => by rw [getD_rep]; exact noB_le _, getD_rep _ _ _⟩
theorem low_set {code : List Ins} {all : List B8} (h : LowS code all) {k : Nat} (hk : k < code.length) : LowS code (all.set k (oneS code all k)) := by
  have hl := h.len
  have hle : ∀ j : Nat, LeB (all.getD j noB) ((all.set k (oneS code all k)).getD j noB) := fun j => by
    rw [getD_set (by omega)]; split
    · rename_i e; subst e; exact h.up k hk
    · exact LeB.refl _
  refine ⟨by rw [List.length_set]; exact hl, fun F hF j => ?_, fun j hj => ?_, ?_⟩
  · rw [getD_set (by omega)]; split
    · rename_i e; subst e; rw [hF.eq k hk]; exact one_mono (h.least F hF) _
    · exact h.least F hF j
  · rw [getD_set (by omega)]; split
    · rename_i e; subst e; exact one_mono hle _
    · exact (h.up j hj).trans (one_mono hle _)
  · rw [getD_set (by omega), if_neg (by omega)]; exact h.last
theorem low_fix {code : List Ins} {a b : List B8} (ha : LowS code a) (hb : LowS code b) (fa : FixS code a) (fb : FixS code b) : a = b := by
  have hl := ha.len
  have hl2 := hb.len
  exact list_ext (d := noB) (by omega) fun j hj => (ha.least b fb j).anti (hb.least a fa j)
def nb (b : Bool) : Nat := if b = true then 0 else 1
def falB (g : B8) : Nat := nb g.a + nb g.b + nb g.c + nb g.d + nb g.e + nb g.f + nb g.g + nb g.h
theorem nb_le {a b : Bool} (h : a = true → b = true) : nb b ≤ nb a := by cases a <;> cases b <;> simp_all [nb]
theorem nb_eq {a b : Bool} (h : nb a = nb b) : a = b := by cases a <;> cases b <;> simp_all [nb]
theorem LeB.fal {a b : B8} (h : LeB a b) : falB b ≤ falB a ∧ (falB a = falB b → a = b) := by
  have h0 := nb_le (h 0 (by decide)); have h1 := nb_le (h 1 (by decide)); have h2 := nb_le (h 2 (by decide)); have h3 := nb_le (h 3 (by decide))
  have h4 := nb_le (h 4 (by decide)); have h5 := nb_le (h 5 (by decide)); have h6 := nb_le (h 6 (by decide)); have h7 := nb_le (h 7 (by decide))
  cases a; cases b
  simp only [R8.get, sel8] at h0 h1 h2 h3 h4 h5 h6 h7
  simp only [Int.reduceEq, if_true, if_false] at h0 h1 h2 h3 h4 h5 h6 h7
  unfold falB
  dsimp only at *
  refine ⟨by omega, fun e => ?_⟩
  simp only [R8.mk.injEq]
  refine ⟨nb_eq ?_, nb_eq ?_, nb_eq ?_, nb_eq ?_, nb_eq ?_, nb_eq ?_, nb_eq ?_, nb_eq ?_⟩ <;> omega
def falS (l : List B8) : Nat := (l.map falB).sum
theorem fal_set {l : List B8} {k : Nat} {x : B8} (hk : k < l.length) : falS (l.set k x) + falB (l.getD k noB) = falS l + falB x := by
  induction l generalizing k with
  | nil => simp at hk
  | cons y l ih =>
    cases k with
    | zero => simp [falS]; omega
    | succ k =>
      have := ih (k := k) (by simpa using hk)
      simp only [falS, List.set_cons_succ, List.map_cons, List.sum_cons, List.getD_cons_succ] at this ⊢
      omega
theorem low_fal {code : List Ins} {all : List B8} (h : LowS code all) {k : Nat} (hk : k < code.length) :
    falS (all.set k (oneS code all k)) ≤ falS all ∧ (¬ all.getD k noB = oneS code all k → falS (all.set k (oneS code all k)) < falS all) := by
  have hl := h.len
  have e := fal_set (l := all) (k := k) (x := oneS code all k) (by omega)
  have f := (h.up k hk).fal
  refine ⟨by omega, fun hn => ?_⟩
  have : ¬ falB (all.getD k noB) = falB (oneS code all k) := fun q => hn (f.2 q)
  omega
end Go.Ab.Try
