/- Registers that play a part: round by round. -/
import Derived.Test.YtlgfbiepbneihaaLW
namespace Go.Ab.Try
open Go.Proofs Go.Ab
set_option linter.unusedVariables false
set_option linter.unusedSimpArgs false
set_option linter.unnecessarySimpa false
@[go_sem] theorem sel8_pbool (j : Int) (a b c d e f g h : Bool) : sel8 j (PV.bool a) (.bool b) (.bool c) (.bool d) (.bool e) (.bool f) (.bool g) (.bool h) = .bool (sel8 j a b c d e f g h) := by
  unfold sel8; repeat' split
  all_goals rfl
def bA (g : B8) : List AV := [.pv (.bool g.a), .pv (.bool g.b), .pv (.bool g.c), .pv (.bool g.d), .pv (.bool g.e), .pv (.bool g.f), .pv (.bool g.g), .pv (.bool g.h)]
def bZ : List AV := [.pv (.bool false), .pv (.bool false), .pv (.bool false), .pv (.bool false), .pv (.bool false), .pv (.bool false), .pv (.bool false), .pv (.bool false)]
attribute [go_sem] bA bZ
@[go_sem] theorem put_a {α : Type} (g : R8 α) (j : Int) (y : α) : (g.put j y).a = upd8 0 j g.a y := rfl
@[go_sem] theorem put_b {α : Type} (g : R8 α) (j : Int) (y : α) : (g.put j y).b = upd8 1 j g.b y := rfl
@[go_sem] theorem put_c {α : Type} (g : R8 α) (j : Int) (y : α) : (g.put j y).c = upd8 2 j g.c y := rfl
@[go_sem] theorem put_d {α : Type} (g : R8 α) (j : Int) (y : α) : (g.put j y).d = upd8 3 j g.d y := rfl
@[go_sem] theorem put_e {α : Type} (g : R8 α) (j : Int) (y : α) : (g.put j y).e = upd8 4 j g.e y := rfl
@[go_sem] theorem put_f {α : Type} (g : R8 α) (j : Int) (y : α) : (g.put j y).f = upd8 5 j g.f y := rfl
@[go_sem] theorem put_g {α : Type} (g : R8 α) (j : Int) (y : α) : (g.put j y).g = upd8 6 j g.g y := rfl
@[go_sem] theorem put_h {α : Type} (g : R8 α) (j : Int) (y : α) : (g.put j y).h = upd8 7 j g.h y := rfl
theorem next_len (code : List Ins) (pc : Int) : (nextS code pc).length ≤ 2 := by
  unfold nextS nextI
  repeat' split
  all_goals simp
def usesI (code : List Ins) (pc : Int) : B8 := usesS (code.getD pc.toNat i0).1 (code.getD pc.toNat i0).2.1 (code.getD pc.toNat i0).2.2.1 (code.getD pc.toNat i0).2.2.2.1
def setsI (code : List Ins) (pc : Int) : B8 := setsS (code.getD pc.toNat i0).1 (code.getD pc.toNat i0).2.1 (code.getD pc.toNat i0).2.2.1 (code.getD pc.toNat i0).2.2.2.1
def pOne (code : List Ins) (all : List B8) (pc : Int) (k : Nat) : B8 := R8.of fun r => (usesI code pc).get r || ((nextS code pc).take k).any fun to => (all.getD to.toNat noB).get r && !(setsI code pc).get r
section
variable {code : List Ins} {all : List B8} {pc : Int} {k : Nat} {o : B8} {r : Int}
theorem pOne_all : pOne code all pc (nextS code pc).length = oneS code all pc := by unfold pOne oneS; rw [List.take_length]; rfl
theorem pOne_0 : pOne code all pc 0 = usesI code pc := R8.ext_get fun j hj => by unfold pOne; rw [R8.get_of _ hj]; simp
theorem pOne_next (hk : k < (nextS code pc).length) (hr : InR8 r) : (pOne code all pc (k + 1)).get r = ((pOne code all pc k).get r || ((all.getD ((nextS code pc).getD k 0).toNat noB).get r && !(setsI code pc).get r)) := by
  unfold pOne
  have e1 : (nextS code pc).getD k 0 = (nextS code pc)[k] := by rw [List.getD_eq_getElem?_getD, List.getElem?_eq_getElem hk]; rfl
  have e2 : (nextS code pc).take (k + 1) = (nextS code pc).take k ++ [(nextS code pc)[k]] := by rw [List.take_add_one, List.getElem?_eq_getElem hk]; rfl
  rw [R8.get_of _ hr, R8.get_of _ hr, e1, e2, List.any_append]
  simp only [List.any_cons, List.any_nil, Bool.or_false, Bool.or_assoc]
def Inn (code : List Ins) (all : List B8) (pc : Int) (k : Nat) (o : B8) (r : Int) : Prop := ∀ j, InR8 j → o.get j = if j < r then (pOne code all pc (k + 1)).get j else (pOne code all pc k).get j
theorem inn_0 : Inn code all pc k (pOne code all pc k) 0 := fun j hj => by rw [if_neg (by have := hj.1; omega)]
theorem inn_8 (h : Inn code all pc k o r) (hr : 8 ≤ r) : o = pOne code all pc (k + 1) := R8.ext_get fun j hj => by rw [h j hj, if_pos (by have := hj.2; omega)]
theorem inn_put (h : Inn code all pc k o r) (hk : k < (nextS code pc).length) (hr : InR8 r) {v : Bool} (hv : v = (o.get r || ((all.getD ((nextS code pc).getD k 0).toNat noB).get r && !(setsI code pc).get r))) : Inn code all pc k (o.put r v) (r + 1) := fun j hj => by
  rw [o.get_put hr hj]
  split
  · rename_i e; subst e
    rw [if_pos (by omega), pOne_next hk hj, hv, h j hj, if_neg (by omega)]
  · rename_i e
    rw [h j hj]
    by_cases hl : j < r
    · rw [if_pos hl, if_pos (by omega)]
    · rw [if_neg hl, if_neg (by omega)]
theorem inn_t (h : Inn code all pc k o r) (hk : k < (nextS code pc).length) (hr : InR8 r) (hv : ((all.getD ((nextS code pc).getD k 0).toNat noB).get r && !(setsI code pc).get r) = true) : Inn code all pc k (o.put r true) (r + 1) :=
  inn_put h hk hr (by rw [hv]; simp)
theorem inn_f (h : Inn code all pc k o r) (hk : k < (nextS code pc).length) (hr : InR8 r) (hv : ((all.getD ((nextS code pc).getD k 0).toNat noB).get r && !(setsI code pc).get r) = false) : Inn code all pc k o (r + 1) := fun j hj => by
  rw [h j hj]
  by_cases hl : j < r
  · rw [if_pos hl, if_pos (by omega)]
  · rw [if_neg hl]
    by_cases e : j = r
    · subst e; rw [if_pos (by omega), pOne_next hk hj, hv]; simp
    · rw [if_neg (by omega)]
end
/-- What a code's registers play a part in: the least facts. -/
noncomputable def liveS (code : List Ins) : List B8 := open Classical in if h : ∃ all, LowS code all ∧ FixS code all then h.choose else []
theorem live_of {code : List Ins} {all : List B8} (h : LowS code all) (f : FixS code all) : liveS code = all := by
  have hx : ∃ all, LowS code all ∧ FixS code all := ⟨all, h, f⟩
  unfold liveS
  rw [dif_pos hx]
  exact low_fix hx.choose_spec.1 h hx.choose_spec.2 f
theorem low_fixed {code : List Ins} {all : List B8} (h : LowS code all) (f : ∀ j : Nat, j < code.length → all.getD j noB = oneS code all j) : FixS code all := ⟨h.len, f, h.last⟩
theorem set_b (all : List B8) (k : Nat) (g : B8) : (all.map bR).set k [.bool g.a, .bool g.b, .bool g.c, .bool g.d, .bool g.e, .bool g.f, .bool g.g, .bool g.h] = (all.set k g).map bR := by rw [List.map_set]; rfl
@[go_sem] def eqB (x y : B8) : Bool := x.a == y.a && (x.b == y.b && (x.c == y.c && (x.d == y.d && (x.e == y.e && (x.f == y.f && (x.g == y.g && x.h == y.h))))))
theorem eqB_iff {x y : B8} : eqB x y = true ↔ x = y := by
  cases x; cases y; simp [eqB, R8.mk.injEq]
theorem eqB_self (x : B8) : eqB x x = true := eqB_iff.2 rfl
theorem rep_b (n : Nat) : List.replicate n [PV.bool false, .bool false, .bool false, .bool false, .bool false, .bool false, .bool false, .bool false] = (List.replicate n noB).map bR := by
  rw [List.map_replicate]; rfl
section
variable {code : List Ins} {al al2 : List B8} {ag2 : Bool} {pc : Int}
theorem rnd_set (k1 : LowS code al2) (hp : 0 ≤ pc ∧ pc < (code.length : Int)) (k4 : ag2 = false → al2 = al) (k5 : ag2 = true → falS al2 < falS al) (hne : ¬ al2.getD pc.toNat noB = oneS code al2 pc) :
    LowS code (al2.set pc.toNat (oneS code al2 pc)) ∧ falS (al2.set pc.toNat (oneS code al2 pc)) < falS al := by
  have e1 : ((pc.toNat : Nat) : Int) = pc := by omega
  have hl := low_set k1 (k := pc.toNat) (by omega)
  have hf := (low_fal k1 (k := pc.toNat) (by omega)).2 (by rw [e1]; exact hne)
  rw [e1] at hl hf
  refine ⟨hl, ?_⟩
  cases hg : ag2
  · have := k4 hg; subst this; exact hf
  · have := k5 hg; omega
theorem rnd_up (k4 : ag2 = false → al2 = al ∧ ∀ j : Nat, (j : Int) < pc → al.getD j noB = oneS code al j) (h0 : 0 ≤ pc) (he : al2.getD pc.toNat noB = oneS code al2 pc) : ag2 = false → al2 = al ∧ ∀ j : Nat, (j : Int) < pc + 1 → al.getD j noB = oneS code al j := fun hg => by
  obtain ⟨q1, q2⟩ := k4 hg
  subst q1
  refine ⟨rfl, fun j hj => ?_⟩
  by_cases e : (j : Int) < pc
  · exact q2 j e
  · have ej : j = pc.toNat := by omega
    have e1 : ((pc.toNat : Nat) : Int) = pc := by omega
    subst ej; rw [e1]; exact he
theorem rnd_dn (k4 : ag2 = false → al2 = al ∧ ∀ j : Nat, pc < (j : Int) → j < code.length → al.getD j noB = oneS code al j) (h0 : 0 ≤ pc) (he : al2.getD pc.toNat noB = oneS code al2 pc) : ag2 = false → al2 = al ∧ ∀ j : Nat, pc - 1 < (j : Int) → j < code.length → al.getD j noB = oneS code al j := fun hg => by
  obtain ⟨q1, q2⟩ := k4 hg
  subst q1
  refine ⟨rfl, fun j hj hl => ?_⟩
  by_cases e : pc < (j : Int)
  · exact q2 j e hl
  · have ej : j = pc.toNat := by omega
    have e1 : ((pc.toNat : Nat) : Int) = pc := by omega
    subst ej; rw [e1]; exact he
theorem rnd_x (k1 : LowS code al2) (hp : 0 ≤ pc ∧ pc < (code.length : Int)) (k4 : ag2 = false → al2 = al ∧ ∀ j : Nat, pc < (j : Int) → j < code.length → al.getD j noB = oneS code al j) (k5 : ag2 = true → falS al2 < falS al) :
    LowS code (al2.set pc.toNat (oneS code al2 pc)) ∧ -1 ≤ pc - 1 ∧ pc - 1 < (code.length : Int) ∧
      ((ag2 || !eqB (oneS code al2 pc) (al2.getD pc.toNat noB)) = false → al2.set pc.toNat (oneS code al2 pc) = al ∧ ∀ j : Nat, pc - 1 < (j : Int) → j < code.length → al.getD j noB = oneS code al j) ∧
      ((ag2 || !eqB (oneS code al2 pc) (al2.getD pc.toNat noB)) = true → falS (al2.set pc.toNat (oneS code al2 pc)) < falS al) := by
  have hl := k1.len
  by_cases he : oneS code al2 pc = al2.getD pc.toNat noB
  · have hs : al2.set pc.toNat (oneS code al2 pc) = al2 := by rw [he]; exact set_same (by omega)
    rw [hs, eqB_iff.2 he]
    simp only [Bool.not_true, Bool.or_false]
    exact ⟨k1, by omega, by omega, rnd_dn k4 hp.1 he.symm, k5⟩
  · obtain ⟨q1, q2⟩ := rnd_set k1 hp (fun h => (k4 h).1) k5 (fun e => he e.symm)
    have hb : eqB (oneS code al2 pc) (al2.getD pc.toNat noB) = false := by cases hq : eqB (oneS code al2 pc) (al2.getD pc.toNat noB) with | false => rfl | true => exact absurd (eqB_iff.1 hq) he
    rw [hb]
    simp only [Bool.not_false, Bool.or_true]
    exact ⟨q1, by omega, by omega, fun h => (by cases h), fun _ => q2⟩
theorem rnd_meas {ag : Bool} (k4 : ag2 = false → al2 = al) (k5 : ag2 = true → falS al2 < falS al) (h : ag = true) : 2 * falS al2 + (if ag2 = true then 1 else 0) < 2 * falS al + (if ag = true then 1 else 0) := by
  rw [if_pos h]
  cases hg : ag2
  · rw [k4 hg, if_neg (by simp)]; omega
  · have := k5 hg; rw [if_pos rfl]; omega
end
def sweepS (code : List Ins) (all : List B8) (n : Nat) : List B8 := (List.range n).foldl (fun all k => all.set k (oneS code all k)) all
theorem low_sweep {code : List Ins} {all : List B8} (h : LowS code all) {n : Nat} (hn : n ≤ code.length) : LowS code (sweepS code all n) := by
  unfold sweepS
  induction n with
  | zero => exact h
  | succ n ih =>
    rw [List.range_succ, List.foldl_append]
    exact low_set (ih (by omega)) (by omega)
end Go.Ab.Try
