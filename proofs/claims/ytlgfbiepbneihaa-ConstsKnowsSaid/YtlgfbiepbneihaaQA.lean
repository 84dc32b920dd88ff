/- Registers that are known: facts, their order, their least rows. -/
import Derived.Test.YtlgfbiepbneihaaLZ
namespace Go.Ab.Try
open Go.Proofs Go.Ab
set_option linter.unusedVariables false
set_option linter.unusedSimpArgs false
set_option linter.unnecessarySimpa false
structure Fa where
  met : Bool
  is : B8
  val : R8 Int
deriving DecidableEq
def botF : Fa := ⟨false, noB, ⟨0, 0, 0, 0, 0, 0, 0, 0⟩⟩
def topB : B8 := ⟨true, true, true, true, true, true, true, true⟩
def begF : Fa := ⟨true, topB, ⟨0, 0, 0, 0, 0, 0, 0, 0⟩⟩
def fR (f : Fa) : List PV := [.bool f.met, .bool f.is.a, .bool f.is.b, .bool f.is.c, .bool f.is.d, .bool f.is.e, .bool f.is.f, .bool f.is.g, .bool f.is.h, .int .u64 f.val.a, .int .u64 f.val.b, .int .u64 f.val.c, .int .u64 f.val.d, .int .u64 f.val.e, .int .u64 f.val.f, .int .u64 f.val.g, .int .u64 f.val.h]
def fA (f : Fa) : List AV := [.pv (.bool f.met), .pv (.bool f.is.a), .pv (.bool f.is.b), .pv (.bool f.is.c), .pv (.bool f.is.d), .pv (.bool f.is.e), .pv (.bool f.is.f), .pv (.bool f.is.g), .pv (.bool f.is.h), .pv (.int .u64 f.val.a), .pv (.int .u64 f.val.b), .pv (.int .u64 f.val.c), .pv (.int .u64 f.val.d), .pv (.int .u64 f.val.e), .pv (.int .u64 f.val.f), .pv (.int .u64 f.val.g), .pv (.int .u64 f.val.h)]
theorem f_at {l : List Fa} {j : Int} (h : 0 ≤ j ∧ j < l.length) : (l.map fR)[j.toNat]? = some (fR (l.getD j.toNat botF)) := by
  have : j.toNat < l.length := by omega
  simp [this]
def setF (f : Fa) (r : Int) (b : Bool) (x : Int) : Fa := { f with is := f.is.put r b, val := f.val.put r (if b = true then x else 0) }
def oprI (m : Int) : Int := if 16 < m then 0 else m
def stepG (op a b c m : Int) (f : Fa) : Fa :=
  if op = 1 then setF f a true m
  else if op = 2 then setF f a (f.is.get b) (f.val.get b)
  else if op = 3 then setF f a (decide (binE (oprI m) 64 = 0) && f.is.get b && f.is.get c) (binW (oprI m) 64 (f.val.get b) (f.val.get c))
  else if op = 4 then setF f a (decide (unE (oprI m) 64 = 0) && f.is.get b) (unW (oprI m) 64 (f.val.get b))
  else if op = 7 ∨ op = 10 ∨ op = 9 then setF f a false 0
  else f
def stepF (op a b c m : Int) (f : Fa) : Fa := if f.met = true ∧ namS op a b c then stepG op a b c m f else f
def sameR (a b : Fa) (r : Int) : Bool := a.is.get r && b.is.get r && decide (a.val.get r = b.val.get r)
def joinF (a b : Fa) : Fa := if a.met = false then b else if b.met = false then a else ⟨a.met, R8.of fun r => sameR a b r, R8.of fun r => if sameR a b r = true then a.val.get r else 0⟩
theorem Fa.ext2 {f g : Fa} (h1 : f.met = g.met) (h2 : ∀ r, InR8 r → f.is.get r = g.is.get r) (h3 : ∀ r, InR8 r → f.val.get r = g.val.get r) : f = g := by
  obtain ⟨a, b, c⟩ := f
  obtain ⟨a', b', c'⟩ := g
  have e2 : b = b' := R8.ext_get h2
  have e3 : c = c' := R8.ext_get h3
  subst e2; subst e3; cases h1; rfl
/-- Facts in their one form. -/
structure NF (f : Fa) : Prop where
  u : f.met = false → f = botF
  z : ∀ r, InR8 r → f.is.get r = false → f.val.get r = 0
def LeF (f g : Fa) : Prop := f.met = true → g.met = true ∧ ∀ r, InR8 r → g.is.get r = true → f.is.get r = true ∧ f.val.get r = g.val.get r
theorem LeF.refl (f : Fa) : LeF f f := fun h => ⟨h, fun r _ q => ⟨q, rfl⟩⟩
theorem LeF.trans {f g h : Fa} (k : LeF f g) (l : LeF g h) : LeF f h := fun hf => ⟨(l (k hf).1).1, fun r hr q => by
  have q1 := (l (k hf).1).2 r hr q
  have q2 := (k hf).2 r hr q1.1
  exact ⟨q2.1, q2.2.trans q1.2⟩⟩
theorem bot_le (f : Fa) : LeF botF f := fun h => by cases h
theorem bot_nf : NF botF := ⟨fun _ => rfl, fun r hr _ => by rcases hr.cases with rfl | rfl | rfl | rfl | rfl | rfl | rfl | rfl <;> rfl⟩
theorem beg_nf : NF begF := ⟨fun h => (by cases h), fun r hr _ => by rcases hr.cases with rfl | rfl | rfl | rfl | rfl | rfl | rfl | rfl <;> rfl⟩
theorem LeF.anti {f g : Fa} (nf : NF f) (ng : NF g) (h : LeF f g) (k : LeF g f) : f = g := by
  cases hf : f.met
  · cases hg : g.met
    · rw [nf.u hf, ng.u hg]
    · rw [(k hg).1] at hf; cases hf
  · have hg := (h hf).1
    refine Fa.ext2 (hf.trans hg.symm) (fun r hr => ?_) (fun r hr => ?_)
    · cases e : f.is.get r
      · cases e' : g.is.get r
        · rfl
        · rw [((h hf).2 r hr e').1] at e; cases e
      · exact (((k hg).2 r hr e).1).symm
    · cases e : g.is.get r
      · have e2 : f.is.get r = false := by cases e3 : f.is.get r with | false => rfl | true => rw [((k hg).2 r hr e3).1] at e; cases e
        rw [nf.z r hr e2, ng.z r hr e]
      · exact ((h hf).2 r hr e).2
def rankF (f : Fa) : Nat := if f.met = true then 8 - falB f.is else 9
theorem fal_le (g : B8) : falB g ≤ 8 := by
  have h : ∀ b : Bool, nb b ≤ 1 := fun b => by cases b <;> simp [nb]
  unfold falB
  have := h g.a; have := h g.b; have := h g.c; have := h g.d; have := h g.e; have := h g.f; have := h g.g; have := h g.h
  omega
theorem LeF.rank {f g : Fa} (nf : NF f) (ng : NF g) (h : LeF f g) : rankF g ≤ rankF f ∧ (¬ f = g → rankF g < rankF f) := by
  unfold rankF
  cases hf : f.met
  · have hb := nf.u hf
    cases hg : g.met
    · have hb2 := ng.u hg
      exact ⟨Nat.le_refl _, fun q => absurd (hb.trans hb2.symm) q⟩
    · refine ⟨?_, fun _ => ?_⟩ <;> (simp only [Bool.false_eq_true, if_false, if_true]; omega)
  · have hg := (h hf).1
    have hle : LeB g.is f.is := fun r hr q => ((h hf).2 r hr q).1
    obtain ⟨h1, h2⟩ := hle.fal
    rw [hg]
    simp only [if_true]
    have := fal_le f.is; have := fal_le g.is
    refine ⟨by omega, fun q => ?_⟩
    have : ¬ falB g.is = falB f.is := fun e => q (by
      have e2 := h2 e
      refine h.anti nf ng fun _ => ⟨hf, fun r hr q => ?_⟩
      rw [← e2] at q
      exact ⟨q, ((h hf).2 r hr q).2.symm⟩)
    omega
theorem join_nf {a b : Fa} (na : NF a) (nb : NF b) : NF (joinF a b) := by
  unfold joinF
  split
  · exact nb
  · split
    · exact na
    · rename_i h1 h2
      refine ⟨fun h => absurd h h1, fun r hr q => ?_⟩
      simp only [R8.get_of _ hr] at q ⊢
      rw [if_neg (by rw [q]; decide)]
theorem same_iff {a b : Fa} {r : Int} : sameR a b r = true ↔ a.is.get r = true ∧ b.is.get r = true ∧ a.val.get r = b.val.get r := by
  unfold sameR; simp [and_assoc]
theorem le_join1 {a b : Fa} : LeF a (joinF a b) := by
  intro h
  unfold joinF
  rw [if_neg (by rw [h]; decide)]
  split
  · exact ⟨h, fun r _ q => ⟨q, rfl⟩⟩
  · refine ⟨h, fun r hr q => ?_⟩
    simp only [R8.get_of _ hr] at q ⊢
    rw [if_pos q]
    exact ⟨(same_iff.1 q).1, rfl⟩
theorem le_join2 {a b : Fa} : LeF b (joinF a b) := by
  intro h
  unfold joinF
  split
  · exact ⟨h, fun r _ q => ⟨q, rfl⟩⟩
  · rename_i h1
    rw [if_neg (by rw [h]; decide)]
    refine ⟨by simpa using h1, fun r hr q => ?_⟩
    simp only [R8.get_of _ hr] at q ⊢
    rw [if_pos q]
    exact ⟨(same_iff.1 q).2.1, (same_iff.1 q).2.2.symm⟩
theorem join_le {a b c : Fa} (h : LeF a c) (k : LeF b c) : LeF (joinF a b) c := by
  intro q
  unfold joinF at q ⊢
  split at q
  · rename_i h1; rw [if_pos h1]; exact k q
  · rename_i h1; rw [if_neg h1]
    split at q
    · rename_i h2; rw [if_pos h2]; exact h q
    · rename_i h2; rw [if_neg h2]
      have ha : a.met = true := by simpa using h1
      have hb : b.met = true := by simpa using h2
      refine ⟨(h ha).1, fun r hr q => ?_⟩
      have q1 := (h ha).2 r hr q
      have q2 := (k hb).2 r hr q
      have hs : sameR a b r = true := same_iff.2 ⟨q1.1, q2.1, q1.2.trans q2.2.symm⟩
      simp only [R8.get_of _ hr]
      rw [if_pos hs]
      exact ⟨hs, q1.2⟩
theorem set_get {f : Fa} {a x r : Int} {b : Bool} (ha : InR8 a) (hr : InR8 r) : (setF f a b x).is.get r = (if r = a then b else f.is.get r) ∧ (setF f a b x).val.get r = if r = a then (if b = true then x else 0) else f.val.get r :=
  ⟨f.is.get_put ha hr b, f.val.get_put ha hr _⟩
theorem set_nf {f : Fa} {a x : Int} {b : Bool} (ha : InR8 a) (nf : NF f) (hm : f.met = true) : NF (setF f a b x) := by
  refine ⟨fun h => ?_, fun r hr q => ?_⟩
  · have : f.met = false := h
    rw [hm] at this; cases this
  · rw [(set_get ha hr).1] at q; rw [(set_get ha hr).2]
    by_cases e : r = a
    · rw [if_pos e] at q ⊢; rw [if_neg (by rw [q]; decide)]
    · rw [if_neg e] at q ⊢; exact nf.z r hr q
theorem set_le {f g : Fa} {a x y : Int} {b d : Bool} (ha : InR8 a) (h : LeF f g) (hf : f.met = true) (hbd : d = true → b = true ∧ x = y) : LeF (setF f a b x) (setF g a d y) := by
  intro _
  refine ⟨(h hf).1, fun r hr q => ?_⟩
  rw [(set_get ha hr).1] at q ⊢
  rw [(set_get ha hr).2, (set_get ha hr).2]
  by_cases e : r = a
  · rw [if_pos e] at q ⊢; rw [if_pos e, if_pos e]
    obtain ⟨q1, q2⟩ := hbd q
    rw [if_pos q1, if_pos q]; exact ⟨q1, q2⟩
  · rw [if_neg e] at q ⊢; rw [if_neg e, if_neg e]; exact (h hf).2 r hr q
section
variable {op a b c m : Int}
theorem step_nf {f : Fa} (nf : NF f) : NF (stepF op a b c m f) := by
  unfold stepF
  by_cases h : f.met = true ∧ namS op a b c
  · rw [if_pos h]
    unfold stepG
    have ha := h.2.2.2.1
    have S : ∀ b x, NF (setF f a b x) := fun b x => set_nf ha nf h.1
    repeat' split
    all_goals first | exact S _ _ | exact nf
  · rw [if_neg h]; exact nf
theorem step_met {f : Fa} : (stepF op a b c m f).met = f.met := by
  unfold stepF stepG; repeat' split
  all_goals rfl
theorem stepG_le {f g : Fa} (hn : namS op a b c) (h : LeF f g) (q : f.met = true) : LeF (stepG op a b c m f) (stepG op a b c m g) := by
  unfold stepG
  have ha := hn.2.2.1; have hb := hn.2.2.2.1; have hc := hn.2.2.2.2
  have K := (h q).2
  by_cases e1 : op = 1
  · rw [if_pos e1, if_pos e1]; exact set_le ha h q fun _ => ⟨rfl, rfl⟩
  rw [if_neg e1, if_neg e1]
  by_cases e2 : op = 2
  · rw [if_pos e2, if_pos e2]; exact set_le ha h q fun d => K b hb d
  rw [if_neg e2, if_neg e2]
  by_cases e3 : op = 3
  · rw [if_pos e3, if_pos e3]
    refine set_le ha h q fun d => ?_
    simp only [Bool.and_eq_true] at d ⊢
    have k1 := K b hb d.1.2; have k2 := K c hc d.2
    exact ⟨⟨⟨d.1.1, k1.1⟩, k2.1⟩, by rw [k1.2, k2.2]⟩
  rw [if_neg e3, if_neg e3]
  by_cases e4 : op = 4
  · rw [if_pos e4, if_pos e4]
    refine set_le ha h q fun d => ?_
    simp only [Bool.and_eq_true] at d ⊢
    have k1 := K b hb d.2
    exact ⟨⟨d.1, k1.1⟩, by rw [k1.2]⟩
  rw [if_neg e4, if_neg e4]
  by_cases e5 : op = 7 ∨ op = 10 ∨ op = 9
  · rw [if_pos e5, if_pos e5]; exact set_le ha h q fun d => by cases d
  rw [if_neg e5, if_neg e5]; exact h
theorem step_mono {f g : Fa} (h : LeF f g) : LeF (stepF op a b c m f) (stepF op a b c m g) := by
  cases hf : f.met
  · intro q; rw [step_met, hf] at q; cases q
  · have hg := (h hf).1
    unfold stepF
    by_cases hn : namS op a b c
    · rw [if_pos ⟨hf, hn⟩, if_pos ⟨hg, hn⟩]; exact stepG_le hn h hf
    · rw [if_neg (fun k => hn k.2), if_neg (fun k => hn k.2)]; exact h
end
end Go.Ab.Try
