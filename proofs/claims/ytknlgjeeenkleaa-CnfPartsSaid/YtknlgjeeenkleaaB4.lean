/- Contracts of functions: arguments and result without memory. Calls of such; how one is proved from the body. -/
import Derived.Test.YtknlgjeeenkleaaB3
namespace Go.Ab
open Go.RowKit
set_option linter.unusedVariables false
set_option linter.unusedSimpArgs false

/-! ### Results -/
mutual
/-- A value without memory, slices of the call's own read as they stand. -/
def purH (S : Nat → Bool) (h : List ABlk) : AV → Option PV
  | .pv p => some p
  | .agg xs => (purHL S h xs).map .agg
  | .tup xs => (purHL S h xs).map .tup
  | .ifc t x => (purH S h x).map (.ifc t)
  | .vs i off n => match S i, h[i]? with
    | true, some (.vec sz rows) => some (.lst false sz ((rows.drop off).take n))
    | _, _ => none
  | _ => none
def purHL (S : Nat → Bool) (h : List ABlk) : List AV → Option (List PV)
  | [] => some []
  | x :: xs => match purH S h x, purHL S h xs with
    | some p, some ps => some (p :: ps)
    | _, _ => none
end
theorem purHL_get {S : Nat → Bool} {h : List ABlk} : ∀ {xs : List AV} {ps : List PV}, purHL S h xs = some ps → xs.length = ps.length ∧ ∀ (k : Nat) (p : PV), ps[k]? = some p → ∃ x, xs[k]? = some x ∧ purH S h x = some p
  | [], ps, hh => by simp [purHL] at hh; subst hh; exact ⟨rfl, fun k p hk => by simp at hk⟩
  | x :: xs, ps, hh => by
    rw [purHL] at hh
    split at hh
    · rename_i p qs h1 h2
      injection hh with hh; subst hh
      obtain ⟨h3, h4⟩ := purHL_get h2
      refine ⟨by simp [h3], fun k q hk => ?_⟩
      cases k with
      | zero => simp at hk; subst hk; exact ⟨x, rfl, h1⟩
      | succ k => exact h4 k q (by simpa using hk)
    · cases hh
theorem purHL_map {S : Nat → Bool} {h : List ABlk} (ps : List PV) : purHL S h (ps.map .pv) = some ps := by
  induction ps with
  | nil => rfl
  | cons p ps ih => simp [purHL, purH, ih]
theorem purHL_append {S : Nat → Bool} {h : List ABlk} {xs ys : List AV} {ps qs : List PV} (h1 : purHL S h xs = some ps) (h2 : purHL S h ys = some qs) : purHL S h (xs ++ ys) = some (ps ++ qs) := by
  induction xs generalizing ps with
  | nil => simp [purHL] at h1; subst h1; simpa using h2
  | cons x xs ih =>
    rw [purHL] at h1
    split at h1
    · rename_i p rs g1 g2
      injection h1 with h1; subst h1
      simp [purHL, g1, ih g2]
    · cases h1

/-- The blocks that nobody changes, and with them some of the call's own. -/
def Cx.all (c : Cx) (S : Nat → Bool) (h : List ABlk) : Nat → Prop := fun b => c.ok b ∨ ∃ i, S i = true ∧ lv c h i ∧ b = c.mu i

theorem ARep.purH {S : Nat → Bool} {z : Ini} {c : Cx} {h : List ABlk} {w : World} (s : MSim z h c w) {x : AV} {v : Value} (r : ARep c h w x v) : ∀ {p : PV}, Ab.purH S h x = some p → Rep (c.all S h) w p v := by
  have up : ∀ {p : PV} {v : Value}, Rep c.ok w p v → Rep (c.all S h) w p v := fun hr => hr.mono (fun b hb => .inl hb) (fun _ _ => rfl)
  induction r with
  | pv p v hr => intro q hq; simp [Ab.purH] at hq; subst hq; exact up hr
  | agg xs vs hl ho hr ih =>
    intro q hq
    simp only [Ab.purH, Option.map_eq_some_iff] at hq
    obtain ⟨ps, hp, rfl⟩ := hq
    obtain ⟨h1, h2⟩ := purHL_get hp
    refine .agg ps vs (h1.symm.trans hl) ho fun k p v hk hv => ?_
    obtain ⟨x, hx, hpx⟩ := h2 k p hk
    exact ih k x v hx hv hpx
  | tup xs vs hl hr ih =>
    intro q hq
    simp only [Ab.purH, Option.map_eq_some_iff] at hq
    obtain ⟨ps, hp, rfl⟩ := hq
    obtain ⟨h1, h2⟩ := purHL_get hp
    refine .tup ps vs (h1.symm.trans hl) fun k p v hk hv => ?_
    obtain ⟨x, hx, hpx⟩ := h2 k p hk
    exact ih k x v hx hv hpx
  | ifc t x v hr ih =>
    intro q hq
    simp only [Ab.purH, Option.map_eq_some_iff] at hq
    obtain ⟨p, hp, rfl⟩ := hq
    exact .ifc t p v (ih hp)
  | vs i off n v b ho hi hb hv =>
    intro q hq
    simp only [Ab.purH, hi] at hq
    cases hS : S i with
    | false => simp [hS] at hq
    | true =>
    simp only [hS] at hq
    cases b with
    | vec sz rows =>
      simp only [Option.some.injEq] at hq; subst hq
      obtain ⟨h1, A, rfl, h3⟩ := hv sz rows rfl
      obtain ⟨b1, b2, b3⟩ := s.hs.blk i _ hi
      have hlen : ((rows.drop off).take n).length = n := by simp; omega
      have hrow : ∀ (j : Nat) (row : List PV), ((rows.drop off).take n)[j]? = some row → j < n ∧ rows[off + j]? = some row := by
        intro j row hj
        have hjn : j < n := by rw [← hlen]; exact (List.getElem?_eq_some_iff.1 hj).1
        rw [List.getElem?_take_of_lt hjn, List.getElem?_drop] at hj
        exact ⟨hjn, hj⟩
      by_cases hn : n = 0
      · subst hn
        have : (rows.drop off).take 0 = [] := rfl
        rw [this]
        exact .lst false sz [] A _ (fun _ _ => undef) (fun j row h => by simp at h) (by simp) (fun h => by cases h) (fun h => by simp at h) (fun ad e j row k p h => by simp at h) (fun j row k p h => by simp at h)
      · obtain ⟨vs, ty, g1, g2, g3⟩ := b3 (by omega)
        obtain rfl := h3 (by omega)
        have e : Value.slice (some ⟨c.mu i, (c.vd i).1 + off * sz, none⟩) n ((c.vd i).2 - off) = .slice (some ⟨c.mu i, (c.vd i).1 + off * sz, none⟩) ((rows.drop off).take n).length ((c.vd i).2 - off) := by rw [hlen]
        rw [e]
        have key : ∀ (j : Nat) (row : List PV) (k : Nat) (p : PV), ((rows.drop off).take n)[j]? = some row → row[k]? = some p → ∃ u, vs[(c.vd i).1 + ((off + j) * sz + k)]? = some u ∧ u.oneCell' = true ∧ Rep c.ok w p u := fun j row k p hj hk => g3 (off + j) row k p (hrow j row hj).2 hk
        refine .lst false sz _ _ _ (fun j k => (vs[(c.vd i).1 + ((off + j) * sz + k)]?).getD undef) (fun j row hj => b2 _ row (hrow j row hj).2) (by rw [hlen]; omega) (fun h => by cases h) (fun _ => ⟨_, rfl⟩) (fun ad ea j row k p hj hk => ?_) (fun j row k p hj hk => ?_)
        · injection ea with ea; subst ea
          obtain ⟨u, u1, u2, u3⟩ := key j row k p hj hk
          refine ⟨.inr ⟨i, hS, by simp [lv, hi]; omega, rfl⟩, ?_, by rw [u1]; exact u2⟩
          rw [Addr.add_plain, u1]
          simp only [World.cell?, g1, Option.getD_some]
          rw [← u1]
          have : (c.vd i).1 + off * sz + (j * sz + k) = (c.vd i).1 + ((off + j) * sz + k) := by rw [Nat.add_mul]; omega
          simp [this]
        · obtain ⟨u, u1, u2, u3⟩ := key j row k p hj hk
          simp only [u1, Option.getD_some]
          exact up u3
    | _ => simp at hq
  | ptr | el | ve | sl | fn | mp | any => intro q hq; simp [Ab.purH] at hq

/-- What is shown of p is shown of q. -/
def Sub (p q : PV) : Prop := ∀ ok w v, Rep ok w p v → Rep ok w q v
theorem Sub.refl (p : PV) : Sub p p := fun _ _ _ h => h
theorem Sub.trans {p q r : PV} (h : Sub p q) (k : Sub q r) : Sub p r := fun ok w v g => k ok w v (h ok w v g)
theorem Sub.full (sz : Nat) (rows : List (List PV)) (b : Bool) : Sub (.lst b sz rows) (.lst false sz rows) := fun ok w v h => by
  cases h with
  | lst _ _ _ A c us h1 h2 h3 h4 h5 h6 => exact .lst false sz rows A c us h1 h2 (fun h => by cases h) h4 h5 h6
theorem Sub.nil (sz sz' : Nat) (b : Bool) : Sub (.lst b sz []) (.lst b sz' []) := fun ok w v h => by
  cases h with
  | lst _ _ _ A c us h1 h2 h3 h4 h5 h6 => exact .lst b sz' [] A c us (fun j row h => by simp at h) h2 h3 h4 (fun ad e j row k p h => by simp at h) (fun j row k p h => by simp at h)
theorem Sub.nil0 (sz sz' : Nat) (b : Bool) : Sub (.lst b sz []) (.lst false sz' []) := (Sub.full sz [] b).trans (Sub.nil sz sz' false)
/-- One by one. -/
def SubL : List PV → List PV → Prop
  | [], [] => True
  | p :: ps, q :: qs => Sub p q ∧ SubL ps qs
  | _, _ => False
theorem SubL_get : ∀ {ps qs : List PV}, SubL ps qs → ps.length = qs.length ∧ ∀ (k : Nat) (q : PV), qs[k]? = some q → ∃ p, ps[k]? = some p ∧ Sub p q
  | [], [], _ => ⟨rfl, fun k q h => by simp at h⟩
  | p :: ps, q :: qs, h => by
    obtain ⟨h1, h2⟩ := SubL_get h.2
    refine ⟨by simp [h1], fun k r hk => ?_⟩
    cases k with
    | zero => simp at hk; subst hk; exact ⟨p, rfl, h.1⟩
    | succ k => exact h2 k r (by simpa using hk)
  | [], _ :: _, h => h.elim
  | _ :: _, [], h => h.elim
theorem SubL.refl : ∀ ps : List PV, SubL ps ps
  | [] => trivial
  | p :: ps => ⟨Sub.refl p, SubL.refl ps⟩
theorem Sub.agg {ps qs : List PV} (h : SubL ps qs) : Sub (.agg ps) (.agg qs) := fun ok w v hr => by
  obtain ⟨h1, h2⟩ := SubL_get h
  cases hr with
  | agg _ vs hl ho hr =>
    refine .agg qs vs (h1.symm.trans hl) ho fun k q v hk hv => ?_
    obtain ⟨p, hp, hs⟩ := h2 k q hk
    exact hs _ _ _ (hr k p v hp hv)
theorem Sub.tup {ps qs : List PV} (h : SubL ps qs) : Sub (.tup ps) (.tup qs) := fun ok w v hr => by
  obtain ⟨h1, h2⟩ := SubL_get h
  cases hr with
  | tup _ vs hl hr =>
    refine .tup qs vs (h1.symm.trans hl) fun k q v hk hv => ?_
    obtain ⟨p, hp, hs⟩ := h2 k q hk
    exact hs _ _ _ (hr k p v hp hv)

/-! ### The contract -/
/-- Values, one by one. -/
def Reps (ok : Nat → Prop) (w : World) (ps : List PV) (vs : List Value) : Prop := ps.length = vs.length ∧ ∀ (k : Nat) (p : PV) (v : Value), ps[k]? = some p → vs[k]? = some v → Rep ok w p v
/-- Called with what shows 'ps', the function returns what shows 'r', and leaves all that stood as it stood. -/
structure PC (P : Program) (f : FuncId) (ps : List PV) (r : PV) : Prop where
  call : ∀ (args : Array Value) (w : World), (callFunc f args).run P w = .ok (.enter f args) w
  spec : ∀ (ok : Nat → Prop) (w : World) (vs : List Value), (∀ b, ok b → b < w.heap.size) → Reps ok w ps vs →
    Calls P f vs.toArray w fun e w' => match e with
      | .returned v => Below w.heap.size w w' ∧ Rep (fun b => ok b ∨ (w.heap.size ≤ b ∧ b < w'.heap.size)) w' r v
      | _ => False

theorem PC.sub {P : Program} {f : FuncId} {ps : List PV} {r r' : PV} (h : PC P f ps r) (hs : Sub r r') : PC P f ps r' := ⟨h.call, fun ok w vs h1 h2 =>
  (h.spec ok w vs h1 h2).mono fun e w' he => by
    cases e with
    | returned v => exact ⟨he.1, hs _ _ _ he.2⟩
    | panicked _ => exact he.elim
    | outgrown => exact he.elim⟩

/-! ### From the body -/
def resOne (P : Program) (σ : St) : ResultVar → Option AV
  | .tmp t => some (evO σ.t (.tmp t))
  | .cell a ty => if 0 < szOf P ty then (if live σ.h (evO σ.t (.tmp a)) = true then loadA (agOf P ty) (szOf P ty) σ.h (evO σ.t (.tmp a)) else none) else none
def resAll (P : Program) (σ : St) : List ResultVar → Option (List AV)
  | [] => some []
  | r :: rs => match resOne P σ r, resAll P σ rs with
    | some x, some xs => some (x :: xs)
    | _, _ => none
def resA (P : Program) (σ : St) (rs : List ResultVar) : Option AV := match resAll P σ rs with
  | some [x] => some x
  | some xs => some (.tup xs)
  | none => none
end Go.Ab
