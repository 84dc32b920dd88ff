/- How a call's own memory turns: a new block, a store, a block given up or left as it is for good; what a callee leaves behind. -/
import Derived.Test.YtknlgjeeenkleaaA2
namespace Go.Ab
open Go.RowKit
set_option linter.unusedVariables false
set_option linter.unusedSimpArgs false

/-- A list with one more, or another, element. -/
def setx : List ABlk → Nat → ABlk → List ABlk
  | [], 0, b => [b]
  | [], i + 1, b => .nb :: setx [] i b
  | _ :: l, 0, b => b :: l
  | x :: l, i + 1, b => x :: setx l i b

theorem setx_same (h : List ABlk) (i : Nat) (b : ABlk) : (setx h i b)[i]? = some b := by
  induction h generalizing i with
  | nil => induction i with
    | zero => rfl
    | succ i ih => simpa [setx] using ih
  | cons x l ih => cases i with
    | zero => rfl
    | succ i => simpa [setx] using ih i
theorem setx_other (h : List ABlk) (i j : Nat) (b : ABlk) (hj : j ≠ i) : (setx h i b)[j]? = h[j]? ∨ (h[j]? = none ∧ (setx h i b)[j]? = some .nb) := by
  induction h generalizing i j with
  | nil => induction i generalizing j with
    | zero => cases j with
      | zero => exact absurd rfl hj
      | succ j => exact .inl rfl
    | succ i ih => cases j with
      | zero => exact .inr ⟨rfl, rfl⟩
      | succ j =>
        rcases ih j (by omega) with h | h
        · exact .inl (by simpa [setx] using h)
        · exact .inr ⟨rfl, by simpa [setx] using h.2⟩
  | cons x l ih => cases i with
    | zero => cases j with
      | zero => exact absurd rfl hj
      | succ j => exact .inl rfl
    | succ i => cases j with
      | zero => exact .inl rfl
      | succ j => simpa [setx] using ih i j (by omega)
theorem setx_length (h : List ABlk) (i : Nat) (b : ABlk) : h.length ≤ (setx h i b).length := by
  induction h generalizing i with
  | nil => simp
  | cons x l ih => cases i with
    | zero => simp [setx]
    | succ i => simp [setx]; exact ih i
/-- What another place held, where it was there. -/
theorem setx_some {h : List ABlk} {i j : Nat} {b x : ABlk} (hj : j ≠ i) (hx : h[j]? = some x) : (setx h i b)[j]? = some x := by
  rcases setx_other h i j b hj with h' | h'
  · rw [h', hx]
  · rw [hx] at h'; cases h'.1
theorem setx_get {h : List ABlk} {i j : Nat} {b x : ABlk} (hx : (setx h i b)[j]? = some x) : (j = i ∧ x = b) ∨ (j ≠ i ∧ (h[j]? = some x ∨ x = .nb)) := by
  by_cases hj : j = i
  · subst hj; rw [setx_same] at hx; injection hx with hx; exact .inl ⟨rfl, hx.symm⟩
  · rcases setx_other h i j b hj with h' | h'
    · rw [h'] at hx; exact .inr ⟨hj, .inl hx⟩
    · rw [h'.2] at hx; injection hx with hx; exact .inr ⟨hj, .inr hx.symm⟩

theorem setx_at (h : List ABlk) (i k : Nat) (b : ABlk) : (setx h i b)[k]? = if k = i then some b else if h.length ≤ k ∧ k < i then some .nb else h[k]? := by
  induction h generalizing i k with
  | nil => induction i generalizing k with
    | zero => cases k with
      | zero => rfl
      | succ k => simp [setx]
    | succ i ih => cases k with
      | zero => simp [setx]
      | succ k => simpa [setx] using ih k
  | cons x l ih => cases i with
    | zero => cases k with
      | zero => rfl
      | succ k => simp [setx]
    | succ i => cases k with
      | zero => simp [setx]
      | succ k => simpa [setx] using ih i k
theorem setx_len (h : List ABlk) (i : Nat) (b : ABlk) : (setx h i b).length = max h.length (i + 1) := by
  induction h generalizing i with
  | nil => induction i with
    | zero => simp [setx]
    | succ i ih => simp [setx] at ih ⊢; omega
  | cons x l ih => cases i with
    | zero => simp [setx]
    | succ i => simp only [setx, List.length_cons, ih i]; omega
/-- The memory after several such. -/
def app (h : List ABlk) : List (Nat × ABlk) → List ABlk
  | [] => h
  | (i, b) :: d => app (setx h i b) d

def updN {α : Type} (f : Nat → α) (i : Nat) (x : α) : Nat → α := fun j => if j = i then x else f j
theorem updN_same {α : Type} (f : Nat → α) (i : Nat) (x : α) : updN f i x i = x := if_pos rfl
theorem updN_other {α : Type} (f : Nat → α) {i j : Nat} (x : α) (h : j ≠ i) : updN f i x j = f j := if_neg h

theorem lv_some {c : Cx} {h : List ABlk} {i : Nat} (l : lv c h i) : ∃ b, h[i]? = some b ∧ b ≠ .nb ∧ b ≠ .gone := by
  unfold lv at l
  cases hi : h[i]? with
  | none => simp [hi] at l
  | some b => cases b <;> simp [hi] at l <;> exact ⟨_, rfl, (by intro h; cases h), (by intro h; cases h)⟩

theorem HSim.lv_lt {c : Cx} {h : List ABlk} {w : World} (s : HSim c h w) {i : Nat} (l : lv c h i) : c.mu i < w.heap.size := by
  have hl := l
  unfold lv at l
  cases hi : h[i]? with
  | none => simp [hi] at l
  | some b =>
    have hb := s.blk i b hi
    have key : ∀ o, w.heap[c.mu i]? = some o → c.mu i < w.heap.size := fun o ho => (Array.getElem?_eq_some_iff.1 ho).1
    cases b <;> simp [hi] at l
    case box cs => obtain ⟨vs, ty, h1, _⟩ := hb; exact key _ h1
    case vec sz rows => obtain ⟨_, _, h3⟩ := hb; obtain ⟨vs, ty, h1, _⟩ := h3 l; exact key _ h1
    case mp es => obtain ⟨ms, ck, h1, _⟩ := hb; exact key _ h1

/-- Whatever turned was the call's own, or is new. -/
theorem MSim.step {z : Ini} {h h' : List ABlk} {c c' : Cx} {w w' : World} (s : MSim z h c w) (h1 : w'.os = w.os) (h2 : w'.tape = w.tape) (h3 : w'.output = w.output)
    (h4 : w.heap.size ≤ w'.heap.size) (h5 : ∀ b, b < w.heap.size → (∀ i, lv c h i → c.mu i ≠ b) → w'.heap[b]? = w.heap[b]?) (h6 : HSim c' h' w')
    (h7 : ∀ i, lv c' h' i → (∃ j, lv c h j ∧ c'.mu i = c.mu j) ∨ w.heap.size ≤ c'.mu i) (h8 : ∀ b, c'.ok b → c.ok b ∨ (∃ j, lv c h j ∧ b = c.mu j) ∨ w.heap.size ≤ b) (h8' : ∀ b, c.ok b → c'.ok b)
    (h9 : z.n ≤ h'.length) (h10 : ∀ i, i < z.n → c'.mu i = c.mu i ∧ c'.vd i = c.vd i) : MSim z h' c' w' := by
  refine ⟨⟨h1.trans s.fr.os, h2.trans s.fr.tape, h3.trans s.fr.output, Nat.le_trans s.fr.size h4, fun b hb hO => ?_⟩, h6, fun i l => ?_, fun b hb => ?_, fun b hb => h8' b (s.okm b hb), h9, fun i hi => ?_⟩
  · rw [h5 b (Nat.lt_of_lt_of_le hb s.fr.size) (fun i l e => ?_), s.fr.block b hb hO]
    rcases s.own i l with h | h
    · rw [e] at h; exact hO h
    · omega
  · rcases h7 i l with ⟨j, lj, e⟩ | h
    · rw [e]; exact s.own j lj
    · exact .inr (Nat.le_trans s.fr.size h)
  · rcases h8 b hb with h | ⟨j, lj, e⟩ | h
    · exact s.okn b h
    · rw [e]; rcases s.own j lj with h | h
      · exact .inr (.inl h)
      · exact .inr (.inr h)
    · exact .inr (.inr (Nat.le_trans s.fr.size h))
  · exact ⟨(h10 i hi).1.trans (s.ext.2 i hi).1, (h10 i hi).2.trans (s.ext.2 i hi).2⟩

/-- Nothing of that name is there yet. -/
def unborn (h : List ABlk) (i : Nat) : Prop := h[i]? = none ∨ h[i]? = some .nb
theorem unborn_len (h : List ABlk) : unborn h h.length := .inl (List.getElem?_eq_none (Nat.le_refl _))

theorem lv_setx_other {c c' : Cx} {h : List ABlk} {i j : Nat} {b : ABlk} (hj : j ≠ i) (hv : c'.vd j = c.vd j) : lv c' (setx h i b) j ↔ lv c h j := by
  unfold lv
  rcases setx_other h i j b hj with h' | h'
  · rw [h', hv]
  · rw [h'.1, h'.2]

/-- A new block of the call's own, by whatever world that shows it. -/
theorem later_born {c c' : Cx} {h : List ABlk} {w w' : World} {i : Nat} {b : ABlk} (hu : unborn h i) (hok : ∀ x, c.ok x → c'.ok x) (hk : Keep c.ok w w')
    (hm : ∀ j, j ≠ i → c'.mu j = c.mu j ∧ c'.vd j = c.vd j) : Later c h w c' (setx h i b) w' := by
  refine ⟨hok, hk, fun j x hj hx => ?_⟩
  have hne : j ≠ i := by
    rintro rfl
    rcases hu with hu | hu <;> rw [hu] at hj
    · cases hj
    · injection hj with hj; exact hx hj.symm
  exact ⟨x, setx_some hne hj, hx, fun _ => hm j hne, fun cs e => ⟨cs, e⟩, fun sz rows e => ⟨rows, e, Nat.le_refl _⟩, fun es e => ⟨es, e⟩⟩

theorem keep_alloc (S : Nat → Prop) (w : World) (o : Obj) (hS : ∀ b, S b → b < w.heap.size) : Keep S w (w.alloc o) := fun b hb => Below.heap_alloc w o b (hS b hb)

/-- One name more. -/
def Cx.born (c : Cx) (i g : Nat) (vd : Nat × Nat) : Cx := { c with mu := updN c.mu i g, vd := updN c.vd i vd }
theorem Cx.born_mu (c : Cx) (i g : Nat) (vd : Nat × Nat) : (c.born i g vd).mu i = g := updN_same _ _ _
theorem Cx.born_vd (c : Cx) (i g : Nat) (vd : Nat × Nat) : (c.born i g vd).vd i = vd := updN_same _ _ _
theorem Cx.born_other (c : Cx) (i g : Nat) (vd : Nat × Nat) (j : Nat) (h : j ≠ i) : (c.born i g vd).mu j = c.mu j ∧ (c.born i g vd).vd j = c.vd j := ⟨updN_other _ _ h, updN_other _ _ h⟩
theorem Later.born {z : Ini} {h : List ABlk} {c : Cx} {w : World} (s : MSim z h c w) (i : Nat) (hu : unborn h i) (b : ABlk) (g : Nat) (vd : Nat × Nat) (o : Obj) : Later c h w (c.born i g vd) (setx h i b) (w.alloc o) :=
  later_born (c' := c.born i g vd) (b := b) hu (fun _ h => h) (keep_alloc c.ok w o s.hs.okb) (c.born_other i g vd)

/-- A new block: 'w.alloc o' shows it. -/
theorem MSim.born {z : Ini} {h : List ABlk} {c : Cx} {w : World} (s : MSim z h c w) (i : Nat) (hu : unborn h i) (hn : z.n ≤ i) (b : ABlk) (vd : Nat × Nat) (o : Obj)
    (hb : BRep (c.born i w.heap.size vd) (setx h i b) (w.alloc o) i b) :
    Later c h w (c.born i w.heap.size vd) (setx h i b) (w.alloc o) ∧
    MSim z (setx h i b) (c.born i w.heap.size vd) (w.alloc o) := by
  have hk := keep_alloc c.ok w o s.hs.okb
  have hm : ∀ j, j ≠ i → (c.born i w.heap.size vd).mu j = c.mu j ∧ (c.born i w.heap.size vd).vd j = c.vd j := c.born_other i _ vd
  have L : Later c h w (c.born i w.heap.size vd) (setx h i b) (w.alloc o) := later_born hu (fun _ h => h) hk hm
  have lvo : ∀ j, j ≠ i → (lv (c.born i w.heap.size vd) (setx h i b) j ↔ lv c h j) := fun j hj => lv_setx_other hj (hm j hj).2
  refine ⟨L, s.step rfl rfl rfl (by simp) (fun x hx _ => Below.heap_alloc w o x hx) ⟨fun j x hj => ?_, fun j k lj lk e => ?_, fun j lj => ?_, fun x hx => ?_⟩ (fun j lj => ?_) (fun x hx => .inl hx) (fun x hx => hx) (Nat.le_trans s.ext.1 (setx_length _ _ _)) (fun j hj => hm j (by omega))⟩
  · rcases setx_get hj with ⟨rfl, rfl⟩ | ⟨hne, hj' | rfl⟩
    · exact hb
    · exact (s.hs.blk j x hj').later L (fun _ => hm j hne) (fun l => Below.heap_alloc w o _ (s.hs.lv_lt l)) hj'
    · trivial
  · by_cases h1 : j = i <;> by_cases h2 : k = i
    · rw [h1, h2]
    · subst h1
      have := s.hs.lv_lt ((lvo k h2).1 lk)
      rw [Cx.born_mu, (hm k h2).1] at e
      omega
    · subst h2
      have := s.hs.lv_lt ((lvo j h1).1 lj)
      rw [Cx.born_mu, (hm j h1).1] at e
      omega
    · rw [(hm j h1).1, (hm k h2).1] at e
      exact s.hs.inj j k ((lvo j h1).1 lj) ((lvo k h2).1 lk) e
  · by_cases h1 : j = i
    · subst h1
      rw [Cx.born_mu]
      intro hx
      have := s.hs.okb _ hx
      omega
    · rw [(hm j h1).1]
      exact s.hs.nok j ((lvo j h1).1 lj)
  · have := s.hs.okb x hx
    simp; omega
  · by_cases h1 : j = i
    · subst h1; right; rw [Cx.born_mu]; exact Nat.le_refl _
    · left; exact ⟨j, (lvo j h1).1 lj, (hm j h1).1⟩

/-- A block of the call's own turns (the same kind of block, a slice no shorter). -/
theorem MSim.turn {z : Ini} {h : List ABlk} {c : Cx} {w w' : World} (s : MSim z h c w) (i : Nat) (b b' : ABlk) (hi : h[i]? = some b) (hlv : lv c h i) (hlv' : lv c (setx h i b') i)
    (hk : (∀ cs', b' = .box cs' → ∃ cs, b = .box cs) ∧ (∀ sz rows', b' = .vec sz rows' → ∃ rows, b = .vec sz rows ∧ rows.length ≤ rows'.length) ∧ (∀ es', b' = .mp es' → ∃ es, b = .mp es))
    (h1 : w'.os = w.os) (h2 : w'.tape = w.tape) (h3 : w'.output = w.output) (h4 : w.heap.size ≤ w'.heap.size) (h5 : ∀ x, x < w.heap.size → x ≠ c.mu i → w'.heap[x]? = w.heap[x]?)
    (hb : Later c h w c (setx h i b') w' → BRep c (setx h i b') w' i b') : Later c h w c (setx h i b') w' ∧ MSim z (setx h i b') c w' := by
  have hbn : b ≠ .nb := by obtain ⟨x, e, hx, _⟩ := lv_some hlv; rw [hi] at e; injection e with e; rw [e]; exact hx
  have hbn' : b' ≠ .nb := by obtain ⟨x, e, hx, _⟩ := lv_some hlv'; rw [setx_same] at e; injection e with e; rw [e]; exact hx
  have L : Later c h w c (setx h i b') w' := by
    refine ⟨fun _ h => h, fun x hx => h5 x (s.hs.okb x hx) (fun e => s.hs.nok i hlv (e ▸ hx)), fun j x hj hx => ?_⟩
    by_cases hne : j = i
    · subst hne
      rw [hi] at hj; injection hj with hj; subst hj
      exact ⟨b', setx_same _ _ _, hbn', fun _ => ⟨rfl, rfl⟩, hk⟩
    · exact ⟨x, setx_some hne hj, hx, fun _ => ⟨rfl, rfl⟩, fun cs e => ⟨cs, e⟩, fun sz rows e => ⟨rows, e, Nat.le_refl _⟩, fun es e => ⟨es, e⟩⟩
  have lvo : ∀ j, lv c (setx h i b') j → lv c h j := fun j l => by
    by_cases hne : j = i
    · subst hne; exact hlv
    · exact (lv_setx_other hne rfl).1 l
  refine ⟨L, s.step h1 h2 h3 h4 (fun x hx hn => h5 x hx (fun e => hn i hlv e.symm)) ⟨fun j x hj => ?_, fun j k lj lk e => s.hs.inj j k (lvo j lj) (lvo k lk) e, fun j lj => s.hs.nok j (lvo j lj), fun x hx => Nat.lt_of_lt_of_le (s.hs.okb x hx) h4⟩
    (fun j lj => .inl ⟨j, lvo j lj, rfl⟩) (fun x hx => .inl hx) (fun x hx => hx) (Nat.le_trans s.ext.1 (setx_length _ _ _)) (fun j hj => ⟨rfl, rfl⟩)⟩
  rcases setx_get hj with ⟨rfl, rfl⟩ | ⟨hne, hj' | rfl⟩
  · exact hb L
  · exact (s.hs.blk j x hj').later L (fun _ => ⟨rfl, rfl⟩) (fun l => h5 _ (s.hs.lv_lt l) (fun e => hne (s.hs.inj j i l hlv e))) hj'
  · trivial

/-- A block of the call's own is given up; S says which of the machine's blocks nobody is to change from now on. -/
theorem MSim.drop {z : Ini} {h : List ABlk} {c : Cx} {w : World} (s : MSim z h c w) (i : Nat) (b : ABlk) (hi : h[i]? = some b) (hb : b ≠ .nb) (S : Nat → Prop) (hS : ∀ x, S x → lv c h i ∧ x = c.mu i) :
    Later c h w { c with ok := fun x => c.ok x ∨ S x } (setx h i .gone) w ∧ MSim z (setx h i .gone) { c with ok := fun x => c.ok x ∨ S x } w := by
  have L : Later c h w { c with ok := fun x => c.ok x ∨ S x } (setx h i .gone) w := by
    refine ⟨fun _ h => .inl h, fun _ _ => rfl, fun j x hj hx => ?_⟩
    by_cases hne : j = i
    · subst hne
      exact ⟨.gone, setx_same _ _ _, (by intro h; cases h), fun _ => ⟨rfl, rfl⟩, (fun cs e => by cases e), (fun sz rows e => by cases e), (fun es e => by cases e)⟩
    · exact ⟨x, setx_some hne hj, hx, fun _ => ⟨rfl, rfl⟩, fun cs e => ⟨cs, e⟩, fun sz rows e => ⟨rows, e, Nat.le_refl _⟩, fun es e => ⟨es, e⟩⟩
  have lvi : ¬ lv { c with ok := fun x => c.ok x ∨ S x } (setx h i .gone) i := by simp [lv, setx_same]
  have lvo : ∀ j, lv { c with ok := fun x => c.ok x ∨ S x } (setx h i .gone) j → j ≠ i ∧ lv c h j := fun j l => by
    by_cases hne : j = i
    · subst hne; exact (lvi l).elim
    · exact ⟨hne, (lv_setx_other (c := c) (c' := { c with ok := fun x => c.ok x ∨ S x }) hne rfl).1 l⟩
  refine ⟨L, s.step rfl rfl rfl (Nat.le_refl _) (fun _ _ _ => rfl) ⟨fun j x hj => ?_, fun j k lj lk e => s.hs.inj j k (lvo j lj).2 (lvo k lk).2 e, fun j lj hx => ?_, fun x hx => ?_⟩
    (fun j lj => .inl ⟨j, (lvo j lj).2, rfl⟩) (fun x hx => ?_) (fun x hx => .inl hx) (Nat.le_trans s.ext.1 (setx_length _ _ _)) (fun j hj => ⟨rfl, rfl⟩)⟩
  · rcases setx_get hj with ⟨rfl, rfl⟩ | ⟨hne, hj' | rfl⟩
    · trivial
    · exact (s.hs.blk j x hj').later L (fun _ => ⟨rfl, rfl⟩) (fun l => rfl) hj'
    · trivial
  · rcases hx with hx | hx
    · exact s.hs.nok j (lvo j lj).2 hx
    · obtain ⟨l, e⟩ := hS _ hx
      exact (lvo j lj).1 (s.hs.inj j i (lvo j lj).2 l e)
  · rcases hx with hx | hx
    · exact s.hs.okb x hx
    · obtain ⟨l, e⟩ := hS _ hx; rw [e]; exact s.hs.lv_lt l
  · rcases hx with hx | hx
    · exact .inl hx
    · obtain ⟨l, e⟩ := hS _ hx; exact .inr (.inl ⟨i, l, e⟩)

/-- A callee that touched nothing of what stood; what it made nobody changes. -/
theorem MSim.beyond {z : Ini} {h : List ABlk} {c : Cx} {w w' : World} (s : MSim z h c w) (hb : Below w.heap.size w w') (S : Nat → Prop) (hS : ∀ x, S x → w.heap.size ≤ x ∧ x < w'.heap.size) :
    Later c h w { c with ok := fun x => c.ok x ∨ S x } h w' ∧ MSim z h { c with ok := fun x => c.ok x ∨ S x } w' := by
  have L : Later c h w { c with ok := fun x => c.ok x ∨ S x } h w' :=
    ⟨fun _ h => .inl h, fun x hx => hb.block x (s.hs.okb x hx), fun j x hj hx => ⟨x, hj, hx, fun _ => ⟨rfl, rfl⟩, fun cs e => ⟨cs, e⟩, fun sz rows e => ⟨rows, e, Nat.le_refl _⟩, fun es e => ⟨es, e⟩⟩⟩
  have lvo : ∀ j, lv { c with ok := fun x => c.ok x ∨ S x } h j → lv c h j := fun j l => l
  refine ⟨L, s.step hb.os hb.tape hb.output hb.size (fun x hx _ => hb.block x hx) ⟨fun j x hj => (s.hs.blk j x hj).later L (fun _ => ⟨rfl, rfl⟩) (fun l => hb.block _ (s.hs.lv_lt l)) hj, fun j k lj lk e => s.hs.inj j k lj lk e, fun j lj hx => ?_, fun x hx => ?_⟩
    (fun j lj => .inl ⟨j, lj, rfl⟩) (fun x hx => ?_) (fun x hx => .inl hx) s.ext.1 (fun j hj => ⟨rfl, rfl⟩)⟩
  · rcases hx with hx | hx
    · exact s.hs.nok j lj hx
    · have := s.hs.lv_lt lj; have := (hS _ hx).1; simp only at this; omega
  · rcases hx with hx | hx
    · exact Nat.lt_of_lt_of_le (s.hs.okb x hx) hb.size
    · exact (hS _ hx).2
  · rcases hx with hx | hx
    · exact .inl hx
    · exact .inr (.inr (hS _ hx).1)
end Go.Ab
