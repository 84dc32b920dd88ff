/- A region's operations, in whatever order the machine takes them: what each leans on. -/
import Derived.Test.YtknlgjeeenkleaaB6
import Derived.Orders
namespace Go.Ab
open Go.RowKit
set_option linter.unusedVariables false
set_option linter.unusedSimpArgs false

/-! ### Which names a value bears -/
mutual
def refs : AV → List Nat
  | .ptr i _ => [i]
  | .vs i _ _ => [i]
  | .ve i _ _ => [i]
  | .sl i _ _ _ => [i]
  | .mp i => [i]
  | .agg xs => refsL xs
  | .tup xs => refsL xs
  | .ifc _ x => refs x
  | _ => []
def refsL : List AV → List Nat
  | [] => []
  | x :: xs => refs x ++ refsL xs
end

/-- At k the second list is as the first one, but for a name that is not there yet. -/
def EqN (h h' : List ABlk) (k : Nat) : Prop := h'[k]? = h[k]? ∨ (h[k]? = none ∧ h'[k]? = some .nb)
theorem loadA_congr {h h' : List ABlk} {x : AV} (hh : ∀ k ∈ refs x, EqN h h' k) (ag sz : Nat) : loadA ag sz h' x = loadA ag sz h x := by
  cases x <;> first | rfl | (simp only [loadA]; rcases hh _ (by simp [refs]; rfl) with e | ⟨e, e'⟩ <;> first | (rw [e, e']; done) | (rw [e, e']; rfl) | rw [e])
theorem storeA_congr {h h' : List ABlk} {x : AV} (hh : ∀ k ∈ refs x, EqN h h' k) (sz : Nat) (y : AV) : storeA sz h' y x = storeA sz h y x := by
  cases x <;> first | rfl | (simp only [storeA]; rcases hh _ (by simp [refs]; rfl) with e | ⟨e, e'⟩ <;> first | (rw [e, e']; done) | (rw [e, e']; rfl) | rw [e])
theorem live_congr {h h' : List ABlk} {x : AV} (hh : ∀ k ∈ refs x, EqN h h' k) : live h' x = live h x := by
  cases x <;> first | rfl | (simp only [live]; rcases hh _ (by simp [refs]; rfl) with e | ⟨e, e'⟩ <;> first | (rw [e, e']; done) | (rw [e, e']; rfl) | rw [e])
theorem liveE_congr {h h' : List ABlk} {x : AV} (hh : ∀ k ∈ refs x, EqN h h' k) : liveE h' x = liveE h x := by
  cases x <;> first | rfl | (simp only [liveE, live]; rcases hh _ (by simp [refs]; rfl) with e | ⟨e, e'⟩ <;> first | (rw [e, e']; done) | (rw [e, e']; rfl) | rw [e])
theorem liveS_congr {h h' : List ABlk} {x : AV} (hh : ∀ k ∈ refs x, EqN h h' k) : liveS h' x = liveS h x := by
  cases x <;> first | rfl | (simp only [liveS]; rcases hh _ (by simp [refs]; rfl) with e | ⟨e, e'⟩ <;> first | (rw [e, e']; done) | (rw [e, e']; rfl) | rw [e])
theorem elemA_congr {h h' : List ABlk} {x : AV} (hh : ∀ k ∈ refs x, EqN h h' k) (k : TK) (j : Int) : elemA k h' x j = elemA k h x j := by
  cases k <;> cases x <;> first | rfl | (simp only [elemA]; rcases hh _ (by simp [refs]; rfl) with e | ⟨e, e'⟩ <;> first | (rw [e, e']; done) | (rw [e, e']; rfl) | rw [e]) | (rename_i p; cases p <;> rfl)
theorem xOwn_congr {h h' : List ABlk} {x : AV} (hh : ∀ k ∈ refs x, EqN h h' k) (sz : Nat) : xOwn h' sz x = xOwn h sz x := by
  cases x <;> first | rfl | (rename_i p; cases p <;> first | rfl | (rename_i f _ _; cases f <;> rfl)) | (simp only [xOwn]; rcases hh _ (by simp [refs]; rfl) with e | ⟨e, e'⟩ <;> first | (rw [e, e']; done) | (rw [e, e']; rfl) | rw [e])
theorem yRows_congr {h h' : List ABlk} {x : AV} (hh : ∀ k ∈ refs x, EqN h h' k) (tk : TK) (sz : Nat) : yRows h' tk sz x = yRows h tk sz x := by
  cases x <;> first | rfl | (rename_i p; cases p <;> rfl) | (simp only [yRows]; rcases hh _ (by simp [refs]; rfl) with e | ⟨e, e'⟩ <;> first | (rw [e, e']; done) | (rw [e, e']; rfl) | rw [e])
theorem callv_congr {P : Program} {ev : Operand → AV} {n : Nat} {h h' : List ABlk} {b : Builtin} {xs : List Operand} {ts : List TypeId} (hh : ∀ x ∈ xs, ∀ k ∈ refs (ev x), EqN h h' k) : callv P ev n h' b xs ts = callv P ev n h b xs ts := by
  unfold callv
  split
  · rename_i x T; rw [liveS_congr (hh x (by simp))]
  · rfl
  · rfl
  · rename_i x y T Tx; unfold appA; simp only [xOwn_congr (hh x (by simp)), yRows_congr (hh y (by simp))]
  · rfl

theorem slcA_congr {h h' : List ABlk} {x : AV} (hh : ∀ k ∈ refs x, EqN h h' k) (tk : TK) (lo hi : Option AV) : slcA tk h' x lo hi = slcA tk h x lo hi := by
  have hc : ∀ l r, cutA tk h' x l r = cutA tk h x l r := fun l r => by
    cases tk <;> cases x <;> first | rfl | (rename_i p; cases p <;> rfl) | (simp only [cutA]; rcases hh _ (by simp [refs]; rfl) with e | ⟨e, e'⟩ <;> first | (rw [e, e']; done) | (rw [e, e']; rfl) | rw [e])
  unfold slcA
  split
  · exact hc _ _
  · rfl
theorem stepv_congr {P : Program} {ev : Operand → AV} {n : Nat} {h h' : List ABlk} {op : Op} (hh : ∀ x ∈ op.operands, ∀ k ∈ refs (ev x), EqN h h' k) : stepv P ev n h' op = stepv P ev n h op := by
  cases op <;> simp only [stepv]
  case convert s d x =>
    have : cnvA P h' s d (ev x) = cnvA P h s d (ev x) := by
      unfold cnvA
      simp only [yRows_congr (hh x (by simp [Op.operands]))]
    rw [this]
  case slice T x lo hi mx => rw [slcA_congr (hh x (by simp [Op.operands]))]
  case load T a => rw [loadA_congr (hh a (by simp [Op.operands]))]
  case store T a x => rw [storeA_congr (hh a (by simp [Op.operands]))]
  case nilCheck x => rw [live_congr (hh x (by simp [Op.operands]))]
  case fieldAddr s x f => rw [live_congr (hh x (by simp [Op.operands]))]
  case indexAddr T x i =>
    have h1 := hh x (by simp [Op.operands])
    split
    · rw [liveE_congr h1]
      split
      · rw [elemA_congr h1]
      · rfl
    · rfl
  case call c =>
    split
    · rename_i b hb
      exact callv_congr fun x hx => hh x (by simp [Op.operands, Call.operands, hb]; simpa using hx)
    · rfl
theorem callv_ev {P : Program} {ev ev' : Operand → AV} {n : Nat} {h : List ABlk} {b : Builtin} {xs : List Operand} {ts : List TypeId} (hh : ∀ x ∈ xs, ev x = ev' x) : callv P ev n h b xs ts = callv P ev' n h b xs ts := by
  unfold callv
  split
  · rename_i x T; rw [hh x (by simp)]
  · rename_i x y; rw [hh x (by simp), hh y (by simp)]
  · rename_i x y; rw [hh x (by simp), hh y (by simp)]
  · rename_i x y T Tx; rw [hh x (by simp), hh y (by simp)]
  · rfl
theorem stepv_ev {P : Program} {ev ev' : Operand → AV} {n : Nat} {h : List ABlk} {op : Op} (hh : ∀ x ∈ op.operands, ev x = ev' x) : stepv P ev n h op = stepv P ev' n h op := by
  cases op <;> simp only [stepv] <;> try rfl
  case build T parts =>
    have : (parts.toList.map fun p => (p.1, ev p.2)) = parts.toList.map fun p => (p.1, ev' p.2) := List.map_congr_left fun p hp => by
      rw [hh p.2 (by simp only [Op.operands]; simp; exact ⟨p.1, by simpa using hp⟩)]
    rw [this]
  case buildSlice T len parts =>
    have : (parts.toList.map fun p => (p.1, ev p.2)) = parts.toList.map fun p => (p.1, ev' p.2) := List.map_congr_left fun p hp => by
      rw [hh p.2 (by simp only [Op.operands]; simp; exact ⟨p.1, by simpa using hp⟩)]
    rw [this]
  case makeFunc f xs ys =>
    have h1 : xs.toList.map ev = xs.toList.map ev' := List.map_congr_left fun p hp => hh p (by simp [Op.operands]; left; simpa using hp)
    have h2 : ys.toList.map ev = ys.toList.map ev' := List.map_congr_left fun p hp => hh p (by simp [Op.operands]; right; simpa using hp)
    rw [h1, h2]
  case call c =>
    split
    · rename_i b hb
      exact callv_ev fun x hx => hh x (by simp [Op.operands, Call.operands, hb]; simpa using hx)
    · rfl
  case makeSlice T l c => rw [hh l (by simp [Op.operands]), hh c (by simp [Op.operands])]
  case slice T x lo hi mx =>
    have h1 : ev x = ev' x := hh x (by simp [Op.operands])
    have h2 : lo.map ev = lo.map ev' := by
      cases lo with
      | none => rfl
      | some a => simp only [Option.map_some]; rw [hh a (by simp [Op.operands])]
    have h3 : hi.map ev = hi.map ev' := by
      cases hi with
      | none => rfl
      | some a => simp only [Option.map_some]; rw [hh a (by simp [Op.operands])]
    rw [h1, h2, h3]
  case move x => rw [hh x (by simp [Op.operands])]
  case assign x => rw [hh x (by simp [Op.operands])]
  case box e x => rw [hh x (by simp [Op.operands])]
  case load T a => rw [hh a (by simp [Op.operands])]
  case store T a x => rw [hh a (by simp [Op.operands]), hh x (by simp [Op.operands])]
  case nilCheck x => rw [hh x (by simp [Op.operands])]
  case binOp op T x y yt => rw [hh x (by simp [Op.operands]), hh y (by simp [Op.operands])]
  case unOp u T x => rw [hh x (by simp [Op.operands])]
  case convert s d x => rw [hh x (by simp [Op.operands])]
  case fieldAddr s x f => rw [hh x (by simp [Op.operands])]
  case field s x f => rw [hh x (by simp [Op.operands])]
  case indexAddr T x i => rw [hh x (by simp [Op.operands]), hh i (by simp [Op.operands])]
  case index T x i => rw [hh x (by simp [Op.operands]), hh i (by simp [Op.operands])]
  case extract x i => rw [hh x (by simp [Op.operands])]

/-! ### Paths -/
abbrev Path := List (Nat × Bool)
def lk : List (Nat × Path) → Nat → Option Path
  | [], _ => none
  | (i, p) :: g, k => if i = k then some p else lk g k
def memP (x : Nat × Bool) : Path → Bool
  | [] => false
  | y :: l => (x.1 == y.1 && x.2 == y.2) || memP x l
def subP : Path → Path → Bool
  | [], _ => true
  | x :: p, q => memP x q && subP p q
theorem memP_mem {x : Nat × Bool} : ∀ {l : Path}, memP x l = true → x ∈ l
  | [], h => by cases h
  | y :: l, h => by
    simp only [memP, Bool.or_eq_true, Bool.and_eq_true, beq_iff_eq] at h
    rcases h with h | h
    · have : x = y := Prod.ext h.1 h.2
      simp [this]
    · exact List.mem_cons_of_mem _ (memP_mem h)
def holds (C : Nat → Bool) (p : Path) : Prop := ∀ x ∈ p, C x.1 = x.2
theorem subP_holds {C : Nat → Bool} : ∀ {p q : Path}, subP p q = true → holds C q → holds C p
  | [], q, _, _ => fun x hx => by cases hx
  | y :: p, q, h, hq => fun x hx => by
    simp only [subP, Bool.and_eq_true] at h
    rcases List.mem_cons.1 hx with rfl | hx
    · exact hq _ (memP_mem h.1)
    · exact subP_holds h.2 hq x hx

/-- A region's state on the way: temporaries, which of them hang on a path, memory. -/
structure RS where
  t : List AV
  g : List (Nat × Path)
  h : List ABlk
def evG (p : Path) (t : List AV) (g : List (Nat × Path)) : Operand → AV
  | .tmp k => match lk g k with
    | none => t.getD k .any
    | some q => if subP q p = true then t.getD k .any else .any
  | x => evO t x
def dstOf (ops : List Oper) (j : Nat) : Option Tmp := (ops[j]?).bind (·.dst)
def guardOf (ops : List Oper) (j : Nat) : Option (Nat × Bool) := (ops[j]?).bind (·.guard)
def pth (ops : List Oper) : Nat → Option (Nat × Bool) → Path
  | 0, _ => []
  | _ + 1, none => []
  | n + 1, some (j, b) => pth ops n (guardOf ops j) ++ [(j, b)]

/-- What an operation of a region came to. -/
structure PE where
  r : AV
  d : List (Nat × ABlk)
  p : Path
  ft : List Nat

def CF (ops : List Oper) (j : Nat) (t : List AV) (C : Nat → Bool) : Prop := ∀ i d v, i < j → dstOf ops i = some d → boolOf (t.getD d .any) = some v → C i = v
/-- The operation does this, whatever else has come up already. -/
def LS (P : Program) (z : Ini) (ops : List Oper) (j : Nat) (o : Oper) (s : RS) (e : PE) : Prop :=
  ∀ (C : Nat → Bool) (h' : List ABlk) (c : Cx) (w : World) (ρ : Operand → Value), CF ops j s.t C → holds C e.p → z.n ≤ s.h.length → (∀ k ∈ e.ft, EqN s.h h' k) → (∀ x ∈ e.d, s.h.length ≤ x.1 → unborn h' x.1) →
    MSim z h' c w → (∀ f, ρ (.func f) = .func (.func f) #[] #[]) → (∀ x ∈ o.op.operands, ∀ q, holds C q → ARep c h' w (evG q s.t s.g x) (ρ x)) → Yields P z o ρ c h' w e.r (app h' e.d)

theorem LS.step {P : Program} {z : Ini} {ops : List Oper} {j : Nat} {o : Oper} {s : RS} {r : AV} {d : List (Nat × ABlk)} {p : Path} (hs : stepv P (evG p s.t s.g) s.h.length s.h o.op = some (r, d)) :
    LS P z ops j o s ⟨r, d, p, o.op.operands.toList.flatMap fun x => refs (evG p s.t s.g x)⟩ := by
  intro C h' c w ρ hC hp hn hft hu M hfn hev
  classical
  let ev' : Operand → AV := fun x => if x ∈ o.op.operands then evG p s.t s.g x else .any
  have e1 : stepv P ev' s.h.length h' o.op = some (r, d) := by
    rw [← stepv_ev (ev := evG p s.t s.g) (fun x hx => by simp [ev', hx]), ← hs]
    exact stepv_congr fun x hx k hk => hft k (by simp only [List.mem_flatMap]; exact ⟨x, by simpa using hx, hk⟩)
  refine stepv_yields M (fun x => ?_) hn hu e1
  by_cases hx : x ∈ o.op.operands
  · simp only [ev', if_pos hx]; exact hev x hx p hp
  · simp only [ev', if_neg hx]; exact .any _

/-- 'if c then a else b', of truths. -/
def pickB (c a b : Bool) : Bool := (c && a) || (!c && b)
@[go_sem] theorem pickB_or (c b : Bool) : pickB c true b = (c || b) := by cases c <;> rfl
@[go_sem] theorem pickB_and (c a : Bool) : pickB c a false = (c && a) := by cases c <;> cases a <;> rfl
/-- Which operation wrote the temporary. -/
def ixOf : List Oper → Nat → Operand → Nat
  | [], _, _ => 0
  | o :: l, i, x => match x, o.dst with
    | .tmp k, some d => if d = k then i else ixOf l (i + 1) x
    | _, _ => ixOf l (i + 1) x
theorem ixOf_dst : ∀ {l : List Oper} {i : Nat} {k : Nat}, (∃ j : Nat, (l[j]?).bind (·.dst) = some k) → i ≤ ixOf l i (.tmp k) ∧ (l[ixOf l i (.tmp k) - i]?).bind (·.dst) = some k
  | [], i, k, ⟨j, h⟩ => by simp at h
  | o :: l, i, k, ⟨j, h⟩ => by
    simp only [ixOf]
    cases hd : o.dst with
    | none =>
      cases j with
      | zero => simp [hd] at h
      | succ j =>
        obtain ⟨h1, h2⟩ := ixOf_dst (i := i + 1) ⟨j, by simpa using h⟩
        simp only
        refine ⟨by omega, ?_⟩
        rw [show ixOf l (i + 1) (.tmp k) - i = (ixOf l (i + 1) (.tmp k) - (i + 1)) + 1 from by omega]
        simpa using h2
    | some d =>
      simp only
      by_cases hk : d = k
      · subst hk; simp [hd]
      · rw [if_neg hk]
        cases j with
        | zero => simp [hd] at h; exact absurd h hk
        | succ j =>
          obtain ⟨h1, h2⟩ := ixOf_dst (i := i + 1) ⟨j, by simpa using h⟩
          refine ⟨by omega, ?_⟩
          rw [show ixOf l (i + 1) (.tmp k) - i = (ixOf l (i + 1) (.tmp k) - (i + 1)) + 1 from by omega]
          simpa using h2

theorem holds_snoc {C : Nat → Bool} {p : Path} {j : Nat} {b : Bool} (hp : holds C p) (hj : C j = b) : holds C (p ++ [(j, b)]) := by
  intro x hx
  rcases List.mem_append.1 hx with hx | hx
  · exact hp x hx
  · simp at hx; subst hx; exact hj

theorem LS.pick {P : Program} {z : Ini} {ops : List Oper} {j : Nat} {o : Oper} {s : RS} {p : Path} {k : Tmp} {a b : Operand} {vc va vb : Bool} (ho : o.op = .pick (.tmp k) a b) (hix : ixOf ops 0 (.tmp k) < j) (hd : dstOf ops (ixOf ops 0 (.tmp k)) = some k)
    (hc : boolOf (evG p s.t s.g (.tmp k)) = some vc) (ha : boolOf (evG (p ++ [(ixOf ops 0 (.tmp k), true)]) s.t s.g a) = some va) (hb : boolOf (evG (p ++ [(ixOf ops 0 (.tmp k), false)]) s.t s.g b) = some vb) :
    LS P z ops j o s ⟨.pv (.bool (pickB vc va vb)), [], p, []⟩ := by
  intro C h' c w ρ hC hp hn hft hu M hfn hev
  have tob : ∀ {x : AV} {v : Value} {q : Bool}, ARep c h' w x v → boolOf x = some q → v = .bool q := by
    intro x v q hr hq
    unfold boolOf at hq
    split at hq
    · injection hq with hq; subst hq
      cases hr with | pv _ _ hr => cases hr; rfl
    · cases hq
  have h1 := tob (hev (.tmp k) (by simp [ho, Op.operands]) p hp) hc
  have hck : C (ixOf ops 0 (.tmp k)) = vc := by
    refine hC _ k vc hix hd ?_
    simp only [evG] at hc
    split at hc
    · exact hc
    · split at hc
      · exact hc
      · simp [boolOf] at hc
  unfold Yields
  cases vc with
  | true =>
    have h2 := tob (hev a (by simp [ho, Op.operands]) _ (holds_snoc hp hck)) ha
    have : (execOp ρ o).run P w = .ok (.value (.bool va)) w := by simp [execOp, ho, h1, h2, asBool]
    rw [this]
    exact ⟨c, Later.refl _ _ _, M, .pv _ _ (by simp [pickB]; exact .bool _)⟩
  | false =>
    have h2 := tob (hev b (by simp [ho, Op.operands]) _ (holds_snoc hp hck)) hb
    have : (execOp ρ o).run P w = .ok (.value (.bool vb)) w := by simp [execOp, ho, h1, h2, asBool]
    rw [this]
    exact ⟨c, Later.refl _ _ _, M, .pv _ _ (by simp [pickB]; exact .bool _)⟩
end Go.Ab
