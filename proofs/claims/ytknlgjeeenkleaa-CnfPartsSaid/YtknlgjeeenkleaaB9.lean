/- A region's operations come to the same in every order that the machine may take. -/
import Derived.Test.YtknlgjeeenkleaaB8
namespace Go.Ab
open Go.RowKit
set_option linter.unusedVariables false
set_option linter.unusedSimpArgs false

/-- What a region comes to, gone through in the order of its text. -/
structure Good (P : Program) (z : Ini) (ops : List Oper) (es : List PE) (s₀ : RS) : Prop where
  len : es.length = ops.length
  g : s₀.g = []
  ok : ∀ j o e, ops[j]? = some o → es[j]? = some e → OK1 P z ops j o (stN ops es s₀ j) e
  dis : ∀ i j d, dstOf ops i = some d → dstOf ops j = some d → i = j
  zn : z.n ≤ s₀.h.length

def Cof (es : List PE) (j : Nat) : Bool := match es[j]? with | some e => (boolOf e.r).getD false | none => false

section
variable {P : Program} {z : Ini} {ops : List Oper} {es : List PE} {s₀ : RS}

theorem stN_hlen (m n : Nat) (h : m ≤ n) : (stN ops es s₀ m).h.length ≤ (stN ops es s₀ n).h.length := by
  induction n with
  | zero => obtain rfl : m = 0 := by omega
            exact Nat.le_refl _
  | succ n ih =>
    by_cases hm : m = n + 1
    · rw [hm]; exact Nat.le_refl _
    · refine Nat.le_trans (ih (by omega)) ?_
      simp only [stN]
      split
      · exact app_len _ _
      · exact Nat.le_refl _

theorem app_bound : ∀ (d : List (Nat × ABlk)) (h : List ABlk), ∀ x ∈ d, x.1 < (app h d).length
  | (i, b) :: d, h, x, hx => by
    rcases List.mem_cons.1 hx with rfl | hx
    · refine Nat.lt_of_lt_of_le ?_ (app_len d _)
      rw [setx_len]; simp only; omega
    · exact app_bound d _ x hx

/-- The memory at the begin, with room for all names. -/
def h0p (ops : List Oper) (es : List PE) (s₀ : RS) : List ABlk := s₀.h ++ List.replicate ((stN ops es s₀ ops.length).h.length - s₀.h.length) .nb

theorem h0p_len : (h0p ops es s₀).length = (stN ops es s₀ ops.length).h.length := by
  have := stN_hlen (ops := ops) (es := es) (s₀ := s₀) 0 ops.length (by omega)
  simp only [stN] at this
  simp [h0p]; omega

theorem Good.din (G : Good P z ops es s₀) : ∀ (j : Nat) (e : PE), es[j]? = some e → ∀ x ∈ e.d, x.1 < (h0p ops es s₀).length := by
  intro j e he x hx
  have hj : j < ops.length := by rw [← G.len]; exact (List.getElem?_eq_some_iff.1 he).1
  rw [h0p_len]
  refine Nat.lt_of_lt_of_le ?_ (stN_hlen (j + 1) ops.length (by omega))
  have ho : ops[j]? = some ops[j] := List.getElem?_eq_getElem hj
  simp only [stN, ho, he, RS.put]
  exact app_bound e.d _ x hx

theorem Good.at (G : Good P z ops es s₀) {j : Nat} (hj : j < ops.length) : ∃ e, es[j]? = some e := ⟨_, List.getElem?_eq_getElem (by rw [G.len]; exact hj)⟩

theorem Good.agp (G : Good P z ops es s₀) : ∀ j, j ≤ ops.length → AgP (stN ops es s₀ j).h (HL es (h0p ops es s₀) (fun _ => true) j)
  | 0, _ => by
    intro k
    simp only [stN, HL, h0p]
    rcases Nat.lt_or_ge k s₀.h.length with h | h
    · rw [List.getElem?_append_left h]; exact ⟨fun b hb => hb, fun hn => .inl hn⟩
    · rw [List.getElem?_append_right h, List.getElem?_eq_none h, List.getElem?_replicate]
      refine ⟨fun b hb => by simp at hb, fun _ => ?_⟩
      split
      · exact .inr rfl
      · exact .inl rfl
  | j + 1, hj => by
    have ih := G.agp j (by omega)
    have ho : ops[j]? = some ops[j] := List.getElem?_eq_getElem (by omega)
    obtain ⟨e, he⟩ := G.at (j := j) (by omega)
    simp only [stN, HL, ho, he, RS.put, if_true]
    refine ih.app _ ?_
    rw [HL_len G.din, h0p_len]
    exact stN_hlen j _ (by omega)

theorem Good.fin (G : Good P z ops es s₀) : HL es (h0p ops es s₀) (fun _ => true) ops.length = (stN ops es s₀ ops.length).h := by
  have a := G.agp ops.length (Nat.le_refl _)
  refine List.ext_getElem? fun k => ?_
  rcases Nat.lt_or_ge k (stN ops es s₀ ops.length).h.length with h | h
  · rw [List.getElem?_eq_getElem h]; exact (a k).1 _ (List.getElem?_eq_getElem h)
  · rw [List.getElem?_eq_none h, List.getElem?_eq_none (by rw [HL_len G.din, h0p_len]; exact h)]

/-- What a path names came up ahead, and was a truth. -/
theorem Good.path (G : Good P z ops es s₀) : ∀ (j : Nat) (e : PE), es[j]? = some e → ∀ x ∈ e.p, x.1 < j ∧ ∃ d, dstOf ops x.1 = some d ∧ d < s₀.t.length ∧ ∃ e', es[x.1]? = some e' ∧ (boolOf e'.r).isSome = true := by
  intro j
  induction j using Nat.strongRecOn with
  | ind j ih =>
    intro e he x hx
    have hj : j < ops.length := by rw [← G.len]; exact (List.getElem?_eq_some_iff.1 he).1
    have ho : ops[j]? = some ops[j] := List.getElem?_eq_getElem hj
    have k := G.ok j _ e ho he
    rw [k.p] at hx
    cases hg : ops[j].guard with
    | none => rw [hg] at hx; simp [pG] at hx
    | some jb =>
      obtain ⟨m, b⟩ := jb
      have kg := k.g
      rw [hg] at hx kg
      simp only [gOk] at kg
      obtain ⟨hm, kg⟩ := kg
      cases hd : dstOf ops m with
      | none => rw [hd] at kg; exact kg.elim
      | some d =>
        rw [hd] at kg
        simp only [pG, hd] at hx
        obtain ⟨em, hem⟩ := G.at (j := m) (by omega)
        obtain ⟨t1, t2⟩ := stN_written (s₀ := s₀) G.dis hd hem j hm (by omega)
        have hlt : d < s₀.t.length := by
          rcases Nat.lt_or_ge d s₀.t.length with h | h
          · exact h
          · rw [if_neg (by omega)] at t1
            simp [List.getD_eq_getElem?_getD, t1, boolOf] at kg
        rcases List.mem_append.1 hx with hx1 | hx
        · cases hlk : lk (stN ops es s₀ j).g d with
          | none => rw [hlk] at hx1; simp at hx1
          | some q =>
            rw [hlk] at hx1
            simp only [Option.getD_some] at hx1
            obtain ⟨i, e', h1, h2, h3, h4, _⟩ := stN_path G.g j hlk
            have : i = m := G.dis i m d h2 hd
            subst this
            rw [← h4] at hx1
            obtain ⟨g1, g2⟩ := ih i hm e' h3 x hx1
            exact ⟨by omega, g2⟩
        · simp at hx
          subst hx
          refine ⟨hm, d, hd, hlt, _, hem, ?_⟩
          rw [if_pos hlt] at t1
          simpa [List.getD_eq_getElem?_getD, t1] using kg

theorem Good.cf (G : Good P z ops es s₀) (j : Nat) (hj : j ≤ ops.length) : CF ops j (stN ops es s₀ j).t (Cof es) := by
  intro i d v hi hd hv
  obtain ⟨e, he⟩ := G.at (j := i) (by omega)
  obtain ⟨t1, _⟩ := stN_written (s₀ := s₀) G.dis hd he j hi hj
  simp only [List.getD_eq_getElem?_getD, t1] at hv
  split at hv
  · simp only [Cof, he]
    simp only [Option.getD_some] at hv
    rw [hv]; rfl
  · simp [boolOf] at hv

/-- Of the operations that have come up, what the machine shows. -/
structure RInv (z : Ini) (ops : List Oper) (es : List PE) (s₀ : RS) (L : Nat → Bool) (u : Array Value) (c : Cx) (w : World) : Prop where
  m : MSim z (HL es (h0p ops es s₀) L ops.length) c w
  sz : u.size = s₀.t.length
  tmp : ∀ (k : Nat) (v : Value), u[k]? = some v →
    (∀ j e, L j = true → dstOf ops j = some k → es[j]? = some e → (holds (Cof es) e.p → ARep c (HL es (h0p ops es s₀) L ops.length) w e.r v) ∧ (¬ holds (Cof es) e.p → v = undef)) ∧
    ((∀ j, L j = true → dstOf ops j ≠ some k) → ∀ x, s₀.t[k]? = some x → ARep c (HL es (h0p ops es s₀) L ops.length) w x v)

def add (L : Nat → Bool) (j : Nat) : Nat → Bool := fun i => i == j || L i

/-- May operation j come up where L has? -/
structure May (ops : List Oper) (es : List PE) (s₀ : RS) (L : Nat → Bool) (j : Nat) (o : Oper) (e : PE) : Prop where
  new : L j = false
  opd : ∀ k, .tmp k ∈ o.op.operands → ∀ i, dstOf ops i = some k → (i < j ↔ L i = true)
  grd : ∀ m b, o.guard = some (m, b) → L m = true
  mem : ∀ k, (k ∈ e.ft ∨ inD e.d k) → ∀ i e', es[i]? = some e' → inD e'.d k → (i < j ↔ L i = true)

theorem Good.memAt (G : Good P z ops es s₀) {L : Nat → Bool} {j : Nat} (hj : j ≤ ops.length) {k : Nat} (hk : ∀ i e', es[i]? = some e' → inD e'.d k → (i < j ↔ L i = true)) :
    (HL es (h0p ops es s₀) L ops.length)[k]? = (HL es (h0p ops es s₀) (fun _ => true) j)[k]? := by
  have e1 := HL_at G.din L (fun i => decide (i < j)) k ops.length (fun i e' hi he hd => by
    have := hk i e' he hd
    by_cases h : i < j
    · simp [h, this.1 h]
    · have h2 : L i = false := by
        cases hL : L i with
        | false => rfl
        | true => exact absurd (this.2 hL) h
      simp [h, h2])
  have e2 := HL_cut (es := es) (h := h0p ops es s₀) (fun i => decide (i < j)) j ops.length hj (fun i hi => by simp; omega)
  have e3 := HL_at G.din (fun i => decide (i < j)) (fun _ => true) k j (fun i e' hi _ _ => by simp [hi])
  rw [e1, e2, e3]

theorem RInv.operand (G : Good P z ops es s₀) {L : Nat → Bool} {a : Act} {c : Cx} {w : World} (r : RInv z ops es s₀ L a.tmps c w) {j : Nat} (hj : j ≤ ops.length) {x : Operand} (hx : ∀ k, x = .tmp k → ∀ i, dstOf ops i = some k → (i < j ↔ L i = true))
    {q : Path} (hq : holds (Cof es) q) : ARep c (HL es (h0p ops es s₀) L ops.length) w (evG q (stN ops es s₀ j).t (stN ops es s₀ j).g x) (a.eval x) := by
  cases x with
  | const v =>
    simp only [evG, evO, Act.eval]
    cases hv : constV v with
    | none => exact .any _
    | some x => exact (constV_rep hv c _ w).1
  | func f => exact .fn (.func f) [] [] [] [] rfl (fun k x v hk => by simp at hk) rfl (fun k x v hk => by simp at hk)
  | global g => exact .any _
  | tmp k =>
    simp only [Act.eval]
    rcases Nat.lt_or_ge k a.tmps.size with hk | hk
    · have hu : a.tmps[k]? = some a.tmps[k] := Array.getElem?_eq_getElem hk
      have hv : a.tmps.getD k undef = a.tmps[k] := by simp [Array.getD_eq_getD_getElem?, hu]
      rw [hv]
      obtain ⟨r1, r2⟩ := r.tmp k _ hu
      have hks : k < s₀.t.length := by rw [← r.sz]; exact hk
      by_cases hw : ∃ i, i < j ∧ dstOf ops i = some k
      · obtain ⟨i, hi, hd⟩ := hw
        obtain ⟨ei, he⟩ := G.at (j := i) (by omega)
        obtain ⟨t1, t2⟩ := stN_written (s₀ := s₀) G.dis hd he j hi hj
        rw [if_pos hks] at t1
        obtain ⟨a1, _⟩ := r1 i _ ((hx k rfl i hd).1 hi) hd he
        simp only [evG]
        cases hlk : lk (stN ops es s₀ j).g k with
        | none =>
          have hp : ei.p = [] := by
            by_cases hp : ei.p = []
            · exact hp
            · rw [t2 hp] at hlk; cases hlk
          simp only [List.getD_eq_getElem?_getD, t1, Option.getD_some]
          exact a1 (by rw [hp]; intro x hx; cases hx)
        | some q' =>
          obtain ⟨i', e', h1, h2, h3, h4, _⟩ := stN_path G.g j hlk
          have : i' = i := G.dis i' i k h2 hd
          subst this
          rw [he] at h3; injection h3 with h3
          simp only
          split
          · rename_i hs
            simp only [List.getD_eq_getElem?_getD, t1, Option.getD_some]
            exact a1 (by rw [h3, h4]; exact subP_holds hs hq)
          · exact .any _
      · have hno : ∀ i, i < j → dstOf ops i ≠ some k := fun i hi hd => hw ⟨i, hi, hd⟩
        have t1 := stN_unwritten (es := es) (s₀ := s₀) (k := k) j hno
        have hlk : lk (stN ops es s₀ j).g k = none := by
          cases hlk : lk (stN ops es s₀ j).g k with
          | none => rfl
          | some q' => obtain ⟨i', e', h1, h2, _⟩ := stN_path G.g j hlk; exact absurd h2 (hno i' h1)
        simp only [evG, hlk, List.getD_eq_getElem?_getD, t1, List.getElem?_eq_getElem hks, Option.getD_some]
        exact r2 (fun i hL hd => hno i ((hx k rfl i hd).2 hL) hd) _ (List.getElem?_eq_getElem hks)
    · have hks : s₀.t.length ≤ k := by rw [← r.sz]; exact hk
      have hn : (stN ops es s₀ j).t.getD k .any = .any := by
        rw [List.getD_eq_getElem?_getD, List.getElem?_eq_none (by rw [stN_len]; exact hks)]; rfl
      simp only [evG, hn]
      split
      · exact .any _
      · split <;> exact .any _
end
end Go.Ab
