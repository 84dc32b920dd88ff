/- Loops; a state forgotten in part; names of blocks taken anew; lists that nobody changes any more. -/
import Derived.Test.YtknlgjeeenkleaaB2
namespace Go.Ab
open Go.RowKit
set_option linter.unusedVariables false
set_option linter.unusedSimpArgs false

/-! ### From one plain state to one that says less -/
def Wk (z : Ini) (σ σ' : St) : Prop := ∀ c a w, Sim z σ c a w → ∃ c', Sim z σ' c' a w
theorem Wk.refl (z : Ini) (σ : St) : Wk z σ σ := fun c _ _ s => ⟨c, s⟩
theorem Wk.trans {z : Ini} {σ σ₁ σ₂ : St} (h : Wk z σ σ₁) (k : Wk z σ₁ σ₂) : Wk z σ σ₂ := fun c a w s => let ⟨c', s'⟩ := h c a w s; k c' a w s'
theorem Wk.aw {P : Program} {z : Ini} {code : Code} {σ σ' : St} {Q : Exit → St → Prop} (h : Wk z σ σ') (k : AW P z code σ' Q) : AW P z code σ Q := fun c a w s => let ⟨c', s'⟩ := h c a w s; k c' a w s'
theorem Wk.awl {P : Program} {z : Ini} {ops : Array Oper} {l : List Oper} {σ σ' : St} {Q : Exit → St → Prop} (h : Wk z σ σ') (k : AWL P z ops l σ' Q) : AWL P z ops l σ Q := fun c a w s => let ⟨c', s'⟩ := h c a w s; k c' a w s'

/-- Each temporary is what it was, or nothing is said of it. -/
def wkT : List AV → List AV → Prop
  | [], [] => True
  | x :: xs, y :: ys => (y = .any ∨ y = x) ∧ wkT xs ys
  | _, _ => False
theorem wkT_get : ∀ {xs ys : List AV}, wkT xs ys → xs.length = ys.length ∧ ∀ (k : Nat) (y : AV), ys[k]? = some y → y = .any ∨ xs[k]? = some y
  | [], [], _ => ⟨rfl, fun k y h => by simp at h⟩
  | x :: xs, y :: ys, h => by
    obtain ⟨h1, h2⟩ := wkT_get h.2
    refine ⟨by simp [h1], fun k v hk => ?_⟩
    cases k with
    | zero => simp at hk; subst hk; rcases h.1 with e | e
              · exact .inl e
              · exact .inr (by simp [e])
    | succ k => simpa using h2 k v (by simpa using hk)
  | [], _ :: _, h => h.elim
  | _ :: _, [], h => h.elim
theorem Wk.any {z : Ini} {t t' : List AV} {h : List ABlk} (hw : wkT t t') : Wk z ⟨t, h⟩ ⟨t', h⟩ := fun c a w s => by
  obtain ⟨h1, h2⟩ := wkT_get hw
  refine ⟨c, s.m, ⟨by rw [← h1]; exact s.ts.1, fun k x v hk hv => ?_⟩, s.df⟩
  rcases h2 k x hk with rfl | e
  · exact .any _
  · exact s.ts.2 k x v e hv

/-- Temporaries whose value says less, by whatever reason. -/
theorem Wk.weak {z : Ini} {t t' : List AV} {h : List ABlk} (hl : t.length = t'.length) (hw : ∀ c w, MSim z h c w → ∀ (k : Nat) (x x' : AV) (v : Value), t[k]? = some x → t'[k]? = some x' → ARep c h w x v → ARep c h w x' v) : Wk z ⟨t, h⟩ ⟨t', h⟩ := fun c a w s => by
  refine ⟨c, s.m, ⟨by rw [← hl]; exact s.ts.1, fun k x v hk hv => ?_⟩, s.df⟩
  have hlt : k < t.length := by rw [hl]; exact (List.getElem?_eq_some_iff.1 hk).1
  exact hw c w s.m k _ x v (List.getElem?_eq_getElem hlt) hk (s.ts.2 k _ v (List.getElem?_eq_getElem hlt) hv)

/-! ### A nil slice as one that may grow -/
theorem Wk.vec {z : Ini} {t : List AV} {h : List ABlk} (sz : Nat) (k sz' : Nat) (hk : t[k]? = some (.pv (.lst true sz' []))) : Wk z ⟨t, h⟩ ⟨t.set k (.vs h.length 0 0), setx h h.length (.vec sz [])⟩ := fun c a w s => by
  have hu := unborn_len h
  let c' : Cx := c.born h.length 0 (0, 0)
  have L : Later c h w c' (setx h h.length (.vec sz [])) w := later_born hu (fun _ h => h) (fun _ _ => rfl) (c.born_other h.length 0 (0, 0))
  have lvi : ¬ lv c' (setx h h.length (.vec sz [])) h.length := by simp [lv, setx_same, c', Cx.born_vd]
  have lvo : ∀ j, lv c' (setx h h.length (.vec sz [])) j → j ≠ h.length ∧ lv c h j := fun j l => by
    by_cases hne : j = h.length
    · subst hne; exact (lvi l).elim
    · exact ⟨hne, (lv_setx_other hne (c.born_other h.length 0 (0, 0) j hne).2).1 l⟩
  have M : MSim z (setx h h.length (.vec sz [])) c' w := by
    refine s.m.step rfl rfl rfl (Nat.le_refl _) (fun _ _ _ => rfl) ⟨fun j x hj => ?_, fun j q lj lq e => ?_, fun j lj => ?_, s.m.hs.okb⟩ (fun j lj => .inl ⟨j, (lvo j lj).2, (c.born_other _ _ _ j (lvo j lj).1).1⟩) (fun x hx => .inl hx) (fun x hx => hx)
      (Nat.le_trans s.m.ext.1 (setx_length _ _ _)) (fun j hj => c.born_other _ _ _ j (by have := s.m.ext.1; simp only at this; omega))
    · rcases setx_get hj with ⟨rfl, rfl⟩ | ⟨hne, hj' | rfl⟩
      · exact ⟨by simp, fun j row hr => by simp at hr, fun hp => by simp [c', Cx.born_vd] at hp⟩
      · exact (s.m.hs.blk j x hj').later L (fun _ => c.born_other _ _ _ j hne) (fun l => rfl) hj'
      · trivial
    · rw [(c.born_other _ _ _ j (lvo j lj).1).1, (c.born_other _ _ _ q (lvo q lq).1).1] at e
      exact s.m.hs.inj j q (lvo j lj).2 (lvo q lq).2 e
    · rw [(c.born_other _ _ _ j (lvo j lj).1).1]
      exact s.m.hs.nok j (lvo j lj).2
  refine ⟨c', M, ⟨by simp only [List.length_set]; exact s.ts.1, fun j x v hj hv => ?_⟩, s.df⟩
  simp only [List.getElem?_set] at hj
  by_cases hjk : k = j
  · subst hjk
    have hlt : k < t.length := (List.getElem?_eq_some_iff.1 hk).1
    simp only [if_pos, hlt] at hj
    injection hj with hj; subst hj
    have hr := s.ts.2 k _ v hk hv
    cases hr with
    | pv _ _ hr =>
      cases hr with
      | lst _ _ _ A cc us h1 h2 h3 h4 h5 h6 =>
        have hc0 : cc = 0 := h3 rfl
        subst hc0
        refine .vs _ 0 0 _ (.vec sz []) rfl (setx_same _ _ _) (by intro h; cases h) fun sz2 rows2 e => ?_
        injection e with e1 e2; subst e1; subst e2
        exact ⟨by simp, A, by simp [c', Cx.born_vd], fun h => by simp [c', Cx.born_vd] at h⟩
  · rw [if_neg hjk] at hj
    exact (s.ts.2 j x v hj hv).later L

/-! ### A loop -/
def loopK (I : Nat → St → Prop) (z : Ini) (n : Nat) (Q : Exit → St → Prop) : Exit → St → Prop := fun e σ => match e with
  | .normal => ∃ m σ', m < n ∧ I m σ' ∧ Wk z σ σ'
  | e => Q e σ
theorem AW.loop {P : Program} {z : Ini} {b : Code} {σ : St} {Q : Exit → St → Prop} (I : Nat → St → Prop) (n : Nat) (σ₀ : St) (h₀ : I n σ₀) (hw : Wk z σ σ₀)
    (hr : ∀ n σ, I n σ → AW P z b σ (loopK I z n Q)) : AW P z (.loop b) σ Q := by
  have key : ∀ N m σ, m < N → I m σ → ∀ c a w, Sim z σ c a w → Code.rounds P b (lift z Q) N a w := by
    intro N
    induction N with
    | zero => intro m σ hm; omega
    | succ N ih =>
      intro m σ hm hI c a w s
      rw [rounds_succ]
      refine Code.wp_mono ?_ (hr m σ hI c a w s)
      intro e a' w' ⟨σ', c', q, s'⟩
      cases e with
      | normal =>
        obtain ⟨m', σ'', h1, h2, h3⟩ := q
        obtain ⟨c'', s''⟩ := h3 c' a' w' s'
        exact ih m' σ'' (by omega) h2 c'' a' w' s''
      | _ => exact ⟨σ', c', q, s'⟩
  intro c a w s
  obtain ⟨c', s'⟩ := hw c a w s
  exact wp_loop_rounds (n + 1) (key (n + 1) n σ₀ (by omega) h₀ c' a w s')
/-- A loop that goes round no more than n times, round by round. -/
def roundK (R : St → Prop) (Q : Exit → St → Prop) : Exit → St → Prop := fun e σ => match e with
  | .normal => R σ
  | e => Q e σ
def ARounds (P : Program) (z : Ini) (b : Code) (Q : Exit → St → Prop) : Nat → St → Prop
  | 0, _ => False
  | n + 1, σ => AW P z b σ (roundK (ARounds P z b Q n) Q)
theorem AW.rounds {P : Program} {z : Ini} {b : Code} {σ : St} {Q : Exit → St → Prop} (n : Nat) (h : ARounds P z b Q n σ) : AW P z (.loop b) σ Q := by
  have key : ∀ n σ, ARounds P z b Q n σ → ∀ c a w, Sim z σ c a w → Code.rounds P b (lift z Q) n a w := by
    intro n
    induction n with
    | zero => intro σ h; exact h.elim
    | succ n ih =>
      intro σ h c a w s
      rw [rounds_succ]
      refine Code.wp_mono ?_ (h c a w s)
      intro e a' w' ⟨σ', c', q, s'⟩
      cases e with
      | normal => exact ih σ' q c' a' w' s'
      | _ => exact ⟨σ', c', q, s'⟩
  exact fun c a w s => wp_loop_rounds n (key n σ h c a w s)

theorem AW.scope {P : Program} {z : Ini} {b : Code} {σ : St} {Q : Exit → St → Prop} (h : AW P z b σ (fun e σ => match e with | .goto _ => False | e => Q e σ)) : AW P z (.scope b) σ Q := fun c a w s => by
  refine wp_scope_straight (Code.wp_mono ?_ (h c a w s))
  intro e a' w' ⟨σ', c', q, s'⟩
  cases e with
  | goto l => exact q.elim
  | _ => exact ⟨σ', c', q, s'⟩
theorem AW.label {P : Program} {z : Ini} {n : Nat} {σ : St} {Q : Exit → St → Prop} (h : Q .normal σ) : AW P z (.label n) σ Q := fun c a w s => wp_label ⟨σ, c, h, s⟩
end Go.Ab
