/- Regions: by the order of the text alone. -/
import Derived.Test.YtknlgjeeenkleaaC1
namespace Go.Ab
open Go.RowKit
set_option linter.unusedVariables false
set_option linter.unusedSimpArgs false
set_option linter.unnecessarySimpa false

/-- Behind the region nothing is said of what hung on a path. -/
def cleanT : List (Nat × Path) → List AV → List AV
  | [], t => t
  | (d, _) :: g, t => cleanT g (t.set d .any)
theorem cleanT_len : ∀ (g : List (Nat × Path)) (t : List AV), (cleanT g t).length = t.length
  | [], t => rfl
  | (d, p) :: g, t => by rw [cleanT, cleanT_len g]; simp
theorem cleanT_get : ∀ (g : List (Nat × Path)) (t : List AV) (k : Nat) (x : AV), (cleanT g t)[k]? = some x → x = .any ∨ (lk g k = none ∧ t[k]? = some x)
  | [], t, k, x, h => .inr ⟨rfl, h⟩
  | (d, p) :: g, t, k, x, h => by
    rcases cleanT_get g (t.set d .any) k x h with h1 | ⟨h1, h2⟩
    · exact .inl h1
    · rw [List.getElem?_set] at h2
      by_cases hd : d = k
      · rw [if_pos hd] at h2
        split at h2
        · injection h2 with h2; exact .inl h2.symm
        · cases h2
      · rw [if_neg hd] at h2
        exact .inr ⟨by simp [lk, hd, h1], h2⟩

theorem MSim.pad {z : Ini} {h : List ABlk} {c : Cx} {w : World} (s : MSim z h c w) (m : Nat) : Later c h w c (h ++ List.replicate m .nb) w ∧ MSim z (h ++ List.replicate m .nb) c w := by
  have at_ : ∀ (i : Nat) (b : ABlk), (h ++ List.replicate m ABlk.nb)[i]? = some b → h[i]? = some b ∨ b = .nb := by
    intro i b hb
    rcases Nat.lt_or_ge i h.length with hi | hi
    · rw [List.getElem?_append_left hi] at hb; exact .inl hb
    · rw [List.getElem?_append_right hi, List.getElem?_replicate] at hb
      split at hb
      · injection hb with hb; exact .inr hb.symm
      · cases hb
  have keep : ∀ (i : Nat) (b : ABlk), h[i]? = some b → (h ++ List.replicate m ABlk.nb)[i]? = some b := fun i b hb => by
    rw [List.getElem?_append_left (List.getElem?_eq_some_iff.1 hb).1]; exact hb
  have lvo : ∀ i, lv c (h ++ List.replicate m .nb) i → lv c h i := fun i l => by
    obtain ⟨b, hb, h1, h2⟩ := lv_some l
    rcases at_ i b hb with hb' | e
    · unfold lv at *; rw [hb] at l; rw [hb']; exact l
    · exact absurd e h1
  have L : Later c h w c (h ++ List.replicate m .nb) w := ⟨fun _ h => h, fun _ _ => rfl, fun i b hi hb => ⟨b, keep i b hi, hb, fun _ => ⟨rfl, rfl⟩, fun cs e => ⟨cs, e⟩, fun sz rows e => ⟨rows, e, Nat.le_refl _⟩, fun es e => ⟨es, e⟩⟩⟩
  refine ⟨L, s.step rfl rfl rfl (Nat.le_refl _) (fun _ _ _ => rfl) ⟨fun i b hi => ?_, fun i j li lj => s.hs.inj i j (lvo i li) (lvo j lj), fun i li => s.hs.nok i (lvo i li), s.hs.okb⟩ (fun i li => .inl ⟨i, lvo i li, rfl⟩) (fun x hx => .inl hx) (fun x hx => hx) (by simp; have := s.ext.1; omega) (fun i hi => ⟨rfl, rfl⟩)⟩
  rcases at_ i b hi with hb | rfl
  · exact (s.hs.blk i b hb).later L (fun _ => ⟨rfl, rfl⟩) (fun _ => rfl) hb
  · trivial

section
variable {P : Program} {z : Ini} {opsA : Array Oper} {es : List PE} {s₀ : RS}

theorem RInv.start (G : Good P z opsA.toList es s₀) {a : Act} {c : Cx} {w : World} (m : MSim z s₀.h c w) (t : TSim c s₀.h w s₀.t a.tmps) : RInv z opsA.toList es s₀ (fun _ => false) a.tmps c w := by
  have hH : HL es (h0p opsA.toList es s₀) (fun _ => false) opsA.toList.length = h0p opsA.toList es s₀ := by
    have := HL_cut (es := es) (h := h0p opsA.toList es s₀) (fun _ => false) 0 opsA.toList.length (by omega) (fun _ _ => rfl)
    rw [this]; rfl
  obtain ⟨L, M⟩ := m.pad ((stN opsA.toList es s₀ opsA.toList.length).h.length - s₀.h.length)
  refine ⟨by rw [hH]; exact M, t.1.symm, fun k v hv => ⟨fun j e hL => by simp at hL, fun _ x hx => ?_⟩⟩
  rw [hH]
  exact (t.2 k x v hx hv).later L

theorem RInv.fin (G : Good P z opsA.toList es s₀) {L : Nat → Bool} (hL : ∀ j, j < opsA.toList.length → L j = true) {a : Act} {c : Cx} {w : World} (r : RInv z opsA.toList es s₀ L a.tmps c w) (hdf : a.defers = []) :
    Sim z ⟨cleanT (stN opsA.toList es s₀ opsA.toList.length).g (stN opsA.toList es s₀ opsA.toList.length).t, (stN opsA.toList es s₀ opsA.toList.length).h⟩ c a w := by
  have hH : HL es (h0p opsA.toList es s₀) L opsA.toList.length = (stN opsA.toList es s₀ opsA.toList.length).h := by
    rw [← G.fin]
    refine List.ext_getElem? fun k => HL_at G.din L (fun _ => true) k _ fun j e hj _ _ => by simp [hL j hj]
  have m := r.m
  rw [hH] at m
  refine ⟨m, ⟨by rw [cleanT_len, stN_len, r.sz], fun k x v hk hv => ?_⟩, hdf⟩
  rcases cleanT_get _ _ _ _ hk with rfl | ⟨h1, h2⟩
  · exact .any _
  · have := r.operand G (j := opsA.toList.length) (Nat.le_refl _) (x := .tmp k) (fun q e i hi => by
      have hi' : i < opsA.toList.length := by
        unfold dstOf at hi
        cases ho : opsA.toList[i]? with
        | none => simp [ho] at hi
        | some o => exact (List.getElem?_eq_some_iff.1 ho).1
      exact ⟨fun _ => hL i hi', fun _ => hi'⟩) (q := []) (by intro x hx; cases hx)
    rw [hH] at this
    simp only [evG, h1, List.getD_eq_getElem?_getD, h2, Option.getD_some, Act.eval, Array.getD_eq_getD_getElem?, hv] at this
    exact this

/-- All temporaries that are written are told apart. -/
def distinctB (ops : List Oper) : Bool := go ops []
where go : List Oper → List Nat → Bool
  | [], _ => true
  | o :: l, seen => match o.dst with
    | none => go l seen
    | some d => !seen.contains d && go l (d :: seen)
theorem distinctB_spec : ∀ {ops : List Oper} {seen : List Nat}, distinctB.go ops seen = true → (∀ i d, dstOf ops i = some d → d ∉ seen) ∧ ∀ i j d, dstOf ops i = some d → dstOf ops j = some d → i = j
  | [], _, _ => ⟨fun i d h => by simp [dstOf] at h, fun i j d h => by simp [dstOf] at h⟩
  | o :: l, seen, h => by
    simp only [distinctB.go] at h
    cases hd : o.dst with
    | none =>
      rw [hd] at h
      obtain ⟨h1, h2⟩ := distinctB_spec h
      refine ⟨fun i d hi => ?_, fun i j d hi hj => ?_⟩
      · cases i with
        | zero => simp [dstOf, hd] at hi
        | succ i => exact h1 i d (by simpa [dstOf] using hi)
      · cases i with
        | zero => simp [dstOf, hd] at hi
        | succ i => cases j with
          | zero => simp [dstOf, hd] at hj
          | succ j => rw [h2 i j d (by simpa [dstOf] using hi) (by simpa [dstOf] using hj)]
    | some q =>
      rw [hd] at h
      simp only [Bool.and_eq_true, Bool.not_eq_true', List.contains_eq_mem, decide_eq_false_iff_not] at h
      obtain ⟨h1, h2⟩ := distinctB_spec h.2
      refine ⟨fun i d hi => ?_, fun i j d hi hj => ?_⟩
      · cases i with
        | zero => simp [dstOf, hd] at hi; subst hi; exact h.1
        | succ i => exact fun hm => h1 i d (by simpa [dstOf] using hi) (by simp [hm])
      · cases i with
        | zero =>
          simp [dstOf, hd] at hi; subst hi
          cases j with
          | zero => rfl
          | succ j => exact absurd (by simp) (h1 j q (by simpa [dstOf] using hj))
        | succ i => cases j with
          | zero => simp [dstOf, hd] at hj; subst hj; exact absurd (by simp) (h1 i q (by simpa [dstOf] using hi))
          | succ j => rw [h2 i j d (by simpa [dstOf] using hi) (by simpa [dstOf] using hj)]

/-- A region that goes by its text. -/
theorem AW.regionT {id : Nat} {σ : St} {Q : Exit → St → Prop} {s' : RS} (hr : RTr P z opsA.toList 0 opsA.toList ⟨σ.t, [], σ.h⟩ es s') (hd : distinctB opsA.toList = true) (h : Q .normal ⟨cleanT s'.g s'.t, s'.h⟩) : AW P z (.region id opsA false) σ Q := fun c a w s => by
  obtain ⟨h1, h2, h3⟩ := RTr.all (s₀ := ⟨σ.t, [], σ.h⟩) (es₀ := es) hr (fun j => by simp) (fun j => by simp) rfl
  have G : Good P z opsA.toList es ⟨σ.t, [], σ.h⟩ := ⟨h1, rfl, fun j o e ho he => by simpa using h3 j o e ho he, (distinctB_spec hd).2, s.m.ext.1⟩
  have hn : opsA.toList.length = opsA.size := by simp
  refine wp_region ?_
  have key : ∀ m j, m + j = opsA.size → ∀ a c w, RInv z opsA.toList es ⟨σ.t, [], σ.h⟩ (fun i => decide (i < j)) a.tmps c w → a.defers = [] → wpOps P opsA (lift z Q) (List.range' j m) a w := by
    intro m
    induction m with
    | zero =>
      intro j hj a c w r hdf
      simp only [List.range'_zero, wpOps]
      have := r.fin G (fun i hi => by simp; omega) hdf
      simp only [Nat.zero_add] at h2
      rw [← h2] at this
      exact ⟨_, c, h, this⟩
    | succ m ih =>
      intro j hj a c w r hdf
      rw [List.range'_succ, wpOps_cons]
      have hlt : j < opsA.size := by omega
      have ho : opsA[j]? = some opsA[j] := Array.getElem?_eq_getElem hlt
      obtain ⟨e, he⟩ := G.at (j := j) (by omega)
      refine r.step G hdf ho he ⟨by simp, fun k _ i _ => by simp, fun m b hg => ?_, fun k _ i e' _ _ => by simp⟩ fun a' c' w' r' hdf' => ih (j + 1) (by omega) a' c' w' ?_ hdf'
      · have := (G.ok j opsA[j] e (by simpa using ho) he).g
        rw [hg] at this
        simp only [gOk] at this
        simpa using this.1
      · have : add (fun i => decide (i < j)) j = fun i => decide (i < j + 1) := by
          funext i
          simp only [add]
          by_cases h : i = j
          · simp [h]
          · have : (decide (i < j) : Bool) = decide (i < j + 1) := by
              rw [decide_eq_decide]; omega
            simp [h, this]
        rwa [this] at r'
  have := key opsA.size 0 (by omega) a c w (by simpa using RInv.start G s.m s.ts) s.df
  rwa [List.range_eq_range']
end
end Go.Ab
