/- Regions that draw their order; guards. -/
import Derived.Test.YtalgjggmhhdkkaaDoorKB
namespace Go.Ab
open Go.RowKit
set_option linter.unusedVariables false
set_option linter.unusedSimpArgs false

section
variable {P : Program} {z : Ini} {opsA : Array Oper} {es : List PE} {s₀ : RS}

theorem HL_add (G : Good P z opsA.toList es s₀) {L : Nat → Bool} {j : Nat} {e : PE} (hj : j < opsA.toList.length) (he : es[j]? = some e) (hm : ∀ k, inD e.d k → ∀ i e', es[i]? = some e' → inD e'.d k → (i < j ↔ L i = true)) (hnew : L j = false) :
    HL es (h0p opsA.toList es s₀) (add L j) opsA.toList.length = app (HL es (h0p opsA.toList es s₀) L opsA.toList.length) e.d := by
  have hin := G.din
  have l1 := HL_len hin (add L j) opsA.toList.length
  have l2 := HL_len hin L opsA.toList.length
  refine List.ext_getElem? fun k => ?_
  by_cases hd : inD e.d k
  · have hk := hm k hd
    have e1 := HL_at hin (add L j) (fun i => decide (i < j + 1)) k opsA.toList.length (fun i e' hi he' hd' => by
      have := hk i e' he' hd'
      by_cases h : i = j
      · simp [add, h]
      · by_cases h2 : i < j
        · simp [add, this.1 h2]; omega
        · have h3 : L i = false := by
            cases hL : L i with
            | false => rfl
            | true => exact absurd (this.2 hL) h2
          have h4 : decide (i < j + 1) = false := by simp; omega
          rw [h4]
          simp [add, h, h3])
    have e2 := HL_cut (es := es) (h := h0p opsA.toList es s₀) (fun i => decide (i < j + 1)) (j + 1) opsA.toList.length (by omega) (fun i hi => by simp; omega)
    rw [e1, e2]
    simp only [HL, he, show decide (j < j + 1) = true from by simp, if_true]
    exact app_get e.d _ _ (fun x hx => by rw [HL_len hin]; exact hin j e he x hx) (fun x hx => by rw [l2]; exact hin j e he x hx) (.inl hd)
  · rw [app_other e.d _ (fun x hx => by rw [l2]; exact hin j e he x hx) hd]
    exact HL_at hin (add L j) L k _ (fun i e' hi he' hd' => by
      by_cases h : i = j
      · subst h; rw [he] at he'; injection he' with he'; subst he'; exact absurd hd' hd
      · simp [add, h])

theorem pth_holds {C : Nat → Bool} {p : Path} {m : Nat} {b : Bool} : holds C (p ++ [(m, b)]) ↔ holds C p ∧ C m = b := by
  constructor
  · intro h
    exact ⟨fun x hx => h x (by simp [hx]), h (m, b) (by simp)⟩
  · intro ⟨h1, h2⟩
    exact holds_snoc h1 h2

theorem RInv.step (G : Good P z opsA.toList es s₀) {L : Nat → Bool} {a : Act} {c : Cx} {w : World} (r : RInv z opsA.toList es s₀ L a.tmps c w) (hdf : a.defers = []) {j : Nat} {o : Oper} {e : PE} (ho : opsA[j]? = some o) (he : es[j]? = some e) (M : May opsA.toList es s₀ L j o e)
    {K : Act → World → Prop} {Q : Exit → Act → World → Prop} (hK : ∀ a' c' w', RInv z opsA.toList es s₀ (add L j) a'.tmps c' w' → a'.defers = [] → K a' w') : wpOp P opsA Q j K a w := by
  have ho' : opsA.toList[j]? = some o := by simpa using ho
  have hj : j < opsA.toList.length := (List.getElem?_eq_some_iff.1 ho').1
  have k := G.ok j o e ho' he
  have hadd := HL_add G hj he (fun q hq => M.mem q (.inr hq)) M.new
  -- whether the guard lets it run is whether its path holds
  have hw : Region.wanted o (yielded opsA a.tmps) = true ↔ holds (Cof es) e.p := by
    rw [k.p]
    cases hg : o.guard with
    | none => simp [Region.wanted, hg, pG]; intro x hx; cases hx
    | some mb =>
      obtain ⟨m, b⟩ := mb
      have kg := k.g
      rw [hg] at kg
      simp only [gOk] at kg
      obtain ⟨hm, kg⟩ := kg
      cases hd : dstOf opsA.toList m with
      | none => rw [hd] at kg; exact kg.elim
      | some d =>
        rw [hd] at kg
        obtain ⟨em, hem⟩ := G.at (j := m) (by omega)
        obtain ⟨t1, t2⟩ := stN_written (s₀ := s₀) G.dis hd hem j hm (by omega)
        have hlt : d < s₀.t.length := by
          rcases Nat.lt_or_ge d s₀.t.length with h | h
          · exact h
          · rw [if_neg (by omega)] at t1
            simp [List.getD_eq_getElem?_getD, t1, boolOf] at kg
        rw [if_pos hlt] at t1
        simp only [List.getD_eq_getElem?_getD, t1, Option.getD_some] at kg
        obtain ⟨v, hv⟩ := Option.isSome_iff_exists.1 kg
        have hev : em.r = .pv (.bool v) := by
          unfold boolOf at hv
          split at hv
          · rename_i heq; injection hv with hv; rw [heq, hv]
          · cases hv
        have hC : Cof es m = v := by simp [Cof, hem, hv]
        have hp : pG opsA.toList (stN opsA.toList es s₀ j).g (some (m, b)) = em.p ++ [(m, b)] := by
          simp only [pG, hd]
          congr 1
          cases hlk : lk (stN opsA.toList es s₀ j).g d with
          | none =>
            by_cases hp : em.p = []
            · rw [hp]; rfl
            · rw [t2 hp] at hlk; cases hlk
          | some q =>
            obtain ⟨i, e', h1, h2, h3, h4, _⟩ := stN_path G.g j hlk
            have : i = m := G.dis i m d h2 hd
            subst this
            rw [hem] at h3; injection h3 with h3
            rw [← h4, ← h3]; rfl
        rw [hp, pth_holds, hC]
        have hks : d < a.tmps.size := by rw [r.sz]; exact hlt
        have hu : a.tmps[d]? = some a.tmps[d] := Array.getElem?_eq_getElem hks
        obtain ⟨r1, _⟩ := r.tmp d _ hu
        obtain ⟨a1, a2⟩ := r1 m em (M.grd m b hg) hd hem
        have hy : yielded opsA a.tmps m = match a.tmps[d] with | .bool b => some b | _ => none := by
          have hd' : (opsA[m]?).bind (·.dst) = some d := by simpa [dstOf] using hd
          simp only [yielded, hd', Option.bind_some, hu]
          cases a.tmps[d] <;> rfl
        simp only [Region.wanted, hg]
        by_cases hh : holds (Cof es) em.p
        · have := a1 hh
          rw [hev] at this
          have hb : a.tmps[d] = .bool v := by
            generalize a.tmps[d] = q at this
            cases this with | pv _ _ hr => cases hr; rfl
          rw [hy, hb]
          simp [hh]
        · have := a2 hh
          rw [hy, this]
          simp [hh, undef]
  unfold wpOp
  rw [ho]
  simp only
  by_cases hwt : Region.wanted o (yielded opsA a.tmps) = true
  · rw [if_pos hwt]
    left
    have hh := hw.1 hwt
    have hpp : ppT opsA.toList (stN opsA.toList es s₀ j).t e.p := by
      have hpath := G.path j e he
      have : ∀ q : Path, (∀ x ∈ q, x ∈ e.p) → ppT opsA.toList (stN opsA.toList es s₀ j).t q := by
        intro q
        induction q with
        | nil => intro _; trivial
        | cons x q ih =>
          intro hq
          obtain ⟨m, b⟩ := x
          obtain ⟨g1, d, g2, g3, em, g4, g5⟩ := hpath (m, b) (hq _ (by simp))
          simp only at g1 g2 g4
          refine ⟨?_, ih (fun x hx => hq x (by simp [hx]))⟩
          rw [g2]
          obtain ⟨t1, _⟩ := stN_written (s₀ := s₀) G.dis g2 g4 j g1 (by omega)
          rw [if_pos g3] at t1
          simp only [List.getD_eq_getElem?_getD, t1, Option.getD_some]
          obtain ⟨v, hv⟩ := Option.isSome_iff_exists.1 g5
          have hC := hh (m, b) (hq _ (by simp))
          simp only [Cof, g4, hv, Option.getD_some] at hC
          rw [hv, hC]
      exact this e.p (fun x hx => hx)
    have hls := k.ls hpp (Cof es) (HL es (h0p opsA.toList es s₀) L opsA.toList.length) c w a.eval (G.cf j (by omega)) hh (Nat.le_trans G.zn (by have := stN_hlen (ops := opsA.toList) (es := es) (s₀ := s₀) 0 j (by omega); simpa [stN] using this))
      (fun q hq => by
        unfold EqN
        rw [G.memAt (by omega) (M.mem q (.inl hq))]
        have ag := (G.agp j (by omega)) q
        cases hs : (stN opsA.toList es s₀ j).h[q]? with
        | some b => exact .inl (ag.1 b hs)
        | none =>
          rcases ag.2 hs with h | h
          · exact .inl h
          · exact .inr ⟨rfl, h⟩)
      (fun x hx hge => by
        have hd : inD e.d x.1 := ⟨x.2, hx⟩
        unfold unborn
        rw [G.memAt (by omega) (M.mem x.1 (.inr hd))]
        exact ((G.agp j (by omega)) x.1).2 (List.getElem?_eq_none hge))
      r.m (fun f => rfl) (fun x hx q hq => r.operand G (by omega) (fun q' e' i hi => M.opd q' (by rw [← e']; exact hx) i hi) hq)
    refine hls.wp fun c' v w' Lt Mm hr => hK _ c' w' ⟨by rw [hadd]; exact Mm, ?_, fun q u hu => ⟨fun i e' hL hd he' => ?_, fun hno x hx => ?_⟩⟩ (by rw [put_defers]; exact hdf)
    · cases hdst : o.dst <;> simp [Act.put, r.sz]
    · rw [hadd]
      by_cases hij : i = j
      · subst hij
        rw [he] at he'; injection he' with he'; subst he'
        have hdst : o.dst = some q := by simpa [dstOf, ho'] using hd
        rw [hdst] at hu
        simp only [Act.put, Array.getElem?_setIfInBounds] at hu
        split at hu
        · split at hu
          · injection hu with hu; subst hu; exact ⟨fun _ => hr, fun h => absurd hh h⟩
          · cases hu
        · rename_i hne; exact absurd trivial hne
      · have hne : o.dst ≠ some q := fun h => hij (G.dis i j q hd (by simp [dstOf, ho', h]))
        have hu' : a.tmps[q]? = some u := by
          cases hdst : o.dst with
          | none => rw [hdst] at hu; exact hu
          | some d => rw [hdst] at hu; simp only [Act.put, Array.getElem?_setIfInBounds] at hu; rwa [if_neg (fun e => hne (by rw [hdst, e]))] at hu
        have hL' : L i = true := by simpa [add, hij] using hL
        obtain ⟨a1, a2⟩ := (r.tmp q u hu').1 i e' hL' hd he'
        exact ⟨fun h => (a1 h).later Lt, a2⟩
    · rw [hadd]
      have hne : o.dst ≠ some q := fun h => hno j (by simp [add]) (by simp [dstOf, ho', h])
      have hu' : a.tmps[q]? = some u := by
        cases hdst : o.dst with
        | none => rw [hdst] at hu; exact hu
        | some d => rw [hdst] at hu; simp only [Act.put, Array.getElem?_setIfInBounds] at hu; rwa [if_neg (fun e => hne (by rw [hdst, e]))] at hu
      exact ((r.tmp q u hu').2 (fun i hL => hno i (by simp [add, hL])) x hx).later Lt
  · rw [if_neg hwt]
    have hh : ¬ holds (Cof es) e.p := fun h => hwt (hw.2 h)
    have hp : e.p ≠ [] := fun h => hh (by rw [h]; intro x hx; cases hx)
    have hd0 := k.d hp
    rw [hd0] at hadd
    simp only [app] at hadd
    refine hK _ c w ⟨by rw [hadd]; exact r.m, ?_, fun q u hu => ⟨fun i e' hL hd he' => ?_, fun hno x hx => ?_⟩⟩ (by rw [put_defers]; exact hdf)
    · cases hdst : o.dst <;> simp [Act.put, r.sz]
    · rw [hadd]
      by_cases hij : i = j
      · subst hij
        rw [he] at he'; injection he' with he'; subst he'
        have hdst : o.dst = some q := by simpa [dstOf, ho'] using hd
        rw [hdst] at hu
        simp only [Act.put, Array.getElem?_setIfInBounds] at hu
        split at hu
        · split at hu
          · injection hu with hu; subst hu; exact ⟨fun h => absurd h hh, fun _ => rfl⟩
          · cases hu
        · rename_i hne; exact absurd trivial hne
      · have hne : o.dst ≠ some q := fun h => hij (G.dis i j q hd (by simp [dstOf, ho', h]))
        have hu' : a.tmps[q]? = some u := by
          cases hdst : o.dst with
          | none => rw [hdst] at hu; exact hu
          | some d => rw [hdst] at hu; simp only [Act.put, Array.getElem?_setIfInBounds] at hu; rwa [if_neg (fun e => hne (by rw [hdst, e]))] at hu
        exact (r.tmp q u hu').1 i e' (by simpa [add, hij] using hL) hd he'
    · rw [hadd]
      have hne : o.dst ≠ some q := fun h => hno j (by simp [add]) (by simp [dstOf, ho', h])
      have hu' : a.tmps[q]? = some u := by
        cases hdst : o.dst with
        | none => rw [hdst] at hu; exact hu
        | some d => rw [hdst] at hu; simp only [Act.put, Array.getElem?_setIfInBounds] at hu; rwa [if_neg (fun e => hne (by rw [hdst, e]))] at hu
      exact (r.tmp q u hu').2 (fun i hL => hno i (by simp [add, hL])) x hx
end
end Go.Ab
namespace Go.Ab
open Go.RowKit
set_option linter.unusedVariables false
set_option linter.unusedSimpArgs false
set_option linter.unnecessarySimpa false

/-- Behind the region nothing is said of what hung on a path. -/
def cleanT : List (Nat × Path) → List AV → List AV
  | [], t => t
  | (d, _) :: g, t => cleanT g (t.set d .any)
theorem cleanT_len : ∀ (g : List (Nat × Path)) (t : List AV), (cleanT g t).length = t.length
  | [], t => rfl
  | (d, p) :: g, t => by rw [cleanT, cleanT_len g]; simp
theorem cleanT_get : ∀ (g : List (Nat × Path)) (t : List AV) (k : Nat) (x : AV), (cleanT g t)[k]? = some x → x = .any ∨ (lk g k = none ∧ t[k]? = some x)
  | [], t, k, x, h => .inr ⟨rfl, h⟩
  | (d, p) :: g, t, k, x, h => by
    rcases cleanT_get g (t.set d .any) k x h with h1 | ⟨h1, h2⟩
    · exact .inl h1
    · rw [List.getElem?_set] at h2
      by_cases hd : d = k
      · rw [if_pos hd] at h2
        split at h2
        · injection h2 with h2; exact .inl h2.symm
        · cases h2
      · rw [if_neg hd] at h2
        exact .inr ⟨by simp [lk, hd, h1], h2⟩

theorem MSim.pad {z : Ini} {h : List ABlk} {c : Cx} {w : World} (s : MSim z h c w) (m : Nat) : Later c h w c (h ++ List.replicate m .nb) w ∧ MSim z (h ++ List.replicate m .nb) c w := by
  have at_ : ∀ (i : Nat) (b : ABlk), (h ++ List.replicate m ABlk.nb)[i]? = some b → h[i]? = some b ∨ b = .nb := by
    intro i b hb
    rcases Nat.lt_or_ge i h.length with hi | hi
    · rw [List.getElem?_append_left hi] at hb; exact .inl hb
    · rw [List.getElem?_append_right hi, List.getElem?_replicate] at hb
      split at hb
      · injection hb with hb; exact .inr hb.symm
      · cases hb
  have keep : ∀ (i : Nat) (b : ABlk), h[i]? = some b → (h ++ List.replicate m ABlk.nb)[i]? = some b := fun i b hb => by
    rw [List.getElem?_append_left (List.getElem?_eq_some_iff.1 hb).1]; exact hb
  have lvo : ∀ i, lv c (h ++ List.replicate m .nb) i → lv c h i := fun i l => by
    obtain ⟨b, hb, h1, h2⟩ := lv_some l
    rcases at_ i b hb with hb' | e
    · unfold lv at *; rw [hb] at l; rw [hb']; exact l
    · exact absurd e h1
  have L : Later c h w c (h ++ List.replicate m .nb) w := ⟨fun _ h => h, fun _ _ => rfl, fun i b hi hb => ⟨b, keep i b hi, hb, fun _ => ⟨rfl, rfl⟩, fun cs e => ⟨cs, e⟩, fun sz rows e => ⟨rows, e, Nat.le_refl _⟩, fun k es e => ⟨es, e⟩⟩⟩
  refine ⟨L, s.step rfl rfl rfl (Nat.le_refl _) (fun _ _ _ => rfl) ⟨fun i b hi => ?_, fun i j li lj => s.hs.inj i j (lvo i li) (lvo j lj), fun i li => s.hs.nok i (lvo i li), s.hs.okb⟩ (fun i li => .inl ⟨i, lvo i li, rfl⟩) (fun x hx => .inl hx) (fun x hx => hx) (by simp; have := s.ext.1; omega) (fun i hi => ⟨rfl, rfl⟩)⟩
  rcases at_ i b hi with hb | rfl
  · exact (s.hs.blk i b hb).later L (fun _ => ⟨rfl, rfl⟩) (fun _ => rfl) hb
  · trivial

section
variable {P : Program} {z : Ini} {opsA : Array Oper} {es : List PE} {s₀ : RS}

theorem RInv.start (G : Good P z opsA.toList es s₀) {a : Act} {c : Cx} {w : World} (m : MSim z s₀.h c w) (t : TSim c s₀.h w s₀.t a.tmps) : RInv z opsA.toList es s₀ (fun _ => false) a.tmps c w := by
  have hH : HL es (h0p opsA.toList es s₀) (fun _ => false) opsA.toList.length = h0p opsA.toList es s₀ := by
    have := HL_cut (es := es) (h := h0p opsA.toList es s₀) (fun _ => false) 0 opsA.toList.length (by omega) (fun _ _ => rfl)
    rw [this]; rfl
  obtain ⟨L, M⟩ := m.pad ((stN opsA.toList es s₀ opsA.toList.length).h.length - s₀.h.length)
  refine ⟨by rw [hH]; exact M, t.1.symm, fun k v hv => ⟨fun j e hL => by simp at hL, fun _ x hx => ?_⟩⟩
  rw [hH]
  exact (t.2 k x v hx hv).later L

theorem RInv.fin (G : Good P z opsA.toList es s₀) {L : Nat → Bool} (hL : ∀ j, j < opsA.toList.length → L j = true) {a : Act} {c : Cx} {w : World} (r : RInv z opsA.toList es s₀ L a.tmps c w) (hdf : a.defers = []) :
    Sim z ⟨cleanT (stN opsA.toList es s₀ opsA.toList.length).g (stN opsA.toList es s₀ opsA.toList.length).t, (stN opsA.toList es s₀ opsA.toList.length).h⟩ c a w := by
  have hH : HL es (h0p opsA.toList es s₀) L opsA.toList.length = (stN opsA.toList es s₀ opsA.toList.length).h := by
    rw [← G.fin]
    refine List.ext_getElem? fun k => HL_at G.din L (fun _ => true) k _ fun j e hj _ _ => by simp [hL j hj]
  have m := r.m
  rw [hH] at m
  refine ⟨m, ⟨by rw [cleanT_len, stN_len, r.sz], fun k x v hk hv => ?_⟩, hdf⟩
  rcases cleanT_get _ _ _ _ hk with rfl | ⟨h1, h2⟩
  · exact .any _
  · have := r.operand G (j := opsA.toList.length) (Nat.le_refl _) (x := .tmp k) (fun q e i hi => by
      have hi' : i < opsA.toList.length := by
        unfold dstOf at hi
        cases ho : opsA.toList[i]? with
        | none => simp [ho] at hi
        | some o => exact (List.getElem?_eq_some_iff.1 ho).1
      exact ⟨fun _ => hL i hi', fun _ => hi'⟩) (q := []) (by intro x hx; cases hx)
    rw [hH] at this
    simp only [evG, h1, List.getD_eq_getElem?_getD, h2, Option.getD_some, Act.eval, Array.getD_eq_getD_getElem?, hv] at this
    exact this

/-- All temporaries that are written are told apart. -/
def distinctB (ops : List Oper) : Bool := go ops []
where go : List Oper → List Nat → Bool
  | [], _ => true
  | o :: l, seen => match o.dst with
    | none => go l seen
    | some d => !seen.contains d && go l (d :: seen)
theorem distinctB_spec : ∀ {ops : List Oper} {seen : List Nat}, distinctB.go ops seen = true → (∀ i d, dstOf ops i = some d → d ∉ seen) ∧ ∀ i j d, dstOf ops i = some d → dstOf ops j = some d → i = j
  | [], _, _ => ⟨fun i d h => by simp [dstOf] at h, fun i j d h => by simp [dstOf] at h⟩
  | o :: l, seen, h => by
    simp only [distinctB.go] at h
    cases hd : o.dst with
    | none =>
      rw [hd] at h
      obtain ⟨h1, h2⟩ := distinctB_spec h
      refine ⟨fun i d hi => ?_, fun i j d hi hj => ?_⟩
      · cases i with
        | zero => simp [dstOf, hd] at hi
        | succ i => exact h1 i d (by simpa [dstOf] using hi)
      · cases i with
        | zero => simp [dstOf, hd] at hi
        | succ i => cases j with
          | zero => simp [dstOf, hd] at hj
          | succ j => rw [h2 i j d (by simpa [dstOf] using hi) (by simpa [dstOf] using hj)]
    | some q =>
      rw [hd] at h
      simp only [Bool.and_eq_true, Bool.not_eq_true', List.contains_eq_mem, decide_eq_false_iff_not] at h
      obtain ⟨h1, h2⟩ := distinctB_spec h.2
      refine ⟨fun i d hi => ?_, fun i j d hi hj => ?_⟩
      · cases i with
        | zero => simp [dstOf, hd] at hi; subst hi; exact h.1
        | succ i => exact fun hm => h1 i d (by simpa [dstOf] using hi) (by simp [hm])
      · cases i with
        | zero =>
          simp [dstOf, hd] at hi; subst hi
          cases j with
          | zero => rfl
          | succ j => exact absurd (by simp) (h1 j q (by simpa [dstOf] using hj))
        | succ i => cases j with
          | zero => simp [dstOf, hd] at hj; subst hj; exact absurd (by simp) (h1 i q (by simpa [dstOf] using hi))
          | succ j => rw [h2 i j d (by simpa [dstOf] using hi) (by simpa [dstOf] using hj)]

/-- A region that goes by its text. -/
theorem AW.regionT {id : Nat} {σ : St} {Q : Exit → St → Prop} {s' : RS} (hr : RTr P z opsA.toList 0 opsA.toList ⟨σ.t, [], σ.h⟩ es s') (hd : distinctB opsA.toList = true) (h : Q .normal ⟨cleanT s'.g s'.t, s'.h⟩) : AW P z (.region id opsA false) σ Q := fun c a w s => by
  obtain ⟨h1, h2, h3⟩ := RTr.all (s₀ := ⟨σ.t, [], σ.h⟩) (es₀ := es) hr (fun j => by simp) (fun j => by simp) rfl
  have G : Good P z opsA.toList es ⟨σ.t, [], σ.h⟩ := ⟨h1, rfl, fun j o e ho he => by simpa using h3 j o e ho he, (distinctB_spec hd).2, s.m.ext.1⟩
  have hn : opsA.toList.length = opsA.size := by simp
  refine wp_region ?_
  have key : ∀ m j, m + j = opsA.size → ∀ a c w, RInv z opsA.toList es ⟨σ.t, [], σ.h⟩ (fun i => decide (i < j)) a.tmps c w → a.defers = [] → wpOps P opsA (lift z Q) (List.range' j m) a w := by
    intro m
    induction m with
    | zero =>
      intro j hj a c w r hdf
      simp only [List.range'_zero, wpOps]
      have := r.fin G (fun i hi => by simp; omega) hdf
      simp only [Nat.zero_add] at h2
      rw [← h2] at this
      exact ⟨_, c, h, this⟩
    | succ m ih =>
      intro j hj a c w r hdf
      rw [List.range'_succ, wpOps_cons]
      have hlt : j < opsA.size := by omega
      have ho : opsA[j]? = some opsA[j] := Array.getElem?_eq_getElem hlt
      obtain ⟨e, he⟩ := G.at (j := j) (by omega)
      refine r.step G hdf ho he ⟨by simp, fun k _ i _ => by simp, fun m b hg => ?_, fun k _ i e' _ _ => by simp⟩ fun a' c' w' r' hdf' => ih (j + 1) (by omega) a' c' w' ?_ hdf'
      · have := (G.ok j opsA[j] e (by simpa using ho) he).g
        rw [hg] at this
        simp only [gOk] at this
        simpa using this.1
      · have : add (fun i => decide (i < j)) j = fun i => decide (i < j + 1) := by
          funext i
          simp only [add]
          by_cases h : i = j
          · simp [h]
          · have : (decide (i < j) : Bool) = decide (i < j + 1) := by
              rw [decide_eq_decide]; omega
            simp [h, this]
        rwa [this] at r'
  have := key opsA.size 0 (by omega) a c w (by simpa using RInv.start G s.m s.ts) s.df
  rwa [List.range_eq_range']
end
end Go.Ab
namespace Go.Ab
open Go.RowKit
set_option linter.unusedVariables false
set_option linter.unusedSimpArgs false
set_option linter.unnecessarySimpa false

/-! ### What comes ahead of what -/
def maskOf (o : Oper) (acc : List Nat) : Nat := o.after.toList.foldl (fun s e => if Region.binds .any e = true then s ||| 2 ^ e.on ||| acc.getD e.on 0 else s) 0
def befs : List Nat → List Oper → List Nat
  | acc, [] => acc
  | acc, o :: l => befs (acc ++ [maskOf o acc]) l
theorem foldl_bit (acc : List Nat) (i : Nat) : ∀ (l : List Edge) (s : Nat), (l.foldl (fun s e => if Region.binds .any e = true then s ||| 2 ^ e.on ||| acc.getD e.on 0 else s) s).testBit i = true →
    s.testBit i = true ∨ ∃ e ∈ l, Region.binds .any e = true ∧ (e.on = i ∨ (acc.getD e.on 0).testBit i = true)
  | [], s, h => .inl h
  | e :: l, s, h => by
    rcases foldl_bit acc i l _ h with h1 | ⟨e', h1, h2⟩
    · dsimp only at h1
      split at h1
      · rename_i hb
        simp only [Nat.testBit_or, Bool.or_eq_true] at h1
        rcases h1 with (h1 | h1) | h1
        · exact .inl h1
        · refine .inr ⟨e, by simp, hb, .inl ?_⟩
          simpa [Nat.testBit_two_pow] using h1
        · exact .inr ⟨e, by simp, hb, .inr h1⟩
      · exact .inl h1
    · exact .inr ⟨e', by simp [h1], h2⟩
theorem befs_acc : ∀ (l : List Oper) (acc : List Nat) (j : Nat), j < acc.length → (befs acc l)[j]? = acc[j]?
  | [], acc, j, _ => rfl
  | o :: l, acc, j, h => by rw [befs, befs_acc l _ j (by simp; omega), List.getElem?_append_left h]
theorem befs_at : ∀ (l : List Oper) (acc : List Nat) (j : Nat) (o : Oper), l[j]? = some o → ∃ m, (befs acc l)[acc.length + j]? = some m ∧ ∀ i, m.testBit i = true → ∃ e ∈ o.after, Region.binds .any e = true ∧ (e.on = i ∨ ((e.on < acc.length + j) ∧ ((befs acc l).getD e.on 0).testBit i = true))
  | [], acc, j, o, h => by simp at h
  | q :: l, acc, 0, o, h => by
    simp at h; subst h
    refine ⟨maskOf q acc, by rw [befs, befs_acc l _ _ (by simp)]; simp, fun i hi => ?_⟩
    rcases foldl_bit acc i q.after.toList 0 hi with h1 | ⟨e, h1, h2, h3⟩
    · simp at h1
    · refine ⟨e, by simpa using h1, h2, ?_⟩
      rcases h3 with h3 | h3
      · exact .inl h3
      · right
        have hlt : e.on < acc.length := by
          rcases Nat.lt_or_ge e.on acc.length with h | h
          · exact h
          · rw [List.getD_eq_getElem?_getD, List.getElem?_eq_none h] at h3; simp at h3
        refine ⟨by omega, ?_⟩
        rw [List.getD_eq_getElem?_getD, befs, befs_acc l _ _ (by simp; omega), List.getElem?_append_left hlt, ← List.getD_eq_getElem?_getD]
        exact h3
  | q :: l, acc, j + 1, o, h => by
    obtain ⟨m, h1, h2⟩ := befs_at l (acc ++ [maskOf q acc]) j o (by simpa using h)
    simp only [List.length_append, List.length_cons, List.length_nil, Nat.zero_add] at h1 h2
    refine ⟨m, by rw [befs, ← h1]; congr 1; omega, fun i hi => ?_⟩
    obtain ⟨e, e1, e2, e3⟩ := h2 i hi
    refine ⟨e, e1, e2, ?_⟩
    rcases e3 with e3 | ⟨e3, e4⟩
    · exact .inl e3
    · exact .inr ⟨by omega, e4⟩

/-- Whatever the bits name has come up, where the ground is closed. -/
theorem befs_closed {ops : List Oper} {L : Nat → Bool} (hc : ∀ j o, ops[j]? = some o → L j = true → ∀ e ∈ o.after, Region.binds .any e = true → L e.on = true) : ∀ (j : Nat) (o : Oper), ops[j]? = some o →
    (∀ e ∈ o.after, Region.binds .any e = true → L e.on = true) → ∀ i, ((befs [] ops).getD j 0).testBit i = true → L i = true := by
  intro j
  induction j using Nat.strongRecOn with
  | ind j ih =>
    intro o ho hr i hi
    obtain ⟨m, h1, h2⟩ := befs_at ops [] j o ho
    simp only [List.length_nil, Nat.zero_add] at h1 h2
    rw [List.getD_eq_getElem?_getD, h1] at hi
    obtain ⟨e, e1, e2, e3⟩ := h2 i hi
    have hl := hr e e1 e2
    rcases e3 with rfl | ⟨e3, e4⟩
    · exact hl
    · have hlt : e.on < ops.length := by have := (List.getElem?_eq_some_iff.1 ho).1; omega
      have ho' : ops[e.on]? = some ops[e.on] := List.getElem?_eq_getElem hlt
      exact ih e.on e3 _ ho' (fun e' h' hb => hc e.on _ ho' hl e' h' hb) i e4

/-! ### The check -/
def tmpsOf (o : Oper) : List Nat := o.op.operands.toList.filterMap fun | .tmp k => some k | _ => none
/-- Does operation i write what j leans on, or writes? -/
def touch (oi oj : Oper) (di fj dj : List Nat) : Bool := (match oi.dst with | some d => (tmpsOf oj).contains d | none => false) || di.any (fun k => fj.contains k || dj.contains k)
def pairOk (b : List Nat) (i j : Nat) (t : Bool) : Bool := i == j || !t || (if i < j then (b.getD j 0).testBit i else (b.getD i 0).testBit j)
/-- 'ds': the names that each operation writes, and leans on. -/
def drawOk (ops : List Oper) (ds : List (List Nat × List Nat)) : Bool :=
  ops.zipIdx.all fun (oj, j) =>
    oj.after.all (fun e => !Region.binds .any e || decide (e.on < j)) &&
    (match oj.guard with | none => true | some (m, _) => ((befs [] ops).getD j 0).testBit m) &&
    ops.zipIdx.all fun (oi, i) => pairOk (befs [] ops) i j (touch oi oj (ds.getD i ([], [])).1 (ds.getD j ([], [])).2 (ds.getD j ([], [])).1)
def dsOf (es : List PE) : List (List Nat × List Nat) := es.map fun e => (e.d.map (·.1), e.ft)

theorem zipIdx_all {α : Type} {l : List α} {p : α × Nat → Bool} (h : l.zipIdx.all p = true) {i : Nat} {x : α} (hx : l[i]? = some x) : p (x, i) = true := by
  rw [List.all_eq_true] at h
  refine h _ ?_
  rw [List.mem_iff_getElem?]
  exact ⟨i, by simp [List.getElem?_zipIdx, hx]⟩

section
variable {P : Program} {z : Ini} {opsA : Array Oper} {es : List PE} {s₀ : RS}

/-- What a region that draws its order leads to, in whatever order. -/
theorem AW.anyD {σ : St} {Q : Exit → St → Prop} {s' : RS} (hm : P.follows .mixedOrders = true) (hr : RTr P z opsA.toList 0 opsA.toList ⟨σ.t, [], σ.h⟩ es s') (hd : distinctB opsA.toList = true) (hok : drawOk opsA.toList (dsOf es) = true)
    (h : Q .normal ⟨cleanT s'.g s'.t, s'.h⟩) : ∀ c a w, Sim z σ c a w → wpAny P .any opsA (lift z Q) opsA.size (Array.replicate opsA.size false) a w.drew := fun c a w s => by
  obtain ⟨h1, h2, h3⟩ := RTr.all (s₀ := ⟨σ.t, [], σ.h⟩) (es₀ := es) hr (fun j => by simp) (fun j => by simp) rfl
  have G : Good P z opsA.toList es ⟨σ.t, [], σ.h⟩ := ⟨h1, rfl, fun j o e ho he => by simpa using h3 j o e ho he, (distinctB_spec hd).2, s.m.ext.1⟩
  simp only [Nat.zero_add] at h2
  have hsz : opsA.toList.length = opsA.size := by simp
  -- what is listed
  have cnt : ∀ (fuel : Nat) (listed : Array Bool) (a : Act) (c : Cx) (w : World), listed.size = opsA.size → (List.range opsA.size).countP (fun i => !listed.getD i true) = fuel →
      (∀ j o, opsA.toList[j]? = some o → listed.getD j false = true → ∀ e ∈ o.after, Region.binds .any e = true → listed.getD e.on false = true) →
      RInv z opsA.toList es ⟨σ.t, [], σ.h⟩ (fun i => listed.getD i false) a.tmps c w → a.defers = [] → wpAny P .any opsA (lift z Q) fuel listed a w := by
    have full : ∀ (listed : Array Bool), listed.size = opsA.size → (∀ i, i < opsA.size → listed.getD i true = true) → ∀ (a : Act) (c : Cx) (w : World), RInv z opsA.toList es ⟨σ.t, [], σ.h⟩ (fun i => listed.getD i false) a.tmps c w → a.defers = [] → lift z Q .normal a w := by
      intro listed hl hall a c w r hdf
      have := r.fin G (fun i hi => by
        have h1 := hall i (by omega)
        have h2 : i < listed.size := by omega
        simp [h2] at h1 ⊢; exact h1) hdf
      rw [← h2] at this
      exact ⟨_, c, h, this⟩
    have noready : ∀ (listed : Array Bool), listed.size = opsA.size → Region.ready .any opsA listed = [] → ∀ i, i < opsA.size → listed.getD i true = true := by
      intro listed hl hnil i
      induction i using Nat.strongRecOn with
      | ind i ih =>
        intro hi
        cases hx : listed.getD i true with
        | true => rfl
        | false =>
          exfalso
          have ho : opsA[i]? = some opsA[i] := Array.getElem?_eq_getElem hi
          have : i ∈ Region.ready .any opsA listed := by
            rw [mem_ready]
            refine ⟨hx, _, ho, fun e he hb => ?_⟩
            have hz := zipIdx_all hok (i := i) (x := opsA[i]) (by simpa using ho)
            simp only [Bool.and_eq_true] at hz
            have he' := hz.1.1
            rw [Array.all_eq_true_iff_forall_mem] at he'
            have := he' e he
            simp only [hb, Bool.not_true, Bool.false_or, decide_eq_true_eq] at this
            have h4 := ih e.on this (by omega)
            have h5 : e.on < listed.size := by omega
            simp [h5] at h4 ⊢; exact h4
          rw [hnil] at this; cases this
    intro fuel
    induction fuel with
    | zero =>
      intro listed a c w hl hc hcl r hdf
      have hall : ∀ i, i < opsA.size → listed.getD i true = true := by
        intro i hi
        rw [List.countP_eq_zero] at hc
        have := hc i (List.mem_range.2 hi)
        simpa using this
      refine ⟨?_, full listed hl hall a c w r hdf⟩
      cases hrd : Region.ready .any opsA listed with
      | nil => rfl
      | cons i l =>
        have : i ∈ Region.ready .any opsA listed := by rw [hrd]; simp
        rw [mem_ready] at this
        obtain ⟨g1, o, g2, _⟩ := this
        have := hall i (Array.getElem?_eq_some_iff.1 g2).1
        rw [g1] at this; cases this
    | succ fuel ih =>
      intro listed a c w hl hc hcl r hdf
      refine ⟨fun hnil => full listed hl (noready listed hl hnil) a c w r hdf, fun j hj => ?_⟩
      rw [mem_ready] at hj
      obtain ⟨hun, o, ho, hall⟩ := hj
      have hjlt : j < opsA.size := (Array.getElem?_eq_some_iff.1 ho).1
      have ho' : opsA.toList[j]? = some o := by simpa using ho
      obtain ⟨e, he⟩ := G.at (j := j) (by omega)
      have hun' : listed.getD j false = false := by
        have : j < listed.size := by omega
        simp [this] at hun ⊢; exact hun
      have hbef : ∀ i, ((befs [] opsA.toList).getD j 0).testBit i = true → listed.getD i false = true := fun i hi => befs_closed (L := fun i => listed.getD i false) hcl j o ho' hall i hi
      have hbef2 : ∀ i oi, opsA.toList[i]? = some oi → ((befs [] opsA.toList).getD i 0).testBit j = true → listed.getD i false = false := by
        intro i oi hoi hb
        cases hL : listed.getD i false with
        | false => rfl
        | true =>
          have := befs_closed (L := fun i => listed.getD i false) hcl i oi hoi (hcl i oi hoi hL) j hb
          rw [hun'] at this; cases this
      have pair : ∀ i oi, opsA.toList[i]? = some oi → touch oi o ((dsOf es).getD i ([], [])).1 ((dsOf es).getD j ([], [])).2 ((dsOf es).getD j ([], [])).1 = true → (i < j ↔ listed.getD i false = true) := by
        intro i oi hoi ht
        have hz := zipIdx_all hok (i := j) (x := o) ho'
        simp only [Bool.and_eq_true] at hz
        have hp := zipIdx_all hz.2 (i := i) (x := oi) hoi
        simp only [pairOk, ht, Bool.not_true, Bool.or_false, Bool.or_eq_true, beq_iff_eq] at hp
        rcases hp with rfl | hp
        · rw [hun']; simp
        · split at hp
          · rename_i hlt; exact ⟨fun _ => hbef i hp, fun _ => hlt⟩
          · rename_i hge
            have := hbef2 i oi hoi hp
            rw [this]; simp; omega
      have hds : ∀ i e', es[i]? = some e' → (dsOf es).getD i ([], []) = (e'.d.map (·.1), e'.ft) := fun i e' h => by simp [dsOf, List.getD_eq_getElem?_getD, h]
      refine r.step G hdf ho he ⟨hun', fun k hk i hi => ?_, fun m b hg => ?_, fun k hk i e' he' hd' => ?_⟩ fun a' c' w' r' hdf' => ih _ a' c' w' (by simpa using hl) ?_ ?_ ?_ hdf'
      · cases hoi : opsA.toList[i]? with
        | none => simp [dstOf, hoi] at hi
        | some oi =>
          have hdi : oi.dst = some k := by simpa [dstOf, hoi] using hi
          refine pair i oi hoi ?_
          simp only [touch, hdi, Bool.or_eq_true]
          left
          simp only [tmpsOf, List.contains_eq_mem, decide_eq_true_eq, List.mem_filterMap]
          exact ⟨.tmp k, by simpa using hk, rfl⟩
      · have hz := zipIdx_all hok (i := j) (x := o) ho'
        simp only [Bool.and_eq_true, hg] at hz
        exact hbef m hz.1.2
      · have hi : i < opsA.toList.length := by rw [← G.len]; exact (List.getElem?_eq_some_iff.1 he').1
        refine pair i _ (List.getElem?_eq_getElem hi) ?_
        rw [hds i e' he', hds j e he]
        simp only [touch, Bool.or_eq_true, List.any_eq_true]
        right
        obtain ⟨b, hb⟩ := hd'
        refine ⟨k, by simp only [List.mem_map]; exact ⟨(k, b), hb, rfl⟩, ?_⟩
        simp only [Bool.or_eq_true, List.contains_eq_mem, decide_eq_true_eq]
        rcases hk with hk | ⟨b', hb'⟩
        · exact .inl hk
        · right; simp only [List.mem_map]; exact ⟨(k, b'), hb', rfl⟩
      · -- one fewer is left
        have h5 : (List.range opsA.size).countP (fun i => !listed.getD i true) = (List.range opsA.size).countP (fun i => !(listed.setIfInBounds j true).getD i true) + 1 := by
          have gen : ∀ l : List Nat, l.Nodup → j ∈ l → l.countP (fun i => !listed.getD i true) = l.countP (fun i => !(listed.setIfInBounds j true).getD i true) + 1 := by
            intro l
            induction l with
            | nil => intro _ h; cases h
            | cons x l ihl =>
              intro hn hm
              rw [List.nodup_cons] at hn
              rw [List.countP_cons, List.countP_cons]
              by_cases hx : x = j
              · subst hx
                have hrest : l.countP (fun i => !listed.getD i true) = l.countP (fun i => !(listed.setIfInBounds x true).getD i true) := by
                  refine List.countP_congr fun y hy => ?_
                  have : x ≠ y := fun e => hn.1 (e ▸ hy)
                  rw [getD_set_ne true this]
                have hxlt : x < listed.size := by omega
                have hset : (listed.setIfInBounds x true).getD x true = true := by simp [hxlt]
                rw [hrest, hun, hset]; simp
              · have hm' : j ∈ l := by
                  rcases List.mem_cons.1 hm with h | h
                  · exact absurd h.symm hx
                  · exact h
                rw [ihl hn.2 hm', getD_set_ne true (fun e => hx e.symm)]
                omega
          exact gen _ List.nodup_range (List.mem_range.2 hjlt)
        omega
      · intro i oi hoi hL e' he' hb
        by_cases hij : j = i
        · subst hij
          rw [ho'] at hoi; injection hoi with hoi; subst hoi
          exact getD_set_true (hall e' he' hb)
        · rw [getD_set_ne false hij] at hL
          exact getD_set_true (hcl i oi hoi hL e' he' hb)
      · have : (fun i => (listed.setIfInBounds j true).getD i false) = add (fun i => listed.getD i false) j := by
          funext i
          simp only [add]
          by_cases hij : j = i
          · subst hij
            have : j < listed.size := by omega
            simp [this]
          · rw [getD_set_ne false hij]
            have : (i == j) = false := by simp; exact fun e => hij e.symm
            rw [this, Bool.false_or]
        rw [this]; exact r'
  refine cnt opsA.size (Array.replicate opsA.size false) a c _ (by simp) ?_ ?_ ?_ s.df
  · have : ∀ i ∈ List.range opsA.size, (!(Array.replicate opsA.size false).getD i true) = true := by
      intro i hi
      have := List.mem_range.1 hi
      simp [this]
    rw [List.countP_eq_length.2 this, List.length_range]
  · intro j o ho hL
    have hj : j < opsA.size := by have := (List.getElem?_eq_some_iff.1 ho).1; omega
    simp [hj] at hL
  · have hz : (fun i => (Array.replicate opsA.size false).getD i false) = fun _ => false := by
      funext i
      by_cases h : i < opsA.size <;> simp [h]
    rw [hz]
    have s2 := s.drew
    exact RInv.start G s2.m s2.ts
/-- A region that draws its order. -/
theorem AW.regionD {id : Nat} {σ : St} {Q : Exit → St → Prop} {s' : RS} (hm : P.follows .mixedOrders = true) (hr : RTr P z opsA.toList 0 opsA.toList ⟨σ.t, [], σ.h⟩ es s') (hd : distinctB opsA.toList = true) (hok : drawOk opsA.toList (dsOf es) = true)
    (h : Q .normal ⟨cleanT s'.g s'.t, s'.h⟩) : AW P z (.region id opsA true) σ Q := fun c a w s => wp_region_any hm (AW.anyD hm hr hd hok h c a w s)
end
end Go.Ab
namespace Go.Ab
open Go.RowKit
set_option linter.unusedVariables false
set_option linter.unusedSimpArgs false
set_option linter.unnecessarySimpa false

/-- A region that goes by its text: what is left of it. -/
def ARN (P : Program) (z : Ini) (ops : List Oper) (i : Nat) (l : List Oper) (s : RS) (K : RS → Prop) : Prop := ∃ es s', RTr P z ops i l s es s' ∧ K s'
/-- A region that draws its order: what is left of it. -/
def ARD (P : Program) (z : Ini) (ops : List Oper) (i : Nat) (l : List Oper) (s : RS) (K : List PE → RS → Prop) : Prop := ∃ es s', RTr P z ops i l s es s' ∧ K es s'

section
variable {P : Program} {z : Ini} {ops : List Oper} {i : Nat} {l : List Oper} {s : RS} {o : Oper} {K : RS → Prop} {KD : List PE → RS → Prop}

theorem ARN.nil (h : K s) : ARN P z ops i [] s K := ⟨[], s, .nil i s, h⟩
theorem ARD.nil (h : KD [] s) : ARD P z ops i [] s KD := ⟨[], s, .nil i s, h⟩
theorem ARN.op {e : PE} (h : OK1 P z ops i o s e) (k : ARN P z ops (i + 1) l (s.put o e) K) : ARN P z ops i (o :: l) s K := let ⟨es, s', r, q⟩ := k; ⟨e :: es, s', .cons i o l s e es s' h r, q⟩
theorem ARD.op {e : PE} (h : OK1 P z ops i o s e) (k : ARD P z ops (i + 1) l (s.put o e) (fun es s' => KD (e :: es) s')) : ARD P z ops i (o :: l) s KD := let ⟨es, s', r, q⟩ := k; ⟨e :: es, s', .cons i o l s e es s' h r, q⟩

/-! ### Plain operations -/
def gOkB (ops : List Oper) (i : Nat) (t : List AV) : Option (Nat × Bool) → Bool
  | none => true
  | some (j, _) => if j < i then (match dstOf ops j with | some d => (boolOf (t.getD d .any)).isSome | none => false) else false
theorem gOkB_spec {ops : List Oper} {i : Nat} {t : List AV} {g : Option (Nat × Bool)} (h : gOkB ops i t g = true) : gOk ops i t g := by
  cases g with
  | none => trivial
  | some jb =>
    obtain ⟨j, b⟩ := jb
    simp only [gOkB] at h
    split at h
    · rename_i hlt
      cases hd : dstOf ops j with
      | none => rw [hd] at h; cases h
      | some d => rw [hd] at h; exact ⟨hlt, by simpa [gOk, hd] using h⟩
    · cases h

/-- Under a guard that may not hold nothing turns in memory. -/
def stillB : Path → AV × List (Nat × ABlk) → Option (AV × List (Nat × ABlk))
  | [], x => some x
  | _ :: _, (r, []) => some (r, [])
  | _ :: _, (_, _ :: _) => none
theorem stillB_some {p : Path} {x y : AV × List (Nat × ABlk)} (h : stillB p x = some y) : x = y ∧ (p ≠ [] → y.2 = []) := by
  obtain ⟨r, d⟩ := x
  cases p with
  | nil => simp only [stillB, Option.some.injEq] at h; exact ⟨h, fun hh => absurd rfl hh⟩
  | cons a p => cases d with
    | nil => simp only [stillB, Option.some.injEq] at h; exact ⟨h, fun _ => by rw [← h]⟩
    | cons b d => cases h

/-- A plain operation of a region: its value, what turns in memory. -/
def stepR (P : Program) (ops : List Oper) (i : Nat) (o : Oper) (s : RS) (p : Path) : Option (AV × List (Nat × ABlk)) :=
  match o.op with
  | .pick (.tmp k) a b => match boolOf (evG p s.t s.g (.tmp k)), boolOf (evG (p ++ [(ixOf ops 0 (.tmp k), true)]) s.t s.g a), boolOf (evG (p ++ [(ixOf ops 0 (.tmp k), false)]) s.t s.g b) with
    | some vc, some va, some vb => if ixOf ops 0 (.tmp k) < i then (match dstOf ops (ixOf ops 0 (.tmp k)) with | some d => if d = k then some (.pv (.bool (pickB vc va vb)), []) else none | none => none) else none
    | _, _, _ => none
  | op => match stepv P (evG p s.t s.g) s.h.length s.h op with
    | some x => stillB p x
    | none => none
def feet (s : RS) (p : Path) (op : Op) : List Nat := match op with
  | .pick _ _ _ => []
  | op => op.operands.toList.flatMap fun x => refs (evG p s.t s.g x)

theorem stepR_ok {p : Path} {r : AV} {d : List (Nat × ABlk)} (hp : pG ops s.g o.guard = p) (hg : gOkB ops i s.t o.guard = true) (hs : stepR P ops i o s p = some (r, d)) : OK1 P z ops i o s ⟨r, d, p, feet s p o.op⟩ := by
  have plain : (∀ c a b, o.op ≠ .pick c a b) → (match stepv P (evG p s.t s.g) s.h.length s.h o.op with
      | some x => stillB p x
      | none => none) = some (r, d) → OK1 P z ops i o s ⟨r, d, p, feet s p o.op⟩ := by
    intro hnp hs
    split at hs
    · rename_i x hst
      obtain ⟨rfl, hd⟩ := stillB_some hs
      refine ⟨hp.symm, hd, gOkB_spec hg, fun _ => ?_⟩
      have hf : feet s p o.op = o.op.operands.toList.flatMap fun x => refs (evG p s.t s.g x) := by
        unfold feet
        split
        · rename_i c a b e; exact absurd e (hnp c a b)
        · rfl
      rw [hf]
      exact LS.step hst
    · cases hs
  unfold stepR at hs
  split at hs
  · rename_i k a b hop
    split at hs
    · rename_i vc va vb h1 h2 h3
      split at hs
      · rename_i hix
        split at hs
        · rename_i d' hd
          split at hs
          · rename_i hk; subst hk
            injection hs with hs; simp only [Prod.mk.injEq] at hs; obtain ⟨rfl, rfl⟩ := hs
            refine ⟨hp.symm, fun _ => rfl, gOkB_spec hg, fun _ => ?_⟩
            have hf : feet s p o.op = [] := by rw [hop]; rfl
            rw [hf]
            exact LS.pick hop hix hd h1 h2 h3
          · cases hs
        · cases hs
      · cases hs
    · cases hs
  · rename_i op hne
    refine plain (fun c a b e => ?_) hs
    cases c with
    | tmp k => exact hne k a b e
    | const v =>
      rw [e] at hs
      simp [stepv] at hs
    | func f => rw [e] at hs; simp [stepv] at hs
    | global g => rw [e] at hs; simp [stepv] at hs

/-- Is a path surely not gone? -/
def ppF (ops : List Oper) (t : List AV) : Path → Bool
  | [] => false
  | (j, b) :: p => (match dstOf ops j with | some d => (match boolOf (t.getD d .any) with | some v => v != b | none => false) | none => false) || ppF ops t p
theorem ppF_not {ops : List Oper} {t : List AV} : ∀ {p : Path}, ppF ops t p = true → ¬ ppT ops t p
  | [], h => by cases h
  | (j, b) :: p, h => by
    simp only [ppF, Bool.or_eq_true] at h
    intro hh
    simp only [ppT] at hh
    rcases h with h | h
    · cases hd : dstOf ops j with
      | none => simp [hd] at h
      | some d =>
        simp only [hd] at h hh
        rw [hh.1] at h
        simp at h
    · exact ppF_not h hh.2
/-- Only what is asked is reckoned, until it is known: what follows stands as a function that nobody has applied. -/
def onS {α β : Type} (o : Option α) (f : α → β) (d : β) : β := match o with | some x => f x | none => d
@[go_sem] theorem onS_some {α β : Type} (x : α) (f : α → β) (d : β) : onS (some x) f d = f x := rfl
@[go_sem] theorem onS_none {α β : Type} (f : α → β) (d : β) : onS none f d = d := rfl
def onB {β : Type} (b : Bool) (x : Unit → β) (y : β) : β := if b = true then x () else y
@[go_sem] theorem onB_true {β : Type} (x : Unit → β) (y : β) : onB true x y = x () := rfl
@[go_sem] theorem onB_false {β : Type} (x : Unit → β) (y : β) : onB false x y = y := rfl

/-- As many plain operations as there are. -/
def runN (P : Program) (ops : List Oper) : Nat → List Oper → RS → Nat × List Oper × RS
  | i, [], s => (i, [], s)
  | i, o :: l, s => onB (gOkB ops i s.t o.guard) (fun _ => onS (stepR P ops i o s (pG ops s.g o.guard)) (fun x => runN P ops (i + 1) l ⟨putT s.t o.dst x.1, putG s.g o.dst (pG ops s.g o.guard), app s.h x.2⟩) ((i, o :: l, s))) (i, o :: l, s)
def runNA (P : Program) (ops : List Oper) (i : Nat) (o : Oper) (l : List Oper) (s : RS) (x : AV × List (Nat × ABlk)) : Nat × List Oper × RS := runN P ops (i + 1) l ⟨putT s.t o.dst x.1, putG s.g o.dst (pG ops s.g o.guard), app s.h x.2⟩
def runNB (P : Program) (ops : List Oper) (i : Nat) (o : Oper) (l : List Oper) (s : RS) (x : Unit) : Nat × List Oper × RS := onS (stepR P ops i o s (pG ops s.g o.guard)) (runNA P ops i o l s) ((i, o :: l, s))
@[go_sem] theorem runN_nil (P : Program) (ops : List Oper) (i : Nat) (s : RS) : runN P ops i [] s = (i, [], s) := by
  exact (Eq.refl _).trans rfl
@[go_sem] theorem runN_cons (P : Program) (ops : List Oper) (i : Nat) (o : Oper) (l : List Oper) (s : RS) : runN P ops i (o :: l) s = onB (gOkB ops i s.t o.guard) (runNB P ops i o l s) (i, o :: l, s) := by
  exact (Eq.refl _).trans rfl
@[go_sem] theorem runN_A (P : Program) (ops : List Oper) (i : Nat) (o : Oper) (l : List Oper) (s : RS) (x : AV × List (Nat × ABlk)) : runNA P ops i o l s x = runN P ops (i + 1) l ⟨putT s.t o.dst x.1, putG s.g o.dst (pG ops s.g o.guard), app s.h x.2⟩ := by
  exact (Eq.refl _).trans rfl
@[go_sem] theorem runN_B (P : Program) (ops : List Oper) (i : Nat) (o : Oper) (l : List Oper) (s : RS) (x : Unit) : runNB P ops i o l s x = onS (stepR P ops i o s (pG ops s.g o.guard)) (runNA P ops i o l s) ((i, o :: l, s)) := by
  exact (Eq.refl _).trans rfl
theorem ARN.run (h : ARN P z ops (runN P ops i l s).1 (runN P ops i l s).2.1 (runN P ops i l s).2.2 K) : ARN P z ops i l s K := by
  induction l generalizing i s with
  | nil => exact h
  | cons o l ih =>
    simp only [runN, onB, onS] at h
    split at h
    · rename_i hg
      split at h
      · rename_i r hs
        exact ARN.op (stepR_ok rfl hg hs) (ih h)
      · exact h
    · exact h
/-- The same, operations whose guard does not hold passed by. -/
def runNS (P : Program) (ops : List Oper) : Nat → List Oper → RS → Nat × List Oper × RS
  | i, [], s => (i, [], s)
  | i, o :: l, s => onB (gOkB ops i s.t o.guard) (fun _ => onS (stepR P ops i o s (pG ops s.g o.guard)) (fun x => runNS P ops (i + 1) l ⟨putT s.t o.dst x.1, putG s.g o.dst (pG ops s.g o.guard), app s.h x.2⟩) (onB (ppF ops s.t (pG ops s.g o.guard)) (fun _ => runNS P ops (i + 1) l ⟨putT s.t o.dst (.pv (.bool false)), putG s.g o.dst (pG ops s.g o.guard), s.h⟩) (i, o :: l, s))) (i, o :: l, s)
def runNSA (P : Program) (ops : List Oper) (i : Nat) (o : Oper) (l : List Oper) (s : RS) (x : AV × List (Nat × ABlk)) : Nat × List Oper × RS := runNS P ops (i + 1) l ⟨putT s.t o.dst x.1, putG s.g o.dst (pG ops s.g o.guard), app s.h x.2⟩
def runNSZ (P : Program) (ops : List Oper) (i : Nat) (o : Oper) (l : List Oper) (s : RS) (x : Unit) : Nat × List Oper × RS := runNS P ops (i + 1) l ⟨putT s.t o.dst (.pv (.bool false)), putG s.g o.dst (pG ops s.g o.guard), s.h⟩
def runNSB (P : Program) (ops : List Oper) (i : Nat) (o : Oper) (l : List Oper) (s : RS) (x : Unit) : Nat × List Oper × RS := onS (stepR P ops i o s (pG ops s.g o.guard)) (runNSA P ops i o l s) (onB (ppF ops s.t (pG ops s.g o.guard)) (runNSZ P ops i o l s) (i, o :: l, s))
@[go_sem] theorem runNS_nil (P : Program) (ops : List Oper) (i : Nat) (s : RS) : runNS P ops i [] s = (i, [], s) := by
  exact (Eq.refl _).trans rfl
@[go_sem] theorem runNS_cons (P : Program) (ops : List Oper) (i : Nat) (o : Oper) (l : List Oper) (s : RS) : runNS P ops i (o :: l) s = onB (gOkB ops i s.t o.guard) (runNSB P ops i o l s) (i, o :: l, s) := by
  exact (Eq.refl _).trans rfl
@[go_sem] theorem runNS_A (P : Program) (ops : List Oper) (i : Nat) (o : Oper) (l : List Oper) (s : RS) (x : AV × List (Nat × ABlk)) : runNSA P ops i o l s x = runNS P ops (i + 1) l ⟨putT s.t o.dst x.1, putG s.g o.dst (pG ops s.g o.guard), app s.h x.2⟩ := by
  exact (Eq.refl _).trans rfl
@[go_sem] theorem runNS_Z (P : Program) (ops : List Oper) (i : Nat) (o : Oper) (l : List Oper) (s : RS) (x : Unit) : runNSZ P ops i o l s x = runNS P ops (i + 1) l ⟨putT s.t o.dst (.pv (.bool false)), putG s.g o.dst (pG ops s.g o.guard), s.h⟩ := by
  exact (Eq.refl _).trans rfl
@[go_sem] theorem runNS_B (P : Program) (ops : List Oper) (i : Nat) (o : Oper) (l : List Oper) (s : RS) (x : Unit) : runNSB P ops i o l s x = onS (stepR P ops i o s (pG ops s.g o.guard)) (runNSA P ops i o l s) (onB (ppF ops s.t (pG ops s.g o.guard)) (runNSZ P ops i o l s) (i, o :: l, s)) := by
  exact (Eq.refl _).trans rfl
theorem ARN.runS (h : ARN P z ops (runNS P ops i l s).1 (runNS P ops i l s).2.1 (runNS P ops i l s).2.2 K) : ARN P z ops i l s K := by
  induction l generalizing i s with
  | nil => exact h
  | cons o l ih =>
    simp only [runNS, onB, onS] at h
    split at h
    · rename_i hg
      split at h
      · rename_i r hs
        exact ARN.op (stepR_ok rfl hg hs) (ih h)
      · split at h
        · rename_i hf
          exact ARN.op (e := ⟨.pv (.bool false), [], pG ops s.g o.guard, []⟩) ⟨rfl, fun _ => rfl, gOkB_spec hg, fun hh => (ppF_not hf hh).elim⟩ (ih h)
        · exact h
    · exact h
theorem ARD.plain {p : Path} {r : AV} {d : List (Nat × ABlk)} {ft : List Nat} (hp : pG ops s.g o.guard = p) (hg : gOkB ops i s.t o.guard = true) (hs : stepR P ops i o s p = some (r, d)) (hf : feet s p o.op = ft)
    (h : ARD P z ops (i + 1) l ⟨putT s.t o.dst r, putG s.g o.dst p, app s.h d⟩ (fun es s' => KD (⟨r, d, p, ft⟩ :: es) s')) : ARD P z ops i (o :: l) s KD := by
  subst hf
  exact ARD.op (stepR_ok hp hg hs) h

/-- As many plain operations as there are; what each came to is told. -/
def runD (P : Program) (ops : List Oper) : Nat → List Oper → RS → List PE → Nat × List Oper × RS × List PE
  | i, [], s, es => (i, [], s, es)
  | i, o :: l, s, es => onB (gOkB ops i s.t o.guard) (fun _ => onS (stepR P ops i o s (pG ops s.g o.guard)) (fun x => runD P ops (i + 1) l ⟨putT s.t o.dst x.1, putG s.g o.dst (pG ops s.g o.guard), app s.h x.2⟩ (⟨x.1, x.2, pG ops s.g o.guard, feet s (pG ops s.g o.guard) o.op⟩ :: es)) ((i, o :: l, s, es))) (i, o :: l, s, es)
def runDA (P : Program) (ops : List Oper) (i : Nat) (o : Oper) (l : List Oper) (s : RS) (es : List PE) (x : AV × List (Nat × ABlk)) : Nat × List Oper × RS × List PE := runD P ops (i + 1) l ⟨putT s.t o.dst x.1, putG s.g o.dst (pG ops s.g o.guard), app s.h x.2⟩ (⟨x.1, x.2, pG ops s.g o.guard, feet s (pG ops s.g o.guard) o.op⟩ :: es)
def runDB (P : Program) (ops : List Oper) (i : Nat) (o : Oper) (l : List Oper) (s : RS) (es : List PE) (x : Unit) : Nat × List Oper × RS × List PE := onS (stepR P ops i o s (pG ops s.g o.guard)) (runDA P ops i o l s es) ((i, o :: l, s, es))
@[go_sem] theorem runD_nil (P : Program) (ops : List Oper) (i : Nat) (s : RS) (es : List PE) : runD P ops i [] s es = (i, [], s, es) := by
  exact (Eq.refl _).trans rfl
@[go_sem] theorem runD_cons (P : Program) (ops : List Oper) (i : Nat) (o : Oper) (l : List Oper) (s : RS) (es : List PE) : runD P ops i (o :: l) s es = onB (gOkB ops i s.t o.guard) (runDB P ops i o l s es) (i, o :: l, s, es) := by
  exact (Eq.refl _).trans rfl
@[go_sem] theorem runD_A (P : Program) (ops : List Oper) (i : Nat) (o : Oper) (l : List Oper) (s : RS) (es : List PE) (x : AV × List (Nat × ABlk)) : runDA P ops i o l s es x = runD P ops (i + 1) l ⟨putT s.t o.dst x.1, putG s.g o.dst (pG ops s.g o.guard), app s.h x.2⟩ (⟨x.1, x.2, pG ops s.g o.guard, feet s (pG ops s.g o.guard) o.op⟩ :: es) := by
  exact (Eq.refl _).trans rfl
@[go_sem] theorem runD_B (P : Program) (ops : List Oper) (i : Nat) (o : Oper) (l : List Oper) (s : RS) (es : List PE) (x : Unit) : runDB P ops i o l s es x = onS (stepR P ops i o s (pG ops s.g o.guard)) (runDA P ops i o l s es) ((i, o :: l, s, es)) := by
  exact (Eq.refl _).trans rfl
/-- The same, operations whose guard does not hold passed by. -/
def runDS (P : Program) (ops : List Oper) : Nat → List Oper → RS → List PE → Nat × List Oper × RS × List PE
  | i, [], s, es => (i, [], s, es)
  | i, o :: l, s, es => onB (gOkB ops i s.t o.guard) (fun _ => onS (stepR P ops i o s (pG ops s.g o.guard)) (fun x => runDS P ops (i + 1) l ⟨putT s.t o.dst x.1, putG s.g o.dst (pG ops s.g o.guard), app s.h x.2⟩ (⟨x.1, x.2, pG ops s.g o.guard, feet s (pG ops s.g o.guard) o.op⟩ :: es)) (onB (ppF ops s.t (pG ops s.g o.guard)) (fun _ => runDS P ops (i + 1) l ⟨putT s.t o.dst (.pv (.bool false)), putG s.g o.dst (pG ops s.g o.guard), s.h⟩ (⟨.pv (.bool false), [], pG ops s.g o.guard, []⟩ :: es)) (i, o :: l, s, es))) (i, o :: l, s, es)
def runDSA (P : Program) (ops : List Oper) (i : Nat) (o : Oper) (l : List Oper) (s : RS) (es : List PE) (x : AV × List (Nat × ABlk)) : Nat × List Oper × RS × List PE := runDS P ops (i + 1) l ⟨putT s.t o.dst x.1, putG s.g o.dst (pG ops s.g o.guard), app s.h x.2⟩ (⟨x.1, x.2, pG ops s.g o.guard, feet s (pG ops s.g o.guard) o.op⟩ :: es)
def runDSZ (P : Program) (ops : List Oper) (i : Nat) (o : Oper) (l : List Oper) (s : RS) (es : List PE) (x : Unit) : Nat × List Oper × RS × List PE := runDS P ops (i + 1) l ⟨putT s.t o.dst (.pv (.bool false)), putG s.g o.dst (pG ops s.g o.guard), s.h⟩ (⟨.pv (.bool false), [], pG ops s.g o.guard, []⟩ :: es)
def runDSB (P : Program) (ops : List Oper) (i : Nat) (o : Oper) (l : List Oper) (s : RS) (es : List PE) (x : Unit) : Nat × List Oper × RS × List PE := onS (stepR P ops i o s (pG ops s.g o.guard)) (runDSA P ops i o l s es) (onB (ppF ops s.t (pG ops s.g o.guard)) (runDSZ P ops i o l s es) (i, o :: l, s, es))
@[go_sem] theorem runDS_nil (P : Program) (ops : List Oper) (i : Nat) (s : RS) (es : List PE) : runDS P ops i [] s es = (i, [], s, es) := by
  exact (Eq.refl _).trans rfl
@[go_sem] theorem runDS_cons (P : Program) (ops : List Oper) (i : Nat) (o : Oper) (l : List Oper) (s : RS) (es : List PE) : runDS P ops i (o :: l) s es = onB (gOkB ops i s.t o.guard) (runDSB P ops i o l s es) (i, o :: l, s, es) := by
  exact (Eq.refl _).trans rfl
@[go_sem] theorem runDS_A (P : Program) (ops : List Oper) (i : Nat) (o : Oper) (l : List Oper) (s : RS) (es : List PE) (x : AV × List (Nat × ABlk)) : runDSA P ops i o l s es x = runDS P ops (i + 1) l ⟨putT s.t o.dst x.1, putG s.g o.dst (pG ops s.g o.guard), app s.h x.2⟩ (⟨x.1, x.2, pG ops s.g o.guard, feet s (pG ops s.g o.guard) o.op⟩ :: es) := by
  exact (Eq.refl _).trans rfl
@[go_sem] theorem runDS_Z (P : Program) (ops : List Oper) (i : Nat) (o : Oper) (l : List Oper) (s : RS) (es : List PE) (x : Unit) : runDSZ P ops i o l s es x = runDS P ops (i + 1) l ⟨putT s.t o.dst (.pv (.bool false)), putG s.g o.dst (pG ops s.g o.guard), s.h⟩ (⟨.pv (.bool false), [], pG ops s.g o.guard, []⟩ :: es) := by
  exact (Eq.refl _).trans rfl
@[go_sem] theorem runDS_B (P : Program) (ops : List Oper) (i : Nat) (o : Oper) (l : List Oper) (s : RS) (es : List PE) (x : Unit) : runDSB P ops i o l s es x = onS (stepR P ops i o s (pG ops s.g o.guard)) (runDSA P ops i o l s es) (onB (ppF ops s.t (pG ops s.g o.guard)) (runDSZ P ops i o l s es) (i, o :: l, s, es)) := by
  exact (Eq.refl _).trans rfl
/-- The same, with what has been told so far (the last first). -/
def ARE (P : Program) (z : Ini) (ops : List Oper) (i : Nat) (l : List Oper) (s : RS) (es : List PE) (K : List PE → RS → Prop) : Prop := ARD P z ops i l s (fun es' s' => K (es.reverse ++ es') s')
theorem ARE.of {K : List PE → RS → Prop} (h : ARE P z ops i l s [] K) : ARD P z ops i l s K := by simpa [ARE] using h
theorem ARE.nil {es : List PE} {K : List PE → RS → Prop} (h : K es.reverse s) : ARE P z ops i [] s es K := ARD.nil (by simpa using h)
theorem ARE.op {e : PE} {es : List PE} {K : List PE → RS → Prop} (h : OK1 P z ops i o s e) (k : ARE P z ops (i + 1) l (s.put o e) (e :: es) K) : ARE P z ops i (o :: l) s es K := ARD.op h (by
  unfold ARE at k
  simpa using k)
theorem ARE.run {es : List PE} {K : List PE → RS → Prop} (h : ARE P z ops (runD P ops i l s es).1 (runD P ops i l s es).2.1 (runD P ops i l s es).2.2.1 (runD P ops i l s es).2.2.2 K) : ARE P z ops i l s es K := by
  induction l generalizing i s es with
  | nil => exact h
  | cons o l ih =>
    simp only [runD, onB, onS] at h
    split at h
    · rename_i hg
      split at h
      · rename_i r hs
        exact ARE.op (stepR_ok rfl hg hs) (ih h)
      · exact h
    · exact h
theorem ARE.runS {es : List PE} {K : List PE → RS → Prop} (h : ARE P z ops (runDS P ops i l s es).1 (runDS P ops i l s es).2.1 (runDS P ops i l s es).2.2.1 (runDS P ops i l s es).2.2.2 K) : ARE P z ops i l s es K := by
  induction l generalizing i s es with
  | nil => exact h
  | cons o l ih =>
    simp only [runDS, onB, onS] at h
    split at h
    · rename_i hg
      split at h
      · rename_i r hs
        exact ARE.op (stepR_ok rfl hg hs) (ih h)
      · split at h
        · rename_i hf
          exact ARE.op (e := ⟨.pv (.bool false), [], pG ops s.g o.guard, []⟩) ⟨rfl, fun _ => rfl, gOkB_spec hg, fun hh => (ppF_not hf hh).elim⟩ (ih h)
        · exact h
    · exact h
end

/-! ### Calls -/
section
variable {P : Program} {z : Ini} {ops : List Oper} {i : Nat} {l : List Oper} {s : RS} {o : Oper} {K : RS → Prop} {es : List PE} {KE : List PE → RS → Prop} {p : Path} {f : FuncId} {args : Array Operand} {tys : Array TypeId} {ps : List PV} {r : PV}

theorem operands_call (ho : o.op = .call ⟨.value (.func f), args, tys⟩) : .func f ∈ o.op.operands ∧ ∀ x ∈ args, x ∈ o.op.operands := by
  rw [ho]; exact ⟨by simp [Op.operands, Call.operands], fun x hx => by simp [Op.operands, Call.operands, hx]⟩

theorem LS.pcall (hc : PC P f ps r) (ho : o.op = .call ⟨.value (.func f), args, tys⟩) (hp : purL (args.toList.map (evG p s.t s.g)) = some ps) : LS P z ops i o s ⟨.pv r, [], p, []⟩ := by
  intro C h' c w ρ hC hpath hn hft hu M hfn hev
  classical
  obtain ⟨h1, h2⟩ := operands_call ho
  let ev' : Operand → AV := fun x => if x ∈ args then evG p s.t s.g x else .any
  refine Yields.pcall (ev := ev') M (fun x => ?_) (hfn f) ho ?_ hc
  · by_cases hx : x ∈ args
    · simp only [ev', if_pos hx]; exact hev x (h2 x hx) p hpath
    · simp only [ev', if_neg hx]; exact .any _
  · rw [← hp]
    congr 1
    exact List.map_congr_left fun x hx => by simp [ev', show x ∈ args from by simpa using hx]

where
  one {S : Nat → Bool} {h h' : List ABlk} : ∀ (x : AV), (∀ k ∈ refs x, EqN h h' k) → purH S h' x = purH S h x
    | .pv p, _ => rfl
    | .agg xs, hh => by simp only [purH]; rw [many (S := S) (h := h) (h' := h') xs (by simpa [refs] using hh)]
    | .tup xs, hh => by simp only [purH]; rw [many (S := S) (h := h) (h' := h') xs (by simpa [refs] using hh)]
    | .ifc t x, hh => by simp only [purH]; rw [one (S := S) (h := h) (h' := h') x (by simpa [refs] using hh)]
    | .vs i off n, hh => by
      simp only [purH]
      rcases hh i (by simp [refs]) with e | ⟨e, e'⟩
      · rw [e]
      · rw [e, e']; cases S i <;> rfl
    | .ptr _ _, _ => rfl
    | .el _ _, _ => rfl
    | .ve _ _ _, _ => rfl
    | .sl _ _ _ _, _ => rfl
    | .fn _ _ _, _ => rfl
    | .mp _, _ => rfl
    | .any, _ => rfl
  many {S : Nat → Bool} {h h' : List ABlk} : ∀ (xs : List AV), (∀ k ∈ refsL xs, EqN h h' k) → purHL S h' xs = purHL S h xs
    | [], _ => rfl
    | x :: xs, hh => by
      simp only [purHL]
      rw [one (S := S) (h := h) (h' := h') x (fun k hk => hh k (by simp [refsL, hk])), many (S := S) (h := h) (h' := h') xs (fun k hk => hh k (by simp [refsL, hk]))]

/-- A call whose arguments need no memory of the call's own. -/
theorem ARN.pcall (hc : ppT ops s.t p → PC P f ps r) (ho : o.op = .call ⟨.value (.func f), args, tys⟩) (hpp : pG ops s.g o.guard = p) (hg : gOkB ops i s.t o.guard = true) (hp : purL (args.toList.map (evG p s.t s.g)) = some ps)
    (h : ARN P z ops (i + 1) l ⟨putT s.t o.dst (.pv r), putG s.g o.dst p, s.h⟩ K) : ARN P z ops i (o :: l) s K :=
  ARN.op (e := ⟨.pv r, [], p, []⟩) ⟨hpp.symm, fun _ => rfl, gOkB_spec hg, fun hh => LS.pcall (hc hh) ho hp⟩ h
theorem ARE.pcall (hc : ppT ops s.t p → PC P f ps r) (ho : o.op = .call ⟨.value (.func f), args, tys⟩) (hpp : pG ops s.g o.guard = p) (hg : gOkB ops i s.t o.guard = true) (hp : purL (args.toList.map (evG p s.t s.g)) = some ps)
    (h : ARE P z ops (i + 1) l ⟨putT s.t o.dst (.pv r), putG s.g o.dst p, s.h⟩ (⟨.pv r, [], p, []⟩ :: es) KE) : ARE P z ops i (o :: l) s es KE :=
  ARE.op (e := ⟨.pv r, [], p, []⟩) ⟨hpp.symm, fun _ => rfl, gOkB_spec hg, fun hh => LS.pcall (hc hh) ho hp⟩ h
end

/-! ### Regions -/
section
variable {P : Program} {z : Ini} {σ : St} {Q : Exit → St → Prop} {id : Nat} {ops : List Oper}
theorem AW.regN (hd : distinctB ops = true) (h : ARN P z ops 0 ops ⟨σ.t, [], σ.h⟩ (fun s => Q .normal ⟨cleanT s.g s.t, s.h⟩)) : AW P z (.region id ops.toArray false) σ Q := by
  obtain ⟨es, s', hr, hq⟩ := h
  exact AW.regionT (es := es) (by simpa using hr) (by simpa using hd) hq
theorem AW.regD (hm : P.follows .mixedOrders = true) (hd : distinctB ops = true) (h : ARE P z ops 0 ops ⟨σ.t, [], σ.h⟩ [] (fun es s => drawOk ops (dsOf es) = true ∧ Q .normal ⟨cleanT s.g s.t, s.h⟩)) : AW P z (.region id ops.toArray true) σ Q := by
  obtain ⟨es, s', hr, hk, hq⟩ := ARE.of h
  exact AW.regionD hm (es := es) (by simpa using hr) (by simpa using hd) (by simpa using hk) hq
end
end Go.Ab
namespace Go.Ab
@[go_sem] theorem beq_tt (b : Bool) : (b == true) = b := by cases b <;> rfl
@[go_sem] theorem beq_ff (b : Bool) : (b == false) = !b := by cases b <;> rfl
@[go_sem] theorem tt_beq (b : Bool) : (true == b) = b := by cases b <;> rfl
@[go_sem] theorem ff_beq (b : Bool) : (false == b) = !b := by cases b <;> rfl
attribute [go_sem] dsOf stepR stillB feet gOkB evG lk memP subP pG putG dstOf ixOf cleanT purH purHL eqA eqL eqP fit fitP binP thenK blockK roundK retK ppT ppF refs refsL
attribute [go_sem] Nat.reduceSub Nat.reduceAdd Nat.reduceMul Nat.reduceLT Nat.reduceEqDiff Nat.reduceBEq List.replicate_succ List.replicate_zero Option.isSome_some Option.isSome_none Bool.true_and Bool.and_true Bool.false_and Bool.and_false Bool.true_or Bool.or_true Bool.false_or Bool.or_false Bool.not_true Bool.not_false decide_false decide_true beq_self_eq_true Array.toList_append Op.operands Call.operands List.flatMap_cons List.flatMap_nil List.toList_toArray List.reverse_cons List.reverse_nil ite_self and_self and_true true_and and_false false_and not_true_eq_false not_false_eq_true ne_eq bne_self_eq_false Bool.bne_true Bool.bne_false Bool.true_bne Bool.false_bne if_true if_false reduceCtorEq
attribute [go_sem] Nat.reduceLeDiff Nat.reduceLT Nat.reduceGT Nat.reduceBneDiff Nat.reduceBeqDiff Nat.reduceDiv Nat.reduceMod Int.reduceLE Int.reduceLT Int.reduceEq Int.reduceNe Int.reduceNeg Int.reduceToNat Int.reduceAdd Int.reduceSub Int.reduceMul Int.reduceNegSucc Int.reduceBEq Int.reducePow Int.reduceTDiv Int.reduceTMod Int.toNat_natCast Int.reduceDiv Int.reduceMod
@[go_sem] theorem cast_lit (n : Nat) : ((no_index (OfNat.ofNat n : Nat)) : Int) = OfNat.ofNat n := rfl
end Go.Ab
namespace Go.Ab
open Go.RowKit
set_option linter.unusedVariables false
set_option linter.unusedSimpArgs false

theorem Sub.of {p q : PV} (h : p = q) : Sub p q := h ▸ Sub.refl p

section
variable {P : Program} {z : Ini} {ops l l' : List Oper} {i i' id : Nat} {o : Oper} {t t1 t2 : List AV} {h h1 : List ABlk} {g1 : List (Nat × Path)} {s s' : RS} {K : RS → Prop} {Q : Exit → St → Prop} {a b : Code} {rs : List ResultVar} {r p : PV} {x : AV} {dr : Bool} {pp : Path}

/-- What a region leads to. -/
def regK (P : Program) (z : Ini) (Q : Exit → St → Prop) : RS → Prop := fun s => Q .normal ⟨cleanT s.g s.t, s.h⟩
theorem AW.reg (hd : distinctB ops = true) (k : ARN P z ops 0 ops ⟨t, [], h⟩ (regK P z Q)) : AW P z (.region id ops.toArray false) ⟨t, h⟩ Q := AW.regN hd k
theorem AW.regS (hd : distinctB ops = true) (k : ARN P z ops 0 ops ⟨t, [], h⟩ (regK P z (thenK P z b Q))) : AW P z (.seq (.region id ops.toArray false) b) ⟨t, h⟩ Q := AW.seq (AW.regN hd k)
theorem ARN.run1 (he : runN P ops i l s = (i', l', s')) (k : ARN P z ops i' l' s' K) : ARN P z ops i l s K := ARN.run (by rw [he]; exact k)
theorem ARN.run1S (he : runNS P ops i l s = (i', l', s')) (k : ARN P z ops i' l' s' K) : ARN P z ops i l s K := ARN.runS (by rw [he]; exact k)
theorem ARN.fin (hc : cleanT g1 t = t2) (k : AW P z b ⟨t2, h⟩ Q) : ARN P z ops i [] ⟨t, g1, h⟩ (regK P z (thenK P z b Q)) := ARN.nil (by subst hc; exact k)
theorem ARN.fin1 (hc : cleanT g1 t = t2) (k : Q .normal ⟨t2, h⟩) : ARN P z ops i [] ⟨t, g1, h⟩ (regK P z Q) := ARN.nil (by subst hc; exact k)
theorem AW.regR (hd : distinctB ops = true) (he : runN P ops 0 ops ⟨t, [], h⟩ = (i, [], ⟨t1, g1, h1⟩)) (hc : cleanT g1 t1 = t2) (k : AW P z b ⟨t2, h1⟩ Q) : AW P z (.seq (.region id ops.toArray false) b) ⟨t, h⟩ Q := AW.regS hd (ARN.run1 he (ARN.fin hc k))
theorem AW.regR1 (hd : distinctB ops = true) (he : runN P ops 0 ops ⟨t, [], h⟩ = (i, [], ⟨t1, g1, h1⟩)) (hc : cleanT g1 t1 = t2) (k : Q .normal ⟨t2, h1⟩) : AW P z (.region id ops.toArray false) ⟨t, h⟩ Q := AW.reg hd (ARN.run1 he (ARN.fin1 hc k))
/-- An operation whose guard does not hold. -/
theorem ARN.skip (v : AV) (hp : pG ops s.g o.guard = pp) (hg : gOkB ops i s.t o.guard = true) (hn : ¬ ppT ops s.t pp) (k : ARN P z ops (i + 1) l ⟨putT s.t o.dst v, putG s.g o.dst pp, s.h⟩ K) : ARN P z ops i (o :: l) s K :=
  ARN.op (e := ⟨v, [], pp, []⟩) ⟨hp.symm, fun _ => rfl, gOkB_spec hg, fun hh => (hn hh).elim⟩ k

/-! ### A region that draws -/
def drawOkM (ops : List Oper) (bs : List Nat) (ds : List (List Nat × List Nat)) : Bool :=
  ops.zipIdx.all fun (oj, j) =>
    oj.after.all (fun e => !Region.binds .any e || decide (e.on < j)) &&
    (match oj.guard with | none => true | some (m, _) => (bs.getD j 0).testBit m) &&
    ops.zipIdx.all fun (oi, i) => pairOk bs i j (touch oi oj (ds.getD i ([], [])).1 (ds.getD j ([], [])).2 (ds.getD j ([], [])).1)
theorem drawOk_of {bs : List Nat} {ds : List (List Nat × List Nat)} (hb : befs [] ops = bs) (h : drawOkM ops bs ds = true) : drawOk ops ds = true := by subst hb; exact h
def regKD (P : Program) (z : Ini) (ops : List Oper) (Q : Exit → St → Prop) : List PE → RS → Prop := fun es s => drawOk ops (dsOf es) = true ∧ Q .normal ⟨cleanT s.g s.t, s.h⟩
theorem AW.regDS (hm : P.follows .mixedOrders = true) (hd : distinctB ops = true) (k : ARE P z ops 0 ops ⟨t, [], h⟩ [] (regKD P z ops (thenK P z b Q))) : AW P z (.seq (.region id ops.toArray true) b) ⟨t, h⟩ Q := AW.seq (AW.regD hm hd k)
theorem AW.regD1 (hm : P.follows .mixedOrders = true) (hd : distinctB ops = true) (k : ARE P z ops 0 ops ⟨t, [], h⟩ [] (regKD P z ops Q)) : AW P z (.region id ops.toArray true) ⟨t, h⟩ Q := AW.regD hm hd k
theorem ARE.run1 {es es' : List PE} {K : List PE → RS → Prop} (he : runD P ops i l s es = (i', l', s', es')) (k : ARE P z ops i' l' s' es' K) : ARE P z ops i l s es K := ARE.run (by rw [he]; exact k)
theorem ARE.run1S {es es' : List PE} {K : List PE → RS → Prop} (he : runDS P ops i l s es = (i', l', s', es')) (k : ARE P z ops i' l' s' es' K) : ARE P z ops i l s es K := ARE.runS (by rw [he]; exact k)
theorem ARE.fin {es : List PE} (bs : List Nat) (ds : List (List Nat × List Nat)) (hb : befs [] ops = bs) (hds : dsOf es.reverse = ds) (hm : drawOkM ops bs ds = true) (hc : cleanT g1 t = t2) (k : AW P z b ⟨t2, h⟩ Q) : ARE P z ops i [] ⟨t, g1, h⟩ es (regKD P z ops (thenK P z b Q)) := ARE.nil ⟨by rw [hds]; exact drawOk_of hb hm, by subst hc; exact k⟩
theorem ARE.fin1 {es : List PE} (bs : List Nat) (ds : List (List Nat × List Nat)) (hb : befs [] ops = bs) (hds : dsOf es.reverse = ds) (hm : drawOkM ops bs ds = true) (hc : cleanT g1 t = t2) (k : Q .normal ⟨t2, h⟩) : ARE P z ops i [] ⟨t, g1, h⟩ es (regKD P z ops Q) := ARE.nil ⟨by rw [hds]; exact drawOk_of hb hm, by subst hc; exact k⟩
theorem ARE.skip {es : List PE} {K : List PE → RS → Prop} (v : AV) (hp : pG ops s.g o.guard = pp) (hg : gOkB ops i s.t o.guard = true) (hn : ¬ ppT ops s.t pp) (k : ARE P z ops (i + 1) l ⟨putT s.t o.dst v, putG s.g o.dst pp, s.h⟩ (⟨v, [], pp, []⟩ :: es) K) : ARE P z ops i (o :: l) s es K :=
  ARE.op (e := ⟨v, [], pp, []⟩) ⟨hp.symm, fun _ => rfl, gOkB_spec hg, fun hh => (hn hh).elim⟩ k

theorem PC.start {f : FuncId} {fn : Func} {ps : List PV} {code : Code} (n : Nat) (hc : ∀ (args : Array Value) (w : World), (callFunc f args).run P w = .ok (.enter f args) w)
    (hf : P.funcs[f]? = some fn) (hb : fn.body = some code) (hn : fn.ntmps = n) (hr : fn.results = rs.toArray) (ht : ps.map .pv ++ List.replicate (n - ps.length) .any = t)
    (k : ∀ z : Ini, z.n = 0 → AW P z code ⟨t, []⟩ (retK P rs r)) : PC P f ps r := PC.body n hc hf hb hn (by rw [ht, hr]; exact k)

theorem PC.arg {f : FuncId} {ps qs : List PV} (h : PC P f qs r) (hs : SubL ps qs) : PC P f ps r := ⟨h.call, fun ok w vs h1 hG h2 => h.spec ok w vs h1 hG (by
  obtain ⟨l1, l2⟩ := SubL_get hs
  refine ⟨l1.symm.trans h2.1, fun k q v hk hv => ?_⟩
  obtain ⟨p, hp, hsub⟩ := l2 k q hk
  exact hsub _ _ _ (h2.2 k p v hp hv))⟩

/-! ### Branches that are known, rounds -/
theorem AW.condT {p q : Code} {y : Operand} (hx : evO t y = .pv (.bool true)) (k : AW P z p ⟨t, h⟩ Q) : AW P z (.cond y p q) ⟨t, h⟩ Q := AW.cond (b := true) hx (fun _ => k) (fun h => by cases h)
theorem AW.condF {p q : Code} {y : Operand} (hx : evO t y = .pv (.bool false)) (k : AW P z q ⟨t, h⟩ Q) : AW P z (.cond y p q) ⟨t, h⟩ Q := AW.cond (b := false) hx (fun h => by cases h) (fun _ => k)
theorem ARounds.mk {n : Nat} {σ : St} (k : AW P z b σ (roundK (ARounds P z b Q n) Q)) : ARounds P z b Q (n + 1) σ := k

/-! ### Ends -/
theorem retK.fin (hq : Q .ret ⟨t, h⟩ = retK P rs r .ret ⟨t, h⟩) (h1 : resA P ⟨t, h⟩ rs = some x) (h2 : purH (fun _ => true) h x = some p) (h3 : Sub p r) : AW P z .ret ⟨t, h⟩ Q := AW.ret (by rw [hq]; exact ⟨x, p, h1, h2, h3⟩)
end
end Go.Ab
