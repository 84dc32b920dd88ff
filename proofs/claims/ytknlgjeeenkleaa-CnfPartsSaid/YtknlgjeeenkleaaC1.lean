/- One operation comes up; a region in the order of its text, and in any order. -/
import Derived.Test.YtknlgjeeenkleaaB9
namespace Go.Ab
open Go.RowKit
set_option linter.unusedVariables false
set_option linter.unusedSimpArgs false

section
variable {P : Program} {z : Ini} {opsA : Array Oper} {es : List PE} {s₀ : RS}

theorem HL_add (G : Good P z opsA.toList es s₀) {L : Nat → Bool} {j : Nat} {e : PE} (hj : j < opsA.toList.length) (he : es[j]? = some e) (hm : ∀ k, inD e.d k → ∀ i e', es[i]? = some e' → inD e'.d k → (i < j ↔ L i = true)) (hnew : L j = false) :
    HL es (h0p opsA.toList es s₀) (add L j) opsA.toList.length = app (HL es (h0p opsA.toList es s₀) L opsA.toList.length) e.d := by
  have hin := G.din
  have l1 := HL_len hin (add L j) opsA.toList.length
  have l2 := HL_len hin L opsA.toList.length
  refine List.ext_getElem? fun k => ?_
  by_cases hd : inD e.d k
  · have hk := hm k hd
    have e1 := HL_at hin (add L j) (fun i => decide (i < j + 1)) k opsA.toList.length (fun i e' hi he' hd' => by
      have := hk i e' he' hd'
      by_cases h : i = j
      · simp [add, h]
      · by_cases h2 : i < j
        · simp [add, this.1 h2]; omega
        · have h3 : L i = false := by
            cases hL : L i with
            | false => rfl
            | true => exact absurd (this.2 hL) h2
          have h4 : decide (i < j + 1) = false := by simp; omega
          rw [h4]
          simp [add, h, h3])
    have e2 := HL_cut (es := es) (h := h0p opsA.toList es s₀) (fun i => decide (i < j + 1)) (j + 1) opsA.toList.length (by omega) (fun i hi => by simp; omega)
    rw [e1, e2]
    simp only [HL, he, show decide (j < j + 1) = true from by simp, if_true]
    exact app_get e.d _ _ (fun x hx => by rw [HL_len hin]; exact hin j e he x hx) (fun x hx => by rw [l2]; exact hin j e he x hx) (.inl hd)
  · rw [app_other e.d _ (fun x hx => by rw [l2]; exact hin j e he x hx) hd]
    exact HL_at hin (add L j) L k _ (fun i e' hi he' hd' => by
      by_cases h : i = j
      · subst h; rw [he] at he'; injection he' with he'; subst he'; exact absurd hd' hd
      · simp [add, h])

theorem pth_holds {C : Nat → Bool} {p : Path} {m : Nat} {b : Bool} : holds C (p ++ [(m, b)]) ↔ holds C p ∧ C m = b := by
  constructor
  · intro h
    exact ⟨fun x hx => h x (by simp [hx]), h (m, b) (by simp)⟩
  · intro ⟨h1, h2⟩
    exact holds_snoc h1 h2

theorem RInv.step (G : Good P z opsA.toList es s₀) {L : Nat → Bool} {a : Act} {c : Cx} {w : World} (r : RInv z opsA.toList es s₀ L a.tmps c w) (hdf : a.defers = []) {j : Nat} {o : Oper} {e : PE} (ho : opsA[j]? = some o) (he : es[j]? = some e) (M : May opsA.toList es s₀ L j o e)
    {K : Act → World → Prop} {Q : Exit → Act → World → Prop} (hK : ∀ a' c' w', RInv z opsA.toList es s₀ (add L j) a'.tmps c' w' → a'.defers = [] → K a' w') : wpOp P opsA Q j K a w := by
  have ho' : opsA.toList[j]? = some o := by simpa using ho
  have hj : j < opsA.toList.length := (List.getElem?_eq_some_iff.1 ho').1
  have k := G.ok j o e ho' he
  have hadd := HL_add G hj he (fun q hq => M.mem q (.inr hq)) M.new
  -- whether the guard lets it run is whether its path holds
  have hw : Region.wanted o (yielded opsA a.tmps) = true ↔ holds (Cof es) e.p := by
    rw [k.p]
    cases hg : o.guard with
    | none => simp [Region.wanted, hg, pG]; intro x hx; cases hx
    | some mb =>
      obtain ⟨m, b⟩ := mb
      have kg := k.g
      rw [hg] at kg
      simp only [gOk] at kg
      obtain ⟨hm, kg⟩ := kg
      cases hd : dstOf opsA.toList m with
      | none => rw [hd] at kg; exact kg.elim
      | some d =>
        rw [hd] at kg
        obtain ⟨em, hem⟩ := G.at (j := m) (by omega)
        obtain ⟨t1, t2⟩ := stN_written (s₀ := s₀) G.dis hd hem j hm (by omega)
        have hlt : d < s₀.t.length := by
          rcases Nat.lt_or_ge d s₀.t.length with h | h
          · exact h
          · rw [if_neg (by omega)] at t1
            simp [List.getD_eq_getElem?_getD, t1, boolOf] at kg
        rw [if_pos hlt] at t1
        simp only [List.getD_eq_getElem?_getD, t1, Option.getD_some] at kg
        obtain ⟨v, hv⟩ := Option.isSome_iff_exists.1 kg
        have hev : em.r = .pv (.bool v) := by
          unfold boolOf at hv
          split at hv
          · rename_i heq; injection hv with hv; rw [heq, hv]
          · cases hv
        have hC : Cof es m = v := by simp [Cof, hem, hv]
        have hp : pG opsA.toList (stN opsA.toList es s₀ j).g (some (m, b)) = em.p ++ [(m, b)] := by
          simp only [pG, hd]
          congr 1
          cases hlk : lk (stN opsA.toList es s₀ j).g d with
          | none =>
            by_cases hp : em.p = []
            · rw [hp]; rfl
            · rw [t2 hp] at hlk; cases hlk
          | some q =>
            obtain ⟨i, e', h1, h2, h3, h4, _⟩ := stN_path G.g j hlk
            have : i = m := G.dis i m d h2 hd
            subst this
            rw [hem] at h3; injection h3 with h3
            rw [← h4, ← h3]; rfl
        rw [hp, pth_holds, hC]
        have hks : d < a.tmps.size := by rw [r.sz]; exact hlt
        have hu : a.tmps[d]? = some a.tmps[d] := Array.getElem?_eq_getElem hks
        obtain ⟨r1, _⟩ := r.tmp d _ hu
        obtain ⟨a1, a2⟩ := r1 m em (M.grd m b hg) hd hem
        have hy : yielded opsA a.tmps m = match a.tmps[d] with | .bool b => some b | _ => none := by
          have hd' : (opsA[m]?).bind (·.dst) = some d := by simpa [dstOf] using hd
          simp only [yielded, hd', Option.bind_some, hu]
          cases a.tmps[d] <;> rfl
        simp only [Region.wanted, hg]
        by_cases hh : holds (Cof es) em.p
        · have := a1 hh
          rw [hev] at this
          have hb : a.tmps[d] = .bool v := by
            generalize a.tmps[d] = q at this
            cases this with | pv _ _ hr => cases hr; rfl
          rw [hy, hb]
          simp [hh]
        · have := a2 hh
          rw [hy, this]
          simp [hh, undef]
  unfold wpOp
  rw [ho]
  simp only
  by_cases hwt : Region.wanted o (yielded opsA a.tmps) = true
  · rw [if_pos hwt]
    left
    have hh := hw.1 hwt
    have hpp : ppT opsA.toList (stN opsA.toList es s₀ j).t e.p := by
      have hpath := G.path j e he
      have : ∀ q : Path, (∀ x ∈ q, x ∈ e.p) → ppT opsA.toList (stN opsA.toList es s₀ j).t q := by
        intro q
        induction q with
        | nil => intro _; trivial
        | cons x q ih =>
          intro hq
          obtain ⟨m, b⟩ := x
          obtain ⟨g1, d, g2, g3, em, g4, g5⟩ := hpath (m, b) (hq _ (by simp))
          simp only at g1 g2 g4
          refine ⟨?_, ih (fun x hx => hq x (by simp [hx]))⟩
          rw [g2]
          obtain ⟨t1, _⟩ := stN_written (s₀ := s₀) G.dis g2 g4 j g1 (by omega)
          rw [if_pos g3] at t1
          simp only [List.getD_eq_getElem?_getD, t1, Option.getD_some]
          obtain ⟨v, hv⟩ := Option.isSome_iff_exists.1 g5
          have hC := hh (m, b) (hq _ (by simp))
          simp only [Cof, g4, hv, Option.getD_some] at hC
          rw [hv, hC]
      exact this e.p (fun x hx => hx)
    have hls := k.ls hpp (Cof es) (HL es (h0p opsA.toList es s₀) L opsA.toList.length) c w a.eval (G.cf j (by omega)) hh (Nat.le_trans G.zn (by have := stN_hlen (ops := opsA.toList) (es := es) (s₀ := s₀) 0 j (by omega); simpa [stN] using this))
      (fun q hq => by
        unfold EqN
        rw [G.memAt (by omega) (M.mem q (.inl hq))]
        have ag := (G.agp j (by omega)) q
        cases hs : (stN opsA.toList es s₀ j).h[q]? with
        | some b => exact .inl (ag.1 b hs)
        | none =>
          rcases ag.2 hs with h | h
          · exact .inl h
          · exact .inr ⟨rfl, h⟩)
      (fun x hx hge => by
        have hd : inD e.d x.1 := ⟨x.2, hx⟩
        unfold unborn
        rw [G.memAt (by omega) (M.mem x.1 (.inr hd))]
        exact ((G.agp j (by omega)) x.1).2 (List.getElem?_eq_none hge))
      r.m (fun f => rfl) (fun x hx q hq => r.operand G (by omega) (fun q' e' i hi => M.opd q' (by rw [← e']; exact hx) i hi) hq)
    refine hls.wp fun c' v w' Lt Mm hr => hK _ c' w' ⟨by rw [hadd]; exact Mm, ?_, fun q u hu => ⟨fun i e' hL hd he' => ?_, fun hno x hx => ?_⟩⟩ (by rw [put_defers]; exact hdf)
    · cases hdst : o.dst <;> simp [Act.put, r.sz]
    · rw [hadd]
      by_cases hij : i = j
      · subst hij
        rw [he] at he'; injection he' with he'; subst he'
        have hdst : o.dst = some q := by simpa [dstOf, ho'] using hd
        rw [hdst] at hu
        simp only [Act.put, Array.getElem?_setIfInBounds] at hu
        split at hu
        · split at hu
          · injection hu with hu; subst hu; exact ⟨fun _ => hr, fun h => absurd hh h⟩
          · cases hu
        · rename_i hne; exact absurd trivial hne
      · have hne : o.dst ≠ some q := fun h => hij (G.dis i j q hd (by simp [dstOf, ho', h]))
        have hu' : a.tmps[q]? = some u := by
          cases hdst : o.dst with
          | none => rw [hdst] at hu; exact hu
          | some d => rw [hdst] at hu; simp only [Act.put, Array.getElem?_setIfInBounds] at hu; rwa [if_neg (fun e => hne (by rw [hdst, e]))] at hu
        have hL' : L i = true := by simpa [add, hij] using hL
        obtain ⟨a1, a2⟩ := (r.tmp q u hu').1 i e' hL' hd he'
        exact ⟨fun h => (a1 h).later Lt, a2⟩
    · rw [hadd]
      have hne : o.dst ≠ some q := fun h => hno j (by simp [add]) (by simp [dstOf, ho', h])
      have hu' : a.tmps[q]? = some u := by
        cases hdst : o.dst with
        | none => rw [hdst] at hu; exact hu
        | some d => rw [hdst] at hu; simp only [Act.put, Array.getElem?_setIfInBounds] at hu; rwa [if_neg (fun e => hne (by rw [hdst, e]))] at hu
      exact ((r.tmp q u hu').2 (fun i hL => hno i (by simp [add, hL])) x hx).later Lt
  · rw [if_neg hwt]
    have hh : ¬ holds (Cof es) e.p := fun h => hwt (hw.2 h)
    have hp : e.p ≠ [] := fun h => hh (by rw [h]; intro x hx; cases hx)
    have hd0 := k.d hp
    rw [hd0] at hadd
    simp only [app] at hadd
    refine hK _ c w ⟨by rw [hadd]; exact r.m, ?_, fun q u hu => ⟨fun i e' hL hd he' => ?_, fun hno x hx => ?_⟩⟩ (by rw [put_defers]; exact hdf)
    · cases hdst : o.dst <;> simp [Act.put, r.sz]
    · rw [hadd]
      by_cases hij : i = j
      · subst hij
        rw [he] at he'; injection he' with he'; subst he'
        have hdst : o.dst = some q := by simpa [dstOf, ho'] using hd
        rw [hdst] at hu
        simp only [Act.put, Array.getElem?_setIfInBounds] at hu
        split at hu
        · split at hu
          · injection hu with hu; subst hu; exact ⟨fun h => absurd h hh, fun _ => rfl⟩
          · cases hu
        · rename_i hne; exact absurd trivial hne
      · have hne : o.dst ≠ some q := fun h => hij (G.dis i j q hd (by simp [dstOf, ho', h]))
        have hu' : a.tmps[q]? = some u := by
          cases hdst : o.dst with
          | none => rw [hdst] at hu; exact hu
          | some d => rw [hdst] at hu; simp only [Act.put, Array.getElem?_setIfInBounds] at hu; rwa [if_neg (fun e => hne (by rw [hdst, e]))] at hu
        exact (r.tmp q u hu').1 i e' (by simpa [add, hij] using hL) hd he'
    · rw [hadd]
      have hne : o.dst ≠ some q := fun h => hno j (by simp [add]) (by simp [dstOf, ho', h])
      have hu' : a.tmps[q]? = some u := by
        cases hdst : o.dst with
        | none => rw [hdst] at hu; exact hu
        | some d => rw [hdst] at hu; simp only [Act.put, Array.getElem?_setIfInBounds] at hu; rwa [if_neg (fun e => hne (by rw [hdst, e]))] at hu
      exact (r.tmp q u hu').2 (fun i hL => hno i (by simp [add, hL])) x hx
end
end Go.Ab
