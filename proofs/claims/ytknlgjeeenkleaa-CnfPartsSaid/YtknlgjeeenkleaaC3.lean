/- Regions that draw their order. -/
import Derived.Test.YtknlgjeeenkleaaC2
namespace Go.Ab
open Go.RowKit
set_option linter.unusedVariables false
set_option linter.unusedSimpArgs false
set_option linter.unnecessarySimpa false

/-! ### What comes ahead of what -/
def maskOf (o : Oper) (acc : List Nat) : Nat := o.after.toList.foldl (fun s e => if Region.binds .any e = true then s ||| 2 ^ e.on ||| acc.getD e.on 0 else s) 0
def befs : List Nat → List Oper → List Nat
  | acc, [] => acc
  | acc, o :: l => befs (acc ++ [maskOf o acc]) l
theorem foldl_bit (acc : List Nat) (i : Nat) : ∀ (l : List Edge) (s : Nat), (l.foldl (fun s e => if Region.binds .any e = true then s ||| 2 ^ e.on ||| acc.getD e.on 0 else s) s).testBit i = true →
    s.testBit i = true ∨ ∃ e ∈ l, Region.binds .any e = true ∧ (e.on = i ∨ (acc.getD e.on 0).testBit i = true)
  | [], s, h => .inl h
  | e :: l, s, h => by
    rcases foldl_bit acc i l _ h with h1 | ⟨e', h1, h2⟩
    · dsimp only at h1
      split at h1
      · rename_i hb
        simp only [Nat.testBit_or, Bool.or_eq_true] at h1
        rcases h1 with (h1 | h1) | h1
        · exact .inl h1
        · refine .inr ⟨e, by simp, hb, .inl ?_⟩
          simpa [Nat.testBit_two_pow] using h1
        · exact .inr ⟨e, by simp, hb, .inr h1⟩
      · exact .inl h1
    · exact .inr ⟨e', by simp [h1], h2⟩
theorem befs_len : ∀ (l : List Oper) (acc : List Nat), (befs acc l).length = acc.length + l.length
  | [], acc => by simp [befs]
  | o :: l, acc => by rw [befs, befs_len l]; simp; omega
theorem befs_acc : ∀ (l : List Oper) (acc : List Nat) (j : Nat), j < acc.length → (befs acc l)[j]? = acc[j]?
  | [], acc, j, _ => rfl
  | o :: l, acc, j, h => by rw [befs, befs_acc l _ j (by simp; omega), List.getElem?_append_left h]
theorem befs_at : ∀ (l : List Oper) (acc : List Nat) (j : Nat) (o : Oper), l[j]? = some o → ∃ m, (befs acc l)[acc.length + j]? = some m ∧ ∀ i, m.testBit i = true → ∃ e ∈ o.after, Region.binds .any e = true ∧ (e.on = i ∨ ((e.on < acc.length + j) ∧ ((befs acc l).getD e.on 0).testBit i = true))
  | [], acc, j, o, h => by simp at h
  | q :: l, acc, 0, o, h => by
    simp at h; subst h
    refine ⟨maskOf q acc, by rw [befs, befs_acc l _ _ (by simp)]; simp, fun i hi => ?_⟩
    rcases foldl_bit acc i q.after.toList 0 hi with h1 | ⟨e, h1, h2, h3⟩
    · simp at h1
    · refine ⟨e, by simpa using h1, h2, ?_⟩
      rcases h3 with h3 | h3
      · exact .inl h3
      · right
        have hlt : e.on < acc.length := by
          rcases Nat.lt_or_ge e.on acc.length with h | h
          · exact h
          · rw [List.getD_eq_getElem?_getD, List.getElem?_eq_none h] at h3; simp at h3
        refine ⟨by omega, ?_⟩
        rw [List.getD_eq_getElem?_getD, befs, befs_acc l _ _ (by simp; omega), List.getElem?_append_left hlt, ← List.getD_eq_getElem?_getD]
        exact h3
  | q :: l, acc, j + 1, o, h => by
    obtain ⟨m, h1, h2⟩ := befs_at l (acc ++ [maskOf q acc]) j o (by simpa using h)
    simp only [List.length_append, List.length_cons, List.length_nil, Nat.zero_add] at h1 h2
    refine ⟨m, by rw [befs, ← h1]; congr 1; omega, fun i hi => ?_⟩
    obtain ⟨e, e1, e2, e3⟩ := h2 i hi
    refine ⟨e, e1, e2, ?_⟩
    rcases e3 with e3 | ⟨e3, e4⟩
    · exact .inl e3
    · exact .inr ⟨by omega, e4⟩

/-- Whatever the bits name has come up, where the ground is closed. -/
theorem befs_closed {ops : List Oper} {L : Nat → Bool} (hc : ∀ j o, ops[j]? = some o → L j = true → ∀ e ∈ o.after, Region.binds .any e = true → L e.on = true) : ∀ (j : Nat) (o : Oper), ops[j]? = some o →
    (∀ e ∈ o.after, Region.binds .any e = true → L e.on = true) → ∀ i, ((befs [] ops).getD j 0).testBit i = true → L i = true := by
  intro j
  induction j using Nat.strongRecOn with
  | ind j ih =>
    intro o ho hr i hi
    obtain ⟨m, h1, h2⟩ := befs_at ops [] j o ho
    simp only [List.length_nil, Nat.zero_add] at h1 h2
    rw [List.getD_eq_getElem?_getD, h1] at hi
    obtain ⟨e, e1, e2, e3⟩ := h2 i hi
    have hl := hr e e1 e2
    rcases e3 with rfl | ⟨e3, e4⟩
    · exact hl
    · have hlt : e.on < ops.length := by have := (List.getElem?_eq_some_iff.1 ho).1; omega
      have ho' : ops[e.on]? = some ops[e.on] := List.getElem?_eq_getElem hlt
      exact ih e.on e3 _ ho' (fun e' h' hb => hc e.on _ ho' hl e' h' hb) i e4

/-! ### The check -/
def tmpsOf (o : Oper) : List Nat := o.op.operands.toList.filterMap fun | .tmp k => some k | _ => none
/-- Does operation i write what j leans on, or writes? -/
def touch (oi oj : Oper) (di fj dj : List Nat) : Bool := (match oi.dst with | some d => (tmpsOf oj).contains d | none => false) || di.any (fun k => fj.contains k || dj.contains k)
def pairOk (b : List Nat) (i j : Nat) (t : Bool) : Bool := i == j || !t || (if i < j then (b.getD j 0).testBit i else (b.getD i 0).testBit j)
/-- 'ds': the names that each operation writes, and leans on. -/
def drawOk (ops : List Oper) (ds : List (List Nat × List Nat)) : Bool :=
  ops.zipIdx.all fun (oj, j) =>
    oj.after.all (fun e => !Region.binds .any e || decide (e.on < j)) &&
    (match oj.guard with | none => true | some (m, _) => ((befs [] ops).getD j 0).testBit m) &&
    ops.zipIdx.all fun (oi, i) => pairOk (befs [] ops) i j (touch oi oj (ds.getD i ([], [])).1 (ds.getD j ([], [])).2 (ds.getD j ([], [])).1)
def dsOf (es : List PE) : List (List Nat × List Nat) := es.map fun e => (e.d.map (·.1), e.ft)

theorem zipIdx_all {α : Type} {l : List α} {p : α × Nat → Bool} (h : l.zipIdx.all p = true) {i : Nat} {x : α} (hx : l[i]? = some x) : p (x, i) = true := by
  rw [List.all_eq_true] at h
  refine h _ ?_
  rw [List.mem_iff_getElem?]
  exact ⟨i, by simp [List.getElem?_zipIdx, hx]⟩

section
variable {P : Program} {z : Ini} {opsA : Array Oper} {es : List PE} {s₀ : RS}

/-- A region that draws its order. -/
theorem AW.regionD {id : Nat} {σ : St} {Q : Exit → St → Prop} {s' : RS} (hm : P.follows .mixedOrders = true) (hr : RTr P z opsA.toList 0 opsA.toList ⟨σ.t, [], σ.h⟩ es s') (hd : distinctB opsA.toList = true) (hok : drawOk opsA.toList (dsOf es) = true)
    (h : Q .normal ⟨cleanT s'.g s'.t, s'.h⟩) : AW P z (.region id opsA true) σ Q := fun c a w s => by
  obtain ⟨h1, h2, h3⟩ := RTr.all (s₀ := ⟨σ.t, [], σ.h⟩) (es₀ := es) hr (fun j => by simp) (fun j => by simp) rfl
  have G : Good P z opsA.toList es ⟨σ.t, [], σ.h⟩ := ⟨h1, rfl, fun j o e ho he => by simpa using h3 j o e ho he, (distinctB_spec hd).2, s.m.ext.1⟩
  simp only [Nat.zero_add] at h2
  have hsz : opsA.toList.length = opsA.size := by simp
  refine wp_region_any hm ?_
  -- what is listed
  have cnt : ∀ (fuel : Nat) (listed : Array Bool) (a : Act) (c : Cx) (w : World), listed.size = opsA.size → (List.range opsA.size).countP (fun i => !listed.getD i true) = fuel →
      (∀ j o, opsA.toList[j]? = some o → listed.getD j false = true → ∀ e ∈ o.after, Region.binds .any e = true → listed.getD e.on false = true) →
      RInv z opsA.toList es ⟨σ.t, [], σ.h⟩ (fun i => listed.getD i false) a.tmps c w → a.defers = [] → wpAny P .any opsA (lift z Q) fuel listed a w := by
    have full : ∀ (listed : Array Bool), listed.size = opsA.size → (∀ i, i < opsA.size → listed.getD i true = true) → ∀ (a : Act) (c : Cx) (w : World), RInv z opsA.toList es ⟨σ.t, [], σ.h⟩ (fun i => listed.getD i false) a.tmps c w → a.defers = [] → lift z Q .normal a w := by
      intro listed hl hall a c w r hdf
      have := r.fin G (fun i hi => by
        have h1 := hall i (by omega)
        have h2 : i < listed.size := by omega
        simp [h2] at h1 ⊢; exact h1) hdf
      rw [← h2] at this
      exact ⟨_, c, h, this⟩
    have noready : ∀ (listed : Array Bool), listed.size = opsA.size → Region.ready .any opsA listed = [] → ∀ i, i < opsA.size → listed.getD i true = true := by
      intro listed hl hnil i
      induction i using Nat.strongRecOn with
      | ind i ih =>
        intro hi
        cases hx : listed.getD i true with
        | true => rfl
        | false =>
          exfalso
          have ho : opsA[i]? = some opsA[i] := Array.getElem?_eq_getElem hi
          have : i ∈ Region.ready .any opsA listed := by
            rw [mem_ready]
            refine ⟨hx, _, ho, fun e he hb => ?_⟩
            have hz := zipIdx_all hok (i := i) (x := opsA[i]) (by simpa using ho)
            simp only [Bool.and_eq_true] at hz
            have he' := hz.1.1
            rw [Array.all_eq_true_iff_forall_mem] at he'
            have := he' e he
            simp only [hb, Bool.not_true, Bool.false_or, decide_eq_true_eq] at this
            have h4 := ih e.on this (by omega)
            have h5 : e.on < listed.size := by omega
            simp [h5] at h4 ⊢; exact h4
          rw [hnil] at this; cases this
    intro fuel
    induction fuel with
    | zero =>
      intro listed a c w hl hc hcl r hdf
      have hall : ∀ i, i < opsA.size → listed.getD i true = true := by
        intro i hi
        rw [List.countP_eq_zero] at hc
        have := hc i (List.mem_range.2 hi)
        simpa using this
      refine ⟨?_, full listed hl hall a c w r hdf⟩
      cases hrd : Region.ready .any opsA listed with
      | nil => rfl
      | cons i l =>
        have : i ∈ Region.ready .any opsA listed := by rw [hrd]; simp
        rw [mem_ready] at this
        obtain ⟨g1, o, g2, _⟩ := this
        have := hall i (Array.getElem?_eq_some_iff.1 g2).1
        rw [g1] at this; cases this
    | succ fuel ih =>
      intro listed a c w hl hc hcl r hdf
      refine ⟨fun hnil => full listed hl (noready listed hl hnil) a c w r hdf, fun j hj => ?_⟩
      rw [mem_ready] at hj
      obtain ⟨hun, o, ho, hall⟩ := hj
      have hjlt : j < opsA.size := (Array.getElem?_eq_some_iff.1 ho).1
      have ho' : opsA.toList[j]? = some o := by simpa using ho
      obtain ⟨e, he⟩ := G.at (j := j) (by omega)
      have hun' : listed.getD j false = false := by
        have : j < listed.size := by omega
        simp [this] at hun ⊢; exact hun
      have hbef : ∀ i, ((befs [] opsA.toList).getD j 0).testBit i = true → listed.getD i false = true := fun i hi => befs_closed (L := fun i => listed.getD i false) hcl j o ho' hall i hi
      have hbef2 : ∀ i oi, opsA.toList[i]? = some oi → ((befs [] opsA.toList).getD i 0).testBit j = true → listed.getD i false = false := by
        intro i oi hoi hb
        cases hL : listed.getD i false with
        | false => rfl
        | true =>
          have := befs_closed (L := fun i => listed.getD i false) hcl i oi hoi (hcl i oi hoi hL) j hb
          rw [hun'] at this; cases this
      have pair : ∀ i oi, opsA.toList[i]? = some oi → touch oi o ((dsOf es).getD i ([], [])).1 ((dsOf es).getD j ([], [])).2 ((dsOf es).getD j ([], [])).1 = true → (i < j ↔ listed.getD i false = true) := by
        intro i oi hoi ht
        have hz := zipIdx_all hok (i := j) (x := o) ho'
        simp only [Bool.and_eq_true] at hz
        have hp := zipIdx_all hz.2 (i := i) (x := oi) hoi
        simp only [pairOk, ht, Bool.not_true, Bool.or_false, Bool.or_eq_true, beq_iff_eq] at hp
        rcases hp with rfl | hp
        · rw [hun']; simp
        · split at hp
          · rename_i hlt; exact ⟨fun _ => hbef i hp, fun _ => hlt⟩
          · rename_i hge
            have := hbef2 i oi hoi hp
            rw [this]; simp; omega
      have hds : ∀ i e', es[i]? = some e' → (dsOf es).getD i ([], []) = (e'.d.map (·.1), e'.ft) := fun i e' h => by simp [dsOf, List.getD_eq_getElem?_getD, h]
      refine r.step G hdf ho he ⟨hun', fun k hk i hi => ?_, fun m b hg => ?_, fun k hk i e' he' hd' => ?_⟩ fun a' c' w' r' hdf' => ih _ a' c' w' (by simpa using hl) ?_ ?_ ?_ hdf'
      · cases hoi : opsA.toList[i]? with
        | none => simp [dstOf, hoi] at hi
        | some oi =>
          have hdi : oi.dst = some k := by simpa [dstOf, hoi] using hi
          refine pair i oi hoi ?_
          simp only [touch, hdi, Bool.or_eq_true]
          left
          simp only [tmpsOf, List.contains_eq_mem, decide_eq_true_eq, List.mem_filterMap]
          exact ⟨.tmp k, by simpa using hk, rfl⟩
      · have hz := zipIdx_all hok (i := j) (x := o) ho'
        simp only [Bool.and_eq_true, hg] at hz
        exact hbef m hz.1.2
      · have hi : i < opsA.toList.length := by rw [← G.len]; exact (List.getElem?_eq_some_iff.1 he').1
        refine pair i _ (List.getElem?_eq_getElem hi) ?_
        rw [hds i e' he', hds j e he]
        simp only [touch, Bool.or_eq_true, List.any_eq_true]
        right
        obtain ⟨b, hb⟩ := hd'
        refine ⟨k, by simp only [List.mem_map]; exact ⟨(k, b), hb, rfl⟩, ?_⟩
        simp only [Bool.or_eq_true, List.contains_eq_mem, decide_eq_true_eq]
        rcases hk with hk | ⟨b', hb'⟩
        · exact .inl hk
        · right; simp only [List.mem_map]; exact ⟨(k, b'), hb', rfl⟩
      · -- one fewer is left
        have h5 : (List.range opsA.size).countP (fun i => !listed.getD i true) = (List.range opsA.size).countP (fun i => !(listed.setIfInBounds j true).getD i true) + 1 := by
          have gen : ∀ l : List Nat, l.Nodup → j ∈ l → l.countP (fun i => !listed.getD i true) = l.countP (fun i => !(listed.setIfInBounds j true).getD i true) + 1 := by
            intro l
            induction l with
            | nil => intro _ h; cases h
            | cons x l ihl =>
              intro hn hm
              rw [List.nodup_cons] at hn
              rw [List.countP_cons, List.countP_cons]
              by_cases hx : x = j
              · subst hx
                have hrest : l.countP (fun i => !listed.getD i true) = l.countP (fun i => !(listed.setIfInBounds x true).getD i true) := by
                  refine List.countP_congr fun y hy => ?_
                  have : x ≠ y := fun e => hn.1 (e ▸ hy)
                  rw [getD_set_ne true this]
                have hxlt : x < listed.size := by omega
                have hset : (listed.setIfInBounds x true).getD x true = true := by simp [hxlt]
                rw [hrest, hun, hset]; simp
              · have hm' : j ∈ l := by
                  rcases List.mem_cons.1 hm with h | h
                  · exact absurd h.symm hx
                  · exact h
                rw [ihl hn.2 hm', getD_set_ne true (fun e => hx e.symm)]
                omega
          exact gen _ List.nodup_range (List.mem_range.2 hjlt)
        omega
      · intro i oi hoi hL e' he' hb
        by_cases hij : j = i
        · subst hij
          rw [ho'] at hoi; injection hoi with hoi; subst hoi
          exact getD_set_true (hall e' he' hb)
        · rw [getD_set_ne false hij] at hL
          exact getD_set_true (hcl i oi hoi hL e' he' hb)
      · have : (fun i => (listed.setIfInBounds j true).getD i false) = add (fun i => listed.getD i false) j := by
          funext i
          simp only [add]
          by_cases hij : j = i
          · subst hij
            have : j < listed.size := by omega
            simp [this]
          · rw [getD_set_ne false hij]
            have : (i == j) = false := by simp; exact fun e => hij e.symm
            rw [this, Bool.false_or]
        rw [this]; exact r'
  refine cnt opsA.size (Array.replicate opsA.size false) a c _ (by simp) ?_ ?_ ?_ s.df
  · have : ∀ i ∈ List.range opsA.size, (!(Array.replicate opsA.size false).getD i true) = true := by
      intro i hi
      have := List.mem_range.1 hi
      simp [this]
    rw [List.countP_eq_length.2 this, List.length_range]
  · intro j o ho hL
    have hj : j < opsA.size := by have := (List.getElem?_eq_some_iff.1 ho).1; omega
    simp [hj] at hL
  · have hz : (fun i => (Array.replicate opsA.size false).getD i false) = fun _ => false := by
      funext i
      by_cases h : i < opsA.size <;> simp [h]
    rw [hz]
    have s2 := s.drew
    exact RInv.start G s2.m s2.ts
end
end Go.Ab
