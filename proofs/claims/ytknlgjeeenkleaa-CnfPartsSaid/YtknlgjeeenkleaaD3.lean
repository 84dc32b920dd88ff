/- From one plain state to one that says the same of other names: names taken anew, slices that nobody changes any more, what is forgotten. Loops and joins by it. -/
import Derived.Test.YtknlgjeeenkleaaD2
namespace Go.Ab
open Go.RowKit
set_option linter.unusedVariables false
set_option linter.unusedSimpArgs false

section
variable (S fs : List Nat) (h : List ABlk)
def inS (S : List Nat) : Nat → Bool := fun i => S.contains i
mutual
/-- The second says of the new names no more than the first does of the old ones. -/
def relA : AV → AV → Prop
  | _, .any => True
  | .ptr i o, .ptr j o' => fs[j]? = some i ∧ o = o'
  | .vs i o n, .vs j o' n' => fs[j]? = some i ∧ o = o' ∧ n = n'
  | .ve i r o, .ve j r' o' => fs[j]? = some i ∧ r = r' ∧ o = o'
  | .sl i o n c, .sl j o' n' c' => fs[j]? = some i ∧ o = o' ∧ n = n' ∧ c = c'
  | .mp i, .mp j => fs[j]? = some i
  | .el r o, .el r' o' => r = r' ∧ o = o'
  | .agg xs, .agg ys => relAL xs ys
  | .tup xs, .tup ys => relAL xs ys
  | .fn f xs ys, .fn f' xs' ys' => f = f' ∧ relAL xs xs' ∧ relAL ys ys'
  | .ifc t x, .ifc t' y => t = t' ∧ relA x y
  | .pv p, .pv q => Sub p q
  | x, .pv q => ∃ p, purH (inS S) h x = some p ∧ Sub p q
  | _, _ => False
def relAL : List AV → List AV → Prop
  | [], [] => True
  | x :: xs, y :: ys => relA x y ∧ relAL xs ys
  | _, _ => False
end
theorem relAL_get : ∀ {xs ys : List AV}, relAL S fs h xs ys → xs.length = ys.length ∧ ∀ (k : Nat) (x y : AV), xs[k]? = some x → ys[k]? = some y → relA S fs h x y
  | [], [], _ => ⟨rfl, fun k x y hk => by simp at hk⟩
  | x :: xs, y :: ys, hh => by
    rw [relAL] at hh
    obtain ⟨h1, h2⟩ := relAL_get hh.2
    refine ⟨by simp [h1], fun k u v hk hv => ?_⟩
    cases k with
    | zero => simp at hk hv; subst hk; subst hv; exact hh.1
    | succ k => exact h2 k u v (by simpa using hk) (by simpa using hv)
  | [], _ :: _, hh => by simp [relAL] at hh
  | _ :: _, [], hh => by simp [relAL] at hh
def relB : ABlk → ABlk → Prop
  | .nb, _ => False
  | _, .gone => True
  | .box cs, .box cs' => relAL S fs h cs cs'
  | .vec sz rows, .vec sz' rows' => sz = sz' ∧ rows = rows'
  | .mp es, .mp es' => es = es'
  | _, _ => False
def relH : List Nat → List ABlk → Prop
  | [], [] => True
  | i :: is, b' :: h' => (match h[i]? with | some b => relB S fs h b b' | none => False) ∧ (b' = .gone ∨ inS S i = false) ∧ relH is h'
  | _, _ => False
theorem relH_get : ∀ {is : List Nat} {h' : List ABlk}, relH S fs h is h' → is.length = h'.length ∧ ∀ (k : Nat) (b' : ABlk), h'[k]? = some b' → ∃ i b, is[k]? = some i ∧ h[i]? = some b ∧ relB S fs h b b' ∧ (b' = .gone ∨ inS S i = false)
  | [], [], _ => ⟨rfl, fun k b' hk => by simp at hk⟩
  | i :: is, b :: h', hh => by
    rw [relH] at hh
    obtain ⟨h1, h2⟩ := relH_get hh.2.2
    refine ⟨by simp [h1], fun k u hk => ?_⟩
    cases k with
    | zero =>
      simp at hk; subst hk
      have h3 := hh.1
      cases hi : h[i]? with
      | none => simp [hi] at h3
      | some b0 => simp only [hi] at h3; exact ⟨i, b0, rfl, hi, h3, hh.2.1⟩
    | succ k => exact h2 k u (by simpa using hk)
  | [], _ :: _, hh => by simp [relH] at hh
  | _ :: _, [], hh => by simp [relH] at hh
end

def Cx.to (c : Cx) (S fs : List Nat) (h : List ABlk) : Cx := ⟨fun i => c.mu (fs.getD i 0), fun i => c.vd (fs.getD i 0), c.all (inS S) h⟩
theorem Cx.to_mu {c : Cx} {S fs : List Nat} {h : List ABlk} {j i : Nat} (e : fs[j]? = some i) : (c.to S fs h).mu j = c.mu i ∧ (c.to S fs h).vd j = c.vd i := by
  simp [Cx.to, List.getD_eq_getElem?_getD, e]

theorem relB_nb {S fs : List Nat} {h : List ABlk} {b b' : ABlk} (hh : relB S fs h b b') : b' ≠ .nb := by
  rintro rfl; cases b <;> simp [relB] at hh

theorem ARep.to {S fs : List Nat} {z : Ini} {c : Cx} {h h' : List ABlk} {w : World} (s : MSim z h c w) (hH : relH S fs h fs h') {x : AV} {v : Value} (r : ARep c h w x v) : ∀ {y : AV}, relA S fs h x y → ARep (c.to S fs h) h' w y v := by
  have pure : ∀ {x : AV} {v : Value} {q : PV}, ARep c h w x v → (∃ p, Ab.purH (inS S) h x = some p ∧ Sub p q) → ARep (c.to S fs h) h' w (.pv q) v := fun r ⟨p, h1, h2⟩ => .pv _ _ (h2 _ _ _ (r.purH s h1))
  obtain ⟨hl, hg⟩ := relH_get S fs h hH
  have blk : ∀ {j i : Nat} {b : ABlk}, fs[j]? = some i → h[i]? = some b → ∃ b', h'[j]? = some b' ∧ relB S fs h b b' := fun {j i b} e hi => by
    have hlt : j < h'.length := by rw [← hl]; exact (List.getElem?_eq_some_iff.1 e).1
    obtain ⟨i', b0, g1, g2, g3, _⟩ := hg j h'[j] (List.getElem?_eq_getElem hlt)
    rw [e] at g1; injection g1 with g1; subst g1
    rw [hi] at g2; injection g2 with g2; subst g2
    exact ⟨_, List.getElem?_eq_getElem hlt, g3⟩
  induction r with
  | pv p v hr =>
    intro y hy
    cases y with
    | any => exact .any _
    | pv q => rw [relA] at hy; exact .pv _ _ (hy _ _ _ (hr.mono (fun b hb => .inl hb) (fun _ _ => rfl)))
    | _ => simp [relA] at hy
  | ptr i off v b ho hi hb hv =>
    intro y hy
    cases y with
    | any => exact .any _
    | pv q => simp [relA, Ab.purH] at hy
    | ptr j o =>
      rw [relA] at hy; obtain ⟨e, rfl⟩ := hy
      obtain ⟨b', g1, g2⟩ := blk e hi
      refine .ptr j off v b' ho g1 (relB_nb g2) fun cs e' => ?_
      subst e'
      cases b with
      | box cs0 => rw [hv cs0 rfl, (Cx.to_mu e).1]
      | _ => simp [relB] at g2
    | _ => simp [relA] at hy
  | el row off a us hcell =>
    intro y hy
    cases y with
    | any => exact .any _
    | pv q => simp [relA, Ab.purH] at hy
    | el r o =>
      rw [relA] at hy; obtain ⟨rfl, rfl⟩ := hy
      exact .el row off a us fun k p hk => by
        obtain ⟨h1, h2, h3, h4⟩ := hcell k p hk
        exact ⟨.inl h1, h2, h3, h4.mono (fun b hb => .inl hb) (fun _ _ => rfl)⟩
    | _ => simp [relA] at hy
  | vs i off n v b ho hi hb hv =>
    intro y hy
    cases y with
    | any => exact .any _
    | pv q => simp only [relA] at hy; exact pure (.vs i off n v b ho hi hb hv) hy
    | vs j o n' =>
      rw [relA] at hy; obtain ⟨e, rfl, rfl⟩ := hy
      obtain ⟨b', g1, g2⟩ := blk e hi
      refine .vs j off n v b' ho g1 (relB_nb g2) fun sz rows e' => ?_
      subst e'
      cases b with
      | vec sz0 rows0 => simp only [relB] at g2; obtain ⟨rfl, rfl⟩ := g2; rw [(Cx.to_mu e).1, (Cx.to_mu e).2]; exact hv _ _ rfl
      | _ => simp [relB] at g2
    | _ => simp [relA] at hy
  | ve i r off v b ho hi hb hv =>
    intro y hy
    cases y with
    | any => exact .any _
    | pv q => simp [relA, Ab.purH] at hy
    | ve j r' o =>
      rw [relA] at hy; obtain ⟨e, rfl, rfl⟩ := hy
      obtain ⟨b', g1, g2⟩ := blk e hi
      refine .ve j r off v b' ho g1 (relB_nb g2) fun sz rows e' => ?_
      subst e'
      cases b with
      | vec sz0 rows0 => simp only [relB] at g2; obtain ⟨rfl, rfl⟩ := g2; rw [(Cx.to_mu e).1, (Cx.to_mu e).2]; exact hv _ _ rfl
      | _ => simp [relB] at g2
    | _ => simp [relA] at hy
  | sl i off n cap v b ho hi hb hv =>
    intro y hy
    cases y with
    | any => exact .any _
    | pv q => simp [relA, Ab.purH] at hy
    | sl j o n' c' =>
      rw [relA] at hy; obtain ⟨e, rfl, rfl, rfl⟩ := hy
      obtain ⟨b', g1, g2⟩ := blk e hi
      refine .sl j off n cap v b' ho g1 (relB_nb g2) fun cs e' => ?_
      subst e'
      cases b with
      | box cs0 => rw [(Cx.to_mu e).1]; exact hv cs0 rfl
      | _ => simp [relB] at g2
    | _ => simp [relA] at hy
  | agg xs vs hl2 ho hr ih =>
    intro y hy
    cases y with
    | any => exact .any _
    | pv q => simp only [relA] at hy; exact pure (.agg xs vs hl2 ho hr) hy
    | agg ys =>
      rw [relA] at hy
      obtain ⟨h1, h2⟩ := relAL_get S fs h hy
      refine .agg ys vs (h1.symm.trans hl2) ho fun k y v hk hv => ?_
      have hlt : k < xs.length := by rw [h1]; exact (List.getElem?_eq_some_iff.1 hk).1
      exact ih k xs[k] v (List.getElem?_eq_getElem hlt) hv (h2 k _ y (List.getElem?_eq_getElem hlt) hk)
    | _ => simp [relA] at hy
  | tup xs vs hl2 hr ih =>
    intro y hy
    cases y with
    | any => exact .any _
    | pv q => simp only [relA] at hy; exact pure (.tup xs vs hl2 hr) hy
    | tup ys =>
      rw [relA] at hy
      obtain ⟨h1, h2⟩ := relAL_get S fs h hy
      refine .tup ys vs (h1.symm.trans hl2) fun k y v hk hv => ?_
      have hlt : k < xs.length := by rw [h1]; exact (List.getElem?_eq_some_iff.1 hk).1
      exact ih k xs[k] v (List.getElem?_eq_getElem hlt) hv (h2 k _ y (List.getElem?_eq_getElem hlt) hk)
    | _ => simp [relA] at hy
  | fn f xs ys us vs hl2 hr hl' hr' ih ih' =>
    intro y hy
    cases y with
    | any => exact .any _
    | pv q => simp [relA, Ab.purH] at hy
    | fn f' xs' ys' =>
      rw [relA] at hy; obtain ⟨rfl, k1, k2⟩ := hy
      obtain ⟨h1, h2⟩ := relAL_get S fs h k1
      obtain ⟨h3, h4⟩ := relAL_get S fs h k2
      refine .fn f xs' ys' us vs (h1.symm.trans hl2) (fun k y v hk hv => ?_) (h3.symm.trans hl') (fun k y v hk hv => ?_)
      · have hlt : k < xs.length := by rw [h1]; exact (List.getElem?_eq_some_iff.1 hk).1
        exact ih k xs[k] v (List.getElem?_eq_getElem hlt) hv (h2 k _ y (List.getElem?_eq_getElem hlt) hk)
      · have hlt : k < ys.length := by rw [h3]; exact (List.getElem?_eq_some_iff.1 hk).1
        exact ih' k ys[k] v (List.getElem?_eq_getElem hlt) hv (h4 k _ y (List.getElem?_eq_getElem hlt) hk)
    | _ => simp [relA] at hy
  | ifc t x v hr ih =>
    intro y hy
    cases y with
    | any => exact .any _
    | pv q => simp only [relA] at hy; exact pure (.ifc t x v hr) hy
    | ifc t' y => rw [relA] at hy; obtain ⟨rfl, k⟩ := hy; exact .ifc t y v (ih k)
    | _ => simp [relA] at hy
  | mp i v b ho hi hb hv =>
    intro y hy
    cases y with
    | any => exact .any _
    | pv q => simp [relA, Ab.purH] at hy
    | mp j =>
      rw [relA] at hy; have e := hy
      obtain ⟨b', g1, g2⟩ := blk e hi
      refine .mp j v b' ho g1 (relB_nb g2) fun es e' => ?_
      subst e'
      cases b with
      | mp es0 => rw [(Cx.to_mu e).1]; exact hv es0 rfl
      | _ => simp [relB] at g2
    | _ => simp [relA] at hy
  | any v =>
    intro y hy
    cases y with
    | any => exact .any _
    | pv q => simp [relA, Ab.purH] at hy
    | _ => simp [relA] at hy

theorem lv_to {S fs : List Nat} {c : Cx} {h h' : List ABlk} (hH : relH S fs h fs h') {j : Nat} (l : lv (c.to S fs h) h' j) : ∃ i, fs[j]? = some i ∧ lv c h i ∧ inS S i = false := by
  obtain ⟨hl, hg⟩ := relH_get S fs h hH
  unfold lv at l
  cases hj : h'[j]? with
  | none => simp [hj] at l
  | some b' =>
    obtain ⟨i, b, g1, g2, g3, g4⟩ := hg j b' hj
    have hm := Cx.to_mu (c := c) (S := S) (h := h) g1
    refine ⟨i, g1, ?_, ?_⟩
    · unfold lv
      rw [g2]
      simp only [hj] at l
      cases b' <;> cases b <;> simp_all [relB]
    · rcases g4 with e | e
      · subst e; simp [hj] at l
      · exact e

theorem Wk.to {z : Ini} {t t' : List AV} {h h' : List ABlk} (S fs : List Nat) (hz : z.n = 0) (hd : fs.Nodup) (hH : relH S fs h fs h') (hT : relAL S fs h t t') : Wk z ⟨t, h⟩ ⟨t', h'⟩ := fun c a w s => by
  obtain ⟨hl, hg⟩ := relH_get S fs h hH
  obtain ⟨tl, tg⟩ := relAL_get S fs h hT
  have M := s.m
  refine ⟨c.to S fs h, ⟨M.fr, ⟨fun j b' hj => ?_, fun i j li lj e => ?_, fun j lj hok => ?_, fun b hb => ?_⟩, fun j lj => ?_, fun b hb => ?_, fun b hb => .inl (M.okm b hb), by rw [hz]; exact ⟨Nat.zero_le _, fun i hi => absurd hi (Nat.not_lt_zero i)⟩⟩, ⟨by rw [← tl]; exact s.ts.1, fun k y v hk hv => ?_⟩, s.df⟩
  · obtain ⟨i, b, g1, g2, g3, g4⟩ := hg j b' hj
    have hm := Cx.to_mu (c := c) (S := S) (h := h) g1
    have r := M.hs.blk i b g2
    cases b' with
    | nb => trivial
    | gone => trivial
    | box cs =>
      cases b with
      | box cs0 =>
        simp only [relB] at g3
        obtain ⟨h1, h2⟩ := relAL_get S fs h g3
        obtain ⟨vs, ty, k1, k2, k3⟩ := r
        refine ⟨vs, ty, by rw [hm.1]; exact k1, by rw [k2, h1], fun k y hk => ?_⟩
        have hlt : k < cs0.length := by rw [h1]; exact (List.getElem?_eq_some_iff.1 hk).1
        obtain ⟨v, v1, v2, v3⟩ := k3 k cs0[k] (List.getElem?_eq_getElem hlt)
        exact ⟨v, v1, v2, v3.to M hH (h2 k _ y (List.getElem?_eq_getElem hlt) hk)⟩
      | _ => simp [relB] at g3
    | vec sz rows =>
      cases b with
      | vec sz0 rows0 =>
        simp only [relB] at g3
        obtain ⟨rfl, rfl⟩ := g3
        unfold BRep at r ⊢
        rw [hm.1, hm.2]
        obtain ⟨k1, k2, k3⟩ := r
        refine ⟨k1, k2, fun hp => ?_⟩
        obtain ⟨vs, ty, k4, k5, k6⟩ := k3 hp
        exact ⟨vs, ty, k4, k5, fun j row k p hj hk => by
          obtain ⟨v, v1, v2, v3⟩ := k6 j row k p hj hk
          exact ⟨v, v1, v2, v3.mono (fun b hb => .inl hb) (fun _ _ => rfl)⟩⟩
      | _ => simp [relB] at g3
    | mp es =>
      cases b with
      | mp es0 =>
        simp only [relB] at g3
        subst g3
        obtain ⟨ms, ck, k1, k2, k3, k4⟩ := r
        exact ⟨ms, ck, by rw [hm.1]; exact k1, k2, k3, fun j k x hj => by
          obtain ⟨en, e1, e2, e3⟩ := k4 j k x hj
          exact ⟨en, e1, e2.mono (fun b hb => .inl hb) (fun _ _ => rfl), e3.mono (fun b hb => .inl hb) (fun _ _ => rfl)⟩⟩
      | _ => simp [relB] at g3
  · obtain ⟨i', e1, l1, _⟩ := lv_to hH li
    obtain ⟨j', e2, l2, _⟩ := lv_to hH lj
    rw [(Cx.to_mu e1).1, (Cx.to_mu e2).1] at e
    have := M.hs.inj i' j' l1 l2 e
    subst this
    obtain ⟨h1, k1⟩ := List.getElem?_eq_some_iff.1 e1
    obtain ⟨h2, k2⟩ := List.getElem?_eq_some_iff.1 e2
    have nd := List.pairwise_iff_getElem.1 hd
    rcases Nat.lt_trichotomy i j with g | g | g
    · exact (nd i j h1 h2 g (k1.trans k2.symm)).elim
    · exact g
    · exact (nd j i h2 h1 g (k2.trans k1.symm)).elim
  · obtain ⟨i, e1, l1, hS⟩ := lv_to hH lj
    rw [(Cx.to_mu e1).1] at hok
    rcases hok with hok | ⟨q, q1, q2, q3⟩
    · exact M.hs.nok i l1 hok
    · have := M.hs.inj i q l1 q2 q3
      subst this
      rw [q1] at hS; cases hS
  · rcases hb with hb | ⟨i, _, li, rfl⟩
    · exact M.hs.okb b hb
    · exact M.hs.lv_lt li
  · obtain ⟨i, e1, l1, _⟩ := lv_to hH lj
    rw [(Cx.to_mu e1).1]
    exact M.own i l1
  · rcases hb with hb | ⟨i, _, li, rfl⟩
    · exact M.okn b hb
    · exact .inr (M.own i li)
  · have hlt : k < t.length := by rw [tl]; exact (List.getElem?_eq_some_iff.1 hk).1
    exact (s.ts.2 k t[k] v (List.getElem?_eq_getElem hlt) hv).to M hH (tg k _ y (List.getElem?_eq_getElem hlt) hk)

@[go_sem] theorem sub_self (p : PV) : Sub p p = True := eq_true (Sub.refl p)
attribute [go_sem] relA relAL relB relH
/-! ### States of a form -/
def updT : List AV → List (Nat × AV) → List AV
  | t, [] => t
  | t, (k, x) :: l => updT (t.set k x) l
attribute [go_sem] updT
/-- A state of the form is said by less. -/
@[reducible] def loopV {α : Type} (F : α → Prop) (m : α → Nat) (st : α → St) (z : Ini) (a : α) (Q : Exit → St → Prop) : Exit → St → Prop := fun e σ => match e with
  | .normal => ∃ a', m a' < m a ∧ F a' ∧ Wk z σ (st a')
  | e => Q e σ
theorem AW.loopV {α : Type} {P : Program} {z : Ini} {b : Code} {t : List AV} {h : List ABlk} {Q : Exit → St → Prop} (us : α → List (Nat × AV)) (hs : α → List ABlk) (F : α → Prop) (m : α → Nat) (a₀ : α) (hF : F a₀)
    (hw : Wk z ⟨t, h⟩ ⟨updT t (us a₀), hs a₀⟩) (k : ∀ a, F a → ∀ t', updT t (us a) = t' → ∀ h', hs a = h' → AW P z b ⟨t', h'⟩ (Ab.loopV F m (fun a => ⟨updT t (us a), hs a⟩) z a Q)) : AW P z (.loop b) ⟨t, h⟩ Q := by
  refine AW.loop (fun n σ => ∃ a, m a = n ∧ F a ∧ σ = ⟨updT t (us a), hs a⟩) (m a₀) _ ⟨a₀, rfl, hF, rfl⟩ hw ?_
  rintro n _ ⟨a, rfl, ha, rfl⟩
  refine (k a ha _ rfl _ rfl).mono fun e σ q => ?_
  cases e with
  | normal => obtain ⟨a', h1, h2, h3⟩ := q; exact ⟨m a', _, h1, ⟨a', rfl, h2, rfl⟩, h3⟩
  | _ => exact q
theorem loopV.next {α : Type} {F : α → Prop} {m : α → Nat} {st : α → St} {z : Ini} {a : α} {Q : Exit → St → Prop} {σ : St} (a' : α) (h1 : m a' < m a) (h2 : F a') (h3 : Wk z σ (st a')) : loopV F m st z a Q .normal σ := ⟨a', h1, h2, h3⟩
@[reducible] def joinV {α : Type} (F : α → Prop) (st : α → St) (z : Ini) (Q : Exit → St → Prop) : Exit → St → Prop := fun e σ => match e with
  | .normal => ∃ a, F a ∧ Wk z σ (st a)
  | e => Q e σ
/-- What comes behind goes on from a state of a form. -/
theorem AW.joinV {α : Type} {P : Program} {z : Ini} {a b : Code} {t : List AV} {h : List ABlk} {Q : Exit → St → Prop} (us : α → List (Nat × AV)) (hs : α → List ABlk) (F : α → Prop)
    (h1 : AW P z a ⟨t, h⟩ (Ab.joinV F (fun a => ⟨updT t (us a), hs a⟩) z Q)) (h2 : ∀ a, F a → ∀ t', updT t (us a) = t' → ∀ h', hs a = h' → AW P z b ⟨t', h'⟩ Q) : AW P z (.seq a b) ⟨t, h⟩ Q := by
  refine AW.seq (h1.mono fun e σ q => ?_)
  cases e with
  | normal => obtain ⟨x, f, k⟩ := q; exact k.aw (h2 x f _ rfl _ rfl)
  | _ => exact q
theorem joinV.here {α : Type} {F : α → Prop} {st : α → St} {z : Ini} {Q : Exit → St → Prop} {σ : St} (a : α) (h1 : F a) (h2 : Wk z σ (st a)) : joinV F st z Q .normal σ := ⟨a, h1, h2⟩
end Go.Ab
