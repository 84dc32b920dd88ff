/- A contract out of the body; a call by its contract. -/
import Derived.Test.YtknlgjeeenkleaaB4
namespace Go.Ab
open Go.RowKit
set_option linter.unusedVariables false
set_option linter.unusedSimpArgs false

theorem resOne_run {P : Program} {z : Ini} {σ : St} {c : Cx} {a : Act} {w : World} (s : Sim z σ c a w) {r : ResultVar} {x : AV} (h : resOne P σ r = some x) :
    ∃ v, ((match r with | .tmp t => pure (a.tmps.getD t undef) | .cell q t => do loadVar t (← asAddr (a.tmps.getD q undef)) : Sem Value)).run P w = .ok v w ∧ ARep c σ.h w x v := by
  cases r with
  | tmp t =>
    simp only [resOne, Option.some.injEq] at h; subst h
    exact ⟨_, rfl, evO_rep s.ts (.tmp t)⟩
  | cell q t =>
    simp only [resOne] at h
    split at h
    · rename_i hpos
      split at h
      · rename_i hl
        have hr := evO_rep s.ts (.tmp q)
        obtain ⟨u, h1, h2⟩ := loadA_run (P := P) (t := t) s.m hr h hpos
        obtain ⟨ad, e⟩ := live_ptr hr hl
        rw [e] at h1
        have e' : a.tmps.getD q undef = .pointer (some ad) := e
        refine ⟨u, ?_, h2⟩
        simp only [Instr.loadAt, Instr.sureAddr, Sem.run_bind, Sem.run_pure, Result.andThen_ok] at h1
        simp only [e', asAddr, Sem.run_bind, Sem.run_pure, Result.andThen_ok, h1]
      · cases h
    · cases h

theorem resAll_run {P : Program} {z : Ini} {σ : St} {c : Cx} {a : Act} {w : World} (s : Sim z σ c a w) : ∀ {rs : List ResultVar} {xs : List AV}, resAll P σ rs = some xs →
    ∃ vs, (rs.mapM (fun r => match r with | .tmp t => pure (a.tmps.getD t undef) | .cell q t => do loadVar t (← asAddr (a.tmps.getD q undef)) : ResultVar → Sem Value)).run P w = .ok vs w ∧ xs.length = vs.length ∧
      ∀ (k : Nat) (x : AV) (v : Value), xs[k]? = some x → vs[k]? = some v → ARep c σ.h w x v
  | [], xs, h => by simp [resAll] at h; subst h; exact ⟨[], by simp, rfl, fun k x v hk => by simp at hk⟩
  | r :: rs, xs, h => by
    simp only [resAll] at h
    split at h
    · rename_i x ys h1 h2
      injection h with h; subst h
      obtain ⟨v, g1, g2⟩ := resOne_run s h1
      obtain ⟨vs, g3, g4, g5⟩ := resAll_run s h2
      refine ⟨v :: vs, by rw [List.mapM_cons, Sem.run_bind, g1, Result.andThen_ok, Sem.run_bind, g3]; rfl, by simp [g4], fun k x v hk hv => ?_⟩
      cases k with
      | zero => simp at hk hv; subst hk; subst hv; exact g2
      | succ k => exact g5 k x v (by simpa using hk) (by simpa using hv)
    · cases h

theorem resA_run {P : Program} {z : Ini} {σ : St} {c : Cx} {a : Act} {w : World} {fn : Func} (s : Sim z σ c a w) {x : AV} (h : resA P σ fn.results.toList = some x) :
    ∃ v, (results fn a.tmps).run P w = .ok v w ∧ ARep c σ.h w x v := by
  unfold resA at h
  have run : ∀ vs, (fn.results.toList.mapM (fun r => match r with | .tmp t => pure (a.tmps.getD t undef) | .cell q t => do loadVar t (← asAddr (a.tmps.getD q undef)) : ResultVar → Sem Value)).run P w = .ok vs w →
      (results fn a.tmps).run P w = .ok (if h : vs.toArray.size = 1 then vs.toArray[0] else .tuple vs.toArray) w := by
    intro vs hv
    unfold results
    rw [Sem.run_bind]
    have : (fn.results.mapM (fun r => match r with | .tmp t => pure (a.tmps.getD t undef) | .cell q t => do loadVar t (← asAddr (a.tmps.getD q undef)) : ResultVar → Sem Value)).run P w = .ok vs.toArray w := by
      rw [← Array.toArray_toList (xs := fn.results), List.mapM_toArray, map_eq_pure_bind, Sem.run_bind, hv]
      rfl
    exact congrArg (fun q : Result (Array Value) => q.andThen fun vs w' => Sem.run P (pure (if h : vs.size = 1 then vs[0] else .tuple vs)) w') this
  split at h
  · rename_i x' hx
    injection h with h; subst h
    obtain ⟨vs, h1, h2, h3⟩ := resAll_run s hx
    cases vs with
    | nil => simp at h2
    | cons v vs =>
      have : vs = [] := by simpa using h2
      subst this
      exact ⟨v, by rw [run _ h1]; simp, h3 0 _ v rfl rfl⟩
  · rename_i xs hne hx
    injection h with h; subst h
    obtain ⟨vs, h1, h2, h3⟩ := resAll_run s hx
    refine ⟨.tuple vs.toArray, ?_, .tup _ vs h2 h3⟩
    rw [run _ h1]
    have : ¬ vs.toArray.size = 1 := by
      intro e
      have e1 : xs.length = 1 := by rw [h2]; simpa using e
      match xs, e1 with
      | [y], _ => exact hne y rfl
    rw [dif_neg this]
  · cases h

/-- What a body must come to. -/
def retK (P : Program) (rs : List ResultVar) (r : PV) : Exit → St → Prop := fun e σ => match e with
  | .normal => ∃ x p, resA P σ rs = some x ∧ purH (fun _ => true) σ.h x = some p ∧ Sub p r
  | .ret => ∃ x p, resA P σ rs = some x ∧ purH (fun _ => true) σ.h x = some p ∧ Sub p r
  | _ => False

theorem PC.body {P : Program} {f : FuncId} {fn : Func} {code : Code} {ps : List PV} {r : PV} (n : Nat) (hc : ∀ (args : Array Value) (w : World), (callFunc f args).run P w = .ok (.enter f args) w)
    (hf : P.funcs[f]? = some fn) (hb : fn.body = some code) (hn : fn.ntmps = n)
    (h : ∀ z : Ini, z.n = 0 → AW P z code ⟨ps.map .pv ++ List.replicate (n - ps.length) .any, []⟩ (retK P fn.results.toList r)) : PC P f ps r := by
  refine ⟨hc, fun ok w vs hok hreps => ?_⟩
  let c₀ : Cx := ⟨fun _ => 0, fun _ => (0, 0), ok⟩
  let z : Ini := ⟨w, fun _ => False, c₀, 0⟩
  have lv0 : ∀ i, ¬ lv c₀ [] i := fun i h => by simp [lv] at h
  have M : MSim z [] c₀ w := ⟨Fr.refl w _, ⟨fun i b hi => by simp at hi, fun i j li => (lv0 i li).elim, fun i li => (lv0 i li).elim, hok⟩, fun i li => (lv0 i li).elim, fun b hb => .inl hb, fun b hb => hb, by simp [z]⟩
  refine calls_of_wp hf hb (Code.wp_mono ?_ (h z rfl c₀ _ w ⟨M, ?_, rfl⟩))
  · intro e a' w' ⟨σ', c', q, s'⟩
    have fin : ∀ x p, resA P σ' fn.results.toList = some x → purH (fun _ => true) σ'.h x = some p → Sub p r →
        a'.defers = [] ∧ ∃ v, (results fn a'.tmps).run P w' = .ok v w' ∧ (Below w.heap.size w w' ∧ Rep (fun b => ok b ∨ (w.heap.size ≤ b ∧ b < w'.heap.size)) w' r v) := by
      intro x p h1 h2 h3
      obtain ⟨v, g1, g2⟩ := resA_run s' h1
      refine ⟨s'.df, v, g1, ⟨s'.m.fr.os, s'.m.fr.tape, s'.m.fr.output, s'.m.fr.size, fun b hb => s'.m.fr.block b hb (fun h => h)⟩, ?_⟩
      refine (h3 _ _ _ (g2.purH s'.m h2)).mono (fun b hb => ?_) (fun _ _ => rfl)
      rcases hb with hb | ⟨i, _, li, rfl⟩
      · rcases s'.m.okn b hb with h | h | h
        · exact .inl h
        · exact h.elim
        · exact .inr ⟨h, s'.m.hs.okb b hb⟩
      · rcases s'.m.own i li with h | h
        · exact h.elim
        · exact .inr ⟨h, s'.m.hs.lv_lt li⟩
    cases e with
    | normal => obtain ⟨x, p, h1, h2, h3⟩ := q; exact fin x p h1 h2 h3
    | ret => obtain ⟨x, p, h1, h2, h3⟩ := q; exact fin x p h1 h2 h3
    | exit | goto | panic | outgrown => exact q.elim
  · obtain ⟨hl, hr⟩ := hreps
    refine ⟨by simp [hl, hn], fun k x v hk hv => ?_⟩
    simp only [List.getElem?_append, List.length_map] at hk
    split at hk
    · rename_i hlt
      simp only [List.getElem?_map, Option.map_eq_some_iff] at hk
      obtain ⟨p, hp, rfl⟩ := hk
      have hv' : vs[k]? = some v := by
        rw [Array.getElem?_append_left (by simp; omega)] at hv
        simpa using hv
      exact .pv _ _ (hr k p v hp hv')
    · simp only [List.getElem?_replicate] at hk
      split at hk
      · injection hk with hk; subst hk; exact .any _
      · cases hk

/-! ### A call -/
theorem run_call_func {P : Program} {o : Oper} {ρ : Operand → Value} {w : World} {f : FuncId} {args : Array Operand} {tys : Array TypeId} (ho : o.op = .call ⟨.value (.func f), args, tys⟩) (hf : ρ (.func f) = .func (.func f) #[] #[])
    (hc : ∀ (args : Array Value) (w : World), (callFunc f args).run P w = .ok (.enter f args) w) : (execOp ρ o).run P w = .ok (.enter f (args.map ρ)) w := by
  simp [execOp, ho, resolve, hf, Deferred.ofValue, invoke, hc]

theorem args_reps {ok : Nat → Prop} {w : World} {args : Array Operand} {ρ : Operand → Value} {ps : List PV} (hl : args.toList.length = ps.length) (h : ∀ (k : Nat) (p : PV), ps[k]? = some p → ∃ x, args.toList[k]? = some x ∧ Rep ok w p (ρ x)) : Reps ok w ps (args.toList.map ρ) := by
  refine ⟨by simp [hl], fun k p v hk hv => ?_⟩
  obtain ⟨x, hx, hr⟩ := h k p hk
  simp only [List.getElem?_map, hx, Option.map_some, Option.some.injEq] at hv
  exact hv ▸ hr

/-- Values that need no memory at all. -/
def scal : PV → Bool
  | .int _ _ => true
  | .bool _ => true
  | .str _ => true
  | .nilIfc => true
  | .nilFn => true
  | .nilPtr => true
  | .nilMap => true
  | .tup vs => scalL vs
  | .agg vs => scalL vs
  | .ifc _ v => scal v
  | .lst _ _ _ => false
where scalL : List PV → Bool
  | [] => true
  | p :: ps => scal p && scalL ps
theorem scalL_get : ∀ {ps : List PV}, scal.scalL ps = true → ∀ (k : Nat) (p : PV), ps[k]? = some p → scal p = true
  | [], _, k, p, hk => by simp at hk
  | q :: ps, h, k, p, hk => by
    simp only [scal.scalL, Bool.and_eq_true] at h
    cases k with
    | zero => simp at hk; subst hk; exact h.1
    | succ k => exact scalL_get h.2 k p (by simpa using hk)
theorem Rep.anywhere {ok : Nat → Prop} {w : World} {p : PV} {v : Value} (h : Rep ok w p v) : scal p = true → ∀ ok' w', Rep ok' w' p v := by
  induction h with
  | int | bool | str | nilIfc | nilFn | nilPtr | nilMap => intro _ _ _; constructor
  | lst => intro h; simp [scal] at h
  | agg ps vs hl ho h ih => intro hs ok' w'; exact .agg ps vs hl ho fun k p v hk hv => ih k p v hk hv (scalL_get (by simpa [scal] using hs) k p hk) ok' w'
  | tup ps vs hl h ih => intro hs ok' w'; exact .tup ps vs hl fun k p v hk hv => ih k p v hk hv (scalL_get (by simpa [scal] using hs) k p hk) ok' w'
  | ifc t p v h ih => intro hs ok' w'; exact .ifc t p v (ih (by simpa [scal] using hs) ok' w')

section
variable {P : Program} {z : Ini} {o : Oper} {ρ : Operand → Value} {ev : Operand → AV} {c : Cx} {h : List ABlk} {w : World} {f : FuncId} {args : Array Operand} {tys : Array TypeId} {ps : List PV} {r : PV}

/-- A call whose arguments need no memory of the call's own. -/
theorem Yields.pcall (s : MSim z h c w) (hev : ∀ x, ARep c h w (ev x) (ρ x)) (hρ : ρ (.func f) = .func (.func f) #[] #[]) (ho : o.op = .call ⟨.value (.func f), args, tys⟩) (hp : purL (args.toList.map ev) = some ps) (hc : PC P f ps r) :
    Yields P z o ρ c h w (.pv r) h := by
  unfold Yields
  rw [run_call_func ho hρ hc.call]
  obtain ⟨h1, h2⟩ := purL_get hp
  have hreps : Reps c.ok w ps (args.toList.map ρ) := args_reps (by simpa using h1) fun k p hk => by
    obtain ⟨x, hx, hpx⟩ := h2 k p hk
    simp only [List.getElem?_map, Option.map_eq_some_iff] at hx
    obtain ⟨y, hy, rfl⟩ := hx
    exact ⟨y, hy, (hev y).pur hpx⟩
  have ha : (args.toList.map ρ).toArray = args.map ρ := by simp [← List.map_toArray]
  have := hc.spec c.ok w _ s.hs.okb hreps
  rw [ha] at this
  refine this.mono fun e w' he => ?_
  cases e with
  | returned v =>
    obtain ⟨L, M⟩ := s.beyond he.1 (fun b => w.heap.size ≤ b ∧ b < w'.heap.size) (fun _ h => h)
    exact ⟨_, L, M, .pv _ _ he.2⟩
  | panicked _ => exact he.elim
  | outgrown => exact he.elim

/-- A call that is lent slices of the call's own, and answers by plain values. -/
theorem Yields.pcallB (s : MSim z h c w) (hev : ∀ x, ARep c h w (ev x) (ρ x)) (hρ : ρ (.func f) = .func (.func f) #[] #[]) (ho : o.op = .call ⟨.value (.func f), args, tys⟩) (hp : purHL (fun _ => true) h (args.toList.map ev) = some ps) (hc : PC P f ps r)
    (hr : scal r = true) : Yields P z o ρ c h w (.pv r) h := by
  unfold Yields
  rw [run_call_func ho hρ hc.call]
  obtain ⟨h1, h2⟩ := purHL_get hp
  have hreps : Reps (c.all (fun _ => true) h) w ps (args.toList.map ρ) := args_reps (by simpa using h1) fun k p hk => by
    obtain ⟨x, hx, hpx⟩ := h2 k p hk
    simp only [List.getElem?_map, Option.map_eq_some_iff] at hx
    obtain ⟨y, hy, rfl⟩ := hx
    exact ⟨y, hy, (hev y).purH s hpx⟩
  have ha : (args.toList.map ρ).toArray = args.map ρ := by simp [← List.map_toArray]
  have := hc.spec (c.all (fun _ => true) h) w _ (fun b hb => by
    rcases hb with hb | ⟨i, _, li, rfl⟩
    · exact s.hs.okb b hb
    · exact s.hs.lv_lt li) hreps
  rw [ha] at this
  refine this.mono fun e w' he => ?_
  cases e with
  | returned v =>
    obtain ⟨L, M⟩ := s.beyond he.1 (fun b => w.heap.size ≤ b ∧ b < w'.heap.size) (fun _ h => h)
    exact ⟨_, L, M, .pv _ _ (he.2.anywhere hr _ _)⟩
  | panicked _ => exact he.elim
  | outgrown => exact he.elim
end

section
variable {P : Program} {z : Ini} {ops : Array Oper} {l : List Oper} {σ : St} {Q : Exit → St → Prop} {o : Oper} {f : FuncId} {args : Array Operand} {tys : Array TypeId} {ps : List PV} {r : PV}
theorem AWL.pcall (hc : PC P f ps r) (hg : o.guard = none) (ho : o.op = .call ⟨.value (.func f), args, tys⟩) (hp : purL (args.toList.map (evO σ.t)) = some ps) (h : AWL P z ops l ⟨putT σ.t o.dst (.pv r), σ.h⟩ Q) : AWL P z ops (o :: l) σ Q :=
  .op hg (fun c a w s => .pcall s.m (evO_rep s.ts) rfl ho hp hc) h
theorem AWL.pcallB (hc : PC P f ps r) (hr : scal r = true) (hg : o.guard = none) (ho : o.op = .call ⟨.value (.func f), args, tys⟩) (hp : purHL (fun _ => true) σ.h (args.toList.map (evO σ.t)) = some ps) (h : AWL P z ops l ⟨putT σ.t o.dst (.pv r), σ.h⟩ Q) : AWL P z ops (o :: l) σ Q :=
  .op hg (fun c a w s => .pcallB s.m (evO_rep s.ts) rfl ho hp hc hr) h
end
end Go.Ab
