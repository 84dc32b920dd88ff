/- One operation of the plain machine, and that the machine does as it does. -/
import Derived.Test.YtknlgjeeenkleaaB0
namespace Go.Ab
open Go.RowKit
set_option linter.unusedVariables false
set_option linter.unusedSimpArgs false

/-- What an operand is. -/
def evO (t : List AV) : Operand → AV
  | .tmp i => t.getD i .any
  | .const v => (constV v).getD .any
  | .func f => .fn (.func f) [] []
  | .global _ => .any
theorem evO_rep {c : Cx} {h : List ABlk} {w : World} {t : List AV} {a : Act} (s : TSim c h w t a.tmps) (x : Operand) : ARep c h w (evO t x) (a.eval x) := by
  cases x with
  | tmp i =>
    simp only [evO, Act.eval, List.getD_eq_getElem?_getD]
    cases hi : t[i]? with
    | none => exact .any _
    | some x => exact s.tmp hi
  | const v =>
    simp only [evO, Act.eval]
    cases hv : constV v with
    | none => exact .any _
    | some x => exact (constV_rep hv c h w).1
  | func f => exact .fn (.func f) [] [] [] [] rfl (fun k x v hk => by simp at hk) rfl (fun k x v hk => by simp at hk)
  | global g => exact .any _

/-- May an element's address be asked for? -/
def liveE (h : List ABlk) : AV → Bool
  | .ptr i o => live h (.ptr i o)
  | .sl i _ _ _ => match h[i]? with | some (.box _) => true | _ => false
  | _ => true

def boolOf : AV → Option Bool
  | .pv (.bool b) => some b
  | _ => none
def intOfA : AV → Option (IntKind × Int)
  | .pv (.int k n) => some (k, n)
  | _ => none

/-- The built-in calls among them. -/
def callv (P : Program) (ev : Operand → AV) (n : Nat) (h : List ABlk) (b : Builtin) (xs : List Operand) (ts : List TypeId) : Option (AV × List (Nat × ABlk)) :=
  match b, xs, ts with
  | .len, [x], [T] => if liveS h (ev x) = true then (match lenA (tk P T) (ev x) with | some p => some (.pv p, []) | none => none) else none
  | .max, [x, y], _ => match ev x, ev y with
    | .pv (.int k a), .pv (.int _ b) => some (.pv (.int k (if a < b then b else a)), [])
    | _, _ => none
  | .min, [x, y], _ => match ev x, ev y with
    | .pv (.int k a), .pv (.int _ b) => some (.pv (.int k (if b < a then b else a)), [])
    | _, _ => none
  | .append, [x, y], [T, Tx] => appA P n h T Tx (ev x) (ev y)
  | _, _, _ => none

/-- One plain operation: its value, what turns in memory. 'none': not one of these. -/
def stepv (P : Program) (ev : Operand → AV) (n : Nat) (h : List ABlk) : Op → Option (AV × List (Nat × ABlk))
  | .move x => some (ev x, [])
  | .assign x => some (ev x, [])
  | .alloc e => match zro P e with | some zs => some (.ptr n 0, [(n, .box zs)]) | none => none
  | .box e x => match acells (ev x) with | some xs => some (.ptr n 0, [(n, .box xs)]) | none => none
  | .buildSlice T len parts => match buildS P T len (parts.toList.map fun p => (p.1, ev p.2)) with | some r => some (.pv r, []) | none => none
  | .build T parts => match buildA P T (parts.toList.map fun p => (p.1, ev p.2)) with | some r => some (r, []) | none => none
  | .load T a => if 0 < szOf P T then (match loadA (agOf P T) (szOf P T) h (ev a) with | some r => some (r, []) | none => none) else none
  | .store T a x => if 0 < szOf P T then (match storeA (szOf P T) h (ev x) (ev a) with | some d => some (.any, d) | none => none) else none
  | .nilCheck x => if live h (ev x) = true then some (ev x, []) else none
  | .binOp op T x y _ => match binP P op T (ev x) (ev y) with | some p => some (.pv p, []) | none => none
  | .unOp u _ x => match unA u (ev x) with | some p => some (.pv p, []) | none => none
  | .convert s d x => match convA P s d (ev x) with
    | some p => some (.pv p, [])
    | none => match cnvA P h s d (ev x) with | some p => some (.pv p, []) | none => none
  | .fieldAddr s x f => if live h (ev x) = true then (match fieldA (tk P s) f (ev x) with | some r => some (r, []) | none => none) else none
  | .field s x f => match partA P (tk P s) f (ev x) with | some r => some (r, []) | none => none
  | .indexAddr T x i => match intOfA (ev i) with
    | some (_, j) => if liveE h (ev x) = true then (match elemA (tk P T) h (ev x) j with | some r => some (r, []) | none => none) else none
    | none => none
  | .index T x i => match intOfA (ev i) with
    | some (_, j) => match idxA P (tk P T) (ev x) j with | some r => some (r, []) | none => none
    | none => none
  | .extract x i => match extA (ev x) i with | some r => some (r, []) | none => none
  | .makeSlice T l c => mkA P n T (ev l) (ev c)
  | .slice T x lo hi mx => match mx with
    | none => match slcA (tk P T) h (ev x) (lo.map ev) (hi.map ev) with | some r => some (r, []) | none => none
    | some _ => none
  | .makeFunc f xs ys => some (.fn f (xs.toList.map ev) (ys.toList.map ev), [])
  | .call c => match c.callee with
    | .builtin b => callv P ev n h b c.args.toList c.argTypes.toList
    | _ => none
  | _ => none

/-- What an operation does to memory is by names that are free, or by names that are there: so it may be said of any list that agrees. -/
theorem stepv_yields {P : Program} {z : Ini} {o : Oper} {ρ : Operand → Value} {ev : Operand → AV} {c : Cx} {h : List ABlk} {w : World} (s : MSim z h c w) (hev : ∀ x, ARep c h w (ev x) (ρ x)) {r : AV} {d : List (Nat × ABlk)} {n : Nat}
    (hn : z.n ≤ n) (hu : ∀ x ∈ d, n ≤ x.1 → unborn h x.1) (hs : stepv P ev n h o.op = some (r, d)) : Yields P z o ρ c h w r (app h d) := by
  cases hop : o.op <;> rw [hop] at hs <;> simp only [stepv] at hs
  case move x =>
    injection hs with hs; simp only [Prod.mk.injEq] at hs; obtain ⟨rfl, rfl⟩ := hs
    exact .val s (v := ρ x) (by simp [execOp, hop]) (hev x)
  case assign x =>
    injection hs with hs; simp only [Prod.mk.injEq] at hs; obtain ⟨rfl, rfl⟩ := hs
    exact .val s (v := ρ x) (by simp [execOp, hop]) (hev x)
  case alloc e =>
    split at hs
    · rename_i zs hz
      injection hs with hs; simp only [Prod.mk.injEq] at hs; obtain ⟨rfl, rfl⟩ := hs
      obtain ⟨zv, h1, h2⟩ := zro_rep hz c h w
      exact .var s (v := zv) (e := e) _ (hu _ (List.mem_singleton.2 rfl) (Nat.le_refl _)) hn (by simp [execOp, hop, Instr.alloc, h1, newVar, newRow]) h2
    · cases hs
  case box e x =>
    split at hs
    · rename_i xs hz
      injection hs with hs; simp only [Prod.mk.injEq] at hs; obtain ⟨rfl, rfl⟩ := hs
      exact .var s (v := ρ x) (e := e) _ (hu _ (List.mem_singleton.2 rfl) (Nat.le_refl _)) hn (by simp [execOp, hop, Instr.box, newVar, newRow]) ((hev x).cells hz)
    · cases hs
  case buildSlice T len parts =>
    split at hs
    · rename_i q hz
      injection hs with hs; simp only [Prod.mk.injEq] at hs; obtain ⟨rfl, rfl⟩ := hs
      obtain ⟨cs, e, u, h1, h2⟩ := buildS_run (P := P) (vs := parts.map fun p => (p.1, ρ p.2)) (c := c) (h := h) (w := w) (by simp) (fun k i x hk => by
        simp only [List.getElem?_map, Option.map_eq_some_iff] at hk
        obtain ⟨p, hp, he⟩ := hk
        simp only [Prod.mk.injEq] at he
        obtain ⟨rfl, rfl⟩ := he
        exact ⟨ρ p.2, by simp [Array.getElem?_toList] at hp; simp [hp], hev p.2⟩) hz s.hs.okb
      obtain ⟨L, M⟩ := s.beyond (w' := w.alloc (.cells cs e)) ((Below.refl _ w).alloc (Nat.le_refl _) _) (fun b => b = w.heap.size) (fun b hb => by subst hb; exact ⟨Nat.le_refl _, by show w.heap.size < (w.heap.push _).size; simp⟩)
      unfold Yields
      have : (execOp ρ o).run P w = .ok (.value u) (w.alloc (.cells cs e)) := by simp [execOp, hop, h1]
      rw [this]
      exact ⟨_, L, M, .pv _ _ h2⟩
    · cases hs
  case build T parts =>
    split at hs
    · rename_i q hz
      injection hs with hs; simp only [Prod.mk.injEq] at hs; obtain ⟨rfl, rfl⟩ := hs
      obtain ⟨u, h1, h2⟩ := buildA_run (P := P) (vs := parts.map fun p => (p.1, ρ p.2)) (c := c) (h := h) (w := w) (by simp) (fun k i x hk => by
        simp only [List.getElem?_map, Option.map_eq_some_iff] at hk
        obtain ⟨p, hp, he⟩ := hk
        simp only [Prod.mk.injEq] at he
        obtain ⟨rfl, rfl⟩ := he
        exact ⟨ρ p.2, by simp [Array.getElem?_toList] at hp; simp [hp], hev p.2⟩) hz
      exact .val s (v := u) (by simp [execOp, hop, h1]) h2
    · cases hs
  case load T a =>
    split at hs
    · rename_i hpos
      split at hs
      · rename_i q hz
        injection hs with hs; simp only [Prod.mk.injEq] at hs; obtain ⟨rfl, rfl⟩ := hs
        obtain ⟨u, h1, h2⟩ := loadA_run (P := P) (t := T) s (hev a) hz hpos
        exact .val s (v := u) (by simp [execOp, hop, h1]) h2
      · cases hs
    · cases hs
  case store T a x =>
    split at hs
    · rename_i hpos
      split at hs
      · rename_i q hz
        injection hs with hs; simp only [Prod.mk.injEq] at hs; obtain ⟨rfl, rfl⟩ := hs
        exact .store s hop (hev a) (hev x) hz hpos
      · cases hs
    · cases hs
  case nilCheck x =>
    split at hs
    · rename_i hl
      injection hs with hs; simp only [Prod.mk.injEq] at hs; obtain ⟨rfl, rfl⟩ := hs
      obtain ⟨a, ha⟩ := live_ptr (hev x) hl
      exact .val s (v := ρ x) (by simp [execOp, hop, ha]) (hev x)
    · cases hs
  case binOp op T x y yt =>
    split at hs
    · rename_i q hz
      injection hs with hs; simp only [Prod.mk.injEq] at hs; obtain ⟨rfl, rfl⟩ := hs
      obtain ⟨u, h1, h2⟩ := binP_run (P := P) (T := T) (X := x) (Y := y) (hev x) (hev y) hz
      refine .val s (v := u) ?_ (.pv _ _ h2)
      simp only [execOp, hop]
      rw [Sem.run_bind, h1]
      rfl
    · cases hs
  case unOp u T x =>
    split at hs
    · rename_i q hz
      injection hs with hs; simp only [Prod.mk.injEq] at hs; obtain ⟨rfl, rfl⟩ := hs
      obtain ⟨u, h1, h2⟩ := unA_run (P := P) (hev x) hz
      exact .val s (v := u) (by simp [execOp, hop, h1]) (.pv _ _ h2)
    · cases hs
  case convert a b x =>
    split at hs
    · rename_i q hz
      injection hs with hs; simp only [Prod.mk.injEq] at hs; obtain ⟨rfl, rfl⟩ := hs
      obtain ⟨u, h1, h2⟩ := convA_run (P := P) (hev x) hz
      exact .val s (v := u) (by simp [execOp, hop, h1]) (.pv _ _ h2)
    · split at hs
      · rename_i q hz
        injection hs with hs; simp only [Prod.mk.injEq] at hs; obtain ⟨rfl, rfl⟩ := hs
        obtain ⟨u, h1, h2⟩ := cnvA_run s (hev x) hz
        exact .val s (v := u) (by simp [execOp, hop, h1]) (.pv _ _ h2)
      · cases hs
  case fieldAddr T x f =>
    split at hs
    · rename_i hl
      split at hs
      · rename_i q hz
        injection hs with hs; simp only [Prod.mk.injEq] at hs; obtain ⟨rfl, rfl⟩ := hs
        obtain ⟨u, h1, h2⟩ := fieldA_run (P := P) (hev x) hz hl
        exact .val s (v := u) (by simp [execOp, hop, h1]) h2
      · cases hs
    · cases hs
  case field T x f =>
    split at hs
    · rename_i q hz
      injection hs with hs; simp only [Prod.mk.injEq] at hs; obtain ⟨rfl, rfl⟩ := hs
      obtain ⟨u, h1, h2⟩ := partA_run (P := P) (hev x) hz
      exact .val s (v := u) (by simp [execOp, hop, h1]) h2
    · cases hs
  case indexAddr T x i =>
    split at hs
    · rename_i k j hi
      split at hs
      · rename_i hl
        split at hs
        · rename_i q hz
          injection hs with hs; simp only [Prod.mk.injEq] at hs; obtain ⟨rfl, rfl⟩ := hs
          have hri := hev i
          have hpi : ev i = .pv (.int k j) := by
            unfold intOfA at hi
            split at hi
            · rename_i e; injection hi with hi; simp only [Prod.mk.injEq] at hi; obtain ⟨rfl, rfl⟩ := hi; exact e
            · cases hi
          rw [hpi] at hri
          cases hri with
          | pv _ _ hr =>
            generalize hq : ρ i = vi at hr
            cases hr with
            | int _ _ =>
              obtain ⟨u, h1, h2⟩ := elemA_run (P := P) (k := k) s (hev x) hz (fun a b e => by rw [e] at hl ⊢; simpa [liveE] using hl) (fun a b n cap e => by
                rw [e] at hl
                simp only [liveE] at hl
                split at hl
                · rename_i cs e2; exact ⟨cs, e2⟩
                · cases hl)
              exact .val s (v := u) (by simp [execOp, hop, hq, h1]) h2
        · cases hs
      · cases hs
    · cases hs
  case index T x i =>
    split at hs
    · rename_i k j hi
      split at hs
      · rename_i q hz
        injection hs with hs; simp only [Prod.mk.injEq] at hs; obtain ⟨rfl, rfl⟩ := hs
        have hri := hev i
        have hpi : ev i = .pv (.int k j) := by
          unfold intOfA at hi
          split at hi
          · rename_i e; injection hi with hi; simp only [Prod.mk.injEq] at hi; obtain ⟨rfl, rfl⟩ := hi; exact e
          · cases hi
        rw [hpi] at hri
        cases hri with
        | pv _ _ hr =>
          generalize hq : ρ i = vi at hr
          cases hr with
          | int _ _ =>
            obtain ⟨u, h1, h2⟩ := idxA_run (P := P) (k := k) (hev x) hz
            exact .val s (v := u) (by simp [execOp, hop, hq, h1]) h2
      · cases hs
    · cases hs
  case extract x i =>
    split at hs
    · rename_i q hz
      injection hs with hs; simp only [Prod.mk.injEq] at hs; obtain ⟨rfl, rfl⟩ := hs
      obtain ⟨u, h1, h2⟩ := extA_run (P := P) (hev x) hz
      exact .val s (v := u) (by simp [execOp, hop, h1]) h2
    · cases hs
  case makeFunc f xs ys =>
    injection hs with hs; simp only [Prod.mk.injEq] at hs; obtain ⟨rfl, rfl⟩ := hs
    have hm : ∀ (l : Array Operand) (k : Nat) (x : AV) (v : Value), (l.toList.map ev)[k]? = some x → (l.toList.map ρ)[k]? = some v → ARep c h w x v := by
      intro l k x v hk hv
      simp only [List.getElem?_map, Option.map_eq_some_iff] at hk hv
      obtain ⟨q, hq, rfl⟩ := hk
      obtain ⟨q', hq', rfl⟩ := hv
      rw [hq] at hq'; injection hq' with hq'; subst hq'
      exact hev q
    have hr := ARep.fn (c := c) (h := h) (w := w) f (xs.toList.map ev) (ys.toList.map ev) (xs.toList.map ρ) (ys.toList.map ρ) (by simp) (hm xs) (by simp) (hm ys)
    have ha : ∀ l : Array Operand, (l.toList.map ρ).toArray = l.map ρ := fun l => by simp [← List.map_toArray]
    rw [ha, ha] at hr
    exact .val s (by simp [execOp, hop, Instr.makeFunc]) hr
  case makeSlice T l cc =>
    have hun : unborn h n := by
      have hmem : ∃ b, (n, b) ∈ d := by
        unfold mkA at hs
        split at hs
        case h_2 => cases hs
        split at hs
        case h_2 => cases hs
        split at hs
        case h_2 => cases hs
        split at hs
        case isFalse => cases hs
        injection hs with hs; simp only [Prod.mk.injEq] at hs; obtain ⟨_, rfl⟩ := hs; exact ⟨_, by simp; rfl⟩
      obtain ⟨b, hb⟩ := hmem
      exact hu _ hb (Nat.le_refl _)
    obtain ⟨q, w', c', h1, h2, h3, h4⟩ := mkA_run s (hev l) (hev cc) hn hun hs
    unfold Yields
    have : (execOp ρ o).run P w = .ok (.value q) w' := by simp [execOp, hop, h1]
    rw [this]
    exact ⟨c', h2, h3, h4⟩
  case slice T x lo hi mx =>
    cases mx with
    | some m => cases hs
    | none =>
      simp only at hs
      split at hs
      · rename_i q hz
        injection hs with hs; simp only [Prod.mk.injEq] at hs; obtain ⟨rfl, rfl⟩ := hs
        have om : ∀ (lo : Option Operand) (y : AV), lo.map ev = some y → ∃ v, lo.map ρ = some v ∧ ARep c h w y v := fun lo y e => by
          cases lo with
          | none => cases e
          | some a => injection e with e; subst e; exact ⟨_, rfl, hev a⟩
        have on : ∀ (lo : Option Operand), lo.map ev = none → lo.map ρ = none := fun lo e => by cases lo with | none => rfl | some a => cases e
        obtain ⟨u, h1, h2⟩ := slcA_run s (hev x) (om lo) (on lo) (om hi) (on hi) hz
        exact .val s (v := u) (by simp [execOp, hop, h1]) h2
      · cases hs
  case call cl =>
    split at hs
    · rename_i b hb
      obtain ⟨callee, args, tys⟩ := cl
      simp only at hb hs
      subst hb
      unfold callv at hs
      split at hs
      · rename_i x T hargs htys
        have e1 : args = #[x] := by rw [← Array.toArray_toList (xs := args), hargs]
        have e2 : tys = #[T] := by rw [← Array.toArray_toList (xs := tys), htys]
        subst e1; subst e2
        split at hs
        · rename_i hl
          split at hs
          · rename_i q hz
            injection hs with hs; simp only [Prod.mk.injEq] at hs; obtain ⟨rfl, rfl⟩ := hs
            obtain ⟨u, h1, h2⟩ := lenA_run (P := P) (ty := o.type) (hev x) hl hz
            exact .val s (v := u) (by simp [execOp, hop, resolve, invoke, builtin, h1]) (.pv _ _ h2)
          · cases hs
        · cases hs
      · rename_i x y hargs
        have e1 : args = #[x, y] := by rw [← Array.toArray_toList (xs := args), hargs]
        subst e1
        split at hs
        · rename_i k a k' b h1 h2
          injection hs with hs; simp only [Prod.mk.injEq] at hs; obtain ⟨rfl, rfl⟩ := hs
          have r1 := hev x
          have r2 := hev y
          rw [h1] at r1; rw [h2] at r2
          cases r1 with
          | pv _ _ r1 => cases r2 with
            | pv _ _ r2 =>
              generalize hx : ρ x = vx at r1
              generalize hy : ρ y = vy at r2
              cases r1; cases r2
              refine .val s (v := .int k (if a < b then b else a)) ?_ (.pv _ _ (.int _ _))
              simp [execOp, hop, resolve, invoke, builtin, Builtin.max_, Builtin.max2, hx, hy]
        · cases hs
      · rename_i x y hargs
        have e1 : args = #[x, y] := by rw [← Array.toArray_toList (xs := args), hargs]
        subst e1
        split at hs
        · rename_i k a k' b h1 h2
          injection hs with hs; simp only [Prod.mk.injEq] at hs; obtain ⟨rfl, rfl⟩ := hs
          have r1 := hev x
          have r2 := hev y
          rw [h1] at r1; rw [h2] at r2
          cases r1 with
          | pv _ _ r1 => cases r2 with
            | pv _ _ r2 =>
              generalize hx : ρ x = vx at r1
              generalize hy : ρ y = vy at r2
              cases r1; cases r2
              refine .val s (v := .int k (if b < a then b else a)) ?_ (.pv _ _ (.int _ _))
              simp [execOp, hop, resolve, invoke, builtin, Builtin.min_, Builtin.min2, hx, hy]
        · cases hs
      · rename_i x y T Tx hargs htys
        have e1 : args = #[x, y] := by rw [← Array.toArray_toList (xs := args), hargs]
        have e2 : tys = #[T, Tx] := by rw [← Array.toArray_toList (xs := tys), htys]
        subst e1; subst e2
        have hun : unborn h n := by
          have hmem : ∃ b, (n, b) ∈ d := by
            unfold appA at hs
            split at hs
            case h_2 => cases hs
            split at hs
            case h_2 => cases hs
            split at hs
            case isFalse => cases hs
            split at hs
            · split at hs
              · injection hs with hs; simp only [Prod.mk.injEq] at hs; obtain ⟨_, rfl⟩ := hs; exact ⟨_, by simp; right; rfl⟩
              · cases hs
            · injection hs with hs; simp only [Prod.mk.injEq] at hs; obtain ⟨_, rfl⟩ := hs; exact ⟨_, by simp; rfl⟩
            · cases hs
          obtain ⟨b, hb⟩ := hmem
          exact hu _ hb (Nat.le_refl _)
        obtain ⟨q, w', c', h1, h2, h3, h4⟩ := appA_run (ty := o.type) s (hev x) (hev y) hn hun hs
        unfold Yields
        have : (execOp ρ o).run P w = .ok (.value q) w' := by simp [execOp, hop, resolve, invoke, builtin, h1]
        rw [this]
        exact ⟨c', h2, h3, h4⟩
      · cases hs
    · cases hs
  all_goals cases hs
end Go.Ab
