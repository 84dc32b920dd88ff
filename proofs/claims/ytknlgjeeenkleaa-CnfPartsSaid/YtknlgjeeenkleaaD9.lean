/- A call that is gone through in the caller's own memory: functions that are lent places or functions of the caller's. -/
import Derived.Test.YtknlgjeeenkleaaD8
namespace Go.Ab
open Go.RowKit
set_option linter.unusedVariables false
set_option linter.unusedSimpArgs false

/-- A block is of the kind it was, or given up. -/
def kindK : ABlk → ABlk → Prop
  | .nb, _ => True
  | .gone, .gone => True
  | .box _, .gone => True
  | .box _, .box _ => True
  | .vec _ _, .gone => True
  | .vec sz rows, .vec sz' rows' => sz = sz' ∧ rows.length ≤ rows'.length
  | .mp _, .gone => True
  | .mp _, .mp _ => True
  | _, _ => False
def growH : List ABlk → List ABlk → Prop
  | [], _ => True
  | b :: h, b' :: h' => kindK b b' ∧ growH h h'
  | _ :: _, [] => False
theorem growH_get : ∀ {h h' : List ABlk}, growH h h' → h.length ≤ h'.length ∧ ∀ (i : Nat) (b : ABlk), h[i]? = some b → ∃ b', h'[i]? = some b' ∧ kindK b b'
  | [], _, _ => ⟨Nat.zero_le _, fun i b hi => by simp at hi⟩
  | b :: h, b' :: h', hh => by
    obtain ⟨h1, h2⟩ := growH_get hh.2
    refine ⟨by simp [h1], fun i x hi => ?_⟩
    cases i with
    | zero => simp at hi; subst hi; exact ⟨b', rfl, hh.1⟩
    | succ i => exact h2 i x (by simpa using hi)
  | _ :: _, [], hh => hh.elim
attribute [go_sem] kindK growH

/-- What a callee begins with. -/
def Cx.lend (c : Cx) (h : List ABlk) (w : World) : Ini := ⟨w, fun b => ∃ i, lv c h i ∧ b = c.mu i, c, h.length⟩
theorem MSim.lend {z : Ini} {h : List ABlk} {c : Cx} {w : World} (s : MSim z h c w) : MSim (c.lend h w) h c w :=
  ⟨Fr.refl w _, s.hs, fun i li => .inl ⟨i, li, rfl⟩, fun b hb => .inl hb, fun b hb => hb, Nat.le_refl _, fun i _ => ⟨rfl, rfl⟩⟩
theorem MSim.back {z : Ini} {h h' : List ABlk} {c c' : Cx} {w w' : World} (s : MSim z h c w) (s' : MSim (c.lend h w) h' c' w') (hg : growH h h') : Later c h w c' h' w' ∧ MSim z h' c' w' := by
  obtain ⟨gl, gk⟩ := growH_get hg
  have own : ∀ b, (c.lend h w).O b → z.O b ∨ z.w.heap.size ≤ b := fun b ⟨i, li, e⟩ => by rw [e]; exact s.own i li
  refine ⟨⟨s'.okm, fun b hb => s'.fr.block b (s.hs.okb b hb) (fun ⟨i, li, e⟩ => s.hs.nok i li (e ▸ hb)), fun i b hi hb => ?_⟩, ⟨?_, s'.hs, fun i li => ?_, fun b hb => ?_, fun b hb => s'.okm b (s.okm b hb), Nat.le_trans s.ext.1 gl, fun i hi => ?_⟩⟩
  · obtain ⟨b', hi', hk⟩ := gk i b hi
    have hlt : i < h.length := (List.getElem?_eq_some_iff.1 hi).1
    have e := s'.ext.2 i hlt
    refine ⟨b', hi', ?_, fun _ => e, fun cs' e' => ?_, fun sz rows' e' => ?_, fun es' e' => ?_⟩
    · rintro rfl; cases b <;> simp [kindK] at hk; exact hb rfl
    · subst e'; cases b <;> simp [kindK] at hk <;> first | exact ⟨_, rfl⟩ | exact absurd rfl hb
    · subst e'; cases b <;> simp [kindK] at hk <;> first | exact absurd rfl hb | (obtain ⟨rfl, hl⟩ := hk; exact ⟨_, rfl, hl⟩)
    · subst e'; cases b <;> simp [kindK] at hk <;> first | exact ⟨_, rfl⟩ | exact absurd rfl hb
  · refine ⟨s'.fr.os.trans s.fr.os, s'.fr.tape.trans s.fr.tape, s'.fr.output.trans s.fr.output, Nat.le_trans s.fr.size s'.fr.size, fun b hb hO => ?_⟩
    exact (s'.fr.block b (Nat.lt_of_lt_of_le hb s.fr.size) (fun ho => by
      rcases own b ho with h | h
      · exact hO h
      · omega)).trans (s.fr.block b hb hO)
  · rcases s'.own i li with h | h
    · exact own _ h
    · exact .inr (Nat.le_trans s.fr.size h)
  · rcases s'.okn b hb with h | h | h
    · exact s.okn b h
    · rcases own b h with h | h
      · exact .inr (.inl h)
      · exact .inr (.inr h)
    · exact .inr (.inr (Nat.le_trans s.fr.size h))
  · have e := s'.ext.2 i (Nat.lt_of_lt_of_le hi s.ext.1)
    exact ⟨e.1.trans (s.ext.2 i hi).1, e.2.trans (s.ext.2 i hi).2⟩

section
variable {P : Program} {z : Ini} {ops : Array Oper} {l : List Oper} {σ : St} {Q : Exit → St → Prop} {o : Oper} {f : FuncId} {args : Array Operand} {tys : Array TypeId} {x : Operand}

/-- What comes behind a callee's end. -/
inductive icK (P : Program) (rs : List ResultVar) (h : List ABlk) (K : AV → List ABlk → Prop) : Exit → St → Prop
  | normal (σ : St) (r : AV) : resA P σ rs = some r → growH h σ.h → K r σ.h → icK P rs h K .normal σ
  | ret (σ : St) (r : AV) : resA P σ rs = some r → growH h σ.h → K r σ.h → icK P rs h K .ret σ

theorem run_call_fn {ρ : Operand → Value} {w : World} {us vs : List Value} (ho : o.op = .call ⟨.value x, args, tys⟩) (hf : ρ x = .func (.func f) us.toArray vs.toArray)
    (hc : ∀ (args : Array Value) (w : World), (callFunc f args).run P w = .ok (.enter f args) w) : (execOp ρ o).run P w = .ok (.enter f (us ++ args.toList.map ρ ++ vs).toArray) w := by
  have : us.toArray ++ args.map ρ ++ vs.toArray = (us ++ args.toList.map ρ ++ vs).toArray := by
    apply Array.toList_inj.1; simp
  simp [execOp, ho, resolve, hf, Deferred.ofValue, invoke, hc, ← this]

theorem AWL.icall {fn : Func} {code : Code} {rs : List ResultVar} {fi ca t' : List AV} (n : Nat) (hg : ∀ c a w, Sim z σ c a w → Region.wanted o (yielded ops a.tmps) = true) (ho : o.op = .call ⟨.value x, args, tys⟩) (hx : evO σ.t x = .fn (.func f) fi ca)
    (hc : ∀ (args : Array Value) (w : World), (callFunc f args).run P w = .ok (.enter f args) w) (hf : P.funcs[f]? = some fn) (hb : fn.body = some code) (hn : fn.ntmps = n) (hr : fn.results = rs.toArray)
    (ht : fi ++ args.toList.map (evO σ.t) ++ ca ++ List.replicate (n - (fi.length + args.toList.length + ca.length)) .any = t')
    (k : ∀ z' : Ini, z'.n = σ.h.length → AW P z' code ⟨t', σ.h⟩ (icK P rs σ.h fun r h' => AWL P z ops l ⟨putT σ.t o.dst r, h'⟩ Q)) : AWL P z ops (o :: l) σ Q := fun c a w s => by
  refine wpList_step fun K hK => ?_
  rw [hg c a w s]
  simp only [if_true]
  unfold Oper.wp
  have hrx := evO_rep s.ts x
  rw [hx] at hrx
  generalize hv : a.eval x = v at hrx
  cases hrx with
  | fn _ _ _ us vs hl1 hr1 hl2 hr2 =>
    rw [run_call_fn ho hv hc]
    simp only [Oper.upon]
    refine calls_of_wp hf hb ?_
    have start : Sim (c.lend σ.h w) ⟨t', σ.h⟩ c { tmps := (us ++ args.toList.map a.eval ++ vs).toArray ++ Array.replicate (fn.ntmps - (us ++ args.toList.map a.eval ++ vs).toArray.size) undef, defers := [] } w := by
      refine ⟨s.m.lend, ?_, rfl⟩
      subst ht
      have hlen : (us ++ args.toList.map a.eval ++ vs).length = fi.length + args.toList.length + ca.length := by simp [hl1, hl2]; omega
      refine ⟨by simp [hn, hl1, hl2]; omega, fun j y u hj hu => ?_⟩
      have hargs : ∀ (j : Nat) (y : AV) (u : Value), (fi ++ args.toList.map (evO σ.t) ++ ca)[j]? = some y → (us ++ args.toList.map a.eval ++ vs)[j]? = some u → ARep c σ.h w y u := by
        intro j y u hj hu
        simp only [List.getElem?_append, List.length_append, List.length_map, hl1] at hj hu
        split at hj
        · rename_i h1
          rw [if_pos h1] at hu
          split at hj
          · rename_i h2
            rw [if_pos h2] at hu
            exact hr1 j y u hj hu
          · rename_i h2
            rw [if_neg h2] at hu
            simp only [List.getElem?_map, Option.map_eq_some_iff] at hj hu
            obtain ⟨q, hq, rfl⟩ := hj
            obtain ⟨q', hq', rfl⟩ := hu
            rw [hq] at hq'; injection hq' with hq'; subst hq'
            exact evO_rep s.ts q
        · rename_i h1
          rw [if_neg h1] at hu
          exact hr2 _ y u hj hu
      rw [List.getElem?_append] at hj
      split at hj
      · rename_i hlt
        have hlt' : j < (us ++ args.toList.map a.eval ++ vs).length := by rw [hlen]; simp at hlt; simp; omega
        rw [Array.getElem?_append_left (by simpa using hlt')] at hu
        exact hargs j y u hj (by simpa using hu)
      · simp only [List.getElem?_replicate] at hj
        split at hj
        · injection hj with hj; subst hj; exact .any _
        · cases hj
    have hk := k (c.lend σ.h w) rfl c _ w start
    refine Code.wp_mono ?_ hk
    intro e a' w' ⟨σ', c', q, s'⟩
    have fin : ∀ r, resA P σ' rs = some r → growH σ.h σ'.h → AWL P z ops l ⟨putT σ.t o.dst r, σ'.h⟩ Q → a'.defers = [] ∧ ∃ v, (results fn a'.tmps).run P w' = .ok v w' ∧ K (a.put o.dst v) w' := by
      intro r h1 h2 h3
      obtain ⟨v, g1, g2⟩ := resA_run (fn := fn) s' (by rw [hr]; simpa using h1)
      obtain ⟨L, M⟩ := s.m.back s'.m h2
      exact ⟨s'.df, v, g1, hK _ _ (h3 c' _ w' ⟨M, (s.ts.later L).put g2 o.dst, by rw [put_defers]; exact s.df⟩)⟩
    cases q with
    | normal _ r h1 h2 h3 => exact fin r h1 h2 h3
    | ret _ r h1 h2 h3 => exact fin r h1 h2 h3
end
end Go.Ab
