/- The reference's masks and images; lists of numbers. -/
import Derived.Test.YtknlgjeeenkleaaSbF
namespace Go.Ab.Try
open Go.Proofs Go.Ab
set_option linter.unusedVariables false
set_option linter.unusedSimpArgs false
set_option maxRecDepth 100000
theorem c55 (D : List Int) (l : List Pn) (e m : Int) (hD : D.length ≤ 1000000) (hl : l.length ≤ 60) : PC Try.prog 55 [devV D l e, .int .i64 m] (.lst false 1 ((imgD D l m).map wdR)) := by
  refine PC.start 33 Try.call55 Try.func55 rfl Try.ntmps55 Try.results55 (by simp only [go_sem]; exact rfl) fun z hz => ?_
  refine AW.regR rfl (by simp (maxSteps := 1000000) only [go_sem, List.length_map, List.length_append, List.map_append, List.length_cons, List.length_nil, pnR, List.map_cons, List.map_nil] <;> exact rfl) (by simp (disch := omega) only [go_sem, w64, wU, List.length_map, List.length_append, List.map_append, List.length_cons, List.length_nil, pnR, List.map_cons, List.map_nil] <;> exact rfl) ?_
  refine AW.regR rfl (by simp (maxSteps := 1000000) only [go_sem, List.length_map, List.length_append, List.map_append, List.length_cons, List.length_nil, pnR, List.map_cons, List.map_nil] <;> exact rfl) (by simp (disch := omega) only [go_sem, w64, wU, List.length_map, List.length_append, List.map_append, List.length_cons, List.length_nil, pnR, List.map_cons, List.map_nil] <;> exact rfl) ?_
  refine AW.seq ?_
  refine AW.regR rfl (by simp (maxSteps := 1000000) only [go_sem, List.length_map, List.length_append, List.map_append, List.length_cons, List.length_nil, pnR, List.map_cons, List.map_nil] <;> exact rfl) (by simp (disch := omega) only [go_sem, w64, wU, List.length_map, List.length_append, List.map_append, List.length_cons, List.length_nil, pnR, List.map_cons, List.map_nil] <;> exact rfl) ?_
  refine AW.block ?_
  refine AW.loopV (α := (Int)) (fun (i : (Int)) => [(6, .pv (.int .i64 i)), (5, .vs 1 0 (selL l m i.toNat).length)]) (fun (i : (Int)) => [.box [.pv (.lst false 1 (D.map wdR)), .pv (.lst false 3 (l.map pnR)), .pv (.int .i64 e)], .vec 3 ((selL l m i.toNat).map pnR)]) (fun (i : (Int)) => (0 ≤ i) ∧ (i ≤ (l.length : Int))) (fun (i : (Int)) => ((l.length : Int) - i).toNat) 0 ?_ ?_ ?_
  · exact ⟨by omega, by omega⟩
  · exact Wk.vec 3 5 0 rfl
  · rintro i hF _ ht _ hh
    simp only [updT, go_sem] at ht hh
    subst ht; subst hh
    obtain ⟨h1, h2⟩ := hF
    refine AW.seq ?_
    refine AW.regR rfl (by simp (maxSteps := 1000000) only [go_sem, List.length_map, List.length_append, List.map_append, List.length_cons, List.length_nil, pnR, List.map_cons, List.map_nil] <;> exact rfl) (by simp (disch := omega) only [go_sem, w64, wU, List.length_map, List.length_append, List.map_append, List.length_cons, List.length_nil, pnR, List.map_cons, List.map_nil] <;> exact rfl) ?_
    refine AW.cond (by simp (maxSteps := 1000000) only [go_sem, List.length_map, List.length_append, List.map_append, List.length_cons, List.length_nil, pnR, List.map_cons, List.map_nil] <;> exact rfl) (fun hc1 => ?_) (fun hc1 => ?_)
    · try simp only [decide_eq_true_eq, decide_eq_false_iff_not, Bool.or_eq_true, Bool.or_eq_false_iff, Bool.and_eq_true, Bool.and_eq_false_imp, Bool.not_eq_true', Bool.not_eq_false'] at hc1
      have hr : (l.map pnR)[i.toNat]? = some [.int .i64 (l.getD i.toNat (0, 0, 0)).1, .int .u64 (l.getD i.toNat (0, 0, 0)).2.1, .int .i64 (l.getD i.toNat (0, 0, 0)).2.2] := pn_at ⟨h1, hc1.1⟩
      have g1 : 0 ≤ i := h1
      have g2 : i < (l.length : Int) := hc1.1
      have g63 : i < 63 := by omega
      have hsl : (selL l m i.toNat).length ≤ 60 := by have := selL_len l m i.toNat; omega
      refine AW.skip ?_
      show AW _ _ _ _ _
      refine AW.seq ?_
      refine AW.block ?_
      refine AW.regS rfl ?_
      refine ARN.run1 (by simp (maxSteps := 1000000) only [go_sem, List.length_map, List.length_append, List.map_append, List.length_cons, List.length_nil, pnR, List.map_cons, List.map_nil, hr, g1, g2, g63, hsl] <;> exact rfl) ?_
      refine ARN.pcall (fun hp => c108 m i ⟨by omega, by omega⟩) rfl (by simp (maxSteps := 1000000) only [go_sem, List.length_map, List.length_append, List.map_append, List.length_cons, List.length_nil, pnR, List.map_cons, List.map_nil, hr, g1, g2, g63, hsl] <;> exact rfl) (by simp only [go_sem]) (by simp (maxSteps := 1000000) only [go_sem, List.length_map, List.length_append, List.map_append, List.length_cons, List.length_nil, pnR, List.map_cons, List.map_nil, hr, g1, g2, g63, hsl] <;> exact rfl) ?_
      refine ARN.fin (by simp (disch := omega) only [go_sem, w64, wU, List.length_map, List.length_append, List.map_append, List.length_cons, List.length_nil, pnR, List.map_cons, List.map_nil, hr, g1, g2, g63, hsl] <;> exact rfl) ?_
      refine AW.cond (by simp (maxSteps := 1000000) only [go_sem, List.length_map, List.length_append, List.map_append, List.length_cons, List.length_nil, pnR, List.map_cons, List.map_nil, hr, g1, g2, g63, hsl] <;> exact rfl) (fun hc2 => ?_) (fun hc2 => ?_)
      · try simp only [decide_eq_true_eq, decide_eq_false_iff_not, Bool.or_eq_true, Bool.or_eq_false_iff, Bool.and_eq_true, Bool.and_eq_false_imp, Bool.not_eq_true', Bool.not_eq_false'] at hc2
        have g4 : (((selL l m i.toNat).length + 1) * 24 ≤ 140737488355328) = True := eq_true (by omega)
        have g5 : ((selL l m i.toNat).length + 1 ≤ 140737488355328) = True := eq_true (by omega)
        have hse : selL l m (i + 1).toNat = selL l m i.toNat ++ [l.getD i.toNat (0, 0, 0)] := selL_yes h1 (by omega) hc2
        refine AW.regR1 rfl (by simp (maxSteps := 1000000) only [go_sem, List.length_map, List.length_append, List.map_append, List.length_cons, List.length_nil, pnR, List.map_cons, List.map_nil, hr, g1, g2, g63, hsl, g4, g5, hse] <;> exact rfl) (by simp (disch := omega) only [go_sem, w64, wU, List.length_map, List.length_append, List.map_append, List.length_cons, List.length_nil, pnR, List.map_cons, List.map_nil, hr, g1, g2, g63, hsl, g4, g5, hse] <;> exact rfl) ?_
        show AW _ _ _ _ _
        refine AW.regR1 rfl (by simp (maxSteps := 1000000) only [go_sem, List.length_map, List.length_append, List.map_append, List.length_cons, List.length_nil, pnR, List.map_cons, List.map_nil, hr, g1, g2, g63, hsl, g4, g5, hse] <;> exact rfl) (by simp (disch := omega) only [go_sem, w64, wU, List.length_map, List.length_append, List.map_append, List.length_cons, List.length_nil, pnR, List.map_cons, List.map_nil, hr, g1, g2, g63, hsl, g4, g5, hse] <;> exact rfl) ?_
        refine ⟨(i + 1), ?_, ?_, ?_⟩
        · (try dsimp only); omega
        · exact ⟨by omega, by omega⟩
        · refine Wk.to [] [0, 2] hz (by decide) ?_ ?_
          · simp (maxSteps := 1000000) (disch := omega) only [go_sem, w64, wU, List.length_map, List.length_append, List.map_append, List.length_cons, List.length_nil, pnR, List.map_cons, List.map_nil, hr, g1, g2, g63, hsl, g4, g5, hse]
          · simp (maxSteps := 1000000) (disch := omega) only [go_sem, w64, wU, List.length_map, List.length_append, List.map_append, List.length_cons, List.length_nil, pnR, List.map_cons, List.map_nil, hr, g1, g2, g63, hsl, g4, g5, hse]
      · try simp only [decide_eq_true_eq, decide_eq_false_iff_not, Bool.or_eq_true, Bool.or_eq_false_iff, Bool.and_eq_true, Bool.and_eq_false_imp, Bool.not_eq_true', Bool.not_eq_false'] at hc2
        have hse : selL l m (i + 1).toNat = selL l m i.toNat := selL_no h1 (fun hh => by rw [hh.2] at hc2; cases hc2)
        refine AW.skip ?_
        show AW _ _ _ _ _
        refine AW.regR1 rfl (by simp (maxSteps := 1000000) only [go_sem, List.length_map, List.length_append, List.map_append, List.length_cons, List.length_nil, pnR, List.map_cons, List.map_nil, hr, g1, g2, g63, hsl, hse] <;> exact rfl) (by simp (disch := omega) only [go_sem, w64, wU, List.length_map, List.length_append, List.map_append, List.length_cons, List.length_nil, pnR, List.map_cons, List.map_nil, hr, g1, g2, g63, hsl, hse] <;> exact rfl) ?_
        refine ⟨(i + 1), ?_, ?_, ?_⟩
        · (try dsimp only); omega
        · exact ⟨by omega, by omega⟩
        · refine Wk.to [] [0, 1] hz (by decide) ?_ ?_
          · simp (maxSteps := 1000000) (disch := omega) only [go_sem, w64, wU, List.length_map, List.length_append, List.map_append, List.length_cons, List.length_nil, pnR, List.map_cons, List.map_nil, hr, g1, g2, g63, hsl, hse]
          · simp (maxSteps := 1000000) (disch := omega) only [go_sem, w64, wU, List.length_map, List.length_append, List.map_append, List.length_cons, List.length_nil, pnR, List.map_cons, List.map_nil, hr, g1, g2, g63, hsl, hse]
    · try simp only [decide_eq_true_eq, decide_eq_false_iff_not, Bool.or_eq_true, Bool.or_eq_false_iff, Bool.and_eq_true, Bool.and_eq_false_imp, Bool.not_eq_true', Bool.not_eq_false'] at hc1
      refine AW.exit ?_
      show AW _ _ _ _ _
      refine AW.regL ?_
      refine AWL.runGP 0 rfl rfl (by simp (maxSteps := 1000000) only [go_sem, List.length_map, List.length_append, List.map_append, List.length_cons, List.length_nil, pnR, List.map_cons, List.map_nil] <;> exact rfl) ?_
      refine AWL.toU [(5, .pv (.lst false 3 ((selL l m l.length).map pnR)))] [.box [.pv (.lst false 1 (D.map wdR)), .pv (.lst false 3 (l.map pnR)), .pv (.int .i64 e)], .gone] [1] [0, 1] hz (by decide) ?_ ?_ ?_
      · simp (maxSteps := 1000000) only [go_sem]
      · simp (maxSteps := 1000000) only [go_sem]; exact ⟨_, rfl, Sub.of (congrArg (PV.lst false 3) (by rw [show i.toNat = l.length by omega]; exact List.take_of_length_le (by simp)))⟩
      intro t' ht
      simp only [updT, go_sem] at ht
      subst ht
      refine AWL.runG (by simp (maxSteps := 1000000) only [go_sem, List.length_map, List.length_append, List.map_append, List.length_cons, List.length_nil, pnR, List.map_cons, List.map_nil] <;> exact rfl) ?_
      refine AWL.pcall2 (c102 D (selL l m l.length) false false ⟨hD, by have := selL_len l m l.length; omega⟩) (by simp (maxSteps := 1000000) only [go_sem, List.length_map, List.length_append, List.map_append, List.length_cons, List.length_nil, pnR, List.map_cons, List.map_nil] <;> exact rfl) rfl (by simp (maxSteps := 1000000) only [go_sem, List.length_map, List.length_append, List.map_append, List.length_cons, List.length_nil, pnR, List.map_cons, List.map_nil] <;> exact rfl) (by simp (maxSteps := 1000000) only [go_sem, List.length_map, List.length_append, List.map_append, List.length_cons, List.length_nil, pnR, List.map_cons, List.map_nil] <;> exact rfl) ?_
      refine AWL.runG (by simp (maxSteps := 1000000) only [go_sem, List.length_map, List.length_append, List.map_append, List.length_cons, List.length_nil, pnR, List.map_cons, List.map_nil] <;> exact rfl) ?_
      refine AWL.fin (by simp (disch := omega) only [go_sem, w64, wU, List.length_map, List.length_append, List.map_append, List.length_cons, List.length_nil, pnR, List.map_cons, List.map_nil] <;> exact rfl) ?_
      refine retK.fin rfl (by simp (maxSteps := 1000000) only [go_sem, List.length_map, List.length_append, List.map_append, List.length_cons, List.length_nil, pnR, List.map_cons, List.map_nil] <;> exact rfl) (by simp (maxSteps := 1000000) only [go_sem, List.length_map, List.length_append, List.map_append, List.length_cons, List.length_nil, pnR, List.map_cons, List.map_nil] <;> exact rfl) (.of ?_)
      rfl
theorem c51 (D : List Int) (l : List Pn) (e : Int) (hl : l.length ≤ 60) : PC Try.prog 51 [devV D l e] (.lst false 1 ((mks l).map inR)) := by
  refine PC.start 26 Try.call51 Try.func51 rfl Try.ntmps51 Try.results51 (by simp only [go_sem]; exact rfl) fun z hz => ?_
  refine AW.regR rfl (by simp (maxSteps := 1000000) only [go_sem, List.length_map, List.length_append, List.map_append, List.length_cons, List.length_nil, inR, List.map_cons, List.map_nil, List.append_nil] <;> exact rfl) (by simp (disch := omega) only [go_sem, w64, wU, List.length_map, List.length_append, List.map_append, List.length_cons, List.length_nil, inR, List.map_cons, List.map_nil, List.append_nil] <;> exact rfl) ?_
  refine AW.seq ?_
  refine AW.regR rfl (by simp (maxSteps := 1000000) only [go_sem, List.length_map, List.length_append, List.map_append, List.length_cons, List.length_nil, inR, List.map_cons, List.map_nil, List.append_nil] <;> exact rfl) (by simp (disch := omega) only [go_sem, w64, wU, List.length_map, List.length_append, List.map_append, List.length_cons, List.length_nil, inR, List.map_cons, List.map_nil, List.append_nil] <;> exact rfl) ?_
  refine AW.cond (by simp (maxSteps := 1000000) only [go_sem, List.length_map, List.length_append, List.map_append, List.length_cons, List.length_nil, inR, List.map_cons, List.map_nil, List.append_nil] <;> exact rfl) (fun hc1 => ?_) (fun hc1 => ?_)
  · try simp only [decide_eq_true_eq, decide_eq_false_iff_not, Bool.or_eq_true, Bool.or_eq_false_iff, Bool.and_eq_true, Bool.and_eq_false_imp, Bool.not_eq_true', Bool.not_eq_false'] at hc1
    refine AW.regR rfl (by simp (maxSteps := 1000000) only [go_sem, List.length_map, List.length_append, List.map_append, List.length_cons, List.length_nil, inR, List.map_cons, List.map_nil, List.append_nil] <;> exact rfl) (by simp (disch := omega) only [go_sem, w64, wU, List.length_map, List.length_append, List.map_append, List.length_cons, List.length_nil, inR, List.map_cons, List.map_nil, List.append_nil] <;> exact rfl) ?_
    refine retK.fin rfl (by simp (maxSteps := 1000000) only [go_sem, List.length_map, List.length_append, List.map_append, List.length_cons, List.length_nil, inR, List.map_cons, List.map_nil, List.append_nil] <;> exact rfl) (by simp (maxSteps := 1000000) only [go_sem, List.length_map, List.length_append, List.map_append, List.length_cons, List.length_nil, inR, List.map_cons, List.map_nil, List.append_nil] <;> exact rfl) ?_
    have hm : mks l = [] := by (unfold mks; rw [if_pos (by omega)])
    rw [hm]; exact Sub.nil0 0 1 true
  · try simp only [decide_eq_true_eq, decide_eq_false_iff_not, Bool.or_eq_true, Bool.or_eq_false_iff, Bool.and_eq_true, Bool.and_eq_false_imp, Bool.not_eq_true', Bool.not_eq_false'] at hc1
    have hw : IntKind.u64.wrap (l.length : Int) = l.length := wU (by omega) (by omega)
    have hsh : ishl .i64 1 (l.length : Int) = ((2 ^ l.length : Nat) : Int) := (shl_i (i := (l.length : Int)) ⟨by omega, by omega⟩).trans (by simp)
    have hp : 2 ^ l.length ≤ 1048576 := pow_20 (by omega)
    refine AW.skip ?_
    show AW _ _ _ _ _
    refine AW.regR rfl (by simp (maxSteps := 1000000) only [go_sem, List.length_map, List.length_append, List.map_append, List.length_cons, List.length_nil, inR, List.map_cons, List.map_nil, List.append_nil, hw, hsh, hp] <;> exact rfl) (by simp (disch := omega) only [go_sem, w64, wU, List.length_map, List.length_append, List.map_append, List.length_cons, List.length_nil, inR, List.map_cons, List.map_nil, List.append_nil, hw, hsh, hp] <;> exact rfl) ?_
    refine AW.seq ?_
    refine AW.regR rfl (by simp (maxSteps := 1000000) only [go_sem, List.length_map, List.length_append, List.map_append, List.length_cons, List.length_nil, inR, List.map_cons, List.map_nil, List.append_nil, hw, hsh, hp] <;> exact rfl) (by simp (disch := omega) only [go_sem, w64, wU, List.length_map, List.length_append, List.map_append, List.length_cons, List.length_nil, inR, List.map_cons, List.map_nil, List.append_nil, hw, hsh, hp] <;> exact rfl) ?_
    refine AW.block ?_
    refine AW.loopV (α := (Int)) (fun (i : (Int)) => [(4, .pv (.int .i64 i)), (3, .vs 1 0 (mksN l i.toNat).length)]) (fun (i : (Int)) => [.box [.pv (.lst false 1 (D.map wdR)), .pv (.lst false 3 (l.map pnR)), .pv (.int .i64 e)], .vec 1 ((mksN l i.toNat).map inR)]) (fun (i : (Int)) => (0 ≤ i) ∧ (i ≤ ((2 ^ l.length : Nat) : Int))) (fun (i : (Int)) => (((2 ^ l.length : Nat) : Int) - i).toNat) 0 ?_ ?_ ?_
    · exact ⟨by omega, Int.natCast_nonneg _⟩
    · exact Wk.vec 1 3 0 rfl
    · rintro i hF _ ht _ hh
      simp only [updT, go_sem] at ht hh
      subst ht; subst hh
      obtain ⟨h1, h2⟩ := hF
      refine AW.seq ?_
      refine AW.regR rfl (by simp (maxSteps := 1000000) only [go_sem, List.length_map, List.length_append, List.map_append, List.length_cons, List.length_nil, inR, List.map_cons, List.map_nil, List.append_nil, hw, hsh, hp] <;> exact rfl) (by simp (disch := omega) only [go_sem, w64, wU, List.length_map, List.length_append, List.map_append, List.length_cons, List.length_nil, inR, List.map_cons, List.map_nil, List.append_nil, hw, hsh, hp] <;> exact rfl) ?_
      refine AW.cond (by simp (maxSteps := 1000000) only [go_sem, List.length_map, List.length_append, List.map_append, List.length_cons, List.length_nil, inR, List.map_cons, List.map_nil, List.append_nil, hw, hsh, hp] <;> exact rfl) (fun hc2 => ?_) (fun hc2 => ?_)
      · try simp only [decide_eq_true_eq, decide_eq_false_iff_not, Bool.or_eq_true, Bool.or_eq_false_iff, Bool.and_eq_true, Bool.and_eq_false_imp, Bool.not_eq_true', Bool.not_eq_false'] at hc2
        have hml : (mksN l i.toNat).length ≤ 1048576 := by have := mksN_len l i.toNat; omega
        refine AW.skip ?_
        show AW _ _ _ _ _
        refine AW.seq ?_
        refine AW.block ?_
        refine AW.regS rfl ?_
        refine ARN.run1 (by simp (maxSteps := 1000000) only [go_sem, List.length_map, List.length_append, List.map_append, List.length_cons, List.length_nil, inR, List.map_cons, List.map_nil, List.append_nil, hw, hsh, hp, hml] <;> exact rfl) ?_
        refine ARN.pcall (fun hp => c53 D l e i hl) rfl (by simp (maxSteps := 1000000) only [go_sem, List.length_map, List.length_append, List.map_append, List.length_cons, List.length_nil, inR, List.map_cons, List.map_nil, List.append_nil, hw, hsh, hp, hml] <;> exact rfl) (by simp only [go_sem]) (by simp (maxSteps := 1000000) only [go_sem, List.length_map, List.length_append, List.map_append, List.length_cons, List.length_nil, inR, List.map_cons, List.map_nil, List.append_nil, hw, hsh, hp, hml] <;> exact rfl) ?_
        refine ARN.fin (by simp (disch := omega) only [go_sem, w64, wU, List.length_map, List.length_append, List.map_append, List.length_cons, List.length_nil, inR, List.map_cons, List.map_nil, List.append_nil, hw, hsh, hp, hml] <;> exact rfl) ?_
        refine AW.cond (by simp (maxSteps := 1000000) only [go_sem, List.length_map, List.length_append, List.map_append, List.length_cons, List.length_nil, inR, List.map_cons, List.map_nil, List.append_nil, hw, hsh, hp, hml] <;> exact rfl) (fun hc3 => ?_) (fun hc3 => ?_)
        · try simp only [decide_eq_true_eq, decide_eq_false_iff_not, Bool.or_eq_true, Bool.or_eq_false_iff, Bool.and_eq_true, Bool.and_eq_false_imp, Bool.not_eq_true', Bool.not_eq_false'] at hc3
          have g4 : (((mksN l i.toNat).length + 1) * 8 ≤ 140737488355328) = True := eq_true (by omega)
          have g5 : ((mksN l i.toNat).length + 1 ≤ 140737488355328) = True := eq_true (by omega)
          have hse : mksN l (i + 1).toNat = mksN l i.toNat ++ [i] := mks_yes h1 hc3
          refine AW.regR1 rfl (by simp (maxSteps := 1000000) only [go_sem, List.length_map, List.length_append, List.map_append, List.length_cons, List.length_nil, inR, List.map_cons, List.map_nil, List.append_nil, hw, hsh, hp, hml, g4, g5, hse] <;> exact rfl) (by simp (disch := omega) only [go_sem, w64, wU, List.length_map, List.length_append, List.map_append, List.length_cons, List.length_nil, inR, List.map_cons, List.map_nil, List.append_nil, hw, hsh, hp, hml, g4, g5, hse] <;> exact rfl) ?_
          show AW _ _ _ _ _
          refine AW.regR1 rfl (by simp (maxSteps := 1000000) only [go_sem, List.length_map, List.length_append, List.map_append, List.length_cons, List.length_nil, inR, List.map_cons, List.map_nil, List.append_nil, hw, hsh, hp, hml, g4, g5, hse] <;> exact rfl) (by simp (disch := omega) only [go_sem, w64, wU, List.length_map, List.length_append, List.map_append, List.length_cons, List.length_nil, inR, List.map_cons, List.map_nil, List.append_nil, hw, hsh, hp, hml, g4, g5, hse] <;> exact rfl) ?_
          refine ⟨(i + 1), ?_, ?_, ?_⟩
          · (try dsimp only); omega
          · exact ⟨by omega, by omega⟩
          · refine Wk.to [] [0, 2] hz (by decide) ?_ ?_
            · simp (maxSteps := 1000000) (disch := omega) only [go_sem, w64, wU, List.length_map, List.length_append, List.map_append, List.length_cons, List.length_nil, inR, List.map_cons, List.map_nil, List.append_nil, hw, hsh, hp, hml, g4, g5, hse]
            · simp (maxSteps := 1000000) (disch := omega) only [go_sem, w64, wU, List.length_map, List.length_append, List.map_append, List.length_cons, List.length_nil, inR, List.map_cons, List.map_nil, List.append_nil, hw, hsh, hp, hml, g4, g5, hse]
        · try simp only [decide_eq_true_eq, decide_eq_false_iff_not, Bool.or_eq_true, Bool.or_eq_false_iff, Bool.and_eq_true, Bool.and_eq_false_imp, Bool.not_eq_true', Bool.not_eq_false'] at hc3
          have hse : mksN l (i + 1).toNat = mksN l i.toNat := mks_no h1 hc3
          refine AW.skip ?_
          show AW _ _ _ _ _
          refine AW.regR1 rfl (by simp (maxSteps := 1000000) only [go_sem, List.length_map, List.length_append, List.map_append, List.length_cons, List.length_nil, inR, List.map_cons, List.map_nil, List.append_nil, hw, hsh, hp, hml, hse] <;> exact rfl) (by simp (disch := omega) only [go_sem, w64, wU, List.length_map, List.length_append, List.map_append, List.length_cons, List.length_nil, inR, List.map_cons, List.map_nil, List.append_nil, hw, hsh, hp, hml, hse] <;> exact rfl) ?_
          refine ⟨(i + 1), ?_, ?_, ?_⟩
          · (try dsimp only); omega
          · exact ⟨by omega, by omega⟩
          · refine Wk.to [] [0, 1] hz (by decide) ?_ ?_
            · simp (maxSteps := 1000000) (disch := omega) only [go_sem, w64, wU, List.length_map, List.length_append, List.map_append, List.length_cons, List.length_nil, inR, List.map_cons, List.map_nil, List.append_nil, hw, hsh, hp, hml, hse]
            · simp (maxSteps := 1000000) (disch := omega) only [go_sem, w64, wU, List.length_map, List.length_append, List.map_append, List.length_cons, List.length_nil, inR, List.map_cons, List.map_nil, List.append_nil, hw, hsh, hp, hml, hse]
      · try simp only [decide_eq_true_eq, decide_eq_false_iff_not, Bool.or_eq_true, Bool.or_eq_false_iff, Bool.and_eq_true, Bool.and_eq_false_imp, Bool.not_eq_true', Bool.not_eq_false'] at hc2
        refine AW.exit ?_
        show AW _ _ _ _ _
        refine AW.regR rfl (by simp (maxSteps := 1000000) only [go_sem, List.length_map, List.length_append, List.map_append, List.length_cons, List.length_nil, inR, List.map_cons, List.map_nil, List.append_nil, hw, hsh, hp] <;> exact rfl) (by simp (disch := omega) only [go_sem, w64, wU, List.length_map, List.length_append, List.map_append, List.length_cons, List.length_nil, inR, List.map_cons, List.map_nil, List.append_nil, hw, hsh, hp] <;> exact rfl) ?_
        refine retK.fin rfl (by simp (maxSteps := 1000000) only [go_sem, List.length_map, List.length_append, List.map_append, List.length_cons, List.length_nil, inR, List.map_cons, List.map_nil, List.append_nil, hw, hsh, hp] <;> exact rfl) (by simp (maxSteps := 1000000) only [go_sem, List.length_map, List.length_append, List.map_append, List.length_cons, List.length_nil, inR, List.map_cons, List.map_nil, List.append_nil, hw, hsh, hp] <;> exact rfl) (.of ?_)
        have hm : mks l = mksN l i.toNat := by (unfold mks; rw [if_neg (by omega), show i.toNat = 2 ^ l.length by omega])
        rw [hm]; exact congrArg (PV.lst false 1) (List.take_of_length_le (by simp))
theorem c49 (a b : List Int) (p q : Bool) (ha : (a.length : Int) ≤ 9223372036854775807) (hb : (b.length : Int) ≤ 9223372036854775807) : PC Try.prog 49 [.lst p 1 (a.map inR), .lst q 1 (b.map inR)] (.bool (decide (a = b))) := by
  refine PC.start 26 Try.call49 Try.func49 rfl Try.ntmps49 Try.results49 (by simp only [go_sem]; exact rfl) fun z hz => ?_
  refine AW.regR rfl (by simp (maxSteps := 1000000) only [go_sem, List.length_map] <;> exact rfl) (by simp (disch := omega) only [go_sem, w64, wU, List.length_map] <;> exact rfl) ?_
  refine AW.seq ?_
  refine AW.regR rfl (by simp (maxSteps := 1000000) only [go_sem, List.length_map] <;> exact rfl) (by simp (disch := omega) only [go_sem, w64, wU, List.length_map] <;> exact rfl) ?_
  refine AW.cond (by simp (maxSteps := 1000000) only [go_sem, List.length_map] <;> exact rfl) (fun hc1 => ?_) (fun hc1 => ?_)
  · try simp only [decide_eq_true_eq, decide_eq_false_iff_not, Bool.or_eq_true, Bool.or_eq_false_iff, Bool.and_eq_true, Bool.and_eq_false_imp, Bool.not_eq_true', Bool.not_eq_false'] at hc1
    refine AW.regR rfl (by simp (maxSteps := 1000000) only [go_sem, List.length_map] <;> exact rfl) (by simp (disch := omega) only [go_sem, w64, wU, List.length_map] <;> exact rfl) ?_
    refine retK.fin rfl (by simp (maxSteps := 1000000) only [go_sem, List.length_map] <;> exact rfl) (by simp (maxSteps := 1000000) only [go_sem, List.length_map] <;> exact rfl) (.of ?_)
    have : a ≠ b := fun e => by subst e; omega
    simp [this]
  · try simp only [decide_eq_true_eq, decide_eq_false_iff_not, Bool.or_eq_true, Bool.or_eq_false_iff, Bool.and_eq_true, Bool.and_eq_false_imp, Bool.not_eq_true', Bool.not_eq_false'] at hc1
    refine AW.skip ?_
    show AW _ _ _ _ _
    refine AW.seq ?_
    refine AW.regR rfl (by simp (maxSteps := 1000000) only [go_sem, List.length_map] <;> exact rfl) (by simp (disch := omega) only [go_sem, w64, wU, List.length_map] <;> exact rfl) ?_
    refine AW.block ?_
    refine AW.loopVh (α := (Int)) (fun (i : (Int)) => [(5, .pv (.int .i64 i))]) (fun (i : (Int)) => (0 ≤ i) ∧ (i ≤ (a.length : Int)) ∧ (∀ j : Nat, (j : Int) < i → a.getD j 0 = b.getD j 0)) (fun (i : (Int)) => ((a.length : Int) - i).toNat) 0 ?_ ?_ ?_
    · exact ⟨by omega, by omega, fun j hj => by omega⟩
    · refine Wk.sub ?_
      simp (maxSteps := 1000000) (disch := omega) only [go_sem, w64, wU, List.length_map]
    · rintro i hF _ ht
      simp only [updT, go_sem] at ht
      subst ht
      obtain ⟨h1, h2, h3⟩ := hF
      refine AW.seq ?_
      refine AW.regR rfl (by simp (maxSteps := 1000000) only [go_sem, List.length_map] <;> exact rfl) (by simp (disch := omega) only [go_sem, w64, wU, List.length_map] <;> exact rfl) ?_
      refine AW.cond (by simp (maxSteps := 1000000) only [go_sem, List.length_map] <;> exact rfl) (fun hc2 => ?_) (fun hc2 => ?_)
      · try simp only [decide_eq_true_eq, decide_eq_false_iff_not, Bool.or_eq_true, Bool.or_eq_false_iff, Bool.and_eq_true, Bool.and_eq_false_imp, Bool.not_eq_true', Bool.not_eq_false'] at hc2
        have hr : (a.map inR)[i.toNat]? = some [.int .i64 (a.getD i.toNat 0)] := in_at ⟨h1, hc2⟩
        have hr2 : (b.map inR)[i.toNat]? = some [.int .i64 (b.getD i.toNat 0)] := in_at ⟨h1, by omega⟩
        have g1 : 0 ≤ i := h1
        have g2 : i < (a.length : Int) := hc2
        have g3 : i < (b.length : Int) := by omega
        refine AW.skip ?_
        show AW _ _ _ _ _
        refine AW.seq ?_
        refine AW.block ?_
        refine AW.regDS follows (by kernel_rfl) ?_
        refine ARE.run1 (by simp (maxSteps := 1000000) only [go_sem, List.length_map, hr, hr2, g1, g2, g3] <;> exact rfl) ?_
        refine ARE.fin [0, 0, 3, 7, 0, 0, 48, 112, 255] _ (by kernel_rfl) (by simp (maxSteps := 1000000) only [go_sem, List.length_map, hr, hr2, g1, g2, g3] <;> exact rfl) (by kernel_rfl) (by simp (disch := omega) only [go_sem, w64, wU, List.length_map, hr, hr2, g1, g2, g3] <;> exact rfl) ?_
        refine AW.cond (by simp (maxSteps := 1000000) only [go_sem, List.length_map, hr, hr2, g1, g2, g3] <;> exact rfl) (fun hc3 => ?_) (fun hc3 => ?_)
        · try simp only [decide_eq_true_eq, decide_eq_false_iff_not, Bool.or_eq_true, Bool.or_eq_false_iff, Bool.and_eq_true, Bool.and_eq_false_imp, Bool.not_eq_true', Bool.not_eq_false'] at hc3
          refine AW.regR rfl (by simp (maxSteps := 1000000) only [go_sem, List.length_map, hr, hr2, g1, g2, g3] <;> exact rfl) (by simp (disch := omega) only [go_sem, w64, wU, List.length_map, hr, hr2, g1, g2, g3] <;> exact rfl) ?_
          refine retK.fin rfl (by simp (maxSteps := 1000000) only [go_sem, List.length_map, hr, hr2, g1, g2, g3] <;> exact rfl) (by simp (maxSteps := 1000000) only [go_sem, List.length_map, hr, hr2, g1, g2, g3] <;> exact rfl) (.of ?_)
          have : a ≠ b := fun e => by subst e; simp at hc3
          simp [this]
        · try simp only [decide_eq_true_eq, decide_eq_false_iff_not, Bool.or_eq_true, Bool.or_eq_false_iff, Bool.and_eq_true, Bool.and_eq_false_imp, Bool.not_eq_true', Bool.not_eq_false'] at hc3
          refine AW.skip ?_
          show AW _ _ _ _ _
          refine AW.regR1 rfl (by simp (maxSteps := 1000000) only [go_sem, List.length_map, hr, hr2, g1, g2, g3] <;> exact rfl) (by simp (disch := omega) only [go_sem, w64, wU, List.length_map, hr, hr2, g1, g2, g3] <;> exact rfl) ?_
          refine ⟨(i + 1), ?_, ?_, ?_⟩
          · (try dsimp only); omega
          · exact ⟨by omega, by omega, fun j hj => if e : (j : Int) < i then h3 j e else by (have hji : j = i.toNat := by omega); subst hji; simpa using hc3⟩
          · refine Wk.sub ?_
            simp (maxSteps := 1000000) (disch := omega) only [go_sem, w64, wU, List.length_map, hr, hr2, g1, g2, g3]
      · try simp only [decide_eq_true_eq, decide_eq_false_iff_not, Bool.or_eq_true, Bool.or_eq_false_iff, Bool.and_eq_true, Bool.and_eq_false_imp, Bool.not_eq_true', Bool.not_eq_false'] at hc2
        refine AW.exit ?_
        show AW _ _ _ _ _
        refine AW.regR rfl (by simp (maxSteps := 1000000) only [go_sem, List.length_map] <;> exact rfl) (by simp (disch := omega) only [go_sem, w64, wU, List.length_map] <;> exact rfl) ?_
        refine retK.fin rfl (by simp (maxSteps := 1000000) only [go_sem, List.length_map] <;> exact rfl) (by simp (maxSteps := 1000000) only [go_sem, List.length_map] <;> exact rfl) (.of ?_)
        have : a = b := list_ext (d := 0) (by omega) (fun j hj => h3 j (by omega))
        simp [this]
end Go.Ab.Try
