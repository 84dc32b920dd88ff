/- The functions of the disk's layer: the small ones. -/
import Derived.Test.YtlgfbiepbneihaaDL
import Derived.Test.YtlgfbiepbneihaaTy
namespace Go.Ab.Try
open Go.Proofs Go.Ab
set_option linter.unusedVariables false
set_option linter.unusedSimpArgs false
set_option linter.unnecessarySimpa false
set_option maxRecDepth 100000
theorem follows : Try.prog.follows .mixedOrders = true := by kernel_rfl
theorem c86 (D : List Int) (l : List Pn) (e b : Int) (hb : 0 ≤ b) (hs : Sm D l) : PC Try.prog 86 [devV D l e, .int .u64 b] (.tup (if b < D.length then [.int .u64 (lastW l b (D[b.toNat]?.getD 0)), .bool true] else [.int .u64 0, .bool false])) := by
  refine PC.start 41 Try.call86 Try.func86 rfl Try.ntmps86 Try.results86 (by simp only [go_sem]; exact rfl) fun z hz => ?_
  obtain ⟨hs1, hs2⟩ := hs
  refine AW.regR rfl (by simp (maxSteps := 1000000) only [go_sem, List.length_map] <;> exact rfl) (by first | (simp (disch := omega) only [go_sem, w64, wU, List.length_map] <;> exact rfl) | exact rfl) ?_
  refine AW.seq ?_
  refine AW.regR rfl (by simp (maxSteps := 1000000) only [go_sem, List.length_map] <;> exact rfl) (by first | (simp (disch := omega) only [go_sem, w64, wU, List.length_map] <;> exact rfl) | exact rfl) ?_
  refine AW.cond (by simp (maxSteps := 1000000) only [go_sem, List.length_map] <;> exact rfl) (fun hc1 => ?_) (fun hc1 => ?_)
  · try simp only [decide_eq_true_eq, decide_eq_false_iff_not, Bool.or_eq_true, Bool.or_eq_false_iff, Bool.and_eq_true, Bool.and_eq_false_imp, Bool.not_eq_true', Bool.not_eq_false'] at hc1
    refine AW.regR rfl (by simp (maxSteps := 1000000) only [go_sem, List.length_map] <;> exact rfl) (by first | (simp (disch := omega) only [go_sem, w64, wU, List.length_map] <;> exact rfl) | exact rfl) ?_
    refine retK.fin rfl (by simp (maxSteps := 1000000) only [go_sem, List.length_map] <;> exact rfl) (by simp (maxSteps := 1000000) only [go_sem, List.length_map] <;> exact rfl) (.of ?_)
    rw [if_neg (by omega)]
  · try simp only [decide_eq_true_eq, decide_eq_false_iff_not, Bool.or_eq_true, Bool.or_eq_false_iff, Bool.and_eq_true, Bool.and_eq_false_imp, Bool.not_eq_true', Bool.not_eq_false'] at hc1
    have hbl : b < (D.length : Int) := by omega
    refine AW.skip ?_
    show AW _ _ _ _ _
    refine AW.seq ?_
    refine AW.regR rfl (by simp (maxSteps := 1000000) only [go_sem, List.length_map, hbl] <;> exact rfl) (by first | (simp (disch := omega) only [go_sem, w64, wU, List.length_map, hbl] <;> exact rfl) | exact rfl) ?_
    refine AW.block ?_
    refine AW.loopVh (α := (Int)) (fun (i : (Int)) => [(6, .pv (.int .i64 i))]) (fun (i : (Int)) => (-1 ≤ i) ∧ (i < (l.length : Int)) ∧ (∀ j : Nat, i < (j : Int) → j < l.length → (l.getD j (0, 0, 0)).1 ≠ b)) (fun (i : (Int)) => (i + 1).toNat) ((l.length : Int) - 1) ?_ ?_ ?_
    · exact ⟨by omega, by omega, fun j hj hk => by omega⟩
    · refine Wk.sub ?_
      simp (maxSteps := 1000000) (disch := omega) only [go_sem, w64, wU, List.length_map, hbl]
    · rintro i hF _ ht
      simp only [updT, go_sem] at ht
      subst ht
      obtain ⟨h1, h2, h3⟩ := hF
      refine AW.seq ?_
      refine AW.regR rfl (by simp (maxSteps := 1000000) only [go_sem, List.length_map, hbl] <;> exact rfl) (by first | (simp (disch := omega) only [go_sem, w64, wU, List.length_map, hbl] <;> exact rfl) | exact rfl) ?_
      refine AW.cond (by simp (maxSteps := 1000000) only [go_sem, List.length_map, hbl] <;> exact rfl) (fun hc2 => ?_) (fun hc2 => ?_)
      · try simp only [decide_eq_true_eq, decide_eq_false_iff_not, Bool.or_eq_true, Bool.or_eq_false_iff, Bool.and_eq_true, Bool.and_eq_false_imp, Bool.not_eq_true', Bool.not_eq_false'] at hc2
        have hr : (l.map pnR)[i.toNat]? = some [.int .i64 (l.getD i.toNat (0, 0, 0)).1, .int .u64 (l.getD i.toNat (0, 0, 0)).2.1, .int .i64 (l.getD i.toNat (0, 0, 0)).2.2] := pn_at ⟨hc2, h2⟩
        have g1 : 0 ≤ i := hc2
        have g2 : i < (l.length : Int) := h2
        refine AW.skip ?_
        show AW _ _ _ _ _
        refine AW.seq ?_
        refine AW.block ?_
        refine AW.regR rfl (by simp (maxSteps := 1000000) only [go_sem, List.length_map, hbl, hr, g1, g2] <;> exact rfl) (by first | (simp (disch := omega) only [go_sem, w64, wU, List.length_map, hbl, hr, g1, g2] <;> exact rfl) | exact rfl) ?_
        refine AW.cond (by simp (maxSteps := 1000000) only [go_sem, List.length_map, hbl, hr, g1, g2] <;> exact rfl) (fun hc3 => ?_) (fun hc3 => ?_)
        · try simp only [decide_eq_true_eq, decide_eq_false_iff_not, Bool.or_eq_true, Bool.or_eq_false_iff, Bool.and_eq_true, Bool.and_eq_false_imp, Bool.not_eq_true', Bool.not_eq_false'] at hc3
          refine AW.regR rfl (by simp (maxSteps := 1000000) only [go_sem, List.length_map, hbl, hr, g1, g2] <;> exact rfl) (by first | (simp (disch := omega) only [go_sem, w64, wU, List.length_map, hbl, hr, g1, g2] <;> exact rfl) | exact rfl) ?_
          refine retK.fin rfl (by simp (maxSteps := 1000000) only [go_sem, List.length_map, hbl, hr, g1, g2] <;> exact rfl) (by simp (maxSteps := 1000000) only [go_sem, List.length_map, hbl, hr, g1, g2] <;> exact rfl) (.of ?_)
          rw [if_pos hbl, lastW_hit l b _ i.toNat (by omega) (fun j h4 h5 => h3 j (by omega) h5) hc3]
        · try simp only [decide_eq_true_eq, decide_eq_false_iff_not, Bool.or_eq_true, Bool.or_eq_false_iff, Bool.and_eq_true, Bool.and_eq_false_imp, Bool.not_eq_true', Bool.not_eq_false'] at hc3
          refine AW.skip ?_
          show AW _ _ _ _ _
          refine AW.regR1 rfl (by simp (maxSteps := 1000000) only [go_sem, List.length_map, hbl, hr, g1, g2] <;> exact rfl) (by first | (simp (disch := omega) only [go_sem, w64, wU, List.length_map, hbl, hr, g1, g2] <;> exact rfl) | exact rfl) ?_
          refine ⟨(i - 1), ?_, ?_, ?_⟩
          · (try dsimp only); omega
          · exact ⟨by omega, by omega, fun j hj hk => if e : i < (j : Int) then h3 j e hk else by (have hji : j = i.toNat := by omega); subst hji; exact hc3⟩
          · refine Wk.sub ?_
            simp (maxSteps := 1000000) (disch := omega) only [go_sem, w64, wU, List.length_map, hbl, hr, g1, g2]
      · try simp only [decide_eq_true_eq, decide_eq_false_iff_not, Bool.or_eq_true, Bool.or_eq_false_iff, Bool.and_eq_true, Bool.and_eq_false_imp, Bool.not_eq_true', Bool.not_eq_false'] at hc2
        have hb0 : 0 ≤ b := hb
        have hrd : (D.map wdR)[b.toNat]? = some [.int .u64 (D.getD b.toNat 0)] := wd_at ⟨hb, hbl⟩
        refine AW.exit ?_
        show AW _ _ _ _ _
        refine AW.regR rfl (by simp (maxSteps := 1000000) only [go_sem, List.length_map, hbl, hb0, hrd] <;> exact rfl) (by first | (simp (disch := omega) only [go_sem, w64, wU, List.length_map, hbl, hb0, hrd] <;> exact rfl) | exact rfl) ?_
        refine retK.fin rfl (by simp (maxSteps := 1000000) only [go_sem, List.length_map, hbl, hb0, hrd] <;> exact rfl) (by simp (maxSteps := 1000000) only [go_sem, List.length_map, hbl, hb0, hrd] <;> exact rfl) (.of ?_)
        rw [if_pos hbl, lastW_none l b _ (fun j hj => h3 j (by omega) hj), List.getD_eq_getElem?_getD]
theorem c87 (D : List Int) (l : List Pn) (e b v most : Int) (hb : 0 ≤ b) (hs : Sm D l) : PC Try.prog 87 [devV D l e, .int .u64 b, .int .u64 v, .int .i64 most] (.tup [devV D (wrL D l e b v most) e, .int .i64 (wrC D l b most)]) := by
  refine PC.start 39 Try.call87 Try.func87 rfl Try.ntmps87 Try.results87 (by simp only [go_sem]; exact rfl) fun z hz => ?_
  obtain ⟨hs1, hs2⟩ := hs
  refine AW.regR rfl (by simp (maxSteps := 1000000) only [go_sem, List.length_map, Nat.zero_add] <;> exact rfl) (by first | (simp (disch := omega) only [go_sem, w64, wU, List.length_map, Nat.zero_add] <;> exact rfl) | exact rfl) ?_
  refine AW.seq ?_
  refine AW.regR rfl (by simp (maxSteps := 1000000) only [go_sem, List.length_map, Nat.zero_add] <;> exact rfl) (by first | (simp (disch := omega) only [go_sem, w64, wU, List.length_map, Nat.zero_add] <;> exact rfl) | exact rfl) ?_
  refine AW.cond (by simp (maxSteps := 1000000) only [go_sem, List.length_map, Nat.zero_add] <;> exact rfl) (fun hc1 => ?_) (fun hc1 => ?_)
  · try simp only [decide_eq_true_eq, decide_eq_false_iff_not, Bool.or_eq_true, Bool.or_eq_false_iff, Bool.and_eq_true, Bool.and_eq_false_imp, Bool.not_eq_true', Bool.not_eq_false'] at hc1
    refine AW.regR rfl (by simp (maxSteps := 1000000) only [go_sem, List.length_map, Nat.zero_add] <;> exact rfl) (by first | (simp (disch := omega) only [go_sem, w64, wU, List.length_map, Nat.zero_add] <;> exact rfl) | exact rfl) ?_
    refine retK.fin rfl (by simp (maxSteps := 1000000) only [go_sem, List.length_map, Nat.zero_add] <;> exact rfl) (by simp (maxSteps := 1000000) only [go_sem, List.length_map, Nat.zero_add] <;> exact rfl) (.of ?_)
    unfold wrL wrC; rw [if_pos hc1, if_pos hc1]; rfl
  · try simp only [decide_eq_true_eq, decide_eq_false_iff_not, Bool.or_eq_true, Bool.or_eq_false_iff, Bool.and_eq_true, Bool.and_eq_false_imp, Bool.not_eq_true', Bool.not_eq_false'] at hc1
    have hbl : b < (D.length : Int) := by omega
    refine AW.skip ?_
    show AW _ _ _ _ _
    refine AW.seq ?_
    refine AW.regR rfl (by simp (maxSteps := 1000000) only [go_sem, List.length_map, Nat.zero_add, hbl] <;> exact rfl) (by first | (simp (disch := omega) only [go_sem, w64, wU, List.length_map, Nat.zero_add, hbl] <;> exact rfl) | exact rfl) ?_
    refine AW.cond (by simp (maxSteps := 1000000) only [go_sem, List.length_map, Nat.zero_add, hbl] <;> exact rfl) (fun hc2 => ?_) (fun hc2 => ?_)
    · try simp only [decide_eq_true_eq, decide_eq_false_iff_not, Bool.or_eq_true, Bool.or_eq_false_iff, Bool.and_eq_true, Bool.and_eq_false_imp, Bool.not_eq_true', Bool.not_eq_false'] at hc2
      refine AW.regR rfl (by simp (maxSteps := 1000000) only [go_sem, List.length_map, Nat.zero_add, hbl] <;> exact rfl) (by first | (simp (disch := omega) only [go_sem, w64, wU, List.length_map, Nat.zero_add, hbl] <;> exact rfl) | exact rfl) ?_
      refine retK.fin rfl (by simp (maxSteps := 1000000) only [go_sem, List.length_map, Nat.zero_add, hbl] <;> exact rfl) (by simp (maxSteps := 1000000) only [go_sem, List.length_map, Nat.zero_add, hbl] <;> exact rfl) (.of ?_)
      unfold wrL wrC; rw [if_neg hc1, if_neg hc1, if_pos hc2, if_pos hc2]; rfl
    · try simp only [decide_eq_true_eq, decide_eq_false_iff_not, Bool.or_eq_true, Bool.or_eq_false_iff, Bool.and_eq_true, Bool.and_eq_false_imp, Bool.not_eq_true', Bool.not_eq_false'] at hc2
      have hwb : IntKind.i64.wrap b = b := w64 (by omega) (by omega)
      have g1 : ((l.length + 1) * 24 ≤ 140737488355328) = True := eq_true (by omega)
      have g2 : (l.length + 1 ≤ 140737488355328) = True := eq_true (by omega)
      have g3 : (l.length * 24 ≤ 140737488355328) = True := eq_true (by omega)
      have g4 : (l.length ≤ 140737488355328) = True := eq_true (by omega)
      refine AW.skip ?_
      show AW _ _ _ _ _
      refine AW.regR rfl (by simp (maxSteps := 1000000) only [go_sem, List.length_map, Nat.zero_add, hbl, hwb, g1, g2, g3, g4] <;> exact rfl) (by first | (simp (disch := omega) only [go_sem, w64, wU, List.length_map, Nat.zero_add, hbl, hwb, g1, g2, g3, g4] <;> exact rfl) | exact rfl) ?_
      refine AW.regR rfl (by simp (maxSteps := 1000000) only [go_sem, List.length_map, Nat.zero_add, hbl, hwb, g1, g2, g3, g4] <;> exact rfl) (by first | (simp (disch := omega) only [go_sem, w64, wU, List.length_map, Nat.zero_add, hbl, hwb, g1, g2, g3, g4] <;> exact rfl) | exact rfl) ?_
      refine AW.regR rfl (by simp (maxSteps := 1000000) only [go_sem, List.length_map, Nat.zero_add, hbl, hwb, g1, g2, g3, g4] <;> exact rfl) (by first | (simp (disch := omega) only [go_sem, w64, wU, List.length_map, Nat.zero_add, hbl, hwb, g1, g2, g3, g4] <;> exact rfl) | exact rfl) ?_
      refine AW.regR rfl (by simp (maxSteps := 1000000) only [go_sem, List.length_map, Nat.zero_add, hbl, hwb, g1, g2, g3, g4] <;> exact rfl) (by first | (simp (disch := omega) only [go_sem, w64, wU, List.length_map, Nat.zero_add, hbl, hwb, g1, g2, g3, g4] <;> exact rfl) | exact rfl) ?_
      refine retK.fin rfl (by simp (maxSteps := 1000000) only [go_sem, List.length_map, Nat.zero_add, hbl, hwb, g1, g2, g3, g4] <;> exact rfl) (by simp (maxSteps := 1000000) only [go_sem, List.length_map, Nat.zero_add, hbl, hwb, g1, g2, g3, g4] <;> exact rfl) (.of ?_)
      unfold wrL wrC; rw [if_neg hc1, if_neg hc1, if_neg hc2, if_neg hc2, wr_rows]; rfl
theorem c89 (D : List Int) (l : List Pn) (e : Int) (hs : Sm D l) : PC Try.prog 89 [devV D l e] (devV D l (bumpE l e)) := by
  refine PC.start 26 Try.call89 Try.func89 rfl Try.ntmps89 Try.results89 (by simp only [go_sem]; exact rfl) fun z hz => ?_
  obtain ⟨hs1, hs2⟩ := hs
  refine AW.regR rfl (by simp (maxSteps := 1000000) only [go_sem, List.length_map] <;> exact rfl) (by first | (simp (disch := omega) only [go_sem, w64, wU, List.length_map] <;> exact rfl) | exact rfl) ?_
  refine AW.seq ?_
  refine AW.regR rfl (by simp (maxSteps := 1000000) only [go_sem, List.length_map] <;> exact rfl) (by first | (simp (disch := omega) only [go_sem, w64, wU, List.length_map] <;> exact rfl) | exact rfl) ?_
  refine AW.block ?_
  refine AW.loopVh (α := (Int)) (fun (i : (Int)) => [(3, .pv (.int .i64 i))]) (fun (i : (Int)) => (0 ≤ i) ∧ (i ≤ (l.length : Int)) ∧ (∀ j : Nat, (j : Int) < i → (l.getD j (0, 0, 0)).2.2 ≠ e)) (fun (i : (Int)) => ((l.length : Int) - i).toNat) 0 ?_ ?_ ?_
  · exact ⟨by omega, by omega, fun j hj => by omega⟩
  · refine Wk.sub ?_
    simp (maxSteps := 1000000) (disch := omega) only [go_sem, w64, wU, List.length_map]
  · rintro i hF _ ht
    simp only [updT, go_sem] at ht
    subst ht
    obtain ⟨h1, h2, h3⟩ := hF
    refine AW.seq ?_
    refine AW.regR rfl (by simp (maxSteps := 1000000) only [go_sem, List.length_map] <;> exact rfl) (by first | (simp (disch := omega) only [go_sem, w64, wU, List.length_map] <;> exact rfl) | exact rfl) ?_
    refine AW.cond (by simp (maxSteps := 1000000) only [go_sem, List.length_map] <;> exact rfl) (fun hc1 => ?_) (fun hc1 => ?_)
    · try simp only [decide_eq_true_eq, decide_eq_false_iff_not, Bool.or_eq_true, Bool.or_eq_false_iff, Bool.and_eq_true, Bool.and_eq_false_imp, Bool.not_eq_true', Bool.not_eq_false'] at hc1
      have hr : (l.map pnR)[i.toNat]? = some [.int .i64 (l.getD i.toNat (0, 0, 0)).1, .int .u64 (l.getD i.toNat (0, 0, 0)).2.1, .int .i64 (l.getD i.toNat (0, 0, 0)).2.2] := pn_at ⟨h1, hc1⟩
      have g1 : 0 ≤ i := h1
      have g2 : i < (l.length : Int) := hc1
      refine AW.skip ?_
      show AW _ _ _ _ _
      refine AW.seq ?_
      refine AW.block ?_
      refine AW.regDS follows (by kernel_rfl) ?_
      refine ARE.run1 (by simp (maxSteps := 1000000) only [go_sem, List.length_map, hr, g1, g2] <;> exact rfl) ?_
      refine ARE.fin [0, 1, 0, 7, 15, 31, 0, 64, 255] _ (by kernel_rfl) (by simp (maxSteps := 1000000) only [go_sem, List.length_map, hr, g1, g2] <;> exact rfl) (by kernel_rfl) (by first | (simp (disch := omega) only [go_sem, w64, wU, List.length_map, hr, g1, g2] <;> exact rfl) | exact rfl) ?_
      refine AW.cond (by simp (maxSteps := 1000000) only [go_sem, List.length_map, hr, g1, g2] <;> exact rfl) (fun hc2 => ?_) (fun hc2 => ?_)
      · try simp only [decide_eq_true_eq, decide_eq_false_iff_not, Bool.or_eq_true, Bool.or_eq_false_iff, Bool.and_eq_true, Bool.and_eq_false_imp, Bool.not_eq_true', Bool.not_eq_false'] at hc2
        refine AW.regR rfl (by simp (maxSteps := 1000000) only [go_sem, List.length_map, hr, g1, g2] <;> exact rfl) (by first | (simp (disch := omega) only [go_sem, w64, wU, List.length_map, hr, g1, g2] <;> exact rfl) | exact rfl) ?_
        refine AW.regR rfl (by simp (maxSteps := 1000000) only [go_sem, List.length_map, hr, g1, g2] <;> exact rfl) (by first | (simp (disch := omega) only [go_sem, w64, wU, List.length_map, hr, g1, g2] <;> exact rfl) | exact rfl) ?_
        refine retK.fin rfl (by simp (maxSteps := 1000000) only [go_sem, List.length_map, hr, g1, g2] <;> exact rfl) (by simp (maxSteps := 1000000) only [go_sem, List.length_map, hr, g1, g2] <;> exact rfl) (.of ?_)
        rw [bump_hit (k := i.toNat) (by omega) hc2]; rfl
      · try simp only [decide_eq_true_eq, decide_eq_false_iff_not, Bool.or_eq_true, Bool.or_eq_false_iff, Bool.and_eq_true, Bool.and_eq_false_imp, Bool.not_eq_true', Bool.not_eq_false'] at hc2
        refine AW.skip ?_
        show AW _ _ _ _ _
        refine AW.regR1 rfl (by simp (maxSteps := 1000000) only [go_sem, List.length_map, hr, g1, g2] <;> exact rfl) (by first | (simp (disch := omega) only [go_sem, w64, wU, List.length_map, hr, g1, g2] <;> exact rfl) | exact rfl) ?_
        refine ⟨(i + 1), ?_, ?_, ?_⟩
        · (try dsimp only); omega
        · exact ⟨by omega, by omega, fun j hj => if e : (j : Int) < i then h3 j e else by (have hji : j = i.toNat := by omega); subst hji; exact hc2⟩
        · refine Wk.sub ?_
          simp (maxSteps := 1000000) (disch := omega) only [go_sem, w64, wU, List.length_map, hr, g1, g2]
    · try simp only [decide_eq_true_eq, decide_eq_false_iff_not, Bool.or_eq_true, Bool.or_eq_false_iff, Bool.and_eq_true, Bool.and_eq_false_imp, Bool.not_eq_true', Bool.not_eq_false'] at hc1
      refine AW.exit ?_
      show AW _ _ _ _ _
      refine AW.regR rfl (by simp (maxSteps := 1000000) only [go_sem, List.length_map] <;> exact rfl) (by first | (simp (disch := omega) only [go_sem, w64, wU, List.length_map] <;> exact rfl) | exact rfl) ?_
      refine retK.fin rfl (by simp (maxSteps := 1000000) only [go_sem, List.length_map] <;> exact rfl) (by simp (maxSteps := 1000000) only [go_sem, List.length_map] <;> exact rfl) (.of ?_)
      rw [bump_no (fun j hj => h3 j (by omega))]; rfl
end Go.Ab.Try
