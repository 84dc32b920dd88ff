/- Programs as bytes: the program's Put. -/
import Derived.Test.YtalgjggmhhdkkaaDoorImG
import Derived.Test.YtalgjggmhhdkkaaDoorMI
import Derived.Test.YtalgjggmhhdkkaaDoorKE
namespace Go.Ab.Tryd
open Go.Proofs Go.Ab
set_option linter.unusedVariables false
set_option linter.unusedSimpArgs false
set_option linter.unnecessarySimpa false
set_option maxRecDepth 100000
attribute [go_sem] byR
theorem u8t : Tryd.prog.underlying 5 = some (.int .u8) := by kernel_rfl
set_option maxHeartbeats 4000000 in
theorem c12 (p : Pg) (sp : smP p) : PC Tryd.prog 12 [pgV p] (.tup [.str (putS p), .int .i64 (putE p)]) := by
  refine PC.start 108 Tryd.call12 Tryd.func12 rfl Tryd.ntmps12 Tryd.results12 (by simp only [go_sem]; exact rfl) fun z hz => ?_
  have q0 := And.intro @Nat.add_assoc (And.intro @shu0 (And.intro @shu8 (And.intro @shu16 (And.intro @shu24 (And.intro @shu32 (And.intro @shu40 (And.intro @shu48 (And.intro @shu56 (And.intro @wrap_u8' (And.intro @bytes_byR (And.intro @take_byR (And.intro @eight_rows (And.intro @eight_len (And.intro @ins_rows (@ins_len)))))))))))))))
  refine AW.regR rfl (by simp (maxSteps := 1000000) only [go_sem, listQ, appQ, q0] <;> exact rfl) (by first | (simp (disch := omega) only [go_sem, w64, wU, listQ, appQ, q0] <;> exact rfl) | exact rfl) ?_
  refine AW.seq ?_
  refine AW.regS rfl ?_
  refine ARN.run1 (by simp (maxSteps := 1000000) only [go_sem, listQ, appQ, q0] <;> exact rfl) ?_
  refine ARN.pcall (fun hp => c14a p.bl p.ce (p.D.length : Int) (p.c0.length : Int) (p.c1.length : Int) (p.c2.length : Int)) rfl (by simp (maxSteps := 1000000) only [go_sem, listQ, appQ, q0] <;> exact rfl) (by simp only [go_sem]) (by simp (maxSteps := 1000000) only [go_sem, listQ, appQ, q0] <;> exact rfl) ?_
  refine ARN.run1 (by simp (maxSteps := 1000000) only [go_sem, listQ, appQ, q0] <;> exact rfl) ?_
  refine ARN.fin (by first | (simp (disch := omega) only [go_sem, w64, wU, listQ, appQ, q0] <;> exact rfl) | exact rfl) ?_
  refine AW.cond (by simp (maxSteps := 1000000) only [go_sem, listQ, appQ, q0] <;> exact rfl) (fun hc1 => ?_) (fun hc1 => ?_)
  · try simp only [decide_eq_true_eq, decide_eq_false_iff_not, Bool.or_eq_true, Bool.or_eq_false_iff, Bool.and_eq_true, Bool.and_eq_false_imp, Bool.not_eq_true', Bool.not_eq_false'] at hc1
    refine AW.regR rfl (by simp (maxSteps := 1000000) only [go_sem, listQ, appQ, q0] <;> exact rfl) (by first | (simp (disch := omega) only [go_sem, w64, wU, listQ, appQ, q0] <;> exact rfl) | exact rfl) ?_
    refine retK.fin rfl (by simp (maxSteps := 1000000) only [go_sem, listQ, appQ, q0] <;> exact rfl) (by simp (maxSteps := 1000000) only [go_sem, listQ, appQ, q0] <;> exact rfl) (.of ?_)
    have hn : ¬ sizeOk p := fun q => by (have q3 := byt_len.2 q.2.2.1; have q4 := byt_len.2 q.2.2.2.1; have q5 := byt_len.2 q.2.2.2.2.1; have q6 := byt_len.2 q.2.2.2.2.2); simp [q.1, q.2.1, q3, q4, q5, q6] at hc1
    rw [(put_13 hn).1, (put_13 hn).2]
  · try simp only [decide_eq_true_eq, decide_eq_false_iff_not, Bool.or_eq_true, Bool.or_eq_false_iff, Bool.and_eq_true, Bool.and_eq_false_imp, Bool.not_eq_true', Bool.not_eq_false'] at hc1
    refine AW.skip ?_
    show AW _ _ _ _ _
    have hzz : sizeOk p := by exact ⟨hc1.1, hc1.2.1, byt_len.1 hc1.2.2.1, byt_len.1 hc1.2.2.2.1, byt_len.1 hc1.2.2.2.2.1, byt_len.1 hc1.2.2.2.2.2⟩
    have hB : p.bl % 256 = p.bl := Int.emod_eq_of_lt (byt_ok hzz.1).1 (byt_ok hzz.1).2
    have hC : p.ce % 256 = p.ce := Int.emod_eq_of_lt (byt_ok hzz.2.1).1 (byt_ok hzz.2.1).2
    have hDl : (p.D.length : Int) % 256 = p.D.length := by have := hzz.2.2.1; omega
    have h0l : (p.c0.length : Int) % 256 = p.c0.length := by have := hzz.2.2.2.1; omega
    have h1l : (p.c1.length : Int) % 256 = p.c1.length := by have := hzz.2.2.2.2.1; omega
    have h2l : (p.c2.length : Int) % 256 = p.c2.length := by have := hzz.2.2.2.2.2; omega
    have q1 := And.intro q0 (And.intro hB (And.intro hC (And.intro hDl (And.intro h0l (And.intro h1l (h2l))))))
    refine AW.regL ?_
    refine AWL.lit2 (d := 33) rfl rfl rfl (by simp) rfl rfl (by simp (maxSteps := 1000000) only [go_sem, listQ, appQ, q1] <;> exact rfl) u8t (by simp (maxSteps := 1000000) only [go_sem, listQ, appQ, q1] <;> exact rfl) (by decide) (by simp (maxSteps := 1000000) only [go_sem, listQ, appQ, q1] <;> exact rfl) ?_
    refine AWL.runG (by simp (maxSteps := 1000000) only [go_sem, listQ, appQ, q1] <;> exact rfl) ?_
    refine AWL.fin (by first | (simp (disch := omega) only [go_sem, w64, wU, listQ, appQ, q1] <;> exact rfl) | exact rfl) ?_
    refine AW.seq ?_
    refine AW.regR rfl (by simp (maxSteps := 1000000) only [go_sem, listQ, appQ, q1] <;> exact rfl) (by first | (simp (disch := omega) only [go_sem, w64, wU, listQ, appQ, q1] <;> exact rfl) | exact rfl) ?_
    refine AW.block ?_
    refine AW.loopV (α := (List Int) × (Int)) (fun ((L, i) : (List Int) × (Int)) => [(4, .vs 1 0 L.length), (46, .any), (50, .pv (.int .i64 i))]) (fun ((L, i) : (List Int) × (Int)) => [.box [.pv (.int .i64 p.bl), .pv (.int .i64 p.ce), .pv (.lst false 1 (p.D.map wdR)), .pv (.lst false 5 (p.c0.map inR)), .pv (.lst false 5 (p.c1.map inR)), .pv (.lst false 5 (p.c2.map inR))], .vec 1 (L.map byR)]) (fun ((L, i) : (List Int) × (Int)) => (0 ≤ i) ∧ (i ≤ (p.D.length : Int)) ∧ (L = [66, 87, 75, 49, p.bl, p.ce, (p.D.length : Int)] ++ (p.D.take i.toNat).flatMap eightL) ∧ ((L.length : Int) ≤ 7 + 8 * i)) (fun ((L, i) : (List Int) × (Int)) => ((p.D.length : Int) - i).toNat) ([66, 87, 75, 49, p.bl, p.ce, (p.D.length : Int)], 0) ?_ ?_ ?_
    · exact ⟨by omega, by omega, rfl, by simp⟩
    · refine Wk.to [] [0, 1] hz (by decide) ?_ ?_
      · simp (maxSteps := 1000000) (disch := omega) only [go_sem, w64, wU, listQ, appQ, q1]
      · simp (maxSteps := 1000000) (disch := omega) only [go_sem, w64, wU, listQ, appQ, q1]
    · rintro ⟨L, i⟩ hF _ ht _ hh
      simp only [updT, go_sem] at ht hh
      subst ht; subst hh
      obtain ⟨h1, h2, h3, h4⟩ := hF
      refine AW.regR rfl (by simp (maxSteps := 1000000) only [go_sem, listQ, appQ, q1] <;> exact rfl) (by first | (simp (disch := omega) only [go_sem, w64, wU, listQ, appQ, q1] <;> exact rfl) | exact rfl) ?_
      refine AW.seq ?_
      refine AW.cond (by simp (maxSteps := 1000000) only [go_sem, listQ, appQ, q1] <;> exact rfl) (fun hc2 => ?_) (fun hc2 => ?_)
      · try simp only [decide_eq_true_eq, decide_eq_false_iff_not, Bool.or_eq_true, Bool.or_eq_false_iff, Bool.and_eq_true, Bool.and_eq_false_imp, Bool.not_eq_true', Bool.not_eq_false'] at hc2
        have g1 : 0 ≤ i := h1
        have g2 : i < (p.D.length : Int) := hc2
        have hwi : IntKind.i64.wrap (i + 1) = i + 1 := w64 (by omega) (by have := sp.D; omega)
        have hri : (p.D.map wdR)[i.toNat]? = some [.int .u64 (p.D.getD i.toNat 0)] := wd_at ⟨h1, hc2⟩
        have hLb : L.length ≤ 3000 := by have := hzz.2.2.1; omega
        have w1 : (L.length + 1 ≤ 140737488355328) = True := eq_true (by omega)
        have x1 : (L.length ≤ 140737488355327) = True := eq_true (by omega)
        have w2 : (L.length + 2 ≤ 140737488355328) = True := eq_true (by omega)
        have x2 : (L.length ≤ 140737488355326) = True := eq_true (by omega)
        have w3 : (L.length + 3 ≤ 140737488355328) = True := eq_true (by omega)
        have x3 : (L.length ≤ 140737488355325) = True := eq_true (by omega)
        have w4 : (L.length + 4 ≤ 140737488355328) = True := eq_true (by omega)
        have x4 : (L.length ≤ 140737488355324) = True := eq_true (by omega)
        have w5 : (L.length + 5 ≤ 140737488355328) = True := eq_true (by omega)
        have x5 : (L.length ≤ 140737488355323) = True := eq_true (by omega)
        have w6 : (L.length + 6 ≤ 140737488355328) = True := eq_true (by omega)
        have x6 : (L.length ≤ 140737488355322) = True := eq_true (by omega)
        have w7 : (L.length + 7 ≤ 140737488355328) = True := eq_true (by omega)
        have x7 : (L.length ≤ 140737488355321) = True := eq_true (by omega)
        have w8 : (L.length + 8 ≤ 140737488355328) = True := eq_true (by omega)
        have x8 : (L.length ≤ 140737488355320) = True := eq_true (by omega)
        have q2 := And.intro q1 (And.intro g1 (And.intro g2 (And.intro hwi (And.intro hri (And.intro hLb (And.intro w1 (And.intro x1 (And.intro w2 (And.intro x2 (And.intro w3 (And.intro x3 (And.intro w4 (And.intro x4 (And.intro w5 (And.intro x5 (And.intro w6 (And.intro x6 (And.intro w7 (And.intro x7 (And.intro w8 (x8)))))))))))))))))))))
        refine AW.skip ?_
        show AW _ _ _ _ _
        refine AW.seq ?_
        refine AW.block ?_
        refine AW.regR rfl (by simp (maxSteps := 1000000) only [go_sem, listQ, appQ, q2] <;> exact rfl) (by first | (simp (disch := omega) only [go_sem, w64, wU, listQ, appQ, q2] <;> exact rfl) | exact rfl) ?_
        refine AW.regL1 ?_
        refine AWL.runG (by simp (maxSteps := 1000000) only [go_sem, listQ, appQ, q2] <;> exact rfl) ?_
        refine AWL.icall2 rfl (by simp (maxSteps := 1000000) only [go_sem, listQ, appQ, q2] <;> exact rfl) (by simp (maxSteps := 1000000) only [go_sem, listQ, appQ, q2] <;> exact rfl) Tryd.call22 Tryd.func22 rfl Tryd.ntmps22 Tryd.results22 (by simp (maxSteps := 1000000) only [go_sem, listQ, appQ, q2] <;> exact rfl) (by simp (maxSteps := 1000000) only [go_sem, listQ, appQ, q2] <;> exact rfl) (fun z1 hz1 => ?_)
        refine AW.regR rfl (by simp (maxSteps := 1000000) only [go_sem, listQ, appQ, q2] <;> exact rfl) (by first | (simp (disch := omega) only [go_sem, w64, wU, listQ, appQ, q2] <;> exact rfl) | exact rfl) ?_
        refine AW.seq ?_
        refine AW.regR rfl (by simp (maxSteps := 1000000) only [go_sem, listQ, appQ, q2] <;> exact rfl) (by first | (simp (disch := omega) only [go_sem, w64, wU, listQ, appQ, q2] <;> exact rfl) | exact rfl) ?_
        refine AW.block ?_
        refine AW.rounds 9 ?_
        refine ARounds.mk ?_
        refine AW.seq ?_
        refine AW.regR rfl (by simp (maxSteps := 1000000) only [go_sem, listQ, appQ, q2] <;> exact rfl) (by first | (simp (disch := omega) only [go_sem, w64, wU, listQ, appQ, q2] <;> exact rfl) | exact rfl) ?_
        refine AW.condT (by simp (maxSteps := 1000000) only [go_sem, listQ, appQ, q2] <;> exact rfl) ?_
        refine AW.skip ?_
        show AW _ _ _ _ _
        refine AW.seq ?_
        refine AW.block ?_
        refine AW.regR1 rfl (by simp (maxSteps := 1000000) only [go_sem, listQ, appQ, q2] <;> exact rfl) (by first | (simp (disch := omega) only [go_sem, w64, wU, listQ, appQ, q2] <;> exact rfl) | exact rfl) ?_
        show AW _ _ _ _ _
        refine AW.regR1 rfl (by simp (maxSteps := 1000000) only [go_sem, listQ, appQ, q2] <;> exact rfl) (by first | (simp (disch := omega) only [go_sem, w64, wU, listQ, appQ, q2] <;> exact rfl) | exact rfl) ?_
        show ARounds _ _ _ _ _ _
        refine ARounds.mk ?_
        refine AW.seq ?_
        refine AW.regR rfl (by simp (maxSteps := 1000000) only [go_sem, listQ, appQ, q2] <;> exact rfl) (by first | (simp (disch := omega) only [go_sem, w64, wU, listQ, appQ, q2] <;> exact rfl) | exact rfl) ?_
        refine AW.condT (by simp (maxSteps := 1000000) only [go_sem, listQ, appQ, q2] <;> exact rfl) ?_
        refine AW.skip ?_
        show AW _ _ _ _ _
        refine AW.seq ?_
        refine AW.block ?_
        refine AW.regR1 rfl (by simp (maxSteps := 1000000) only [go_sem, listQ, appQ, q2] <;> exact rfl) (by first | (simp (disch := omega) only [go_sem, w64, wU, listQ, appQ, q2] <;> exact rfl) | exact rfl) ?_
        show AW _ _ _ _ _
        refine AW.regR1 rfl (by simp (maxSteps := 1000000) only [go_sem, listQ, appQ, q2] <;> exact rfl) (by first | (simp (disch := omega) only [go_sem, w64, wU, listQ, appQ, q2] <;> exact rfl) | exact rfl) ?_
        show ARounds _ _ _ _ _ _
        refine ARounds.mk ?_
        refine AW.seq ?_
        refine AW.regR rfl (by simp (maxSteps := 1000000) only [go_sem, listQ, appQ, q2] <;> exact rfl) (by first | (simp (disch := omega) only [go_sem, w64, wU, listQ, appQ, q2] <;> exact rfl) | exact rfl) ?_
        refine AW.condT (by simp (maxSteps := 1000000) only [go_sem, listQ, appQ, q2] <;> exact rfl) ?_
        refine AW.skip ?_
        show AW _ _ _ _ _
        refine AW.seq ?_
        refine AW.block ?_
        refine AW.regR1 rfl (by simp (maxSteps := 1000000) only [go_sem, listQ, appQ, q2] <;> exact rfl) (by first | (simp (disch := omega) only [go_sem, w64, wU, listQ, appQ, q2] <;> exact rfl) | exact rfl) ?_
        show AW _ _ _ _ _
        refine AW.regR1 rfl (by simp (maxSteps := 1000000) only [go_sem, listQ, appQ, q2] <;> exact rfl) (by first | (simp (disch := omega) only [go_sem, w64, wU, listQ, appQ, q2] <;> exact rfl) | exact rfl) ?_
        show ARounds _ _ _ _ _ _
        refine ARounds.mk ?_
        refine AW.seq ?_
        refine AW.regR rfl (by simp (maxSteps := 1000000) only [go_sem, listQ, appQ, q2] <;> exact rfl) (by first | (simp (disch := omega) only [go_sem, w64, wU, listQ, appQ, q2] <;> exact rfl) | exact rfl) ?_
        refine AW.condT (by simp (maxSteps := 1000000) only [go_sem, listQ, appQ, q2] <;> exact rfl) ?_
        refine AW.skip ?_
        show AW _ _ _ _ _
        refine AW.seq ?_
        refine AW.block ?_
        refine AW.regR1 rfl (by simp (maxSteps := 1000000) only [go_sem, listQ, appQ, q2] <;> exact rfl) (by first | (simp (disch := omega) only [go_sem, w64, wU, listQ, appQ, q2] <;> exact rfl) | exact rfl) ?_
        show AW _ _ _ _ _
        refine AW.regR1 rfl (by simp (maxSteps := 1000000) only [go_sem, listQ, appQ, q2] <;> exact rfl) (by first | (simp (disch := omega) only [go_sem, w64, wU, listQ, appQ, q2] <;> exact rfl) | exact rfl) ?_
        show ARounds _ _ _ _ _ _
        refine ARounds.mk ?_
        refine AW.seq ?_
        refine AW.regR rfl (by simp (maxSteps := 1000000) only [go_sem, listQ, appQ, q2] <;> exact rfl) (by first | (simp (disch := omega) only [go_sem, w64, wU, listQ, appQ, q2] <;> exact rfl) | exact rfl) ?_
        refine AW.condT (by simp (maxSteps := 1000000) only [go_sem, listQ, appQ, q2] <;> exact rfl) ?_
        refine AW.skip ?_
        show AW _ _ _ _ _
        refine AW.seq ?_
        refine AW.block ?_
        refine AW.regR1 rfl (by simp (maxSteps := 1000000) only [go_sem, listQ, appQ, q2] <;> exact rfl) (by first | (simp (disch := omega) only [go_sem, w64, wU, listQ, appQ, q2] <;> exact rfl) | exact rfl) ?_
        show AW _ _ _ _ _
        refine AW.regR1 rfl (by simp (maxSteps := 1000000) only [go_sem, listQ, appQ, q2] <;> exact rfl) (by first | (simp (disch := omega) only [go_sem, w64, wU, listQ, appQ, q2] <;> exact rfl) | exact rfl) ?_
        show ARounds _ _ _ _ _ _
        refine ARounds.mk ?_
        refine AW.seq ?_
        refine AW.regR rfl (by simp (maxSteps := 1000000) only [go_sem, listQ, appQ, q2] <;> exact rfl) (by first | (simp (disch := omega) only [go_sem, w64, wU, listQ, appQ, q2] <;> exact rfl) | exact rfl) ?_
        refine AW.condT (by simp (maxSteps := 1000000) only [go_sem, listQ, appQ, q2] <;> exact rfl) ?_
        refine AW.skip ?_
        show AW _ _ _ _ _
        refine AW.seq ?_
        refine AW.block ?_
        refine AW.regR1 rfl (by simp (maxSteps := 1000000) only [go_sem, listQ, appQ, q2] <;> exact rfl) (by first | (simp (disch := omega) only [go_sem, w64, wU, listQ, appQ, q2] <;> exact rfl) | exact rfl) ?_
        show AW _ _ _ _ _
        refine AW.regR1 rfl (by simp (maxSteps := 1000000) only [go_sem, listQ, appQ, q2] <;> exact rfl) (by first | (simp (disch := omega) only [go_sem, w64, wU, listQ, appQ, q2] <;> exact rfl) | exact rfl) ?_
        show ARounds _ _ _ _ _ _
        refine ARounds.mk ?_
        refine AW.seq ?_
        refine AW.regR rfl (by simp (maxSteps := 1000000) only [go_sem, listQ, appQ, q2] <;> exact rfl) (by first | (simp (disch := omega) only [go_sem, w64, wU, listQ, appQ, q2] <;> exact rfl) | exact rfl) ?_
        refine AW.condT (by simp (maxSteps := 1000000) only [go_sem, listQ, appQ, q2] <;> exact rfl) ?_
        refine AW.skip ?_
        show AW _ _ _ _ _
        refine AW.seq ?_
        refine AW.block ?_
        refine AW.regR1 rfl (by simp (maxSteps := 1000000) only [go_sem, listQ, appQ, q2] <;> exact rfl) (by first | (simp (disch := omega) only [go_sem, w64, wU, listQ, appQ, q2] <;> exact rfl) | exact rfl) ?_
        show AW _ _ _ _ _
        refine AW.regR1 rfl (by simp (maxSteps := 1000000) only [go_sem, listQ, appQ, q2] <;> exact rfl) (by first | (simp (disch := omega) only [go_sem, w64, wU, listQ, appQ, q2] <;> exact rfl) | exact rfl) ?_
        show ARounds _ _ _ _ _ _
        refine ARounds.mk ?_
        refine AW.seq ?_
        refine AW.regR rfl (by simp (maxSteps := 1000000) only [go_sem, listQ, appQ, q2] <;> exact rfl) (by first | (simp (disch := omega) only [go_sem, w64, wU, listQ, appQ, q2] <;> exact rfl) | exact rfl) ?_
        refine AW.condT (by simp (maxSteps := 1000000) only [go_sem, listQ, appQ, q2] <;> exact rfl) ?_
        refine AW.skip ?_
        show AW _ _ _ _ _
        refine AW.seq ?_
        refine AW.block ?_
        refine AW.regR1 rfl (by simp (maxSteps := 1000000) only [go_sem, listQ, appQ, q2] <;> exact rfl) (by first | (simp (disch := omega) only [go_sem, w64, wU, listQ, appQ, q2] <;> exact rfl) | exact rfl) ?_
        show AW _ _ _ _ _
        refine AW.regR1 rfl (by simp (maxSteps := 1000000) only [go_sem, listQ, appQ, q2] <;> exact rfl) (by first | (simp (disch := omega) only [go_sem, w64, wU, listQ, appQ, q2] <;> exact rfl) | exact rfl) ?_
        show ARounds _ _ _ _ _ _
        refine ARounds.mk ?_
        refine AW.seq ?_
        refine AW.regR rfl (by simp (maxSteps := 1000000) only [go_sem, listQ, appQ, q2] <;> exact rfl) (by first | (simp (disch := omega) only [go_sem, w64, wU, listQ, appQ, q2] <;> exact rfl) | exact rfl) ?_
        refine AW.condF (by simp (maxSteps := 1000000) only [go_sem, listQ, appQ, q2] <;> exact rfl) ?_
        refine AW.exit ?_
        show AW _ _ _ _ _
        refine AW.regR rfl (by simp (maxSteps := 1000000) only [go_sem, listQ, appQ, q2] <;> exact rfl) (by first | (simp (disch := omega) only [go_sem, w64, wU, listQ, appQ, q2] <;> exact rfl) | exact rfl) ?_
        refine icK.finQ rfl (by simp (maxSteps := 1000000) only [go_sem, listQ, appQ, q2] <;> exact rfl) (by simp (maxSteps := 1000000) only [go_sem, listQ, appQ, q2] <;> exact rfl) ?_
        refine AWL.runG (by simp (maxSteps := 1000000) only [go_sem, listQ, appQ, q2] <;> exact rfl) ?_
        refine AWL.fin1 (by first | (simp (disch := omega) only [go_sem, w64, wU, listQ, appQ, q2] <;> exact rfl) | exact rfl) ?_
        show AW _ _ _ _ _
        refine AW.regR1 rfl (by simp (maxSteps := 1000000) only [go_sem, listQ, appQ, q2] <;> exact rfl) (by first | (simp (disch := omega) only [go_sem, w64, wU, listQ, appQ, q2] <;> exact rfl) | exact rfl) ?_
        refine ⟨(L ++ eightL (p.D.getD i.toNat 0), i + 1), ?_, ?_, ?_⟩
        · (try dsimp only); omega
        · exact ⟨by omega, by omega, by rw [h3, flat_next h1 hc2, List.append_assoc], by rw [List.length_append, eight_len]; omega⟩
        · refine Wk.to [] [0, 9] hz (by decide) ?_ ?_
          · simp (maxSteps := 1000000) (disch := omega) only [go_sem, w64, wU, listQ, appQ, q2]
          · simp (maxSteps := 1000000) (disch := omega) only [go_sem, w64, wU, listQ, appQ, q2]
      · try simp only [decide_eq_true_eq, decide_eq_false_iff_not, Bool.or_eq_true, Bool.or_eq_false_iff, Bool.and_eq_true, Bool.and_eq_false_imp, Bool.not_eq_true', Bool.not_eq_false'] at hc2
        have hb0 : L.length ≤ 3000 := by have := hzz.2.2.1; omega
        have w1 : (L.length + 1 ≤ 140737488355328) = True := eq_true (by omega)
        have x1 : (L.length ≤ 140737488355327) = True := eq_true (by omega)
        have q3 := And.intro q1 (And.intro hb0 (And.intro w1 (x1)))
        refine AW.exit ?_
        show AW _ _ _ _ _
        refine AW.seq ?_
        refine AW.regR rfl (by simp (maxSteps := 1000000) only [go_sem, listQ, appQ, q3] <;> exact rfl) (by first | (simp (disch := omega) only [go_sem, w64, wU, listQ, appQ, q3] <;> exact rfl) | exact rfl) ?_
        refine AW.block ?_
        refine AW.rounds 4 ?_
        refine ARounds.mk ?_
        refine AW.regR rfl (by simp (maxSteps := 1000000) only [go_sem, listQ, appQ, q3] <;> exact rfl) (by first | (simp (disch := omega) only [go_sem, w64, wU, listQ, appQ, q3] <;> exact rfl) | exact rfl) ?_
        refine AW.seq ?_
        refine AW.condT (by simp (maxSteps := 1000000) only [go_sem, listQ, appQ, q3] <;> exact rfl) ?_
        refine AW.skip ?_
        show AW _ _ _ _ _
        refine AW.seq ?_
        refine AW.block ?_
        refine AW.regR rfl (by simp (maxSteps := 1000000) only [go_sem, listQ, appQ, q3] <;> exact rfl) (by first | (simp (disch := omega) only [go_sem, w64, wU, listQ, appQ, q3] <;> exact rfl) | exact rfl) ?_
        refine AW.regR rfl (by simp (maxSteps := 1000000) only [go_sem, listQ, appQ, q3] <;> exact rfl) (by first | (simp (disch := omega) only [go_sem, w64, wU, listQ, appQ, q3] <;> exact rfl) | exact rfl) ?_
        refine AW.regR rfl (by simp (maxSteps := 1000000) only [go_sem, listQ, appQ, q3] <;> exact rfl) (by first | (simp (disch := omega) only [go_sem, w64, wU, listQ, appQ, q3] <;> exact rfl) | exact rfl) ?_
        refine AW.block ?_
        refine AW.loopV (α := (List Int) × (Int)) (fun ((M0, j) : (List Int) × (Int)) => [(4, .vs 1 0 M0.length), (63, .any), (68, .any), (71, .pv (.int .i64 j)), (10, .any)]) (fun ((M0, j) : (List Int) × (Int)) => [.box [.pv (.int .i64 p.bl), .pv (.int .i64 p.ce), .pv (.lst false 1 (p.D.map wdR)), .pv (.lst false 5 (p.c0.map inR)), .pv (.lst false 5 (p.c1.map inR)), .pv (.lst false 5 (p.c2.map inR))], .vec 1 (M0.map byR)]) (fun ((M0, j) : (List Int) × (Int)) => (0 ≤ j) ∧ (j ≤ (p.c0.length : Int)) ∧ (okT p.c0 j) ∧ (M0 = L ++ [(p.c0.length : Int)] ++ (p.c0.take j.toNat).flatMap insL) ∧ ((M0.length : Int) ≤ L.length + 1 + 12 * j)) (fun ((M0, j) : (List Int) × (Int)) => ((p.c0.length : Int) - j).toNat) (L ++ [(p.c0.length : Int)], 0) ?_ ?_ ?_
        · exact ⟨by omega, by omega, okT_0 _, by simp, by simp⟩
        · refine Wk.to [] [0, 2] hz (by decide) ?_ ?_
          · simp (maxSteps := 1000000) (disch := omega) only [go_sem, w64, wU, listQ, appQ, q3]
          · simp (maxSteps := 1000000) (disch := omega) only [go_sem, w64, wU, listQ, appQ, q3]
        · rintro ⟨M0, j⟩ hF _ ht _ hh
          simp only [updT, go_sem] at ht hh
          subst ht; subst hh
          obtain ⟨hj1, hj2, hj3, hj4, hj5⟩ := hF
          refine AW.regR rfl (by simp (maxSteps := 1000000) only [go_sem, listQ, appQ, q3] <;> exact rfl) (by first | (simp (disch := omega) only [go_sem, w64, wU, listQ, appQ, q3] <;> exact rfl) | exact rfl) ?_
          refine AW.seq ?_
          refine AW.cond (by simp (maxSteps := 1000000) only [go_sem, listQ, appQ, q3] <;> exact rfl) (fun hc3 => ?_) (fun hc3 => ?_)
          · try simp only [decide_eq_true_eq, decide_eq_false_iff_not, Bool.or_eq_true, Bool.or_eq_false_iff, Bool.and_eq_true, Bool.and_eq_false_imp, Bool.not_eq_true', Bool.not_eq_false'] at hc3
            have g10 : 0 ≤ j := hj1
            have g20 : j < (p.c0.length : Int) := hc3
            have hw0 : IntKind.i64.wrap (j + 1) = j + 1 := w64 (by omega) (by have := hzz.2.2.2.1; omega)
            have hr0 : (p.c0.map inR)[j.toNat]? = some [.int .i64 (p.c0.getD j.toNat i0).1, .int .i64 (p.c0.getD j.toNat i0).2.1, .int .i64 (p.c0.getD j.toNat i0).2.2.1, .int .i64 (p.c0.getD j.toNat i0).2.2.2.1, .int .u64 (p.c0.getD j.toNat i0).2.2.2.2] := in_at ⟨hj1, hc3⟩
            have q4 := And.intro q3 (And.intro g10 (And.intro g20 (And.intro hw0 (hr0))))
            refine AW.skip ?_
            show AW _ _ _ _ _
            refine AW.seq ?_
            refine AW.block ?_
            refine AW.regR rfl (by simp (maxSteps := 1000000) only [go_sem, listQ, appQ, q4] <;> exact rfl) (by first | (simp (disch := omega) only [go_sem, w64, wU, listQ, appQ, q4] <;> exact rfl) | exact rfl) ?_
            refine AW.seq ?_
            refine AW.regS rfl ?_
            refine ARN.run1 (by simp (maxSteps := 1000000) only [go_sem, listQ, appQ, q4] <;> exact rfl) ?_
            refine ARN.pcall (fun hp => c14b (p.c0.getD j.toNat i0).1 (p.c0.getD j.toNat i0).2.1 (p.c0.getD j.toNat i0).2.2.1 (p.c0.getD j.toNat i0).2.2.2.1) rfl (by simp (maxSteps := 1000000) only [go_sem, listQ, appQ, q4] <;> exact rfl) (by simp only [go_sem]) (by simp (maxSteps := 1000000) only [go_sem, listQ, appQ, q4] <;> exact rfl) ?_
            refine ARN.run1 (by simp (maxSteps := 1000000) only [go_sem, listQ, appQ, q4] <;> exact rfl) ?_
            refine ARN.fin (by first | (simp (disch := omega) only [go_sem, w64, wU, listQ, appQ, q4] <;> exact rfl) | exact rfl) ?_
            refine AW.cond (by simp (maxSteps := 1000000) only [go_sem, listQ, appQ, q4] <;> exact rfl) (fun hc4 => ?_) (fun hc4 => ?_)
            · try simp only [decide_eq_true_eq, decide_eq_false_iff_not, Bool.or_eq_true, Bool.or_eq_false_iff, Bool.and_eq_true, Bool.and_eq_false_imp, Bool.not_eq_true', Bool.not_eq_false'] at hc4
              refine AW.regR rfl (by simp (maxSteps := 1000000) only [go_sem, listQ, appQ, q4] <;> exact rfl) (by first | (simp (disch := omega) only [go_sem, w64, wU, listQ, appQ, q4] <;> exact rfl) | exact rfl) ?_
              refine retK.fin rfl (by simp (maxSteps := 1000000) only [go_sem, listQ, appQ, q4] <;> exact rfl) (by simp (maxSteps := 1000000) only [go_sem, listQ, appQ, q4] <;> exact rfl) (.of ?_)
              have hn : ¬ formOk p := fun q => by (have q1 := q.1 _ (getD_mem (d := i0) (j := j.toNat) (by omega))); simp [q1.1, q1.2.1, q1.2.2.1, q1.2.2.2, -List.getD_eq_getElem?_getD] at hc4
              rw [(put_5 hzz hn).1, (put_5 hzz hn).2]
            · try simp only [decide_eq_true_eq, decide_eq_false_iff_not, Bool.or_eq_true, Bool.or_eq_false_iff, Bool.and_eq_true, Bool.and_eq_false_imp, Bool.not_eq_true', Bool.not_eq_false'] at hc4
              have ho0 : okI (p.c0.getD j.toNat i0) := hc4
              have ma0 : (p.c0.getD j.toNat i0).1 % 256 = (p.c0.getD j.toNat i0).1 := Int.emod_eq_of_lt (byt_ok ho0.1).1 (byt_ok ho0.1).2
              have mb0 : (p.c0.getD j.toNat i0).2.1 % 256 = (p.c0.getD j.toNat i0).2.1 := Int.emod_eq_of_lt (byt_ok ho0.2.1).1 (byt_ok ho0.2.1).2
              have mc0 : (p.c0.getD j.toNat i0).2.2.1 % 256 = (p.c0.getD j.toNat i0).2.2.1 := Int.emod_eq_of_lt (byt_ok ho0.2.2.1).1 (byt_ok ho0.2.2.1).2
              have md0 : (p.c0.getD j.toNat i0).2.2.2.1 % 256 = (p.c0.getD j.toNat i0).2.2.2.1 := Int.emod_eq_of_lt (byt_ok ho0.2.2.2).1 (byt_ok ho0.2.2.2).2
              have hb1 : M0.length + 20 ≤ 7000 := by have := hzz.2.2.2.1; omega
              have w1 : (M0.length + 1 ≤ 140737488355328) = True := eq_true (by omega)
              have x1 : (M0.length ≤ 140737488355327) = True := eq_true (by omega)
              have w2 : (M0.length + 2 ≤ 140737488355328) = True := eq_true (by omega)
              have x2 : (M0.length ≤ 140737488355326) = True := eq_true (by omega)
              have w3 : (M0.length + 3 ≤ 140737488355328) = True := eq_true (by omega)
              have x3 : (M0.length ≤ 140737488355325) = True := eq_true (by omega)
              have w4 : (M0.length + 4 ≤ 140737488355328) = True := eq_true (by omega)
              have x4 : (M0.length ≤ 140737488355324) = True := eq_true (by omega)
              have w5 : (M0.length + 5 ≤ 140737488355328) = True := eq_true (by omega)
              have x5 : (M0.length ≤ 140737488355323) = True := eq_true (by omega)
              have w6 : (M0.length + 6 ≤ 140737488355328) = True := eq_true (by omega)
              have x6 : (M0.length ≤ 140737488355322) = True := eq_true (by omega)
              have w7 : (M0.length + 7 ≤ 140737488355328) = True := eq_true (by omega)
              have x7 : (M0.length ≤ 140737488355321) = True := eq_true (by omega)
              have w8 : (M0.length + 8 ≤ 140737488355328) = True := eq_true (by omega)
              have x8 : (M0.length ≤ 140737488355320) = True := eq_true (by omega)
              have w9 : (M0.length + 9 ≤ 140737488355328) = True := eq_true (by omega)
              have x9 : (M0.length ≤ 140737488355319) = True := eq_true (by omega)
              have w10 : (M0.length + 10 ≤ 140737488355328) = True := eq_true (by omega)
              have x10 : (M0.length ≤ 140737488355318) = True := eq_true (by omega)
              have w11 : (M0.length + 11 ≤ 140737488355328) = True := eq_true (by omega)
              have x11 : (M0.length ≤ 140737488355317) = True := eq_true (by omega)
              have w12 : (M0.length + 12 ≤ 140737488355328) = True := eq_true (by omega)
              have x12 : (M0.length ≤ 140737488355316) = True := eq_true (by omega)
              have q5 := And.intro q4 (And.intro ho0 (And.intro ma0 (And.intro mb0 (And.intro mc0 (And.intro md0 (And.intro hb1 (And.intro w1 (And.intro x1 (And.intro w2 (And.intro x2 (And.intro w3 (And.intro x3 (And.intro w4 (And.intro x4 (And.intro w5 (And.intro x5 (And.intro w6 (And.intro x6 (And.intro w7 (And.intro x7 (And.intro w8 (And.intro x8 (And.intro w9 (And.intro x9 (And.intro w10 (And.intro x10 (And.intro w11 (And.intro x11 (And.intro w12 (x12))))))))))))))))))))))))))))))
              refine AW.skip ?_
              show AW _ _ _ _ _
              refine AW.regDC 17 follows (by kernel_rfl) rfl rfl (by kernel_rfl) ?_
              refine ARE.run1 (by simp (maxSteps := 1000000) only [go_sem, listQ, appQ, q5] <;> exact rfl) ?_
              refine ARE.finC [0, 0, 2, 6, 0, 16, 48, 0, 128, 384, 0, 1024, 3072, 8190, 16383, 0, 32768] _ (by kernel_rfl) (by simp (maxSteps := 1000000) only [go_sem, listQ, appQ, q5] <;> exact rfl) (by kernel_rfl) (by first | (simp (disch := omega) only [go_sem, w64, wU, listQ, appQ, q5] <;> exact rfl) | exact rfl) ?_
              refine AWL.icall2 rfl (by simp (maxSteps := 1000000) only [go_sem, listQ, appQ, q5] <;> exact rfl) (by simp (maxSteps := 1000000) only [go_sem, listQ, appQ, q5] <;> exact rfl) Tryd.call22 Tryd.func22 rfl Tryd.ntmps22 Tryd.results22 (by simp (maxSteps := 1000000) only [go_sem, listQ, appQ, q5] <;> exact rfl) (by simp (maxSteps := 1000000) only [go_sem, listQ, appQ, q5] <;> exact rfl) (fun z2 hz2 => ?_)
              refine AW.regR rfl (by simp (maxSteps := 1000000) only [go_sem, listQ, appQ, q5] <;> exact rfl) (by first | (simp (disch := omega) only [go_sem, w64, wU, listQ, appQ, q5] <;> exact rfl) | exact rfl) ?_
              refine AW.seq ?_
              refine AW.regR rfl (by simp (maxSteps := 1000000) only [go_sem, listQ, appQ, q5] <;> exact rfl) (by first | (simp (disch := omega) only [go_sem, w64, wU, listQ, appQ, q5] <;> exact rfl) | exact rfl) ?_
              refine AW.block ?_
              refine AW.rounds 9 ?_
              refine ARounds.mk ?_
              refine AW.seq ?_
              refine AW.regR rfl (by simp (maxSteps := 1000000) only [go_sem, listQ, appQ, q5] <;> exact rfl) (by first | (simp (disch := omega) only [go_sem, w64, wU, listQ, appQ, q5] <;> exact rfl) | exact rfl) ?_
              refine AW.condT (by simp (maxSteps := 1000000) only [go_sem, listQ, appQ, q5] <;> exact rfl) ?_
              refine AW.skip ?_
              show AW _ _ _ _ _
              refine AW.seq ?_
              refine AW.block ?_
              refine AW.regR1 rfl (by simp (maxSteps := 1000000) only [go_sem, listQ, appQ, q5] <;> exact rfl) (by first | (simp (disch := omega) only [go_sem, w64, wU, listQ, appQ, q5] <;> exact rfl) | exact rfl) ?_
              show AW _ _ _ _ _
              refine AW.regR1 rfl (by simp (maxSteps := 1000000) only [go_sem, listQ, appQ, q5] <;> exact rfl) (by first | (simp (disch := omega) only [go_sem, w64, wU, listQ, appQ, q5] <;> exact rfl) | exact rfl) ?_
              show ARounds _ _ _ _ _ _
              refine ARounds.mk ?_
              refine AW.seq ?_
              refine AW.regR rfl (by simp (maxSteps := 1000000) only [go_sem, listQ, appQ, q5] <;> exact rfl) (by first | (simp (disch := omega) only [go_sem, w64, wU, listQ, appQ, q5] <;> exact rfl) | exact rfl) ?_
              refine AW.condT (by simp (maxSteps := 1000000) only [go_sem, listQ, appQ, q5] <;> exact rfl) ?_
              refine AW.skip ?_
              show AW _ _ _ _ _
              refine AW.seq ?_
              refine AW.block ?_
              refine AW.regR1 rfl (by simp (maxSteps := 1000000) only [go_sem, listQ, appQ, q5] <;> exact rfl) (by first | (simp (disch := omega) only [go_sem, w64, wU, listQ, appQ, q5] <;> exact rfl) | exact rfl) ?_
              show AW _ _ _ _ _
              refine AW.regR1 rfl (by simp (maxSteps := 1000000) only [go_sem, listQ, appQ, q5] <;> exact rfl) (by first | (simp (disch := omega) only [go_sem, w64, wU, listQ, appQ, q5] <;> exact rfl) | exact rfl) ?_
              show ARounds _ _ _ _ _ _
              refine ARounds.mk ?_
              refine AW.seq ?_
              refine AW.regR rfl (by simp (maxSteps := 1000000) only [go_sem, listQ, appQ, q5] <;> exact rfl) (by first | (simp (disch := omega) only [go_sem, w64, wU, listQ, appQ, q5] <;> exact rfl) | exact rfl) ?_
              refine AW.condT (by simp (maxSteps := 1000000) only [go_sem, listQ, appQ, q5] <;> exact rfl) ?_
              refine AW.skip ?_
              show AW _ _ _ _ _
              refine AW.seq ?_
              refine AW.block ?_
              refine AW.regR1 rfl (by simp (maxSteps := 1000000) only [go_sem, listQ, appQ, q5] <;> exact rfl) (by first | (simp (disch := omega) only [go_sem, w64, wU, listQ, appQ, q5] <;> exact rfl) | exact rfl) ?_
              show AW _ _ _ _ _
              refine AW.regR1 rfl (by simp (maxSteps := 1000000) only [go_sem, listQ, appQ, q5] <;> exact rfl) (by first | (simp (disch := omega) only [go_sem, w64, wU, listQ, appQ, q5] <;> exact rfl) | exact rfl) ?_
              show ARounds _ _ _ _ _ _
              refine ARounds.mk ?_
              refine AW.seq ?_
              refine AW.regR rfl (by simp (maxSteps := 1000000) only [go_sem, listQ, appQ, q5] <;> exact rfl) (by first | (simp (disch := omega) only [go_sem, w64, wU, listQ, appQ, q5] <;> exact rfl) | exact rfl) ?_
              refine AW.condT (by simp (maxSteps := 1000000) only [go_sem, listQ, appQ, q5] <;> exact rfl) ?_
              refine AW.skip ?_
              show AW _ _ _ _ _
              refine AW.seq ?_
              refine AW.block ?_
              refine AW.regR1 rfl (by simp (maxSteps := 1000000) only [go_sem, listQ, appQ, q5] <;> exact rfl) (by first | (simp (disch := omega) only [go_sem, w64, wU, listQ, appQ, q5] <;> exact rfl) | exact rfl) ?_
              show AW _ _ _ _ _
              refine AW.regR1 rfl (by simp (maxSteps := 1000000) only [go_sem, listQ, appQ, q5] <;> exact rfl) (by first | (simp (disch := omega) only [go_sem, w64, wU, listQ, appQ, q5] <;> exact rfl) | exact rfl) ?_
              show ARounds _ _ _ _ _ _
              refine ARounds.mk ?_
              refine AW.seq ?_
              refine AW.regR rfl (by simp (maxSteps := 1000000) only [go_sem, listQ, appQ, q5] <;> exact rfl) (by first | (simp (disch := omega) only [go_sem, w64, wU, listQ, appQ, q5] <;> exact rfl) | exact rfl) ?_
              refine AW.condT (by simp (maxSteps := 1000000) only [go_sem, listQ, appQ, q5] <;> exact rfl) ?_
              refine AW.skip ?_
              show AW _ _ _ _ _
              refine AW.seq ?_
              refine AW.block ?_
              refine AW.regR1 rfl (by simp (maxSteps := 1000000) only [go_sem, listQ, appQ, q5] <;> exact rfl) (by first | (simp (disch := omega) only [go_sem, w64, wU, listQ, appQ, q5] <;> exact rfl) | exact rfl) ?_
              show AW _ _ _ _ _
              refine AW.regR1 rfl (by simp (maxSteps := 1000000) only [go_sem, listQ, appQ, q5] <;> exact rfl) (by first | (simp (disch := omega) only [go_sem, w64, wU, listQ, appQ, q5] <;> exact rfl) | exact rfl) ?_
              show ARounds _ _ _ _ _ _
              refine ARounds.mk ?_
              refine AW.seq ?_
              refine AW.regR rfl (by simp (maxSteps := 1000000) only [go_sem, listQ, appQ, q5] <;> exact rfl) (by first | (simp (disch := omega) only [go_sem, w64, wU, listQ, appQ, q5] <;> exact rfl) | exact rfl) ?_
              refine AW.condT (by simp (maxSteps := 1000000) only [go_sem, listQ, appQ, q5] <;> exact rfl) ?_
              refine AW.skip ?_
              show AW _ _ _ _ _
              refine AW.seq ?_
              refine AW.block ?_
              refine AW.regR1 rfl (by simp (maxSteps := 1000000) only [go_sem, listQ, appQ, q5] <;> exact rfl) (by first | (simp (disch := omega) only [go_sem, w64, wU, listQ, appQ, q5] <;> exact rfl) | exact rfl) ?_
              show AW _ _ _ _ _
              refine AW.regR1 rfl (by simp (maxSteps := 1000000) only [go_sem, listQ, appQ, q5] <;> exact rfl) (by first | (simp (disch := omega) only [go_sem, w64, wU, listQ, appQ, q5] <;> exact rfl) | exact rfl) ?_
              show ARounds _ _ _ _ _ _
              refine ARounds.mk ?_
              refine AW.seq ?_
              refine AW.regR rfl (by simp (maxSteps := 1000000) only [go_sem, listQ, appQ, q5] <;> exact rfl) (by first | (simp (disch := omega) only [go_sem, w64, wU, listQ, appQ, q5] <;> exact rfl) | exact rfl) ?_
              refine AW.condT (by simp (maxSteps := 1000000) only [go_sem, listQ, appQ, q5] <;> exact rfl) ?_
              refine AW.skip ?_
              show AW _ _ _ _ _
              refine AW.seq ?_
              refine AW.block ?_
              refine AW.regR1 rfl (by simp (maxSteps := 1000000) only [go_sem, listQ, appQ, q5] <;> exact rfl) (by first | (simp (disch := omega) only [go_sem, w64, wU, listQ, appQ, q5] <;> exact rfl) | exact rfl) ?_
              show AW _ _ _ _ _
              refine AW.regR1 rfl (by simp (maxSteps := 1000000) only [go_sem, listQ, appQ, q5] <;> exact rfl) (by first | (simp (disch := omega) only [go_sem, w64, wU, listQ, appQ, q5] <;> exact rfl) | exact rfl) ?_
              show ARounds _ _ _ _ _ _
              refine ARounds.mk ?_
              refine AW.seq ?_
              refine AW.regR rfl (by simp (maxSteps := 1000000) only [go_sem, listQ, appQ, q5] <;> exact rfl) (by first | (simp (disch := omega) only [go_sem, w64, wU, listQ, appQ, q5] <;> exact rfl) | exact rfl) ?_
              refine AW.condT (by simp (maxSteps := 1000000) only [go_sem, listQ, appQ, q5] <;> exact rfl) ?_
              refine AW.skip ?_
              show AW _ _ _ _ _
              refine AW.seq ?_
              refine AW.block ?_
              refine AW.regR1 rfl (by simp (maxSteps := 1000000) only [go_sem, listQ, appQ, q5] <;> exact rfl) (by first | (simp (disch := omega) only [go_sem, w64, wU, listQ, appQ, q5] <;> exact rfl) | exact rfl) ?_
              show AW _ _ _ _ _
              refine AW.regR1 rfl (by simp (maxSteps := 1000000) only [go_sem, listQ, appQ, q5] <;> exact rfl) (by first | (simp (disch := omega) only [go_sem, w64, wU, listQ, appQ, q5] <;> exact rfl) | exact rfl) ?_
              show ARounds _ _ _ _ _ _
              refine ARounds.mk ?_
              refine AW.seq ?_
              refine AW.regR rfl (by simp (maxSteps := 1000000) only [go_sem, listQ, appQ, q5] <;> exact rfl) (by first | (simp (disch := omega) only [go_sem, w64, wU, listQ, appQ, q5] <;> exact rfl) | exact rfl) ?_
              refine AW.condF (by simp (maxSteps := 1000000) only [go_sem, listQ, appQ, q5] <;> exact rfl) ?_
              refine AW.exit ?_
              show AW _ _ _ _ _
              refine AW.regR rfl (by simp (maxSteps := 1000000) only [go_sem, listQ, appQ, q5] <;> exact rfl) (by first | (simp (disch := omega) only [go_sem, w64, wU, listQ, appQ, q5] <;> exact rfl) | exact rfl) ?_
              refine icK.finQ rfl (by simp (maxSteps := 1000000) only [go_sem, listQ, appQ, q5] <;> exact rfl) (by simp (maxSteps := 1000000) only [go_sem, listQ, appQ, q5] <;> exact rfl) ?_
              refine AWL.runG (by simp (maxSteps := 1000000) only [go_sem, listQ, appQ, q5] <;> exact rfl) ?_
              refine AWL.fin1 (by first | (simp (disch := omega) only [go_sem, w64, wU, listQ, appQ, q5] <;> exact rfl) | exact rfl) ?_
              show AW _ _ _ _ _
              refine AW.regR1 rfl (by simp (maxSteps := 1000000) only [go_sem, listQ, appQ, q5] <;> exact rfl) (by first | (simp (disch := omega) only [go_sem, w64, wU, listQ, appQ, q5] <;> exact rfl) | exact rfl) ?_
              refine ⟨(M0 ++ insL (p.c0.getD j.toNat i0), j + 1), ?_, ?_, ?_⟩
              · (try dsimp only); omega
              · exact ⟨by omega, by omega, okT_next hj3 hj1 ho0, by rw [hj4, flat_next (d := i0) hj1 hc3, ← List.append_assoc], by rw [List.length_append, ins_len]; omega⟩
              · refine Wk.to [] [0, 11] hz (by decide) ?_ ?_
                · simp (maxSteps := 1000000) (disch := omega) only [go_sem, w64, wU, listQ, appQ, q5]
                · simp (maxSteps := 1000000) (disch := omega) only [go_sem, w64, wU, listQ, appQ, q5]
          · try simp only [decide_eq_true_eq, decide_eq_false_iff_not, Bool.or_eq_true, Bool.or_eq_false_iff, Bool.and_eq_true, Bool.and_eq_false_imp, Bool.not_eq_true', Bool.not_eq_false'] at hc3
            have hd0 : M0.length ≤ 7000 := by have := hzz.2.2.2.1; omega
            have w1 : (M0.length + 1 ≤ 140737488355328) = True := eq_true (by omega)
            have x1 : (M0.length ≤ 140737488355327) = True := eq_true (by omega)
            have q6 := And.intro q3 (And.intro hd0 (And.intro w1 (x1)))
            refine AW.exit ?_
            show AW _ _ _ _ _
            refine AW.regR1 rfl (by simp (maxSteps := 1000000) only [go_sem, listQ, appQ, q6] <;> exact rfl) (by first | (simp (disch := omega) only [go_sem, w64, wU, listQ, appQ, q6] <;> exact rfl) | exact rfl) ?_
            show ARounds _ _ _ _ _ _
            refine ARounds.mk ?_
            refine AW.regR rfl (by simp (maxSteps := 1000000) only [go_sem, listQ, appQ, q6] <;> exact rfl) (by first | (simp (disch := omega) only [go_sem, w64, wU, listQ, appQ, q6] <;> exact rfl) | exact rfl) ?_
            refine AW.seq ?_
            refine AW.condT (by simp (maxSteps := 1000000) only [go_sem, listQ, appQ, q6] <;> exact rfl) ?_
            refine AW.skip ?_
            show AW _ _ _ _ _
            refine AW.seq ?_
            refine AW.block ?_
            refine AW.regR rfl (by simp (maxSteps := 1000000) only [go_sem, listQ, appQ, q6] <;> exact rfl) (by first | (simp (disch := omega) only [go_sem, w64, wU, listQ, appQ, q6] <;> exact rfl) | exact rfl) ?_
            refine AW.regR rfl (by simp (maxSteps := 1000000) only [go_sem, listQ, appQ, q6] <;> exact rfl) (by first | (simp (disch := omega) only [go_sem, w64, wU, listQ, appQ, q6] <;> exact rfl) | exact rfl) ?_
            refine AW.regR rfl (by simp (maxSteps := 1000000) only [go_sem, listQ, appQ, q6] <;> exact rfl) (by first | (simp (disch := omega) only [go_sem, w64, wU, listQ, appQ, q6] <;> exact rfl) | exact rfl) ?_
            refine AW.block ?_
            refine AW.loopV (α := (List Int) × (Int)) (fun ((M1, k) : (List Int) × (Int)) => [(4, .vs 1 0 M1.length), (63, .any), (68, .any), (71, .pv (.int .i64 k)), (10, .any), (72, .any), (73, .any), (74, .any), (75, .any), (76, .any), (77, .any), (78, .any), (79, .any), (80, .any), (81, .any), (82, .any), (83, .any), (84, .any), (85, .any), (86, .any), (87, .any), (88, .any), (89, .any), (90, .any), (91, .any), (92, .any), (93, .any), (94, .any), (95, .any), (96, .any), (97, .any), (98, .any), (99, .any), (100, .any), (101, .any), (102, .any), (103, .any), (104, .any)]) (fun ((M1, k) : (List Int) × (Int)) => [.box [.pv (.int .i64 p.bl), .pv (.int .i64 p.ce), .pv (.lst false 1 (p.D.map wdR)), .pv (.lst false 5 (p.c0.map inR)), .pv (.lst false 5 (p.c1.map inR)), .pv (.lst false 5 (p.c2.map inR))], .vec 1 (M1.map byR)]) (fun ((M1, k) : (List Int) × (Int)) => (0 ≤ k) ∧ (k ≤ (p.c1.length : Int)) ∧ (okT p.c1 k) ∧ (M1 = M0 ++ [(p.c1.length : Int)] ++ (p.c1.take k.toNat).flatMap insL) ∧ ((M1.length : Int) ≤ M0.length + 1 + 12 * k)) (fun ((M1, k) : (List Int) × (Int)) => ((p.c1.length : Int) - k).toNat) (M0 ++ [(p.c1.length : Int)], 0) ?_ ?_ ?_
            · exact ⟨by omega, by omega, okT_0 _, by simp, by simp⟩
            · refine Wk.to [] [0, 2] hz (by decide) ?_ ?_
              · simp (maxSteps := 1000000) (disch := omega) only [go_sem, w64, wU, listQ, appQ, q6]
              · simp (maxSteps := 1000000) (disch := omega) only [go_sem, w64, wU, listQ, appQ, q6]
            · rintro ⟨M1, k⟩ hF _ ht _ hh
              simp only [updT, go_sem] at ht hh
              subst ht; subst hh
              obtain ⟨hk1, hk2, hk3, hk4, hk5⟩ := hF
              refine AW.regR rfl (by simp (maxSteps := 1000000) only [go_sem, listQ, appQ, q6] <;> exact rfl) (by first | (simp (disch := omega) only [go_sem, w64, wU, listQ, appQ, q6] <;> exact rfl) | exact rfl) ?_
              refine AW.seq ?_
              refine AW.cond (by simp (maxSteps := 1000000) only [go_sem, listQ, appQ, q6] <;> exact rfl) (fun hc5 => ?_) (fun hc5 => ?_)
              · try simp only [decide_eq_true_eq, decide_eq_false_iff_not, Bool.or_eq_true, Bool.or_eq_false_iff, Bool.and_eq_true, Bool.and_eq_false_imp, Bool.not_eq_true', Bool.not_eq_false'] at hc5
                have g11 : 0 ≤ k := hk1
                have g21 : k < (p.c1.length : Int) := hc5
                have hw1 : IntKind.i64.wrap (k + 1) = k + 1 := w64 (by omega) (by have := hzz.2.2.2.2.1; omega)
                have hr1 : (p.c1.map inR)[k.toNat]? = some [.int .i64 (p.c1.getD k.toNat i0).1, .int .i64 (p.c1.getD k.toNat i0).2.1, .int .i64 (p.c1.getD k.toNat i0).2.2.1, .int .i64 (p.c1.getD k.toNat i0).2.2.2.1, .int .u64 (p.c1.getD k.toNat i0).2.2.2.2] := in_at ⟨hk1, hc5⟩
                have q7 := And.intro q6 (And.intro g11 (And.intro g21 (And.intro hw1 (hr1))))
                refine AW.skip ?_
                show AW _ _ _ _ _
                refine AW.seq ?_
                refine AW.block ?_
                refine AW.regR rfl (by simp (maxSteps := 1000000) only [go_sem, listQ, appQ, q7] <;> exact rfl) (by first | (simp (disch := omega) only [go_sem, w64, wU, listQ, appQ, q7] <;> exact rfl) | exact rfl) ?_
                refine AW.seq ?_
                refine AW.regS rfl ?_
                refine ARN.run1 (by simp (maxSteps := 1000000) only [go_sem, listQ, appQ, q7] <;> exact rfl) ?_
                refine ARN.pcall (fun hp => c14b (p.c1.getD k.toNat i0).1 (p.c1.getD k.toNat i0).2.1 (p.c1.getD k.toNat i0).2.2.1 (p.c1.getD k.toNat i0).2.2.2.1) rfl (by simp (maxSteps := 1000000) only [go_sem, listQ, appQ, q7] <;> exact rfl) (by simp only [go_sem]) (by simp (maxSteps := 1000000) only [go_sem, listQ, appQ, q7] <;> exact rfl) ?_
                refine ARN.run1 (by simp (maxSteps := 1000000) only [go_sem, listQ, appQ, q7] <;> exact rfl) ?_
                refine ARN.fin (by first | (simp (disch := omega) only [go_sem, w64, wU, listQ, appQ, q7] <;> exact rfl) | exact rfl) ?_
                refine AW.cond (by simp (maxSteps := 1000000) only [go_sem, listQ, appQ, q7] <;> exact rfl) (fun hc6 => ?_) (fun hc6 => ?_)
                · try simp only [decide_eq_true_eq, decide_eq_false_iff_not, Bool.or_eq_true, Bool.or_eq_false_iff, Bool.and_eq_true, Bool.and_eq_false_imp, Bool.not_eq_true', Bool.not_eq_false'] at hc6
                  refine AW.regR rfl (by simp (maxSteps := 1000000) only [go_sem, listQ, appQ, q7] <;> exact rfl) (by first | (simp (disch := omega) only [go_sem, w64, wU, listQ, appQ, q7] <;> exact rfl) | exact rfl) ?_
                  refine retK.fin rfl (by simp (maxSteps := 1000000) only [go_sem, listQ, appQ, q7] <;> exact rfl) (by simp (maxSteps := 1000000) only [go_sem, listQ, appQ, q7] <;> exact rfl) (.of ?_)
                  have hn : ¬ formOk p := fun q => by (have q1 := q.2.1 _ (getD_mem (d := i0) (j := k.toNat) (by omega))); simp [q1.1, q1.2.1, q1.2.2.1, q1.2.2.2, -List.getD_eq_getElem?_getD] at hc6
                  rw [(put_5 hzz hn).1, (put_5 hzz hn).2]
                · try simp only [decide_eq_true_eq, decide_eq_false_iff_not, Bool.or_eq_true, Bool.or_eq_false_iff, Bool.and_eq_true, Bool.and_eq_false_imp, Bool.not_eq_true', Bool.not_eq_false'] at hc6
                  have ho1 : okI (p.c1.getD k.toNat i0) := hc6
                  have ma1 : (p.c1.getD k.toNat i0).1 % 256 = (p.c1.getD k.toNat i0).1 := Int.emod_eq_of_lt (byt_ok ho1.1).1 (byt_ok ho1.1).2
                  have mb1 : (p.c1.getD k.toNat i0).2.1 % 256 = (p.c1.getD k.toNat i0).2.1 := Int.emod_eq_of_lt (byt_ok ho1.2.1).1 (byt_ok ho1.2.1).2
                  have mc1 : (p.c1.getD k.toNat i0).2.2.1 % 256 = (p.c1.getD k.toNat i0).2.2.1 := Int.emod_eq_of_lt (byt_ok ho1.2.2.1).1 (byt_ok ho1.2.2.1).2
                  have md1 : (p.c1.getD k.toNat i0).2.2.2.1 % 256 = (p.c1.getD k.toNat i0).2.2.2.1 := Int.emod_eq_of_lt (byt_ok ho1.2.2.2).1 (byt_ok ho1.2.2.2).2
                  have hb2 : M1.length + 20 ≤ 10000 := by have := hzz.2.2.2.2.1; omega
                  have w1 : (M1.length + 1 ≤ 140737488355328) = True := eq_true (by omega)
                  have x1 : (M1.length ≤ 140737488355327) = True := eq_true (by omega)
                  have w2 : (M1.length + 2 ≤ 140737488355328) = True := eq_true (by omega)
                  have x2 : (M1.length ≤ 140737488355326) = True := eq_true (by omega)
                  have w3 : (M1.length + 3 ≤ 140737488355328) = True := eq_true (by omega)
                  have x3 : (M1.length ≤ 140737488355325) = True := eq_true (by omega)
                  have w4 : (M1.length + 4 ≤ 140737488355328) = True := eq_true (by omega)
                  have x4 : (M1.length ≤ 140737488355324) = True := eq_true (by omega)
                  have w5 : (M1.length + 5 ≤ 140737488355328) = True := eq_true (by omega)
                  have x5 : (M1.length ≤ 140737488355323) = True := eq_true (by omega)
                  have w6 : (M1.length + 6 ≤ 140737488355328) = True := eq_true (by omega)
                  have x6 : (M1.length ≤ 140737488355322) = True := eq_true (by omega)
                  have w7 : (M1.length + 7 ≤ 140737488355328) = True := eq_true (by omega)
                  have x7 : (M1.length ≤ 140737488355321) = True := eq_true (by omega)
                  have w8 : (M1.length + 8 ≤ 140737488355328) = True := eq_true (by omega)
                  have x8 : (M1.length ≤ 140737488355320) = True := eq_true (by omega)
                  have w9 : (M1.length + 9 ≤ 140737488355328) = True := eq_true (by omega)
                  have x9 : (M1.length ≤ 140737488355319) = True := eq_true (by omega)
                  have w10 : (M1.length + 10 ≤ 140737488355328) = True := eq_true (by omega)
                  have x10 : (M1.length ≤ 140737488355318) = True := eq_true (by omega)
                  have w11 : (M1.length + 11 ≤ 140737488355328) = True := eq_true (by omega)
                  have x11 : (M1.length ≤ 140737488355317) = True := eq_true (by omega)
                  have w12 : (M1.length + 12 ≤ 140737488355328) = True := eq_true (by omega)
                  have x12 : (M1.length ≤ 140737488355316) = True := eq_true (by omega)
                  have q8 := And.intro q7 (And.intro ho1 (And.intro ma1 (And.intro mb1 (And.intro mc1 (And.intro md1 (And.intro hb2 (And.intro w1 (And.intro x1 (And.intro w2 (And.intro x2 (And.intro w3 (And.intro x3 (And.intro w4 (And.intro x4 (And.intro w5 (And.intro x5 (And.intro w6 (And.intro x6 (And.intro w7 (And.intro x7 (And.intro w8 (And.intro x8 (And.intro w9 (And.intro x9 (And.intro w10 (And.intro x10 (And.intro w11 (And.intro x11 (And.intro w12 (x12))))))))))))))))))))))))))))))
                  refine AW.skip ?_
                  show AW _ _ _ _ _
                  refine AW.regDC 17 follows (by kernel_rfl) rfl rfl (by kernel_rfl) ?_
                  refine ARE.run1 (by simp (maxSteps := 1000000) only [go_sem, listQ, appQ, q8] <;> exact rfl) ?_
                  refine ARE.finC [0, 0, 2, 6, 0, 16, 48, 0, 128, 384, 0, 1024, 3072, 8190, 16383, 0, 32768] _ (by kernel_rfl) (by simp (maxSteps := 1000000) only [go_sem, listQ, appQ, q8] <;> exact rfl) (by kernel_rfl) (by first | (simp (disch := omega) only [go_sem, w64, wU, listQ, appQ, q8] <;> exact rfl) | exact rfl) ?_
                  refine AWL.icall2 rfl (by simp (maxSteps := 1000000) only [go_sem, listQ, appQ, q8] <;> exact rfl) (by simp (maxSteps := 1000000) only [go_sem, listQ, appQ, q8] <;> exact rfl) Tryd.call22 Tryd.func22 rfl Tryd.ntmps22 Tryd.results22 (by simp (maxSteps := 1000000) only [go_sem, listQ, appQ, q8] <;> exact rfl) (by simp (maxSteps := 1000000) only [go_sem, listQ, appQ, q8] <;> exact rfl) (fun z3 hz3 => ?_)
                  refine AW.regR rfl (by simp (maxSteps := 1000000) only [go_sem, listQ, appQ, q8] <;> exact rfl) (by first | (simp (disch := omega) only [go_sem, w64, wU, listQ, appQ, q8] <;> exact rfl) | exact rfl) ?_
                  refine AW.seq ?_
                  refine AW.regR rfl (by simp (maxSteps := 1000000) only [go_sem, listQ, appQ, q8] <;> exact rfl) (by first | (simp (disch := omega) only [go_sem, w64, wU, listQ, appQ, q8] <;> exact rfl) | exact rfl) ?_
                  refine AW.block ?_
                  refine AW.rounds 9 ?_
                  refine ARounds.mk ?_
                  refine AW.seq ?_
                  refine AW.regR rfl (by simp (maxSteps := 1000000) only [go_sem, listQ, appQ, q8] <;> exact rfl) (by first | (simp (disch := omega) only [go_sem, w64, wU, listQ, appQ, q8] <;> exact rfl) | exact rfl) ?_
                  refine AW.condT (by simp (maxSteps := 1000000) only [go_sem, listQ, appQ, q8] <;> exact rfl) ?_
                  refine AW.skip ?_
                  show AW _ _ _ _ _
                  refine AW.seq ?_
                  refine AW.block ?_
                  refine AW.regR1 rfl (by simp (maxSteps := 1000000) only [go_sem, listQ, appQ, q8] <;> exact rfl) (by first | (simp (disch := omega) only [go_sem, w64, wU, listQ, appQ, q8] <;> exact rfl) | exact rfl) ?_
                  show AW _ _ _ _ _
                  refine AW.regR1 rfl (by simp (maxSteps := 1000000) only [go_sem, listQ, appQ, q8] <;> exact rfl) (by first | (simp (disch := omega) only [go_sem, w64, wU, listQ, appQ, q8] <;> exact rfl) | exact rfl) ?_
                  show ARounds _ _ _ _ _ _
                  refine ARounds.mk ?_
                  refine AW.seq ?_
                  refine AW.regR rfl (by simp (maxSteps := 1000000) only [go_sem, listQ, appQ, q8] <;> exact rfl) (by first | (simp (disch := omega) only [go_sem, w64, wU, listQ, appQ, q8] <;> exact rfl) | exact rfl) ?_
                  refine AW.condT (by simp (maxSteps := 1000000) only [go_sem, listQ, appQ, q8] <;> exact rfl) ?_
                  refine AW.skip ?_
                  show AW _ _ _ _ _
                  refine AW.seq ?_
                  refine AW.block ?_
                  refine AW.regR1 rfl (by simp (maxSteps := 1000000) only [go_sem, listQ, appQ, q8] <;> exact rfl) (by first | (simp (disch := omega) only [go_sem, w64, wU, listQ, appQ, q8] <;> exact rfl) | exact rfl) ?_
                  show AW _ _ _ _ _
                  refine AW.regR1 rfl (by simp (maxSteps := 1000000) only [go_sem, listQ, appQ, q8] <;> exact rfl) (by first | (simp (disch := omega) only [go_sem, w64, wU, listQ, appQ, q8] <;> exact rfl) | exact rfl) ?_
                  show ARounds _ _ _ _ _ _
                  refine ARounds.mk ?_
                  refine AW.seq ?_
                  refine AW.regR rfl (by simp (maxSteps := 1000000) only [go_sem, listQ, appQ, q8] <;> exact rfl) (by first | (simp (disch := omega) only [go_sem, w64, wU, listQ, appQ, q8] <;> exact rfl) | exact rfl) ?_
                  refine AW.condT (by simp (maxSteps := 1000000) only [go_sem, listQ, appQ, q8] <;> exact rfl) ?_
                  refine AW.skip ?_
                  show AW _ _ _ _ _
                  refine AW.seq ?_
                  refine AW.block ?_
                  refine AW.regR1 rfl (by simp (maxSteps := 1000000) only [go_sem, listQ, appQ, q8] <;> exact rfl) (by first | (simp (disch := omega) only [go_sem, w64, wU, listQ, appQ, q8] <;> exact rfl) | exact rfl) ?_
                  show AW _ _ _ _ _
                  refine AW.regR1 rfl (by simp (maxSteps := 1000000) only [go_sem, listQ, appQ, q8] <;> exact rfl) (by first | (simp (disch := omega) only [go_sem, w64, wU, listQ, appQ, q8] <;> exact rfl) | exact rfl) ?_
                  show ARounds _ _ _ _ _ _
                  refine ARounds.mk ?_
                  refine AW.seq ?_
                  refine AW.regR rfl (by simp (maxSteps := 1000000) only [go_sem, listQ, appQ, q8] <;> exact rfl) (by first | (simp (disch := omega) only [go_sem, w64, wU, listQ, appQ, q8] <;> exact rfl) | exact rfl) ?_
                  refine AW.condT (by simp (maxSteps := 1000000) only [go_sem, listQ, appQ, q8] <;> exact rfl) ?_
                  refine AW.skip ?_
                  show AW _ _ _ _ _
                  refine AW.seq ?_
                  refine AW.block ?_
                  refine AW.regR1 rfl (by simp (maxSteps := 1000000) only [go_sem, listQ, appQ, q8] <;> exact rfl) (by first | (simp (disch := omega) only [go_sem, w64, wU, listQ, appQ, q8] <;> exact rfl) | exact rfl) ?_
                  show AW _ _ _ _ _
                  refine AW.regR1 rfl (by simp (maxSteps := 1000000) only [go_sem, listQ, appQ, q8] <;> exact rfl) (by first | (simp (disch := omega) only [go_sem, w64, wU, listQ, appQ, q8] <;> exact rfl) | exact rfl) ?_
                  show ARounds _ _ _ _ _ _
                  refine ARounds.mk ?_
                  refine AW.seq ?_
                  refine AW.regR rfl (by simp (maxSteps := 1000000) only [go_sem, listQ, appQ, q8] <;> exact rfl) (by first | (simp (disch := omega) only [go_sem, w64, wU, listQ, appQ, q8] <;> exact rfl) | exact rfl) ?_
                  refine AW.condT (by simp (maxSteps := 1000000) only [go_sem, listQ, appQ, q8] <;> exact rfl) ?_
                  refine AW.skip ?_
                  show AW _ _ _ _ _
                  refine AW.seq ?_
                  refine AW.block ?_
                  refine AW.regR1 rfl (by simp (maxSteps := 1000000) only [go_sem, listQ, appQ, q8] <;> exact rfl) (by first | (simp (disch := omega) only [go_sem, w64, wU, listQ, appQ, q8] <;> exact rfl) | exact rfl) ?_
                  show AW _ _ _ _ _
                  refine AW.regR1 rfl (by simp (maxSteps := 1000000) only [go_sem, listQ, appQ, q8] <;> exact rfl) (by first | (simp (disch := omega) only [go_sem, w64, wU, listQ, appQ, q8] <;> exact rfl) | exact rfl) ?_
                  show ARounds _ _ _ _ _ _
                  refine ARounds.mk ?_
                  refine AW.seq ?_
                  refine AW.regR rfl (by simp (maxSteps := 1000000) only [go_sem, listQ, appQ, q8] <;> exact rfl) (by first | (simp (disch := omega) only [go_sem, w64, wU, listQ, appQ, q8] <;> exact rfl) | exact rfl) ?_
                  refine AW.condT (by simp (maxSteps := 1000000) only [go_sem, listQ, appQ, q8] <;> exact rfl) ?_
                  refine AW.skip ?_
                  show AW _ _ _ _ _
                  refine AW.seq ?_
                  refine AW.block ?_
                  refine AW.regR1 rfl (by simp (maxSteps := 1000000) only [go_sem, listQ, appQ, q8] <;> exact rfl) (by first | (simp (disch := omega) only [go_sem, w64, wU, listQ, appQ, q8] <;> exact rfl) | exact rfl) ?_
                  show AW _ _ _ _ _
                  refine AW.regR1 rfl (by simp (maxSteps := 1000000) only [go_sem, listQ, appQ, q8] <;> exact rfl) (by first | (simp (disch := omega) only [go_sem, w64, wU, listQ, appQ, q8] <;> exact rfl) | exact rfl) ?_
                  show ARounds _ _ _ _ _ _
                  refine ARounds.mk ?_
                  refine AW.seq ?_
                  refine AW.regR rfl (by simp (maxSteps := 1000000) only [go_sem, listQ, appQ, q8] <;> exact rfl) (by first | (simp (disch := omega) only [go_sem, w64, wU, listQ, appQ, q8] <;> exact rfl) | exact rfl) ?_
                  refine AW.condT (by simp (maxSteps := 1000000) only [go_sem, listQ, appQ, q8] <;> exact rfl) ?_
                  refine AW.skip ?_
                  show AW _ _ _ _ _
                  refine AW.seq ?_
                  refine AW.block ?_
                  refine AW.regR1 rfl (by simp (maxSteps := 1000000) only [go_sem, listQ, appQ, q8] <;> exact rfl) (by first | (simp (disch := omega) only [go_sem, w64, wU, listQ, appQ, q8] <;> exact rfl) | exact rfl) ?_
                  show AW _ _ _ _ _
                  refine AW.regR1 rfl (by simp (maxSteps := 1000000) only [go_sem, listQ, appQ, q8] <;> exact rfl) (by first | (simp (disch := omega) only [go_sem, w64, wU, listQ, appQ, q8] <;> exact rfl) | exact rfl) ?_
                  show ARounds _ _ _ _ _ _
                  refine ARounds.mk ?_
                  refine AW.seq ?_
                  refine AW.regR rfl (by simp (maxSteps := 1000000) only [go_sem, listQ, appQ, q8] <;> exact rfl) (by first | (simp (disch := omega) only [go_sem, w64, wU, listQ, appQ, q8] <;> exact rfl) | exact rfl) ?_
                  refine AW.condT (by simp (maxSteps := 1000000) only [go_sem, listQ, appQ, q8] <;> exact rfl) ?_
                  refine AW.skip ?_
                  show AW _ _ _ _ _
                  refine AW.seq ?_
                  refine AW.block ?_
                  refine AW.regR1 rfl (by simp (maxSteps := 1000000) only [go_sem, listQ, appQ, q8] <;> exact rfl) (by first | (simp (disch := omega) only [go_sem, w64, wU, listQ, appQ, q8] <;> exact rfl) | exact rfl) ?_
                  show AW _ _ _ _ _
                  refine AW.regR1 rfl (by simp (maxSteps := 1000000) only [go_sem, listQ, appQ, q8] <;> exact rfl) (by first | (simp (disch := omega) only [go_sem, w64, wU, listQ, appQ, q8] <;> exact rfl) | exact rfl) ?_
                  show ARounds _ _ _ _ _ _
                  refine ARounds.mk ?_
                  refine AW.seq ?_
                  refine AW.regR rfl (by simp (maxSteps := 1000000) only [go_sem, listQ, appQ, q8] <;> exact rfl) (by first | (simp (disch := omega) only [go_sem, w64, wU, listQ, appQ, q8] <;> exact rfl) | exact rfl) ?_
                  refine AW.condF (by simp (maxSteps := 1000000) only [go_sem, listQ, appQ, q8] <;> exact rfl) ?_
                  refine AW.exit ?_
                  show AW _ _ _ _ _
                  refine AW.regR rfl (by simp (maxSteps := 1000000) only [go_sem, listQ, appQ, q8] <;> exact rfl) (by first | (simp (disch := omega) only [go_sem, w64, wU, listQ, appQ, q8] <;> exact rfl) | exact rfl) ?_
                  refine icK.finQ rfl (by simp (maxSteps := 1000000) only [go_sem, listQ, appQ, q8] <;> exact rfl) (by simp (maxSteps := 1000000) only [go_sem, listQ, appQ, q8] <;> exact rfl) ?_
                  refine AWL.runG (by simp (maxSteps := 1000000) only [go_sem, listQ, appQ, q8] <;> exact rfl) ?_
                  refine AWL.fin1 (by first | (simp (disch := omega) only [go_sem, w64, wU, listQ, appQ, q8] <;> exact rfl) | exact rfl) ?_
                  show AW _ _ _ _ _
                  refine AW.regR1 rfl (by simp (maxSteps := 1000000) only [go_sem, listQ, appQ, q8] <;> exact rfl) (by first | (simp (disch := omega) only [go_sem, w64, wU, listQ, appQ, q8] <;> exact rfl) | exact rfl) ?_
                  refine ⟨(M1 ++ insL (p.c1.getD k.toNat i0), k + 1), ?_, ?_, ?_⟩
                  · (try dsimp only); omega
                  · exact ⟨by omega, by omega, okT_next hk3 hk1 ho1, by rw [hk4, flat_next (d := i0) hk1 hc5, ← List.append_assoc], by rw [List.length_append, ins_len]; omega⟩
                  · refine Wk.to [] [0, 11] hz (by decide) ?_ ?_
                    · simp (maxSteps := 1000000) (disch := omega) only [go_sem, w64, wU, listQ, appQ, q8]
                    · simp (maxSteps := 1000000) (disch := omega) only [go_sem, w64, wU, listQ, appQ, q8]
              · try simp only [decide_eq_true_eq, decide_eq_false_iff_not, Bool.or_eq_true, Bool.or_eq_false_iff, Bool.and_eq_true, Bool.and_eq_false_imp, Bool.not_eq_true', Bool.not_eq_false'] at hc5
                have hd1 : M1.length ≤ 10000 := by have := hzz.2.2.2.2.1; omega
                have w1 : (M1.length + 1 ≤ 140737488355328) = True := eq_true (by omega)
                have x1 : (M1.length ≤ 140737488355327) = True := eq_true (by omega)
                have q9 := And.intro q6 (And.intro hd1 (And.intro w1 (x1)))
                refine AW.exit ?_
                show AW _ _ _ _ _
                refine AW.regR1 rfl (by simp (maxSteps := 1000000) only [go_sem, listQ, appQ, q9] <;> exact rfl) (by first | (simp (disch := omega) only [go_sem, w64, wU, listQ, appQ, q9] <;> exact rfl) | exact rfl) ?_
                show ARounds _ _ _ _ _ _
                refine ARounds.mk ?_
                refine AW.regR rfl (by simp (maxSteps := 1000000) only [go_sem, listQ, appQ, q9] <;> exact rfl) (by first | (simp (disch := omega) only [go_sem, w64, wU, listQ, appQ, q9] <;> exact rfl) | exact rfl) ?_
                refine AW.seq ?_
                refine AW.condT (by simp (maxSteps := 1000000) only [go_sem, listQ, appQ, q9] <;> exact rfl) ?_
                refine AW.skip ?_
                show AW _ _ _ _ _
                refine AW.seq ?_
                refine AW.block ?_
                refine AW.regR rfl (by simp (maxSteps := 1000000) only [go_sem, listQ, appQ, q9] <;> exact rfl) (by first | (simp (disch := omega) only [go_sem, w64, wU, listQ, appQ, q9] <;> exact rfl) | exact rfl) ?_
                refine AW.regR rfl (by simp (maxSteps := 1000000) only [go_sem, listQ, appQ, q9] <;> exact rfl) (by first | (simp (disch := omega) only [go_sem, w64, wU, listQ, appQ, q9] <;> exact rfl) | exact rfl) ?_
                refine AW.regR rfl (by simp (maxSteps := 1000000) only [go_sem, listQ, appQ, q9] <;> exact rfl) (by first | (simp (disch := omega) only [go_sem, w64, wU, listQ, appQ, q9] <;> exact rfl) | exact rfl) ?_
                refine AW.block ?_
                refine AW.loopV (α := (List Int) × (Int)) (fun ((M2, m) : (List Int) × (Int)) => [(4, .vs 1 0 M2.length), (63, .any), (68, .any), (71, .pv (.int .i64 m)), (10, .any), (72, .any), (73, .any), (74, .any), (75, .any), (76, .any), (77, .any), (78, .any), (79, .any), (80, .any), (81, .any), (82, .any), (83, .any), (84, .any), (85, .any), (86, .any), (87, .any), (88, .any), (89, .any), (90, .any), (91, .any), (92, .any), (93, .any), (94, .any), (95, .any), (96, .any), (97, .any), (98, .any), (99, .any), (100, .any), (101, .any), (102, .any), (103, .any), (104, .any)]) (fun ((M2, m) : (List Int) × (Int)) => [.box [.pv (.int .i64 p.bl), .pv (.int .i64 p.ce), .pv (.lst false 1 (p.D.map wdR)), .pv (.lst false 5 (p.c0.map inR)), .pv (.lst false 5 (p.c1.map inR)), .pv (.lst false 5 (p.c2.map inR))], .vec 1 (M2.map byR)]) (fun ((M2, m) : (List Int) × (Int)) => (0 ≤ m) ∧ (m ≤ (p.c2.length : Int)) ∧ (okT p.c2 m) ∧ (M2 = M1 ++ [(p.c2.length : Int)] ++ (p.c2.take m.toNat).flatMap insL) ∧ ((M2.length : Int) ≤ M1.length + 1 + 12 * m)) (fun ((M2, m) : (List Int) × (Int)) => ((p.c2.length : Int) - m).toNat) (M1 ++ [(p.c2.length : Int)], 0) ?_ ?_ ?_
                · exact ⟨by omega, by omega, okT_0 _, by simp, by simp⟩
                · refine Wk.to [] [0, 2] hz (by decide) ?_ ?_
                  · simp (maxSteps := 1000000) (disch := omega) only [go_sem, w64, wU, listQ, appQ, q9]
                  · simp (maxSteps := 1000000) (disch := omega) only [go_sem, w64, wU, listQ, appQ, q9]
                · rintro ⟨M2, m⟩ hF _ ht _ hh
                  simp only [updT, go_sem] at ht hh
                  subst ht; subst hh
                  obtain ⟨hm1, hm2, hm3, hm4, hm5⟩ := hF
                  refine AW.regR rfl (by simp (maxSteps := 1000000) only [go_sem, listQ, appQ, q9] <;> exact rfl) (by first | (simp (disch := omega) only [go_sem, w64, wU, listQ, appQ, q9] <;> exact rfl) | exact rfl) ?_
                  refine AW.seq ?_
                  refine AW.cond (by simp (maxSteps := 1000000) only [go_sem, listQ, appQ, q9] <;> exact rfl) (fun hc7 => ?_) (fun hc7 => ?_)
                  · try simp only [decide_eq_true_eq, decide_eq_false_iff_not, Bool.or_eq_true, Bool.or_eq_false_iff, Bool.and_eq_true, Bool.and_eq_false_imp, Bool.not_eq_true', Bool.not_eq_false'] at hc7
                    have g12 : 0 ≤ m := hm1
                    have g22 : m < (p.c2.length : Int) := hc7
                    have hw2 : IntKind.i64.wrap (m + 1) = m + 1 := w64 (by omega) (by have := hzz.2.2.2.2.2; omega)
                    have hr2 : (p.c2.map inR)[m.toNat]? = some [.int .i64 (p.c2.getD m.toNat i0).1, .int .i64 (p.c2.getD m.toNat i0).2.1, .int .i64 (p.c2.getD m.toNat i0).2.2.1, .int .i64 (p.c2.getD m.toNat i0).2.2.2.1, .int .u64 (p.c2.getD m.toNat i0).2.2.2.2] := in_at ⟨hm1, hc7⟩
                    have q10 := And.intro q9 (And.intro g12 (And.intro g22 (And.intro hw2 (hr2))))
                    refine AW.skip ?_
                    show AW _ _ _ _ _
                    refine AW.seq ?_
                    refine AW.block ?_
                    refine AW.regR rfl (by simp (maxSteps := 1000000) only [go_sem, listQ, appQ, q10] <;> exact rfl) (by first | (simp (disch := omega) only [go_sem, w64, wU, listQ, appQ, q10] <;> exact rfl) | exact rfl) ?_
                    refine AW.seq ?_
                    refine AW.regS rfl ?_
                    refine ARN.run1 (by simp (maxSteps := 1000000) only [go_sem, listQ, appQ, q10] <;> exact rfl) ?_
                    refine ARN.pcall (fun hp => c14b (p.c2.getD m.toNat i0).1 (p.c2.getD m.toNat i0).2.1 (p.c2.getD m.toNat i0).2.2.1 (p.c2.getD m.toNat i0).2.2.2.1) rfl (by simp (maxSteps := 1000000) only [go_sem, listQ, appQ, q10] <;> exact rfl) (by simp only [go_sem]) (by simp (maxSteps := 1000000) only [go_sem, listQ, appQ, q10] <;> exact rfl) ?_
                    refine ARN.run1 (by simp (maxSteps := 1000000) only [go_sem, listQ, appQ, q10] <;> exact rfl) ?_
                    refine ARN.fin (by first | (simp (disch := omega) only [go_sem, w64, wU, listQ, appQ, q10] <;> exact rfl) | exact rfl) ?_
                    refine AW.cond (by simp (maxSteps := 1000000) only [go_sem, listQ, appQ, q10] <;> exact rfl) (fun hc8 => ?_) (fun hc8 => ?_)
                    · try simp only [decide_eq_true_eq, decide_eq_false_iff_not, Bool.or_eq_true, Bool.or_eq_false_iff, Bool.and_eq_true, Bool.and_eq_false_imp, Bool.not_eq_true', Bool.not_eq_false'] at hc8
                      refine AW.regR rfl (by simp (maxSteps := 1000000) only [go_sem, listQ, appQ, q10] <;> exact rfl) (by first | (simp (disch := omega) only [go_sem, w64, wU, listQ, appQ, q10] <;> exact rfl) | exact rfl) ?_
                      refine retK.fin rfl (by simp (maxSteps := 1000000) only [go_sem, listQ, appQ, q10] <;> exact rfl) (by simp (maxSteps := 1000000) only [go_sem, listQ, appQ, q10] <;> exact rfl) (.of ?_)
                      have hn : ¬ formOk p := fun q => by (have q1 := q.2.2 _ (getD_mem (d := i0) (j := m.toNat) (by omega))); simp [q1.1, q1.2.1, q1.2.2.1, q1.2.2.2, -List.getD_eq_getElem?_getD] at hc8
                      rw [(put_5 hzz hn).1, (put_5 hzz hn).2]
                    · try simp only [decide_eq_true_eq, decide_eq_false_iff_not, Bool.or_eq_true, Bool.or_eq_false_iff, Bool.and_eq_true, Bool.and_eq_false_imp, Bool.not_eq_true', Bool.not_eq_false'] at hc8
                      have ho2 : okI (p.c2.getD m.toNat i0) := hc8
                      have ma2 : (p.c2.getD m.toNat i0).1 % 256 = (p.c2.getD m.toNat i0).1 := Int.emod_eq_of_lt (byt_ok ho2.1).1 (byt_ok ho2.1).2
                      have mb2 : (p.c2.getD m.toNat i0).2.1 % 256 = (p.c2.getD m.toNat i0).2.1 := Int.emod_eq_of_lt (byt_ok ho2.2.1).1 (byt_ok ho2.2.1).2
                      have mc2 : (p.c2.getD m.toNat i0).2.2.1 % 256 = (p.c2.getD m.toNat i0).2.2.1 := Int.emod_eq_of_lt (byt_ok ho2.2.2.1).1 (byt_ok ho2.2.2.1).2
                      have md2 : (p.c2.getD m.toNat i0).2.2.2.1 % 256 = (p.c2.getD m.toNat i0).2.2.2.1 := Int.emod_eq_of_lt (byt_ok ho2.2.2.2).1 (byt_ok ho2.2.2.2).2
                      have hb3 : M2.length + 20 ≤ 13000 := by have := hzz.2.2.2.2.2; omega
                      have w1 : (M2.length + 1 ≤ 140737488355328) = True := eq_true (by omega)
                      have x1 : (M2.length ≤ 140737488355327) = True := eq_true (by omega)
                      have w2 : (M2.length + 2 ≤ 140737488355328) = True := eq_true (by omega)
                      have x2 : (M2.length ≤ 140737488355326) = True := eq_true (by omega)
                      have w3 : (M2.length + 3 ≤ 140737488355328) = True := eq_true (by omega)
                      have x3 : (M2.length ≤ 140737488355325) = True := eq_true (by omega)
                      have w4 : (M2.length + 4 ≤ 140737488355328) = True := eq_true (by omega)
                      have x4 : (M2.length ≤ 140737488355324) = True := eq_true (by omega)
                      have w5 : (M2.length + 5 ≤ 140737488355328) = True := eq_true (by omega)
                      have x5 : (M2.length ≤ 140737488355323) = True := eq_true (by omega)
                      have w6 : (M2.length + 6 ≤ 140737488355328) = True := eq_true (by omega)
                      have x6 : (M2.length ≤ 140737488355322) = True := eq_true (by omega)
                      have w7 : (M2.length + 7 ≤ 140737488355328) = True := eq_true (by omega)
                      have x7 : (M2.length ≤ 140737488355321) = True := eq_true (by omega)
                      have w8 : (M2.length + 8 ≤ 140737488355328) = True := eq_true (by omega)
                      have x8 : (M2.length ≤ 140737488355320) = True := eq_true (by omega)
                      have w9 : (M2.length + 9 ≤ 140737488355328) = True := eq_true (by omega)
                      have x9 : (M2.length ≤ 140737488355319) = True := eq_true (by omega)
                      have w10 : (M2.length + 10 ≤ 140737488355328) = True := eq_true (by omega)
                      have x10 : (M2.length ≤ 140737488355318) = True := eq_true (by omega)
                      have w11 : (M2.length + 11 ≤ 140737488355328) = True := eq_true (by omega)
                      have x11 : (M2.length ≤ 140737488355317) = True := eq_true (by omega)
                      have w12 : (M2.length + 12 ≤ 140737488355328) = True := eq_true (by omega)
                      have x12 : (M2.length ≤ 140737488355316) = True := eq_true (by omega)
                      have q11 := And.intro q10 (And.intro ho2 (And.intro ma2 (And.intro mb2 (And.intro mc2 (And.intro md2 (And.intro hb3 (And.intro w1 (And.intro x1 (And.intro w2 (And.intro x2 (And.intro w3 (And.intro x3 (And.intro w4 (And.intro x4 (And.intro w5 (And.intro x5 (And.intro w6 (And.intro x6 (And.intro w7 (And.intro x7 (And.intro w8 (And.intro x8 (And.intro w9 (And.intro x9 (And.intro w10 (And.intro x10 (And.intro w11 (And.intro x11 (And.intro w12 (x12))))))))))))))))))))))))))))))
                      refine AW.skip ?_
                      show AW _ _ _ _ _
                      refine AW.regDC 17 follows (by kernel_rfl) rfl rfl (by kernel_rfl) ?_
                      refine ARE.run1 (by simp (maxSteps := 1000000) only [go_sem, listQ, appQ, q11] <;> exact rfl) ?_
                      refine ARE.finC [0, 0, 2, 6, 0, 16, 48, 0, 128, 384, 0, 1024, 3072, 8190, 16383, 0, 32768] _ (by kernel_rfl) (by simp (maxSteps := 1000000) only [go_sem, listQ, appQ, q11] <;> exact rfl) (by kernel_rfl) (by first | (simp (disch := omega) only [go_sem, w64, wU, listQ, appQ, q11] <;> exact rfl) | exact rfl) ?_
                      refine AWL.icall2 rfl (by simp (maxSteps := 1000000) only [go_sem, listQ, appQ, q11] <;> exact rfl) (by simp (maxSteps := 1000000) only [go_sem, listQ, appQ, q11] <;> exact rfl) Tryd.call22 Tryd.func22 rfl Tryd.ntmps22 Tryd.results22 (by simp (maxSteps := 1000000) only [go_sem, listQ, appQ, q11] <;> exact rfl) (by simp (maxSteps := 1000000) only [go_sem, listQ, appQ, q11] <;> exact rfl) (fun z4 hz4 => ?_)
                      refine AW.regR rfl (by simp (maxSteps := 1000000) only [go_sem, listQ, appQ, q11] <;> exact rfl) (by first | (simp (disch := omega) only [go_sem, w64, wU, listQ, appQ, q11] <;> exact rfl) | exact rfl) ?_
                      refine AW.seq ?_
                      refine AW.regR rfl (by simp (maxSteps := 1000000) only [go_sem, listQ, appQ, q11] <;> exact rfl) (by first | (simp (disch := omega) only [go_sem, w64, wU, listQ, appQ, q11] <;> exact rfl) | exact rfl) ?_
                      refine AW.block ?_
                      refine AW.rounds 9 ?_
                      refine ARounds.mk ?_
                      refine AW.seq ?_
                      refine AW.regR rfl (by simp (maxSteps := 1000000) only [go_sem, listQ, appQ, q11] <;> exact rfl) (by first | (simp (disch := omega) only [go_sem, w64, wU, listQ, appQ, q11] <;> exact rfl) | exact rfl) ?_
                      refine AW.condT (by simp (maxSteps := 1000000) only [go_sem, listQ, appQ, q11] <;> exact rfl) ?_
                      refine AW.skip ?_
                      show AW _ _ _ _ _
                      refine AW.seq ?_
                      refine AW.block ?_
                      refine AW.regR1 rfl (by simp (maxSteps := 1000000) only [go_sem, listQ, appQ, q11] <;> exact rfl) (by first | (simp (disch := omega) only [go_sem, w64, wU, listQ, appQ, q11] <;> exact rfl) | exact rfl) ?_
                      show AW _ _ _ _ _
                      refine AW.regR1 rfl (by simp (maxSteps := 1000000) only [go_sem, listQ, appQ, q11] <;> exact rfl) (by first | (simp (disch := omega) only [go_sem, w64, wU, listQ, appQ, q11] <;> exact rfl) | exact rfl) ?_
                      show ARounds _ _ _ _ _ _
                      refine ARounds.mk ?_
                      refine AW.seq ?_
                      refine AW.regR rfl (by simp (maxSteps := 1000000) only [go_sem, listQ, appQ, q11] <;> exact rfl) (by first | (simp (disch := omega) only [go_sem, w64, wU, listQ, appQ, q11] <;> exact rfl) | exact rfl) ?_
                      refine AW.condT (by simp (maxSteps := 1000000) only [go_sem, listQ, appQ, q11] <;> exact rfl) ?_
                      refine AW.skip ?_
                      show AW _ _ _ _ _
                      refine AW.seq ?_
                      refine AW.block ?_
                      refine AW.regR1 rfl (by simp (maxSteps := 1000000) only [go_sem, listQ, appQ, q11] <;> exact rfl) (by first | (simp (disch := omega) only [go_sem, w64, wU, listQ, appQ, q11] <;> exact rfl) | exact rfl) ?_
                      show AW _ _ _ _ _
                      refine AW.regR1 rfl (by simp (maxSteps := 1000000) only [go_sem, listQ, appQ, q11] <;> exact rfl) (by first | (simp (disch := omega) only [go_sem, w64, wU, listQ, appQ, q11] <;> exact rfl) | exact rfl) ?_
                      show ARounds _ _ _ _ _ _
                      refine ARounds.mk ?_
                      refine AW.seq ?_
                      refine AW.regR rfl (by simp (maxSteps := 1000000) only [go_sem, listQ, appQ, q11] <;> exact rfl) (by first | (simp (disch := omega) only [go_sem, w64, wU, listQ, appQ, q11] <;> exact rfl) | exact rfl) ?_
                      refine AW.condT (by simp (maxSteps := 1000000) only [go_sem, listQ, appQ, q11] <;> exact rfl) ?_
                      refine AW.skip ?_
                      show AW _ _ _ _ _
                      refine AW.seq ?_
                      refine AW.block ?_
                      refine AW.regR1 rfl (by simp (maxSteps := 1000000) only [go_sem, listQ, appQ, q11] <;> exact rfl) (by first | (simp (disch := omega) only [go_sem, w64, wU, listQ, appQ, q11] <;> exact rfl) | exact rfl) ?_
                      show AW _ _ _ _ _
                      refine AW.regR1 rfl (by simp (maxSteps := 1000000) only [go_sem, listQ, appQ, q11] <;> exact rfl) (by first | (simp (disch := omega) only [go_sem, w64, wU, listQ, appQ, q11] <;> exact rfl) | exact rfl) ?_
                      show ARounds _ _ _ _ _ _
                      refine ARounds.mk ?_
                      refine AW.seq ?_
                      refine AW.regR rfl (by simp (maxSteps := 1000000) only [go_sem, listQ, appQ, q11] <;> exact rfl) (by first | (simp (disch := omega) only [go_sem, w64, wU, listQ, appQ, q11] <;> exact rfl) | exact rfl) ?_
                      refine AW.condT (by simp (maxSteps := 1000000) only [go_sem, listQ, appQ, q11] <;> exact rfl) ?_
                      refine AW.skip ?_
                      show AW _ _ _ _ _
                      refine AW.seq ?_
                      refine AW.block ?_
                      refine AW.regR1 rfl (by simp (maxSteps := 1000000) only [go_sem, listQ, appQ, q11] <;> exact rfl) (by first | (simp (disch := omega) only [go_sem, w64, wU, listQ, appQ, q11] <;> exact rfl) | exact rfl) ?_
                      show AW _ _ _ _ _
                      refine AW.regR1 rfl (by simp (maxSteps := 1000000) only [go_sem, listQ, appQ, q11] <;> exact rfl) (by first | (simp (disch := omega) only [go_sem, w64, wU, listQ, appQ, q11] <;> exact rfl) | exact rfl) ?_
                      show ARounds _ _ _ _ _ _
                      refine ARounds.mk ?_
                      refine AW.seq ?_
                      refine AW.regR rfl (by simp (maxSteps := 1000000) only [go_sem, listQ, appQ, q11] <;> exact rfl) (by first | (simp (disch := omega) only [go_sem, w64, wU, listQ, appQ, q11] <;> exact rfl) | exact rfl) ?_
                      refine AW.condT (by simp (maxSteps := 1000000) only [go_sem, listQ, appQ, q11] <;> exact rfl) ?_
                      refine AW.skip ?_
                      show AW _ _ _ _ _
                      refine AW.seq ?_
                      refine AW.block ?_
                      refine AW.regR1 rfl (by simp (maxSteps := 1000000) only [go_sem, listQ, appQ, q11] <;> exact rfl) (by first | (simp (disch := omega) only [go_sem, w64, wU, listQ, appQ, q11] <;> exact rfl) | exact rfl) ?_
                      show AW _ _ _ _ _
                      refine AW.regR1 rfl (by simp (maxSteps := 1000000) only [go_sem, listQ, appQ, q11] <;> exact rfl) (by first | (simp (disch := omega) only [go_sem, w64, wU, listQ, appQ, q11] <;> exact rfl) | exact rfl) ?_
                      show ARounds _ _ _ _ _ _
                      refine ARounds.mk ?_
                      refine AW.seq ?_
                      refine AW.regR rfl (by simp (maxSteps := 1000000) only [go_sem, listQ, appQ, q11] <;> exact rfl) (by first | (simp (disch := omega) only [go_sem, w64, wU, listQ, appQ, q11] <;> exact rfl) | exact rfl) ?_
                      refine AW.condT (by simp (maxSteps := 1000000) only [go_sem, listQ, appQ, q11] <;> exact rfl) ?_
                      refine AW.skip ?_
                      show AW _ _ _ _ _
                      refine AW.seq ?_
                      refine AW.block ?_
                      refine AW.regR1 rfl (by simp (maxSteps := 1000000) only [go_sem, listQ, appQ, q11] <;> exact rfl) (by first | (simp (disch := omega) only [go_sem, w64, wU, listQ, appQ, q11] <;> exact rfl) | exact rfl) ?_
                      show AW _ _ _ _ _
                      refine AW.regR1 rfl (by simp (maxSteps := 1000000) only [go_sem, listQ, appQ, q11] <;> exact rfl) (by first | (simp (disch := omega) only [go_sem, w64, wU, listQ, appQ, q11] <;> exact rfl) | exact rfl) ?_
                      show ARounds _ _ _ _ _ _
                      refine ARounds.mk ?_
                      refine AW.seq ?_
                      refine AW.regR rfl (by simp (maxSteps := 1000000) only [go_sem, listQ, appQ, q11] <;> exact rfl) (by first | (simp (disch := omega) only [go_sem, w64, wU, listQ, appQ, q11] <;> exact rfl) | exact rfl) ?_
                      refine AW.condT (by simp (maxSteps := 1000000) only [go_sem, listQ, appQ, q11] <;> exact rfl) ?_
                      refine AW.skip ?_
                      show AW _ _ _ _ _
                      refine AW.seq ?_
                      refine AW.block ?_
                      refine AW.regR1 rfl (by simp (maxSteps := 1000000) only [go_sem, listQ, appQ, q11] <;> exact rfl) (by first | (simp (disch := omega) only [go_sem, w64, wU, listQ, appQ, q11] <;> exact rfl) | exact rfl) ?_
                      show AW _ _ _ _ _
                      refine AW.regR1 rfl (by simp (maxSteps := 1000000) only [go_sem, listQ, appQ, q11] <;> exact rfl) (by first | (simp (disch := omega) only [go_sem, w64, wU, listQ, appQ, q11] <;> exact rfl) | exact rfl) ?_
                      show ARounds _ _ _ _ _ _
                      refine ARounds.mk ?_
                      refine AW.seq ?_
                      refine AW.regR rfl (by simp (maxSteps := 1000000) only [go_sem, listQ, appQ, q11] <;> exact rfl) (by first | (simp (disch := omega) only [go_sem, w64, wU, listQ, appQ, q11] <;> exact rfl) | exact rfl) ?_
                      refine AW.condT (by simp (maxSteps := 1000000) only [go_sem, listQ, appQ, q11] <;> exact rfl) ?_
                      refine AW.skip ?_
                      show AW _ _ _ _ _
                      refine AW.seq ?_
                      refine AW.block ?_
                      refine AW.regR1 rfl (by simp (maxSteps := 1000000) only [go_sem, listQ, appQ, q11] <;> exact rfl) (by first | (simp (disch := omega) only [go_sem, w64, wU, listQ, appQ, q11] <;> exact rfl) | exact rfl) ?_
                      show AW _ _ _ _ _
                      refine AW.regR1 rfl (by simp (maxSteps := 1000000) only [go_sem, listQ, appQ, q11] <;> exact rfl) (by first | (simp (disch := omega) only [go_sem, w64, wU, listQ, appQ, q11] <;> exact rfl) | exact rfl) ?_
                      show ARounds _ _ _ _ _ _
                      refine ARounds.mk ?_
                      refine AW.seq ?_
                      refine AW.regR rfl (by simp (maxSteps := 1000000) only [go_sem, listQ, appQ, q11] <;> exact rfl) (by first | (simp (disch := omega) only [go_sem, w64, wU, listQ, appQ, q11] <;> exact rfl) | exact rfl) ?_
                      refine AW.condF (by simp (maxSteps := 1000000) only [go_sem, listQ, appQ, q11] <;> exact rfl) ?_
                      refine AW.exit ?_
                      show AW _ _ _ _ _
                      refine AW.regR rfl (by simp (maxSteps := 1000000) only [go_sem, listQ, appQ, q11] <;> exact rfl) (by first | (simp (disch := omega) only [go_sem, w64, wU, listQ, appQ, q11] <;> exact rfl) | exact rfl) ?_
                      refine icK.finQ rfl (by simp (maxSteps := 1000000) only [go_sem, listQ, appQ, q11] <;> exact rfl) (by simp (maxSteps := 1000000) only [go_sem, listQ, appQ, q11] <;> exact rfl) ?_
                      refine AWL.runG (by simp (maxSteps := 1000000) only [go_sem, listQ, appQ, q11] <;> exact rfl) ?_
                      refine AWL.fin1 (by first | (simp (disch := omega) only [go_sem, w64, wU, listQ, appQ, q11] <;> exact rfl) | exact rfl) ?_
                      show AW _ _ _ _ _
                      refine AW.regR1 rfl (by simp (maxSteps := 1000000) only [go_sem, listQ, appQ, q11] <;> exact rfl) (by first | (simp (disch := omega) only [go_sem, w64, wU, listQ, appQ, q11] <;> exact rfl) | exact rfl) ?_
                      refine ⟨(M2 ++ insL (p.c2.getD m.toNat i0), m + 1), ?_, ?_, ?_⟩
                      · (try dsimp only); omega
                      · exact ⟨by omega, by omega, okT_next hm3 hm1 ho2, by rw [hm4, flat_next (d := i0) hm1 hc7, ← List.append_assoc], by rw [List.length_append, ins_len]; omega⟩
                      · refine Wk.to [] [0, 11] hz (by decide) ?_ ?_
                        · simp (maxSteps := 1000000) (disch := omega) only [go_sem, w64, wU, listQ, appQ, q11]
                        · simp (maxSteps := 1000000) (disch := omega) only [go_sem, w64, wU, listQ, appQ, q11]
                  · try simp only [decide_eq_true_eq, decide_eq_false_iff_not, Bool.or_eq_true, Bool.or_eq_false_iff, Bool.and_eq_true, Bool.and_eq_false_imp, Bool.not_eq_true', Bool.not_eq_false'] at hc7
                    have hd2 : M2.length ≤ 13000 := by have := hzz.2.2.2.2.2; omega
                    have w1 : (M2.length + 1 ≤ 140737488355328) = True := eq_true (by omega)
                    have x1 : (M2.length ≤ 140737488355327) = True := eq_true (by omega)
                    have q12 := And.intro q9 (And.intro hd2 (And.intro w1 (x1)))
                    refine AW.exit ?_
                    show AW _ _ _ _ _
                    refine AW.regR1 rfl (by simp (maxSteps := 1000000) only [go_sem, listQ, appQ, q12] <;> exact rfl) (by first | (simp (disch := omega) only [go_sem, w64, wU, listQ, appQ, q12] <;> exact rfl) | exact rfl) ?_
                    show ARounds _ _ _ _ _ _
                    refine ARounds.mk ?_
                    refine AW.regR rfl (by simp (maxSteps := 1000000) only [go_sem, listQ, appQ, q12] <;> exact rfl) (by first | (simp (disch := omega) only [go_sem, w64, wU, listQ, appQ, q12] <;> exact rfl) | exact rfl) ?_
                    refine AW.seq ?_
                    refine AW.condF (by simp (maxSteps := 1000000) only [go_sem, listQ, appQ, q12] <;> exact rfl) ?_
                    refine AW.exit ?_
                    show AW _ _ _ _ _
                    refine AW.regR rfl (by simp (maxSteps := 1000000) only [go_sem, listQ, appQ, q12] <;> exact rfl) (by first | (simp (disch := omega) only [go_sem, w64, wU, listQ, appQ, q12] <;> exact rfl) | exact rfl) ?_
                    refine retK.fin rfl (by simp (maxSteps := 1000000) only [go_sem, listQ, appQ, q12] <;> exact rfl) (by simp (maxSteps := 1000000) only [go_sem, listQ, appQ, q12] <;> exact rfl) (.of ?_)
                    have hf : formOk p := ⟨okT_all hj3 hc3, okT_all hk3 hc5, okT_all hm3 hc7⟩
                    rw [(put_0 hzz hf).1, (put_0 hzz hf).2, put_is, hm4, hk4, hj4, h3, flat_all h2 hc2, flat_all hj2 hc3, flat_all hk2 hc5, flat_all hm2 hc7]
                    simp only [List.append_assoc, List.cons_append, List.nil_append]
end Go.Ab.Tryd
