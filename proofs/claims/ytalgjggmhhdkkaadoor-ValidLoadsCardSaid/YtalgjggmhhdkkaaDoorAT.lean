/- errors.As as a step over the plain state. -/
import Derived.Test.YtalgjggmhhdkkaaDoorAS
import Derived.Test.YtalgjggmhhdkkaaDoorTy
namespace Go.Ab.Tryd
open Go.Proofs Go.Ab Go.RowKit
set_option linter.unusedVariables false
set_option linter.unusedSimpArgs false
set_option linter.unnecessarySimpa false
theorem setx_keep {h : List ABlk} {i : Nat} {b : ABlk} (hi : h[i]? = some b) : setx h i b = h := by
  apply List.ext_getElem?
  intro k
  rw [setx_at]
  split
  · rename_i e; subst e; exact hi.symm
  · rw [if_neg]; rintro ⟨h1, h2⟩; rw [List.getElem?_eq_none (by omega)] at hi; cases hi
section
variable {z : Ini} {ops : Array Oper} {l : List Oper} {Q : Exit → St → Prop} {o : Oper} {t t1 : List AV} {h h1 : List ABlk} {x y : Operand} {tys : Array TypeId} {i : Nat}
theorem as_ptr {c : Cx} {h : List ABlk} {w : World} {i off : Nat} {cs : List AV} {v : Value} (r : ARep c h w (.ptr i off) v) (hi : h[i]? = some (.box cs)) : v = .pointer (some ⟨c.mu i, off, none⟩) := by
  cases r with
  | ptr _ _ _ b _ hib _ hv => rw [hi] at hib; injection hib with hib; exact hv cs hib.symm
theorem as_ifc {c : Cx} {h : List ABlk} {w : World} {i T : Nat} {cs : List AV} {v : Value} (r : ARep c h w (.ifc T (.ptr i 0)) v) (hi : h[i]? = some (.box cs)) : v = .iface T (.pointer (some ⟨c.mu i, 0, none⟩)) ∧ ARep c h w (.ptr i 0) (.pointer (some ⟨c.mu i, 0, none⟩)) := by
  cases r with
  | ifc _ _ u hr => have e := as_ptr hr hi; subst e; exact ⟨rfl, hr⟩
theorem AWL.asNil {cs : List AV} (hw : wantB ops.toList t o.guard = some true) (ho : o.op = .call ⟨.value (.func 14), #[x, y], tys⟩) (hx : evO t x = .pv .nilIfc) (hy : evO t y = .ifc 53 (.ptr i 0)) (hi : h[i]? = some (.box cs))
    (ht : putT t o.dst (.pv (.bool false)) = t1) (k : AWL Tryd.prog z ops l ⟨t1, h⟩ Q) : AWL Tryd.prog z ops (o :: l) ⟨t, h⟩ Q :=
  .op2 hw (r := .pv (.bool false)) (h' := h) (fun c a w s => by
    have hvx := evO_rep s.ts x
    rw [hx] at hvx
    have ex : a.eval x = .nilIface := by cases hvx with | pv _ _ hr => generalize a.eval x = u at hr; cases hr; rfl
    unfold Yields
    rw [run_call_func ho rfl Tryd.call14]
    rw [show (#[x, y] : Array Operand).map a.eval = #[.nilIface, a.eval y] by simp [ex]]
    refine (as_nil (a.eval y) w).mono fun e w' ⟨he, hw'⟩ => ?_
    subst he; subst hw'
    exact ⟨c, Later.refl _ _ _, s.m, .pv _ _ (.bool _)⟩) (by subst ht; exact k)
theorem as_load (p : Addr) (a b e : Int) (w : World) : (loadVar 48 ⟨w.heap.size + 1 + 1 + 1, 0, none⟩).run Tryd.prog (asW p (.int .i64 a) (.int .i64 b) (.int .i64 e) w) = .ok (.agg #[.int .i64 a, .int .i64 b, .int .i64 e]) (asW p (.int .i64 a) (.int .i64 b) (.int .i64 e) w) := by
  have hr := run_loadCells_list (P := Tryd.prog) (asW p (.int .i64 a) (.int .i64 b) (.int .i64 e) w) ⟨w.heap.size + 1 + 1 + 1, 0, none⟩ [.int .i64 a, .int .i64 b, .int .i64 e] (fun k v hk => by
    rw [Addr.add_plain, Nat.zero_add]
    rcases k with _ | _ | _ | k
    · simp at hk; subst hk; unfold asW; rw [World.cell?_alloc_at _ _ _ _ (by simp)]; rfl
    · simp at hk; subst hk; unfold asW; rw [World.cell?_alloc_at _ _ _ _ (by simp)]; rfl
    · simp at hk; subst hk; unfold asW; rw [World.cell?_alloc_at _ _ _ _ (by simp)]; rfl
    · simp at hk)
  simp only [List.length_cons, List.length_nil, Nat.zero_add, Nat.reduceAdd] at hr
  have hs : szOf Tryd.prog 48 = 3 := by kernel_rfl
  have ha : agOf Tryd.prog 48 = 2 := by kernel_rfl
  simp [loadVar, Sem.run_bind, agOf_run ha (by omega), szOf_run hs (by omega), hr, Result.andThen]
theorem AWL.asHit {a b e : Int} {cs : List AV} (hw : wantB ops.toList t o.guard = some true) (ho : o.op = .call ⟨.value (.func 14), #[x, y], tys⟩) (hx : evO t x = .pv (.ifc 48 (.agg [.int .i64 a, .int .i64 b, .int .i64 e]))) (hy : evO t y = .ifc 53 (.ptr i 0)) (hi : h[i]? = some (.box cs)) (hcs : cs.length = 3)
    (ht : putT t o.dst (.pv (.bool true)) = t1) (hh : setx h i (.box [.pv (.int .i64 a), .pv (.int .i64 b), .pv (.int .i64 e)]) = h1) (k : AWL Tryd.prog z ops l ⟨t1, h1⟩ Q) : AWL Tryd.prog z ops (o :: l) ⟨t, h⟩ Q :=
  .op2 hw (r := .pv (.bool true)) (h' := h1) (fun c ac w s => by
    subst hh
    have hvx := evO_rep s.ts x
    rw [hx] at hvx
    have ex : ac.eval x = .iface 48 (.agg #[.int .i64 a, .int .i64 b, .int .i64 e]) := by
      cases hvx with
      | pv _ _ hr =>
        generalize ac.eval x = u at hr
        cases hr with
        | ifc _ _ u hr =>
          cases hr with
          | agg ps vs hl _ hk =>
            match vs, hl with
            | [v0, v1, v2], _ =>
              have h0 := rep_int (hk 0 _ v0 rfl rfl)
              have h1 := rep_int (hk 1 _ v1 rfl rfl)
              have h2 := rep_int (hk 2 _ v2 rfl rfl)
              rw [h0, h1, h2]
    have hvy := evO_rep s.ts y
    rw [hy] at hvy
    obtain ⟨ey, hp⟩ := as_ifc hvy hi
    have hgl := s.m.glob _ rfl
    have hb : Below w.heap.size w (asW ⟨c.mu i, 0, none⟩ (.int .i64 a) (.int .i64 b) (.int .i64 e) w) := by
      unfold asW
      exact ((((Below.refl _ w).alloc (Nat.le_refl _) _).alloc (by simp) _).alloc (by simp; omega) _).alloc (by simp; omega) _
    obtain ⟨L, M⟩ := s.m.beyond hb (fun _ => False) (fun x h => h.elim)
    obtain ⟨w', r1, L2, M2⟩ := storeA_run (P := Tryd.prog) (t := 48) M (x := .ptr i 0) (y := .pv (.agg [.int .i64 a, .int .i64 b, .int .i64 e])) (va := .pointer (some ⟨c.mu i, 0, none⟩)) (v := .agg #[.int .i64 a, .int .i64 b, .int .i64 e]) (d := [(i, .box [.pv (.int .i64 a), .pv (.int .i64 b), .pv (.int .i64 e)])])
      (hp.later L) (.pv _ _ (.agg _ [.int .i64 a, .int .i64 b, .int .i64 e] rfl (by intro v hv; simp at hv; rcases hv with rfl | rfl | rfl <;> rfl) (fun k p v h1 h2 => by
        rcases k with _ | _ | _ | k
        · simp at h1 h2; subst h1; subst h2; exact .int _ _
        · simp at h1 h2; subst h1; subst h2; exact .int _ _
        · simp at h1 h2; subst h1; subst h2; exact .int _ _
        · simp at h1))) (by
        match cs, hcs with
        | [c0, c1, c2], _ => simp [storeA, hi, acells, go_sem]; try rfl) (by simp only [go_sem]; try decide)
    have r2 : (storeVar 48 ⟨c.mu i, 0, none⟩ (.agg #[.int .i64 a, .int .i64 b, .int .i64 e])).run Tryd.prog (asW ⟨c.mu i, 0, none⟩ (.int .i64 a) (.int .i64 b) (.int .i64 e) w) = .ok () w' := by
      rw [← r1]; simp [Instr.storeAt, Instr.sureAddr]
    unfold Yields
    rw [run_call_func ho rfl Tryd.call14]
    rw [show (#[x, y] : Array Operand).map ac.eval = #[.iface 48 (.agg #[.int .i64 a, .int .i64 b, .int .i64 e]), .iface 53 (.pointer (some ⟨c.mu i, 0, none⟩))] by simp [ex, ey]]
    refine (as_hit ⟨c.mu i, 0, none⟩ _ _ _ w w' hgl.2 hgl.1 (as_load _ _ _ _ w) r2).mono fun ev w2 ⟨he, hw2⟩ => ?_
    subst he; subst hw2
    exact ⟨_, L.trans L2, M2, .pv _ _ (.bool _)⟩) (by subst ht; exact k)
/-- The error of a place, or nil. -/
def errV (x : Int × Int × Int) : PV := if x.2.2 = 0 then .nilIfc else .ifc 48 (.agg [.int .i64 x.1, .int .i64 x.2.1, .int .i64 x.2.2])
theorem err_nil {x : Int × Int × Int} (h : x.2.2 = 0) : errV x = .nilIfc := if_pos h
theorem err_some {x : Int × Int × Int} (h : ¬ x.2.2 = 0) : errV x = .ifc 48 (.agg [.int .i64 x.1, .int .i64 x.2.1, .int .i64 x.2.2]) := if_neg h
theorem isIfc_err (x : Int × Int × Int) : isIfc (errV x) = some (decide (x.2.2 = 0)) := by
  unfold errV; split
  · rename_i h; simp [isIfc, h]
  · rename_i h; simp [isIfc, h]
theorem AWL.ifne {T R : TypeId} {p : PV} {b : Bool} (hw : wantB ops.toList t o.guard = some true) (ho : o.op = .binOp .neq T x (.const .nilIface) R) (hi : Tryd.prog.underlying T = some (.interface (Tryd.prog.methodsAt T))) (hx : evO t x = .pv p) (hb : isIfc p = some b)
    (ht : putT t o.dst (.pv (.bool (!b))) = t1) (k : AWL Tryd.prog z ops l ⟨t1, h⟩ Q) : AWL Tryd.prog z ops (o :: l) ⟨t, h⟩ Q :=
  .ifnil hw ho (.inr rfl) hi hx hb (by rw [if_neg (by decide)]; exact ht) k
theorem AWL.mkifcA {T : TypeId} {d : TypeDesc} {v : AV} {p : PV} (hw : wantB ops.toList t o.guard = some true) (ho : o.op = .makeInterface T x) (hu : Tryd.prog.underlying T = some d) (hn : ∀ m, d ≠ .interface m) (hx : evO t x = v) (hp : pur v = some p) (ht : putT t o.dst (.pv (.ifc T p)) = t1)
    (k : AWL Tryd.prog z ops l ⟨t1, h⟩ Q) : AWL Tryd.prog z ops (o :: l) ⟨t, h⟩ Q :=
  .op2 hw (r := .pv (.ifc T p)) (h' := h) (fun c a w s => .val s.m (v := .iface T (a.eval x)) (by simp [execOp, ho, run_mkIface hu hn]) (by
    have r := evO_rep s.ts x
    rw [hx] at r
    exact .pv _ _ (.ifc T p _ (r.pur hp)))) (by subst ht; exact k)
theorem AWL.asErr {e : Int × Int × Int} (he : e.2.2 = 0 → e = (0, 0, 0)) (hw : wantB ops.toList t o.guard = some true) (ho : o.op = .call ⟨.value (.func 14), #[x, y], tys⟩) (hx : evO t x = .pv (errV e)) (hy : evO t y = .ifc 53 (.ptr i 0)) (hi : h[i]? = some (.box [.pv (.int .i64 0), .pv (.int .i64 0), .pv (.int .i64 0)]))
    (ht : putT t o.dst (.pv (.bool (!decide (e.2.2 = 0)))) = t1) (hh : setx h i (.box [.pv (.int .i64 e.1), .pv (.int .i64 e.2.1), .pv (.int .i64 e.2.2)]) = h1) (k : AWL Tryd.prog z ops l ⟨t1, h1⟩ Q) : AWL Tryd.prog z ops (o :: l) ⟨t, h⟩ Q := by
  by_cases h0 : e.2.2 = 0
  · rw [err_nil h0] at hx
    rw [he h0] at hh
    rw [decide_eq_true h0] at ht
    have hs : setx h i (.box [.pv (.int .i64 0), .pv (.int .i64 0), .pv (.int .i64 0)]) = h := setx_keep hi
    rw [show h1 = h from hh.symm.trans hs] at k
    exact AWL.asNil hw ho hx hy hi ht k
  · rw [err_some h0] at hx
    rw [decide_eq_false h0] at ht
    exact AWL.asHit hw ho hx hy hi rfl ht hh k
end
end Go.Ab.Tryd
