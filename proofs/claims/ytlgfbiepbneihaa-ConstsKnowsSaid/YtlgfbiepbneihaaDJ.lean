/- A cut off ahead of a slice of the call's own: what is left bears a new name. -/
import Derived.Test.YtlgfbiepbneihaaDI
namespace Go.Ab
open Go.RowKit
set_option linter.unusedVariables false
set_option linter.unusedSimpArgs false
set_option linter.unnecessarySimpa false
section
variable {P : Program} {z : Ini} {ops : Array Oper} {l : List Oper} {Q : Exit → St → Prop} {o : Oper} {t : List AV} {h : List ABlk} {T : TypeId} {x y : Operand}
theorem AWL.cutv {e : TypeId} {sz by' i : Nat} {k1 : IntKind} {d : Int} {rows : List (List PV)} {t1 : List AV} {h1 : List ABlk} (hw : wantB ops.toList t o.guard = some true) (ho : o.op = .slice T x (some y) none none) (hT : tk P T = .slice e sz by') (hp : 0 < sz)
    (hx : evO t x = .vs i 0 rows.length) (hi : h[i]? = some (.vec sz rows)) (hy : evO t y = .pv (.int k1 d)) (hd : 0 ≤ d ∧ d ≤ (rows.length : Int)) (ht : putT t o.dst (.vs h.length 0 (rows.length - d.toNat)) = t1) (hh : setx (setx h i .gone) h.length (.vec sz (rows.drop d.toNat)) = h1)
    (k : AWL P z ops l ⟨t1, h1⟩ Q) : AWL P z ops (o :: l) ⟨t, h⟩ Q :=
  .op2 hw (r := .vs h.length 0 (rows.length - d.toNat)) (h' := h1) (fun c a w s0 => by
    subst hh
    have s := s0.m
    obtain ⟨hu, hsz, _⟩ := tk_slice hT
    have hv := evO_rep s0.ts x
    rw [hx] at hv
    have hvy := evO_rep s0.ts y
    rw [hy] at hvy
    have ey : a.eval y = .int k1 d := by cases hvy with | pv _ _ hr => generalize a.eval y = u at hr; cases hr; rfl
    generalize hval : a.eval x = vx at hv
    cases hv with
    | vs _ _ _ _ b hone hib hnb hvv =>
      rw [hi] at hib; injection hib with hib; subst hib
      obtain ⟨g1, A, rfl, g3⟩ := hvv _ _ rfl
      obtain ⟨b1, b2, b3⟩ := s.hs.blk i _ hi
      simp only [Nat.sub_zero, Nat.zero_mul, Nat.add_zero] at g3 hval
      have hrun := bounds_run (P := P) (w := w) (c := c) (h := h) (isS := true) (len := rows.length) (cap := (c.vd i).2) (lo := some (.pv (.int k1 d))) (hi := none) (lov := some (.int k1 d)) (hiv := none) (l := d) (r := rows.length)
        (fun x hx => by injection hx with hx; subst hx; exact ⟨_, rfl, .pv _ _ (.int _ _)⟩) (fun h => by cases h) (fun x hx => by cases hx) (fun _ => rfl) rfl rfl ⟨hd.1, hd.2, Int.le_refl _⟩ b1
      have hsl : (Instr.sliceAt T (.slice A rows.length (c.vd i).2) (some (.int k1 d)) none none).run P w = .ok (.slice (if (c.vd i).2 = d.toNat then A else A.map (·.add (d.toNat * sz))) (rows.length - d.toNat) ((c.vd i).2 - d.toNat)) w := by
        simp [Instr.sliceAt, Instr.slice, run_underlying hu, hrun, szOf_run hsz hp]
      obtain ⟨Ld, Md⟩ := s.drop i _ hi (by intro h; cases h) (fun _ => False) (fun x h => h.elim)
      have hil : i < h.length := (List.getElem?_eq_some_iff.1 hi).1
      have hne : h.length ≠ i := by omega
      have hu₁ : unborn (setx h i .gone) h.length := by
        unfold unborn
        rcases setx_other h i h.length .gone hne with e | ⟨e1, e2⟩
        · rw [e]; exact .inl (List.getElem?_eq_none (Nat.le_refl _))
        · exact .inr e2
      have hdn : d.toNat ≤ rows.length := by omega
      obtain ⟨k2, k3⟩ := Md.take (w' := w) (g := c.mu i) (vd := ((c.vd i).1 + d.toNat * sz, (c.vd i).2 - d.toNat)) (b := .vec sz (rows.drop d.toNat)) hu₁ s.ext.1
        (fun lj => by
          have hcap : 0 < (c.vd i).2 := by simp only [lv, setx_same, Cx.born_vd] at lj; omega
          have hl : lv c h i := by simp [lv, hi, hcap]
          exact ⟨s.own i hl, (fun h => h.elim (s.hs.nok i hl) id), fun j lj e => by
            by_cases hji : j = i
            · subst hji; simp [lv, setx_same] at lj
            · exact hji (s.hs.inj j i ((lv_setx_other (c := c) (c' := { c with ok := fun x => c.ok x ∨ False }) hji rfl).1 lj) hl e)⟩) rfl rfl rfl (Nat.le_refl _) (fun _ _ _ => rfl)
        (fun _ => by
          refine ⟨by rw [Cx.born_vd]; simp; omega, fun j row hj => ?_, fun hp2 => ?_⟩
          · rw [List.getElem?_drop] at hj; exact b2 _ row hj
          · rw [Cx.born_vd] at hp2
            obtain ⟨vs, te, q1, q2, q3⟩ := b3 (by simp at hp2; omega)
            refine ⟨vs, te, by rw [Cx.born_mu]; exact q1, ?_, fun j row k p hj hk => ?_⟩
            · rw [Cx.born_vd, q2]
              simp only
              have : d.toNat * sz + ((c.vd i).2 - d.toNat) * sz = (c.vd i).2 * sz := by rw [← Nat.add_mul]; congr 1; simp at hp2; omega
              omega
            · rw [List.getElem?_drop] at hj
              obtain ⟨v, v1, v2, v3⟩ := q3 _ row k p hj hk
              refine ⟨v, ?_, v2, v3.mono (fun b hb => .inl hb) (fun _ _ => rfl)⟩
              rw [Cx.born_vd, ← v1]
              congr 1
              simp only
              rw [Nat.add_mul]; omega)
      unfold Yields
      have : (execOp a.eval o).run P w = .ok (.value (.slice (if (c.vd i).2 = d.toNat then A else A.map (·.add (d.toNat * sz))) (rows.length - d.toNat) ((c.vd i).2 - d.toNat))) w := by simp [execOp, ho, hval, ey, hsl]
      rw [this]
      refine ⟨_, Ld.trans k2, k3, .vs h.length 0 _ _ (.vec sz (rows.drop d.toNat)) rfl (setx_same _ _ _) (by intro h; cases h) fun sz' rows' e' => ?_⟩
      injection e' with e1 e2; subst e1; subst e2
      refine ⟨by simp, (if (c.vd i).2 = d.toNat then A else A.map (·.add (d.toNat * sz))), by rw [Cx.born_vd]; simp, fun hlt => ?_⟩
      rw [Cx.born_vd] at hlt ⊢
      rw [Cx.born_mu]
      simp only at hlt ⊢
      rw [if_neg (by omega), g3 (by omega)]
      simp [Addr.add_plain]) (by subst ht; exact k)
end
end Go.Ab
