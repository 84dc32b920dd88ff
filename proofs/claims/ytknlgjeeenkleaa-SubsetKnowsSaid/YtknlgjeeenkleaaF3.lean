/- The masks that may be: the iterator's contract, and who gathers them. -/
import Derived.Test.YtknlgjeeenkleaaF2
import Derived.Maps.AppendAt
namespace Go.Ab.Try
open Go.Proofs Go.RowKit Go.Shelf
set_option linter.unusedVariables false
set_option linter.unusedSimpArgs false
attribute [local go_sem] Oper.semAt_some

def mkA (al : Int → Bool) (k : Nat) : List Int := ((List.range k).filter fun m : Nat => al (m : Int)).map fun m : Nat => (m : Int)
theorem mkA_succ (al : Int → Bool) (k : Nat) : mkA al (k + 1) = mkA al k ++ (if al k = true then [(k : Int)] else []) := by
  unfold mkA; rw [List.range_succ, List.filter_append, List.map_append]
  cases h : al k <;> simp [h]
theorem mkA_len (al : Int → Bool) (k : Nat) : (mkA al k).length ≤ k := by
  unfold mkA; rw [List.length_map]; exact Nat.le_trans (List.length_filter_le _ _) (by simp)
theorem below_grown {w w' : World} (h : Below w.heap.size w w') : w.grownBy w' none := ⟨h.os, h.tape, h.output, h.size, fun k hk _ => h.block k hk⟩

set_option maxRecDepth 100000 in
set_option maxHeartbeats 2000000 in
theorem masks1_in (n : Nat) (hn : 1 ≤ n) (lp Bd n₀ : Nat) (ok : Nat → Prop) (dv : PV) (al : Int → Bool) (hA : ∀ m, PC Try.prog 52 [dv, .int .i64 m] (.bool (al m))) (v1 v3 : Value) (A : Option Addr) (len cp : Nat) (hlen : len ≤ 12) (hok : ∀ b, ok b → b < n₀)
    (J Jx : List Int → World → Prop)
    (hY : ∀ pre x W, J pre W → pre.length < 2 ^ len → YieldAt Fence.wide (n - 1) Try.prog lp #[.int .i64 x] W fun e W' =>
      (e = .returned (.bool true) ∧ J (pre ++ [x]) W' ∧ KpB n₀ Bd W W') ∨ (e = .returned (.bool false) ∧ Jx (pre ++ [x]) W'))
    (W : World) (hJ : AbidesFrom W.heap.size J) (hn₀ : n₀ ≤ W.heap.size) (hBd : W.heap[Bd]? = some (.cells #[v1, .slice A len cp, v3] 43 (0, 0))) (hRep : Rep ok W dv (.agg #[v1, .slice A len cp, v3])) (h0 : J [] W) :
    CallsIn Fence.wide n Try.prog 140 #[.func (.yield lp) #[] #[], .pointer (some ⟨Bd, 0, none⟩)] W fun e W' => (∃ v, e = .returned v) ∧
      ((∃ ys, ys = mkA al (2 ^ len) ∧ J ys W') ∨ (∃ pre, True ∧ Jx pre W')) := by
  refine callsIn_of_wp Try.func140 rfl trivial ?_ rfl
  simp only [Try.ntmps140, List.size_toArray, List.length_cons, List.length_nil, Nat.reduceAdd, Nat.reduceSub, Array.replicate_succ, Array.replicate_zero, List.push_toArray, List.append_toArray, List.nil_append, List.cons_append]
  have hd1 := blk_cell hBd 1
  simp only [List.getElem?_toArray, List.getElem?_cons_zero, List.getElem?_cons_succ, Nat.reduceAdd] at hd1
  obtain ⟨N, hN⟩ : ∃ N : Nat, N = 2 ^ len := ⟨_, rfl⟩
  have hNle : N ≤ 4096 := by rw [hN]; simpa using Nat.pow_le_pow_right (n := 2) (by omega) hlen
  have hw : wrap64 (2 ^ len) = (N : Int) := by
    have e : ((2 : Int) ^ len) = (N : Int) := by rw [hN]; simp
    rw [e]; unfold wrap64; omega
  rw [← hN] at hY ⊢
  gi_wp2
  rw [hw]
  clear hw hN
  gi_loopw [8] (fun i wr => ∃ k : Nat, k ≤ N ∧ i = .int .i64 k ∧ J (mkA al k) wr ∧ KpB n₀ Bd W wr)
    (fun i _ => N - (intOf i).toNat)
  case atStart => exact ⟨0, Nat.zero_le _, rfl, h0, KpB.r _ _ _⟩
  case round =>
    obtain ⟨k, hk, rfl, hJs, hnx⟩ := hrel
    have hBk : wr.heap[Bd]? = some (.cells #[v1, .slice A len cp, v3] 43 (0, 0)) := hnx.2.trans hBd
    have hx0 := blk_cell hBk 0
    have hx1 := blk_cell hBk 1
    have hx2 := blk_cell hBk 2
    simp only [List.getElem?_toArray, List.getElem?_cons_zero, List.getElem?_cons_succ, Nat.reduceAdd] at hx0 hx1 hx2
    have hsz : W.heap.size ≤ wr.heap.size := hnx.1.size
    by_cases hlt : k < N
    · have hcall := (callsIn_wide (n := n - 1)).2 ((hA k).spec ok wr [.agg #[v1, .slice A len cp, v3], .int .i64 (k : Int)] (fun b hb => by have := hok b hb; omega) ⟨rfl, fun q p v h1 h2 => by
        match q with
        | 0 => simp at h1 h2; subst h1; subst h2; exact hRep.mono (fun b hb => hb) (fun b hb => hnx.1.block b (hok b hb))
        | 1 => simp at h1 h2; subst h1; subst h2; exact .int _ _
        | q + 2 => simp at h1⟩)
      have hcall2 : CallsIn Fence.wide (n - 1) Try.prog 52 #[.agg #[v1, .slice A len cp, v3], .int .i64 (k : Int)] wr fun e w' => e = .returned (.bool (al k)) ∧ Below wr.heap.size wr w' := hcall.mono fun e w' he => by
        cases e with
        | returned v => obtain ⟨h1, h2⟩ := he; cases h2; exact ⟨rfl, h1⟩
        | panicked _ => exact he.elim
        | outgrown => exact he.elim
      have hBd' : Bd < wr.heap.size := (Array.getElem?_eq_some_iff.1 hBk).1
      cases hal : al k
      · have hms : mkA al (k + 1) = mkA al k := by rw [mkA_succ, hal]; simp
        rw [hal] at hcall2
        clear hcall hal
        gi_wp2_with (refine ⟨trivial, ?_⟩; gi_at_call 52; refine hcall2.mono ?_; rintro e w' ⟨rfl, hBw⟩)
        refine ⟨by simp, ?_⟩
        gi_wp2
        go_roundw
        case rel => exact ⟨k + 1, by omega, by simp, by rw [hms]; exact hJ _ _ _ none hJs (below_grown hBw) (by simp), hnx.t ⟨⟨hBw.os, hBw.tape, hBw.output, hBw.size, fun b hb => hBw.block b (by omega)⟩, hBw.block Bd hBd'⟩⟩
        case measure => simp [intOf]; omega
      · have hms : mkA al (k + 1) = mkA al k ++ [(k : Int)] := by rw [mkA_succ, hal]; simp
        have hml : (mkA al k).length < N := Nat.lt_of_le_of_lt (mkA_len al k) hlt
        rw [hal] at hcall2
        clear hcall hal
        gi_wp2_with (refine ⟨trivial, ?_⟩; gi_at_call 52; refine hcall2.mono ?_; rintro e w' ⟨rfl, hBw⟩; have hJw := hJ _ _ _ none hJs (below_grown hBw) (by simp); obtain ⟨fn, tmps, assign, body, hy, hR⟩ := hY _ (k : Int) w' hJw hml)
        have hkw : KpB n₀ Bd wr w' := ⟨⟨hBw.os, hBw.tape, hBw.output, hBw.size, fun b hb => hBw.block b (by omega)⟩, hBw.block Bd hBd'⟩
        refine hR.mono ?_
        rintro e W3 (⟨rfl, hJ3, hk3⟩ | ⟨rfl, hJx3⟩)
        · gi_wp2
          go_roundw
          case rel => exact ⟨k + 1, by omega, by simp, by rw [hms]; exact hJ3, (hnx.t hkw).t hk3⟩
          case measure => simp [intOf]; omega
        · gi_wp2
          refine bodyPost_ret (results_none rfl _ _ _) rfl ?_
          exact ⟨⟨_, rfl⟩, .inr ⟨_, trivial, hJx3⟩⟩
    · obtain rfl : k = N := by omega
      gi_wp2
      go_end0
      exact ⟨⟨_, rfl⟩, .inl ⟨_, rfl, hJs⟩⟩
set_option maxHeartbeats 1000000 in
theorem maskf_in (n : Nat) (v1 v2 v3 : Value) (hv : v1.oneCell' = true ∧ v2.oneCell' = true ∧ v3.oneCell' = true) (w : World) :
    CallsIn Fence.wide n Try.prog 106 #[.agg #[v1, v2, v3]] w fun e w' => e = .returned (.func (.func 140) #[] #[.pointer (some ⟨w.heap.size, 0, none⟩)]) ∧ w' = w.alloc (.cells #[v1, v2, v3] 43) := by
  refine callsIn_of_wp Try.func106 rfl trivial ?_ rfl
  simp only [Try.ntmps106, List.size_toArray, List.length_cons, List.length_nil, Nat.reduceAdd, Nat.reduceSub, Array.replicate_succ, Array.replicate_zero, List.push_toArray, List.append_toArray, List.nil_append, List.cons_append]
  gi_wp2
  go_ret
  exact ⟨rfl, rfl⟩

theorem masks_stops (n : Nat) (hn : 1 ≤ n) (Bd n₀ : Nat) (ok : Nat → Prop) (dv : PV) (al : Int → Bool) (hA : ∀ m, PC Try.prog 52 [dv, .int .i64 m] (.bool (al m))) (v1 v3 : Value) (A : Option Addr) (len cp : Nat) (hlen : len ≤ 12) (hok : ∀ b, ok b → b < n₀)
    (w : World) (hn₀ : n₀ ≤ w.heap.size) (hBd : w.heap[Bd]? = some (.cells #[v1, .slice A len cp, v3] 43 (0, 0))) (hRep : Rep ok w dv (.agg #[v1, .slice A len cp, v3])) :
    SeqStopsK Fence.wide n Try.prog 140 #[.pointer (some ⟨Bd, 0, none⟩)] (fun x : Int => #[Value.int .i64 x]) (KpB n₀ Bd) (fun ys => ys = mkA al (2 ^ len)) (fun _ => True) (2 ^ len) w := fun l J Jx W hW hJ _ hY h0 => by
  have hB : W.heap[Bd]? = some (.cells #[v1, .slice A len cp, v3] 43 (0, 0)) := (hW.block Bd (Array.getElem?_eq_some_iff.1 hBd).1).trans hBd
  exact masks1_in n hn l Bd n₀ ok dv al hA v1 v3 A len cp hlen hok J Jx hY W hJ (Nat.le_trans hn₀ hW.size) hB (hRep.mono (fun b hb => hb) (fun b hb => hW.block b (Nat.lt_of_lt_of_le (hok b hb) hn₀))) h0

def iV (x : Int) : Value := .int .i64 x
theorem infoI : (Try.prog.info? 3).map (fun i => (i.zero, i.size, i.bytes)) = some (some (.int .i64 0), 1, 8) := by kernel_rfl

set_option maxRecDepth 100000 in
set_option maxHeartbeats 4000000 in
theorem Masks_in (n : Nat) (hn : 3 ≤ n) (ok : Nat → Prop) (dv : PV) (al : Int → Bool) (hA : ∀ m, PC Try.prog 52 [dv, .int .i64 m] (.bool (al m))) (A1 A : Option Addr) (l1 c1 len cp : Nat) (ep : Int) (w : World) (hok : ∀ b, ok b → b < w.heap.size)
    (hRep : Rep ok w dv (.agg #[.slice A1 l1 c1, .slice A len cp, .int .i64 ep])) (hnl : len < 1000000) :
    CallsIn Fence.wide n Try.prog 50 #[.agg #[.slice A1 l1 c1, .slice A len cp, .int .i64 ep]] w fun e w' =>
      (∃ v, e = .returned v ∧ w'.ownsRow w.heap.size 3 1 v (if 12 < len then [] else mkA al (2 ^ len)).length ((if 12 < len then [] else mkA al (2 ^ len)).map iV)) ∧ Below w.heap.size w w' := by
  have h1 : 1 ≤ n := by omega
  refine callsIn_of_wp_marks Try.func50 rfl trivial ?_ rfl
  simp only [Try.ntmps50, List.size_toArray, List.length_cons, List.length_nil, Nat.reduceAdd, Nat.reduceSub, Array.replicate_succ, Array.replicate_zero, List.push_toArray, List.append_toArray, List.nil_append, List.cons_append]
  by_cases hlen : 12 < len
  · gi_wp2
    refine ⟨_, results_tmp rfl _ _ _, ?_, (Below.refl _ w).alloc (Nat.le_refl _) _⟩
    first | exact ⟨_, rfl, World.ownsRow_nil _ _ _ _⟩ | (rw [if_pos hlen]; exact ⟨_, rfl, World.ownsRow_nil _ _ _ _⟩)
  · obtain ⟨N, hN⟩ : ∃ N : Nat, N = 2 ^ len := ⟨_, rfl⟩
    have hNle : N ≤ 4096 := by rw [hN]; simpa using Nat.pow_le_pow_right (n := 2) (by omega) (show len ≤ 12 by omega)
    gi_wp2_with (refine ⟨trivial, ?_⟩; gi_at_call 106; refine (maskf_in (n - 1) _ _ _ ⟨rfl, rfl, rfl⟩ _).mono ?_; rintro e w' ⟨rfl, rfl⟩)
    obtain ⟨dc, hdc⟩ : ∃ dc : Array Value, dc = #[Value.slice A1 l1 c1, Value.slice A len cp, Value.int IntKind.i64 ep] := ⟨_, rfl⟩
    obtain ⟨W0, hW0⟩ : ∃ W0, W0 = (((w.alloc (Obj.cells #[Value.slice A1 l1 c1, Value.slice A len cp, Value.int IntKind.i64 ep] 43)).alloc (Obj.cells #[Value.slice none 0 0] 64)).alloc
      (Obj.cells #[Value.slice A1 l1 c1, Value.slice A len cp, Value.int IntKind.i64 ep] 43)) := ⟨_, rfl⟩
    have hsz : W0.heap.size = w.heap.size + 3 := by rw [hW0]; simp
    have hB0 : Below w.heap.size w W0 := by
      rw [hW0]; exact (((Below.refl _ w).alloc (Nat.le_refl _) _).alloc (by simp) _).alloc (by simp; omega) _
    have bO : Boxed W0 (w.heap.size + 1) 64 (.slice none 0 0) := by
      have := Boxed.new (w.alloc (Obj.cells #[Value.slice A1 l1 c1, Value.slice A len cp, Value.int IntKind.i64 ep] 43)) 64 (.slice none 0 0)
      simp only [World.size_alloc] at this
      rw [hW0]; exact this.alloc _
    have bD : W0.heap[w.heap.size + 2]? = some (.cells dc 43 (0, 0)) := by
      have := World.alloc_heap_new ((w.alloc (Obj.cells #[Value.slice A1 l1 c1, Value.slice A len cp, Value.int IntKind.i64 ep] 43)).alloc (Obj.cells #[Value.slice none 0 0] 64)) (Obj.cells #[Value.slice A1 l1 c1, Value.slice A len cp, Value.int IntKind.i64 ep] 43)
      simp only [World.size_alloc, Nat.add_assoc, Nat.reduceAdd] at this
      rw [hW0, hdc]; exact this
    rw [← hW0]
    simp only [World.size_alloc, Nat.add_assoc, Nat.reduceAdd]
    clear hW0
    obtain ⟨i0, hi, hz0, hz1, hz2⟩ := info_parts infoI
    have hMx : maxLen = 9223372036854775807 := by decide
    refine wpIn_rangeFunc_ownG (F := Fence.wide) rfl h1 (gf := 140) (lb := #[.pointer (some ⟨w.heap.size + 2, 0, none⟩)]) rfl trivial (enters_of Try.func140 (by kernel_rfl) rfl)
      (masks_stops (n - 1) (by omega) (w.heap.size + 2) w.heap.size ok dv al hA (.slice A1 l1 c1) (.int .i64 ep) A len cp (by omega) hok W0 (by omega) (by rw [bD, hdc]) (hRep.mono (fun b hb => hb) (fun b hb => hB0.block b (hok b hb)))) (fun h k => h.t k) (KpB.b (by omega) (by omega)) (Below.refl _ _) (fun _ => rfl)
      (fun pre W => (((∃ v, Boxed W (w.heap.size + 1) 64 v ∧ W.ownsRow w.heap.size 3 1 v pre.length (pre.map iV) ∧ True) ∧ W0.heap.size ≤ W.heap.size) ∧ W.heap[w.heap.size + 2]? = some (.cells dc 43 (0, 0))) ∧ Below w.heap.size w W)
      (fun _ _ _ => False)
      (OwnFrom.and (Own.from (fun s A B row hs hg hr => ⟨⟨holdsRow_own w.heap.size (w.heap.size + 1) 64 3 1 (fun pre : List Int => pre.length) (fun pre => pre.map iV) (fun _ _ => True) s A B row hs.1.1 hg hr, Nat.le_trans hs.1.2 hg.size⟩, blk_kept hs.2 hg hr⟩) _) (ownFrom_below (Nat.le_refl _) (by omega)))
      (fun _ _ _ _ _ hs _ _ => hs)
      ⟨⟨⟨⟨_, bO, World.ownsRow_nil _ _ _ _, trivial⟩, Nat.le_refl _⟩, bD⟩, hB0⟩
      (fun x => { tmps := #[.agg #[.slice A1 l1 c1, .slice A len cp, .int .i64 ep], .pointer (some ⟨w.heap.size, 0, none⟩), .slice none 0 0, .pointer (some ⟨w.heap.size + 1, 0, none⟩), .int .i64 x, .pointer (some ⟨w.heap.size, 1, none⟩), .slice A len cp, .int .i64 (len : Int), .bool (decide (12 < (len : Int))), .agg #[.slice A1 l1 c1, .slice A len cp, .int .i64 ep], .func (.func 140) #[] #[.pointer (some ⟨w.heap.size + 2, 0, none⟩)], .int .i64 x, undef, undef, undef, undef, undef], defers := [] }) ?assign ?body ?done ?stop
    case assign =>
      intro l x W K hK
      gi_wp2
      exact hK
    case body =>
      rintro l pre x W ⟨⟨⟨⟨v, hv, hrow, _⟩, hS⟩, hD2⟩, hB⟩ hlt
      have hvc := hv.cell
      have hpl : pre.length < 4096 := by rw [← hN] at hlt; omega
      gi_wp2_with (gi_at_builtin; refine wpListIn_append_own _ rfl _ _ 64 rfl w.heap.size 3 i0 (.int .i64 0) 1 8 Try.underlying64 hi hz0 hz1 hz2 rfl (by decide) _ _ _ rfl (hrow.alloc _) ⟨W.heap.size, 0, none⟩ 1 1 [iV x] rfl rfl (cell_one_new _ _ _) (by simp [iV, Value.oneCell']) (by omega) (by omega) (by have := hB.size; simp; omega) ?_; intro v' w1 hown' hgrow _; obtain ⟨g', cap', rfl⟩ := ownsRow_succ hown'; obtain ⟨hv1, hv2, hr2, hk2, hb2⟩ := hv.appended (by decide) hrow hB.size (by omega) hown' hgrow; have hc1 := hv1.cell; have hf1 := hv1.frozen)
      have hgrow' : (W.alloc (Obj.cells #[Value.int IntKind.i64 x] 3)).grownBy w1 v.ownBlock := hgrow
      have hlt2 : w.heap.size + 2 < W.heap.size := by omega
      have hne : some (w.heap.size + 2) ≠ v.ownBlock := by
        rcases hrow.2 with ⟨rfl, _⟩ | ⟨g, cap, cur, rfl, _, hgb, _⟩
        · simp [Value.ownBlock]
        · intro e'
          obtain rfl : w.heap.size + 2 = g := by simpa [Value.ownBlock] using e'
          rw [hD2] at hgb
          simp at hgb
      have hD3 : w1.heap[w.heap.size + 2]? = some (.cells dc 43 (0, 0)) := (hgrow'.block _ (by simp; omega) hne).trans ((Below.heap_alloc _ _ _ hlt2).trans hD2)
      have hD4 := (Below.heap_setCell w1 ⟨w.heap.size + 1, 0, none⟩ (Value.slice (some { block := g', off := 0 }) (pre.length + 1) cap') (w.heap.size + 2) (by simp)).trans hD3
      exact ⟨hk2.from _, ⟨hb2, hD4.trans hD2.symm⟩, ⟨⟨⟨_, hv2, by simpa using hr2, trivial⟩, Nat.le_trans hS hb2.size⟩, hD4⟩, hB.trans hb2⟩
    case done =>
      rintro D ys W hD rfl ⟨⟨⟨⟨v, hv, hrow, _⟩, hS⟩, hD2⟩, hB⟩ hK
      have hvc := hv.cell
      gi_wp2
      refine ⟨by simp, .inl ⟨_, _, rfl, run_takeDeferred hK, ?_⟩⟩
      refine ⟨_, results_tmp rfl _ _ _, ⟨_, rfl, ?_⟩, hB.trans (belowK_b (w := w) (Nat.le_refl _) W D _ _ (by omega) hK rfl rfl)⟩
      first | exact ownsRow_putObj hrow _ hK rfl | (simp only [if_neg hlen]; exact ownsRow_putObj hrow _ hK rfl)
    case stop =>
      rintro D c pre W _ _ h _
      exact h.elim
end Go.Ab.Try
