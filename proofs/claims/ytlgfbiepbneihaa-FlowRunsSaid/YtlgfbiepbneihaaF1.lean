/- slices.Backward over waiting writes: the iterator's contract. -/
import Derived.RangeFuncNested
import Derived.RangeFuncBound
import Derived.RangeFuncCalls
import Derived.RangeFuncBox
import Derived.RangeFuncLeaves
import Derived.Shelf.Abstract
import Derived.Shelf.RegionOpen
import Derived.WalkKit
import Derived.OwnWalkIn
import Derived.TacticsInMore
import Derived.LoopNIn
import Derived.LoopIn
import Derived.Test.YtlgfbiepbneihaaProg
namespace Go.Ab.Try
open Go.Proofs Go.RowKit Go.Shelf
set_option linter.unusedVariables false
set_option linter.unusedSimpArgs false
set_option linter.unnecessarySimpa false
attribute [local go_sem] Oper.semAt_some

/-- A write that waits: its block, its word, its epoch. -/
abbrev Pn := Int × Int × Int
def encP (x : Pn) : Value := .agg #[.int .i64 x.1, .int .u64 x.2.1, .int .i64 x.2.2]
/-- What has come when k rounds are over, the last first. -/
def dn (f : Nat → Pn) (len k : Nat) : List (Nat × Pn) := (List.range k).map fun j => (len - 1 - j, f (len - 1 - j))
theorem dn_succ (f : Nat → Pn) (len k : Nat) : dn f len (k + 1) = dn f len k ++ [(len - 1 - k, f (len - 1 - k))] := by simp [dn, List.range_succ]
/-- What a round keeps: what lay below n₀, and the box Bs. -/
def KpB (n₀ Bs : Nat) (A B : World) : Prop := Below n₀ A B ∧ B.heap[Bs]? = A.heap[Bs]?
theorem KpB.t {n₀ Bs : Nat} {A B C : World} (h : KpB n₀ Bs A B) (k : KpB n₀ Bs B C) : KpB n₀ Bs A C := ⟨h.1.trans k.1, k.2.trans h.2⟩
theorem KpB.r (n₀ Bs : Nat) (A : World) : KpB n₀ Bs A A := ⟨Below.refl _ _, rfl⟩
theorem KpB.cell {n₀ Bs : Nat} {A B : World} (h : KpB n₀ Bs A B) : B.cell? ⟨Bs, 0, none⟩ = A.cell? ⟨Bs, 0, none⟩ := by simp only [World.cell?, h.2]
theorem KpB.b {n₀ Bs : Nat} {w : World} (hn : n₀ ≤ w.heap.size) (hB : Bs < w.heap.size) (W : World) (l : Nat) (o o' : Obj) (hl : w.heap.size ≤ l) (h : W.heap[l]? = some o) (h1 : o.isCells = false) (h2 : o.isWalk = false) : KpB n₀ Bs W (W.putObj l o') :=
  ⟨belowK_b hn W l o o' hl h h1 h2, World.putObj_heap_other (by omega)⟩
theorem dn_length (f : Nat → Pn) (len k : Nat) : (dn f len k).length = k := by simp [dn]

set_option maxRecDepth 100000 in
set_option maxHeartbeats 2000000 in
theorem back1_in (F : Fence) (n : Nat) (h8 : F.fn 151) (hro : F.round = none) (hn : 1 ≤ n) (l Bs n₀ b off len cap : Nat) (zs : Nat → Pn) (hreach : len * 24 ≤ 140737488351232) (hb : b < n₀) (J Jx : List (Nat × Pn) → World → Prop)
    (hY : ∀ pre x W, J pre W → pre.length < len → YieldAt F (n - 1) Try.prog l #[.int .i64 (x.1 : Int), encP x.2] W fun e W' =>
      (e = .returned (.bool true) ∧ J (pre ++ [x]) W' ∧ KpB n₀ Bs W W') ∨ (e = .returned (.bool false) ∧ Jx (pre ++ [x]) W'))
    (W : World) (hBs : W.cell? ⟨Bs, 0, none⟩ = some (.slice (some ⟨b, off, none⟩) len cap))
    (hc0 : ∀ j, j < len → W.cell? ⟨b, off + j * 3, none⟩ = some (.int .i64 (zs j).1))
    (hc1 : ∀ j, j < len → W.cell? ⟨b, off + j * 3 + 1, none⟩ = some (.int .u64 (zs j).2.1))
    (hc2 : ∀ j, j < len → W.cell? ⟨b, off + j * 3 + 2, none⟩ = some (.int .i64 (zs j).2.2)) (h0 : J [] W) :
    CallsIn F n Try.prog 151 #[.func (.yield l) #[] #[], .pointer (some ⟨Bs, 0, none⟩)] W fun e W' => (∃ v, e = .returned v) ∧
      ((∃ ys, ys = dn zs len len ∧ J ys W') ∨ (∃ pre, (∃ k, k ≤ len ∧ pre = dn zs len k) ∧ Jx pre W')) := by
  refine callsIn_of_wp Try.func151 rfl h8 ?_ hro
  simp only [Try.ntmps151, List.size_toArray, List.length_cons, List.length_nil, Nat.reduceAdd, Nat.reduceSub, Array.replicate_succ, Array.replicate_zero, List.push_toArray, List.append_toArray, List.nil_append, List.cons_append]
  gi_wp2
  gi_loopw [3] (fun i wr => ∃ k : Nat, k ≤ len ∧ i = .int .i64 ((len : Int) - 1 - k) ∧ J (dn zs len k) wr ∧ KpB n₀ Bs W wr)
    (fun i _ => (intOf i + 1).toNat)
  case atStart => exact ⟨0, Nat.zero_le _, by simp, h0, KpB.r _ _ _⟩
  case round =>
    obtain ⟨k, hk, rfl, hJs, hnx⟩ := hrel
    have hBx : wr.cell? ⟨Bs, 0, none⟩ = some (.slice (some ⟨b, off, none⟩) len cap) := hnx.cell.trans hBs
    by_cases hlt : k < len
    · obtain ⟨m, hm⟩ : ∃ m, m = len - 1 - k := ⟨_, rfl⟩
      have hml : m < len := by omega
      have hmi : (len : Int) - 1 - k = (m : Int) := by omega
      have hx0 : wr.cell? ⟨b, off + m * 3, none⟩ = some (.int .i64 (zs m).1) := (hnx.1.cell (p := ⟨b, off + m * 3, none⟩) hb).trans (hc0 m hml)
      have hx1 : wr.cell? ⟨b, off + m * 3 + 1, none⟩ = some (.int .u64 (zs m).2.1) := (hnx.1.cell (p := ⟨b, off + m * 3 + 1, none⟩) hb).trans (hc1 m hml)
      have hx2 : wr.cell? ⟨b, off + m * 3 + 2, none⟩ = some (.int .i64 (zs m).2.2) := (hnx.1.cell (p := ⟨b, off + m * 3 + 2, none⟩) hb).trans (hc2 m hml)
      obtain ⟨fn, tmps, assign, body, hy, hR⟩ := hY _ (m, zs m) wr hJs (by rw [dn_length]; exact hlt)
      dsimp only [encP] at hy
      have hds : dn zs len (k + 1) = dn zs len k ++ [(m, zs m)] := by rw [dn_succ, hm]
      have hq : m + 1 + k = len := by omega
      rw [hmi]
      clear hm hmi
      gi_wp2
      refine hR.mono ?_
      rintro e W3 (⟨rfl, hJ3, hk3⟩ | ⟨rfl, hJx3⟩)
      · gi_wp2
        go_roundw
        case rel => exact ⟨k + 1, by omega, by simp; omega, by rw [hds]; exact hJ3, hnx.t hk3⟩
        case measure => simp [intOf]
      · gi_wp2
        refine bodyPost_ret (results_none rfl _ _ _) rfl ?_
        exact ⟨⟨_, rfl⟩, .inr ⟨_, ⟨k + 1, by omega, hds.symm⟩, hJx3⟩⟩
    · obtain rfl : k = len := by omega
      have hmi : (k : Int) - 1 - (k : Int) = -1 := by omega
      rw [hmi]
      clear hmi
      gi_wp2
      go_end0
      exact ⟨⟨_, rfl⟩, .inl ⟨_, rfl, hJs⟩⟩
set_option maxRecDepth 100000 in
set_option maxHeartbeats 1000000 in
theorem back1_nil_in (F : Fence) (n : Nat) (h8 : F.fn 151) (hro : F.round = none) (l Bs : Nat) (A : Option Addr) (cap : Nat) (J : List (Nat × Pn) → World → Prop) (W : World) (hBs : W.cell? ⟨Bs, 0, none⟩ = some (.slice A 0 cap)) (h0 : J [] W) :
    CallsIn F n Try.prog 151 #[.func (.yield l) #[] #[], .pointer (some ⟨Bs, 0, none⟩)] W fun e W' => (∃ v, e = .returned v) ∧ J [] W' := by
  refine callsIn_of_wp Try.func151 rfl h8 ?_ hro
  simp only [Try.ntmps151, List.size_toArray, List.length_cons, List.length_nil, Nat.reduceAdd, Nat.reduceSub, Array.replicate_succ, Array.replicate_zero, List.push_toArray, List.append_toArray, List.nil_append, List.cons_append]
  gi_wp2
  gi_loopw [3] (fun i wr => i = .int .i64 (-1) ∧ J [] wr) (fun _ _ => 0)
  case atStart => exact ⟨rfl, h0⟩
  case round =>
    obtain ⟨rfl, hJs⟩ := hrel
    gi_wp2
    go_end0
    exact ⟨⟨_, rfl⟩, hJs⟩

set_option maxHeartbeats 1000000 in
theorem backward_in (F : Fence) (n : Nat) (h5 : F.fn 147) (hro : F.round = none) (a : Option Addr) (len cap : Nat) (w : World) :
    CallsIn F n Try.prog 147 #[.slice a len cap] w fun e w' => e = .returned (.func (.func 151) #[] #[.pointer (some ⟨w.heap.size, 0, none⟩)]) ∧ w' = w.alloc (.cells #[.slice a len cap] 37) := by
  refine callsIn_of_wp Try.func147 rfl h5 ?_ hro
  simp only [Try.ntmps147, List.size_toArray, List.length_cons, List.length_nil, Nat.reduceAdd, Nat.reduceSub, Array.replicate_succ, Array.replicate_zero, List.push_toArray, List.append_toArray, List.nil_append, List.cons_append]
  gi_wp2
  go_ret
  exact ⟨rfl, rfl⟩

/-- The slice value holds the writes zs, in a block below n₀; or there are none. -/
def Pends (n₀ : Nat) (W : World) (sv : Value) (len : Nat) (zs : Nat → Pn) : Prop :=
  (∃ A cap, sv = .slice A 0 cap ∧ len = 0) ∨ ∃ b off cap, sv = .slice (some ⟨b, off, none⟩) len cap ∧ b < n₀ ∧ ∀ j, j < len → W.cell? ⟨b, off + j * 3, none⟩ = some (.int .i64 (zs j).1) ∧
    W.cell? ⟨b, off + j * 3 + 1, none⟩ = some (.int .u64 (zs j).2.1) ∧ W.cell? ⟨b, off + j * 3 + 2, none⟩ = some (.int .i64 (zs j).2.2)
theorem Pends.below {n₀ : Nat} {A B : World} (h : Below n₀ A B) {sv : Value} {len : Nat} {zs : Nat → Pn} : Pends n₀ A sv len zs → Pends n₀ B sv len zs
  | .inl e => .inl e
  | .inr ⟨b, off, cap, e, hb, hc⟩ => .inr ⟨b, off, cap, e, hb, fun j hj => ⟨(h.cell (p := ⟨b, off + j * 3, none⟩) hb).trans (hc j hj).1, (h.cell (p := ⟨b, off + j * 3 + 1, none⟩) hb).trans (hc j hj).2.1, (h.cell (p := ⟨b, off + j * 3 + 2, none⟩) hb).trans (hc j hj).2.2⟩⟩

theorem backward_stops (F : Fence) (n : Nat) (h8 : F.fn 151) (hro : F.round = none) (hn : 1 ≤ n) (Bs n₀ : Nat) (sv : Value) (len : Nat) (zs : Nat → Pn) (hreach : len * 24 ≤ 140737488351232) (w : World) (hBs : Bs < w.heap.size) (hn₀ : n₀ ≤ w.heap.size)
    (hc : w.cell? ⟨Bs, 0, none⟩ = some sv) (hI : Pends n₀ w sv len zs) :
    SeqStopsK F n Try.prog 151 #[.pointer (some ⟨Bs, 0, none⟩)] (fun x : Nat × Pn => #[Value.int .i64 (x.1 : Int), encP x.2]) (KpB n₀ Bs) (fun ys => ys = dn zs len len) (fun pre => ∃ k, k ≤ len ∧ pre = dn zs len k) len w := fun l J Jx W hW _ _ hY h0 => by
  have hc' := (hW.cell (p := ⟨Bs, 0, none⟩) hBs).trans hc
  rcases hI.below (hW.mono hn₀) with ⟨A, cap, rfl, rfl⟩ | ⟨b, off, cap, rfl, hb, hcs⟩
  · exact (back1_nil_in F n h8 hro l Bs A cap J W hc' h0).mono fun e W' ⟨he, hj⟩ => ⟨he, .inl ⟨_, rfl, hj⟩⟩
  · exact back1_in F n h8 hro hn l Bs n₀ b off len cap zs hreach hb J Jx hY W hc' (fun j hj => (hcs j hj).1) (fun j hj => (hcs j hj).2.1) (fun j hj => (hcs j hj).2.2) h0
set_option maxRecDepth 100000 in
set_option maxHeartbeats 1000000 in
theorem none_in (n : Nat) (Ad Ap : Option Addr) (nd cd np cp : Nat) (ep : Int) (b : Nat) (hnd : nd * 8 ≤ 140737488351232) (w : World) :
    CallsIn Fence.wide n Try.prog 138 #[.agg #[.slice Ad nd cd, .slice Ap np cp, .int .i64 ep], .int .u64 (b : Int)] w fun e w' => e = .returned (.bool (decide (nd ≤ b))) ∧ w' = w.alloc (.cells #[.slice Ad nd cd, .slice Ap np cp, .int .i64 ep] 39) := by
  refine callsIn_of_wp Try.func138 rfl trivial ?_ rfl
  simp only [Try.ntmps138, List.size_toArray, List.length_cons, List.length_nil, Nat.reduceAdd, Nat.reduceSub, Array.replicate_succ, Array.replicate_zero, List.push_toArray, List.append_toArray, List.nil_append, List.cons_append]
  gi_wp2
  go_ret
  exact ⟨rfl, rfl⟩

theorem blk_kept {X Y : World} {row : Option Nat} {B : Nat} {t : TypeId} {vs : Array Value} (hs : X.heap[B]? = some (.cells vs t (0, 0))) (hg : X.grownBy Y row) (hrow : ∀ r, row = some r → ∃ o : Obj, X.heap[r]? = some o ∧ o.isCells = false) : Y.heap[B]? = some (.cells vs t (0, 0)) :=
  (hg.block B (Array.getElem?_eq_some_iff.1 hs).1 (fun e' => by obtain ⟨o, ho, hc⟩ := hrow B e'.symm; rw [hs] at ho; cases ho; cases hc)).trans hs
theorem blk_cell {W : World} {B : Nat} {vs : Array Value} {t : TypeId} (h : W.heap[B]? = some (.cells vs t (0, 0))) (k : Nat) : W.cell? ⟨B, k, none⟩ = vs[k]? := by simp [World.cell?, h]
theorem wpW_scope {n : Nat} {P : Program} {c : Code} {Q : Exit → Act → World → Prop} {a : Act} {w : World} (h : c.wpIn Fence.wide n P (Exit.noGoto Q) a w) : (Code.scope c).wpIn Fence.wide n P Q a w :=
  wpIn_wide.2 (wp_scope_straight (wpIn_wide.1 h))

/-- What is read: of the first k writes the last one of the block, or what stands there. -/
def lastP (zs : Nat → Pn) (bi v0 : Int) : Nat → Int
  | 0 => v0
  | n + 1 => if (zs n).1 = bi then (zs n).2.1 else lastP zs bi v0 n
theorem lastP_skip {zs : Nat → Pn} {bi v0 : Int} {len : Nat} : ∀ {k : Nat}, k ≤ len → (∀ j, j < k → (zs (len - 1 - j)).1 ≠ bi) → lastP zs bi v0 len = lastP zs bi v0 (len - k)
  | 0, _, _ => rfl
  | k + 1, hk, h => by
    rw [lastP_skip (k := k) (by omega) (fun j hj => h j (by omega))]
    have e : len - k = (len - (k + 1)) + 1 := by omega
    rw [e, lastP, if_neg]
    have := h k (by omega)
    rwa [show len - 1 - k = len - (k + 1) by omega] at this
theorem lastP_hit {zs : Nat → Pn} {bi v0 : Int} {len k : Nat} (hk : k < len) (h : ∀ j, j < k → (zs (len - 1 - j)).1 ≠ bi) (e : (zs (len - 1 - k)).1 = bi) : lastP zs bi v0 len = (zs (len - 1 - k)).2.1 := by
  rw [lastP_skip (k := k) (by omega) h, show len - k = (len - 1 - k) + 1 by omega, lastP, if_pos e]

set_option maxRecDepth 100000 in
set_option maxHeartbeats 4000000 in
theorem Read_in (n : Nat) (hn : 3 ≤ n) (Ad Ap : Option Addr) (nd cd np cp : Nat) (ep : Int) (b : Nat) (v0 : Int) (zs : Nat → Pn) (hnd : nd * 8 ≤ 140737488351232) (hnp : np * 24 ≤ 140737488351232) (w : World)
    (hD : b < nd → ∃ bd off, Ad = some ⟨bd, off, none⟩ ∧ bd < w.heap.size ∧ w.cell? ⟨bd, off + b, none⟩ = some (.int .u64 v0)) (hP : Pends w.heap.size w (.slice Ap np cp) np zs) :
    CallsIn Fence.wide n Try.prog 137 #[.agg #[.slice Ad nd cd, .slice Ap np cp, .int .i64 ep], .int .u64 (b : Int)] w fun e w' =>
      e = .returned (if b < nd then .tuple #[.int .u64 (lastP zs b v0 np), .bool true] else .tuple #[.int .u64 0, .bool false]) ∧ Below w.heap.size w w' := by
  have h1 : 1 ≤ n := by omega
  refine callsIn_of_wp_marks Try.func137 rfl trivial ?_ rfl
  simp only [Try.ntmps137, List.size_toArray, List.length_cons, List.length_nil, Nat.reduceAdd, Nat.reduceSub, Array.replicate_succ, Array.replicate_zero, List.push_toArray, List.append_toArray, List.nil_append, List.cons_append]
  by_cases hb : b < nd
  · obtain ⟨bd, off, rfl, hbd, hcell⟩ := hD hb
    have hcd : ∀ {W : World}, Below w.heap.size w W → W.cell? ⟨bd, off + b, none⟩ = some (.int .u64 v0) := fun h => (h.cell (p := ⟨bd, off + b, none⟩) hbd).trans hcell
    have hnb : decide (nd ≤ b) = false := by simp; omega
    have hc2 := hcd ((((Below.refl _ w).alloc (Nat.le_refl _) (.cells #[.slice (some ⟨bd, off, none⟩) nd cd, .slice Ap np cp, .int .i64 ep] 39)).alloc (by simp) (.cells #[.int .u64 (b : Int)] 43)).alloc (by simp; omega) (.cells #[.slice (some ⟨bd, off, none⟩) nd cd, .slice Ap np cp, .int .i64 ep] 39))
    gi_wp2
    refine wpW_scope ?_
    gi_wp2_with (first | (refine ⟨trivial, ?_⟩; gi_at_call 138; refine (none_in (n - 1) _ _ _ _ _ _ _ _ hnd _).mono ?_; rintro e w' ⟨rfl, rfl⟩) | (refine ⟨trivial, ?_⟩; gi_at_call 147; refine (backward_in _ (n - 1) trivial rfl _ _ _ _).mono ?_; rintro e w' ⟨rfl, rfl⟩))
    refine wpIn_label ?_
    gi_wp2_with (refine ⟨trivial, ?_⟩; gi_at_call 147; refine (backward_in _ (n - 1) trivial rfl _ _ _ _).mono ?_; rintro e w' ⟨rfl, rfl⟩)
    obtain ⟨W0, hW0⟩ : ∃ W0, W0 = (((((w.alloc (Obj.cells #[Value.slice (some { block := bd, off := off }) nd cd, Value.slice Ap np cp, Value.int IntKind.i64 ep] 39)).alloc (Obj.cells #[Value.int IntKind.u64 (b : Int)] 43)).alloc
      (Obj.cells #[Value.slice (some { block := bd, off := off }) nd cd, Value.slice Ap np cp, Value.int IntKind.i64 ep] 39)).alloc (Obj.cells #[Value.int IntKind.u64 v0] 43)).alloc (Obj.cells #[Value.slice Ap np cp] 37)) := ⟨_, rfl⟩
    have hsz : W0.heap.size = w.heap.size + 5 := by rw [hW0]; simp
    have hB0 : Below w.heap.size w W0 := by
      rw [hW0]; exact (((((Below.refl _ w).alloc (Nat.le_refl _) _).alloc (by simp) _).alloc (by simp; omega) _).alloc (by simp; omega) _).alloc (by simp; omega) _
    have bB : Boxed W0 (w.heap.size + 1) 43 (.int .u64 (b : Int)) := by
      have := Boxed.new (w.alloc (Obj.cells #[Value.slice (some { block := bd, off := off }) nd cd, Value.slice Ap np cp, Value.int IntKind.i64 ep] 39)) 43 (.int .u64 (b : Int))
      rw [World.size_alloc] at this
      rw [hW0]; exact ((this.alloc _).alloc _).alloc _
    have bV : Boxed W0 (w.heap.size + 3) 43 (.int .u64 v0) := by
      have := Boxed.new (((w.alloc (Obj.cells #[Value.slice (some { block := bd, off := off }) nd cd, Value.slice Ap np cp, Value.int IntKind.i64 ep] 39)).alloc (Obj.cells #[Value.int IntKind.u64 (b : Int)] 43)).alloc
        (Obj.cells #[Value.slice (some { block := bd, off := off }) nd cd, Value.slice Ap np cp, Value.int IntKind.i64 ep] 39)) 43 (.int .u64 v0)
      simp only [World.size_alloc] at this
      rw [hW0]; exact this.alloc _
    have bN : Boxed W0 (w.heap.size + 4) 37 (.slice Ap np cp) := by
      have := Boxed.new ((((w.alloc (Obj.cells #[Value.slice (some { block := bd, off := off }) nd cd, Value.slice Ap np cp, Value.int IntKind.i64 ep] 39)).alloc (Obj.cells #[Value.int IntKind.u64 (b : Int)] 43)).alloc
        (Obj.cells #[Value.slice (some { block := bd, off := off }) nd cd, Value.slice Ap np cp, Value.int IntKind.i64 ep] 39)).alloc (Obj.cells #[Value.int IntKind.u64 v0] 43)) 37 (.slice Ap np cp)
      simp only [World.size_alloc] at this
      rw [hW0]; exact this
    rw [← hW0]
    simp only [World.size_alloc, Nat.add_assoc, Nat.reduceAdd]
    clear hW0 hc2
    refine wpIn_rangeFunc_ownH (F := Fence.wide) rfl h1 (gf := 151) (lb := #[.pointer (some ⟨w.heap.size + 4, 0, none⟩)]) rfl trivial (enters_of Try.func151 (by kernel_rfl) rfl)
      (backward_stops Fence.wide (n - 1) trivial rfl (by omega) (w.heap.size + 4) w.heap.size _ np zs hnp W0 (by omega) (by omega) bN.cell (hP.below hB0)) (fun h k => h.t k) (KpB.b (by omega) (by omega)) (Below.refl _ _) (fun _ => rfl)
      (fun pre W => ((∀ p ∈ pre, p.2.1 ≠ (b : Int)) ∧ Boxed W (w.heap.size + 1) 43 (.int .u64 (b : Int)) ∧ Boxed W (w.heap.size + 3) 43 (.int .u64 v0) ∧ W0.heap.size ≤ W.heap.size) ∧ Below w.heap.size w W)
      (fun c pre W => (c = .exit 0 ∧ ∃ ini last, pre = ini ++ [last] ∧ (∀ p ∈ ini, p.2.1 ≠ (b : Int)) ∧ last.2.1 = (b : Int) ∧ Boxed W (w.heap.size + 3) 43 (.int .u64 last.2.2.1)) ∧ Below w.heap.size w W)
      (OwnFrom.and (Own.from (fun s A B row hs hg hr => ⟨hs.1, blk_kept hs.2.1 hg hr, blk_kept hs.2.2.1 hg hr, Nat.le_trans hs.2.2.2 hg.size⟩) _) (ownFrom_below (Nat.le_refl _) (by omega)))
      (fun c => OwnFrom.and (Own.from (fun s A B row hs hg hr => by obtain ⟨hc, ini, last, e1, e2, e3, e4⟩ := hs; exact ⟨hc, ini, last, e1, e2, e3, blk_kept e4 hg hr⟩) _) (ownFrom_below (Nat.le_refl _) (by omega)))
      ⟨⟨by simp, bB, bV, Nat.le_refl _⟩, hB0⟩
      (fun x a' W => ∃ Bx, W0.heap.size ≤ Bx ∧ W.heap[Bx]? = some (.cells #[.int .i64 x.2.1, .int .u64 x.2.2.1, .int .i64 x.2.2.2] 90 (0, 0)) ∧ a' = { tmps := #[.agg #[.slice (some ⟨bd, off, none⟩) nd cd, .slice Ap np cp, .int .i64 ep], .int .u64 (b : Int), .pointer (some ⟨w.heap.size, 0, none⟩), .pointer (some ⟨w.heap.size + 1, 0, none⟩), .int .u64 0, .bool false, .pointer (some ⟨w.heap.size + 3, 0, none⟩), undef, .pointer (some ⟨Bx, 0, none⟩), .agg #[.slice (some ⟨bd, off, none⟩) nd cd, .slice Ap np cp, .int .i64 ep], .int .u64 (b : Int), .bool false, .pointer (some ⟨w.heap.size, 0, none⟩), .slice (some ⟨bd, off, none⟩) nd cd, .int .u64 (b : Int), .pointer (some ⟨bd, off + b, none⟩), .int .u64 v0, .pointer (some ⟨w.heap.size, 1, none⟩), .slice Ap np cp, .func (.func 151) #[] #[.pointer (some ⟨w.heap.size + 4, 0, none⟩)], .int .i64 (x.1 : Int), encP x.2, undef, undef, undef, undef, undef, undef, undef, undef, undef], defers := [] })
      (fun x a' => Own.from (fun s A B row hs hg hr => by obtain ⟨Bx, e1, e2, e3⟩ := hs; exact ⟨Bx, e1, blk_kept e2 hg hr, e3⟩) _) ?assign ?body ?done ?stop
    case assign =>
      rintro l pre x W K ⟨⟨hp, hB, hV, hS⟩, hBw⟩ hK
      simp only [encP] at hK ⊢
      gi_wp2
      refine hK _ _ ((KeepsOthers.alloc _ _).from _) ⟨(Below.refl _ W).alloc hBw.size _, ?_⟩ ⟨⟨hp, hB.alloc _, hV.alloc _, by simp; omega⟩, hBw.alloc hBw.size _⟩ ⟨W.heap.size, hS, World.alloc_heap_new W _, rfl⟩
      exact Below.heap_alloc _ _ _ (by omega)
    case body =>
      rintro l pre x a' W hl ⟨r, hr⟩ ⟨⟨hp, hB, hV, hS⟩, hBw⟩ ⟨Bx, hBx, bX, rfl⟩ hlt
      have hx0 := blk_cell bX 0
      have hx1 := blk_cell bX 1
      have hb0 := hB.cell
      have hv0 := hV.cell
      have hv1 := hV.frozen
      simp only [List.getElem?_toArray, List.getElem?_cons_zero, List.getElem?_cons_succ, Nat.reduceAdd] at hx0 hx1
      gi_wp2
      · have hx : x.2.1 = (b : Int) := by simpa using ‹(x.2.1 == (b : Int)) = true›
        exact ⟨(KeepsOthers.setCell _ _ _).from _, ⟨rfl, pre, x, rfl, hp, hx, hV.set _⟩, hBw.setCell (p := ⟨w.heap.size + 3, 0, none⟩) (by simp) _⟩
      · have hx : x.2.1 ≠ (b : Int) := by simpa using ‹(x.2.1 == (b : Int)) = false›
        exact ⟨KeepsFrom.refl _ _, KpB.r _ _ _, ⟨fun p hp' => (List.mem_append.1 hp').elim (hp p) (fun e => by simp at e; subst e; exact hx), hB, hV, hS⟩, hBw⟩
    case done =>
      rintro D ys W hD rfl ⟨⟨hp, hB, hV, hS⟩, hBw⟩ hK
      have hv0 := hV.cell
      gi_wp2
      refine ⟨by simp, .inl ⟨_, _, rfl, run_takeDeferred hK, ?_⟩⟩
      refine ⟨_, results_tmp2 rfl _ _ _, ?_, hBw.trans (belowK_b (w := w) (Nat.le_refl _) W D _ _ (by omega) hK rfl rfl)⟩
      have hall : lastP zs b v0 np = v0 := by
        rw [lastP_skip (k := np) (Nat.le_refl _) (fun j hj => ?_)]
        · simp [lastP]
        · exact hp (np - 1 - j, zs (np - 1 - j)) (by simp only [dn, List.mem_map, List.mem_range]; exact ⟨j, hj, rfl⟩)
      rw [if_pos hb, hall]
      rfl
    case stop =>
      rintro D c pre W hD ⟨k, hk, rfl⟩ ⟨⟨rfl, ini, last, e1, e2, e3, hV⟩, hBw⟩ hK
      have hv0 := hV.cell
      obtain ⟨k', rfl⟩ : ∃ k', k = k' + 1 := by
        cases k with
        | zero => simp [dn] at e1
        | succ k' => exact ⟨k', rfl⟩
      rw [dn_succ] at e1
      obtain ⟨rfl, e5⟩ := List.append_inj' e1 rfl
      obtain rfl : (np - 1 - k', zs (np - 1 - k')) = last := by simpa using e5
      have hall : lastP zs b v0 np = (zs (np - 1 - k')).2.1 := lastP_hit (k := k') (by omega) (fun j hj => e2 (np - 1 - j, zs (np - 1 - j)) (by simp only [dn, List.mem_map, List.mem_range]; exact ⟨j, hj, rfl⟩)) e3
      gi_wp2
      refine ⟨by simp, .inl ⟨_, _, rfl, run_takeDeferred hK, ?_⟩⟩
      refine ⟨_, results_tmp2 rfl _ _ _, ?_, hBw.trans (belowK_b (w := w) (Nat.le_refl _) W D _ _ (by omega) hK rfl rfl)⟩
      first | rfl | (rw [if_pos hb, hall]; rfl)
  · gi_wp2
    refine wpW_scope ?_
    gi_wp2_with (refine ⟨trivial, ?_⟩; gi_at_call 138; refine (none_in (n - 1) _ _ _ _ _ _ _ _ hnd _).mono ?_; rintro e w' ⟨rfl, rfl⟩)
    refine ⟨_, results_tmp2 rfl _ _ _, ?_, (((Below.refl _ w).alloc (Nat.le_refl _) _).alloc (by simp) _).alloc (by simp; omega) _⟩
    first | rfl | (rw [if_neg hb]; rfl)
end Go.Ab.Try
