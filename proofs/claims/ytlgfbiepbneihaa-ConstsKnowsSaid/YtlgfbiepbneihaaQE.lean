/- Facts of each place: rounds. -/
import Derived.Test.YtlgfbiepbneihaaQD
import Derived.Test.YtlgfbiepbneihaaLX
namespace Go.Ab.Try
open Go.Proofs Go.Ab
set_option linter.unusedVariables false
set_option linter.unusedSimpArgs false
set_option linter.unnecessarySimpa false
@[go_sem] theorem upd8_pbool (k j : Int) (x y : Bool) : upd8 k j (PV.bool x) (.bool y) = .bool (upd8 k j x y) := by unfold upd8; split <;> rfl
def zR : R8 Int := ⟨0, 0, 0, 0, 0, 0, 0, 0⟩
theorem rep_f {n : Nat} {R : List Fa} (hR : R = List.replicate n botF) : List.replicate (n + 1) [PV.bool false, .bool false, .bool false, .bool false, .bool false, .bool false, .bool false, .bool false, .bool false, .int .u64 0, .int .u64 0, .int .u64 0, .int .u64 0, .int .u64 0, .int .u64 0, .int .u64 0, .int .u64 0] = [PV.bool false, .bool false, .bool false, .bool false, .bool false, .bool false, .bool false, .bool false, .bool false, .int .u64 0, .int .u64 0, .int .u64 0, .int .u64 0, .int .u64 0, .int .u64 0, .int .u64 0, .int .u64 0] :: R.map fR := by
  rw [hR, List.map_replicate]; rfl
theorem beg_rows {code : List Ins} {R : List Fa} (hR : R = List.replicate code.length botF) : (begK code).map fR = [PV.bool true, .bool true, .bool true, .bool true, .bool true, .bool true, .bool true, .bool true, .bool true, .int .u64 0, .int .u64 0, .int .u64 0, .int .u64 0, .int .u64 0, .int .u64 0, .int .u64 0, .int .u64 0] :: R.map fR := by
  rw [hR]; rfl
def WX (X : List Fa) : Prop := ∀ (k : Nat) (j : Int), InR8 j → W64 ((X.getD k botF).val.get j)
theorem w_bot {j : Int} (hj : InR8 j) : W64 (botF.val.get j) := by rcases hj.cases with rfl | rfl | rfl | rfl | rfl | rfl | rfl | rfl <;> exact w0
theorem w_beg {j : Int} (hj : InR8 j) : W64 (begF.val.get j) := by rcases hj.cases with rfl | rfl | rfl | rfl | rfl | rfl | rfl | rfl <;> exact w0
theorem wx_beg (code : List Ins) : WX (begK code) := fun k j hj => by
  rw [begK_at]; split
  · exact w_beg hj
  · exact w_bot hj
theorem w_setF {f : Fa} {a x : Int} {b : Bool} (ha : InR8 a) (h : ∀ j, InR8 j → W64 (f.val.get j)) (hx : W64 x) : ∀ j, InR8 j → W64 ((setF f a b x).val.get j) := fun j hj => by
  rw [(set_get ha hj).2]; split
  · split
    · exact hx
    · exact w0
  · exact h j hj
theorem w_stepF {op a b c m : Int} {f : Fa} (hm : W64 m) (h : ∀ j, InR8 j → W64 (f.val.get j)) : ∀ j, InR8 j → W64 ((stepF op a b c m f).val.get j) := by
  unfold stepF
  by_cases q : f.met = true ∧ namS op a b c
  · rw [if_pos q]
    unfold stepG
    have ha := q.2.2.2.1
    split; · exact w_setF ha h hm
    split; · exact w_setF ha h (h b q.2.2.2.2.1)
    split; · exact w_setF ha h (bin_w _ _ _)
    split; · exact w_setF ha h (un_w _ _)
    split; · exact w_setF ha h w0
    exact h
  · rw [if_neg q]; exact h
theorem w_joinF {a b : Fa} (ha : ∀ j, InR8 j → W64 (a.val.get j)) (hb : ∀ j, InR8 j → W64 (b.val.get j)) : ∀ j, InR8 j → W64 ((joinF a b).val.get j) := by
  unfold joinF
  split; · exact hb
  split; · exact ha
  intro j hj
  show W64 ((R8.of fun r => if sameR a b r = true then a.val.get r else 0).get j)
  rw [R8.get_of _ hj]; split
  · exact ha j hj
  · exact w0
section
variable {code : List Ins} {X X2 X3 : List Fa} {pc to : Int}
theorem code_w (hc : OkC code) (hp : 0 ≤ pc ∧ pc < code.length) : W64 (code.getD pc.toNat i0).2.2.2.2 := hc _ (getD_mem (by omega))
theorem wx_upd (hc : OkC code) (hp : 0 ≤ pc ∧ pc < code.length) (hl : X.length = code.length + 1) (ht : 0 ≤ to ∧ to ≤ code.length) (h : WX X) : WX (updK code X pc to) := fun k => by
  rw [upd_at hl ht]; split
  · exact w_joinF (h _) (w_stepF (code_w hc hp) (h _))
  · exact h k
@[go_sem] def eqF (f g : Fa) : Bool := (f.met == g.met) && ((f.is.a == g.is.a) && ((f.is.b == g.is.b) && ((f.is.c == g.is.c) && ((f.is.d == g.is.d) && ((f.is.e == g.is.e) && ((f.is.f == g.is.f) && ((f.is.g == g.is.g) && ((f.is.h == g.is.h) && (decide (f.val.a = g.val.a) && (decide (f.val.b = g.val.b) && (decide (f.val.c = g.val.c) && (decide (f.val.d = g.val.d) && (decide (f.val.e = g.val.e) && (decide (f.val.f = g.val.f) && (decide (f.val.g = g.val.g) && (decide (f.val.h = g.val.h)))))))))))))))))
theorem eqR_iff {x y : R8 Int} : eqR x y = true ↔ x = y := by cases x; cases y; simp [eqR, R8.mk.injEq]
theorem eqF_iff {f g : Fa} : eqF f g = true ↔ f = g := by
  obtain ⟨a, ⟨_, _, _, _, _, _, _, _⟩, ⟨_, _, _, _, _, _, _, _⟩⟩ := f; obtain ⟨a', ⟨_, _, _, _, _, _, _, _⟩, ⟨_, _, _, _, _, _, _, _⟩⟩ := g
  simp [eqF, Fa.mk.injEq, R8.mk.injEq, and_assoc]
theorem top_of {B : B8} {r : Int} (h : ∀ j, InR8 j → B.get j = decide (j < r)) (hr : 8 ≤ r) : B = topB := R8.ext_get fun j hj => by
  rw [h j hj, decide_eq_true (by have := hj.2; omega)]
  rcases hj.cases with rfl | rfl | rfl | rfl | rfl | rfl | rfl | rfl <;> rfl
theorem none_of {j : Int} (hj : InR8 j) : noB.get j = decide (j < 0) := by rw [noB_get hj, decide_eq_false (by have := hj.1; omega)]
theorem top_next {B : B8} {r : Int} (h : ∀ j, InR8 j → B.get j = decide (j < r)) (hr : InR8 r) : ∀ j, InR8 j → (B.put r true).get j = decide (j < r + 1) := fun j hj => by
  rw [B.get_put hr hj]; split
  · rename_i e; subst e; rw [decide_eq_true (by omega)]
  · rename_i e; rw [h j hj]; exact decide_eq_decide.2 ⟨fun q => by omega, fun q => by omega⟩
variable {ag : Bool} {k : Int}
def Prt (code : List Ins) (X : List Fa) (pc k : Int) : Prop := ∀ i : Nat, (i : Int) < k → LeF (stF code pc (X.getD pc.toNat botF)) (X.getD ((nextS code pc).getD i 0).toNat botF)
theorem prt_all (h : Prt code X pc k) (hk : ((nextS code pc).length : Int) ≤ k) : ClK code X pc := fun to ht => by
  obtain ⟨i, hi, e⟩ := List.getElem_of_mem ht
  have := h i (by omega)
  have e2 : (nextS code pc).getD i 0 = to := by rw [List.getD_eq_getElem?_getD, List.getElem?_eq_getElem hi]; exact e
  rw [e2] at this; exact this
theorem prt_no (h : (X.getD pc.toNat botF).met = false) : ClK code X pc := fun to _ q => by
  have : (stF code pc (X.getD pc.toNat botF)).met = (X.getD pc.toNat botF).met := step_met
  rw [this, h] at q; cases q
theorem prt_next (h : Prt code X pc k) (h0 : 0 ≤ k) (e : joinF (X.getD ((nextS code pc).getD k.toNat 0).toNat botF) (stF code pc (X.getD pc.toNat botF)) = X.getD ((nextS code pc).getD k.toNat 0).toNat botF) : Prt code X pc (k + 1) := fun i hi => by
  by_cases q : (i : Int) < k
  · exact h i q
  · have : i = k.toNat := by omega
    subst this; exact le_of_join e
theorem done_pc (h : ∀ j : Nat, (j : Int) < pc → ClK code X j) (h0 : 0 ≤ pc) (hp : ClK code X pc) : ∀ j : Nat, (j : Int) < pc + 1 → ClK code X j := fun j hj => by
  by_cases q : (j : Int) < pc
  · exact h j q
  · rwa [show (j : Int) = pc by omega]
theorem sol_of (h : LowK code X) (hd : ∀ j : Nat, (j : Int) < pc → ClK code X j) (hp : (code.length : Int) ≤ pc) : SolK code X := ⟨h.len, h.beg, fun j hj => hd j (by omega)⟩
theorem cl_exit (h : Prt code X pc k) (hx : k < ((nextS code pc).length : Int) → (X.getD pc.toNat botF).met = false) : ClK code X pc := by
  by_cases q : k < ((nextS code pc).length : Int)
  · exact prt_no (hx q)
  · exact prt_all h (by omega)
theorem rnk_le {ag3 : Bool} (k4 : ag3 = false → X3 = X) (k5 : ag3 = true → rnkS X3 < rnkS X) : rnkS X3 ≤ rnkS X := by
  cases h : ag3
  · rw [k4 h]; exact Nat.le_refl _
  · exact Nat.le_of_lt (k5 h)
theorem krnk_meas {ag ag2 : Bool} (k4 : ag2 = false → X2 = X) (k5 : ag2 = true → rnkS X2 < rnkS X) (h : ag = true) : 2 * rnkS X2 + (if ag2 = true then 1 else 0) < 2 * rnkS X + (if ag = true then 1 else 0) := by
  rw [if_pos h]
  cases hg : ag2
  · rw [k4 hg, if_neg (by simp)]; omega
  · have := k5 hg; rw [if_pos rfl]; omega
end
section
variable {code : List Ins} {X X2 : List Fa} {pc to : Int} {wt wt2 : List Int} {i : Int}
theorem next_pos (h : to ∈ nextS code pc) : 0 ≤ pc ∧ pc < code.length := by
  unfold nextS at h; split at h
  · rename_i hm; exact ⟨hm.1, hm.2.1⟩
  · simp at h
def Wai (code : List Ins) (X : List Fa) (wt : List Int) : Prop := (∀ q ∈ wt, 0 ≤ q ∧ q ≤ (code.length : Int)) ∧ ∀ q : Nat, q < code.length → (q : Int) ∈ wt ∨ ClK code X q
structure Wai2 (code : List Ins) (X : List Fa) (pc i : Int) (wt : List Int) : Prop where
  rg : ∀ q ∈ wt, 0 ≤ q ∧ q ≤ (code.length : Int)
  cl : ∀ q : Nat, q < code.length → ¬ (q : Int) = pc → (q : Int) ∈ wt ∨ ClK code X q
  pr : pc ∈ wt ∨ Prt code X pc i
theorem wai_beg (code : List Ins) : Wai code (begK code) [0] := by
  refine ⟨fun q hq => by simp at hq; omega, fun q hq => ?_⟩
  by_cases e : q = 0
  · subst e; exact .inl (by simp)
  · exact .inr (prt_no (by rw [begK_at, if_neg (by omega)]; rfl))
theorem wai_pop {hd : Int} {tl : List Int} (h : Wai code X (hd :: tl)) : Wai2 code X hd 0 tl :=
  ⟨fun q hq => h.1 q (by simp [hq]), fun q hq hne => by
    rcases h.2 q hq with k | k
    · rcases List.mem_cons.1 k with e | e
      · exact absurd e hne
      · exact .inl e
    · exact .inr k, .inr fun j hj => by omega⟩
theorem wai_end (h : Wai2 code X pc i wt) (hi : ((nextS code pc).length : Int) ≤ i) : Wai code X wt :=
  ⟨h.rg, fun q hq => by
    by_cases e : (q : Int) = pc
    · rw [e]; exact h.pr.imp id (fun k => prt_all k hi)
    · exact h.cl q hq e⟩
theorem wai_keep (h : Wai2 code X pc i wt) (h0 : 0 ≤ i) (e : joinF (X.getD ((nextS code pc).getD i.toNat 0).toNat botF) (stF code pc (X.getD pc.toNat botF)) = X.getD ((nextS code pc).getD i.toNat 0).toNat botF) : Wai2 code X pc (i + 1) wt :=
  ⟨h.rg, h.cl, h.pr.imp id (fun k => prt_next k h0 e)⟩
theorem wai_upd (h : Wai2 code X pc i wt) (hl : X.length = code.length + 1) (h0 : 0 ≤ i) (hto : 0 ≤ (nextS code pc).getD i.toNat 0 ∧ (nextS code pc).getD i.toNat 0 ≤ code.length) (hp : 0 ≤ pc) :
    Wai2 code (updK code X pc ((nextS code pc).getD i.toNat 0)) pc (i + 1) (wt ++ [(nextS code pc).getD i.toNat 0]) := by
  generalize hT : (nextS code pc).getD i.toNat 0 = T at hto ⊢
  have KEEP : ∀ q : Int, 0 ≤ q → ¬ q = T → (updK code X pc T).getD q.toNat botF = X.getD q.toNat botF := fun q hq hne => by rw [upd_at hl hto, if_neg (by omega)]
  refine ⟨fun q hq => ?_, fun q hq hne => ?_, ?_⟩
  · rcases List.mem_append.1 hq with k | k
    · exact h.rg q k
    · rw [List.mem_singleton] at k; subst k; exact hto
  · rcases h.cl q hq hne with k | k
    · exact .inl (by simp [k])
    · by_cases e : (q : Int) = T
      · exact .inl (by simp [e])
      · refine .inr fun t ht => ?_
        have := KEEP q (by omega) e
        rw [this]
        exact (k t ht).trans (upd_le hl hto _)
  · rcases h.pr with k | k
    · exact .inl (by simp [k])
    · by_cases e : pc = T
      · exact .inl (by simp [e])
      · refine .inr fun j hj => ?_
        rw [KEEP pc hp e]
        by_cases q : (j : Int) < i
        · exact (k j q).trans (upd_le hl hto _)
        · have ej : j = i.toNat := by omega
          subst ej
          rw [hT, upd_at hl hto, if_pos rfl]
          exact le_join2
theorem wai_sol (h : Wai code X []) (hl : LowK code X) : SolK code X := ⟨hl.len, hl.beg, fun q hq => by
  rcases h.2 q hq with k | k
  · simp at k
  · exact k⟩
theorem ne_cons {l : List Int} (h : 0 < (l.length : Int)) : ∃ a b, l = a :: b := by cases l with | nil => simp at h | cons a b => exact ⟨a, b, rfl⟩
theorem eq_nil {l : List Int} (h : ¬ 0 < (l.length : Int)) : l = [] := List.eq_nil_of_length_eq_zero (by omega)
theorem rnk_beg (code : List Ins) : rnkS (begK code) ≤ 9 * (code.length + 1) := by
  have : ∀ l : List Fa, rnkS l ≤ 9 * l.length := fun l => by
    induction l with
    | nil => simp [rnkS]
    | cons x l ih =>
      have : rankF x ≤ 9 := by unfold rankF; split <;> omega
      simp only [rnkS, List.map_cons, List.sum_cons, List.length_cons] at ih ⊢
      omega
  have := this (begK code)
  rwa [show (begK code).length = code.length + 1 by simp [begK]] at this
end
end Go.Ab.Try
