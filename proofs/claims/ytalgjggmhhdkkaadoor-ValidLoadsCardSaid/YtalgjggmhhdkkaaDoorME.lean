/- Reading on behind the end, as reading that stops there. -/
import Derived.Test.YtalgjggmhhdkkaaDoorMD
namespace Go.Ab.Tryd
open Go.Proofs Go.Ab
set_option linter.unusedVariables false
set_option linter.unusedSimpArgs false
set_option linter.unnecessarySimpa false
def shB (sh : Bool) (l : List Int) (a : Nat) : Bool := sh || decide (l.length < a)
theorem shB_add (sh : Bool) (l : List Int) (a b : Nat) : (shB sh l a || decide ((l.drop a).length < b)) = shB sh l (a + b) := by
  unfold shB
  cases sh with
  | true => simp
  | false =>
    simp only [Bool.false_or]
    rw [Bool.eq_iff_iff]
    simp only [Bool.or_eq_true, decide_eq_true_eq, List.length_drop]
    omega
theorem drop_getD (l : List Int) (a : Nat) : (l.drop a).getD 0 0 = l.getD a 0 := by
  simp [List.getD_eq_getElem?_getD, List.getElem?_drop]
section
variable {z : Ini} {ops : Array Oper} {l : List Oper} {Q : Exit → St → Prop} {o : Oper} {t t1 : List AV} {h1 rest : List ABlk} {c0 : List AV} {x : Operand} {tys : Array TypeId} {ls : List Int} {sh : Bool}
theorem AWL.one0 (ok : OkB ls) (ho : o.op = .call ⟨.value (.func 29), #[x], tys⟩) (hw : wantB ops.toList t o.guard = some true) (hx : evO t x = .ptr 1 0)
    (ht : putT t o.dst (.pv (.int .i64 (ls.getD 0 0))) = t1) (hh : .box c0 :: .box [.pv (.str (strOf (ls.drop 1))), .pv (.bool (shB sh ls 1))] :: (rest ++ [.vec 1 [[.int .u8 (ls.getD 0 0)]]]) = h1)
    (k : AWL Tryd.prog z ops l ⟨t1, h1⟩ Q) : AWL Tryd.prog z ops (o :: l) ⟨t, .box c0 :: .box [.pv (.str (strOf ls)), .pv (.bool sh)] :: rest⟩ Q := AWL.one ok ho hw hx ht hh k
theorem AWL.oneN (a : Nat) (ok : OkB ls) (ho : o.op = .call ⟨.value (.func 29), #[x], tys⟩) (hw : wantB ops.toList t o.guard = some true) (hx : evO t x = .ptr 1 0)
    (ht : putT t o.dst (.pv (.int .i64 (ls.getD a 0))) = t1) (hh : .box c0 :: .box [.pv (.str (strOf (ls.drop (a + 1)))), .pv (.bool (shB sh ls (a + 1)))] :: (rest ++ [.vec 1 [[.int .u8 (ls.getD a 0)]]]) = h1)
    (k : AWL Tryd.prog z ops l ⟨t1, h1⟩ Q) : AWL Tryd.prog z ops (o :: l) ⟨t, .box c0 :: .box [.pv (.str (strOf (ls.drop a))), .pv (.bool (shB sh ls a))] :: rest⟩ Q :=
  AWL.one (ok.drop a) ho hw hx (by rw [drop_getD]; exact ht) (by rw [List.drop_drop, shB_add, drop_getD]; exact hh) k
theorem AWL.word0 (ok : OkB ls) (ho : o.op = .call ⟨.value (.func 30), #[x], tys⟩) (hw : wantB ops.toList t o.guard = some true) (hx : evO t x = .ptr 1 0)
    (ht : putT t o.dst (.pv (.int .u64 (numW ls))) = t1) (hh : .box c0 :: .box [.pv (.str (strOf (ls.drop 8))), .pv (.bool (shB sh ls 8))] :: (rest ++ [.vec 1 [[.int .u8 (ls.getD 0 0)], [.int .u8 (ls.getD 1 0)], [.int .u8 (ls.getD 2 0)], [.int .u8 (ls.getD 3 0)], [.int .u8 (ls.getD 4 0)], [.int .u8 (ls.getD 5 0)], [.int .u8 (ls.getD 6 0)], [.int .u8 (ls.getD 7 0)]]]) = h1)
    (k : AWL Tryd.prog z ops l ⟨t1, h1⟩ Q) : AWL Tryd.prog z ops (o :: l) ⟨t, .box c0 :: .box [.pv (.str (strOf ls)), .pv (.bool sh)] :: rest⟩ Q := AWL.word ok ho hw hx ht hh k
theorem AWL.wordN (a : Nat) (ok : OkB ls) (ho : o.op = .call ⟨.value (.func 30), #[x], tys⟩) (hw : wantB ops.toList t o.guard = some true) (hx : evO t x = .ptr 1 0)
    (ht : putT t o.dst (.pv (.int .u64 (numW (ls.drop a)))) = t1) (hh : .box c0 :: .box [.pv (.str (strOf (ls.drop (a + 8)))), .pv (.bool (shB sh ls (a + 8)))] :: (rest ++ [.vec 1 [[.int .u8 ((ls.drop a).getD 0 0)], [.int .u8 ((ls.drop a).getD 1 0)], [.int .u8 ((ls.drop a).getD 2 0)], [.int .u8 ((ls.drop a).getD 3 0)], [.int .u8 ((ls.drop a).getD 4 0)], [.int .u8 ((ls.drop a).getD 5 0)], [.int .u8 ((ls.drop a).getD 6 0)], [.int .u8 ((ls.drop a).getD 7 0)]]]) = h1)
    (k : AWL Tryd.prog z ops l ⟨t1, h1⟩ Q) : AWL Tryd.prog z ops (o :: l) ⟨t, .box c0 :: .box [.pv (.str (strOf (ls.drop a))), .pv (.bool (shB sh ls a))] :: rest⟩ Q :=
  AWL.word (ok.drop a) ho hw hx ht (by rw [List.drop_drop, shB_add]; exact hh) k
end
/-! ### The results are the same -/
def goR (sh : Bool) (r : Res) : Res := if sh = true then short else r
theorem goR_shB {sh : Bool} {l : List Int} {a : Nat} {r : Res} : goR (shB sh l a) r = goR sh (if l.length < a then short else r) := by
  unfold goR shB
  by_cases h : sh = true <;> by_cases q : l.length < a <;> simp [h, q]
theorem top_step (l : List Int) : pTop l = goR (shB false l 3) (pDisk (fun D l' => pC0 (l.getD 0 0) (l.getD 1 0) D l') (l.getD 2 0).toNat [] (l.drop 3)) := by
  match l with
  | [] => rfl
  | [a] => rfl
  | [a, b] => rfl
  | B :: C :: n :: l =>
    rw [goR_shB, if_neg (by simp)]
    rfl
theorem disk_step {sh : Bool} {k : List Int → List Int → Res} {m : Nat} {D l : List Int} (hm : 0 < m) : goR sh (pDisk k m D l) = goR (shB sh l 8) (pDisk k (m - 1) (D ++ [numW l]) (l.drop 8)) := by
  obtain ⟨m, rfl⟩ : ∃ q, m = q + 1 := ⟨m - 1, by omega⟩
  rw [goR_shB, pDisk]; rfl
theorem disk_end {sh : Bool} {k : List Int → List Int → Res} {m : Nat} {D l : List Int} (hm : m = 0) : goR sh (pDisk k m D l) = goR sh (k D l) := by subst hm; rfl
theorem code_step {sh : Bool} {k : List Ins → List Int → Res} {l : List Int} : goR sh (pCode k l) = goR (shB sh l 1) (pIns k (l.getD 0 0).toNat [] (l.drop 1)) := by
  rw [goR_shB]
  cases l with
  | nil => rfl
  | cons m l => rw [if_neg (by simp)]; rfl
theorem ins_step {sh : Bool} {k : List Ins → List Int → Res} {m : Nat} {K : List Ins} {l : List Int} (hm : 0 < m) : goR sh (pIns k m K l) = goR (shB sh l 12) (pIns k (m - 1) (K ++ [insOf l]) (l.drop 12)) := by
  obtain ⟨m, rfl⟩ : ∃ q, m = q + 1 := ⟨m - 1, by omega⟩
  rw [goR_shB, pIns]; rfl
theorem ins_end {sh : Bool} {k : List Ins → List Int → Res} {m : Nat} {K : List Ins} {l : List Int} (hm : m = 0) : goR sh (pIns k m K l) = goR sh (k K l) := by subst hm; rfl
theorem read_mag (l : List Int) : readL (66 :: 87 :: 75 :: 49 :: l) = pTop l := by
  unfold readL; simp only [pMag, if_true]
theorem mag_short {l : List Int} {i : Nat} (hi : i < 4) (h : l.length ≤ i) (hm : ∀ j, j < i → l.getD j 0 = [66, 87, 75, 49].getD j 0) : readL l = short := by
  match i, hi with
  | 0, _ =>
    have : l = [] := List.length_eq_zero_iff.1 (by omega)
    subst this; rfl
  | 1, _ =>
    match l, h, hm with
    | [], _, _ => rfl
    | [a], _, hm => have := hm 0 (by omega); simp at this; subst this; rfl
  | 2, _ =>
    match l, h, hm with
    | [], _, _ => rfl
    | [a], _, hm => have := hm 0 (by omega); simp at this; subst this; rfl
    | [a, b], _, hm => have h0 := hm 0 (by omega); have h1 := hm 1 (by omega); simp at h0 h1; subst h0; subst h1; rfl
  | 3, _ =>
    match l, h, hm with
    | [], _, _ => rfl
    | [a], _, hm => have := hm 0 (by omega); simp at this; subst this; rfl
    | [a, b], _, hm => have h0 := hm 0 (by omega); have h1 := hm 1 (by omega); simp at h0 h1; subst h0; subst h1; rfl
    | [a, b, c], _, hm => have h0 := hm 0 (by omega); have h1 := hm 1 (by omega); have h2 := hm 2 (by omega); simp at h0 h1 h2; subst h0; subst h1; subst h2; rfl
theorem mag_bad {l : List Int} {i : Nat} (hi : i < 4) (h : i < l.length) (hm : ∀ j, j < i → l.getD j 0 = [66, 87, 75, 49].getD j 0) (hb : ¬ l.getD i 0 = [66, 87, 75, 49].getD i 0) : readL l = (pg0, 12) := by
  unfold readL
  match i, hi with
  | 0, _ =>
    match l, h, hb with
    | a :: l, _, hb => simp at hb; simp [pMag, hb]
  | 1, _ =>
    match l, h, hm, hb with
    | [a], h, _, _ => simp at h
    | a :: b :: l, _, hm, hb => have h0 := hm 0 (by omega); simp at h0 hb; subst h0; simp [pMag, hb]
  | 2, _ =>
    match l, h, hm, hb with
    | [a], h, _, _ => simp at h
    | [a, b], h, _, _ => simp at h
    | a :: b :: c :: l, _, hm, hb => have h0 := hm 0 (by omega); have h1 := hm 1 (by omega); simp at h0 h1 hb; subst h0; subst h1; simp [pMag, hb]
  | 3, _ =>
    match l, h, hm, hb with
    | [a], h, _, _ => simp at h
    | [a, b], h, _, _ => simp at h
    | [a, b, c], h, _, _ => simp at h
    | a :: b :: c :: d :: l, _, hm, hb => have h0 := hm 0 (by omega); have h1 := hm 1 (by omega); have h2 := hm 2 (by omega); simp at h0 h1 h2 hb; subst h0; subst h1; subst h2; simp [pMag, hb]
theorem mag_of {l : List Int} (h : 4 ≤ l.length) (h0 : l.getD 0 0 = 66) (h1 : l.getD 1 0 = 87) (h2 : l.getD 2 0 = 75) (h3 : l.getD 3 0 = 49) : ∃ l', l = 66 :: 87 :: 75 :: 49 :: l' := by
  match l, h with
  | a :: b :: c :: d :: l, _ => simp at h0 h1 h2 h3; subst h0; subst h1; subst h2; subst h3; exact ⟨l, rfl⟩
theorem strOf_nil {l : List Int} (h : strOf l = ⟨#[]⟩) : l = [] := by
  have := congrArg ByteArray.size h
  rw [strOf_size] at this
  exact List.length_eq_zero_iff.1 this
theorem end_more {p : Pg} {l : List Int} (h : ¬ l = []) : goR false (pEnd p l) = (pg0, 5) := by
  cases l with
  | nil => exact absurd rfl h
  | cons a l => rfl
theorem sub_pg0 : Sub (.agg [.int .i64 0, .int .i64 0, .lst true 0 [], .lst true 0 [], .lst true 0 [], .lst true 0 []]) (pgV pg0) :=
  Sub.agg ⟨Sub.refl _, Sub.refl _, Sub.nil0 0 1 true, Sub.nil0 0 5 true, Sub.nil0 0 5 true, Sub.nil0 0 5 true, trivial⟩
end Go.Ab.Tryd
