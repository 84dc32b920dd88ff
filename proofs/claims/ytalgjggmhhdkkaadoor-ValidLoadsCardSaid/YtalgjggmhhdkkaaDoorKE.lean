/- Guards that are left, ranges, tables, interfaces. -/
import Derived.Test.YtalgjggmhhdkkaaDoorKD
import Derived.MapFrom
import Derived.Maps.RangeRun
import Derived.Lib.SlBytesConst
import Derived.Lib.BufferWrite
namespace Go.Ab
open Go.RowKit
set_option linter.unusedVariables false
set_option linter.unusedSimpArgs false
def InR8 (j : Int) : Prop := 0 ≤ j ∧ j < 8
def sel8 {α : Type} (j : Int) (a b c d e f g h : α) : α := if j = 0 then a else if j = 1 then b else if j = 2 then c else if j = 3 then d else if j = 4 then e else if j = 5 then f else if j = 6 then g else h
def upd8 {α : Type} (k j : Int) (x y : α) : α := if j = k then y else x
theorem InR8.cases {j : Int} (h : InR8 j) : j = 0 ∨ j = 1 ∨ j = 2 ∨ j = 3 ∨ j = 4 ∨ j = 5 ∨ j = 6 ∨ j = 7 := by unfold InR8 at h; omega
@[go_sem] theorem get8 {α : Type} {j : Int} (hj : InR8 j) (a b c d e f g h : α) (r : List α) : (a :: b :: c :: d :: e :: f :: g :: h :: r)[j.toNat]? = some (sel8 j a b c d e f g h) := by
  rcases hj.cases with rfl | rfl | rfl | rfl | rfl | rfl | rfl | rfl <;> rfl
@[go_sem] theorem set8 {α : Type} {j : Int} (hj : InR8 j) (a b c d e f g h y : α) (r : List α) : (a :: b :: c :: d :: e :: f :: g :: h :: r).set j.toNat y =
    upd8 0 j a y :: upd8 1 j b y :: upd8 2 j c y :: upd8 3 j d y :: upd8 4 j e y :: upd8 5 j f y :: upd8 6 j g y :: upd8 7 j h y :: r := by
  rcases hj.cases with rfl | rfl | rfl | rfl | rfl | rfl | rfl | rfl <;> rfl
@[go_sem] theorem sel8_int (j : Int) (k : IntKind) (a b c d e f g h : Int) : sel8 j (AV.pv (.int k a)) (.pv (.int k b)) (.pv (.int k c)) (.pv (.int k d)) (.pv (.int k e)) (.pv (.int k f)) (.pv (.int k g)) (.pv (.int k h)) = .pv (.int k (sel8 j a b c d e f g h)) := by
  unfold sel8; repeat' split
  all_goals rfl
@[go_sem] theorem sel8_bool (j : Int) (a b c d e f g h : Bool) : sel8 j (AV.pv (.bool a)) (.pv (.bool b)) (.pv (.bool c)) (.pv (.bool d)) (.pv (.bool e)) (.pv (.bool f)) (.pv (.bool g)) (.pv (.bool h)) = .pv (.bool (sel8 j a b c d e f g h)) := by
  unfold sel8; repeat' split
  all_goals rfl
@[go_sem] theorem upd8_int (k j : Int) (q : IntKind) (x y : Int) : upd8 k j (AV.pv (.int q x)) (.pv (.int q y)) = .pv (.int q (upd8 k j x y)) := by unfold upd8; split <;> rfl
@[go_sem] theorem upd8_bool (k j : Int) (x y : Bool) : upd8 k j (AV.pv (.bool x)) (.pv (.bool y)) = .pv (.bool (upd8 k j x y)) := by unfold upd8; split <;> rfl
theorem InR8.lo {j : Int} (h : InR8 j) : 0 ≤ j := h.1
theorem InR8.hi {j : Int} (h : InR8 j) : j < 8 := h.2
end Go.Ab
namespace Go.Ab
open Go.RowKit
set_option linter.unusedVariables false
set_option linter.unusedSimpArgs false
set_option linter.unnecessarySimpa false

section
variable {P : Program} {ops opsA : Array Oper} {Q Q' : Exit → Act → World → Prop}
theorem wpOp_monoQ {i : Nat} {a : Act} {w : World} {K K' : Act → World → Prop} (h : ∀ a w, K a w → K' a w) (hQ : ∀ e a w, e ≠ .normal → Q e a w → Q' e a w) (hh : wpOp P ops Q i K a w) : wpOp P ops Q' i K' a w := by
  have hl : LetsOut Q → LetsOut Q' := fun ⟨a, w, q⟩ => ⟨a, w, hQ _ _ _ (by intro h; cases h) q⟩
  unfold wpOp at *
  split
  · exact h _ _ (by simpa [*] using hh)
  · rename_i o ho
    simp only [ho] at hh
    split
    · rename_i hw; simp only [hw, if_true] at hh
      rcases hh with hh | ⟨h1, h2⟩
      · left
        unfold Oper.wp at *
        generalize (execOp a.eval o).run P w = r at *
        cases r with
        | ok n w' =>
          cases n <;> simp only [Oper.upon] at hh ⊢ <;> first
            | exact h _ _ hh
            | exact Calls.mono hh (fun e w'' he => by cases e <;> first | exact h _ _ he | exact hQ _ _ _ (by intro h; cases h) he | exact hl he)
            | exact Rows.mono hh (fun _ _ he => h _ _ he)
        | halt x w' => cases x <;> simp only [Oper.upon] at hh ⊢ <;> first | exact hQ _ _ _ (by intro h; cases h) hh | exact hh.elim
      · exact .inr ⟨h1, hl h2⟩
    · rename_i hw; simp only [hw] at hh; exact h _ _ hh

def backB (ops : List Oper) : Bool := ops.zipIdx.all fun (o, j) => o.after.all (fun e => !Region.binds .any e || decide (e.on < j)) && (match o.guard with | none => true | some (m, _) => decide (m < j))
/-- Every operation from the n-th on waits for all that stand ahead of it. -/
def splitB (ops : List Oper) (n : Nat) : Bool := backB ops && decide (n ≤ ops.length) && (List.range ops.length).all fun j => decide (j < n) || (List.range j).all fun i => ((befs [] ops).getD j 0).testBit i
theorem back_of {ops : List Oper} (h : backB ops = true) {j : Nat} {o : Oper} (ho : ops[j]? = some o) : (∀ e ∈ o.after, Region.binds .any e = true → e.on < j) ∧ ∀ m b, o.guard = some (m, b) → m < j := by
  have := zipIdx_all h ho
  simp only [Bool.and_eq_true] at this
  refine ⟨fun e he hb => ?_, fun m b hg => ?_⟩
  · have h1 := this.1
    rw [Array.all_eq_true_iff_forall_mem] at h1
    have := h1 e he
    simp only [hb, Bool.not_true, Bool.false_or, decide_eq_true_eq] at this
    exact this
  · have h2 := this.2
    rw [hg] at h2
    simpa using h2
theorem split_of {ops : List Oper} {n : Nat} (h : splitB ops n = true) : backB ops = true ∧ n ≤ ops.length ∧ ∀ j, n ≤ j → j < ops.length → ∀ i, i < j → ((befs [] ops).getD j 0).testBit i = true := by
  simp only [splitB, Bool.and_eq_true, decide_eq_true_eq, List.all_eq_true, List.mem_range, Bool.or_eq_true] at h
  refine ⟨h.1.1, h.1.2, fun j hj hl i hi => ?_⟩
  rcases h.2 j hl with h1 | h1
  · omega
  · exact h1 i hi

def Clo (ops : Array Oper) (l : Array Bool) : Prop := ∀ j o, ops.toList[j]? = some o → l.getD j false = true → ∀ e ∈ o.after, Region.binds .any e = true → l.getD e.on false = true
theorem getD_tf {l : Array Bool} {i : Nat} (h : i < l.size) : l.getD i true = l.getD i false := by simp [h]
theorem ready_lt {l : Array Bool} {j : Nat} (hl : l.size = ops.size) (h : j ∈ Region.ready .any ops l) : j < ops.size ∧ l.getD j false = false := by
  rw [mem_ready] at h
  obtain ⟨h1, o, h2, _⟩ := h
  have hj : j < ops.size := (Array.getElem?_eq_some_iff.1 h2).1
  exact ⟨hj, by rw [← getD_tf (by omega)]; exact h1⟩
/-- What comes up has all come up for which it waits, nearly or far. -/
theorem ready_befs {l : Array Bool} {j : Nat} (hc : Clo ops l) (h : j ∈ Region.ready .any ops l) : ∀ i, ((befs [] ops.toList).getD j 0).testBit i = true → l.getD i false = true := by
  rw [mem_ready] at h
  obtain ⟨_, o, h2, h3⟩ := h
  exact fun i hi => befs_closed (L := fun i => l.getD i false) hc j o (by simpa using h2) h3 i hi
theorem Clo.set {l : Array Bool} {j : Nat} (hl : l.size = ops.size) (hc : Clo ops l) (h : j ∈ Region.ready .any ops l) : Clo ops (l.setIfInBounds j true) := by
  intro i oi hoi hL e' he' hb
  by_cases hij : j = i
  · subst hij
    rw [mem_ready] at h
    obtain ⟨_, o, h2, h3⟩ := h
    have : ops.toList[j]? = some o := by simpa using h2
    rw [hoi] at this; injection this with this; subst this
    exact getD_set_true (h3 e' he' hb)
  · rw [getD_set_ne false hij] at hL
    exact getD_set_true (hc i oi hoi hL e' he' hb)
theorem all_of_nil {l : Array Bool} (hb : backB ops.toList = true) (hl : l.size = ops.size) (hnil : Region.ready .any ops l = []) : ∀ i, i < ops.size → l.getD i false = true := by
  intro i
  induction i using Nat.strongRecOn with
  | ind i ih =>
    intro hi
    cases hx : l.getD i false with
    | true => rfl
    | false =>
      exfalso
      have ho : ops[i]? = some ops[i] := Array.getElem?_eq_getElem hi
      have : i ∈ Region.ready .any ops l := by
        rw [mem_ready]
        refine ⟨by rw [getD_tf (by omega)]; exact hx, _, ho, fun e he hbi => ?_⟩
        have := (back_of hb (j := i) (o := ops[i]) (by simpa using ho)).1 e he hbi
        exact ih e.on this (by omega)
      rw [hnil] at this; cases this
/-- One after another. -/
theorem any_chain {n : Nat} (hs : splitB ops.toList n = true) : ∀ (d k fuel : Nat) (l : Array Bool) (a : Act) (w : World), d + k = ops.size → n ≤ k → d ≤ fuel → l.size = ops.size → (∀ i, i < ops.size → l.getD i false = decide (i < k)) → Clo ops l →
    wpList P ops Q (ops.toList.drop k) a w → wpAny P .any ops Q fuel l a w := by
  obtain ⟨hb, hn, hw⟩ := split_of hs
  have hlen : ops.toList.length = ops.size := by simp
  intro d
  induction d with
  | zero =>
    intro k fuel l a w hd hk hf hl hv hc h
    have hnil : Region.ready .any ops l = [] := by
      cases hr : Region.ready .any ops l with
      | nil => rfl
      | cons j r =>
        have hj := ready_lt hl (j := j) (by rw [hr]; simp)
        rw [hv j hj.1] at hj
        have := hj.2; simp at this; omega
    rw [List.drop_of_length_le (by omega)] at h
    cases fuel with
    | zero => exact ⟨hnil, h⟩
    | succ fuel => exact ⟨fun _ => h, fun j hj => by rw [hnil] at hj; cases hj⟩
  | succ d ih =>
    intro k fuel l a w hd hk hf hl hv hc h
    have hklt : k < ops.size := by omega
    cases fuel with
    | zero => omega
    | succ fuel =>
      have ho : ops[k]? = some ops[k] := Array.getElem?_eq_getElem hklt
      have ho' : ops.toList[k]? = some ops[k] := by simpa using ho
      refine ⟨fun hnil => ?_, fun j hj => ?_⟩
      · have := all_of_nil hb hl hnil k hklt
        rw [hv k hklt] at this; simp at this
      · obtain ⟨hj1, hj2⟩ := ready_lt hl hj
        have hjk : j = k := by
          rcases Nat.lt_trichotomy j k with g | g | g
          · rw [hv j hj1] at hj2; simp at hj2; omega
          · exact g
          · have := ready_befs hc hj k (hw j (by omega) (by omega) k g)
            rw [hv k hklt] at this; simp at this
        subst hjk
        have hdrop : ops.toList.drop j = ops[j] :: ops.toList.drop (j + 1) := by
          rw [List.drop_eq_getElem_cons (by omega)]; simp
        rw [hdrop] at h
        have h2 : wpOp P ops Q j (wpList P ops Q (ops.toList.drop (j + 1))) a w := by
          unfold wpOp
          simp only [ho]
          exact h
        refine wpOp_mono (fun a' w' h' => ih (j + 1) fuel _ a' w' (by omega) (by omega) (by omega) (by simpa using hl) (fun i hi => ?_) (hc.set hl hj) h') h2
        by_cases hij : j = i
        · subst hij
          have : j < l.size := by omega
          simp [this]
        · rw [getD_set_ne false hij, hv i hi]
          rw [decide_eq_decide]; omega
/-- First what is waited for. -/
theorem any_split {n : Nat} (hs : splitB ops.toList n = true) (hA : opsA.size = n) (hAo : ∀ i, i < n → opsA[i]? = ops[i]?) {QA : Exit → Act → World → Prop} (hQ : ∀ e a w, e ≠ .normal → QA e a w → Q e a w) (hrest : ∀ a w, QA .normal a w → wpList P ops Q (ops.toList.drop n) a w) :
    ∀ (fuel : Nat) (lA l : Array Bool) (a : Act) (w : World), lA.size = n → l.size = ops.size → (∀ i, i < n → l.getD i false = lA.getD i false) → (∀ i, n ≤ i → i < ops.size → l.getD i false = false) → Clo ops l →
    wpAny P .any opsA QA fuel lA a w → wpAny P .any ops Q (fuel + (ops.size - n)) l a w := by
  obtain ⟨hb, hn, hw⟩ := split_of hs
  have hlen : ops.toList.length = ops.size := by simp
  have hbA : backB opsA.toList = true := by
    simp only [backB, List.all_eq_true]
    rintro ⟨o, j⟩ hm
    rw [List.mk_mem_zipIdx_iff_getElem?] at hm
    have hjn : j < n := by have := (List.getElem?_eq_some_iff.1 hm).1; simp at this; omega
    have h1 : ops.toList[j]? = some o := by have := hAo j hjn; simp at hm; rw [hm] at this; simpa using this.symm
    have := back_of hb h1
    simp only [Bool.and_eq_true]
    refine ⟨?_, ?_⟩
    · rw [Array.all_eq_true_iff_forall_mem]
      intro e he
      cases hbi : Region.binds .any e
      · rfl
      · simp [this.1 e he hbi]
    · cases hg : o.guard with
      | none => rfl
      | some mb => obtain ⟨m, b⟩ := mb; simp [this.2 m b hg]
  have sub : ∀ (lA l : Array Bool), lA.size = n → l.size = ops.size → (∀ i, i < n → l.getD i false = lA.getD i false) → Clo ops l → (∃ i, i < n ∧ l.getD i false = false) → ∀ j, j ∈ Region.ready .any ops l ↔ j ∈ Region.ready .any opsA lA := by
    intro lA l hlA hl hv hc ⟨i, hi, hx⟩ j
    constructor
    · intro hj
      have hj1 := ready_lt hl hj
      have hjn : j < n := by
        rcases Nat.lt_or_ge j n with g | g
        · exact g
        · have := ready_befs hc hj i (hw j g (by omega) i (by omega))
          rw [hx] at this; cases this
      rw [mem_ready] at hj ⊢
      obtain ⟨h1, o, h2, h3⟩ := hj
      refine ⟨by rw [getD_tf (by omega), ← hv j hjn]; exact hj1.2, o, by rw [hAo j hjn]; exact h2, fun e he hbi => ?_⟩
      have hlt := (back_of hb (j := j) (o := o) (by simpa using h2)).1 e he hbi
      rw [← hv _ (by omega)]; exact h3 e he hbi
    · intro hj
      have hj1 := ready_lt (ops := opsA) (by omega) hj
      have hjn : j < n := by omega
      rw [mem_ready] at hj ⊢
      obtain ⟨h1, o, h2, h3⟩ := hj
      refine ⟨by rw [getD_tf (by omega), hv j hjn]; exact hj1.2, o, by rw [← hAo j hjn]; exact h2, fun e he hbi => ?_⟩
      have hlt := (back_of hbA (j := j) (o := o) (by simpa using h2)).1 e he hbi
      rw [hv _ (by omega)]; exact h3 e he hbi
  have done : ∀ (fuel : Nat) (l : Array Bool) (a : Act) (w : World), ops.size - n ≤ fuel → l.size = ops.size → (∀ i, i < n → l.getD i false = true) → (∀ i, n ≤ i → i < ops.size → l.getD i false = false) → Clo ops l → QA .normal a w → wpAny P .any ops Q fuel l a w := by
    intro fuel l a w hf hl hv hv2 hc h
    refine any_chain hs (ops.size - n) n fuel l a w (by omega) (Nat.le_refl _) hf hl (fun i hi => ?_) hc (hrest a w h)
    by_cases g : i < n
    · rw [hv i g]; simp [g]
    · rw [hv2 i (by omega) hi]; simp [g]
  have conv : ∀ (j : Nat) (K : Act → World → Prop) (a : Act) (w : World), j < n → wpOp P opsA QA j K a w → wpOp P ops QA j K a w := by
    intro j K a w hj h
    have ho : ops[j]? = some ops[j] := Array.getElem?_eq_getElem (by omega)
    unfold wpOp at *
    rw [hAo j hj] at h
    rw [ho] at h ⊢
    simp only at h ⊢
    have : Region.wanted ops[j] (yielded ops a.tmps) = Region.wanted ops[j] (yielded opsA a.tmps) := by
      unfold Region.wanted
      cases hg : ops[j].guard with
      | none => rfl
      | some mb =>
        obtain ⟨m, b⟩ := mb
        have hm := (back_of hb (j := j) (o := ops[j]) (by simpa using ho)).2 m b hg
        simp only [yielded, hAo m (by omega)]
    rw [this]; exact h
  intro fuel
  induction fuel with
  | zero =>
    intro lA l a w hlA hl hv hv2 hc h
    have hall := all_of_nil hbA (l := lA) (by omega) h.1
    exact done _ l a w (by omega) hl (fun i hi => by rw [hv i hi]; exact hall i (by omega)) hv2 hc h.2
  | succ fuel ih =>
    intro lA l a w hlA hl hv hv2 hc h
    by_cases hall : ∀ i, i < n → l.getD i false = true
    · refine done _ l a w (by omega) hl hall hv2 hc (h.1 ?_)
      cases hr : Region.ready .any opsA lA with
      | nil => rfl
      | cons j r =>
        have hj := ready_lt (ops := opsA) (l := lA) (by omega) (j := j) (by rw [hr]; simp)
        rw [← hv j (by omega), hall j (by omega)] at hj
        cases hj.2
    · have hex : ∃ i, i < n ∧ l.getD i false = false := by
        refine Classical.byContradiction fun hne => hall fun i hi => ?_
        cases hx : l.getD i false with
        | true => rfl
        | false => exact absurd ⟨i, hi, hx⟩ hne
      have hsub := sub lA l hlA hl hv hc hex
      rw [show fuel + 1 + (ops.size - n) = (fuel + (ops.size - n)) + 1 by omega]
      refine ⟨fun hnil => ?_, fun j hj => ?_⟩
      · obtain ⟨i, hi, hx⟩ := hex
        have := all_of_nil hb hl hnil i (by omega)
        rw [hx] at this; cases this
      · have hj' := (hsub j).1 hj
        have hjn : j < n := by have := ready_lt (ops := opsA) (l := lA) (by omega) hj'; omega
        refine wpOp_monoQ (fun a' w' h' => ih _ _ a' w' (by simpa using hlA) (by simpa using hl) (fun i hi => ?_) (fun i h1 h2 => ?_) (hc.set hl hj) h') hQ (conv j _ a w hjn (h.2 j hj'))
        · by_cases hij : j = i
          · subst hij
            have g1 : j < l.size := by omega
            have g2 : j < lA.size := by omega
            simp [g1, g2]
          · rw [getD_set_ne false hij, getD_set_ne false hij]; exact hv i hi
        · rw [getD_set_ne false (by omega)]; exact hv2 i h1 h2
end

section
variable {P : Program} {z : Ini} {ops pre post : List Oper} {id n : Nat} {t : List AV} {h : List ABlk} {Q : Exit → St → Prop} {t2 : List AV} {g1 : List (Nat × Path)} {i : Nat}
theorem AW.regDC (n : Nat) (hm : P.follows .mixedOrders = true) (hs : splitB ops n = true) (hp : ops.take n = pre) (hq : ops.drop n = post) (hd : distinctB pre = true)
    (k : ARE P z pre 0 pre ⟨t, [], h⟩ [] (fun es s => drawOk pre (dsOf es) = true ∧ AWL P z ops.toArray post ⟨cleanT s.g s.t, s.h⟩ Q)) : AW P z (.region id ops.toArray true) ⟨t, h⟩ Q := fun c a w s => by
  obtain ⟨es, s', hr, hk, hQ⟩ := ARE.of k
  refine wp_region_any hm ?_
  have hn := (split_of hs).2.1
  have h1 := AW.anyD (opsA := pre.toArray) (σ := ⟨t, h⟩) (Q := fun e σ => (e = .normal ∧ σ = ⟨cleanT s'.g s'.t, s'.h⟩) ∨ (e ≠ .normal ∧ Q e σ)) hm (es := es) (s' := s') (by simpa using hr) (by simpa using hd) (by simpa using hk) (.inl ⟨rfl, rfl⟩) c a w s
  have hsz : pre.toArray.size = n := by subst hp; simp; omega
  have := any_split (P := P) (ops := ops.toArray) (opsA := pre.toArray) (n := n) (Q := lift z Q) (by simpa using hs) hsz (fun i hi => by subst hp; simp [List.getElem?_take_of_lt hi])
    (fun e a w he ⟨σ, c, q, s⟩ => by
      rcases q with ⟨q, _⟩ | ⟨_, q⟩
      · exact absurd q he
      · exact ⟨σ, c, q, s⟩)
    (fun a w ⟨σ, c, q, s⟩ => by
      rcases q with ⟨_, rfl⟩ | ⟨q, _⟩
      · rw [show ops.toArray.toList.drop n = post by simpa using hq]
        exact hQ c a w s
      · exact absurd rfl q)
    pre.toArray.size (Array.replicate pre.toArray.size false) (Array.replicate ops.toArray.size false) a w.drew (by simpa using hsz) (by simp) (fun i hi => by
      have a1 : i < pre.length := by simp at hsz; omega
      have a2 : i < ops.length := by omega
      simp [a1, a2]) (fun i _ hi => by have : i < ops.length := by simpa using hi
                                       simp [this]) (fun j o ho hL => by
      have hj : j < ops.length := by have := (List.getElem?_eq_some_iff.1 ho).1; simpa using this
      simp [hj] at hL) h1
  rw [show pre.toArray.size + (ops.toArray.size - n) = ops.toArray.size by simp at hsz ⊢; omega] at this
  exact this
theorem ARE.finC {es : List PE} {opsF : Array Oper} (bs : List Nat) (ds : List (List Nat × List Nat)) (hb : befs [] pre = bs) (hds : dsOf es.reverse = ds) (hm : drawOkM pre bs ds = true) (hc : cleanT g1 t = t2) (k : AWL P z opsF post ⟨t2, h⟩ Q) :
    ARE P z pre i [] ⟨t, g1, h⟩ es (fun es s => drawOk pre (dsOf es) = true ∧ AWL P z opsF post ⟨cleanT s.g s.t, s.h⟩ Q) := ARE.nil ⟨by rw [hds]; exact drawOk_of hb hm, by subst hc; exact k⟩
end
end Go.Ab
namespace Go.Ab
open Go.RowKit
set_option linter.unusedVariables false
set_option linter.unusedSimpArgs false
set_option linter.unnecessarySimpa false
section
variable {P : Program} {z : Ini} {ops : List Oper} {i : Nat} {l : List Oper} {s : RS} {o : Oper}
end
end Go.Ab
namespace Go.Ab
open Go.RowKit
set_option linter.unusedVariables false
set_option linter.unusedSimpArgs false
set_option linter.unnecessarySimpa false
theorem buildS_run2 {P : Program} {t : TypeId} {len sz : Nat} {c : Cx} {h : List ABlk} {w : World} {l : List (Nat × AV)} {vs : Array (Nat × Value)} {rows : List (List PV)} (hl : l.length = vs.size)
    (hp : ∀ (k : Nat) (i : Nat) (x : AV), l[k]? = some (i, x) → ∃ v, vs[k]? = some (i, v) ∧ ARep c h w x v) (hb : buildS P t len l = some (.lst true sz rows)) (hlen0 : 0 < len) :
    ∃ (cs : Array Value) (e : TypeId), P.underlying t = some (.slice e) ∧ (Instr.buildSlice t len vs).run P w = .ok (.slice (some ⟨w.heap.size, 0, none⟩) len len) (w.alloc (.cells cs e)) ∧ cs.size = len * sz ∧ rows.length = len ∧
      (∀ (j : Nat) (row : List PV), rows[j]? = some row → row.length = sz) ∧
      ∀ (j : Nat) (row : List PV) (k : Nat) (q : PV), rows[j]? = some row → row[k]? = some q → ∃ u, cs[j * sz + k]? = some u ∧ u.oneCell' = true ∧ Rep c.ok w q u := by
  unfold buildS at hb
  split at hb
  · rename_i e sz' b hk
    obtain ⟨hu, hsz, hby⟩ := tk_slice hk
    split at hb
    · rename_i zs hz
      obtain ⟨zv, hzr, hzc⟩ := zro_rep hz c h w
      split at hb
      · rename_i hc
        obtain ⟨hzl, hpos, hlen, hsmall⟩ := hc
        split at hb
        · rename_i xs hf
          split at hb
          · rename_i ps hps
            split at hb
            · rename_i hpl
              injection hb with hb
              injection hb with _ hb1 hb2; subst hb1; subst hb2
              obtain ⟨ie, hie⟩ : ∃ i, P.info? e = some i := by
                cases hi : P.info? e with
                | none => simp [szOf, hi] at hsz; omega
                | some i => exact ⟨i, rfl⟩
              have hisz : ie.size = sz' := by rw [← hsz]; simp [szOf, hie]
              have hzero : ie.zero = some zv := by
                simp [zeroValue, typeInfo, hie] at hzr
                cases hq : ie.zero with
                | none => simp [hq] at hzr
                | some q => simp [hq] at hzr; rw [hzr]
              have hzs : zv.cells.size = sz' := by rw [hzc.1, hzl]
              have hcz : CRep c h w (repA zs len) ((Array.range (len * sz')).map (zv.cells[· % zv.cells.size]!)) := by
                refine ⟨by simp [repA_length, hzl], fun k x hk => ?_⟩
                have hkl : k < len * sz' := by have := (List.getElem?_eq_some_iff.1 hk).1; rw [repA_length, ← hzl] at this; exact this
                rw [repA_get zs (by omega) len k (by rw [← hzl]; exact hkl)] at hk
                obtain ⟨u, u1, u2, u3⟩ := hzc.2 _ x hk
                refine ⟨u, ?_, u2, u3⟩
                rw [hzc.1]
                simp only [Array.getElem?_map, Array.getElem?_range, hkl, if_true, Option.map_some]
                have hlt : k % zs.length < zv.cells.size := by rw [hzs, ← hzl]; exact Nat.mod_lt _ (by omega)
                rw [Array.getElem?_eq_getElem hlt] at u1
                injection u1 with u1
                rw [getElem!_pos zv.cells (k % zs.length) hlt, u1]
              obtain ⟨cs, f1, f2⟩ := fillA_run l vs.toList (repA zs len) xs _ (by simpa using hl) (fun k i x hk => by simpa using hp k i x hk) hcz hf
              obtain ⟨g1, g2⟩ := purL_get hps
              refine ⟨cs, e, hu, run_buildSlice w t e len vs cs ie zv hu hie hzero (by rw [hisz]; omega) (by rw [hisz]; have := Nat.mul_pos hlen hpos; omega) (by rw [hisz]; exact f1), by rw [f2.1, g1, hpl], chunk_length _ _ _, fun j row hj => ?_, fun j row k q hj hkq => ?_⟩
              · obtain ⟨hjn, rfl⟩ := chunk_get sz' len ps j row hj
                have : (j + 1) * sz' ≤ len * sz' := Nat.mul_le_mul_right _ (by omega)
                rw [Nat.add_mul] at this
                simp; omega
              · obtain ⟨hjn, rfl⟩ := chunk_get sz' len ps j row hj
                have hk : k < sz' := by have := (List.getElem?_eq_some_iff.1 hkq).1; simp at this; omega
                rw [List.getElem?_take_of_lt hk, List.getElem?_drop] at hkq
                obtain ⟨x, hx, hpx⟩ := g2 _ q hkq
                obtain ⟨u, u1, u2, u3⟩ := f2.2 _ x hx
                exact ⟨u, u1, u2, u3.pur hpx⟩
            · cases hb
          · cases hb
        · cases hb
      · split at hb
        · rename_i h0; omega
        · cases hb
    · cases hb
  · cases hb
section
variable {P : Program} {z : Ini} {ops : Array Oper} {l : List Oper} {Q : Exit → St → Prop} {o : Oper} {t : List AV} {h : List ABlk} {T ty : TypeId} {x : Operand}
end
section
variable {P : Program} {z : Ini} {ops : List Oper}
/-- An operation whose guard does not hold. -/
theorem ARE.off {i : Nat} {l : List Oper} {s : RS} {o : Oper} {pp : Path} {es : List PE} {K : List PE → RS → Prop} {s1 : RS} (hp : pG ops s.g o.guard = pp) (hg : gOkB ops i s.t o.guard = true) (hn : ppF ops s.t pp = true) (he : (⟨putT s.t o.dst (.pv (.bool false)), putG s.g o.dst pp, s.h⟩ : RS) = s1)
    (k : ARE P z ops (i + 1) l s1 (⟨.pv (.bool false), [], pp, []⟩ :: es) K) : ARE P z ops i (o :: l) s es K := by
  subst he
  exact ARE.skip _ hp hg (ppF_not hn) k
end
end Go.Ab
namespace Go.Ab
open Go.RowKit
set_option linter.unusedVariables false
set_option linter.unusedSimpArgs false
set_option linter.unnecessarySimpa false
section
variable {P : Program} {z : Ini} {ops : List Oper} {i : Nat} {l : List Oper} {s : RS} {o : Oper}
end
section
variable {P : Program} {z : Ini} {ops : List Oper}
theorem ARN.off {i : Nat} {l : List Oper} {s : RS} {o : Oper} {pp : Path} {K : RS → Prop} {s1 : RS} (hp : pG ops s.g o.guard = pp) (hg : gOkB ops i s.t o.guard = true) (hn : ppF ops s.t pp = true) (he : (⟨putT s.t o.dst (.pv (.bool false)), putG s.g o.dst pp, s.h⟩ : RS) = s1)
    (k : ARN P z ops (i + 1) l s1 K) : ARN P z ops i (o :: l) s K := by
  subst he
  exact ARN.op (e := ⟨.pv (.bool false), [], pp, []⟩) ⟨hp.symm, fun _ => rfl, gOkB_spec hg, fun hh => (ppF_not hn hh).elim⟩ k
end
end Go.Ab
namespace Go.Ab
open Go.RowKit
set_option linter.unusedVariables false
set_option linter.unusedSimpArgs false
set_option linter.unnecessarySimpa false
section
variable {P : Program} {z : Ini} {ops : List Oper} {i : Nat} {l : List Oper} {s : RS} {o : Oper}
end
end Go.Ab
namespace Go.Ab
open Go.RowKit
set_option linter.unusedVariables false
set_option linter.unusedSimpArgs false
set_option linter.unnecessarySimpa false
section
variable {P : Program} {z : Ini} {ops : Array Oper} {l : List Oper} {Q : Exit → St → Prop} {o : Oper} {t : List AV} {h : List ABlk} {T : TypeId} {x y : Operand}
end
end Go.Ab
namespace Go.Ab
open Go.RowKit
set_option linter.unusedVariables false
set_option linter.unusedSimpArgs false
set_option linter.unnecessarySimpa false
section
variable {P : Program} {z : Ini} {ops : Array Oper} {l : List Oper} {Q : Exit → St → Prop} {o : Oper} {t : List AV} {h : List ABlk} {T : TypeId} {x y m : Operand}
theorem rep_int {ok : Nat → Prop} {w : World} {k : IntKind} {a : Int} {v : Value} (h : Rep ok w (.int k a) v) : v = .int k a := by cases h; rfl
end
end Go.Ab
namespace Go.Ab
open Go.RowKit
set_option linter.unusedVariables false
set_option linter.unusedSimpArgs false
set_option linter.unnecessarySimpa false
theorem run_mkIface {P : Program} {T : TypeId} {d : TypeDesc} {x : Value} {w : World} (hu : P.underlying T = some d) (hn : ∀ m, d ≠ .interface m) : (Instr.makeInterface T x).run P w = .ok (.iface T x) w := by
  simp only [Instr.makeInterface, Sem.run_bind, run_underlying hu, Result.andThen]
  cases d <;> first | rfl | exact absurd rfl (hn _)
section
variable {P : Program} {z : Ini} {ops : Array Oper} {l : List Oper} {Q : Exit → St → Prop} {o : Oper} {t : List AV} {h : List ABlk} {T : TypeId} {x y : Operand}
/-- A value as an interface. -/
theorem AWL.mkifc {d : TypeDesc} {v : AV} {t1 : List AV} (hw : wantB ops.toList t o.guard = some true) (ho : o.op = .makeInterface T x) (hu : P.underlying T = some d) (hn : ∀ m, d ≠ .interface m) (hx : evO t x = v) (ht : putT t o.dst (.ifc T v) = t1)
    (k : AWL P z ops l ⟨t1, h⟩ Q) : AWL P z ops (o :: l) ⟨t, h⟩ Q :=
  .op2 hw (r := .ifc T v) (h' := h) (fun c a w s => .val s.m (v := .iface T (a.eval x)) (by simp [execOp, ho, run_mkIface hu hn]) (.ifc T v _ (by rw [← hx]; exact evO_rep s.ts x))) (by subst ht; exact k)
/-- Is an interface nil? -/
def isIfc : PV → Option Bool
  | .nilIfc => some true
  | .ifc _ _ => some false
  | _ => none
theorem run_ifnil {op : BinOp} (hop : op = .eql ∨ op = .neq) {w : World} {ok : Nat → Prop} {p : PV} {u : Value} {b : Bool} (hr : Rep ok w p u) (hb : isIfc p = some b) (hi : P.underlying T = some (.interface (P.methodsAt T))) :
    (eqGuard op T x (.const .nilIface) u .nilIface).run P w = .ok () w ∧ (binOp op T u .nilIface).run P w = .ok (.bool (if op = .eql then b else !b)) w := by
  cases hr <;> simp only [isIfc, Option.some.injEq, reduceCtorEq] at hb
  · subst hb
    rcases hop with rfl | rfl
    · exact ⟨by simp [eqGuard], by rw [run_eql_held_nil w T _ _ hi]; rfl⟩
    · exact ⟨by simp [eqGuard], by rw [run_neq_held_nil w T _ _ hi]; rfl⟩
  · subst hb
    rcases hop with rfl | rfl
    · exact ⟨by simp [eqGuard], by rw [run_eql_nil_nil w T hi]; rfl⟩
    · exact ⟨by simp [eqGuard], by rw [run_neq_nil_nil w T hi]; rfl⟩
theorem AWL.ifnil {R : TypeId} {op : BinOp} {p : PV} {b : Bool} {t1 : List AV} (hw : wantB ops.toList t o.guard = some true) (ho : o.op = .binOp op T x (.const .nilIface) R) (hop : op = .eql ∨ op = .neq) (hi : P.underlying T = some (.interface (P.methodsAt T))) (hx : evO t x = .pv p) (hb : isIfc p = some b)
    (ht : putT t o.dst (.pv (.bool (if op = .eql then b else !b))) = t1) (k : AWL P z ops l ⟨t1, h⟩ Q) : AWL P z ops (o :: l) ⟨t, h⟩ Q :=
  .op2 hw (r := .pv (.bool (if op = .eql then b else !b))) (h' := h) (fun c a w s => by
    have r := evO_rep s.ts x
    rw [hx] at r
    cases r with
    | pv _ _ hr =>
      obtain ⟨g1, g2⟩ := run_ifnil (x := x) (w := w) hop hr hb hi
      have he : a.eval (.const .nilIface) = .nilIface := rfl
      exact .val s.m (v := .bool (if op = .eql then b else !b)) (by simp only [execOp, ho, he, Sem.run_bind, g1, g2, Result.andThen_ok, Sem.run_pure]) (.pv _ _ (.bool _))) (by subst ht; exact k)
end
end Go.Ab
namespace Go.Ab
open Go.RowKit
set_option linter.unusedVariables false
set_option linter.unusedSimpArgs false
set_option linter.unnecessarySimpa false
section
variable {P : Program} {z : Ini} {ops : Array Oper} {l : List Oper} {Q : Exit → St → Prop} {o o1 : Oper} {t : List AV} {h : List ABlk} {T ty : TypeId} {x : Operand}
/-- A literal's row, and its conversion to its own type: bytes that nobody changes any more. -/
theorem AWL.lit2 {len sz d e : Nat} {by' : Nat} {parts : Array (Nat × Operand)} {rows : List (List PV)} {t1 : List AV} (hg : o.guard = none) (hg1 : o1.guard = none) (hd : o.dst = some d) (hdl : d < t.length) (ho : o.op = .buildSlice T len parts) (ho1 : o1.op = .convert T T (.tmp d))
    (hT : tk P T = .slice e sz by') (he : P.underlying e = some (.int .u8)) (hb : buildS P T len (parts.toList.map fun p => (p.1, evO t p.2)) = some (.lst true sz rows)) (hl : 0 < len)
    (ht : putT (putT t o.dst .any) o1.dst (.pv (.lst true sz rows)) = t1) (k : AWL P z ops l ⟨t1, h⟩ Q) : AWL P z ops (o :: o1 :: l) ⟨t, h⟩ Q := fun c a w s => by
  obtain ⟨hu, hsz, _⟩ := tk_slice hT
  obtain ⟨cs, e', hu', r1, r2, r3, r4, r5⟩ := buildS_run2 (P := P) (vs := parts.map fun p => (p.1, a.eval p.2)) (c := c) (h := h) (w := w) (by simp) (fun k i x hk => by
      simp only [List.getElem?_map, Option.map_eq_some_iff] at hk
      obtain ⟨q, hq, e⟩ := hk
      injection e with e1 e2; subst e1; subst e2
      exact ⟨a.eval q.2, by simp [hq, Array.getElem?_map, ← Array.getElem?_toList], evO_rep s.ts q.2⟩) hb hl
  have w1 : ∀ a : Act, Region.wanted o (yielded ops a.tmps) = true := fun a => by unfold Region.wanted; rw [hg]
  have w2 : ∀ a : Act, Region.wanted o1 (yielded ops a.tmps) = true := fun a => by unfold Region.wanted; rw [hg1]
  refine wpList_step fun K hK => ?_
  rw [w1]
  simp only [if_true]
  have x1 : (execOp a.eval o).run P w = .ok (.value (.slice (some ⟨w.heap.size, 0, none⟩) len len)) (w.alloc (.cells cs e')) := by simp [execOp, ho, r1]
  unfold Oper.wp
  rw [x1]
  simp only [Oper.upon]
  refine hK _ _ ?_
  refine wpList_step fun K2 hK2 => ?_
  rw [w2]
  simp only [if_true]
  have hev : (a.put o.dst (.slice (some ⟨w.heap.size, 0, none⟩) len len)).eval (.tmp d) = .slice (some ⟨w.heap.size, 0, none⟩) len len := by
    have : d < a.tmps.size := by have := s.ts.1; simp only at this; omega
    rw [hd]; simp [Act.put, Act.eval, this]
  have e0 : e' = e := by rw [hu] at hu'; injection hu' with q; injection q with q; exact q.symm
  subst e0
  have x2 : (execOp (a.put o.dst (.slice (some ⟨w.heap.size, 0, none⟩) len len)).eval o1).run P (w.alloc (.cells cs e')) = .ok (.value (.slice (some ⟨w.heap.size, 0, none⟩) len len)) (w.alloc (.cells cs e' (cs.size, cs.size + 1))) := by
    simp only [execOp, ho1, hev, Sem.run_bind, Lib.run_convert_bytes_const w T e' cs len len hu he, Result.andThen_ok, Sem.run_pure]
  unfold Oper.wp
  rw [x2]
  simp only [Oper.upon]
  refine hK2 _ _ ?_
  obtain ⟨L, M⟩ := s.m.beyond (w' := w.alloc (.cells cs e' (cs.size, cs.size + 1))) ((Below.refl _ w).alloc (Nat.le_refl _) _) (fun b => b = w.heap.size) (fun b hb => by subst hb; exact ⟨Nat.le_refl _, by show w.heap.size < (w.heap.push _).size; simp⟩)
  subst ht
  refine k _ _ _ ⟨M, ((s.ts.later L).put (.any _) o.dst).put ?_ o1.dst, by rw [put_defers, put_defers]; exact s.df⟩
  refine .pv _ _ ?_
  have hlr : len = rows.length := r3.symm
  subst hlr
  refine .lst true sz rows (some ⟨w.heap.size, 0, none⟩) rows.length (fun j k => cs[j * sz + k]?.getD undef) r4 (Nat.le_refl _) (fun _ => rfl) (fun _ => ⟨_, rfl⟩) (fun ad hA j row k p hj hk => ?_) (fun j row k p hj hk => ?_)
  · injection hA with hA; subst hA
    obtain ⟨u, u1, u2, u3⟩ := r5 j row k p hj hk
    refine ⟨.inr rfl, ?_, by rw [u1]; exact u2⟩
    rw [Addr.add_plain]
    have hh : (w.alloc (.cells cs e' (cs.size, cs.size + 1))).heap[w.heap.size]? = some (.cells cs e' (cs.size, cs.size + 1)) := by
      show (w.heap.push _)[w.heap.size]? = _
      simp
    simp only [World.cell?, hh, Nat.zero_add, u1]
    simp
  · obtain ⟨u, u1, u2, u3⟩ := r5 j row k p hj hk
    rw [u1]
    exact u3.mono (fun b hb => .inl hb) (keep_alloc c.ok w _ s.m.hs.okb)
end
end Go.Ab
namespace Go.Ab
open Go.RowKit
set_option linter.unusedVariables false
set_option linter.unusedSimpArgs false
set_option linter.unnecessarySimpa false
/-- A nil slice in a variable as one that may grow. -/
theorem Wk.vecB {z : Ini} {t : List AV} {h h2 : List ABlk} {cs : List AV} (sz i k sz' : Nat) (hi : h[i]? = some (.box cs)) (hk : cs[k]? = some (.pv (.lst true sz' []))) (hh : setx (setx h h.length (.vec sz [])) i (.box (cs.set k (.vs h.length 0 0))) = h2) : Wk z ⟨t, h⟩ ⟨t, h2⟩ := fun c a w s => by
  subst hh
  have hu := unborn_len h
  let c' : Cx := c.born h.length 0 (0, 0)
  have L : Later c h w c' (setx h h.length (.vec sz [])) w := later_born hu (fun _ h => h) (fun _ _ => rfl) (c.born_other h.length 0 (0, 0))
  have lvi : ¬ lv c' (setx h h.length (.vec sz [])) h.length := by simp [lv, setx_same, c', Cx.born_vd]
  have lvo : ∀ j, lv c' (setx h h.length (.vec sz [])) j → j ≠ h.length ∧ lv c h j := fun j l => by
    by_cases hne : j = h.length
    · subst hne; exact (lvi l).elim
    · exact ⟨hne, (lv_setx_other hne (c.born_other h.length 0 (0, 0) j hne).2).1 l⟩
  have M : MSim z (setx h h.length (.vec sz [])) c' w := by
    refine s.m.step rfl rfl rfl (Nat.le_refl _) (fun _ _ _ => rfl) ⟨fun j x hj => ?_, fun j q lj lq e => ?_, fun j lj => ?_, s.m.hs.okb⟩ (fun j lj => .inl ⟨j, (lvo j lj).2, (c.born_other _ _ _ j (lvo j lj).1).1⟩) (fun x hx => .inl hx) (fun x hx => hx)
      (Nat.le_trans s.m.ext.1 (setx_length _ _ _)) (fun j hj => c.born_other _ _ _ j (by have := s.m.ext.1; simp only at this; omega))
    · rcases setx_get hj with ⟨rfl, rfl⟩ | ⟨hne, hj' | rfl⟩
      · exact ⟨by simp, fun j row hr => by simp at hr, fun hp => by simp [c', Cx.born_vd] at hp⟩
      · exact (s.m.hs.blk j x hj').later L (fun _ => c.born_other _ _ _ j hne) (fun l => rfl) hj'
      · trivial
    · rw [(c.born_other _ _ _ j (lvo j lj).1).1, (c.born_other _ _ _ q (lvo q lq).1).1] at e
      exact s.m.hs.inj j q (lvo j lj).2 (lvo q lq).2 e
    · rw [(c.born_other _ _ _ j (lvo j lj).1).1]
      exact s.m.hs.nok j (lvo j lj).2
  have hil : i < h.length := (List.getElem?_eq_some_iff.1 hi).1
  have hne : i ≠ h.length := by omega
  have hi' : (setx h h.length (.vec sz []))[i]? = some (.box cs) := setx_some hne hi
  have hlv : lv c' (setx h h.length (.vec sz [])) i := by simp [lv, hi']
  obtain ⟨L2, M2⟩ := M.turn (w' := w) i (.box cs) (.box (cs.set k (.vs h.length 0 0))) hi' hlv (by simp [lv, setx_same]) ⟨(fun cs' e => ⟨cs, rfl⟩), (fun sz rows e => by cases e), (fun k es e => by cases e)⟩ rfl rfl rfl (Nat.le_refl _) (fun _ _ _ => rfl) (fun L2 => by
    obtain ⟨vs, ty, b1, b2, b3⟩ := M.hs.blk i _ hi'
    refine ⟨vs, ty, b1, by simp [b2], fun j x hj => ?_⟩
    rw [List.getElem?_set] at hj
    by_cases hjk : k = j
    · subst hjk
      have hlt : k < cs.length := (List.getElem?_eq_some_iff.1 hk).1
      simp only [if_pos, hlt] at hj
      injection hj with hj; subst hj
      obtain ⟨v, v1, v2, v3⟩ := b3 k _ hk
      refine ⟨v, v1, v2, ?_⟩
      cases v3 with
      | pv _ _ hr =>
        cases hr with
        | lst _ _ _ A cc us h1 h2 h3 h4 h5 h6 =>
          have hc0 : cc = 0 := h3 rfl
          subst hc0
          refine .vs _ 0 0 _ (.vec sz []) rfl (setx_some (Ne.symm hne) (setx_same _ _ _)) (by intro h; cases h) fun sz2 rows2 e => ?_
          injection e with e1 e2; subst e1; subst e2
          exact ⟨by simp, A, by simp [c', Cx.born_vd], fun h => by simp [c', Cx.born_vd] at h⟩
    · rw [if_neg hjk] at hj
      obtain ⟨v, v1, v2, v3⟩ := b3 j x hj
      exact ⟨v, v1, v2, v3.later L2⟩)
  exact ⟨c', M2, s.ts.later (L.trans L2), s.df⟩
theorem bc_len {s : ByteArray} {m : Nat} (h : m ≤ s.size) : (Lib.byteCells (s.data.toList.take m)).length = m := by
  have h' : m ≤ s.data.toList.length := by rw [Array.length_toList]; exact h
  rw [Lib.byteCells_length, List.length_take, Nat.min_eq_left h']
/-- 'copy(dst, s)' out of a text, however long. -/
theorem run_copy_str {P : Program} (w : World) (dT sT ty elem : TypeId) (g o dLen dCap m : Nat) (s : ByteArray) (cur : Array Value) (t : TypeId) (hm : Nat.min s.size dLen = m)
    (hu : P.underlying dT = some (.slice elem)) (hs : (P.info? elem).map (·.size) = some 1) (hg : w.heap[g]? = some (.cells cur t (0, 0))) (hfit : o + m ≤ cur.size) :
    (Builtin.copy_ #[dT, sT] ty #[.slice (some ⟨g, o, none⟩) dLen dCap, .string s]).run P w =
      .ok (goInt m) (w.setRow g (cur.toList.take o ++ Lib.byteCells (s.data.toList.take m) ++ cur.toList.drop (o + m)).toArray) := by
  have hms : m ≤ s.size := by rw [← hm]; exact Nat.min_le_left _ _
  have hlen := bc_len hms
  have hst := run_storeCells_at (P := P) g o t (Lib.byteCells (s.data.toList.take m)) 0 cur w hg (by rw [hlen]; simpa using hfit) (Lib.byteCells_one _)
  have htk : List.take m (List.map (fun b : UInt8 => Value.int IntKind.u8 (b.toNat : Int)) s.data.toList) = Lib.byteCells (s.data.toList.take m) := by
    rw [← List.map_take]; rfl
  rw [hlen] at hst
  simp only [Nat.add_zero] at hst
  cases hq : P.info? elem with
  | none => simp [hq] at hs
  | some i =>
    simp [Builtin.copy_, run_underlying hu, Builtin.lenOf, Builtin.firstCells, sizeOf, typeInfo, hq, hm]
    rw [htk, hst]
    simp [Result.andThen]
/-- What a row of bytes is behind a copy out of a text. -/
def cpyR (s : ByteArray) (rows : List (List PV)) : List (List PV) := (List.range rows.length).map fun j => if j < s.size then [.int .u8 (bat s j)] else rows.getD j []
theorem cpyR_len (s : ByteArray) (rows : List (List PV)) : (cpyR s rows).length = rows.length := by simp [cpyR]
theorem setRow_at {w : World} {g : Nat} {cs old : Array Value} {t : TypeId} {fr : Nat × Nat} (hg : w.heap[g]? = some (.cells old t fr)) : (w.setRow g cs).heap[g]? = some (.cells cs t fr) := setRow_heap w g old cs t fr hg
theorem setRow_ne {w : World} {g x : Nat} {cs : Array Value} (h : x ≠ g) : (w.setRow g cs).heap[x]? = w.heap[x]? := by
  simp [World.setRow, Array.getElem?_modify, Ne.symm h]
section
variable {P : Program} {z : Ini} {ops : Array Oper} {l : List Oper} {Q : Exit → St → Prop} {o : Oper} {t : List AV} {h : List ABlk} {T sT : TypeId} {x y : Operand}
theorem AWL.copyS {e : TypeId} {by' i : Nat} {s : ByteArray} {rows : List (List PV)} {t1 : List AV} {h1 : List ABlk} (hw : wantB ops.toList t o.guard = some true) (ho : o.op = .call ⟨.builtin .copy, #[x, y], #[T, sT]⟩)
    (hT : tk P T = .slice e 1 by') (hx : evO t x = .vs i 0 rows.length) (hi : h[i]? = some (.vec 1 rows)) (hy : evO t y = .pv (.str s)) (hp : 0 < rows.length) (m : Nat) (hm : Nat.min s.size rows.length = m)
    (ht : putT t o.dst (.pv (.int .i64 (m : Int))) = t1) (hh : setx h i (.vec 1 (cpyR s rows)) = h1) (k : AWL P z ops l ⟨t1, h1⟩ Q) : AWL P z ops (o :: l) ⟨t, h⟩ Q :=
  .op2 hw (r := .pv (.int .i64 (m : Int))) (h' := h1) (fun c a w s0 => by
    subst hh
    obtain ⟨hu, hsz, _⟩ := tk_slice hT
    have hv := evO_rep s0.ts x
    rw [hx] at hv
    have hvy := evO_rep s0.ts y
    rw [hy] at hvy
    have ey : a.eval y = .string s := by cases hvy with | pv _ _ hr => generalize a.eval y = u at hr; cases hr; rfl
    generalize hval : a.eval x = vx at hv
    cases hv with
    | vs _ _ _ _ b hone hib hnb hvv =>
      rw [hi] at hib; injection hib with hib; subst hib
      obtain ⟨g1, A, g2, g3⟩ := hvv 1 rows rfl
      obtain ⟨b1, b2, b3⟩ := s0.m.hs.blk i _ hi
      have hcap : 0 < (c.vd i).2 := by omega
      have hA := g3 hcap
      subst g2; subst hA
      obtain ⟨vs, te, q1, q2, q3⟩ := b3 hcap
      have hinfo : (P.info? e).map (·.size) = some 1 := by
        cases hq : P.info? e with
        | none => simp [szOf, hq] at hsz
        | some q => simp [szOf, hq] at hsz; simp [hsz]
      have hms : m ≤ s.size := by rw [← hm]; exact Nat.min_le_left _ _
      have hmr : m ≤ rows.length := by rw [← hm]; exact Nat.min_le_right _ _
      have hmm : ∀ j, j < rows.length → (j < m ↔ j < s.size) := fun j hj => by
        have h9 : min s.size rows.length = m := hm
        omega
      have hvl : vs.toList.length = vs.size := Array.length_toList
      have hrun := run_copy_str (P := P) w T sT o.type e (c.mu i) ((c.vd i).1) rows.length ((c.vd i).2) m s vs te hm hu hinfo q1 (by rw [q2]; omega)
      have hlv : lv c h i := by simp [lv, hi, hcap]
      have hnew : ∀ j : Nat, (List.take (c.vd i).1 vs.toList ++ Lib.byteCells (s.data.toList.take m) ++ List.drop ((c.vd i).1 + m) vs.toList)[(c.vd i).1 + j]? = if j < m then some (.int .u8 (bat s j)) else vs.toList[(c.vd i).1 + j]? := fun j => by
        have l1 : (List.take (c.vd i).1 vs.toList).length = (c.vd i).1 := by rw [List.length_take, hvl, q2]; exact Nat.min_eq_left (by omega)
        have l2 := bc_len hms
        rw [List.append_assoc, List.getElem?_append_right (by omega), l1, show (c.vd i).1 + j - (c.vd i).1 = j by omega]
        split
        · rename_i hj
          rw [List.getElem?_append_left (by omega)]
          have hjs : j < s.data.toList.length := by rw [Array.length_toList]; show j < s.size; omega
          simp only [Lib.byteCells, List.getElem?_map, List.getElem?_take_of_lt hj, List.getElem?_eq_getElem hjs, Option.map_some]
          rw [bat, List.getD_eq_getElem?_getD, List.getElem?_eq_getElem hjs]; rfl
        · rename_i hj
          rw [List.getElem?_append_right (by omega), l2, List.getElem?_drop]
          congr 1; omega
      obtain ⟨L, M⟩ := s0.m.turn (w' := w.setRow (c.mu i) (List.take (c.vd i).1 vs.toList ++ Lib.byteCells (s.data.toList.take m) ++ List.drop ((c.vd i).1 + m) vs.toList).toArray) i _ (.vec 1 (cpyR s rows)) hi hlv (by simp [lv, setx_same, hcap])
        ⟨(fun cs e => by cases e), (fun sz rows' e => by injection e with e1 e2; subst e1; subst e2; exact ⟨rows, rfl, by rw [cpyR_len]; exact Nat.le_refl _⟩), (fun k es e => by cases e)⟩ rfl rfl rfl (by simp [World.setRow]) (fun x _ hx => setRow_ne hx)
        (fun L => by
          refine ⟨by rw [cpyR_len]; exact b1, fun j row hj => ?_, fun _ => ⟨_, te, setRow_at q1, ?_, fun j row k p hj hk => ?_⟩⟩
          · simp only [cpyR, List.getElem?_map, Option.map_eq_some_iff] at hj
            obtain ⟨j', hj', e⟩ := hj
            have hjl : j < rows.length := by have := (List.getElem?_eq_some_iff.1 hj').1; simpa using this
            have : j' = j := by rw [List.getElem?_range hjl] at hj'; injection hj' with hj'; exact hj'.symm
            subst this
            split at e
            · subst e; rfl
            · subst e
              exact b2 j' _ (by rw [List.getElem?_eq_getElem hjl]; simp [List.getD_eq_getElem?_getD, hjl])
          · have l2 := bc_len hms
            have l1 : (List.take (c.vd i).1 vs.toList).length = (c.vd i).1 := by rw [List.length_take, hvl, q2]; exact Nat.min_eq_left (by omega)
            simp only [List.size_toArray, List.length_append, l1, List.length_drop, l2, hvl]
            omega
          · simp only [cpyR, List.getElem?_map, Option.map_eq_some_iff] at hj
            obtain ⟨j', hj', e⟩ := hj
            have hjl : j < rows.length := by have := (List.getElem?_eq_some_iff.1 hj').1; simpa using this
            have hjj : j' = j := by rw [List.getElem?_range hjl] at hj'; injection hj' with hj'; exact hj'.symm
            subst hjj
            by_cases hjs : j' < s.size
            · rw [if_pos hjs] at e; subst e
              cases k with
              | succ k => simp at hk
              | zero =>
                simp at hk; subst hk
                refine ⟨.int .u8 (bat s j'), ?_, rfl, .int _ _⟩
                have := hnew j'
                rw [if_pos ((hmm _ hjl).2 hjs)] at this
                rw [List.getElem?_toArray, show (c.vd i).1 + (j' * 1 + 0) = (c.vd i).1 + j' by omega]
                exact this
            · rw [if_neg hjs] at e; subst e
              have hr : rows[j']? = some (rows.getD j' []) := by rw [List.getElem?_eq_getElem hjl]; simp [List.getD_eq_getElem?_getD, hjl]
              have hk0 : k = 0 := by
                have h9 := b2 j' _ hr
                have := (List.getElem?_eq_some_iff.1 hk).1
                omega
              subst hk0
              obtain ⟨v, v1, v2, v3⟩ := q3 j' _ 0 p hr hk
              refine ⟨v, ?_, v2, v3.mono L.okm L.keep⟩
              have := hnew j'
              rw [if_neg (fun q => hjs ((hmm _ hjl).1 q))] at this
              rw [List.getElem?_toArray, show (c.vd i).1 + (j' * 1 + 0) = (c.vd i).1 + j' by omega, this]
              rw [show (c.vd i).1 + (j' * 1 + 0) = (c.vd i).1 + j' by omega] at v1
              rw [Array.getElem?_toList]; exact v1)
      unfold Yields
      have : (execOp a.eval o).run P w = .ok (.value (goInt m)) (w.setRow (c.mu i) (List.take (c.vd i).1 vs.toList ++ Lib.byteCells (s.data.toList.take m) ++ List.drop ((c.vd i).1 + m) vs.toList).toArray) := by
        simp only [Nat.sub_zero, Nat.zero_mul, Nat.add_zero] at hval
        simp [execOp, ho, resolve, invoke, builtin, hval, ey, hrun]
      rw [this]
      exact ⟨c, L, M, .pv _ _ (.int _ _)⟩) (by subst ht; exact k)
end
end Go.Ab
namespace Go.Ab
open Go.RowKit
set_option linter.unusedVariables false
set_option linter.unusedSimpArgs false
set_option linter.unnecessarySimpa false
/-- Each of the first p waits for those ahead of it; each of the next, up to the n-th, for those ahead of it from the p-th on. -/
def rowsB (ops : List Oper) (p n : Nat) : Bool := (List.range n).all fun j => (List.range j).all fun i => (decide (i < p) && decide (p ≤ j)) || ((befs [] ops).getD j 0).testBit i
def endQ (σ : St) : Exit → St → Prop := fun e s => e = .normal ∧ s = σ
section
variable {P : Program} {z : Ini} {ops : List Oper} {id : Nat} {Q : Exit → St → Prop}
theorem wpOp_of {opsA : Array Oper} {o : Oper} {σ σ' : St} {q : Nat} {K : Act → World → Prop} {c : Cx} {a : Act} {w : World} (h : AWL P z opsA [o] σ (endQ σ')) (s : Sim z σ c a w) (ho : opsA[q]? = some o) (hK : ∀ a' w', (∃ c', Sim z σ' c' a' w') → K a' w') : wpOp P opsA (lift z Q) q K a w := by
  have h1 := h c a w s
  have h2 : wpOp P opsA (lift z (endQ σ')) q (wpList P opsA (lift z (endQ σ')) []) a w := by
    unfold wpOp
    simp only [ho]
    exact h1
  refine wpOp_monoQ (fun a' w' hn => hK a' w' ?_) (fun e a' w' he hn => ?_) h2
  · obtain ⟨σ1, c1, ⟨_, rfl⟩, s1⟩ := hn
    exact ⟨c1, s1⟩
  · obtain ⟨σ1, c1, ⟨q1, _⟩, _⟩ := hn
    exact absurd q1 he
theorem AW.reg2 (p n : Nat) (S : Nat → Nat → St) (hm : P.follows .mixedOrders = true) (hs : splitB ops n = true) (hp : p ≤ n) (hr : rowsB ops p n = true)
    (hA : ∀ i j, i < p → j ≤ n - p → ∀ o, ops[i]? = some o → AWL P z ops.toArray [o] (S i j) (endQ (S (i + 1) j)))
    (hB : ∀ i j, i ≤ p → j < n - p → ∀ o, ops[p + j]? = some o → AWL P z ops.toArray [o] (S i j) (endQ (S i (j + 1))))
    (k : AWL P z ops.toArray (ops.drop n) (S p (n - p)) Q) : AW P z (.region id ops.toArray true) (S 0 0) Q := fun c a w s => by
  refine wp_region_any hm ?_
  obtain ⟨hb, hn, hw⟩ := split_of (ops := ops) hs
  have hs' : splitB ops.toArray.toList n = true := by simpa using hs
  have hb' : backB ops.toArray.toList = true := by simpa using hb
  have hrow : ∀ i j, i < j → j < n → ¬ (i < p ∧ p ≤ j) → ((befs [] ops).getD j 0).testBit i = true := fun i j h1 h2 h3 => by
    have := hr
    unfold rowsB at this
    rw [List.all_eq_true] at this
    have := this j (List.mem_range.2 h2)
    rw [List.all_eq_true] at this
    have := this i (List.mem_range.2 h1)
    simp only [Bool.or_eq_true, Bool.and_eq_true, decide_eq_true_eq] at this
    exact this.resolve_left h3
  have key : ∀ (d i j fuel : Nat) (l : Array Bool) (a : Act) (w : World), i ≤ p → j ≤ n - p → d = (p - i) + (n - p - j) → d + (ops.length - n) ≤ fuel → l.size = ops.length →
      (∀ q, q < ops.length → l.getD q false = decide (q < i ∨ (p ≤ q ∧ q < p + j))) → Clo ops.toArray l → (∃ c, Sim z (S i j) c a w) → wpAny P .any ops.toArray (lift z Q) fuel l a w := by
    intro d
    induction d with
    | zero =>
      intro i j fuel l a w hi hj hd hf hl hv hc ⟨c, s⟩
      obtain rfl : i = p := by omega
      obtain rfl : j = n - i := by omega
      refine any_chain hs' (ops.length - n) n fuel l a w (by simp; omega) (Nat.le_refl _) (by omega) (by simpa using hl) (fun q hq => ?_) hc (by simpa using k c a w s)
      rw [hv q (by simpa using hq), decide_eq_decide]; omega
    | succ d ih =>
      intro i j fuel l a w hi hj hd hf hl hv hc ⟨c, s⟩
      cases fuel with
      | zero => omega
      | succ fuel =>
        have hex : ∃ u, u < n ∧ l.getD u false = false ∧ (u = i ∧ i < p ∨ u = p + j ∧ p + j < n) := by
          by_cases g : i < p
          · exact ⟨i, by omega, by rw [hv i (by omega)]; simp; omega, .inl ⟨rfl, g⟩⟩
          · exact ⟨p + j, by omega, by rw [hv (p + j) (by omega)]; simp; omega, .inr ⟨rfl, by omega⟩⟩
        have hl' : l.size = ops.toArray.size := by simpa using hl
        refine ⟨fun hnil => ?_, fun q hq => ?_⟩
        · obtain ⟨u, hu, hx, _⟩ := hex
          have := all_of_nil hb' hl' hnil u (by simp; omega)
          rw [hx] at this; cases this
        · obtain ⟨q1, q2⟩ := ready_lt hl' hq
          have q1' : q < ops.length := by simpa using q1
          have bef : ∀ u, ((befs [] ops).getD q 0).testBit u = true → l.getD u false = true := fun u hu => ready_befs hc hq u (by simpa using hu)
          have qn : q < n := by
            rcases Nat.lt_or_ge q n with g | g
            · exact g
            · obtain ⟨u, hu, hx, _⟩ := hex
              have := bef u (hw q g q1' u (by omega))
              rw [hx] at this; cases this
          rw [hv q q1'] at q2
          simp only [decide_eq_false_iff_not, not_or, not_and, Nat.not_lt] at q2
          rcases Nat.lt_or_ge q p with g | g
          · have hqi : q = i := by
              rcases Nat.lt_or_ge i q with g2 | g2
              · have := bef i (hrow i q g2 qn (by omega))
                rw [hv i (by omega)] at this; simp at this; omega
              · omega
            subst hqi
            have ho : ops[q]? = some ops[q] := List.getElem?_eq_getElem q1'
            refine wpOp_of (hA q j g hj _ ho) s (by simpa using ho) fun a' w' hs2 => ih (q + 1) j fuel _ a' w' (by omega) hj (by omega) (by omega) (by simpa using hl) (fun u hu => ?_) (hc.set hl' hq) hs2
            by_cases e : q = u
            · subst e
              have : q < l.size := by omega
              simp [this]
            · rw [getD_set_ne false e, hv u hu, decide_eq_decide]; omega
          · have hqj : q = p + j := by
              have h9 := q2.2 g
              rcases Nat.lt_or_ge (p + j) q with g2 | g2
              · have := bef (p + j) (hrow (p + j) q g2 qn (by omega))
                rw [hv (p + j) (by omega)] at this; simp at this; omega
              · omega
            subst hqj
            have ho : ops[p + j]? = some ops[p + j] := List.getElem?_eq_getElem q1'
            refine wpOp_of (hB i j hi (by omega) _ ho) s (by simpa using ho) fun a' w' hs2 => ih i (j + 1) fuel _ a' w' hi (by omega) (by omega) (by omega) (by simpa using hl) (fun u hu => ?_) (hc.set hl' hq) hs2
            by_cases e : p + j = u
            · subst e
              have : p + j < l.size := by omega
              simp [this]
            · rw [getD_set_ne false e, hv u hu, decide_eq_decide]; omega
  have := key (p + (n - p)) 0 0 ops.length (Array.replicate ops.length false) a w.drew (Nat.zero_le _) (Nat.zero_le _) (by omega) (by omega) (by simp) (fun q hq => by simp [hq]) (fun j o ho hL => by
    have hj : j < ops.length := by have := (List.getElem?_eq_some_iff.1 ho).1; simpa using this
    simp [hj] at hL) ⟨c, s.drew⟩
  simpa using this
theorem AW.reg2L {t : List AV} {h : List ABlk} {post : List Oper} (p n : Nat) (tA tB : List (Nat × AV)) (hs : List (List ABlk)) (hm : P.follows .mixedOrders = true) (hs1 : splitB ops n = true) (hp : p ≤ n) (hr : rowsB ops p n = true) (hq : ops.drop n = post)
    (hA : ∀ i j, i < p → j ≤ n - p → ∀ o, ops[i]? = some o → AWL P z ops.toArray [o] ⟨updT (updT t (tA.take i)) (tB.take j), hs.getD j h⟩ (endQ ⟨updT (updT t (tA.take (i + 1))) (tB.take j), hs.getD j h⟩))
    (hB : ∀ i j, i ≤ p → j < n - p → ∀ o, ops[p + j]? = some o → AWL P z ops.toArray [o] ⟨updT (updT t (tA.take i)) (tB.take j), hs.getD j h⟩ (endQ ⟨updT (updT t (tA.take i)) (tB.take (j + 1)), hs.getD (j + 1) h⟩))
    (h0 : hs.getD 0 h = h) (k : AWL P z ops.toArray post ⟨updT (updT t (tA.take p)) (tB.take (n - p)), hs.getD (n - p) h⟩ Q) : AW P z (.region id ops.toArray true) ⟨t, h⟩ Q := by
  have := AW.reg2 (id := id) (Q := Q) p n (fun i j => ⟨updT (updT t (tA.take i)) (tB.take j), hs.getD j h⟩) hm hs1 hp hr hA hB (by rw [hq]; exact k)
  simp only [List.take_zero, updT, h0] at this
  exact this
end
end Go.Ab
