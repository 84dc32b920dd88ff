/- A region that draws its order, with a call that is gone through: what it waits for comes first, what waits for it follows. -/
import Derived.Test.YtlgfbiepbneihaaDD
namespace Go.Ab
open Go.RowKit
set_option linter.unusedVariables false
set_option linter.unusedSimpArgs false
set_option linter.unnecessarySimpa false

section
variable {P : Program} {ops opsA : Array Oper} {Q Q' : Exit → Act → World → Prop}
theorem wpOp_monoQ {i : Nat} {a : Act} {w : World} {K K' : Act → World → Prop} (h : ∀ a w, K a w → K' a w) (hQ : ∀ e a w, e ≠ .normal → Q e a w → Q' e a w) (hh : wpOp P ops Q i K a w) : wpOp P ops Q' i K' a w := by
  have hl : LetsOut Q → LetsOut Q' := fun ⟨a, w, q⟩ => ⟨a, w, hQ _ _ _ (by intro h; cases h) q⟩
  unfold wpOp at *
  split
  · exact h _ _ (by simpa [*] using hh)
  · rename_i o ho
    simp only [ho] at hh
    split
    · rename_i hw; simp only [hw, if_true] at hh
      rcases hh with hh | ⟨h1, h2⟩
      · left
        unfold Oper.wp at *
        generalize (execOp a.eval o).run P w = r at *
        cases r with
        | ok n w' =>
          cases n <;> simp only [Oper.upon] at hh ⊢ <;> first
            | exact h _ _ hh
            | exact Calls.mono hh (fun e w'' he => by cases e <;> first | exact h _ _ he | exact hQ _ _ _ (by intro h; cases h) he | exact hl he)
            | exact Rows.mono hh (fun _ _ he => h _ _ he)
        | halt x w' => cases x <;> simp only [Oper.upon] at hh ⊢ <;> first | exact hQ _ _ _ (by intro h; cases h) hh | exact hh.elim
      · exact .inr ⟨h1, hl h2⟩
    · rename_i hw; simp only [hw] at hh; exact h _ _ hh

def backB (ops : List Oper) : Bool := ops.zipIdx.all fun (o, j) => o.after.all (fun e => !Region.binds .any e || decide (e.on < j)) && (match o.guard with | none => true | some (m, _) => decide (m < j))
/-- Every operation from the n-th on waits for all that stand ahead of it. -/
def splitB (ops : List Oper) (n : Nat) : Bool := backB ops && decide (n ≤ ops.length) && (List.range ops.length).all fun j => decide (j < n) || (List.range j).all fun i => ((befs [] ops).getD j 0).testBit i
theorem back_of {ops : List Oper} (h : backB ops = true) {j : Nat} {o : Oper} (ho : ops[j]? = some o) : (∀ e ∈ o.after, Region.binds .any e = true → e.on < j) ∧ ∀ m b, o.guard = some (m, b) → m < j := by
  have := zipIdx_all h ho
  simp only [Bool.and_eq_true] at this
  refine ⟨fun e he hb => ?_, fun m b hg => ?_⟩
  · have h1 := this.1
    rw [Array.all_eq_true_iff_forall_mem] at h1
    have := h1 e he
    simp only [hb, Bool.not_true, Bool.false_or, decide_eq_true_eq] at this
    exact this
  · have h2 := this.2
    rw [hg] at h2
    simpa using h2
theorem split_of {ops : List Oper} {n : Nat} (h : splitB ops n = true) : backB ops = true ∧ n ≤ ops.length ∧ ∀ j, n ≤ j → j < ops.length → ∀ i, i < j → ((befs [] ops).getD j 0).testBit i = true := by
  simp only [splitB, Bool.and_eq_true, decide_eq_true_eq, List.all_eq_true, List.mem_range, Bool.or_eq_true] at h
  refine ⟨h.1.1, h.1.2, fun j hj hl i hi => ?_⟩
  rcases h.2 j hl with h1 | h1
  · omega
  · exact h1 i hi

def Clo (ops : Array Oper) (l : Array Bool) : Prop := ∀ j o, ops.toList[j]? = some o → l.getD j false = true → ∀ e ∈ o.after, Region.binds .any e = true → l.getD e.on false = true
theorem getD_tf {l : Array Bool} {i : Nat} (h : i < l.size) : l.getD i true = l.getD i false := by simp [h]
theorem ready_lt {l : Array Bool} {j : Nat} (hl : l.size = ops.size) (h : j ∈ Region.ready .any ops l) : j < ops.size ∧ l.getD j false = false := by
  rw [mem_ready] at h
  obtain ⟨h1, o, h2, _⟩ := h
  have hj : j < ops.size := (Array.getElem?_eq_some_iff.1 h2).1
  exact ⟨hj, by rw [← getD_tf (by omega)]; exact h1⟩
/-- What comes up has all come up for which it waits, nearly or far. -/
theorem ready_befs {l : Array Bool} {j : Nat} (hc : Clo ops l) (h : j ∈ Region.ready .any ops l) : ∀ i, ((befs [] ops.toList).getD j 0).testBit i = true → l.getD i false = true := by
  rw [mem_ready] at h
  obtain ⟨_, o, h2, h3⟩ := h
  exact fun i hi => befs_closed (L := fun i => l.getD i false) hc j o (by simpa using h2) h3 i hi
theorem Clo.set {l : Array Bool} {j : Nat} (hl : l.size = ops.size) (hc : Clo ops l) (h : j ∈ Region.ready .any ops l) : Clo ops (l.setIfInBounds j true) := by
  intro i oi hoi hL e' he' hb
  by_cases hij : j = i
  · subst hij
    rw [mem_ready] at h
    obtain ⟨_, o, h2, h3⟩ := h
    have : ops.toList[j]? = some o := by simpa using h2
    rw [hoi] at this; injection this with this; subst this
    exact getD_set_true (h3 e' he' hb)
  · rw [getD_set_ne false hij] at hL
    exact getD_set_true (hc i oi hoi hL e' he' hb)
theorem all_of_nil {l : Array Bool} (hb : backB ops.toList = true) (hl : l.size = ops.size) (hnil : Region.ready .any ops l = []) : ∀ i, i < ops.size → l.getD i false = true := by
  intro i
  induction i using Nat.strongRecOn with
  | ind i ih =>
    intro hi
    cases hx : l.getD i false with
    | true => rfl
    | false =>
      exfalso
      have ho : ops[i]? = some ops[i] := Array.getElem?_eq_getElem hi
      have : i ∈ Region.ready .any ops l := by
        rw [mem_ready]
        refine ⟨by rw [getD_tf (by omega)]; exact hx, _, ho, fun e he hbi => ?_⟩
        have := (back_of hb (j := i) (o := ops[i]) (by simpa using ho)).1 e he hbi
        exact ih e.on this (by omega)
      rw [hnil] at this; cases this
/-- One after another. -/
theorem any_chain {n : Nat} (hs : splitB ops.toList n = true) : ∀ (d k fuel : Nat) (l : Array Bool) (a : Act) (w : World), d + k = ops.size → n ≤ k → d ≤ fuel → l.size = ops.size → (∀ i, i < ops.size → l.getD i false = decide (i < k)) → Clo ops l →
    wpList P ops Q (ops.toList.drop k) a w → wpAny P .any ops Q fuel l a w := by
  obtain ⟨hb, hn, hw⟩ := split_of hs
  have hlen : ops.toList.length = ops.size := by simp
  intro d
  induction d with
  | zero =>
    intro k fuel l a w hd hk hf hl hv hc h
    have hnil : Region.ready .any ops l = [] := by
      cases hr : Region.ready .any ops l with
      | nil => rfl
      | cons j r =>
        have hj := ready_lt hl (j := j) (by rw [hr]; simp)
        rw [hv j hj.1] at hj
        have := hj.2; simp at this; omega
    rw [List.drop_of_length_le (by omega)] at h
    cases fuel with
    | zero => exact ⟨hnil, h⟩
    | succ fuel => exact ⟨fun _ => h, fun j hj => by rw [hnil] at hj; cases hj⟩
  | succ d ih =>
    intro k fuel l a w hd hk hf hl hv hc h
    have hklt : k < ops.size := by omega
    cases fuel with
    | zero => omega
    | succ fuel =>
      have ho : ops[k]? = some ops[k] := Array.getElem?_eq_getElem hklt
      have ho' : ops.toList[k]? = some ops[k] := by simpa using ho
      refine ⟨fun hnil => ?_, fun j hj => ?_⟩
      · have := all_of_nil hb hl hnil k hklt
        rw [hv k hklt] at this; simp at this
      · obtain ⟨hj1, hj2⟩ := ready_lt hl hj
        have hjk : j = k := by
          rcases Nat.lt_trichotomy j k with g | g | g
          · rw [hv j hj1] at hj2; simp at hj2; omega
          · exact g
          · have := ready_befs hc hj k (hw j (by omega) (by omega) k g)
            rw [hv k hklt] at this; simp at this
        subst hjk
        have hdrop : ops.toList.drop j = ops[j] :: ops.toList.drop (j + 1) := by
          rw [List.drop_eq_getElem_cons (by omega)]; simp
        rw [hdrop] at h
        have h2 : wpOp P ops Q j (wpList P ops Q (ops.toList.drop (j + 1))) a w := by
          unfold wpOp
          simp only [ho]
          exact h
        refine wpOp_mono (fun a' w' h' => ih (j + 1) fuel _ a' w' (by omega) (by omega) (by omega) (by simpa using hl) (fun i hi => ?_) (hc.set hl hj) h') h2
        by_cases hij : j = i
        · subst hij
          have : j < l.size := by omega
          simp [this]
        · rw [getD_set_ne false hij, hv i hi]
          rw [decide_eq_decide]; omega
/-- First what is waited for. -/
theorem any_split {n : Nat} (hs : splitB ops.toList n = true) (hA : opsA.size = n) (hAo : ∀ i, i < n → opsA[i]? = ops[i]?) {QA : Exit → Act → World → Prop} (hQ : ∀ e a w, e ≠ .normal → QA e a w → Q e a w) (hrest : ∀ a w, QA .normal a w → wpList P ops Q (ops.toList.drop n) a w) :
    ∀ (fuel : Nat) (lA l : Array Bool) (a : Act) (w : World), lA.size = n → l.size = ops.size → (∀ i, i < n → l.getD i false = lA.getD i false) → (∀ i, n ≤ i → i < ops.size → l.getD i false = false) → Clo ops l →
    wpAny P .any opsA QA fuel lA a w → wpAny P .any ops Q (fuel + (ops.size - n)) l a w := by
  obtain ⟨hb, hn, hw⟩ := split_of hs
  have hlen : ops.toList.length = ops.size := by simp
  have hbA : backB opsA.toList = true := by
    simp only [backB, List.all_eq_true]
    rintro ⟨o, j⟩ hm
    rw [List.mk_mem_zipIdx_iff_getElem?] at hm
    have hjn : j < n := by have := (List.getElem?_eq_some_iff.1 hm).1; simp at this; omega
    have h1 : ops.toList[j]? = some o := by have := hAo j hjn; simp at hm; rw [hm] at this; simpa using this.symm
    have := back_of hb h1
    simp only [Bool.and_eq_true]
    refine ⟨?_, ?_⟩
    · rw [Array.all_eq_true_iff_forall_mem]
      intro e he
      cases hbi : Region.binds .any e
      · rfl
      · simp [this.1 e he hbi]
    · cases hg : o.guard with
      | none => rfl
      | some mb => obtain ⟨m, b⟩ := mb; simp [this.2 m b hg]
  have sub : ∀ (lA l : Array Bool), lA.size = n → l.size = ops.size → (∀ i, i < n → l.getD i false = lA.getD i false) → Clo ops l → (∃ i, i < n ∧ l.getD i false = false) → ∀ j, j ∈ Region.ready .any ops l ↔ j ∈ Region.ready .any opsA lA := by
    intro lA l hlA hl hv hc ⟨i, hi, hx⟩ j
    constructor
    · intro hj
      have hj1 := ready_lt hl hj
      have hjn : j < n := by
        rcases Nat.lt_or_ge j n with g | g
        · exact g
        · have := ready_befs hc hj i (hw j g (by omega) i (by omega))
          rw [hx] at this; cases this
      rw [mem_ready] at hj ⊢
      obtain ⟨h1, o, h2, h3⟩ := hj
      refine ⟨by rw [getD_tf (by omega), ← hv j hjn]; exact hj1.2, o, by rw [hAo j hjn]; exact h2, fun e he hbi => ?_⟩
      have hlt := (back_of hb (j := j) (o := o) (by simpa using h2)).1 e he hbi
      rw [← hv _ (by omega)]; exact h3 e he hbi
    · intro hj
      have hj1 := ready_lt (ops := opsA) (by omega) hj
      have hjn : j < n := by omega
      rw [mem_ready] at hj ⊢
      obtain ⟨h1, o, h2, h3⟩ := hj
      refine ⟨by rw [getD_tf (by omega), hv j hjn]; exact hj1.2, o, by rw [← hAo j hjn]; exact h2, fun e he hbi => ?_⟩
      have hlt := (back_of hbA (j := j) (o := o) (by simpa using h2)).1 e he hbi
      rw [hv _ (by omega)]; exact h3 e he hbi
  have done : ∀ (fuel : Nat) (l : Array Bool) (a : Act) (w : World), ops.size - n ≤ fuel → l.size = ops.size → (∀ i, i < n → l.getD i false = true) → (∀ i, n ≤ i → i < ops.size → l.getD i false = false) → Clo ops l → QA .normal a w → wpAny P .any ops Q fuel l a w := by
    intro fuel l a w hf hl hv hv2 hc h
    refine any_chain hs (ops.size - n) n fuel l a w (by omega) (Nat.le_refl _) hf hl (fun i hi => ?_) hc (hrest a w h)
    by_cases g : i < n
    · rw [hv i g]; simp [g]
    · rw [hv2 i (by omega) hi]; simp [g]
  have conv : ∀ (j : Nat) (K : Act → World → Prop) (a : Act) (w : World), j < n → wpOp P opsA QA j K a w → wpOp P ops QA j K a w := by
    intro j K a w hj h
    have ho : ops[j]? = some ops[j] := Array.getElem?_eq_getElem (by omega)
    unfold wpOp at *
    rw [hAo j hj] at h
    rw [ho] at h ⊢
    simp only at h ⊢
    have : Region.wanted ops[j] (yielded ops a.tmps) = Region.wanted ops[j] (yielded opsA a.tmps) := by
      unfold Region.wanted
      cases hg : ops[j].guard with
      | none => rfl
      | some mb =>
        obtain ⟨m, b⟩ := mb
        have hm := (back_of hb (j := j) (o := ops[j]) (by simpa using ho)).2 m b hg
        simp only [yielded, hAo m (by omega)]
    rw [this]; exact h
  intro fuel
  induction fuel with
  | zero =>
    intro lA l a w hlA hl hv hv2 hc h
    have hall := all_of_nil hbA (l := lA) (by omega) h.1
    exact done _ l a w (by omega) hl (fun i hi => by rw [hv i hi]; exact hall i (by omega)) hv2 hc h.2
  | succ fuel ih =>
    intro lA l a w hlA hl hv hv2 hc h
    by_cases hall : ∀ i, i < n → l.getD i false = true
    · refine done _ l a w (by omega) hl hall hv2 hc (h.1 ?_)
      cases hr : Region.ready .any opsA lA with
      | nil => rfl
      | cons j r =>
        have hj := ready_lt (ops := opsA) (l := lA) (by omega) (j := j) (by rw [hr]; simp)
        rw [← hv j (by omega), hall j (by omega)] at hj
        cases hj.2
    · have hex : ∃ i, i < n ∧ l.getD i false = false := by
        refine Classical.byContradiction fun hne => hall fun i hi => ?_
        cases hx : l.getD i false with
        | true => rfl
        | false => exact absurd ⟨i, hi, hx⟩ hne
      have hsub := sub lA l hlA hl hv hc hex
      rw [show fuel + 1 + (ops.size - n) = (fuel + (ops.size - n)) + 1 by omega]
      refine ⟨fun hnil => ?_, fun j hj => ?_⟩
      · obtain ⟨i, hi, hx⟩ := hex
        have := all_of_nil hb hl hnil i (by omega)
        rw [hx] at this; cases this
      · have hj' := (hsub j).1 hj
        have hjn : j < n := by have := ready_lt (ops := opsA) (l := lA) (by omega) hj'; omega
        refine wpOp_monoQ (fun a' w' h' => ih _ _ a' w' (by simpa using hlA) (by simpa using hl) (fun i hi => ?_) (fun i h1 h2 => ?_) (hc.set hl hj) h') hQ (conv j _ a w hjn (h.2 j hj'))
        · by_cases hij : j = i
          · subst hij
            have g1 : j < l.size := by omega
            have g2 : j < lA.size := by omega
            simp [g1, g2]
          · rw [getD_set_ne false hij, getD_set_ne false hij]; exact hv i hi
        · rw [getD_set_ne false (by omega)]; exact hv2 i h1 h2
end

section
variable {P : Program} {z : Ini} {ops pre post : List Oper} {id n : Nat} {t : List AV} {h : List ABlk} {Q : Exit → St → Prop} {t2 : List AV} {g1 : List (Nat × Path)} {i : Nat}
theorem AW.regDC (n : Nat) (hm : P.follows .mixedOrders = true) (hs : splitB ops n = true) (hp : ops.take n = pre) (hq : ops.drop n = post) (hd : distinctB pre = true)
    (k : ARE P z pre 0 pre ⟨t, [], h⟩ [] (fun es s => drawOk pre (dsOf es) = true ∧ AWL P z ops.toArray post ⟨cleanT s.g s.t, s.h⟩ Q)) : AW P z (.region id ops.toArray true) ⟨t, h⟩ Q := fun c a w s => by
  obtain ⟨es, s', hr, hk, hQ⟩ := ARE.of k
  refine wp_region_any hm ?_
  have hn := (split_of hs).2.1
  have h1 := AW.anyD (opsA := pre.toArray) (σ := ⟨t, h⟩) (Q := fun e σ => (e = .normal ∧ σ = ⟨cleanT s'.g s'.t, s'.h⟩) ∨ (e ≠ .normal ∧ Q e σ)) hm (es := es) (s' := s') (by simpa using hr) (by simpa using hd) (by simpa using hk) (.inl ⟨rfl, rfl⟩) c a w s
  have hsz : pre.toArray.size = n := by subst hp; simp; omega
  have := any_split (P := P) (ops := ops.toArray) (opsA := pre.toArray) (n := n) (Q := lift z Q) (by simpa using hs) hsz (fun i hi => by subst hp; simp [List.getElem?_take_of_lt hi])
    (fun e a w he ⟨σ, c, q, s⟩ => by
      rcases q with ⟨q, _⟩ | ⟨_, q⟩
      · exact absurd q he
      · exact ⟨σ, c, q, s⟩)
    (fun a w ⟨σ, c, q, s⟩ => by
      rcases q with ⟨_, rfl⟩ | ⟨q, _⟩
      · rw [show ops.toArray.toList.drop n = post by simpa using hq]
        exact hQ c a w s
      · exact absurd rfl q)
    pre.toArray.size (Array.replicate pre.toArray.size false) (Array.replicate ops.toArray.size false) a w.drew (by simpa using hsz) (by simp) (fun i hi => by
      have a1 : i < pre.length := by simp at hsz; omega
      have a2 : i < ops.length := by omega
      simp [a1, a2]) (fun i _ hi => by have : i < ops.length := by simpa using hi
                                       simp [this]) (fun j o ho hL => by
      have hj : j < ops.length := by have := (List.getElem?_eq_some_iff.1 ho).1; simpa using this
      simp [hj] at hL) h1
  rw [show pre.toArray.size + (ops.toArray.size - n) = ops.toArray.size by simp at hsz ⊢; omega] at this
  exact this
theorem AW.regDCS {b : Code} (n : Nat) (hm : P.follows .mixedOrders = true) (hs : splitB ops n = true) (hp : ops.take n = pre) (hq : ops.drop n = post) (hd : distinctB pre = true)
    (k : ARE P z pre 0 pre ⟨t, [], h⟩ [] (fun es s => drawOk pre (dsOf es) = true ∧ AWL P z ops.toArray post ⟨cleanT s.g s.t, s.h⟩ (thenK P z b Q))) : AW P z (.seq (.region id ops.toArray true) b) ⟨t, h⟩ Q := AW.seq (AW.regDC n hm hs hp hq hd k)
theorem ARE.finC {es : List PE} {opsF : Array Oper} (bs : List Nat) (ds : List (List Nat × List Nat)) (hb : befs [] pre = bs) (hds : dsOf es.reverse = ds) (hm : drawOkM pre bs ds = true) (hc : cleanT g1 t = t2) (k : AWL P z opsF post ⟨t2, h⟩ Q) :
    ARE P z pre i [] ⟨t, g1, h⟩ es (fun es s => drawOk pre (dsOf es) = true ∧ AWL P z opsF post ⟨cleanT s.g s.t, s.h⟩ Q) := ARE.nil ⟨by rw [hds]; exact drawOk_of hb hm, by subst hc; exact k⟩
end
end Go.Ab
