/- Programs as bytes: how they are put, how bytes are read. -/
import Derived.Test.YtalgjggmhhdkkaaDoorM0
namespace Go.Ab.Tryd
open Go.Ab
set_option linter.unusedVariables false
set_option linter.unusedSimpArgs false
set_option linter.unnecessarySimpa false
structure Pg where
  bl : Int
  ce : Int
  D : List Int
  c0 : List Ins
  c1 : List Ins
  c2 : List Ins
deriving DecidableEq
def pgL (p : Pg) : List PV := [.int .i64 p.bl, .int .i64 p.ce, .lst false 1 (p.D.map wdR), .lst false 5 (p.c0.map inR), .lst false 5 (p.c1.map inR), .lst false 5 (p.c2.map inR)]
def pgV (p : Pg) : PV := .agg (pgL p)
def pg0 : Pg := ⟨0, 0, [], [], [], []⟩
structure OkPg (p : Pg) : Prop where
  D : ∀ x ∈ p.D, W64 x
  c0 : OkC p.c0
  c1 : OkC p.c1
  c2 : OkC p.c2
def OkB (l : List Int) : Prop := ∀ x ∈ l, 0 ≤ x ∧ x < 256
def byt (n : Int) : Prop := 0 ≤ n ∧ n ≤ 255
instance (n : Int) : Decidable (byt n) := by unfold byt; infer_instance
/-! ### Words -/
def eightL (x : Int) : List Int := [x / 72057594037927936 % 256, x / 281474976710656 % 256, x / 1099511627776 % 256, x / 4294967296 % 256, x / 16777216 % 256, x / 65536 % 256, x / 256 % 256, x % 256]
def num8 (a b c d e f g h : Int) : Int := ((((((a * 256 + b) * 256 + c) * 256 + d) * 256 + e) * 256 + f) * 256 + g) * 256 + h
def numW (l : List Int) : Int := num8 (l.getD 0 0) (l.getD 1 0) (l.getD 2 0) (l.getD 3 0) (l.getD 4 0) (l.getD 5 0) (l.getD 6 0) (l.getD 7 0)
theorem eight_ok (x : Int) : OkB (eightL x) := by
  intro n hn; simp only [eightL, List.mem_cons, List.not_mem_nil, or_false] at hn
  rcases hn with rfl | rfl | rfl | rfl | rfl | rfl | rfl | rfl <;> omega
theorem eight_len (x : Int) : (eightL x).length = 8 := rfl
theorem num_eight {x : Int} (h : W64 x) (l : List Int) : numW (eightL x ++ l) = x := by
  unfold W64 at h
  show num8 (x / 72057594037927936 % 256) (x / 281474976710656 % 256) (x / 1099511627776 % 256) (x / 4294967296 % 256) (x / 16777216 % 256) (x / 65536 % 256) (x / 256 % 256) (x % 256) = x
  unfold num8; omega
theorem eight_num {a b c d e f g h : Int} (ha : 0 ≤ a ∧ a < 256) (hb : 0 ≤ b ∧ b < 256) (hc : 0 ≤ c ∧ c < 256) (hd : 0 ≤ d ∧ d < 256) (he : 0 ≤ e ∧ e < 256) (hf : 0 ≤ f ∧ f < 256) (hg : 0 ≤ g ∧ g < 256) (hh : 0 ≤ h ∧ h < 256) :
    eightL (num8 a b c d e f g h) = [a, b, c, d, e, f, g, h] ∧ W64 (num8 a b c d e f g h) := by
  unfold eightL num8 W64
  refine ⟨?_, by omega⟩
  congr 1
  · omega
  congr 1
  · omega
  congr 1
  · omega
  congr 1
  · omega
  congr 1
  · omega
  congr 1
  · omega
  congr 1
  · omega
  congr 1
  omega
theorem get_ok {l : List Int} (h : OkB l) (j : Nat) : 0 ≤ l.getD j 0 ∧ l.getD j 0 < 256 := by
  rcases Nat.lt_or_ge j l.length with q | q
  · exact h _ (getD_mem q)
  · rw [List.getD_eq_getElem?_getD, List.getElem?_eq_none q]; decide
theorem numW_ok {l : List Int} (h : OkB l) : W64 (numW l) := (eight_num (get_ok h 0) (get_ok h 1) (get_ok h 2) (get_ok h 3) (get_ok h 4) (get_ok h 5) (get_ok h 6) (get_ok h 7)).2
theorem take8 {l : List Int} (h : 8 ≤ l.length) : l.take 8 = [l.getD 0 0, l.getD 1 0, l.getD 2 0, l.getD 3 0, l.getD 4 0, l.getD 5 0, l.getD 6 0, l.getD 7 0] := by
  match l, h with
  | a :: b :: c :: d :: e :: f :: g :: i :: l, _ => rfl
theorem eight_numW {l : List Int} (h : OkB l) (hl : 8 ≤ l.length) : eightL (numW l) = l.take 8 := by
  rw [take8 hl]
  exact (eight_num (get_ok h 0) (get_ok h 1) (get_ok h 2) (get_ok h 3) (get_ok h 4) (get_ok h 5) (get_ok h 6) (get_ok h 7)).1
theorem OkB.drop {l : List Int} (h : OkB l) (n : Nat) : OkB (l.drop n) := fun x hx => h x (List.mem_of_mem_drop hx)
theorem OkB.take {l : List Int} (h : OkB l) (n : Nat) : OkB (l.take n) := fun x hx => h x (List.mem_of_mem_take hx)
theorem OkB.app {a b : List Int} (h : OkB a) (k : OkB b) : OkB (a ++ b) := fun x hx => (List.mem_append.1 hx).elim (h x) (k x)
/-! ### Put -/
def insL (i : Ins) : List Int := [i.1, i.2.1, i.2.2.1, i.2.2.2.1] ++ eightL i.2.2.2.2
def okI (i : Ins) : Prop := byt i.1 ∧ byt i.2.1 ∧ byt i.2.2.1 ∧ byt i.2.2.2.1
instance (i : Ins) : Decidable (okI i) := by unfold okI; infer_instance
def okK (K : List Ins) : Prop := ∀ i ∈ K, okI i
instance (K : List Ins) : Decidable (okK K) := by unfold okK; infer_instance
def codL (K : List Ins) : List Int := (K.length : Int) :: K.flatMap insL
def putL (p : Pg) : List Int := [66, 87, 75, 49, p.bl, p.ce, (p.D.length : Int)] ++ (p.D.flatMap eightL ++ (codL p.c0 ++ (codL p.c1 ++ codL p.c2)))
def sizeOk (p : Pg) : Prop := byt p.bl ∧ byt p.ce ∧ p.D.length ≤ 255 ∧ p.c0.length ≤ 255 ∧ p.c1.length ≤ 255 ∧ p.c2.length ≤ 255
instance (p : Pg) : Decidable (sizeOk p) := by unfold sizeOk; infer_instance
def formOk (p : Pg) : Prop := okK p.c0 ∧ okK p.c1 ∧ okK p.c2
instance (p : Pg) : Decidable (formOk p) := by unfold formOk; infer_instance
def putE (p : Pg) : Int := if sizeOk p then (if formOk p then 0 else 5) else 13
def putS (p : Pg) : ByteArray := if putE p = 0 then strOf (putL p) else ⟨#[]⟩
theorem putE_0 {p : Pg} : putE p = 0 ↔ sizeOk p ∧ formOk p := by
  unfold putE
  by_cases h : sizeOk p
  · by_cases k : formOk p <;> simp [h, k]
  · simp [h]
theorem byt_ok {n : Int} (h : byt n) : 0 ≤ n ∧ n < 256 := by unfold byt at h; omega
theorem ins_ok {i : Ins} (h : okI i) : OkB (insL i) := by
  refine OkB.app (fun x hx => ?_) (eight_ok _)
  simp only [List.mem_cons, List.not_mem_nil, or_false] at hx
  rcases hx with rfl | rfl | rfl | rfl
  · exact byt_ok h.1
  · exact byt_ok h.2.1
  · exact byt_ok h.2.2.1
  · exact byt_ok h.2.2.2
theorem flat_ok {α : Type} {f : α → List Int} {l : List α} (h : ∀ a ∈ l, OkB (f a)) : OkB (l.flatMap f) := fun x hx => by
  obtain ⟨a, ha, hx⟩ := List.mem_flatMap.1 hx; exact h a ha x hx
theorem cons_ok {n : Int} {l : List Int} (h : 0 ≤ n ∧ n < 256) (k : OkB l) : OkB (n :: l) := fun x hx => (List.mem_cons.1 hx).elim (fun e => e ▸ h) (k x)
theorem cod_ok {K : List Ins} (h : okK K) (hl : K.length ≤ 255) : OkB (codL K) := cons_ok (by omega) (flat_ok fun i hi => ins_ok (h i hi))
theorem put_ok {p : Pg} (h : sizeOk p) (k : formOk p) : OkB (putL p) := by
  obtain ⟨h1, h2, h3, h4, h5, h6⟩ := h
  refine OkB.app ?_ (.app (flat_ok fun x _ => eight_ok x) (.app (cod_ok k.1 h4) (.app (cod_ok k.2.1 h5) (cod_ok k.2.2 h6))))
  exact cons_ok (by decide) (cons_ok (by decide) (cons_ok (by decide) (cons_ok (by decide) (cons_ok (byt_ok h1) (cons_ok (byt_ok h2) (cons_ok (by omega) (fun x hx => by cases hx)))))))
/-! ### Read -/
abbrev Res := Pg × Int
def short : Res := (pg0, 6)
def pEnd (p : Pg) : List Int → Res
  | [] => (p, 0)
  | _ :: _ => (pg0, 5)
def insOf (l : List Int) : Ins := (l.getD 0 0, l.getD 1 0, l.getD 2 0, l.getD 3 0, numW (l.drop 4))
def pIns (k : List Ins → List Int → Res) : Nat → List Ins → List Int → Res
  | 0, K, l => k K l
  | m + 1, K, l => if l.length < 12 then short else pIns k m (K ++ [insOf l]) (l.drop 12)
def pCode (k : List Ins → List Int → Res) : List Int → Res
  | [] => short
  | m :: l => pIns k m.toNat [] l
def pDisk (k : List Int → List Int → Res) : Nat → List Int → List Int → Res
  | 0, D, l => k D l
  | m + 1, D, l => if l.length < 8 then short else pDisk k m (D ++ [numW l]) (l.drop 8)
def pC2 (B C : Int) (D : List Int) (K0 K1 : List Ins) (l : List Int) : Res := pCode (fun K2 l => pEnd ⟨B, C, D, K0, K1, K2⟩ l) l
def pC1 (B C : Int) (D : List Int) (K0 : List Ins) (l : List Int) : Res := pCode (fun K1 l => pC2 B C D K0 K1 l) l
def pC0 (B C : Int) (D : List Int) (l : List Int) : Res := pCode (fun K0 l => pC1 B C D K0 l) l
def pTop : List Int → Res
  | B :: C :: n :: l => pDisk (fun D l => pC0 B C D l) n.toNat [] l
  | _ => short
def pMag : List Int → List Int → Res
  | [], l => pTop l
  | _ :: _, [] => short
  | m :: ms, c :: l => if c = m then pMag ms l else (pg0, 12)
def readL (l : List Int) : Res := pMag [66, 87, 75, 49] l
/-! What is put is read as it was, whatever is behind. -/
theorem insOf_ins {i : Ins} (h : W64 i.2.2.2.2) (l : List Int) : insOf (insL i ++ l) = i ∧ (insL i ++ l).drop 12 = l ∧ 12 ≤ (insL i ++ l).length := by
  obtain ⟨a, b, c, d, m⟩ := i
  refine ⟨?_, rfl, by simp [insL, eightL]⟩
  show (a, b, c, d, numW (eightL m ++ l)) = (a, b, c, d, m)
  rw [num_eight h]
theorem pIns_put {k : List Ins → List Int → Res} : ∀ (K A : List Ins) (l : List Int), OkC K → pIns k K.length A (K.flatMap insL ++ l) = k (A ++ K) l
  | [], A, l, _ => by simp [pIns]
  | i :: K, A, l, h => by
    obtain ⟨h1, h2, h3⟩ := insOf_ins (h i (by simp)) (K.flatMap insL ++ l)
    simp only [List.flatMap_cons, List.length_cons, List.append_assoc]
    rw [pIns, if_neg (by omega), h1, h2, pIns_put K (A ++ [i]) l fun j hj => h j (by simp [hj]), List.append_assoc]; rfl
theorem pCode_put {k : List Ins → List Int → Res} {K : List Ins} {l : List Int} (h : OkC K) : pCode k (codL K ++ l) = k K l := by
  unfold codL
  simp only [List.cons_append]
  rw [pCode, Int.toNat_natCast, pIns_put K [] l h]; rfl
theorem pDisk_put {k : List Int → List Int → Res} : ∀ (D A l : List Int), (∀ x ∈ D, W64 x) → pDisk k D.length A (D.flatMap eightL ++ l) = k (A ++ D) l
  | [], A, l, _ => by simp [pDisk]
  | x :: D, A, l, h => by
    simp only [List.flatMap_cons, List.length_cons, List.append_assoc]
    rw [pDisk, if_neg (by simp [eightL]), num_eight (h x (by simp))]
    have : (eightL x ++ (D.flatMap eightL ++ l)).drop 8 = D.flatMap eightL ++ l := rfl
    rw [this, pDisk_put D (A ++ [x]) l fun y hy => h y (by simp [hy]), List.append_assoc]; rfl
theorem read_put {p : Pg} (h : OkPg p) (l : List Int) : readL (putL p ++ l) = pEnd p l := by
  unfold readL putL
  simp only [List.cons_append, List.nil_append, List.append_assoc, pMag, if_true]
  rw [pTop, Int.toNat_natCast, pDisk_put p.D [] _ h.D]
  simp only [List.nil_append]
  unfold pC0; rw [pCode_put h.c0]
  unfold pC1; rw [pCode_put h.c1]
  unfold pC2; rw [pCode_put h.c2]
/-! A byte less is too short. -/
theorem short_no {p : Pg} : short ≠ (p, 0) := fun h => by injection h with _ h; exact absurd h (by decide)
/-! What is read so are its bytes. -/
theorem ins_of {l : List Int} (h : OkB l) (hl : 12 ≤ l.length) : insL (insOf l) ++ l.drop 12 = l ∧ okI (insOf l) ∧ W64 (insOf l).2.2.2.2 := by
  refine ⟨?_, ⟨?_, ?_, ?_, ?_⟩, numW_ok (h.drop 4)⟩
  · show [l.getD 0 0, l.getD 1 0, l.getD 2 0, l.getD 3 0] ++ eightL (numW (l.drop 4)) ++ l.drop 12 = l
    rw [eight_numW (h.drop 4) (by simp; omega)]
    have e1 : [l.getD 0 0, l.getD 1 0, l.getD 2 0, l.getD 3 0] = l.take 4 := by
      match l, hl with
      | a :: b :: c :: d :: l, _ => rfl
    have e2 : l.drop 12 = (l.drop 4).drop 8 := by rw [List.drop_drop]
    rw [e1, e2, List.append_assoc, List.take_append_drop, List.take_append_drop]
  all_goals (unfold byt; have h0 := get_ok h 0; have h1 := get_ok h 1; have h2 := get_ok h 2; have h3 := get_ok h 3; show 0 ≤ l.getD _ 0 ∧ l.getD _ 0 ≤ 255; omega)
theorem pIns_inv {k : List Ins → List Int → Res} {p : Pg} : ∀ (m : Nat) (K : List Ins) (l : List Int), OkB l → pIns k m K l = (p, 0) → ∃ K' l', l = K'.flatMap insL ++ l' ∧ k (K ++ K') l' = (p, 0) ∧ K'.length = m ∧ okK K' ∧ OkC K' ∧ OkB l'
  | 0, K, l, hl, h => ⟨[], l, rfl, by rw [List.append_nil]; exact h, rfl, (fun i hi => by cases hi), (fun i hi => by cases hi), hl⟩
  | m + 1, K, l, hl, h => by
    rw [pIns] at h
    by_cases h1 : l.length < 12
    · rw [if_pos h1] at h; exact absurd h short_no
    · rw [if_neg h1] at h
      obtain ⟨K', l', e, hk, hm, h2, h3, h4⟩ := pIns_inv m _ _ (hl.drop 12) h
      obtain ⟨g1, g2, g3⟩ := ins_of hl (by omega)
      refine ⟨insOf l :: K', l', ?_, by rw [List.append_assoc] at hk; exact hk, by simp [hm], ?_, ?_, h4⟩
      · rw [List.flatMap_cons, List.append_assoc, ← e, g1]
      · intro i hi; rcases List.mem_cons.1 hi with rfl | q
        · exact g2
        · exact h2 i q
      · intro i hi; rcases List.mem_cons.1 hi with rfl | q
        · exact g3
        · exact h3 i q
theorem pCode_inv {k : List Ins → List Int → Res} {p : Pg} {l : List Int} (hl : OkB l) (h : pCode k l = (p, 0)) : ∃ K l', l = codL K ++ l' ∧ k K l' = (p, 0) ∧ K.length ≤ 255 ∧ okK K ∧ OkC K ∧ OkB l' := by
  cases l with
  | nil => exact absurd h short_no
  | cons m l =>
    have hm := hl m (by simp)
    obtain ⟨K, l', e, h1, h2, h3, h4, h5⟩ := pIns_inv m.toNat [] l (fun x hx => hl x (by simp [hx])) h
    refine ⟨K, l', ?_, h1, by omega, h3, h4, h5⟩
    unfold codL; rw [List.cons_append, ← e, h2, show ((m.toNat : Nat) : Int) = m by omega]
theorem pDisk_inv {k : List Int → List Int → Res} {p : Pg} : ∀ (m : Nat) (D l : List Int), OkB l → pDisk k m D l = (p, 0) → ∃ D' l', l = D'.flatMap eightL ++ l' ∧ k (D ++ D') l' = (p, 0) ∧ D'.length = m ∧ (∀ x ∈ D', W64 x) ∧ OkB l'
  | 0, D, l, hl, h => ⟨[], l, rfl, by rw [List.append_nil]; exact h, rfl, (fun i hi => by cases hi), hl⟩
  | m + 1, D, l, hl, h => by
    rw [pDisk] at h
    by_cases h1 : l.length < 8
    · rw [if_pos h1] at h; exact absurd h short_no
    · rw [if_neg h1] at h
      obtain ⟨D', l', e, hk, hm, h2, h4⟩ := pDisk_inv m _ _ (hl.drop 8) h
      refine ⟨numW l :: D', l', ?_, by rw [List.append_assoc] at hk; exact hk, by simp [hm], ?_, h4⟩
      · rw [List.flatMap_cons, List.append_assoc, ← e, eight_numW hl (by omega), List.take_append_drop]
      · intro i hi; rcases List.mem_cons.1 hi with rfl | q
        · exact numW_ok hl
        · exact h2 i q
theorem pEnd_inv {p q : Pg} {l : List Int} (h : pEnd q l = (p, 0)) : l = [] ∧ q = p := by
  cases l with
  | nil => injection h with h _; exact ⟨rfl, h⟩
  | cons a l => injection h with _ h; exact absurd h (by decide)
theorem pTop_inv {p : Pg} {l : List Int} (hl : OkB l) (h : pTop l = (p, 0)) : [66, 87, 75, 49] ++ l = putL p ∧ sizeOk p ∧ formOk p ∧ OkPg p := by
  match l, hl, h with
  | [], _, h => exact absurd h short_no
  | [a], _, h => exact absurd h short_no
  | [a, b], _, h => exact absurd h short_no
  | B :: C :: n :: l, hl, h =>
    have hB := hl B (by simp); have hC := hl C (by simp); have hn := hl n (by simp)
    obtain ⟨D, l1, e1, h1, hm, hD, o1⟩ := pDisk_inv n.toNat [] l (fun x hx => hl x (by simp [hx])) h
    obtain ⟨K0, l2, e2, h2, m0, k0, w0, o2⟩ := pCode_inv o1 h1
    obtain ⟨K1, l3, e3, h3, m1, k1, w1, o3⟩ := pCode_inv o2 h2
    obtain ⟨K2, l4, e4, h4, m2, k2, w2, o4⟩ := pCode_inv o3 h3
    obtain ⟨e5, e6⟩ := pEnd_inv h4
    subst e6; subst e5
    refine ⟨?_, ⟨⟨hB.1, by show B ≤ 255; omega⟩, ⟨hC.1, by show C ≤ 255; omega⟩, by show D.length ≤ 255; omega, m0, m1, m2⟩, ⟨k0, k1, k2⟩, ⟨hD, w0, w1, w2⟩⟩
    show _ = [66, 87, 75, 49, B, C, (D.length : Int)] ++ (D.flatMap eightL ++ (codL K0 ++ (codL K1 ++ codL K2)))
    rw [List.append_nil] at e4
    rw [e1, e2, e3, e4, hm, show ((n.toNat : Nat) : Int) = n by omega]; rfl
theorem read_inv {p : Pg} {l : List Int} (hl : OkB l) (h : readL l = (p, 0)) : l = putL p ∧ sizeOk p ∧ formOk p ∧ OkPg p := by
  have key : ∀ (ms : List Int) (l : List Int), OkB l → pMag ms l = (p, 0) → ∃ l', l = ms ++ l' ∧ pTop l' = (p, 0) ∧ OkB l' := by
    intro ms
    induction ms with
    | nil => intro l hl h; exact ⟨l, rfl, h, hl⟩
    | cons m ms ih =>
      intro l hl h
      cases l with
      | nil => exact absurd h short_no
      | cons c l =>
        rw [pMag] at h
        split at h
        · rename_i e
          obtain ⟨l', e1, e2, e3⟩ := ih l (fun x hx => hl x (by simp [hx])) h
          exact ⟨l', by rw [e, e1]; rfl, e2, e3⟩
        · injection h with _ h; exact absurd h (by decide)
  obtain ⟨l', e, h1, h2⟩ := key _ l hl h
  obtain ⟨g1, g2⟩ := pTop_inv h2 h1
  exact ⟨by rw [e, g1], g2⟩
end Go.Ab.Tryd
