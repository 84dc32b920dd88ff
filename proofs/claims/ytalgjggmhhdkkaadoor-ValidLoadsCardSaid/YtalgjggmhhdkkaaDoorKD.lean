/- Loops, joins, lent memory, inputs, laws. -/
import Derived.Test.YtalgjggmhhdkkaaDoorKC
import Derived.Laws.BitsLemmas
import Derived.SizedLaws
import Derived.ProofKit
import Derived.Carry
import Derived.ChangeShapes
import Derived.WideShapes
import Derived.OpenShut
import Derived.Below
namespace Go.Ab
set_option linter.unusedVariables false
set_option linter.unusedSimpArgs false

def I64 (n : Int) : Prop := -9223372036854775808 ≤ n ∧ n ≤ 9223372036854775807
def U64 (n : Int) : Prop := 0 ≤ n ∧ n ≤ 18446744073709551615
theorem wrap64 {n : Int} (h : I64 n) : IntKind.i64.wrap n = n := by
  rw [IntKind.wrap_i64]; unfold I64 at h; omega
theorem w64 {n : Int} (h1 : -9223372036854775808 ≤ n) (h2 : n ≤ 9223372036854775807) : IntKind.i64.wrap n = n := wrap64 ⟨h1, h2⟩
theorem wU {n : Int} (h1 : 0 ≤ n) (h2 : n ≤ 18446744073709551615) : IntKind.u64.wrap n = n := by
  simp only [IntKind.wrap, IntKind.bits, IntKind.signed, Bool.false_and, Bool.false_eq_true, if_false]; omega
theorem wrap_u64' (n : Int) : IntKind.u64.wrap n = n % 18446744073709551616 := by simp [IntKind.wrap, IntKind.bits, IntKind.signed]
theorem u64_of_wf {n : Int} (h : (Lit.int .u64 n).wf = true) : U64 n := by
  simp [Lit.wf, IntKind.min, IntKind.max, IntKind.bits, IntKind.signed] at h; unfold U64; omega
end Go.Ab
namespace Go.Ab
set_option linter.unusedVariables false
set_option linter.unusedSimpArgs false

theorem byteArray_ext {a b : ByteArray} (h : a.data.toList = b.data.toList) : a = b := by
  cases a; cases b; simp_all
theorem strOf_data (ns : List Int) : (strOf ns).data.toList = ns.map fun n => UInt8.ofNat n.toNat := by
  have key : ∀ (ns : List Int) (s : ByteArray), (ns.foldl (fun r n => r.push (UInt8.ofNat n.toNat)) s).data.toList = s.data.toList ++ ns.map fun n => UInt8.ofNat n.toNat := by
    intro ns
    induction ns with
    | nil => intro s; simp
    | cons n ns ih => intro s; rw [List.foldl_cons, ih]; simp [ByteArray.data_push]
  have := key ns ByteArray.empty
  simpa [strOf] using this
@[go_sem] theorem strOf_size (ns : List Int) : (strOf ns).size = ns.length := by
  have := congrArg List.length (strOf_data ns)
  rw [List.length_map, Array.length_toList] at this
  exact this
@[go_sem] theorem strOf_append (a b : List Int) : strOf a ++ strOf b = strOf (a ++ b) := byteArray_ext (by
  rw [ByteArray.data_append, Array.toList_append, strOf_data, strOf_data, strOf_data, List.map_append])
@[go_sem] theorem strOf_extract (ns : List Int) (a b : Nat) : (strOf ns).extract a b = strOf ((ns.drop a).take (b - a)) := byteArray_ext (by
  rw [ByteArray.data_extract, strOf_data]
  have := strOf_data ns
  rw [Array.toList_extract, this, List.extract_eq_take_drop, ← List.map_drop, ← List.map_take])
/-- A text's bytes, as numbers. -/
def bytes (s : ByteArray) : List Int := s.data.toList.map fun b => (b.toNat : Int)
theorem strOf_bytes (s : ByteArray) : strOf (bytes s) = s := byteArray_ext (by
  rw [strOf_data, bytes, List.map_map]
  have : (fun n : Int => UInt8.ofNat n.toNat) ∘ (fun b : UInt8 => (b.toNat : Int)) = id := by funext b; simp
  rw [this, List.map_id])
theorem bat_strOf {ns : List Int} (h : ∀ n ∈ ns, 0 ≤ n ∧ n < 256) (j : Nat) : bat (strOf ns) j = ns.getD j 0 := by
  unfold bat
  rw [strOf_data, List.getD_eq_getElem?_getD, List.getElem?_map, List.getD_eq_getElem?_getD]
  cases hj : ns[j]? with
  | none => rfl
  | some n =>
    have := h n (List.mem_of_getElem? hj)
    simp only [Option.map_some, Option.getD_some, UInt8.toNat_ofNat']
    omega
end Go.Ab
namespace Go.Ab
open Go.RowKit
set_option linter.unusedVariables false
set_option linter.unusedSimpArgs false

section
variable (S fs : List Nat) (h : List ABlk)
def inS (S : List Nat) : Nat → Bool := fun i => S.contains i
mutual
/-- The second says of the new names no more than the first does of the old ones. -/
def relA : AV → AV → Prop
  | _, .any => True
  | .ptr i o, .ptr j o' => fs[j]? = some i ∧ o = o'
  | .vs i o n, .vs j o' n' => fs[j]? = some i ∧ o = o' ∧ n = n'
  | .ve i r o, .ve j r' o' => fs[j]? = some i ∧ r = r' ∧ o = o'
  | .sl i o n c, .sl j o' n' c' => fs[j]? = some i ∧ o = o' ∧ n = n' ∧ c = c'
  | .mp i, .mp j => fs[j]? = some i
  | .el r o, .el r' o' => r = r' ∧ o = o'
  | .agg xs, .agg ys => relAL xs ys
  | .tup xs, .tup ys => relAL xs ys
  | .fn f xs ys, .fn f' xs' ys' => f = f' ∧ relAL xs xs' ∧ relAL ys ys'
  | .ifc t x, .ifc t' y => t = t' ∧ relA x y
  | .pv p, .pv q => Sub p q
  | x, .pv q => ∃ p, purH (inS S) h x = some p ∧ Sub p q
  | _, _ => False
def relAL : List AV → List AV → Prop
  | [], [] => True
  | x :: xs, y :: ys => relA x y ∧ relAL xs ys
  | _, _ => False
end
theorem relAL_get : ∀ {xs ys : List AV}, relAL S fs h xs ys → xs.length = ys.length ∧ ∀ (k : Nat) (x y : AV), xs[k]? = some x → ys[k]? = some y → relA S fs h x y
  | [], [], _ => ⟨rfl, fun k x y hk => by simp at hk⟩
  | x :: xs, y :: ys, hh => by
    rw [relAL] at hh
    obtain ⟨h1, h2⟩ := relAL_get hh.2
    refine ⟨by simp [h1], fun k u v hk hv => ?_⟩
    cases k with
    | zero => simp at hk hv; subst hk; subst hv; exact hh.1
    | succ k => exact h2 k u v (by simpa using hk) (by simpa using hv)
  | [], _ :: _, hh => by simp [relAL] at hh
  | _ :: _, [], hh => by simp [relAL] at hh
def relB : ABlk → ABlk → Prop
  | .nb, _ => False
  | _, .gone => True
  | .box cs, .box cs' => relAL S fs h cs cs'
  | .vec sz rows, .vec sz' rows' => sz = sz' ∧ rows = rows'
  | .mp none es, .mp none es' => es = es'
  | .mp (some (m, n)) es, .mp (some (m', n')) es' => fs[m']? = some m ∧ n = n' ∧ es = es'
  | _, _ => False
def relH : List Nat → List ABlk → Prop
  | [], [] => True
  | i :: is, b' :: h' => (match h[i]? with | some b => relB S fs h b b' | none => False) ∧ (b' = .gone ∨ inS S i = false) ∧ relH is h'
  | _, _ => False
theorem relH_get : ∀ {is : List Nat} {h' : List ABlk}, relH S fs h is h' → is.length = h'.length ∧ ∀ (k : Nat) (b' : ABlk), h'[k]? = some b' → ∃ i b, is[k]? = some i ∧ h[i]? = some b ∧ relB S fs h b b' ∧ (b' = .gone ∨ inS S i = false)
  | [], [], _ => ⟨rfl, fun k b' hk => by simp at hk⟩
  | i :: is, b :: h', hh => by
    rw [relH] at hh
    obtain ⟨h1, h2⟩ := relH_get hh.2.2
    refine ⟨by simp [h1], fun k u hk => ?_⟩
    cases k with
    | zero =>
      simp at hk; subst hk
      have h3 := hh.1
      cases hi : h[i]? with
      | none => simp [hi] at h3
      | some b0 => simp only [hi] at h3; exact ⟨i, b0, rfl, hi, h3, hh.2.1⟩
    | succ k => exact h2 k u (by simpa using hk)
  | [], _ :: _, hh => by simp [relH] at hh
  | _ :: _, [], hh => by simp [relH] at hh
end

def Cx.to (c : Cx) (S fs : List Nat) (h : List ABlk) : Cx := ⟨fun i => c.mu (fs.getD i 0), fun i => c.vd (fs.getD i 0), c.all (inS S) h⟩
theorem Cx.to_mu {c : Cx} {S fs : List Nat} {h : List ABlk} {j i : Nat} (e : fs[j]? = some i) : (c.to S fs h).mu j = c.mu i ∧ (c.to S fs h).vd j = c.vd i := by
  simp [Cx.to, List.getD_eq_getElem?_getD, e]

theorem relB_nb {S fs : List Nat} {h : List ABlk} {b b' : ABlk} (hh : relB S fs h b b') : b' ≠ .nb := by
  rintro rfl; cases b <;> simp [relB] at hh

theorem ARep.to {S fs : List Nat} {z : Ini} {c : Cx} {h h' : List ABlk} {w : World} (s : MSim z h c w) (hH : relH S fs h fs h') {x : AV} {v : Value} (r : ARep c h w x v) : ∀ {y : AV}, relA S fs h x y → ARep (c.to S fs h) h' w y v := by
  have pure : ∀ {x : AV} {v : Value} {q : PV}, ARep c h w x v → (∃ p, Ab.purH (inS S) h x = some p ∧ Sub p q) → ARep (c.to S fs h) h' w (.pv q) v := fun r ⟨p, h1, h2⟩ => .pv _ _ (h2 _ _ _ (r.purH s h1))
  obtain ⟨hl, hg⟩ := relH_get S fs h hH
  have blk : ∀ {j i : Nat} {b : ABlk}, fs[j]? = some i → h[i]? = some b → ∃ b', h'[j]? = some b' ∧ relB S fs h b b' := fun {j i b} e hi => by
    have hlt : j < h'.length := by rw [← hl]; exact (List.getElem?_eq_some_iff.1 e).1
    obtain ⟨i', b0, g1, g2, g3, _⟩ := hg j h'[j] (List.getElem?_eq_getElem hlt)
    rw [e] at g1; injection g1 with g1; subst g1
    rw [hi] at g2; injection g2 with g2; subst g2
    exact ⟨_, List.getElem?_eq_getElem hlt, g3⟩
  induction r with
  | pv p v hr =>
    intro y hy
    cases y with
    | any => exact .any _
    | pv q => rw [relA] at hy; exact .pv _ _ (hy _ _ _ (hr.mono (fun b hb => .inl hb) (fun _ _ => rfl)))
    | _ => simp [relA] at hy
  | ptr i off v b ho hi hb hv =>
    intro y hy
    cases y with
    | any => exact .any _
    | pv q => simp [relA, Ab.purH] at hy
    | ptr j o =>
      rw [relA] at hy; obtain ⟨e, rfl⟩ := hy
      obtain ⟨b', g1, g2⟩ := blk e hi
      refine .ptr j off v b' ho g1 (relB_nb g2) fun cs e' => ?_
      subst e'
      cases b with
      | box cs0 => rw [hv cs0 rfl, (Cx.to_mu e).1]
      | _ => simp [relB] at g2
    | _ => simp [relA] at hy
  | el row off a us hcell =>
    intro y hy
    cases y with
    | any => exact .any _
    | pv q => simp [relA, Ab.purH] at hy
    | el r o =>
      rw [relA] at hy; obtain ⟨rfl, rfl⟩ := hy
      exact .el row off a us fun k p hk => by
        obtain ⟨h1, h2, h3, h4⟩ := hcell k p hk
        exact ⟨.inl h1, h2, h3, h4.mono (fun b hb => .inl hb) (fun _ _ => rfl)⟩
    | _ => simp [relA] at hy
  | vs i off n v b ho hi hb hv =>
    intro y hy
    cases y with
    | any => exact .any _
    | pv q => simp only [relA] at hy; exact pure (.vs i off n v b ho hi hb hv) hy
    | vs j o n' =>
      rw [relA] at hy; obtain ⟨e, rfl, rfl⟩ := hy
      obtain ⟨b', g1, g2⟩ := blk e hi
      refine .vs j off n v b' ho g1 (relB_nb g2) fun sz rows e' => ?_
      subst e'
      cases b with
      | vec sz0 rows0 => simp only [relB] at g2; obtain ⟨rfl, rfl⟩ := g2; rw [(Cx.to_mu e).1, (Cx.to_mu e).2]; exact hv _ _ rfl
      | _ => simp [relB] at g2
    | _ => simp [relA] at hy
  | ve i r off v b ho hi hb hv =>
    intro y hy
    cases y with
    | any => exact .any _
    | pv q => simp [relA, Ab.purH] at hy
    | ve j r' o =>
      rw [relA] at hy; obtain ⟨e, rfl, rfl⟩ := hy
      obtain ⟨b', g1, g2⟩ := blk e hi
      refine .ve j r off v b' ho g1 (relB_nb g2) fun sz rows e' => ?_
      subst e'
      cases b with
      | vec sz0 rows0 => simp only [relB] at g2; obtain ⟨rfl, rfl⟩ := g2; rw [(Cx.to_mu e).1, (Cx.to_mu e).2]; exact hv _ _ rfl
      | _ => simp [relB] at g2
    | _ => simp [relA] at hy
  | sl i off n cap v b ho hi hb hv =>
    intro y hy
    cases y with
    | any => exact .any _
    | pv q => simp [relA, Ab.purH] at hy
    | sl j o n' c' =>
      rw [relA] at hy; obtain ⟨e, rfl, rfl, rfl⟩ := hy
      obtain ⟨b', g1, g2⟩ := blk e hi
      refine .sl j off n cap v b' ho g1 (relB_nb g2) fun cs e' => ?_
      subst e'
      cases b with
      | box cs0 => rw [(Cx.to_mu e).1]; exact hv cs0 rfl
      | _ => simp [relB] at g2
    | _ => simp [relA] at hy
  | agg xs vs hl2 ho hr ih =>
    intro y hy
    cases y with
    | any => exact .any _
    | pv q => simp only [relA] at hy; exact pure (.agg xs vs hl2 ho hr) hy
    | agg ys =>
      rw [relA] at hy
      obtain ⟨h1, h2⟩ := relAL_get S fs h hy
      refine .agg ys vs (h1.symm.trans hl2) ho fun k y v hk hv => ?_
      have hlt : k < xs.length := by rw [h1]; exact (List.getElem?_eq_some_iff.1 hk).1
      exact ih k xs[k] v (List.getElem?_eq_getElem hlt) hv (h2 k _ y (List.getElem?_eq_getElem hlt) hk)
    | _ => simp [relA] at hy
  | tup xs vs hl2 hr ih =>
    intro y hy
    cases y with
    | any => exact .any _
    | pv q => simp only [relA] at hy; exact pure (.tup xs vs hl2 hr) hy
    | tup ys =>
      rw [relA] at hy
      obtain ⟨h1, h2⟩ := relAL_get S fs h hy
      refine .tup ys vs (h1.symm.trans hl2) fun k y v hk hv => ?_
      have hlt : k < xs.length := by rw [h1]; exact (List.getElem?_eq_some_iff.1 hk).1
      exact ih k xs[k] v (List.getElem?_eq_getElem hlt) hv (h2 k _ y (List.getElem?_eq_getElem hlt) hk)
    | _ => simp [relA] at hy
  | fn f xs ys us vs hl2 hr hl' hr' ih ih' =>
    intro y hy
    cases y with
    | any => exact .any _
    | pv q => simp [relA, Ab.purH] at hy
    | fn f' xs' ys' =>
      rw [relA] at hy; obtain ⟨rfl, k1, k2⟩ := hy
      obtain ⟨h1, h2⟩ := relAL_get S fs h k1
      obtain ⟨h3, h4⟩ := relAL_get S fs h k2
      refine .fn f xs' ys' us vs (h1.symm.trans hl2) (fun k y v hk hv => ?_) (h3.symm.trans hl') (fun k y v hk hv => ?_)
      · have hlt : k < xs.length := by rw [h1]; exact (List.getElem?_eq_some_iff.1 hk).1
        exact ih k xs[k] v (List.getElem?_eq_getElem hlt) hv (h2 k _ y (List.getElem?_eq_getElem hlt) hk)
      · have hlt : k < ys.length := by rw [h3]; exact (List.getElem?_eq_some_iff.1 hk).1
        exact ih' k ys[k] v (List.getElem?_eq_getElem hlt) hv (h4 k _ y (List.getElem?_eq_getElem hlt) hk)
    | _ => simp [relA] at hy
  | ifc t x v hr ih =>
    intro y hy
    cases y with
    | any => exact .any _
    | pv q => simp only [relA] at hy; exact pure (.ifc t x v hr) hy
    | ifc t' y => rw [relA] at hy; obtain ⟨rfl, k⟩ := hy; exact .ifc t y v (ih k)
    | _ => simp [relA] at hy
  | mp i v b ho hi hb hv =>
    intro y hy
    cases y with
    | any => exact .any _
    | pv q => simp [relA, Ab.purH] at hy
    | mp j =>
      rw [relA] at hy; have e := hy
      obtain ⟨b', g1, g2⟩ := blk e hi
      refine .mp j v b' ho g1 (relB_nb g2) fun k es e' => ?_
      subst e'
      cases b with
      | mp k0 es0 =>
        rw [(Cx.to_mu e).1]
        rw [hv k0 es0 rfl]
        cases k0 <;> cases k <;> first | rfl | simp [relB] at g2
      | _ => simp [relB] at g2
    | _ => simp [relA] at hy
  | any v =>
    intro y hy
    cases y with
    | any => exact .any _
    | pv q => simp [relA, Ab.purH] at hy
    | _ => simp [relA] at hy

theorem lv_to {S fs : List Nat} {c : Cx} {h h' : List ABlk} (hH : relH S fs h fs h') {j : Nat} (l : lv (c.to S fs h) h' j) : ∃ i, fs[j]? = some i ∧ lv c h i ∧ inS S i = false := by
  obtain ⟨hl, hg⟩ := relH_get S fs h hH
  unfold lv at l
  cases hj : h'[j]? with
  | none => simp [hj] at l
  | some b' =>
    obtain ⟨i, b, g1, g2, g3, g4⟩ := hg j b' hj
    have hm := Cx.to_mu (c := c) (S := S) (h := h) g1
    refine ⟨i, g1, ?_, ?_⟩
    · unfold lv
      rw [g2]
      simp only [hj] at l
      cases b' <;> cases b <;> simp_all [relB]
    · rcases g4 with e | e
      · subst e; simp [hj] at l
      · exact e

theorem Wk.toN {z : Ini} {t t' : List AV} {h h' : List ABlk} (S fs : List Nat) (hm : z.n ≤ fs.length) (hf : ∀ i, i < z.n → fs[i]? = some i) (hd : fs.Nodup) (hH : relH S fs h fs h') (hT : relAL S fs h t t') : Wk z ⟨t, h⟩ ⟨t', h'⟩ := fun c a w s => by
  obtain ⟨hl, hg⟩ := relH_get S fs h hH
  obtain ⟨tl, tg⟩ := relAL_get S fs h hT
  have M := s.m
  refine ⟨c.to S fs h, ⟨M.fr, ⟨fun j b' hj => ?_, fun i j li lj e => ?_, fun j lj hok => ?_, fun b hb => ?_⟩, fun j lj => ?_, fun b hb => ?_, fun b hb => .inl (M.okm b hb), ⟨by rw [← hl]; exact hm, fun i hi => by obtain ⟨e1, e2⟩ := s.m.ext.2 i hi; have g := Cx.to_mu (c := c) (S := S) (h := h) (hf i hi); exact ⟨g.1.trans e1, g.2.trans e2⟩⟩⟩, ⟨by rw [← tl]; exact s.ts.1, fun k y v hk hv => ?_⟩, s.df⟩
  · obtain ⟨i, b, g1, g2, g3, g4⟩ := hg j b' hj
    have hm := Cx.to_mu (c := c) (S := S) (h := h) g1
    have r := M.hs.blk i b g2
    cases b' with
    | nb => trivial
    | gone => trivial
    | box cs =>
      cases b with
      | box cs0 =>
        simp only [relB] at g3
        obtain ⟨h1, h2⟩ := relAL_get S fs h g3
        obtain ⟨vs, ty, k1, k2, k3⟩ := r
        refine ⟨vs, ty, by rw [hm.1]; exact k1, by rw [k2, h1], fun k y hk => ?_⟩
        have hlt : k < cs0.length := by rw [h1]; exact (List.getElem?_eq_some_iff.1 hk).1
        obtain ⟨v, v1, v2, v3⟩ := k3 k cs0[k] (List.getElem?_eq_getElem hlt)
        exact ⟨v, v1, v2, v3.to M hH (h2 k _ y (List.getElem?_eq_getElem hlt) hk)⟩
      | _ => simp [relB] at g3
    | vec sz rows =>
      cases b with
      | vec sz0 rows0 =>
        simp only [relB] at g3
        obtain ⟨rfl, rfl⟩ := g3
        unfold BRep at r ⊢
        rw [hm.1, hm.2]
        obtain ⟨k1, k2, k3⟩ := r
        refine ⟨k1, k2, fun hp => ?_⟩
        obtain ⟨vs, ty, k4, k5, k6⟩ := k3 hp
        exact ⟨vs, ty, k4, k5, fun j row k p hj hk => by
          obtain ⟨v, v1, v2, v3⟩ := k6 j row k p hj hk
          exact ⟨v, v1, v2, v3.mono (fun b hb => .inl hb) (fun _ _ => rfl)⟩⟩
      | _ => simp [relB] at g3
    | mp k es =>
      cases b with
      | mp k0 es0 =>
        cases k with
        | none =>
          cases k0 with
          | none =>
            simp only [relB] at g3
            subst g3
            obtain ⟨ms, k1, k2, k4⟩ := r
            exact ⟨ms, by rw [hm.1]; exact k1, k2, fun j k x hj => by
              obtain ⟨en, e1, e0, e2, e3⟩ := k4 j k x hj
              exact ⟨en, e1, e0, e2.mono (fun b hb => .inl hb) (fun _ _ => rfl), e3.mono (fun b hb => .inl hb) (fun _ _ => rfl)⟩⟩
          | some _ => simp [relB] at g3
        | some mn =>
          obtain ⟨m, n⟩ := mn
          cases k0 with
          | none => simp [relB] at g3
          | some mn0 =>
            obtain ⟨m0, n0⟩ := mn0
            simp only [relB] at g3
            obtain ⟨gm, rfl, rfl⟩ := g3
            obtain ⟨g, k1, k2⟩ := r
            exact ⟨g, k1.to M hH (by rw [relA]; exact gm), by rw [hm.1]; exact k2⟩
      | _ => simp [relB] at g3
  · obtain ⟨i', e1, l1, _⟩ := lv_to hH li
    obtain ⟨j', e2, l2, _⟩ := lv_to hH lj
    rw [(Cx.to_mu e1).1, (Cx.to_mu e2).1] at e
    have := M.hs.inj i' j' l1 l2 e
    subst this
    obtain ⟨h1, k1⟩ := List.getElem?_eq_some_iff.1 e1
    obtain ⟨h2, k2⟩ := List.getElem?_eq_some_iff.1 e2
    have nd := List.pairwise_iff_getElem.1 hd
    rcases Nat.lt_trichotomy i j with g | g | g
    · exact (nd i j h1 h2 g (k1.trans k2.symm)).elim
    · exact g
    · exact (nd j i h2 h1 g (k2.trans k1.symm)).elim
  · obtain ⟨i, e1, l1, hS⟩ := lv_to hH lj
    rw [(Cx.to_mu e1).1] at hok
    rcases hok with hok | ⟨q, q1, q2, q3⟩
    · exact M.hs.nok i l1 hok
    · have := M.hs.inj i q l1 q2 q3
      subst this
      rw [q1] at hS; cases hS
  · rcases hb with hb | ⟨i, _, li, rfl⟩
    · exact M.hs.okb b hb
    · exact M.hs.lv_lt li
  · obtain ⟨i, e1, l1, _⟩ := lv_to hH lj
    rw [(Cx.to_mu e1).1]
    exact M.own i l1
  · rcases hb with hb | ⟨i, _, li, rfl⟩
    · exact M.okn b hb
    · exact .inr (M.own i li)
  · have hlt : k < t.length := by rw [tl]; exact (List.getElem?_eq_some_iff.1 hk).1
    exact (s.ts.2 k t[k] v (List.getElem?_eq_getElem hlt) hv).to M hH (tg k _ y (List.getElem?_eq_getElem hlt) hk)

@[go_sem] theorem sub_self (p : PV) : Sub p p = True := eq_true (Sub.refl p)
attribute [go_sem] relA relAL relB relH
/-! ### States of a form -/
theorem Wk.to {z : Ini} {t t' : List AV} {h h' : List ABlk} (S fs : List Nat) (hz : z.n = 0) (hd : fs.Nodup) (hH : relH S fs h fs h') (hT : relAL S fs h t t') : Wk z ⟨t, h⟩ ⟨t', h'⟩ :=
  Wk.toN S fs (by omega) (fun i hi => by omega) hd hH hT
def updT : List AV → List (Nat × AV) → List AV
  | t, [] => t
  | t, (k, x) :: l => updT (t.set k x) l
attribute [go_sem] updT
/-- A state of the form is said by less. -/
@[reducible] def loopV {α : Type} (F : α → Prop) (m : α → Nat) (st : α → St) (z : Ini) (a : α) (Q : Exit → St → Prop) : Exit → St → Prop := fun e σ => match e with
  | .normal => ∃ a', m a' < m a ∧ F a' ∧ Wk z σ (st a')
  | e => Q e σ
theorem AW.loopV {α : Type} {P : Program} {z : Ini} {b : Code} {t : List AV} {h : List ABlk} {Q : Exit → St → Prop} (us : α → List (Nat × AV)) (hs : α → List ABlk) (F : α → Prop) (m : α → Nat) (a₀ : α) (hF : F a₀)
    (hw : Wk z ⟨t, h⟩ ⟨updT t (us a₀), hs a₀⟩) (k : ∀ a, F a → ∀ t', updT t (us a) = t' → ∀ h', hs a = h' → AW P z b ⟨t', h'⟩ (Ab.loopV F m (fun a => ⟨updT t (us a), hs a⟩) z a Q)) : AW P z (.loop b) ⟨t, h⟩ Q := by
  refine AW.loop (fun n σ => ∃ a, m a = n ∧ F a ∧ σ = ⟨updT t (us a), hs a⟩) (m a₀) _ ⟨a₀, rfl, hF, rfl⟩ hw ?_
  rintro n _ ⟨a, rfl, ha, rfl⟩
  refine (k a ha _ rfl _ rfl).mono fun e σ q => ?_
  cases e with
  | normal => obtain ⟨a', h1, h2, h3⟩ := q; exact ⟨m a', _, h1, ⟨a', rfl, h2, rfl⟩, h3⟩
  | _ => exact q
theorem loopV.next {α : Type} {F : α → Prop} {m : α → Nat} {st : α → St} {z : Ini} {a : α} {Q : Exit → St → Prop} {σ : St} (a' : α) (h1 : m a' < m a) (h2 : F a') (h3 : Wk z σ (st a')) : loopV F m st z a Q .normal σ := ⟨a', h1, h2, h3⟩
@[reducible] def joinV {α : Type} (F : α → Prop) (st : α → St) (z : Ini) (Q : Exit → St → Prop) : Exit → St → Prop := fun e σ => match e with
  | .normal => ∃ a, F a ∧ Wk z σ (st a)
  | e => Q e σ
/-- What comes behind goes on from a state of a form. -/
theorem AW.joinV {α : Type} {P : Program} {z : Ini} {a b : Code} {t : List AV} {h : List ABlk} {Q : Exit → St → Prop} (us : α → List (Nat × AV)) (hs : α → List ABlk) (F : α → Prop)
    (h1 : AW P z a ⟨t, h⟩ (Ab.joinV F (fun a => ⟨updT t (us a), hs a⟩) z Q)) (h2 : ∀ a, F a → ∀ t', updT t (us a) = t' → ∀ h', hs a = h' → AW P z b ⟨t', h'⟩ Q) : AW P z (.seq a b) ⟨t, h⟩ Q := by
  refine AW.seq (h1.mono fun e σ q => ?_)
  cases e with
  | normal => obtain ⟨x, f, k⟩ := q; exact k.aw (h2 x f _ rfl _ rfl)
  | _ => exact q
end Go.Ab
namespace Go.Ab
set_option linter.unusedVariables false
set_option linter.unusedSimpArgs false

def W64 (n : Int) : Prop := 0 ≤ n ∧ n < 18446744073709551616
theorem W64.u {n : Int} (h : U64 n) : W64 n := by unfold U64 at h; unfold W64; omega
theorem W64.wrap {n : Int} (h : W64 n) : IntKind.u64.wrap n = n := by rw [wrap_u64']; unfold W64 at h; omega
def p2 (w : Int) : Int := 2 ^ w.toNat
theorem p2_pos (w : Int) : 0 < p2 w := Int.pow_pos (by omega)
theorem p2_nat (w : Int) : p2 w = ((2 ^ w.toNat : Nat) : Int) := by simp [p2]
theorem p2_add {a b : Int} (ha : 0 ≤ a) (hb : 0 ≤ b) : p2 (a + b) = p2 a * p2 b := by
  unfold p2; rw [Int.toNat_add ha hb, Int.pow_add]
theorem p2_64 : p2 64 = 18446744073709551616 := by decide
theorem p2_succ {a : Int} (ha : 0 ≤ a) : p2 (a + 1) = 2 * p2 a := by rw [p2_add ha (by omega)]; have : p2 1 = 2 := by decide
                                                                     rw [this]; omega
theorem p2_le {a b : Int} (h : a ≤ b) : p2 a ≤ p2 b := by
  rw [p2_nat, p2_nat]; exact_mod_cast Nat.pow_le_pow_right (by omega) (by omega)
theorem p2_lt {a b : Int} (ha : 0 ≤ a) (h : a < b) : p2 a < p2 b := by
  rw [p2_nat, p2_nat]; exact_mod_cast Nat.pow_lt_pow_right (by omega) (by omega)
theorem ofInt_nat {a : Int} (h : W64 a) : (BitVec.ofInt 64 a).toNat = a.toNat := by
  rw [BitVec.toNat_ofInt]; unfold W64 at h
  have : ((2 ^ 64 : Nat) : Int) = 18446744073709551616 := by decide
  rw [this]; omega
theorem ior_u64 {a b : Int} (ha : W64 a) (hb : W64 b) : ior .u64 a b = ((a.toNat ||| b.toNat : Nat) : Int) := by
  have e : ior .u64 a b = IntKind.u64.wrap (BitVec.ofInt 64 a ||| BitVec.ofInt 64 b).toNat := rfl
  rw [e, BitVec.toNat_or, ofInt_nat ha, ofInt_nat hb]
  unfold W64 at ha hb
  have := Nat.or_lt_two_pow (x := a.toNat) (y := b.toNat) (n := 64) (by omega) (by omega)
  exact W64.wrap ⟨by omega, by omega⟩
theorem ishl_u64 {a b : Int} (h : b ≤ 64) : ishl .u64 a b = a * p2 b % 18446744073709551616 := by
  unfold ishl p2; rw [wrap_u64']
  have : min b.toNat IntKind.u64.bits = b.toNat := by simp only [IntKind.bits]; omega
  rw [this]
theorem ishr_u64 {a b : Int} (h : b ≤ 64) : ishr .u64 a b = a / p2 b := by
  unfold ishr p2
  have : min b.toNat IntKind.u64.bits = b.toNat := by simp only [IntKind.bits]; omega
  rw [this, Int.fdiv_eq_ediv_of_nonneg]; exact Int.pow_nonneg (by omega)
/-- The next bit, put above. -/
theorem ior_bit {x b i : Int} (hx : 0 ≤ x) (hi : 0 ≤ i) (h64 : i < 64) (hlt : x < p2 i) (hb : b = 0 ∨ b = 1) : ior .u64 x (b * p2 i) = x + b * p2 i := by
  have h2 : p2 (i + 1) ≤ p2 64 := p2_le (by omega)
  rw [p2_succ hi, p2_64] at h2
  have hp := p2_pos i
  have hb2 : W64 (b * p2 i) := by rcases hb with rfl | rfl <;> constructor <;> omega
  rw [ior_u64 ⟨hx, by omega⟩ hb2, Nat.or_comm]
  have e : (b * p2 i).toNat = 2 ^ i.toNat * b.toNat := by
    rcases hb with rfl | rfl
    · simp
    · rw [p2_nat, Int.one_mul, Int.toNat_natCast]; simp
  have hxl : x.toNat < 2 ^ i.toNat := by rw [p2_nat] at hlt; omega
  rw [e, ← Nat.two_pow_add_eq_or_of_lt hxl, ← e]
  rcases hb with rfl | rfl <;> omega
/-- A number's bits below, one by one. -/
theorem bits_succ (T : Int) {i : Int} (hi : 0 ≤ i) : T % p2 (i + 1) = T % p2 i + (T / p2 i % 2) * p2 i := by
  rw [p2_succ hi]
  have hp := p2_pos i
  have h1 := Int.emod_def T (2 * p2 i)
  have h2 := Int.emod_def T (p2 i)
  have h3 := Int.emod_def (T / p2 i) 2
  have h4 : T / (2 * p2 i) = T / p2 i / 2 := by rw [Int.mul_comm, Int.ediv_ediv_of_nonneg (Int.le_of_lt hp)]
  rw [h1, h2, h3, h4]
  generalize T / p2 i = q
  generalize q / 2 = r
  rw [Int.sub_mul, Int.mul_assoc, Int.mul_comm (p2 i) q, Int.mul_comm (p2 i) r, Int.mul_assoc]; omega
end Go.Ab
namespace Go.Ab
set_option linter.unusedVariables false
set_option linter.unusedSimpArgs false

theorem wrap_u8' (n : Int) : IntKind.u8.wrap n = n % 256 := by simp [IntKind.wrap, IntKind.bits, IntKind.signed]
theorem w8 {n : Int} (h1 : 0 ≤ n) (h2 : n < 256) : IntKind.u8.wrap n = n := by rw [wrap_u8']; omega
theorem nat_or_byte {x b : Nat} (hb : b < 256) : x * 256 ||| b = x * 256 + b := by
  have := Nat.two_pow_add_eq_or_of_lt (i := 8) (b := b) (by simpa using hb) x
  rw [show (2 : Nat) ^ 8 = 256 by decide] at this
  rw [Nat.mul_comm x 256]; exact this.symm
theorem ior_byte_u {x b : Int} (h0 : 0 ≤ x) (h1 : x < 72057594037927936) (hb : 0 ≤ b) (hb2 : b < 256) : ior .u64 (ishl .u64 x 8) b = x * 256 + b := by
  have e : ishl .u64 x 8 = x * 256 := by
    unfold ishl
    have : (2 : Int) ^ (min (8 : Int).toNat IntKind.u64.bits) = 256 := by decide
    rw [this, wrap_u64']; omega
  rw [e, ior_u64 ⟨by omega, by omega⟩ ⟨by omega, by omega⟩, Int.toNat_mul h0 (by omega)]
  have : (256 : Int).toNat = 256 := rfl
  rw [this, nat_or_byte (by omega)]; omega
end Go.Ab
namespace Go.Ab
set_option linter.unusedVariables false
set_option linter.unusedSimpArgs false
@[go_sem] theorem if_lt0 {α : Type} {b : Int} {x y : α} (h : 0 ≤ b) : (if b < 0 then x else y) = y := if_neg (by omega)
@[go_sem] theorem if_eq0 {α : Type} {b : Int} {x y : α} (h : b ≠ 0) : (if b = 0 then x else y) = y := if_neg h
theorem wrapU_nonneg (n : Int) : 0 ≤ IntKind.u64.wrap n := by rw [wrap_u64']; omega
@[go_sem] theorem wrapU_neg (n : Int) : (IntKind.u64.wrap n < 0) = False := by have := wrapU_nonneg n; simp; omega
theorem bit_nextS {T x i : Int} (h0 : 0 ≤ i) (hx : x = T % p2 i) (h64 : i < 64) {b : Bool} (hb : b = decide (T / p2 i % 2 = 1)) : ior .u64 x (ishl .u64 (if b = true then 1 else 0) i) = T % p2 (i + 1) := by
  have e : ishl .u64 (if b = true then 1 else 0) i = (if b = true then 1 else 0) * p2 i := by
    rw [ishl_u64 (by omega)]
    have := p2_pos i
    have h2 : p2 i < p2 64 := p2_lt h0 h64
    rw [p2_64] at h2
    exact Int.emod_eq_of_lt (by split <;> omega) (by split <;> omega)
  subst hx
  have hm : 0 ≤ T % p2 i ∧ T % p2 i < p2 i := ⟨Int.emod_nonneg _ (by have := p2_pos i; omega), Int.emod_lt_of_pos _ (p2_pos i)⟩
  rw [e, ior_bit hm.1 h0 h64 hm.2 (by split <;> simp), bits_succ T h0]
  by_cases h : T / p2 i % 2 = 1
  · simp [hb, h]
  · have : T / p2 i % 2 = 0 := by omega
    simp [hb, this]
end Go.Ab
namespace Go.Ab
set_option linter.unusedVariables false
set_option linter.unusedSimpArgs false
@[go_sem] theorem wlit64 (n : Nat) (h : n ≤ 9223372036854775807) : IntKind.i64.wrap (no_index (OfNat.ofNat n)) = OfNat.ofNat n := by
  show IntKind.i64.wrap (n : Int) = (n : Int); exact w64 (by omega) (by omega)
@[go_sem] theorem wlitU (n : Nat) (h : n ≤ 18446744073709551615) : IntKind.u64.wrap (no_index (OfNat.ofNat n)) = OfNat.ofNat n := by
  show IntKind.u64.wrap (n : Int) = (n : Int); exact wU (by omega) (by omega)
@[go_sem] theorem wlit8 (n : Nat) (h : n ≤ 255) : IntKind.u8.wrap (no_index (OfNat.ofNat n)) = OfNat.ofNat n := by
  show IntKind.u8.wrap (n : Int) = (n : Int); exact w8 (by omega) (by omega)
theorem shu8 (x : Int) : ishr .u64 x 8 = x / 256 := by rw [ishr_u64 (by decide)]; rfl
theorem shu16 (x : Int) : ishr .u64 x 16 = x / 65536 := by rw [ishr_u64 (by decide)]; rfl
theorem shu24 (x : Int) : ishr .u64 x 24 = x / 16777216 := by rw [ishr_u64 (by decide)]; rfl
theorem shu32 (x : Int) : ishr .u64 x 32 = x / 4294967296 := by rw [ishr_u64 (by decide)]; rfl
theorem shu40 (x : Int) : ishr .u64 x 40 = x / 1099511627776 := by rw [ishr_u64 (by decide)]; rfl
theorem shu48 (x : Int) : ishr .u64 x 48 = x / 281474976710656 := by rw [ishr_u64 (by decide)]; rfl
theorem shu56 (x : Int) : ishr .u64 x 56 = x / 72057594037927936 := by rw [ishr_u64 (by decide)]; rfl
theorem shu0 (x : Int) : ishr .u64 x 0 = x := by rw [ishr_u64 (by decide)]; exact Int.ediv_one x
@[go_sem] theorem le_selfI (a : Int) : (a ≤ a) = True := eq_true (Int.le_refl a)
@[go_sem] theorem lt_selfI (a : Int) : (a < a) = False := eq_false (Int.lt_irrefl a)
theorem take_range (l : List Int) (n : Nat) (h : n ≤ l.length) : l.take n = (List.range n).map fun j => l.getD j 0 := by
  apply List.ext_getElem
  · simp; omega
  · intro i h1 h2
    simp at h1 h2 ⊢
    rw [List.getElem?_eq_getElem (by omega)]
    rfl
end Go.Ab
namespace Go.Ab
open Go.RowKit
set_option linter.unusedVariables false
set_option linter.unusedSimpArgs false
/-- Temporaries alone. -/
@[go_sem] theorem inS_nil (i : Nat) : inS [] i = false := rfl
@[go_sem] theorem inS_cons (a : Nat) (l : List Nat) (i : Nat) : inS (a :: l) i = (i == a || inS l i) := List.contains_cons
attribute [go_sem] false_or true_or or_false or_true
def relX : AV → AV → Prop
  | _, .any => True
  | .pv p, .pv q => Sub p q
  | x, y => x = y
def relT : List AV → List AV → Prop
  | [], [] => True
  | x :: xs, y :: ys => relX x y ∧ relT xs ys
  | _, _ => False
attribute [go_sem] relX
attribute [go_sem] relT
theorem relT_get : ∀ {xs ys : List AV}, relT xs ys → xs.length = ys.length ∧ ∀ (k : Nat) (x y : AV), xs[k]? = some x → ys[k]? = some y → relX x y
  | [], [], _ => ⟨rfl, fun k x y hk => by simp at hk⟩
  | x :: xs, y :: ys, hh => by
    rw [relT] at hh
    obtain ⟨h1, h2⟩ := relT_get hh.2
    refine ⟨by simp [h1], fun k u v hk hv => ?_⟩
    cases k with
    | zero => simp at hk hv; subst hk; subst hv; exact hh.1
    | succ k => exact h2 k u v (by simpa using hk) (by simpa using hv)
  | [], _ :: _, hh => by simp [relT] at hh
  | _ :: _, [], hh => by simp [relT] at hh
theorem Wk.sub {z : Ini} {t t' : List AV} {h : List ABlk} (hT : relT t t') : Wk z ⟨t, h⟩ ⟨t', h⟩ := by
  obtain ⟨h1, h2⟩ := relT_get hT
  refine Wk.weak h1 fun c w _ k x y v hk hv r => ?_
  have hx := h2 k x y hk hv
  cases y with
  | any => exact .any _
  | pv q =>
    cases x with
    | pv p => rw [relX] at hx; cases r with | pv _ _ hr => exact .pv _ _ (hx _ _ _ hr)
    | _ => simp [relX] at hx
  | _ => cases x <;> simp [relX] at hx <;> simp_all
/-- The same, where memory is left as it is. -/
theorem AW.loopVh {α : Type} {P : Program} {z : Ini} {b : Code} {t : List AV} {h : List ABlk} {Q : Exit → St → Prop} (us : α → List (Nat × AV)) (F : α → Prop) (m : α → Nat) (a₀ : α) (hF : F a₀)
    (hw : Wk z ⟨t, h⟩ ⟨updT t (us a₀), h⟩) (k : ∀ a, F a → ∀ t', updT t (us a) = t' → AW P z b ⟨t', h⟩ (Ab.loopV F m (fun a => ⟨updT t (us a), h⟩) z a Q)) : AW P z (.loop b) ⟨t, h⟩ Q :=
  AW.loopV us (fun _ => h) F m a₀ hF hw fun a ha t' ht h' hh => by subst hh; exact k a ha t' ht
theorem AW.joinVh {α : Type} {P : Program} {z : Ini} {a b : Code} {t : List AV} {h : List ABlk} {Q : Exit → St → Prop} (us : α → List (Nat × AV)) (F : α → Prop)
    (h1 : AW P z a ⟨t, h⟩ (Ab.joinV F (fun a => ⟨updT t (us a), h⟩) z Q)) (h2 : ∀ a, F a → ∀ t', updT t (us a) = t' → AW P z b ⟨t', h⟩ Q) : AW P z (.seq a b) ⟨t, h⟩ Q :=
  AW.joinV us (fun _ => h) F h1 fun a ha t' ht h' hh => by subst hh; exact h2 a ha t' ht
end Go.Ab
namespace Go.Ab
open Go.RowKit
set_option linter.unusedVariables false
set_option linter.unusedSimpArgs false

/-- A block is of the kind it was, or given up. -/
def kindK : ABlk → ABlk → Prop
  | .nb, _ => True
  | .gone, .gone => True
  | .box _, .gone => True
  | .box _, .box _ => True
  | .vec _ _, .gone => True
  | .vec sz rows, .vec sz' rows' => sz = sz' ∧ rows.length ≤ rows'.length
  | .mp _ _, .gone => True
  | .mp k _, .mp k' _ => k = k'
  | _, _ => False
def growH : List ABlk → List ABlk → Prop
  | [], _ => True
  | b :: h, b' :: h' => kindK b b' ∧ growH h h'
  | _ :: _, [] => False
theorem growH_get : ∀ {h h' : List ABlk}, growH h h' → h.length ≤ h'.length ∧ ∀ (i : Nat) (b : ABlk), h[i]? = some b → ∃ b', h'[i]? = some b' ∧ kindK b b'
  | [], _, _ => ⟨Nat.zero_le _, fun i b hi => by simp at hi⟩
  | b :: h, b' :: h', hh => by
    obtain ⟨h1, h2⟩ := growH_get hh.2
    refine ⟨by simp [h1], fun i x hi => ?_⟩
    cases i with
    | zero => simp at hi; subst hi; exact ⟨b', rfl, hh.1⟩
    | succ i => exact h2 i x (by simpa using hi)
  | _ :: _, [], hh => hh.elim
attribute [go_sem] kindK growH

/-- What a callee begins with. -/
def MSim.lendI {z : Ini} {h : List ABlk} {c : Cx} {w : World} (s : MSim z h c w) : Ini := ⟨w, fun b => ∃ i, lv c h i ∧ b = c.mu i, c, h.length, s.glob, fun x hx ⟨i, li, e⟩ => by
  rcases s.own i li with h1 | h1
  · exact z.go x hx (e ▸ h1)
  · have := (z.g x hx).1; omega⟩
theorem MSim.lend {z : Ini} {h : List ABlk} {c : Cx} {w : World} (s : MSim z h c w) : MSim s.lendI h c w :=
  ⟨Fr.refl w _, s.hs, fun i li => .inl ⟨i, li, rfl⟩, fun b hb => .inl hb, fun b hb => hb, Nat.le_refl _, fun i _ => ⟨rfl, rfl⟩⟩
theorem MSim.back {z : Ini} {h h' : List ABlk} {c c' : Cx} {w w' : World} (s : MSim z h c w) (s' : MSim s.lendI h' c' w') (hg : growH h h') : Later c h w c' h' w' ∧ MSim z h' c' w' := by
  obtain ⟨gl, gk⟩ := growH_get hg
  have own : ∀ b, s.lendI.O b → z.O b ∨ z.w.heap.size ≤ b := fun b ⟨i, li, e⟩ => by rw [e]; exact s.own i li
  refine ⟨⟨s'.okm, fun b hb => s'.fr.block b (s.hs.okb b hb) (fun ⟨i, li, e⟩ => s.hs.nok i li (e ▸ hb)), fun i b hi hb => ?_⟩, ⟨?_, s'.hs, fun i li => ?_, fun b hb => ?_, fun b hb => s'.okm b (s.okm b hb), Nat.le_trans s.ext.1 gl, fun i hi => ?_⟩⟩
  · obtain ⟨b', hi', hk⟩ := gk i b hi
    have hlt : i < h.length := (List.getElem?_eq_some_iff.1 hi).1
    have e := s'.ext.2 i hlt
    refine ⟨b', hi', ?_, fun _ => e, fun cs' e' => ?_, fun sz rows' e' => ?_, fun k es' e' => ?_⟩
    · rintro rfl; cases b <;> simp [kindK] at hk; exact hb rfl
    · subst e'; cases b <;> simp [kindK] at hk <;> first | exact ⟨_, rfl⟩ | exact absurd rfl hb
    · subst e'; cases b <;> simp [kindK] at hk <;> first | exact absurd rfl hb | (obtain ⟨rfl, hl⟩ := hk; exact ⟨_, rfl, hl⟩)
    · subst e'; cases b <;> simp [kindK] at hk <;> first | exact ⟨_, rfl⟩ | exact ⟨_, by rw [hk]⟩ | exact absurd rfl hb
  · refine ⟨s'.fr.os.trans s.fr.os, s'.fr.tape.trans s.fr.tape, s'.fr.output.trans s.fr.output, Nat.le_trans s.fr.size s'.fr.size, fun b hb hO => ?_⟩
    exact (s'.fr.block b (Nat.lt_of_lt_of_le hb s.fr.size) (fun ho => by
      rcases own b ho with h | h
      · exact hO h
      · omega)).trans (s.fr.block b hb hO)
  · rcases s'.own i li with h | h
    · exact own _ h
    · exact .inr (Nat.le_trans s.fr.size h)
  · rcases s'.okn b hb with h | h | h
    · exact s.okn b h
    · rcases own b h with h | h
      · exact .inr (.inl h)
      · exact .inr (.inr h)
    · exact .inr (.inr (Nat.le_trans s.fr.size h))
  · have e := s'.ext.2 i (Nat.lt_of_lt_of_le hi s.ext.1)
    exact ⟨e.1.trans (s.ext.2 i hi).1, e.2.trans (s.ext.2 i hi).2⟩

section
variable {P : Program} {z : Ini} {ops : Array Oper} {l : List Oper} {σ : St} {Q : Exit → St → Prop} {o : Oper} {f : FuncId} {args : Array Operand} {tys : Array TypeId} {x : Operand}

/-- What comes behind a callee's end. -/
inductive icK (P : Program) (rs : List ResultVar) (h : List ABlk) (K : AV → List ABlk → Prop) : Exit → St → Prop
  | normal (σ : St) (r : AV) : resA P σ rs = some r → growH h σ.h → K r σ.h → icK P rs h K .normal σ
  | ret (σ : St) (r : AV) : resA P σ rs = some r → growH h σ.h → K r σ.h → icK P rs h K .ret σ

theorem run_call_fn {ρ : Operand → Value} {w : World} {us vs : List Value} (ho : o.op = .call ⟨.value x, args, tys⟩) (hf : ρ x = .func (.func f) us.toArray vs.toArray)
    (hc : ∀ (args : Array Value) (w : World), (callFunc f args).run P w = .ok (.enter f args) w) : (execOp ρ o).run P w = .ok (.enter f (us ++ args.toList.map ρ ++ vs).toArray) w := by
  have : us.toArray ++ args.map ρ ++ vs.toArray = (us ++ args.toList.map ρ ++ vs).toArray := by
    apply Array.toList_inj.1; simp
  simp [execOp, ho, resolve, hf, Deferred.ofValue, invoke, hc, ← this]

theorem AWL.icall {fn : Func} {code : Code} {rs : List ResultVar} {fi ca t' : List AV} (n : Nat) (hg : ∀ c a w, Sim z σ c a w → Region.wanted o (yielded ops a.tmps) = true) (ho : o.op = .call ⟨.value x, args, tys⟩) (hx : evO σ.t x = .fn (.func f) fi ca)
    (hc : ∀ (args : Array Value) (w : World), (callFunc f args).run P w = .ok (.enter f args) w) (hf : P.funcs[f]? = some fn) (hb : fn.body = some code) (hn : fn.ntmps = n) (hr : fn.results = rs.toArray)
    (ht : fi ++ args.toList.map (evO σ.t) ++ ca ++ List.replicate (n - (fi.length + args.toList.length + ca.length)) .any = t')
    (k : ∀ z' : Ini, z'.n = σ.h.length → AW P z' code ⟨t', σ.h⟩ (icK P rs σ.h fun r h' => AWL P z ops l ⟨putT σ.t o.dst r, h'⟩ Q)) : AWL P z ops (o :: l) σ Q := fun c a w s => by
  refine wpList_step fun K hK => ?_
  rw [hg c a w s]
  simp only [if_true]
  unfold Oper.wp
  have hrx := evO_rep s.ts x
  rw [hx] at hrx
  generalize hv : a.eval x = v at hrx
  cases hrx with
  | fn _ _ _ us vs hl1 hr1 hl2 hr2 =>
    rw [run_call_fn ho hv hc]
    simp only [Oper.upon]
    refine calls_of_wp hf hb ?_
    have start : Sim s.m.lendI ⟨t', σ.h⟩ c { tmps := (us ++ args.toList.map a.eval ++ vs).toArray ++ Array.replicate (fn.ntmps - (us ++ args.toList.map a.eval ++ vs).toArray.size) undef, defers := [] } w := by
      refine ⟨s.m.lend, ?_, rfl⟩
      subst ht
      have hlen : (us ++ args.toList.map a.eval ++ vs).length = fi.length + args.toList.length + ca.length := by simp [hl1, hl2]; omega
      refine ⟨by simp [hn, hl1, hl2]; omega, fun j y u hj hu => ?_⟩
      have hargs : ∀ (j : Nat) (y : AV) (u : Value), (fi ++ args.toList.map (evO σ.t) ++ ca)[j]? = some y → (us ++ args.toList.map a.eval ++ vs)[j]? = some u → ARep c σ.h w y u := by
        intro j y u hj hu
        simp only [List.getElem?_append, List.length_append, List.length_map, hl1] at hj hu
        split at hj
        · rename_i h1
          rw [if_pos h1] at hu
          split at hj
          · rename_i h2
            rw [if_pos h2] at hu
            exact hr1 j y u hj hu
          · rename_i h2
            rw [if_neg h2] at hu
            simp only [List.getElem?_map, Option.map_eq_some_iff] at hj hu
            obtain ⟨q, hq, rfl⟩ := hj
            obtain ⟨q', hq', rfl⟩ := hu
            rw [hq] at hq'; injection hq' with hq'; subst hq'
            exact evO_rep s.ts q
        · rename_i h1
          rw [if_neg h1] at hu
          exact hr2 _ y u hj hu
      rw [List.getElem?_append] at hj
      split at hj
      · rename_i hlt
        have hlt' : j < (us ++ args.toList.map a.eval ++ vs).length := by rw [hlen]; simp at hlt; simp; omega
        rw [Array.getElem?_append_left (by simpa using hlt')] at hu
        exact hargs j y u hj (by simpa using hu)
      · simp only [List.getElem?_replicate] at hj
        split at hj
        · injection hj with hj; subst hj; exact .any _
        · cases hj
    have hk := k s.m.lendI rfl c _ w start
    refine Code.wp_mono ?_ hk
    intro e a' w' ⟨σ', c', q, s'⟩
    have fin : ∀ r, resA P σ' rs = some r → growH σ.h σ'.h → AWL P z ops l ⟨putT σ.t o.dst r, σ'.h⟩ Q → a'.defers = [] ∧ ∃ v, (results fn a'.tmps).run P w' = .ok v w' ∧ K (a.put o.dst v) w' := by
      intro r h1 h2 h3
      obtain ⟨v, g1, g2⟩ := resA_run (fn := fn) s' (by rw [hr]; simpa using h1)
      obtain ⟨L, M⟩ := s.m.back s'.m h2
      exact ⟨s'.df, v, g1, hK _ _ (h3 c' _ w' ⟨M, (s.ts.later L).put g2 o.dst, by rw [put_defers]; exact s.df⟩)⟩
    cases q with
    | normal _ r h1 h2 h3 => exact fin r h1 h2 h3
    | ret _ r h1 h2 h3 => exact fin r h1 h2 h3
end
end Go.Ab
namespace Go.Ab
open Go.RowKit
set_option linter.unusedVariables false
set_option linter.unusedSimpArgs false

/-- Is an operation wanted, if that is known? -/
def wantB (ops : List Oper) (t : List AV) : Option (Nat × Bool) → Option Bool
  | none => some true
  | some (j, b) => match dstOf ops j with
    | some k => match t.getD k .any with
      | .pv (.bool v) => some (v == b)
      | _ => none
    | none => none
theorem wantB_run {z : Ini} {σ : St} {c : Cx} {a : Act} {w : World} (s : Sim z σ c a w) {ops : Array Oper} {o : Oper} {v : Bool} (h : wantB ops.toList σ.t o.guard = some v) : Region.wanted o (yielded ops a.tmps) = v := by
  cases hg : o.guard with
  | none => rw [hg] at h; simp [wantB] at h; subst h; simp [Region.wanted, hg]
  | some jb =>
    obtain ⟨j, b⟩ := jb
    rw [hg] at h
    simp only [wantB] at h
    split at h
    · rename_i k hk
      split at h
      · rename_i v' hv
        injection h with h; subst h
        have hr := evO_rep s.ts (.tmp k)
        simp only [evO] at hr
        rw [hv] at hr
        cases hr with
        | pv _ _ hr =>
          generalize hq : a.eval (.tmp k) = u at hr
          cases hr
          have hlt : k < a.tmps.size := by
            rw [← s.ts.1]
            rcases Nat.lt_or_ge k σ.t.length with h | h
            · exact h
            · rw [List.getD_eq_getElem?_getD, List.getElem?_eq_none h] at hv; cases hv
          have hk' : ops[j]?.bind (fun x => x.dst) = some k := by
            unfold dstOf at hk; simpa using hk
          have hu : a.tmps[k]? = some (.bool v') := by
            simp only [Act.eval] at hq
            rw [Array.getElem?_eq_getElem hlt]
            have : a.tmps.getD k undef = a.tmps[k] := by simp [Array.getD, hlt]
            rw [this] at hq; rw [hq]
          simp only [Region.wanted, hg, yielded, hk', Option.bind_some, hu]
          cases v' <;> cases b <;> rfl
      · cases h
    · cases h
def pickL : AV → AV → AV → Option AV
  | .pv (.bool true), a, _ => some a
  | .pv (.bool false), _, b => some b
  | _, _, _ => none
def stepL (P : Program) (σ : St) : Op → Option (AV × List (Nat × ABlk))
  | .pick c a b => match pickL (evO σ.t c) (evO σ.t a) (evO σ.t b) with | some r => some (r, []) | none => none
  | op => stepv P (evO σ.t) σ.h.length σ.h op
def nextL (P : Program) (ops : List Oper) (o : Oper) (σ : St) : Option (AV × List (Nat × ABlk)) := match wantB ops σ.t o.guard with
  | some true => stepL P σ o.op
  | some false => some (.any, [])
  | none => none
attribute [go_sem] wantB pickL stepL nextL

section
variable {P : Program} {z : Ini} {ops : Array Oper} {l : List Oper} {σ : St} {Q : Exit → St → Prop} {o : Oper}
theorem AWL.op2 {r : AV} {h' : List ABlk} (hw : wantB ops.toList σ.t o.guard = some true) (hy : ∀ c a w, Sim z σ c a w → Yields P z o a.eval c σ.h w r h') (h : AWL P z ops l ⟨putT σ.t o.dst r, h'⟩ Q) : AWL P z ops (o :: l) σ Q := fun c a w s => by
  refine wpList_step fun K hK => ?_
  rw [wantB_run s hw]
  simp only [if_true]
  exact (hy c a w s).wp fun c' v w' L M hr => hK _ _ (h c' _ w' ⟨M, (s.ts.later L).put hr o.dst, by rw [put_defers]; exact s.df⟩)
theorem AWL.skip2 (hw : wantB ops.toList σ.t o.guard = some false) (h : AWL P z ops l ⟨putT σ.t o.dst .any, σ.h⟩ Q) : AWL P z ops (o :: l) σ Q := fun c a w s => by
  refine wpList_step fun K hK => ?_
  rw [wantB_run s hw]
  simp only [Bool.false_eq_true, if_false]
  exact hK _ _ (h c _ w ⟨s.m, s.ts.put (.any _) o.dst, by rw [put_defers]; exact s.df⟩)
theorem AWL.next2 {r : AV} {d : List (Nat × ABlk)} (hs : nextL P ops.toList o σ = some (r, d)) (h : AWL P z ops l ⟨putT σ.t o.dst r, app σ.h d⟩ Q) : AWL P z ops (o :: l) σ Q := by
  unfold nextL at hs
  split at hs
  · rename_i hw
    refine .op2 hw (fun c a w s => ?_) h
    unfold stepL at hs
    split at hs
    · rename_i cc x y hop
      split at hs
      · rename_i r' hp
        injection hs with hs; simp only [Prod.mk.injEq] at hs; obtain ⟨rfl, rfl⟩ := hs
        have hc := evO_rep s.ts cc
        unfold pickL at hp
        split at hp
        · rename_i e1
          injection hp with hp; subst hp
          rw [e1] at hc
          refine .val s.m (v := a.eval x) ?_ (evO_rep s.ts x)
          have : a.eval cc = .bool true := by cases hc with | pv _ _ hr => generalize a.eval cc = u at hr; cases hr; rfl
          simp [execOp, hop, this, asBool]
        · rename_i e1
          injection hp with hp; subst hp
          rw [e1] at hc
          refine .val s.m (v := a.eval y) ?_ (evO_rep s.ts y)
          have : a.eval cc = .bool false := by cases hc with | pv _ _ hr => generalize a.eval cc = u at hr; cases hr; rfl
          simp [execOp, hop, this, asBool]
        · cases hp
      · cases hs
    · exact stepv_yields s.m (evO_rep s.ts) s.m.ext.1 (fun x _ hx => .inl (List.getElem?_eq_none hx)) hs
  · rename_i hw
    injection hs with hs; simp only [Prod.mk.injEq] at hs; obtain ⟨rfl, rfl⟩ := hs
    exact .skip2 hw h
  · cases hs

/-- As many plain operations as there are, passed-by ones with them. -/
def runG (P : Program) (ops : List Oper) : List Oper → St → List Oper × St
  | [], σ => ([], σ)
  | o :: l, σ => onS (nextL P ops o σ) (fun x => runG P ops l ⟨putT σ.t o.dst x.1, app σ.h x.2⟩) (o :: l, σ)
def runGA (P : Program) (ops : List Oper) (o : Oper) (l : List Oper) (σ : St) (x : AV × List (Nat × ABlk)) : List Oper × St := runG P ops l ⟨putT σ.t o.dst x.1, app σ.h x.2⟩
@[go_sem] theorem runG_nil (P : Program) (ops : List Oper) (σ : St) : runG P ops [] σ = ([], σ) := by exact (Eq.refl _).trans rfl
@[go_sem] theorem runG_cons (P : Program) (ops : List Oper) (o : Oper) (l : List Oper) (σ : St) : runG P ops (o :: l) σ = onS (nextL P ops o σ) (runGA P ops o l σ) (o :: l, σ) := by exact (Eq.refl _).trans rfl
@[go_sem] theorem runG_A (P : Program) (ops : List Oper) (o : Oper) (l : List Oper) (σ : St) (x : AV × List (Nat × ABlk)) : runGA P ops o l σ x = runG P ops l ⟨putT σ.t o.dst x.1, app σ.h x.2⟩ := by exact (Eq.refl _).trans rfl
theorem AWL.runG {l' : List Oper} {σ' : St} (he : Ab.runG P ops.toList l σ = (l', σ')) (h : AWL P z ops l' σ' Q) : AWL P z ops l σ Q := by
  induction l generalizing σ with
  | nil => simp only [Ab.runG] at he; injection he with h1 h2; subst h1; subst h2; exact h
  | cons o l ih =>
    simp only [Ab.runG, onS] at he
    split at he
    · rename_i x hs
      exact .next2 hs (ih he)
    · injection he with h1 h2; subst h1; subst h2; exact h
theorem AW.regL {id : Nat} {opsL : List Oper} {b : Code} {t : List AV} {h : List ABlk} (k : AWL P z opsL.toArray opsL ⟨t, h⟩ (thenK P z b Q)) : AW P z (.seq (.region id opsL.toArray false) b) ⟨t, h⟩ Q := AW.seq (AW.region (by simpa using k))
theorem AW.regL1 {id : Nat} {opsL : List Oper} {t : List AV} {h : List ABlk} (k : AWL P z opsL.toArray opsL ⟨t, h⟩ Q) : AW P z (.region id opsL.toArray false) ⟨t, h⟩ Q := AW.region (by simpa using k)
theorem AWL.fin {t t2 : List AV} {h : List ABlk} {b : Code} (hc : updT t [] = t2) (k : AW P z b ⟨t2, h⟩ Q) : AWL P z ops [] ⟨t, h⟩ (thenK P z b Q) := .nil (by subst hc; exact k)
theorem AWL.fin1 {t t2 : List AV} {h : List ABlk} (hc : updT t [] = t2) (k : Q .normal ⟨t2, h⟩) : AWL P z ops [] ⟨t, h⟩ Q := .nil (by subst hc; exact k)
variable {f : FuncId} {args : Array Operand} {tys : Array TypeId} {ps : List PV} {r : PV} {t t1 : List AV} {h : List ABlk} {x : Operand}
theorem AWL.pcall2 (hc : PC P f ps r) (hw : wantB ops.toList t o.guard = some true) (ho : o.op = .call ⟨.value (.func f), args, tys⟩) (hp : purL (args.toList.map (evO t)) = some ps) (ht : putT t o.dst (.pv r) = t1) (k : AWL P z ops l ⟨t1, h⟩ Q) : AWL P z ops (o :: l) ⟨t, h⟩ Q :=
  .op2 hw (fun c a w s => .pcall s.m (evO_rep s.ts) rfl ho hp hc) (by subst ht; exact k)
theorem AWL.icall2 {fn : Func} {code : Code} {rs : List ResultVar} {fi ca t' : List AV} {n m : Nat} (ho : o.op = .call ⟨.value x, args, tys⟩) (hx : evO t x = .fn (.func f) fi ca) (hw : wantB ops.toList t o.guard = some true)
    (hc : ∀ (args : Array Value) (w : World), (callFunc f args).run P w = .ok (.enter f args) w) (hf : P.funcs[f]? = some fn) (hb : fn.body = some code) (hn : fn.ntmps = n) (hr : fn.results = rs.toArray) (hm : h.length = m)
    (ht : fi ++ args.toList.map (evO t) ++ ca ++ List.replicate (n - (fi.length + args.toList.length + ca.length)) .any = t')
    (k : ∀ z' : Ini, z'.n = m → AW P z' code ⟨t', h⟩ (icK P rs h fun r h' => AWL P z ops l ⟨putT t o.dst r, h'⟩ Q)) : AWL P z ops (o :: l) ⟨t, h⟩ Q :=
  .icall n (fun c a w s => wantB_run s hw) ho hx hc hf hb hn hr ht (fun z' hz' => k z' (hz'.trans hm))
/-- A callee's end. -/
theorem icK.fin {rs : List ResultVar} {h h' : List ABlk} {K : AV → List ABlk → Prop} {av : AV} {t : List AV} (h1 : resA P ⟨t, h'⟩ rs = some av) (h2 : growH h h') (k : K av h') : AW P z .ret ⟨t, h'⟩ (icK P rs h K) := AW.ret (.ret _ av h1 h2 k)
theorem icK.fin1 {rs : List ResultVar} {h h' : List ABlk} {K : AV → List ABlk → Prop} {av : AV} {t : List AV} (h1 : resA P ⟨t, h'⟩ rs = some av) (h2 : growH h h') (k : K av h') : icK P rs h K .normal ⟨t, h'⟩ := .normal _ av h1 h2 k
theorem icK.finQ {rs : List ResultVar} {h h' : List ABlk} {K : AV → List ABlk → Prop} {av : AV} {t : List AV} (hq : Q .ret ⟨t, h'⟩ = icK P rs h K .ret ⟨t, h'⟩) (h1 : resA P ⟨t, h'⟩ rs = some av) (h2 : growH h h') (k : K av h') : AW P z .ret ⟨t, h'⟩ Q := AW.ret (by rw [hq]; exact .ret _ av h1 h2 k)
end
attribute [go_sem] Option.some.injEq List.map_set
end Go.Ab
namespace Go.Ab
open Go.RowKit
set_option linter.unusedVariables false
set_option linter.unusedSimpArgs false

/-- What a cell of a type holds. -/
inductive FT where
  | int (k : IntKind)
  | bool
  | str
  | slice (es : List FT)

mutual
def Fit : FT → PV → Prop
  | .int k, p => ∃ n, p = .int k n ∧ (Lit.int k n).wf = true
  | .bool, p => ∃ b, p = .bool b
  | .str, p => ∃ s : ByteArray, p = .str s ∧ s.size ≤ maxLen
  | .slice es, p => ∃ rows, p = .lst false es.length rows ∧ rows.length ≤ maxLen ∧ ∀ row, row ∈ rows → FitL es row
def FitL : List FT → List PV → Prop
  | [], ps => ps = []
  | f :: fs, ps => ∃ p qs, ps = p :: qs ∧ Fit f p ∧ FitL fs qs
end
theorem FitL_length : ∀ {fs : List FT} {ps : List PV}, FitL fs ps → ps.length = fs.length
  | [], ps, h => by simp [FitL] at h; simp [h]
  | f :: fs, ps, h => by
    simp only [FitL] at h
    obtain ⟨p, qs, rfl, _, h2⟩ := h
    simp [FitL_length h2]
theorem FitL_append : ∀ {fs gs : List FT} {ps qs : List PV}, FitL fs ps → FitL gs qs → FitL (fs ++ gs) (ps ++ qs)
  | [], gs, ps, qs, h, k => by simp only [FitL] at h; subst h; simpa using k
  | f :: fs, gs, ps, qs, h, k => by
    simp only [FitL] at h
    obtain ⟨p, ps', rfl, h1, h2⟩ := h
    simp only [List.cons_append, FitL]
    exact ⟨p, ps' ++ qs, rfl, h1, FitL_append h2 k⟩

def flatF (P : Program) (g : TypeId → Option (List FT)) : Nat → List Field → Option (List FT)
  | _, [] => some []
  | off, f :: fs => if f.offset = off then (match g f.type with
    | some l => if P.cellsOf f.type = l.length then (flatF P g (off + l.length) fs).map (l ++ ·) else none
    | none => none) else none
def flatT (P : Program) : Nat → TypeId → Option (List FT)
  | 0, _ => none
  | d + 1, t => match P.underlying t with
    | some .bool => some [.bool]
    | some (.int k) => some [.int k]
    | some .string => some [.str]
    | some (.slice e) => match flatT P d e with
      | some l => if P.cellsOf e = l.length ∧ 0 < l.length then some [.slice l] else none
      | none => none
    | some (.array n e) => match flatT P d e with
      | some l => if P.cellsOf e = l.length ∧ P.cellsOf t = n * l.length then some (List.replicate n l).flatten else none
      | none => none
    | some (.struct fs) => match flatF P (flatT P d) 0 fs.toList with
      | some l => if P.cellsOf t = l.length then some l else none
      | none => none
    | _ => none

/-- Cells that show values. -/
def Shows (w : World) (ps : List PV) (cs : List Value) : Prop := ps.length = cs.length ∧ ∀ (k : Nat) (p : PV) (c : Value), ps[k]? = some p → cs[k]? = some c → Rep (fun b => b < w.heap.size) w p c ∧ c.oneCell' = true
theorem Shows.nil (w : World) : Shows w [] [] := ⟨rfl, fun k p c h => by simp at h⟩
theorem Shows.one {w : World} {p : PV} {c : Value} (h : Rep (fun b => b < w.heap.size) w p c) (ho : c.oneCell' = true) : Shows w [p] [c] := ⟨rfl, fun k q d hk hd => by
  cases k with
  | zero => simp at hk hd; subst hk; subst hd; exact ⟨h, ho⟩
  | succ k => simp at hk⟩
theorem Shows.append {w : World} {ps qs : List PV} {cs ds : List Value} (h : Shows w ps cs) (k : Shows w qs ds) : Shows w (ps ++ qs) (cs ++ ds) := by
  refine ⟨by simp [h.1, k.1], fun j p c hp hc => ?_⟩
  by_cases hj : j < ps.length
  · rw [List.getElem?_append_left hj] at hp
    rw [List.getElem?_append_left (by rw [← h.1]; exact hj)] at hc
    exact h.2 j p c hp hc
  · rw [List.getElem?_append_right (by omega)] at hp
    rw [List.getElem?_append_right (by rw [← h.1]; omega), ← h.1] at hc
    exact k.2 _ p c hp hc

theorem cells_get {w : World} {base : Nat} {a : Addr} {n : Nat} {cs : List Value} (h : w.cells? base a n = some cs) : cs.length = n ∧ ∀ k, k < n → w.cell? (a.add k) = cs[k]? := by
  unfold World.cells? at h
  split at h
  · have key : ∀ (l : List Nat) (cs : List Value), l.mapM (fun i => w.cell? (a.add i)) = some cs → cs.length = l.length ∧ ∀ (k i : Nat), l[k]? = some i → w.cell? (a.add i) = cs[k]? := by
      intro l
      induction l with
      | nil => intro cs h; simp at h; subst h; exact ⟨rfl, fun k i h => by simp at h⟩
      | cons j l ih =>
        intro cs h
        rw [List.mapM_cons] at h
        simp only [bind, Option.bind_eq_some_iff, pure, Option.some.injEq] at h
        obtain ⟨c, h1, cs', h2, rfl⟩ := h
        obtain ⟨g1, g2⟩ := ih cs' h2
        refine ⟨by simp [g1], fun k i hk => ?_⟩
        cases k with
        | zero => simp at hk; subst hk; simpa using h1
        | succ k => simpa using g2 k i (by simpa using hk)
    obtain ⟨h1, h2⟩ := key _ cs h
    exact ⟨by simpa using h1, fun k hk => h2 k k (by simp [hk])⟩
  · cases h
theorem mapM_get {α β : Type} {f : α → Option β} : ∀ {l : List α} {ys : List β}, l.mapM f = some ys → ys.length = l.length ∧ ∀ (k : Nat) (x : α), l[k]? = some x → ∃ y, ys[k]? = some y ∧ f x = some y
  | [], ys, h => by simp at h; subst h; exact ⟨rfl, fun k x h => by simp at h⟩
  | x :: l, ys, h => by
    rw [List.mapM_cons] at h
    simp only [bind, Option.bind_eq_some_iff, pure, Option.some.injEq] at h
    obtain ⟨y, h1, ys', h2, rfl⟩ := h
    obtain ⟨g1, g2⟩ := mapM_get h2
    refine ⟨by simp [g1], fun k z hk => ?_⟩
    cases k with
    | zero => simp at hk; subst hk; exact ⟨y, rfl, h1⟩
    | succ k => simpa using g2 k z (by simpa using hk)

/-- As many rows as are read one by one. -/
theorem rows_of {w : World} {es : List FT} (g : Nat → Option (List Value)) : ∀ (n : Nat), (∀ i, i < n → ∃ ps cs, g i = some cs ∧ FitL es ps ∧ Shows w ps cs) → ∃ rows : List (List PV), rows.length = n ∧ ∀ i row, rows[i]? = some row → ∃ cs, g i = some cs ∧ FitL es row ∧ Shows w row cs
  | 0, _ => ⟨[], rfl, fun i row h => by simp at h⟩
  | n + 1, h => by
    obtain ⟨rows, h1, h2⟩ := rows_of g n fun i hi => h i (by omega)
    obtain ⟨ps, cs, k1, k2, k3⟩ := h n (by omega)
    refine ⟨rows ++ [ps], by simp [h1], fun i row hi => ?_⟩
    by_cases hlt : i < rows.length
    · rw [List.getElem?_append_left hlt] at hi
      exact h2 i row hi
    · rw [List.getElem?_append_right (by omega)] at hi
      have : i = n := by
        have := (List.getElem?_eq_some_iff.1 hi).1
        simp at this; omega
      subst this
      simp [h1] at hi; subst hi
      exact ⟨cs, k1, k2, k3⟩

section
variable {H : Type} {enc : TypeId × Value → H} {P : Program} {w : World}
/-- What is asked of a type's reading. -/
def Reads (enc : TypeId × Value → H) (P : Program) (w : World) (fuel : Nat) : Prop := ∀ (d : Nat) (t : TypeId) (fs : List FT) (cs : List Value) (x : DataW H × List MemPlace), flatT P d t = some fs → DataW.trod enc P w 0 (fun _ => true) true fuel t cs = some x → ∃ ps, FitL fs ps ∧ Shows w ps cs

theorem readF {fuel d : Nat} (ih : Reads enc P w fuel) {cs : List Value} : ∀ (fs : List Field) (off : Nat) (l : List FT) (xs : List (DataW H × List MemPlace)), flatF P (flatT P d) off fs = some l →
    fs.mapM (fun f => DataW.trod enc P w 0 (fun _ => true) true fuel f.type ((cs.drop f.offset).take (P.cellsOf f.type))) = some xs → cs.length = off + l.length → ∃ ps, FitL l ps ∧ Shows w ps (cs.drop off)
  | [], off, l, xs, hl, hx, hc => by
    simp only [flatF, Option.some.injEq] at hl; subst hl
    simp at hc
    rw [List.drop_eq_nil_of_le (by omega)]
    exact ⟨[], by simp [FitL], Shows.nil w⟩
  | f :: fs, off, l, xs, hl, hx, hc => by
    simp only [flatF] at hl
    split at hl
    · rename_i ho
      split at hl
      · rename_i l₁ h1
        split at hl
        · rename_i hsz
          simp only [Option.map_eq_some_iff] at hl
          obtain ⟨l₂, h2, rfl⟩ := hl
          rw [List.mapM_cons] at hx
          simp only [bind, Option.bind_eq_some_iff, pure, Option.some.injEq] at hx
          obtain ⟨y, y1, ys, y2, rfl⟩ := hx
          obtain ⟨ps, p1, p2⟩ := ih d f.type l₁ _ y h1 y1
          simp only [List.length_append] at hc
          obtain ⟨qs, q1, q2⟩ := readF ih fs (off + l₁.length) l₂ ys h2 y2 (by omega)
          refine ⟨ps ++ qs, FitL_append p1 q1, ?_⟩
          rw [ho, hsz] at p2
          have := p2.append q2
          rw [← List.drop_drop, List.take_append_drop] at this
          exact this
        · cases hl
      · cases hl
    · cases hl
theorem readA {fuel d : Nat} (ih : Reads enc P w fuel) {cs : List Value} {e : TypeId} {l : List FT} (hl : flatT P d e = some l) (hsz : P.cellsOf e = l.length) : ∀ (n i : Nat) (xs : List (DataW H × List MemPlace)),
    (List.range' i n).mapM (fun i => DataW.trod enc P w 0 (fun _ => true) true fuel e ((cs.drop (i * P.cellsOf e)).take (P.cellsOf e))) = some xs → cs.length = (i + n) * l.length → ∃ ps, FitL (List.replicate n l).flatten ps ∧ Shows w ps (cs.drop (i * l.length))
  | 0, i, xs, hx, hc => by
    simp at hc
    rw [List.drop_eq_nil_of_le (by omega)]
    exact ⟨[], by simp [FitL], Shows.nil w⟩
  | n + 1, i, xs, hx, hc => by
    rw [List.range'_succ, List.mapM_cons] at hx
    simp only [bind, Option.bind_eq_some_iff, pure, Option.some.injEq] at hx
    obtain ⟨y, y1, ys, y2, rfl⟩ := hx
    obtain ⟨ps, p1, p2⟩ := ih d e l _ y hl y1
    obtain ⟨qs, q1, q2⟩ := readA ih hl hsz n (i + 1) ys y2 (by rw [hc]; congr 1; omega)
    refine ⟨ps ++ qs, by rw [List.replicate_succ, List.flatten_cons]; exact FitL_append p1 q1, ?_⟩
    rw [hsz] at p2
    have := p2.append q2
    rw [Nat.add_mul, Nat.one_mul, ← List.drop_drop, List.take_append_drop] at this
    exact this

theorem reads : ∀ fuel, Reads enc P w fuel
  | 0 => fun d t fs cs x hf hx => by simp [DataW.trod] at hx
  | fuel + 1 => fun d t fs cs x hf hx => by
    cases d with
    | zero => simp [flatT] at hf
    | succ d =>
      simp only [flatT] at hf
      simp only [DataW.trod] at hx
      cases hu : P.underlying t with
      | none => simp [hu] at hf
      | some k =>
        simp only [hu] at hf hx
        cases k <;> simp only [reduceCtorEq, Option.some.injEq] at hf
        case bool =>
          subst hf
          split at hx <;> simp_all
          rename_i b
          exact ⟨[.bool b], by simp [FitL, Fit], Shows.one (.bool b) rfl⟩
        case int k =>
          subst hf
          split at hx <;> simp_all
          rename_i n hk
          obtain ⟨⟨rfl, hw⟩, _⟩ := hx
          exact ⟨[.int _ n], by simp [FitL, Fit, hw], Shows.one (.int _ n) rfl⟩
        case string =>
          subst hf
          split at hx <;> simp_all
          rename_i s
          exact ⟨[.str s], by simp [FitL, Fit, hx], Shows.one (.str s) rfl⟩
        case slice e =>
          split at hf
          · rename_i l hl
            split at hf
            · rename_i hsz
              injection hf with hf; subst hf
              split at hx
              all_goals try (first | (cases hx; done) | (rename_i h1; cases h1; done) | (rename_i h1 _; cases h1; done))
              · refine ⟨[.lst false l.length []], by simp [FitL, Fit], Shows.one ?_ rfl⟩
                exact .lst false l.length [] none 0 (fun _ _ => undef) (fun j row h => by simp at h) (Nat.le_refl _) (fun h => by cases h) (fun h => by simp at h) (fun ad ea j row k p h => by simp at h) (fun j row k p h => by simp at h)
              · rename_i e' a len cap heq
                cases heq
                split at hx
                case isFalse => cases hx
                rename_i hcond
                obtain ⟨_, hlc, hcm⟩ := hcond
                simp only [Option.bind_eq_some_iff, hsz.1] at hx
                obtain ⟨elems, he, _⟩ := hx
                obtain ⟨g1, g2⟩ := mapM_get he
                obtain ⟨rows, r1, r2⟩ := rows_of (w := w) (es := l) (fun i => w.cells? 0 (a.add (i * l.length)) l.length) len fun i hi => by
                  obtain ⟨y, y1, y2⟩ := g2 i i (by simp [hi])
                  simp only [Option.bind_eq_some_iff] at y2
                  obtain ⟨cs', z1, z2⟩ := y2
                  obtain ⟨ps, p1, p2⟩ := reads fuel d e l cs' y hl z2
                  exact ⟨ps, cs', z1, p1, p2⟩
                refine ⟨[.lst false l.length rows], ?_, Shows.one ?_ rfl⟩
                · simp only [FitL, Fit]
                  refine ⟨_, [], rfl, ⟨rows, rfl, by omega, fun row hr => ?_⟩, rfl⟩
                  obtain ⟨j, hj, e'⟩ := List.getElem_of_mem hr
                  obtain ⟨cs', _, q1, _⟩ := r2 j row (by rw [List.getElem?_eq_getElem hj, e'])
                  exact q1
                · have hrow : ∀ j row k p, rows[j]? = some row → row[k]? = some p → ∃ u, w.cell? (a.add (j * l.length + k)) = some u ∧ a.block < w.heap.size ∧ u.oneCell' = true ∧ Rep (fun b => b < w.heap.size) w p u := by
                    intro j row k p hj hk
                    obtain ⟨cs', z1, z2, z3⟩ := r2 j row hj
                    obtain ⟨c1, c2⟩ := cells_get z1
                    have hkl : k < l.length := by rw [← FitL_length z2]; exact (List.getElem?_eq_some_iff.1 hk).1
                    have hb := World.cells?_block z1 hsz.2
                    rw [Addr.add_block] at hb
                    have hcell := c2 k hkl
                    rw [Addr.add_add] at hcell
                    have hlt : k < cs'.length := by omega
                    rw [List.getElem?_eq_getElem hlt] at hcell
                    obtain ⟨s1, s2⟩ := z3.2 k p _ hk (List.getElem?_eq_getElem hlt)
                    exact ⟨_, hcell, hb, s2, s1⟩
                  have := Rep.lst (ok := fun b => b < w.heap.size) (w := w) false l.length rows (some a) cap (fun j k => (w.cell? (a.add (j * l.length + k))).getD undef)
                    (fun j row hj => by obtain ⟨cs', _, z2, _⟩ := r2 j row hj; exact FitL_length z2) (by omega) (fun h => by cases h) (fun _ => ⟨_, rfl⟩)
                    (fun ad ea j row k p hj hk => by
                      injection ea with ea; subst ea
                      obtain ⟨u, u1, u2, u3, u4⟩ := hrow j row k p hj hk
                      exact ⟨u2, by rw [u1]; rfl, by rw [u1]; exact u3⟩)
                    (fun j row k p hj hk => by
                      obtain ⟨u, u1, u2, u3, u4⟩ := hrow j row k p hj hk
                      simp only [u1, Option.getD_some]; exact u4)
                  rw [r1] at this
                  exact this
            · cases hf
          · cases hf
        case array n e =>
          split at hf
          · rename_i l hl
            split at hf
            · rename_i hsz
              injection hf with hf; subst hf
              split at hx
              all_goals try (first | (cases hx; done) | (rename_i h1; cases h1; done) | (rename_i h1 _; cases h1; done))
              all_goals try (exfalso; simp_all; done)
              rename_i n' e' heq
              cases heq
              split at hx
              case isFalse => cases hx
              rename_i hcl
              simp only [Option.map_eq_some_iff] at hx
              obtain ⟨ys, hy, _⟩ := hx
              rw [List.range_eq_range'] at hy
              rw [hsz.2] at hcl
              have := readA (reads fuel) hl hsz.1 n 0 ys hy (by simpa using hcl)
              simpa using this
            · cases hf
          · cases hf
        case struct fs' =>
          split at hf
          · rename_i l hl
            split at hf
            · rename_i hsz
              injection hf with hf; subst hf
              split at hx
              all_goals try (first | (cases hx; done) | (rename_i h1; cases h1; done) | (rename_i h1 _; cases h1; done))
              all_goals try (exfalso; simp_all; done)
              rename_i fs2 heq
              cases heq
              split at hx
              case isFalse => cases hx
              rename_i hcl
              simp only [Option.map_eq_some_iff] at hx
              obtain ⟨ys, hy, _⟩ := hx
              rw [hsz] at hcl
              have := readF (reads fuel) fs'.toList 0 l ys hl hy (by simpa using hcl)
              simpa using this
            · cases hf
          · cases hf
end
end Go.Ab
namespace Go.Ab
open Go.ChangeShapes Go.WideShapes Go.ChangeAt Go.RowKit
set_option linter.unusedVariables false
set_option linter.unusedSimpArgs false

/-- An argument of a type. -/
def FitT (P : Program) (t : TypeId) (p : PV) : Prop := ∃ fs, flatT P 20 t = some fs ∧ (if agOf P t = 2 then ∃ ps, p = .agg ps ∧ FitL fs ps else FitL fs [p])
def FitTs (P : Program) : List TypeId → List PV → Prop
  | [], ps => ps = []
  | t :: ts, ps => ∃ p qs, ps = p :: qs ∧ FitT P t p ∧ FitTs P ts qs

section
variable {H : Type} {enc : TypeId × Value → H} {P : Program} {w : World}
theorem readV {t : TypeId} {fs : List FT} {v : Value} {d : DataW H} {ps : List MemPlace} {r : Reach} {b0 : Nat} (hf : flatT P 20 t = some fs) (hok : Value.okWide P w r b0 t v) (hd : DataW.Trod enc P w 0 (fun _ => true) true t v d ps) :
    ∃ p, FitT P t p ∧ Rep (fun b => b < w.heap.size) w p v := by
  obtain ⟨fuel, hd⟩ := hd
  obtain ⟨qs, q1, q2⟩ := reads fuel 20 t fs _ _ hf hd
  have single : agOf P t ≠ 2 → v.cells = #[v] → ∃ p, FitT P t p ∧ Rep (fun b => b < w.heap.size) w p v := fun hag hc => by
    rw [hc] at q2
    have h1 : qs.length = 1 := q2.1
    obtain ⟨p, rfl⟩ := List.length_eq_one_iff.1 h1
    exact ⟨p, ⟨fs, hf, by rw [if_neg hag]; exact q1⟩, (q2.2 0 p v rfl rfl).1⟩
  have agg : agOf P t = 2 → (∃ cs, v = .agg cs) → ∃ p, FitT P t p ∧ Rep (fun b => b < w.heap.size) w p v := fun hag ⟨cs, hc⟩ => by
    subst hc
    simp only [Value.cells] at q2
    have e : cs = cs.toList.toArray := by simp
    refine ⟨.agg qs, ⟨fs, hf, by rw [if_pos hag]; exact ⟨qs, rfl, q1⟩⟩, ?_⟩
    rw [e]
    refine .agg qs cs.toList q2.1 (fun u hu => ?_) fun k p c hp hc => (q2.2 k p c hp hc).1
    obtain ⟨j, hj, rfl⟩ := List.getElem_of_mem hu
    have hj' : j < qs.length := by rw [q2.1]; exact hj
    exact (q2.2 j qs[j] _ (List.getElem?_eq_getElem hj') (List.getElem?_eq_getElem hj)).2
  have hf : flatT P (19 + 1) t = some fs := hf
  rw [flatT] at hf
  cases hu : P.underlying t with
  | none => simp [hu] at hf
  | some k =>
    cases k <;> simp only [hu, reduceCtorEq] at hf
    case bool => obtain ⟨b, rfl⟩ := okWide_bool hu hok; exact single (by simp [agOf, hu]) rfl
    case int => obtain ⟨b, rfl⟩ := okWide_int hu hok; exact single (by simp [agOf, hu]) rfl
    case string => obtain ⟨b, rfl⟩ := okWide_string hu hok; exact single (by simp [agOf, hu]) rfl
    case slice => obtain ⟨a, l, c, rfl⟩ := okWide_slice hu hok; exact single (by simp [agOf, hu]) rfl
    case array n e => exact agg (by simp [agOf, hu]) (by unfold Value.okWide at hok; rw [hu] at hok; obtain ⟨cs, h, _⟩ := hok; exact ⟨cs, h⟩)
    case struct n => exact agg (by simp [agOf, hu]) (by unfold Value.okWide at hok; rw [hu] at hok; obtain ⟨cs, h, _⟩ := hok; exact ⟨cs, h⟩)

theorem readAll : ∀ {ts : List TypeId} {vs : List Value} {ds : List (DataW H)} {ps : List MemPlace} {r : Reach} {b0 : Nat}, (∀ t ∈ ts, (flatT P 20 t).isSome = true) → (∀ (j : Nat) t v, ts[j]? = some t → vs[j]? = some v → Value.okWide P w r b0 t v) →
    DataW.TrodAll enc P w 0 (fun _ => true) true ts vs ds ps → ∃ pvs, FitTs P ts pvs ∧ Reps (fun b => b < w.heap.size) w pvs vs
  | [], [], [], _, _, _, _, _, _ => ⟨[], rfl, rfl, fun k p v h => by simp at h⟩
  | t :: ts, v :: vs, d :: ds, _, _, _, hf, hok, ⟨p, q, h1, h2, e⟩ => by
    obtain ⟨fs, hfs⟩ := Option.isSome_iff_exists.1 (hf t (by simp))
    obtain ⟨pv, g1, g2⟩ := readV hfs (hok 0 t v rfl rfl) h1
    obtain ⟨pvs, k1, k2, k3⟩ := readAll (fun t ht => hf t (by simp [ht])) (fun j t v ht hv => hok (j + 1) t v (by simpa using ht) (by simpa using hv)) h2
    refine ⟨pv :: pvs, ⟨pv, pvs, rfl, g1, k1⟩, by simp [k2], fun k p v hp hv => ?_⟩
    cases k with
    | zero => simp at hp hv; subst hp; subst hv; exact g2
    | succ k => exact k3 k p v (by simpa using hp) (by simpa using hv)
  | [], _ :: _, _, _, _, _, _, _, h => h.elim
  | [], [], _ :: _, _, _, _, _, _, h => h.elim
  | _ :: _, [], _, _, _, _, _, _, h => h.elim
  | _ :: _, _ :: _, [], _, _, _, _, _, h => h.elim

theorem trodAfter {W W' : World} (hl : laidOutB P = true) (hb : Below W.heap.size W W') : ∀ {ts : List TypeId} {vs : List Value} {ds : List (DataW H)} {ps : List MemPlace}, (∀ t ∈ ts, P.readableRec t = true ∧ t < P.types.size) → (∀ x ∈ ps, x.block < W.heap.size) →
    DataW.TrodAll enc P W 0 (fun _ => true) true ts vs ds ps → DataW.TrodAll enc P W' 0 (fun b => decide (b < W.heap.size)) true ts vs ds ps
  | [], [], [], _, _, _, h => h
  | t :: ts, v :: vs, d :: ds, _, hr, hlt, ⟨p, q, h1, h2, e⟩ => by
    subst e
    exact ⟨p, q, Below.trod hl (hr t (by simp)).1 (hr t (by simp)).2 h1 hb (fun x hx => hlt x (by simp [hx])), trodAfter hl hb (fun t ht => hr t (by simp [ht])) (fun x hx => hlt x (by simp [hx])) h2, rfl⟩
  | [], _ :: _, _, _, _, _, h => h.elim
  | [], [], _ :: _, _, _, _, h => h.elim
  | _ :: _, [], _, _, _, _, h => h.elim
  | _ :: _, _ :: _, [], _, _, _, h => h.elim

theorem FitT.int {t : TypeId} {k : IntKind} {p : PV} (hf : flatT P 20 t = some [.int k]) (ha : agOf P t = 1) (h : FitT P t p) : ∃ n, p = .int k n ∧ (Lit.int k n).wf = true := by
  obtain ⟨fs, h1, h2⟩ := h
  rw [hf] at h1; injection h1 with h1; subst h1
  rw [if_neg (by omega)] at h2
  simp only [FitL, Fit] at h2
  obtain ⟨q, qs, e, h3, _⟩ := h2
  injection e with e; subst e; exact h3
theorem FitT.bool {t : TypeId} {p : PV} (hf : flatT P 20 t = some [.bool]) (ha : agOf P t = 1) (h : FitT P t p) : ∃ b, p = .bool b := by
  obtain ⟨fs, h1, h2⟩ := h
  rw [hf] at h1; injection h1 with h1; subst h1
  rw [if_neg (by omega)] at h2
  simp only [FitL, Fit] at h2
  obtain ⟨q, qs, e, h3, _⟩ := h2
  injection e with e; subst e; exact h3
theorem FitT.str {t : TypeId} {p : PV} (hf : flatT P 20 t = some [.str]) (ha : agOf P t = 1) (h : FitT P t p) : ∃ s : ByteArray, p = .str s ∧ s.size ≤ maxLen := by
  obtain ⟨fs, h1, h2⟩ := h
  rw [hf] at h1; injection h1 with h1; subst h1
  rw [if_neg (by omega)] at h2
  simp only [FitL, Fit] at h2
  obtain ⟨q, qs, e, h3, _⟩ := h2
  injection e with e; subst e; exact h3
theorem FitT.slice {t : TypeId} {es : List FT} {p : PV} (hf : flatT P 20 t = some [.slice es]) (ha : agOf P t = 1) (h : FitT P t p) : ∃ rows, p = .lst false es.length rows ∧ rows.length ≤ maxLen ∧ ∀ row, row ∈ rows → FitL es row := by
  obtain ⟨fs, h1, h2⟩ := h
  rw [hf] at h1; injection h1 with h1; subst h1
  rw [if_neg (by omega)] at h2
  simp only [FitL, Fit] at h2
  obtain ⟨q, qs, e, h3, _⟩ := h2
  injection e with e; subst e; exact h3
theorem FitT.agg {t : TypeId} {fs : List FT} {p : PV} (hf : flatT P 20 t = some fs) (ha : agOf P t = 2) (h : FitT P t p) : ∃ ps, p = .agg ps ∧ FitL fs ps := by
  obtain ⟨fs', h1, h2⟩ := h
  rw [hf] at h1; injection h1 with h1; subst h1
  rwa [if_pos ha] at h2
theorem law {f : FuncId} {fn : Func} {s : ChangeSpec} {W : World} {base : Nat} {args : Array Value} {ds gs : List (DataW H)} {before : List MemPlace} {ts : List TypeId} {tb : TypeId} (hl : laidOutB P = true) (hts : fn.params = ts.toArray)
    (hr : (ts.all fun t => P.readableRec t && decide (t < P.types.size) && (flatT P 20 t).isSome) = true) (hres : fn.resultTypes = #[tb]) (hb : P.underlying tb = some .bool) (hv : s.vars = [])
    (hfn : ∀ ds : List (DataW H), ds.length = ts.length → s.fn H ds = { results := [.lit (.bool true)], args := ds })
    (core : ∀ pvs, FitTs P ts pvs → PC P f pvs (.bool true)) (hG : Glob W)
    (hval : ∀ (j : Nat) t v, fn.params[j]? = some t → args[j]? = some v → Value.okWide P W .any base t v)
    (hW : DataW.Whole enc P fn.params.toList s.vars false W args.toList ds gs before) :
    Calls P f args W fun e W' => ∃ v, e = .returned v ∧ s.post enc P fn false true false false W args v W' := by
  have hW' := hW
  obtain ⟨p, q, hA, hV, rfl, _, _⟩ := hW
  rw [hv] at hV
  obtain ⟨rfl, rfl⟩ : gs = [] ∧ q = [] := by
    cases gs with
    | nil => exact ⟨rfl, hV⟩
    | cons g gs => exact hV.elim
  rw [hts] at hA hval
  rw [List.all_eq_true] at hr
  have hr' : ∀ t ∈ ts, P.readableRec t = true ∧ t < P.types.size ∧ (flatT P 20 t).isSome = true := fun t ht => by
    have := hr t ht
    simp only [Bool.and_eq_true, decide_eq_true_eq] at this
    exact ⟨this.1.1, this.1.2, this.2⟩
  obtain ⟨pvs, g1, g2⟩ := readAll (ts := ts) (r := .any) (b0 := base) (fun t ht => (hr' t ht).2.2) (fun j t v ht hv => hval j t v (by simpa using ht) (by simpa using hv)) hA
  have hlen : ds.length = ts.length := by
    have : ∀ {ts : List TypeId} {vs : List Value} {ds : List (DataW H)} {ps : List MemPlace}, DataW.TrodAll enc P W 0 (fun _ => true) true ts vs ds ps → ds.length = ts.length := by
      intro ts
      induction ts with
      | nil => intro vs ds ps h; cases vs <;> cases ds <;> first | rfl | exact h.elim
      | cons t ts ih =>
        intro vs ds ps h
        cases vs with
        | nil => exact h.elim
        | cons v vs => cases ds with
          | nil => exact h.elim
          | cons d ds => obtain ⟨_, _, _, h2, _⟩ := h; simp [ih h2]
    exact this hA
  have hlt : ∀ x ∈ p, x.block < W.heap.size := fun x hx => hW'.lt x (by simp [hx])
  have := (core pvs g1).spec (fun b => b < W.heap.size) W args.toList (fun b h => h) hG g2
  simp only [Array.toArray_toList] at this
  refine this.mono fun e W' he => ?_
  cases e with
  | returned v =>
    obtain ⟨hbel, hrep⟩ := he
    cases hrep
    refine ⟨_, rfl, ds, [], p ++ [], [], p, [], hW', ?_, ?_, ?_, hbel.frame _, fun h => by cases h⟩
    · simp only [List.append_nil, hfn ds hlen, hres]
      exact trodAll_mk1 (shut_bool hb true)
    · simp only [List.append_nil, hfn ds hlen, hts]
      exact trodAfter hl hbel (fun t ht => ⟨(hr' t ht).1, (hr' t ht).2.1⟩) hlt hA
    · simp only [List.append_nil, hfn ds hlen, hv]
      rfl
  | panicked _ => exact he.elim
  | outgrown => exact he.elim
end
end Go.Ab
namespace Go.Ab
set_option linter.unusedVariables false
set_option linter.unusedSimpArgs false
def SubLL : List (List PV) → List (List PV) → Prop
  | [], [] => True
  | r :: rs, q :: qs => SubL r q ∧ SubLL rs qs
  | _, _ => False
theorem SubLL_get : ∀ {rs qs : List (List PV)}, SubLL rs qs → rs.length = qs.length ∧ ∀ (k : Nat) (q : List PV), qs[k]? = some q → ∃ r, rs[k]? = some r ∧ SubL r q
  | [], [], _ => ⟨rfl, fun k q h => by simp at h⟩
  | r :: rs, q :: qs, h => by
    obtain ⟨h1, h2⟩ := SubLL_get h.2
    refine ⟨by simp [h1], fun k x hk => ?_⟩
    cases k with
    | zero => simp at hk; subst hk; exact ⟨r, rfl, h.1⟩
    | succ k => exact h2 k x (by simpa using hk)
  | [], _ :: _, h => h.elim
  | _ :: _, [], h => h.elim
theorem Sub.lst {b : Bool} {sz : Nat} {rows qs : List (List PV)} (h : SubLL rows qs) : Sub (.lst b sz rows) (.lst false sz qs) := fun ok w v hr => by
  obtain ⟨h1, h2⟩ := SubLL_get h
  cases hr with
  | lst _ _ _ A c us hlen hc hf hA hcell hrep =>
    rw [h1]
    refine .lst false sz qs A c us (fun j q hj => ?_) (by omega) (fun h => by cases h) (by rw [← h1]; exact hA) (fun ad e j q k p hj hk => ?_) (fun j q k p hj hk => ?_)
    · obtain ⟨r, hr, hs⟩ := h2 j q hj
      rw [← (SubL_get hs).1]; exact hlen j r hr
    · obtain ⟨r, hr, hs⟩ := h2 j q hj
      obtain ⟨p', hp', _⟩ := (SubL_get hs).2 k p hk
      exact hcell ad e j r k p' hr hp'
    · obtain ⟨r, hr, hs⟩ := h2 j q hj
      obtain ⟨p', hp', hsub⟩ := (SubL_get hs).2 k p hk
      exact hsub _ _ _ (hrep j r k p' hr hp')
theorem rows_mapP {α : Type} (f : α → List PV) (p : α → Prop) : ∀ {rows : List (List PV)}, (∀ row, row ∈ rows → ∃ x, row = f x ∧ p x) → ∃ m : List α, rows = m.map f ∧ ∀ x ∈ m, p x
  | [], _ => ⟨[], rfl, fun x hx => by simp at hx⟩
  | r :: rows, h => by
    obtain ⟨x, hx, px⟩ := h r (by simp)
    obtain ⟨m, hm, hp⟩ := rows_mapP f p (rows := rows) fun row hr => h row (by simp [hr])
    refine ⟨x :: m, by simp [hx, hm], fun y hy => ?_⟩
    simp at hy
    rcases hy with rfl | hy
    · exact px
    · exact hp y hy
end Go.Ab
namespace Go.Ab
open Go.RowKit
set_option linter.unusedVariables false
set_option linter.unusedSimpArgs false
section
variable {P : Program} {z : Ini} {ops : Array Oper} {l : List Oper} {Q : Exit → St → Prop} {o : Oper} {t : List AV} {h : List ABlk} {T ty : TypeId} {x y y' : Operand}
end
end Go.Ab
