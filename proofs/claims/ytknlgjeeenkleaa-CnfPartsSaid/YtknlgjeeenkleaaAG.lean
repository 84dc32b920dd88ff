/- Bytes as a text. -/
import Derived.Test.YtknlgjeeenkleaaAF
import Derived.Laws.BytesString
namespace Go.Ab
open Go.RowKit
set_option linter.unusedVariables false
set_option linter.unusedSimpArgs false

/-- The numbers of one-cell rows of bytes. -/
def bytesA : List (List PV) → Option (List Int)
  | [] => some []
  | [.int .u8 n] :: l => (bytesA l).map (n :: ·)
  | _ => none
theorem bytesA_map (ns : List Int) : bytesA (ns.map fun n => [.int .u8 n]) = some ns := by
  induction ns with
  | nil => rfl
  | cons n ns ih => simp [bytesA, ih]
theorem bytesA_get : ∀ {rows : List (List PV)} {ns : List Int}, bytesA rows = some ns → rows = ns.map fun n => [.int .u8 n]
  | [], ns, h => by simp [bytesA] at h; subst h; rfl
  | row :: rows, ns, h => by
    unfold bytesA at h
    split at h
    · rename_i e; cases e
    · rename_i n l e
      injection e with e1 e2; subst e1; subst e2
      simp only [Option.map_eq_some_iff] at h
      obtain ⟨ms, hm, rfl⟩ := h
      rw [bytesA_get hm]; rfl
    · cases h
def strOf (ns : List Int) : ByteArray := ns.foldl (fun r n => r.push (UInt8.ofNat n.toNat)) ByteArray.empty
def cnvA (P : Program) (h : List ABlk) (s d : TypeId) (x : AV) : Option PV :=
  match tk P d, tk P s with
  | .str, .slice e sz b => (match tk P e with | .int .u8 => (match yRows h (.slice e sz b) 1 x with | some rows => (bytesA rows).map fun ns => .str (strOf ns) | none => none) | _ => none)
  | _, _ => none

theorem yRows_slice {c : Cx} {h : List ABlk} {w : World} {x : AV} {v : Value} {e sz b q : Nat} {rows : List (List PV)} (hx : ARep c h w x v) (hy : yRows h (.slice e sz b) q x = some rows) : ∃ A cap, v = .slice A rows.length cap := by
  cases hx with
  | pv p _ hr =>
    cases p with
    | lst full sz' rows' =>
      simp only [yRows] at hy
      cases hr with
      | lst _ _ _ A cc us h1 h2 h3 h4 h5 h6 =>
        split at hy
        · injection hy with hy; subst hy; exact ⟨A, cc, rfl⟩
        · split at hy
          · injection hy with hy; subst hy; exact ⟨A, cc, rfl⟩
          · cases hy
    | _ => simp [yRows] at hy
  | vs i off n v b' ho hi hb hv =>
    simp only [yRows, hi] at hy
    split at hy
    · rename_i sz' rows' heq
      injection heq with heq; subst heq
      split at hy
      · injection hy with hy; subst hy
        obtain ⟨h1, A, rfl, _⟩ := hv _ _ rfl
        have hl : ((rows'.drop off).take n).length = n := by simp; omega
        exact ⟨A, (c.vd i).2 - off, by rw [hl]⟩
      · cases hy
    · cases hy
  | _ => simp [yRows] at hy

theorem cnvA_run {P : Program} {sT dT : TypeId} {z : Ini} {c : Cx} {h : List ABlk} {w : World} (s : MSim z h c w) {x : AV} {v : Value} {p : PV} (hx : ARep c h w x v) (hc : cnvA P h sT dT x = some p) :
    ∃ q, (convert sT dT v).run P w = .ok q w ∧ Rep c.ok w p q := by
  unfold cnvA at hc
  split at hc
  case h_2 => cases hc
  rename_i e sz b hd hk
  split at hc
  case h_2 => cases hc
  rename_i he
  split at hc
  case h_2 => cases hc
  rename_i rows hy
  simp only [Option.map_eq_some_iff] at hc
  obtain ⟨ns, hn, rfl⟩ := hc
  have hrows := bytesA_get hn
  obtain ⟨hu, _, _⟩ := tk_slice hk
  have hdu := tk_str hd
  have heu := tk_int he
  obtain ⟨us, R, S⟩ := yRows_src (P := P) (tx := sT) (sz := 1) (rows := rows) s hx (by rw [hk]; exact hy) (by omega)
  obtain ⟨A, cap, rfl⟩ := yRows_slice hx hy
  have hlen : rows.length = ns.length := by rw [hrows]; simp
  have hcells : cellsR us 1 rows.length = ns.map (Value.int .u8) := by
    apply List.ext_getElem?
    intro q
    by_cases hq : q < rows.length
    · rw [cellsR_get us 1 _ q (by omega), Nat.div_one, Nat.mod_one]
      have hq' : q < ns.length := by omega
      have hr : rows[q]? = some [.int .u8 ns[q]] := by rw [hrows]; simp [hq']
      obtain ⟨_, r2⟩ := R.2 q _ 0 _ hr rfl
      generalize us q 0 = u0 at r2
      cases r2
      simp [hq']
    · rw [List.getElem?_eq_none (by rw [cellsR_length]; omega), List.getElem?_eq_none (by simp; omega)]
  refine ⟨.string (strOf ns), ?_, .str _⟩
  cases A with
  | none =>
    have h0 := S.cells
    rw [hcells] at h0
    simp [Builtin.firstCells] at h0
    have : ns = [] := by
      cases ns with
      | nil => rfl
      | cons a ns => simp at h0
    subst this
    simp [convert, run_underlying hu, run_underlying hdu, run_underlying heu, Conv.bytesToString, strOf]
  | some a =>
    have h0 := S.cells
    rw [hcells] at h0
    simp only [Builtin.firstCells, Nat.mul_one] at h0
    have := run_bytesToString (P := P) w a rows.length cap ns h0
    simp [convert, run_underlying hu, run_underlying hdu, run_underlying heu, this, strOf]
end Go.Ab
