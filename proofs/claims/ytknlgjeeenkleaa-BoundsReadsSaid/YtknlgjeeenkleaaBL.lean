/- The plain laws of bounds as bytes. -/
import Derived.Test.YtknlgjeeenkleaaD7
namespace Go.Ab
set_option linter.unusedVariables false
set_option linter.unusedSimpArgs false
theorem bo1 (s : ByteArray) (j : Nat) : ior .i64 (ishl .i64 0 8) (bat s j) = bat s j := by
  have := bat_rng s j; rw [ior_byte_i (by omega) (by omega) (by omega) (by omega)]; omega
theorem bo2 (s : ByteArray) (i j : Nat) : ior .i64 (ishl .i64 (bat s i) 8) (bat s j) = bat s i * 256 + bat s j := by
  have := bat_rng s j; have := bat_rng s i; exact ior_byte_i (by omega) (by omega) (by omega) (by omega)
theorem bo3 (s : ByteArray) (i j k : Nat) : ior .i64 (ishl .i64 (bat s i * 256 + bat s j) 8) (bat s k) = (bat s i * 256 + bat s j) * 256 + bat s k := by
  have := bat_rng s j; have := bat_rng s i; have := bat_rng s k; exact ior_byte_i (by omega) (by omega) (by omega) (by omega)
theorem bo4 (s : ByteArray) (i j k l : Nat) : ior .i64 (ishl .i64 ((bat s i * 256 + bat s j) * 256 + bat s k) 8) (bat s l) = ((bat s i * 256 + bat s j) * 256 + bat s k) * 256 + bat s l := by
  have := bat_rng s j; have := bat_rng s i; have := bat_rng s k; have := bat_rng s l; exact ior_byte_i (by omega) (by omega) (by omega) (by omega)
theorem wbat (s : ByteArray) (j : Nat) : IntKind.i64.wrap (bat s j) = bat s j := by have := bat_rng s j; exact w64 (by omega) (by omega)
def num (s : ByteArray) (i : Nat) : Int := ((bat s (4 * i) * 256 + bat s (4 * i + 1)) * 256 + bat s (4 * i + 2)) * 256 + bat s (4 * i + 3)
theorem num_rng (s : ByteArray) (i : Nat) : 0 ≤ num s i ∧ num s i < 4294967296 := by
  have h1 := bat_rng s (4 * i); have h2 := bat_rng s (4 * i + 1); have h3 := bat_rng s (4 * i + 2); have h4 := bat_rng s (4 * i + 3)
  unfold num; omega
theorem num_extract {s : ByteArray} {a b i : Nat} (ha : a = 4 * i) (hb : b = 4 * i + 4) (h : b ≤ s.size) : num (s.extract a b) 0 = num s i := by
  subst ha; subst hb
  unfold num
  rw [bat_extract (by omega) h, bat_extract (by omega) h, bat_extract (by omega) h, bat_extract (by omega) h]; rfl
def four (n : Int) : List Int := [n / 16777216 % 256, n / 65536 % 256, n / 256 % 256, n % 256]
theorem four_num (s : ByteArray) (i : Nat) : four (num s i) = [bat s (4 * i), bat s (4 * i + 1), bat s (4 * i + 2), bat s (4 * i + 3)] := by
  have h1 := bat_rng s (4 * i); have h2 := bat_rng s (4 * i + 1); have h3 := bat_rng s (4 * i + 2); have h4 := bat_rng s (4 * i + 3)
  unfold four num
  generalize bat s (4 * i) = a at *
  generalize bat s (4 * i + 1) = b at *
  generalize bat s (4 * i + 2) = c at *
  generalize bat s (4 * i + 3) = d at *
  congr 1
  · omega
  · congr 1
    · omega
    · congr 1
      · omega
      · congr 1; omega
def ok8 (a b c d e f g h : Int) : Prop := (1 ≤ a ∧ a ≤ 1000) ∧ (1 ≤ b ∧ b ≤ 1000) ∧ (1 ≤ c ∧ c ≤ 1000) ∧ (0 ≤ d ∧ d ≤ 4) ∧ (0 ≤ e ∧ e ≤ 6) ∧ (1 ≤ f ∧ f ≤ 1048576) ∧ (0 ≤ g ∧ g ≤ 1048576) ∧ (1 ≤ h ∧ h ≤ 65536)
instance (a b c d e f g h : Int) : Decidable (ok8 a b c d e f g h) := by unfold ok8; infer_instance
def chk (a b c d e f g h : Int) : Int := if ok8 a b c d e f g h then 0 else 18
theorem chk_ok {a b c d e f g h : Int} (k : ok8 a b c d e f g h) : chk a b c d e f g h = 0 := if_pos k
theorem chk_no {a b c d e f g h : Int} (k : ¬ ok8 a b c d e f g h) : chk a b c d e f g h = 18 := if_neg k
theorem ok_of {a b c d e f g h : Int} (k : chk a b c d e f g h = 0) : ok8 a b c d e f g h := Classical.byContradiction fun hn => by rw [chk_no hn] at k; omega
def flat (a b c d e f g h : Int) : List Int := four a ++ (four b ++ (four c ++ (four d ++ (four e ++ (four f ++ (four g ++ four h))))))
def putS (a b c d e f g h : Int) : ByteArray := if ok8 a b c d e f g h then strOf (flat a b c d e f g h) else ⟨#[]⟩
theorem putS_ok {a b c d e f g h : Int} (k : ok8 a b c d e f g h) : putS a b c d e f g h = strOf (flat a b c d e f g h) := if_pos k
theorem putS_no {a b c d e f g h : Int} (k : ¬ ok8 a b c d e f g h) : putS a b c d e f g h = ⟨#[]⟩ := if_neg k
theorem putS_size (a b c d e f g h : Int) : (putS a b c d e f g h).size ≤ 32 := by
  unfold putS; split
  · rw [strOf_size]; exact Nat.le_refl 32
  · exact Nat.zero_le _
def chkS (s : ByteArray) : Int := chk (num s 0) (num s 1) (num s 2) (num s 3) (num s 4) (num s 5) (num s 6) (num s 7)
def errS (s : ByteArray) : Int := if s.size < 32 then 6 else chkS s
def rdS (s : ByteArray) (i : Nat) : Int := if errS s = 0 then num s i else 0
def restS (s : ByteArray) : ByteArray := if errS s = 0 then s.extract 32 s.size else ⟨#[]⟩
theorem restS_size (s : ByteArray) : (restS s).size ≤ s.size := by
  unfold restS; split
  · rw [ByteArray.size_extract]; omega
  · exact Nat.zero_le _
theorem four_rng (n : Int) : ∀ x ∈ four n, 0 ≤ x ∧ x < 256 := by
  intro x hx; simp only [four, List.mem_cons, List.not_mem_nil, or_false] at hx
  rcases hx with rfl | rfl | rfl | rfl <;> omega
theorem flat_rng (a b c d e f g h : Int) : ∀ x ∈ flat a b c d e f g h, 0 ≤ x ∧ x < 256 := by
  intro x hx; simp only [flat, List.mem_append] at hx
  rcases hx with k | k | k | k | k | k | k | k <;> exact four_rng _ x k
/-- What is read is put as it was. -/
theorem read_put {s : ByteArray} (h : errS s = 0) : chk (rdS s 0) (rdS s 1) (rdS s 2) (rdS s 3) (rdS s 4) (rdS s 5) (rdS s 6) (rdS s 7) = 0 ∧ putS (rdS s 0) (rdS s 1) (rdS s 2) (rdS s 3) (rdS s 4) (rdS s 5) (rdS s 6) (rdS s 7) ++ restS s = s := by
  have hs : ¬ s.size < 32 := fun hh => by unfold errS at h; rw [if_pos hh] at h; omega
  have hc : chkS s = 0 := by unfold errS at h; rwa [if_neg hs] at h
  have e : ∀ i, rdS s i = num s i := fun i => by unfold rdS; rw [if_pos h]
  rw [e, e, e, e, e, e, e, e]
  refine ⟨hc, ?_⟩
  rw [putS_ok (ok_of hc)]
  unfold restS; rw [if_pos h]
  conv => rhs; rw [← take_append_extract s (n := 32) (by omega)]
  congr 2
  unfold flat
  simp only [four_num]
  rfl
/-- What is put is read as it was. -/
theorem put_read {a b c d e f g h : Int} (k : ok8 a b c d e f g h) (t : ByteArray) : errS (putS a b c d e f g h ++ t) = 0 ∧ restS (putS a b c d e f g h ++ t) = t ∧
    rdS (putS a b c d e f g h ++ t) 0 = a ∧ rdS (putS a b c d e f g h ++ t) 1 = b ∧ rdS (putS a b c d e f g h ++ t) 2 = c ∧ rdS (putS a b c d e f g h ++ t) 3 = d ∧
    rdS (putS a b c d e f g h ++ t) 4 = e ∧ rdS (putS a b c d e f g h ++ t) 5 = f ∧ rdS (putS a b c d e f g h ++ t) 6 = g ∧ rdS (putS a b c d e f g h ++ t) 7 = h := by
  have hb : ∀ j, j < 32 → bat (putS a b c d e f g h ++ t) j = (flat a b c d e f g h).getD j 0 := fun j hj => by
    rw [putS_ok k]; exact bat_append_l (flat_rng a b c d e f g h) hj
  have hsz : ¬ (putS a b c d e f g h ++ t).size < 32 := by
    rw [putS_ok k, ByteArray.size_append, strOf_size]; have : (flat a b c d e f g h).length = 32 := rfl
    omega
  have kk := k; unfold ok8 at kk
  have n : ∀ (i : Nat) (x : Int), i < 8 → 0 ≤ x → x ≤ 1048576 → (flat a b c d e f g h).getD (4 * i) 0 = x / 16777216 % 256 → (flat a b c d e f g h).getD (4 * i + 1) 0 = x / 65536 % 256 → (flat a b c d e f g h).getD (4 * i + 2) 0 = x / 256 % 256 → (flat a b c d e f g h).getD (4 * i + 3) 0 = x % 256 → num (putS a b c d e f g h ++ t) i = x := by
    intro i x hi h0 h1 e0 e1 e2 e3
    unfold num
    rw [hb _ (by omega), hb _ (by omega), hb _ (by omega), hb _ (by omega), e0, e1, e2, e3]; omega
  have n0 := n 0 a (by omega) (by omega) (by omega) rfl rfl rfl rfl
  have n1 := n 1 b (by omega) (by omega) (by omega) rfl rfl rfl rfl
  have n2 := n 2 c (by omega) (by omega) (by omega) rfl rfl rfl rfl
  have n3 := n 3 d (by omega) (by omega) (by omega) rfl rfl rfl rfl
  have n4 := n 4 e (by omega) (by omega) (by omega) rfl rfl rfl rfl
  have n5 := n 5 f (by omega) (by omega) (by omega) rfl rfl rfl rfl
  have n6 := n 6 g (by omega) (by omega) (by omega) rfl rfl rfl rfl
  have n7 := n 7 h (by omega) (by omega) (by omega) rfl rfl rfl rfl
  have hE : errS (putS a b c d e f g h ++ t) = 0 := by
    unfold errS; rw [if_neg hsz]; unfold chkS; rw [n0, n1, n2, n3, n4, n5, n6, n7]; exact chk_ok k
  have r : ∀ i, rdS (putS a b c d e f g h ++ t) i = num (putS a b c d e f g h ++ t) i := fun i => by unfold rdS; rw [if_pos hE]
  refine ⟨hE, ?_, (r 0).trans n0, (r 1).trans n1, (r 2).trans n2, (r 3).trans n3, (r 4).trans n4, (r 5).trans n5, (r 6).trans n6, (r 7).trans n7⟩
  unfold restS; rw [if_pos hE, putS_ok k]; exact extract_append_r rfl
end Go.Ab
