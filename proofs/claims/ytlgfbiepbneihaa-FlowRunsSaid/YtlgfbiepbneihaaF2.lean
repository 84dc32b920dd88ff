/- A device in memory; what is read of it: the contract of disk.Read. -/
import Derived.Test.YtlgfbiepbneihaaF1
import Derived.Test.YtlgfbiepbneihaaKB
namespace Go.Ab.Try
open Go.Proofs Go.RowKit
set_option linter.unusedVariables false
set_option linter.unusedSimpArgs false
set_option linter.unnecessarySimpa false
def pnR (p : Pn) : List PV := [.int .i64 p.1, .int .u64 p.2.1, .int .i64 p.2.2]
def wdR (x : Int) : List PV := [.int .u64 x]
/-- A device. -/
def devV (D : List Int) (l : List Pn) (e : Int) : PV := .agg [.lst false 1 (D.map wdR), .lst false 3 (l.map pnR), .int .i64 e]
/-- What the writes make of a block's word. -/
def lastW (l : List Pn) (b v : Int) : Int := l.foldl (fun v p => if p.1 = b then p.2.1 else v) v
theorem lastP_eq (b v : Int) (l : List Pn) : ∀ k, k ≤ l.length → lastP (fun j => l[j]?.getD (0, 0, 0)) b v k = lastW (l.take k) b v
  | 0, _ => by simp [lastP, lastW]
  | k + 1, h => by
    have : l[k]? = some l[k] := List.getElem?_eq_getElem (by omega)
    rw [lastP, lastP_eq b v l k (by omega), List.take_add_one]
    simp only [lastW, this, List.foldl_append, Option.getD_some, Option.toList_some, List.foldl_cons, List.foldl_nil]
theorem addr_of {W : World} {ad : Addr} {v : Value} (h : W.cell? ad = some v) : ∃ b off, ad = ⟨b, off, none⟩ := by
  obtain ⟨b, off, sp⟩ := ad
  cases sp with
  | none => exact ⟨b, off, rfl⟩
  | some s =>
    exfalso
    simp only [World.cell?] at h
    split at h
    · simp at h
    · cases h
theorem rep_u64 {ok : Nat → Prop} {w : World} {n : Int} {k : IntKind} {v : Value} (h : Rep ok w (.int k n) v) : v = .int k n := by cases h; rfl
theorem c137 (D : List Int) (l : List Pn) (e b : Int) (hb : 0 ≤ b) (hD : D.length ≤ 1000000) (hl : l.length ≤ 1000000) : PC Try.prog 137 [devV D l e, .int .u64 b] (.tup (if b < D.length then [.int .u64 (lastW l b (D[b.toNat]?.getD 0)), .bool true] else [.int .u64 0, .bool false])) := by
  refine ⟨Try.call137, fun ok w vs hok hG hr => ?_⟩
  obtain ⟨hlen, hrs⟩ := hr
  obtain ⟨v1, v2, rfl⟩ : ∃ v1 v2, vs = [v1, v2] := by
    match vs, hlen with
    | [a, b], _ => exact ⟨a, b, rfl⟩
  have h1 := hrs 0 _ _ rfl rfl
  have h2 := rep_u64 (hrs 1 _ _ rfl rfl)
  subst h2
  unfold devV at h1
  cases h1 with
  | agg ps us hl' ho hh =>
    obtain ⟨u1, u2, u3, rfl⟩ : ∃ u1 u2 u3, us = [u1, u2, u3] := by
      match us, hl' with
      | [a, b, c], _ => exact ⟨a, b, c, rfl⟩
    have g1 := hh 0 _ _ rfl rfl
    have g2 := hh 1 _ _ rfl rfl
    have g3 := rep_u64 (hh 2 _ _ rfl rfl)
    subst g3
    cases g1 with
    | lst _ _ _ Ad cd us1 hlen1 hc1 hf1 hA1 hcell1 hrep1 =>
      cases g2 with
      | lst _ _ _ Ap cp us2 hlen2 hc2 hf2 hA2 hcell2 hrep2 =>
        obtain ⟨n, rfl⟩ : ∃ n : Nat, b = (n : Int) := ⟨b.toNat, by omega⟩
        have key := (callsIn_wide (n := 3)).1 (Read_in 3 (by omega) Ad Ap (D.map wdR).length cd (l.map pnR).length cp e n (D[n]?.getD 0) (fun j => l[j]?.getD (0, 0, 0)) (by simp; omega) (by simp; omega) w
          (fun hn => by
            simp only [List.length_map] at hn
            have hx : (D.map wdR)[n]? = some (wdR D[n]) := by simp [hn]
            obtain ⟨ad, rfl⟩ := hA1 (by simp; omega)
            obtain ⟨k1, k2, k3⟩ := hcell1 ad rfl n _ 0 _ hx rfl
            have k4 := rep_u64 (hrep1 n _ 0 _ hx rfl)
            have hx0 : (D.map wdR)[0]? = some (wdR D[0]) := by simp [show 0 < D.length by omega]
            obtain ⟨_, k5, _⟩ := hcell1 ad rfl 0 _ 0 _ hx0 rfl
            obtain ⟨bd, off, rfl⟩ := addr_of (ad := ad) (by simpa [Addr.add] using k5)
            rw [Addr.add_plain, k4] at k2
            refine ⟨bd, off, rfl, hok _ k1, ?_⟩
            have : D[n]?.getD 0 = D[n] := by simp [hn]
            rw [this]
            simpa using k2)
          (by
            rcases Nat.eq_zero_or_pos l.length with h0 | h0
            · exact .inl ⟨Ap, cp, by simp [h0], by simp [h0]⟩
            · right
              obtain ⟨ad, rfl⟩ := hA2 (by simpa using h0)
              have hx0 : (l.map pnR)[0]? = some (pnR l[0]) := by simp [h0]
              obtain ⟨k0, k5, _⟩ := hcell2 ad rfl 0 _ 0 _ hx0 rfl
              obtain ⟨bd, off, rfl⟩ := addr_of (ad := ad) (by simpa [Addr.add] using k5)
              refine ⟨bd, off, cp, rfl, hok _ k0, fun j hj => ?_⟩
              simp only [List.length_map] at hj
              have hx : (l.map pnR)[j]? = some (pnR l[j]) := by simp [hj]
              have hj' : l[j]?.getD (0, 0, 0) = l[j] := by simp [hj]
              have r0 := hcell2 _ rfl j _ 0 _ hx rfl
              have r1 := hcell2 _ rfl j _ 1 _ hx rfl
              have r2 := hcell2 _ rfl j _ 2 _ hx rfl
              rw [Addr.add_plain, rep_u64 (hrep2 j _ 0 _ hx rfl)] at r0
              rw [Addr.add_plain, rep_u64 (hrep2 j _ 1 _ hx rfl)] at r1
              rw [Addr.add_plain, rep_u64 (hrep2 j _ 2 _ hx rfl)] at r2
              simp only [hj']
              exact ⟨by simpa using r0.2.1, by simpa [Nat.add_assoc] using r1.2.1, by simpa [Nat.add_assoc] using r2.2.1⟩))
        refine key.mono fun x w' hx => ?_
        obtain ⟨rfl, hB⟩ := hx
        refine ⟨hB, ?_⟩
        have hll := lastP_eq (n : Int) (D[n]?.getD 0) l l.length (Nat.le_refl _)
        rw [List.take_length] at hll
        simp only [List.length_map, hll, Int.toNat_natCast, Int.ofNat_lt]
        split
        · exact .tup _ [_, _] rfl (fun k p v hp hv => by
            match k with
            | 0 => simp at hp hv; subst hp; subst hv; exact .int _ _
            | 1 => simp at hp hv; subst hp; subst hv; exact .bool _
            | k + 2 => simp at hp)
        · exact .tup _ [_, _] rfl (fun k p v hp hv => by
            match k with
            | 0 => simp at hp hv; subst hp; subst hv; exact .int _ _
            | 1 => simp at hp hv; subst hp; subst hv; exact .bool _
            | k + 2 => simp at hp)
end Go.Ab.Try
