/- Machines: what stays as it may be; runs in parts. -/
import Derived.Test.YtlgfbiepbneihaaVA
import Derived.Test.YtlgfbiepbneihaaWN
namespace Go.Ab.Try
open Go.Proofs Go.Ab
set_option linter.unusedVariables false
set_option linter.unusedSimpArgs false
set_option linter.unnecessarySimpa false
structure OkS (s : St) (N : Nat) : Prop where
  rw : ∀ j, InR8 j → W64 (s.r.get j)
  cN : s.C.length ≤ 300
  cw : ∀ x ∈ s.C, W64 x
  dN : s.D.length ≤ 100
  dw : ∀ x ∈ s.D, W64 x
  lN : s.l.length ≤ N
  lw : ∀ p ∈ s.l, W64 p.2.1
def OkC (code : List Ins) : Prop := ∀ i ∈ code, W64 i.2.2.2.2
def OkI (inp : List Int) : Prop := ∀ x ∈ inp, 0 ≤ x ∧ x < 256
theorem w0 : W64 0 := by unfold W64; omega
theorem p2_64 : p2 64 = 18446744073709551616 := by decide
theorem bin_w (op a b : Int) : W64 (binW op 64 a b) := by
  unfold binW; split
  · rw [p2_64]; exact w64_mod _
  · exact w0
theorem un_w (op a : Int) : W64 (unW op 64 a) := by
  unfold unW; split
  · split <;> (rw [p2_64]; exact w64_mod _)
  · exact w0
theorem getD_w {l : List Int} (h : ∀ x ∈ l, W64 x) (k : Nat) : W64 (l.getD k 0) := by
  by_cases hk : k < l.length
  · exact h _ (getD_mem hk)
  · rw [List.getD_eq_getElem?_getD, List.getElem?_eq_none (by omega)]; exact w0
theorem inp_w {inp : List Int} (h : OkI inp) (m : Int) : W64 (inpS inp m) := by
  unfold inpS; split
  · by_cases hk : m.toNat < inp.length
    · have := h _ (getD_mem (d := 0) hk); unfold W64; omega
    · rw [List.getD_eq_getElem?_getD, List.getElem?_eq_none (by omega)]; exact w0
  · exact w0
theorem rd_w {D : List Int} {l : List Pn} (hd : ∀ x ∈ D, W64 x) (hl : ∀ p ∈ l, W64 p.2.1) (b : Int) : W64 (rdV D l b) := by
  unfold rdV; split
  · have h0 : W64 (D[b.toNat]?.getD 0) := by have := getD_w hd b.toNat; rwa [List.getD_eq_getElem?_getD] at this
    unfold lastW
    generalize D[b.toNat]?.getD 0 = v at h0
    revert v
    induction l with
    | nil => intro v h; exact h
    | cons p l ih =>
      intro v h
      rw [List.foldl_cons]
      refine ih (fun q hq => hl q (by simp [hq])) _ ?_
      split
      · exact hl p (by simp)
      · exact h
  · exact w0
theorem put_w {r : R8 Int} (h : ∀ j, InR8 j → W64 (r.get j)) {a x : Int} (ha : InR8 a) (hx : W64 x) : ∀ j, InR8 j → W64 ((r.put a x).get j) := by
  intro j hj; rw [r.get_put ha hj]; split
  · exact hx
  · exact h j hj
theorem wr_w {D : List Int} {l : List Pn} {e b v most : Int} (h : ∀ p ∈ l, W64 p.2.1) (hv : W64 v) : ∀ p ∈ wrL D l e b v most, W64 p.2.1 := by
  unfold wrL; split
  · exact h
  · split
    · exact h
    · intro p hp; rw [List.mem_append] at hp
      rcases hp with hp | hp
      · exact h p hp
      · rw [List.mem_singleton] at hp; subst hp; exact hv
theorem putD_w {D : List Int} {p : Pn} (hd : ∀ x ∈ D, W64 x) (hp : W64 p.2.1) : ∀ x ∈ putD D p, W64 x := by
  unfold putD; split
  · intro x hx
    rcases List.mem_or_eq_of_mem_set hx with h | h
    · exact hd x h
    · subst h; exact hp
  · exact hd
theorem puts_w {l : List Pn} : ∀ {D : List Int}, (∀ x ∈ D, W64 x) → (∀ p ∈ l, W64 p.2.1) → ∀ x ∈ putsD D l, W64 x := by
  induction l with
  | nil => intro D hd _; exact hd
  | cons p l ih => intro D hd hl; exact ih (putD_w hd (hl p (by simp))) (fun q hq => hl q (by simp [hq]))
variable {code : List Ins} {inp : List Int} {most fuel : Int}
theorem OkS.more {s : St} {N M : Nat} (h : OkS s N) (hM : N ≤ M) : OkS s M := ⟨h.rw, h.cN, h.cw, h.dN, h.dw, Nat.le_trans h.lN hM, h.lw⟩
theorem do_ok {op a b c m : Int} {s : St} {N : Nat} (h : OkS s N) (hi : OkI inp) (hm : W64 m) (ha : InR8 a) (hb : InR8 b) (hc : InR8 c) : OkS (doS inp most op a b c m s) (N + 1) := by
  have hp : ∀ x, W64 x → OkS (s.put a x).nx (N + 1) := fun x hx => ⟨put_w h.rw ha hx, h.cN, h.cw, h.dN, h.dw, by have := h.lN; show s.l.length ≤ _; omega, h.lw⟩
  have ht : ∀ x, OkS (s.trap x) (N + 1) := fun x => ⟨h.rw, h.cN, h.cw, h.dN, h.dw, by have := h.lN; show s.l.length ≤ _; omega, h.lw⟩
  have hg : ∀ p, OkS { s with pc := p } (N + 1) := fun x => ⟨h.rw, h.cN, h.cw, h.dN, h.dw, by have := h.lN; show s.l.length ≤ _; omega, h.lw⟩
  unfold doS
  have I : ∀ (c : Prop) [Decidable c] (x y : St), OkS x (N + 1) → OkS y (N + 1) → OkS (if c then x else y) (N + 1) := fun c _ x y hx hy => by split <;> assumption
  refine I _ _ _ (hp _ hm) ?_
  refine I _ _ _ (hp _ (h.rw _ hb)) ?_
  refine I _ _ _ (hp _ (bin_w _ _ _)) ?_
  refine I _ _ _ (hp _ (un_w _ _)) ?_
  refine I _ _ _ (hg _) ?_
  refine I _ _ _ (I _ _ _ (hg _) (hg _)) ?_
  refine I _ _ _ (I _ _ _ (ht _) (hp _ (getD_w h.cw _))) ?_
  refine I _ _ _ (I _ _ _ (ht _) ?_) ?_
  · refine ⟨h.rw, by show (s.C.set _ _).length ≤ _; rw [List.length_set]; exact h.cN, ?_, h.dN, h.dw, by have := h.lN; show s.l.length ≤ _; omega, h.lw⟩
    intro x hx
    rcases List.mem_or_eq_of_mem_set hx with h1 | h1
    · exact h.cw x h1
    · subst h1; exact h.rw _ hb
  refine I _ _ _ (hp _ (inp_w hi _)) ?_
  refine I _ _ _ (I _ _ _ (ht _) (hp _ (rd_w h.dw h.lw _))) ?_
  refine I _ _ _ (I _ _ _ ?_ (ht _)) ?_
  · refine ⟨h.rw, h.cN, h.cw, h.dN, h.dw, ?_, wr_w h.lw (h.rw _ hb)⟩
    have := wr_len s.D s.l s.e (s.r.get a) (s.r.get b) most
    have := h.lN
    show (wrL s.D s.l s.e (s.r.get a) (s.r.get b) most).length ≤ N + 1
    omega
  refine I _ _ _ ?_ ?_
  · exact ⟨h.rw, h.cN, h.cw, by show (putsD s.D s.l).length ≤ _; rw [putsD_len]; exact h.dN, puts_w h.dw h.lw, by show 0 ≤ _; omega, by intro p hp; exact absurd hp (by show p ∉ []; simp)⟩
  refine I _ _ _ ?_ ?_
  · exact ⟨h.rw, h.cN, h.cw, h.dN, h.dw, by have := h.lN; show s.l.length ≤ _; omega, h.lw⟩
  refine I _ _ _ ?_ (ht _)
  exact ⟨h.rw, h.cN, h.cw, h.dN, h.dw, by have := h.lN; show s.l.length ≤ _; omega, h.lw⟩
theorem step_ok {s : St} {N : Nat} (h : OkS s N) (hc : OkC code) (hi : OkI inp) : OkS (stepS code inp most s) (N + 1) := by
  unfold stepS
  split
  · have ht : OkS s.tick N := ⟨h.rw, h.cN, h.cw, h.dN, h.dw, h.lN, h.lw⟩
    split
    · rename_i hm
      obtain ⟨h0, h1, h2⟩ := hm
      have hin := chk_in h2
      exact do_ok ht hi (hc _ (getD_mem (by omega))) hin.2.2.1 hin.2.2.2.1 hin.2.2.2.2
    · exact ⟨h.rw, h.cN, h.cw, h.dN, h.dw, by have := h.lN; show s.l.length ≤ _; omega, h.lw⟩
  · exact h.more (by omega)
theorem do_steps {op a b c m : Int} {s : St} : (doS inp most op a b c m s).steps = s.steps := by
  unfold doS
  have I : ∀ (c : Prop) [Decidable c] (x y : St), x.steps = s.steps → y.steps = s.steps → (if c then x else y).steps = s.steps := fun c _ x y hx hy => by split <;> assumption
  refine I _ _ _ rfl (I _ _ _ rfl (I _ _ _ rfl (I _ _ _ rfl (I _ _ _ rfl (I _ _ _ (I _ _ _ rfl rfl) (I _ _ _ (I _ _ _ rfl rfl) (I _ _ _ (I _ _ _ rfl rfl) (I _ _ _ rfl (I _ _ _ (I _ _ _ rfl rfl) (I _ _ _ (I _ _ _ rfl rfl) (I _ _ _ rfl (I _ _ _ rfl (I _ _ _ rfl rfl)))))))))))))
theorem step_steps {s : St} (h : s.en = 0) : (stepS code inp most s).steps = IntKind.i64.wrap (s.steps + 1) := by
  unfold stepS
  rw [if_pos h]
  split
  · rw [do_steps]; rfl
  · rfl
theorem may_in {pc op a b c m : Int} (h0 : 0 ≤ pc) (h1 : pc < code.length) (hI : code.getD pc.toNat i0 = (op, a, b, c, m)) : mayS code pc ↔ checkE op a b c m 0 code.length = 0 := by
  unfold mayS; rw [hI]; exact ⟨fun h => h.2.2, fun h => ⟨h0, h1, h⟩⟩
theorem step_in {s : St} {op a b c m : Int} (he : s.en = 0) (h0 : 0 ≤ s.pc) (h1 : s.pc < code.length) (hI : code.getD s.pc.toNat i0 = (op, a, b, c, m)) (h : checkE op a b c m 0 code.length = 0) : stepS code inp most s = doS inp most op a b c m s.tick := by
  unfold stepS
  rw [if_pos he, if_pos ((may_in h0 h1 hI).2 h), hI]
theorem step_bad {s : St} {op a b c m : Int} (he : s.en = 0) (h0 : 0 ≤ s.pc) (h1 : s.pc < code.length) (hI : code.getD s.pc.toNat i0 = (op, a, b, c, m)) (h : ¬ checkE op a b c m 0 code.length = 0) : stepS code inp most s = s.tick.trap 256 := by
  unfold stepS
  rw [if_pos he, if_neg (fun q => h ((may_in h0 h1 hI).1 q))]
theorem step_out {s : St} (he : s.en = 0) (h : ¬ (0 ≤ s.pc ∧ s.pc < code.length)) : stepS code inp most s = s.tick.trap 256 := by
  unfold stepS
  rw [if_pos he, if_neg (fun q => h ⟨q.1, q.2.1⟩)]
theorem step_no {s : St} (he : ¬ s.en = 0) : stepS code inp most s = s := by unfold stepS; rw [if_neg he]
theorem do_1 {op a b c m : Int} {s : St} (h : op = 1) : doS inp most op a b c m s = (s.put a m).nx := by subst h; rfl
theorem do_2 {op a b c m : Int} {s : St} (h : op = 2) : doS inp most op a b c m s = (s.put a (s.r.get b)).nx := by subst h; rfl
theorem do_3 {op a b c m : Int} {s : St} (h : op = 3) : doS inp most op a b c m s = (s.put a (binW (IntKind.i64.wrap m) 64 (s.r.get b) (s.r.get c))).nx := by subst h; rfl
theorem do_4 {op a b c m : Int} {s : St} (h : op = 4) : doS inp most op a b c m s = (s.put a (unW (IntKind.i64.wrap m) 64 (s.r.get b))).nx := by subst h; rfl
theorem do_5 {op a b c m : Int} {s : St} (h : op = 5) : doS inp most op a b c m s = { s with pc := IntKind.i64.wrap m } := by subst h; rfl
theorem do_6 {op a b c m : Int} {s : St} (h : op = 6) : doS inp most op a b c m s = if s.r.get a = 0 then s.nx else { s with pc := IntKind.i64.wrap m } := by subst h; rfl
theorem do_7 {op a b c m : Int} {s : St} (h : op = 7) : doS inp most op a b c m s = if (s.C.length : Int) ≤ s.r.get b then s.trap 257 else (s.put a (s.C.getD (s.r.get b).toNat 0)).nx := by subst h; rfl
theorem do_8 {op a b c m : Int} {s : St} (h : op = 8) : doS inp most op a b c m s = if (s.C.length : Int) ≤ s.r.get a then s.trap 257 else { s with C := s.C.set (s.r.get a).toNat (s.r.get b) }.nx := by subst h; rfl
theorem do_9 {op a b c m : Int} {s : St} (h : op = 9) : doS inp most op a b c m s = (s.put a (inpS inp m)).nx := by subst h; rfl
theorem do_10 {op a b c m : Int} {s : St} (h : op = 10) : doS inp most op a b c m s = if (s.D.length : Int) ≤ s.r.get b then s.trap 258 else (s.put a (rdV s.D s.l (s.r.get b))).nx := by subst h; rfl
theorem do_11 {op a b c m : Int} {s : St} (h : op = 11) : doS inp most op a b c m s = if wrC s.D s.l (s.r.get a) most = 0 then { s with l := wrL s.D s.l s.e (s.r.get a) (s.r.get b) most }.nxc else s.trap (wrC s.D s.l (s.r.get a) most) := by subst h; rfl
theorem do_12 {op a b c m : Int} {s : St} (h : op = 12) : doS inp most op a b c m s = { s with D := putsD s.D s.l, l := [], e := 0 }.nxc := by subst h; rfl
theorem do_13 {op a b c m : Int} {s : St} (h : op = 13) : doS inp most op a b c m s = { s with e := bumpE s.l s.e }.nxc := by subst h; rfl
theorem do_14 {op a b c m : Int} {s : St} (h : op = 14) : doS inp most op a b c m s = { s with en := 1, val := s.r.get a } := by subst h; rfl
theorem do_15 {op a b c m : Int} {s : St} (h : op = 15) : doS inp most op a b c m s = s.trap (IntKind.i64.wrap m) := by subst h; rfl
def clsN (n : Int) : Int := if n < 0 ∨ 255 < n then 0 else n
def startS (D : List Int) (l : List Pn) (e n : Int) : St := ⟨⟨0, 0, 0, 0, 0, 0, 0, 0⟩, List.replicate (clsN n).toNat 0, 0, 0, 0, 0, 0, 0, D, l, e⟩
def celV (C : List Int) (x : Int) : Int := if (C.length : Int) ≤ x then 0 else C.getD x.toNat 0
@[go_sem] theorem sel_get {α : Type} (g : R8 α) (j : Int) : sel8 j g.a g.b g.c g.d g.e g.f g.g g.h = g.get j := rfl
theorem set_rows (C : List Int) (k : Nat) (y : Int) : ((C.map wdR).set k [PV.int .u64 y]).take C.length = (C.set k y).map wdR := by
  rw [List.take_of_length_le (by simp), List.map_set]; rfl
theorem in_none {l : List Ins} {j : Int} (h0 : 0 ≤ j) (h : ¬ (0 ≤ j ∧ j < l.length)) : (l.map inR)[j.toNat]? = none := List.getElem?_eq_none (by simp; omega)
theorem zero_rows (n : Nat) : (List.replicate n [PV.int .u64 0]).take n = (List.replicate n (0 : Int)).map wdR := by
  rw [List.take_of_length_le (by simp), List.map_replicate]; rfl
theorem rdO_no {D : List Int} {b : Int} (h : rdO D b = false) : (D.length : Int) ≤ b := by unfold rdO at h; simpa using h
theorem rdO_yes {D : List Int} {b : Int} (h : rdO D b = true) : ¬ (D.length : Int) ≤ b := by unfold rdO at h; simpa using h
@[go_sem] theorem InR8.l17 {j : Int} (h : InR8 j) : (j.toNat ≤ 17) = True := eq_true (by have := h.1; have := h.2; omega)
@[go_sem] theorem InR8.l7 {j : Int} (h : InR8 j) : (j.toNat ≤ 7) = True := eq_true (by have := h.1; have := h.2; omega)
@[go_sem] theorem in8_if {α : Type} {j : Int} (h : InR8 j) (x y : α) : (if 0 ≤ j ∧ j < 8 then x else y) = x := if_pos h
def stA (s : St) : List AV := [.pv (.int .u64 s.r.a), .pv (.int .u64 s.r.b), .pv (.int .u64 s.r.c), .pv (.int .u64 s.r.d), .pv (.int .u64 s.r.e), .pv (.int .u64 s.r.f), .pv (.int .u64 s.r.g), .pv (.int .u64 s.r.h), .pv (.lst false 1 (s.C.map wdR)), .pv (.int .i64 s.pc), .pv (.int .i64 s.steps), .pv (.int .i64 s.calls), .pv (.int .i64 s.en), .pv (.int .i64 s.code), .pv (.int .u64 s.val), .pv (.lst false 1 (s.D.map wdR)), .pv (.lst false 3 (s.l.map pnR)), .pv (.int .i64 s.e)]
def zA : List AV := [.pv (.int .u64 0), .pv (.int .u64 0), .pv (.int .u64 0), .pv (.int .u64 0), .pv (.int .u64 0), .pv (.int .u64 0), .pv (.int .u64 0), .pv (.int .u64 0), .pv (.lst true 0 []), .pv (.int .i64 0), .pv (.int .i64 0), .pv (.int .i64 0), .pv (.int .i64 0), .pv (.int .i64 0), .pv (.int .u64 0), .pv (.lst true 0 []), .pv (.lst true 0 []), .pv (.int .i64 0)]
def fewS (s : St) : Int := if 300 < s.C.length ∨ fewD s.D s.l = 0 then 0 else 1
attribute [go_sem] stA zA
attribute [go_sem] stV Nat.mul_one Nat.zero_add List.length_map
end Go.Ab.Try
