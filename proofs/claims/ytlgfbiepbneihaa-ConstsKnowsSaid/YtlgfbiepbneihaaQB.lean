/- Registers that are known: the least rows; what a run has. -/
import Derived.Test.YtlgfbiepbneihaaQA
namespace Go.Ab.Try
open Go.Proofs Go.Ab
set_option linter.unusedVariables false
set_option linter.unusedSimpArgs false
set_option linter.unnecessarySimpa false
def stF (code : List Ins) (pc : Int) (f : Fa) : Fa := stepF (code.getD pc.toNat i0).1 (code.getD pc.toNat i0).2.1 (code.getD pc.toNat i0).2.2.1 (code.getD pc.toNat i0).2.2.2.1 (code.getD pc.toNat i0).2.2.2.2 f
def ClK (code : List Ins) (X : List Fa) (pc : Int) : Prop := ∀ to ∈ nextS code pc, LeF (stF code pc (X.getD pc.toNat botF)) (X.getD to.toNat botF)
structure SolK (code : List Ins) (X : List Fa) : Prop where
  len : X.length = code.length + 1
  beg : LeF begF (X.getD 0 botF)
  cl : ∀ pc : Nat, pc < code.length → ClK code X pc
structure LowK (code : List Ins) (X : List Fa) : Prop where
  len : X.length = code.length + 1
  nf : ∀ k : Nat, NF (X.getD k botF)
  beg : LeF begF (X.getD 0 botF)
  least : ∀ Y, SolK code Y → ∀ k : Nat, LeF (X.getD k botF) (Y.getD k botF)
def begK (code : List Ins) : List Fa := begF :: List.replicate code.length botF
theorem begK_at (code : List Ins) (k : Nat) : (begK code).getD k botF = if k = 0 then begF else botF := by
  cases k with
  | zero => rfl
  | succ k => show (List.replicate code.length botF).getD k botF = _; rw [getD_rep, if_neg (by omega)]
theorem low_beg (code : List Ins) : LowK code (begK code) := by
  refine ⟨by simp [begK], fun k => ?_, LeF.refl _, fun Y hY k => ?_⟩
  · rw [begK_at]; split
    · exact beg_nf
    · exact bot_nf
  · rw [begK_at]; split
    · rename_i e; subst e; exact hY.beg
    · exact bot_le _
def updK (code : List Ins) (X : List Fa) (pc to : Int) : List Fa := X.set to.toNat (joinF (X.getD to.toNat botF) (stF code pc (X.getD pc.toNat botF)))
def rnkS (X : List Fa) : Nat := (X.map rankF).sum
theorem rnk_set {l : List Fa} {k : Nat} {x : Fa} (hk : k < l.length) : rnkS (l.set k x) + rankF (l.getD k botF) = rnkS l + rankF x := by
  induction l generalizing k with
  | nil => simp at hk
  | cons y l ih =>
    cases k with
    | zero => simp [rnkS]; omega
    | succ k =>
      have := ih (k := k) (by simpa using hk)
      simp only [rnkS, List.set_cons_succ, List.map_cons, List.sum_cons, List.getD_cons_succ] at this ⊢
      omega
section
variable {code : List Ins} {X Y : List Fa} {pc to : Int}
theorem stF_nf {f : Fa} (nf : NF f) : NF (stF code pc f) := step_nf nf
theorem upd_at (hl : X.length = code.length + 1) (ht : 0 ≤ to ∧ to ≤ code.length) (k : Nat) : (updK code X pc to).getD k botF = if to.toNat = k then joinF (X.getD to.toNat botF) (stF code pc (X.getD pc.toNat botF)) else X.getD k botF := getD_set (by omega)
theorem upd_le (hl : X.length = code.length + 1) (ht : 0 ≤ to ∧ to ≤ code.length) (k : Nat) : LeF (X.getD k botF) ((updK code X pc to).getD k botF) := by
  rw [upd_at hl ht]; split
  · rename_i e; subst e; exact le_join1
  · exact LeF.refl _
theorem low_upd (h : LowK code X) (hp : 0 ≤ pc ∧ pc < code.length) (hc : OkC code) (hN : code.length < 65536) (ht : to ∈ nextS code pc) : LowK code (updK code X pc to) := by
  have hto := next_in hc hN ht
  refine ⟨by unfold updK; rw [List.length_set]; exact h.len, fun k => ?_, h.beg.trans (upd_le h.len hto 0), fun Y hY k => ?_⟩
  · rw [upd_at h.len hto]; split
    · exact join_nf (h.nf _) (stF_nf (h.nf _))
    · exact h.nf k
  · rw [upd_at h.len hto]; split
    · rename_i e; subst e
      refine join_le (h.least Y hY _) ?_
      have h1 : LeF (stF code pc (X.getD pc.toNat botF)) (stF code pc (Y.getD pc.toNat botF)) := step_mono (h.least Y hY _)
      have h2 := hY.cl pc.toNat (by omega)
      rw [show ((pc.toNat : Nat) : Int) = pc by omega] at h2
      exact h1.trans (h2 to ht)
    · exact h.least Y hY k
theorem rnk_upd (h : LowK code X) (hto : 0 ≤ to ∧ to ≤ code.length) : (joinF (X.getD to.toNat botF) (stF code pc (X.getD pc.toNat botF)) = X.getD to.toNat botF → updK code X pc to = X) ∧
    (¬ joinF (X.getD to.toNat botF) (stF code pc (X.getD pc.toNat botF)) = X.getD to.toNat botF → rnkS (updK code X pc to) < rnkS X) := by
  have hl := h.len
  refine ⟨fun e => ?_, fun e => ?_⟩
  · unfold updK; rw [e]; exact set_same (by omega)
  · have hr := (le_join1 (a := X.getD to.toNat botF) (b := stF code pc (X.getD pc.toNat botF))).rank (h.nf _) (join_nf (h.nf _) (stF_nf (h.nf _)))
    have h2 := rnk_set (l := X) (k := to.toNat) (x := joinF (X.getD to.toNat botF) (stF code pc (X.getD pc.toNat botF))) (by omega)
    have h3 := hr.2 (fun q => e q.symm)
    unfold updK; omega
theorem le_of_join (e : joinF (X.getD to.toNat botF) (stF code pc (X.getD pc.toNat botF)) = X.getD to.toNat botF) : LeF (stF code pc (X.getD pc.toNat botF)) (X.getD to.toNat botF) := by
  have := le_join2 (a := X.getD to.toNat botF) (b := stF code pc (X.getD pc.toNat botF))
  rwa [e] at this
theorem low_solK (hX : LowK code X) (hY : LowK code Y) (sX : SolK code X) (sY : SolK code Y) : X = Y := by
  have h1 := hX.len; have h2 := hY.len
  exact list_ext (d := botF) (by omega) fun j _ => (hX.least Y sY j).anti (hX.nf j) (hY.nf j) (hY.least X sX j)
end
noncomputable def knownS (code : List Ins) : List Fa := open Classical in if h : ∃ X, LowK code X ∧ SolK code X then h.choose else []
theorem known_of {code : List Ins} {X : List Fa} (h : LowK code X) (s : SolK code X) : knownS code = X := by
  have hx : ∃ X, LowK code X ∧ SolK code X := ⟨X, h, s⟩
  unfold knownS
  rw [dif_pos hx]
  exact low_solK hx.choose_spec.1 h hx.choose_spec.2 s
theorem known_ex {code : List Ins} (hc : OkC code) (hN : code.length < 65536) : LowK code (knownS code) ∧ SolK code (knownS code) := by
  have h : ∀ n : Nat, ∀ X, LowK code X → rnkS X = n → ∃ X, LowK code X ∧ SolK code X := by
    intro n
    induction n using Nat.strongRecOn with
    | ind n ih =>
      intro X hl hn
      by_cases hf : ∀ pc : Nat, pc < code.length → ClK code X pc
      · exact ⟨X, hl, ⟨hl.len, hl.beg, hf⟩⟩
      · simp only [Classical.not_forall] at hf
        obtain ⟨pc, hp, hne⟩ := hf
        unfold ClK at hne
        simp only [Classical.not_forall] at hne
        obtain ⟨to, ht, hne⟩ := hne
        exact ih _ (by rw [← hn]; exact (rnk_upd (pc := pc) hl (next_in hc hN ht)).2 (fun e => hne (le_of_join e))) _ (low_upd hl ⟨by omega, by omega⟩ hc hN ht) rfl
  obtain ⟨X, h1, h2⟩ := h _ _ (low_beg code) rfl
  rw [known_of h1 h2]; exact ⟨h1, h2⟩
/-- What is said of registers holds of these. -/
def Snd (f : Fa) (r : R8 Int) : Prop := f.met = true ∧ ∀ j, InR8 j → f.is.get j = true → f.val.get j = r.get j
theorem snd_le {f g : Fa} {r : R8 Int} (h : LeF f g) (s : Snd f r) : Snd g r := ⟨(h s.1).1, fun j hj q => by
  have := (h s.1).2 j hj q
  rw [← this.2]; exact s.2 j hj this.1⟩
theorem snd_set {f : Fa} {r : R8 Int} {a x y : Int} {b : Bool} (ha : InR8 a) (s : Snd f r) (hb : b = true → x = y) : Snd (setF f a b x) (r.put a y) := ⟨s.1, fun j hj q => by
  rw [(set_get ha hj).1] at q
  rw [(set_get ha hj).2, r.get_put ha hj]
  by_cases e : j = a
  · rw [if_pos e] at q; rw [if_pos e, if_pos e, if_pos q]; exact hb q
  · rw [if_neg e] at q; rw [if_neg e, if_neg e]; exact s.2 j hj q⟩
theorem snd_unk {f : Fa} {r : R8 Int} {a : Int} (ha : InR8 a) (s : Snd f r) : Snd (setF f a false 0) r := ⟨s.1, fun j hj q => by
  rw [(set_get ha hj).1] at q
  rw [(set_get ha hj).2]
  by_cases e : j = a
  · rw [if_pos e] at q; cases q
  · rw [if_neg e] at q; rw [if_neg e]; exact s.2 j hj q⟩
theorem snd_step {code : List Ins} {inp : List Int} {most : Int} {s : St} {f : Fa} (he : s.en = 0) (hm : mayS code s.pc) (h : Snd f s.r) : Snd (stF code s.pc f) (stepS code inp most s).r := by
  obtain ⟨h0, h1, h2⟩ := hm
  obtain ⟨⟨op, a, b, c, m⟩, hI⟩ : ∃ i, code.getD s.pc.toNat i0 = i := ⟨_, rfl⟩
  have h2 : checkE op a b c m 0 code.length = 0 := by rw [hI] at h2; exact h2
  have hn : namS op a b c := chk_in h2
  have ha := hn.2.2.1; have hb := hn.2.2.2.1; have hc := hn.2.2.2.2
  have hrest := chk_rest h2
  rw [step_in he h0 h1 hI h2]
  unfold stF
  rw [hI]
  show Snd (stepF op a b c m f) _
  unfold stepF
  rw [if_pos ⟨h.1, hn⟩]
  unfold stepG
  have SAME : ∀ s' : St, s'.r = s.r → Snd f s'.r := fun s' e => by rw [e]; exact h
  have D1 : ∀ (p : Prop) [Decidable p] (x y : St), x.r = s.r → y.r = s.r → (if p then x else y).r = s.r := fun p _ x y hx hy => by split <;> assumption
  rcases op_cases hn.1 hn.2.1 with rfl | rfl | rfl | rfl | rfl | rfl | rfl | rfl | rfl | rfl | rfl | rfl | rfl | rfl | rfl
  · rw [do_1 rfl]; exact snd_set ha h fun _ => rfl
  · rw [do_2 rfl]; exact snd_set ha h fun q => h.2 b hb q
  · rw [do_3 rfl]
    have hmm : 1 ≤ m ∧ m ≤ 14 := by rw [rest_3] at hrest; split at hrest <;> omega
    have e1 : oprI m = m := by unfold oprI; rw [if_neg (by omega)]
    have e2 : IntKind.i64.wrap m = m := w64 (by omega) (by omega)
    refine snd_set ha h fun q => ?_
    simp only [Bool.and_eq_true] at q
    show binW (oprI m) 64 _ _ = binW (IntKind.i64.wrap m) 64 (s.r.get b) (s.r.get c)
    rw [e1, e2, h.2 b hb q.1.2, h.2 c hc q.2]
  · rw [do_4 rfl]
    have hmm : m = 15 ∨ m = 16 := by rw [rest_4] at hrest; split at hrest <;> omega
    have e1 : oprI m = m := by unfold oprI; rw [if_neg (by omega)]
    have e2 : IntKind.i64.wrap m = m := w64 (by omega) (by omega)
    refine snd_set ha h fun q => ?_
    simp only [Bool.and_eq_true] at q
    show unW (oprI m) 64 _ = unW (IntKind.i64.wrap m) 64 (s.r.get b)
    rw [e1, e2, h.2 b hb q.2]
  · rw [do_5 rfl]; exact SAME { s.tick with pc := IntKind.i64.wrap m } rfl
  · rw [do_6 rfl]; exact SAME _ (D1 _ s.tick.nx { s.tick with pc := IntKind.i64.wrap m } rfl rfl)
  · rw [do_7 rfl]
    show Snd (setF f a false 0) (if (s.tick.C.length : Int) ≤ s.tick.r.get b then s.tick.trap 257 else (s.tick.put a (s.tick.C.getD (s.tick.r.get b).toNat 0)).nx).r
    by_cases q : (s.tick.C.length : Int) ≤ s.tick.r.get b
    · rw [if_pos q]; exact snd_unk ha h
    · rw [if_neg q]; exact snd_set ha h fun q => by cases q
  · rw [do_8 rfl]; exact SAME _ (D1 _ (s.tick.trap 257) ({ s.tick with C := s.tick.C.set (s.tick.r.get a).toNat (s.tick.r.get b) }.nx) rfl rfl)
  · rw [do_9 rfl]; exact snd_set ha h fun q => by cases q
  · rw [do_10 rfl]
    show Snd (setF f a false 0) (if (s.tick.D.length : Int) ≤ s.tick.r.get b then s.tick.trap 258 else (s.tick.put a (rdV s.tick.D s.tick.l (s.tick.r.get b))).nx).r
    by_cases q : (s.tick.D.length : Int) ≤ s.tick.r.get b
    · rw [if_pos q]; exact snd_unk ha h
    · rw [if_neg q]; exact snd_set ha h fun q => by cases q
  · rw [do_11 rfl]; exact SAME _ (D1 _ ({ s.tick with l := wrL s.tick.D s.tick.l s.tick.e (s.tick.r.get a) (s.tick.r.get b) most }.nxc) (s.tick.trap _) rfl rfl)
  · rw [do_12 rfl]; exact SAME ({ s.tick with D := putsD s.tick.D s.tick.l, l := [], e := 0 }.nxc) rfl
  · rw [do_13 rfl]; exact SAME ({ s.tick with e := bumpE s.tick.l s.tick.e }.nxc) rfl
  · rw [do_14 rfl]; exact SAME { s.tick with en := 1, val := s.tick.r.get a } rfl
  · rw [do_15 rfl]; exact SAME (s.tick.trap _) rfl
end Go.Ab.Try
