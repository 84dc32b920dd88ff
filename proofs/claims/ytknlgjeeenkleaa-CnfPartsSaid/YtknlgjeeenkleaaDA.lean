/- Regions gone through one operation after another, where each guard is known; loops under a callee's names. -/
import Derived.Test.YtknlgjeeenkleaaD9
namespace Go.Ab
open Go.RowKit
set_option linter.unusedVariables false
set_option linter.unusedSimpArgs false

/-- Is an operation wanted, if that is known? -/
def wantB (ops : List Oper) (t : List AV) : Option (Nat × Bool) → Option Bool
  | none => some true
  | some (j, b) => match dstOf ops j with
    | some k => match t.getD k .any with
      | .pv (.bool v) => some (v == b)
      | _ => none
    | none => none
theorem wantB_run {z : Ini} {σ : St} {c : Cx} {a : Act} {w : World} (s : Sim z σ c a w) {ops : Array Oper} {o : Oper} {v : Bool} (h : wantB ops.toList σ.t o.guard = some v) : Region.wanted o (yielded ops a.tmps) = v := by
  cases hg : o.guard with
  | none => rw [hg] at h; simp [wantB] at h; subst h; simp [Region.wanted, hg]
  | some jb =>
    obtain ⟨j, b⟩ := jb
    rw [hg] at h
    simp only [wantB] at h
    split at h
    · rename_i k hk
      split at h
      · rename_i v' hv
        injection h with h; subst h
        have hr := evO_rep s.ts (.tmp k)
        simp only [evO] at hr
        rw [hv] at hr
        cases hr with
        | pv _ _ hr =>
          generalize hq : a.eval (.tmp k) = u at hr
          cases hr
          have hlt : k < a.tmps.size := by
            rw [← s.ts.1]
            rcases Nat.lt_or_ge k σ.t.length with h | h
            · exact h
            · rw [List.getD_eq_getElem?_getD, List.getElem?_eq_none h] at hv; cases hv
          have hk' : ops[j]?.bind (fun x => x.dst) = some k := by
            unfold dstOf at hk; simpa using hk
          have hu : a.tmps[k]? = some (.bool v') := by
            simp only [Act.eval] at hq
            rw [Array.getElem?_eq_getElem hlt]
            have : a.tmps.getD k undef = a.tmps[k] := by simp [Array.getD, hlt]
            rw [this] at hq; rw [hq]
          simp only [Region.wanted, hg, yielded, hk', Option.bind_some, hu]
          cases v' <;> cases b <;> rfl
      · cases h
    · cases h
def pickL : AV → AV → AV → Option AV
  | .pv (.bool true), a, _ => some a
  | .pv (.bool false), _, b => some b
  | _, _, _ => none
def stepL (P : Program) (σ : St) : Op → Option (AV × List (Nat × ABlk))
  | .pick c a b => match pickL (evO σ.t c) (evO σ.t a) (evO σ.t b) with | some r => some (r, []) | none => none
  | op => stepv P (evO σ.t) σ.h.length σ.h op
def nextL (P : Program) (ops : List Oper) (o : Oper) (σ : St) : Option (AV × List (Nat × ABlk)) := match wantB ops σ.t o.guard with
  | some true => stepL P σ o.op
  | some false => some (.any, [])
  | none => none
attribute [go_sem] wantB pickL stepL nextL

section
variable {P : Program} {z : Ini} {ops : Array Oper} {l : List Oper} {σ : St} {Q : Exit → St → Prop} {o : Oper}
theorem AWL.op2 {r : AV} {h' : List ABlk} (hw : wantB ops.toList σ.t o.guard = some true) (hy : ∀ c a w, Sim z σ c a w → Yields P z o a.eval c σ.h w r h') (h : AWL P z ops l ⟨putT σ.t o.dst r, h'⟩ Q) : AWL P z ops (o :: l) σ Q := fun c a w s => by
  refine wpList_step fun K hK => ?_
  rw [wantB_run s hw]
  simp only [if_true]
  exact (hy c a w s).wp fun c' v w' L M hr => hK _ _ (h c' _ w' ⟨M, (s.ts.later L).put hr o.dst, by rw [put_defers]; exact s.df⟩)
theorem AWL.skip2 (hw : wantB ops.toList σ.t o.guard = some false) (h : AWL P z ops l ⟨putT σ.t o.dst .any, σ.h⟩ Q) : AWL P z ops (o :: l) σ Q := fun c a w s => by
  refine wpList_step fun K hK => ?_
  rw [wantB_run s hw]
  simp only [Bool.false_eq_true, if_false]
  exact hK _ _ (h c _ w ⟨s.m, s.ts.put (.any _) o.dst, by rw [put_defers]; exact s.df⟩)
theorem AWL.next2 {r : AV} {d : List (Nat × ABlk)} (hs : nextL P ops.toList o σ = some (r, d)) (h : AWL P z ops l ⟨putT σ.t o.dst r, app σ.h d⟩ Q) : AWL P z ops (o :: l) σ Q := by
  unfold nextL at hs
  split at hs
  · rename_i hw
    refine .op2 hw (fun c a w s => ?_) h
    unfold stepL at hs
    split at hs
    · rename_i cc x y hop
      split at hs
      · rename_i r' hp
        injection hs with hs; simp only [Prod.mk.injEq] at hs; obtain ⟨rfl, rfl⟩ := hs
        have hc := evO_rep s.ts cc
        unfold pickL at hp
        split at hp
        · rename_i e1
          injection hp with hp; subst hp
          rw [e1] at hc
          refine .val s.m (v := a.eval x) ?_ (evO_rep s.ts x)
          have : a.eval cc = .bool true := by cases hc with | pv _ _ hr => generalize a.eval cc = u at hr; cases hr; rfl
          simp [execOp, hop, this, asBool]
        · rename_i e1
          injection hp with hp; subst hp
          rw [e1] at hc
          refine .val s.m (v := a.eval y) ?_ (evO_rep s.ts y)
          have : a.eval cc = .bool false := by cases hc with | pv _ _ hr => generalize a.eval cc = u at hr; cases hr; rfl
          simp [execOp, hop, this, asBool]
        · cases hp
      · cases hs
    · exact stepv_yields s.m (evO_rep s.ts) s.m.ext.1 (fun x _ hx => .inl (List.getElem?_eq_none hx)) hs
  · rename_i hw
    injection hs with hs; simp only [Prod.mk.injEq] at hs; obtain ⟨rfl, rfl⟩ := hs
    exact .skip2 hw h
  · cases hs

/-- As many plain operations as there are, passed-by ones with them. -/
def runG (P : Program) (ops : List Oper) : List Oper → St → List Oper × St
  | [], σ => ([], σ)
  | o :: l, σ => onS (nextL P ops o σ) (fun x => runG P ops l ⟨putT σ.t o.dst x.1, app σ.h x.2⟩) (o :: l, σ)
def runGA (P : Program) (ops : List Oper) (o : Oper) (l : List Oper) (σ : St) (x : AV × List (Nat × ABlk)) : List Oper × St := runG P ops l ⟨putT σ.t o.dst x.1, app σ.h x.2⟩
@[go_sem] theorem runG_nil (P : Program) (ops : List Oper) (σ : St) : runG P ops [] σ = ([], σ) := by exact (Eq.refl _).trans rfl
@[go_sem] theorem runG_cons (P : Program) (ops : List Oper) (o : Oper) (l : List Oper) (σ : St) : runG P ops (o :: l) σ = onS (nextL P ops o σ) (runGA P ops o l σ) (o :: l, σ) := by exact (Eq.refl _).trans rfl
@[go_sem] theorem runG_A (P : Program) (ops : List Oper) (o : Oper) (l : List Oper) (σ : St) (x : AV × List (Nat × ABlk)) : runGA P ops o l σ x = runG P ops l ⟨putT σ.t o.dst x.1, app σ.h x.2⟩ := by exact (Eq.refl _).trans rfl
theorem AWL.runG {l' : List Oper} {σ' : St} (he : Ab.runG P ops.toList l σ = (l', σ')) (h : AWL P z ops l' σ' Q) : AWL P z ops l σ Q := by
  induction l generalizing σ with
  | nil => simp only [Ab.runG] at he; injection he with h1 h2; subst h1; subst h2; exact h
  | cons o l ih =>
    simp only [Ab.runG, onS] at he
    split at he
    · rename_i x hs
      exact .next2 hs (ih he)
    · injection he with h1 h2; subst h1; subst h2; exact h
theorem AW.regL {id : Nat} {opsL : List Oper} {b : Code} {t : List AV} {h : List ABlk} (k : AWL P z opsL.toArray opsL ⟨t, h⟩ (thenK P z b Q)) : AW P z (.seq (.region id opsL.toArray false) b) ⟨t, h⟩ Q := AW.seq (AW.region (by simpa using k))
theorem AW.regL1 {id : Nat} {opsL : List Oper} {t : List AV} {h : List ABlk} (k : AWL P z opsL.toArray opsL ⟨t, h⟩ Q) : AW P z (.region id opsL.toArray false) ⟨t, h⟩ Q := AW.region (by simpa using k)
theorem AWL.fin {t t2 : List AV} {h : List ABlk} {b : Code} (hc : updT t [] = t2) (k : AW P z b ⟨t2, h⟩ Q) : AWL P z ops [] ⟨t, h⟩ (thenK P z b Q) := .nil (by subst hc; exact k)
theorem AWL.fin1 {t t2 : List AV} {h : List ABlk} (hc : updT t [] = t2) (k : Q .normal ⟨t2, h⟩) : AWL P z ops [] ⟨t, h⟩ Q := .nil (by subst hc; exact k)
variable {f : FuncId} {args : Array Operand} {tys : Array TypeId} {ps : List PV} {r : PV} {t t1 : List AV} {h : List ABlk} {x : Operand}
theorem AWL.pcall2 (hc : PC P f ps r) (hw : wantB ops.toList t o.guard = some true) (ho : o.op = .call ⟨.value (.func f), args, tys⟩) (hp : purL (args.toList.map (evO t)) = some ps) (ht : putT t o.dst (.pv r) = t1) (k : AWL P z ops l ⟨t1, h⟩ Q) : AWL P z ops (o :: l) ⟨t, h⟩ Q :=
  .op2 hw (fun c a w s => .pcall s.m (evO_rep s.ts) rfl ho hp hc) (by subst ht; exact k)
theorem AWL.pcallB2 (hc : PC P f ps r) (hr : scal r = true) (hw : wantB ops.toList t o.guard = some true) (ho : o.op = .call ⟨.value (.func f), args, tys⟩) (hp : purHL (fun _ => true) h (args.toList.map (evO t)) = some ps) (ht : putT t o.dst (.pv r) = t1) (k : AWL P z ops l ⟨t1, h⟩ Q) : AWL P z ops (o :: l) ⟨t, h⟩ Q :=
  .op2 hw (fun c a w s => .pcallB s.m (evO_rep s.ts) rfl ho hp hc hr) (by subst ht; exact k)
theorem AWL.icall2 {fn : Func} {code : Code} {rs : List ResultVar} {fi ca t' : List AV} {n m : Nat} (ho : o.op = .call ⟨.value x, args, tys⟩) (hx : evO t x = .fn (.func f) fi ca) (hw : wantB ops.toList t o.guard = some true)
    (hc : ∀ (args : Array Value) (w : World), (callFunc f args).run P w = .ok (.enter f args) w) (hf : P.funcs[f]? = some fn) (hb : fn.body = some code) (hn : fn.ntmps = n) (hr : fn.results = rs.toArray) (hm : h.length = m)
    (ht : fi ++ args.toList.map (evO t) ++ ca ++ List.replicate (n - (fi.length + args.toList.length + ca.length)) .any = t')
    (k : ∀ z' : Ini, z'.n = m → AW P z' code ⟨t', h⟩ (icK P rs h fun r h' => AWL P z ops l ⟨putT t o.dst r, h'⟩ Q)) : AWL P z ops (o :: l) ⟨t, h⟩ Q :=
  .icall n (fun c a w s => wantB_run s hw) ho hx hc hf hb hn hr ht (fun z' hz' => k z' (hz'.trans hm))
/-- A callee's end. -/
theorem icK.fin {rs : List ResultVar} {h h' : List ABlk} {K : AV → List ABlk → Prop} {av : AV} {t : List AV} (h1 : resA P ⟨t, h'⟩ rs = some av) (h2 : growH h h') (k : K av h') : AW P z .ret ⟨t, h'⟩ (icK P rs h K) := AW.ret (.ret _ av h1 h2 k)
theorem icK.fin1 {rs : List ResultVar} {h h' : List ABlk} {K : AV → List ABlk → Prop} {av : AV} {t : List AV} (h1 : resA P ⟨t, h'⟩ rs = some av) (h2 : growH h h') (k : K av h') : icK P rs h K .normal ⟨t, h'⟩ := .normal _ av h1 h2 k
theorem icK.finQ {rs : List ResultVar} {h h' : List ABlk} {K : AV → List ABlk → Prop} {av : AV} {t : List AV} (hq : Q .ret ⟨t, h'⟩ = icK P rs h K .ret ⟨t, h'⟩) (h1 : resA P ⟨t, h'⟩ rs = some av) (h2 : growH h h') (k : K av h') : AW P z .ret ⟨t, h'⟩ Q := AW.ret (by rw [hq]; exact .ret _ av h1 h2 k)
theorem icK.finQ1 {rs : List ResultVar} {h h' : List ABlk} {K : AV → List ABlk → Prop} {av : AV} {t : List AV} (hq : Q .normal ⟨t, h'⟩ = icK P rs h K .normal ⟨t, h'⟩) (h1 : resA P ⟨t, h'⟩ rs = some av) (h2 : growH h h') (k : K av h') : Q .normal ⟨t, h'⟩ := by rw [hq]; exact .normal _ av h1 h2 k
end
/-- Memory said in other words. -/
theorem Wk.subE {z : Ini} {t t' : List AV} {h h' : List ABlk} (hh : h = h') (hT : relT t t') : Wk z ⟨t, h⟩ ⟨t', h'⟩ := by subst hh; exact Wk.sub hT
attribute [go_sem] Option.some.injEq List.map_set
end Go.Ab
