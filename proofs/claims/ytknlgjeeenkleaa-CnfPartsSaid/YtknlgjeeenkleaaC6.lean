/- The forms in which a walk is written. -/
import Derived.Test.YtknlgjeeenkleaaC5
namespace Go.Ab
open Go.RowKit
set_option linter.unusedVariables false
set_option linter.unusedSimpArgs false

theorem Sub.of {p q : PV} (h : p = q) : Sub p q := h ▸ Sub.refl p

section
variable {P : Program} {z : Ini} {ops l l' : List Oper} {i i' id : Nat} {o : Oper} {t t1 t2 : List AV} {h h1 : List ABlk} {g1 : List (Nat × Path)} {s s' : RS} {K : RS → Prop} {Q : Exit → St → Prop} {a b : Code} {rs : List ResultVar} {r p : PV} {x : AV} {dr : Bool} {pp : Path}

/-- What a region leads to. -/
def regK (P : Program) (z : Ini) (Q : Exit → St → Prop) : RS → Prop := fun s => Q .normal ⟨cleanT s.g s.t, s.h⟩
theorem AW.reg (hd : distinctB ops = true) (k : ARN P z ops 0 ops ⟨t, [], h⟩ (regK P z Q)) : AW P z (.region id ops.toArray false) ⟨t, h⟩ Q := AW.regN hd k
theorem AW.regS (hd : distinctB ops = true) (k : ARN P z ops 0 ops ⟨t, [], h⟩ (regK P z (thenK P z b Q))) : AW P z (.seq (.region id ops.toArray false) b) ⟨t, h⟩ Q := AW.seq (AW.regN hd k)
theorem ARN.run1 (he : runN P ops i l s = (i', l', s')) (k : ARN P z ops i' l' s' K) : ARN P z ops i l s K := ARN.run (by rw [he]; exact k)
theorem ARN.run1S (he : runNS P ops i l s = (i', l', s')) (k : ARN P z ops i' l' s' K) : ARN P z ops i l s K := ARN.runS (by rw [he]; exact k)
theorem ARN.fin (hc : cleanT g1 t = t2) (k : AW P z b ⟨t2, h⟩ Q) : ARN P z ops i [] ⟨t, g1, h⟩ (regK P z (thenK P z b Q)) := ARN.nil (by subst hc; exact k)
theorem ARN.fin1 (hc : cleanT g1 t = t2) (k : Q .normal ⟨t2, h⟩) : ARN P z ops i [] ⟨t, g1, h⟩ (regK P z Q) := ARN.nil (by subst hc; exact k)
theorem AW.regR (hd : distinctB ops = true) (he : runN P ops 0 ops ⟨t, [], h⟩ = (i, [], ⟨t1, g1, h1⟩)) (hc : cleanT g1 t1 = t2) (k : AW P z b ⟨t2, h1⟩ Q) : AW P z (.seq (.region id ops.toArray false) b) ⟨t, h⟩ Q := AW.regS hd (ARN.run1 he (ARN.fin hc k))
theorem AW.regR1 (hd : distinctB ops = true) (he : runN P ops 0 ops ⟨t, [], h⟩ = (i, [], ⟨t1, g1, h1⟩)) (hc : cleanT g1 t1 = t2) (k : Q .normal ⟨t2, h1⟩) : AW P z (.region id ops.toArray false) ⟨t, h⟩ Q := AW.reg hd (ARN.run1 he (ARN.fin1 hc k))
/-- An operation whose guard does not hold. -/
theorem ARN.skip (v : AV) (hp : pG ops s.g o.guard = pp) (hg : gOkB ops i s.t o.guard = true) (hn : ¬ ppT ops s.t pp) (k : ARN P z ops (i + 1) l ⟨putT s.t o.dst v, putG s.g o.dst pp, s.h⟩ K) : ARN P z ops i (o :: l) s K :=
  ARN.op (e := ⟨v, [], pp, []⟩) ⟨hp.symm, fun _ => rfl, gOkB_spec hg, fun hh => (hn hh).elim⟩ k

/-! ### A region that draws -/
def drawOkM (ops : List Oper) (bs : List Nat) (ds : List (List Nat × List Nat)) : Bool :=
  ops.zipIdx.all fun (oj, j) =>
    oj.after.all (fun e => !Region.binds .any e || decide (e.on < j)) &&
    (match oj.guard with | none => true | some (m, _) => (bs.getD j 0).testBit m) &&
    ops.zipIdx.all fun (oi, i) => pairOk bs i j (touch oi oj (ds.getD i ([], [])).1 (ds.getD j ([], [])).2 (ds.getD j ([], [])).1)
theorem drawOk_of {bs : List Nat} {ds : List (List Nat × List Nat)} (hb : befs [] ops = bs) (h : drawOkM ops bs ds = true) : drawOk ops ds = true := by subst hb; exact h
def regKD (P : Program) (z : Ini) (ops : List Oper) (Q : Exit → St → Prop) : List PE → RS → Prop := fun es s => drawOk ops (dsOf es) = true ∧ Q .normal ⟨cleanT s.g s.t, s.h⟩
theorem AW.regDS (hm : P.follows .mixedOrders = true) (hd : distinctB ops = true) (k : ARE P z ops 0 ops ⟨t, [], h⟩ [] (regKD P z ops (thenK P z b Q))) : AW P z (.seq (.region id ops.toArray true) b) ⟨t, h⟩ Q := AW.seq (AW.regD hm hd k)
theorem AW.regD1 (hm : P.follows .mixedOrders = true) (hd : distinctB ops = true) (k : ARE P z ops 0 ops ⟨t, [], h⟩ [] (regKD P z ops Q)) : AW P z (.region id ops.toArray true) ⟨t, h⟩ Q := AW.regD hm hd k
theorem ARE.run1 {es es' : List PE} {K : List PE → RS → Prop} (he : runD P ops i l s es = (i', l', s', es')) (k : ARE P z ops i' l' s' es' K) : ARE P z ops i l s es K := ARE.run (by rw [he]; exact k)
theorem ARE.run1S {es es' : List PE} {K : List PE → RS → Prop} (he : runDS P ops i l s es = (i', l', s', es')) (k : ARE P z ops i' l' s' es' K) : ARE P z ops i l s es K := ARE.runS (by rw [he]; exact k)
theorem ARE.fin {es : List PE} (bs : List Nat) (ds : List (List Nat × List Nat)) (hb : befs [] ops = bs) (hds : dsOf es.reverse = ds) (hm : drawOkM ops bs ds = true) (hc : cleanT g1 t = t2) (k : AW P z b ⟨t2, h⟩ Q) : ARE P z ops i [] ⟨t, g1, h⟩ es (regKD P z ops (thenK P z b Q)) := ARE.nil ⟨by rw [hds]; exact drawOk_of hb hm, by subst hc; exact k⟩
theorem ARE.fin1 {es : List PE} (bs : List Nat) (ds : List (List Nat × List Nat)) (hb : befs [] ops = bs) (hds : dsOf es.reverse = ds) (hm : drawOkM ops bs ds = true) (hc : cleanT g1 t = t2) (k : Q .normal ⟨t2, h⟩) : ARE P z ops i [] ⟨t, g1, h⟩ es (regKD P z ops Q) := ARE.nil ⟨by rw [hds]; exact drawOk_of hb hm, by subst hc; exact k⟩
theorem ARE.skip {es : List PE} {K : List PE → RS → Prop} (v : AV) (hp : pG ops s.g o.guard = pp) (hg : gOkB ops i s.t o.guard = true) (hn : ¬ ppT ops s.t pp) (k : ARE P z ops (i + 1) l ⟨putT s.t o.dst v, putG s.g o.dst pp, s.h⟩ (⟨v, [], pp, []⟩ :: es) K) : ARE P z ops i (o :: l) s es K :=
  ARE.op (e := ⟨v, [], pp, []⟩) ⟨hp.symm, fun _ => rfl, gOkB_spec hg, fun hh => (hn hh).elim⟩ k

theorem PC.start {f : FuncId} {fn : Func} {ps : List PV} {code : Code} (n : Nat) (hc : ∀ (args : Array Value) (w : World), (callFunc f args).run P w = .ok (.enter f args) w)
    (hf : P.funcs[f]? = some fn) (hb : fn.body = some code) (hn : fn.ntmps = n) (hr : fn.results = rs.toArray) (ht : ps.map .pv ++ List.replicate (n - ps.length) .any = t)
    (k : ∀ z : Ini, z.n = 0 → AW P z code ⟨t, []⟩ (retK P rs r)) : PC P f ps r := PC.body n hc hf hb hn (by rw [ht, hr]; exact k)

theorem PC.arg {f : FuncId} {ps qs : List PV} (h : PC P f qs r) (hs : SubL ps qs) : PC P f ps r := ⟨h.call, fun ok w vs h1 h2 => h.spec ok w vs h1 (by
  obtain ⟨l1, l2⟩ := SubL_get hs
  refine ⟨l1.symm.trans h2.1, fun k q v hk hv => ?_⟩
  obtain ⟨p, hp, hsub⟩ := l2 k q hk
  exact hsub _ _ _ (h2.2 k p v hp hv))⟩

/-! ### Branches that are known, rounds -/
theorem AW.condT {p q : Code} {y : Operand} (hx : evO t y = .pv (.bool true)) (k : AW P z p ⟨t, h⟩ Q) : AW P z (.cond y p q) ⟨t, h⟩ Q := AW.cond (b := true) hx (fun _ => k) (fun h => by cases h)
theorem AW.condF {p q : Code} {y : Operand} (hx : evO t y = .pv (.bool false)) (k : AW P z q ⟨t, h⟩ Q) : AW P z (.cond y p q) ⟨t, h⟩ Q := AW.cond (b := false) hx (fun h => by cases h) (fun _ => k)
theorem ARounds.mk {n : Nat} {σ : St} (k : AW P z b σ (roundK (ARounds P z b Q n) Q)) : ARounds P z b Q (n + 1) σ := k

/-! ### Ends -/
theorem retK.fin (hq : Q .ret ⟨t, h⟩ = retK P rs r .ret ⟨t, h⟩) (h1 : resA P ⟨t, h⟩ rs = some x) (h2 : purH (fun _ => true) h x = some p) (h3 : Sub p r) : AW P z .ret ⟨t, h⟩ Q := AW.ret (by rw [hq]; exact ⟨x, p, h1, h2, h3⟩)
theorem AW.skipS (k : AW P z b ⟨t, h⟩ Q) : AW P z .skip ⟨t, h⟩ (thenK P z b Q) := AW.skip k
end
end Go.Ab
