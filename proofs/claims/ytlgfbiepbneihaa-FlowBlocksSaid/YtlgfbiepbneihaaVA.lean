/- Machines: registers, states, a step, a run. -/
import Derived.Test.YtlgfbiepbneihaaDL
import Derived.Test.YtlgfbiepbneihaaIL
import Derived.Test.YtlgfbiepbneihaaKE
import Derived.Test.YtlgfbiepbneihaaWN
namespace Go.Ab.Try
open Go.Proofs Go.Ab
set_option linter.unusedVariables false
set_option linter.unusedSimpArgs false
set_option linter.unnecessarySimpa false
instance (j : Int) : Decidable (InR8 j) := by unfold InR8; infer_instance
structure R8 (α : Type) where
  a : α
  b : α
  c : α
  d : α
  e : α
  f : α
  g : α
  h : α
deriving DecidableEq
def R8.get {α : Type} (g : R8 α) (j : Int) : α := sel8 j g.a g.b g.c g.d g.e g.f g.g g.h
def R8.put {α : Type} (g : R8 α) (j : Int) (y : α) : R8 α := ⟨upd8 0 j g.a y, upd8 1 j g.b y, upd8 2 j g.c y, upd8 3 j g.d y, upd8 4 j g.e y, upd8 5 j g.f y, upd8 6 j g.g y, upd8 7 j g.h y⟩
theorem R8.get_put {α : Type} (g : R8 α) {j k : Int} (hj : InR8 j) (hk : InR8 k) (y : α) : (g.put j y).get k = if k = j then y else g.get k := by
  rcases hj.cases with rfl | rfl | rfl | rfl | rfl | rfl | rfl | rfl <;> rcases hk.cases with rfl | rfl | rfl | rfl | rfl | rfl | rfl | rfl <;> rfl
theorem R8.ext_get {α : Type} {g g' : R8 α} (h : ∀ j, InR8 j → g.get j = g'.get j) : g = g' := by
  have h0 := h 0 (by decide); have h1 := h 1 (by decide); have h2 := h 2 (by decide); have h3 := h 3 (by decide)
  have h4 := h 4 (by decide); have h5 := h 5 (by decide); have h6 := h 6 (by decide); have h7 := h 7 (by decide)
  cases g; cases g'
  simp only [R8.get, sel8] at h0 h1 h2 h3 h4 h5 h6 h7
  simp at h0 h1 h2 h3 h4 h5 h6 h7
  simp [h0, h1, h2, h3, h4, h5, h6, h7]
/-- An instruction: what it does, three registers, a number. -/
abbrev Ins := Int × Int × Int × Int × Int
def inR (i : Ins) : List PV := [.int .i64 i.1, .int .i64 i.2.1, .int .i64 i.2.2.1, .int .i64 i.2.2.2.1, .int .u64 i.2.2.2.2]
def i0 : Ins := (0, 0, 0, 0, 0)
theorem in_at {l : List Ins} {j : Int} (h : 0 ≤ j ∧ j < l.length) : (l.map inR)[j.toNat]? = some [.int .i64 (l.getD j.toNat i0).1, .int .i64 (l.getD j.toNat i0).2.1, .int .i64 (l.getD j.toNat i0).2.2.1, .int .i64 (l.getD j.toNat i0).2.2.2.1, .int .u64 (l.getD j.toNat i0).2.2.2.2] := by
  have : j.toNat < l.length := by omega
  simp [this, inR]
def byR (x : Int) : List PV := [.int .u8 x]
theorem by_at {D : List Int} {j : Int} (h : 0 ≤ j ∧ j < D.length) : (D.map byR)[j.toNat]? = some [.int .u8 (D.getD j.toNat 0)] := by
  have : j.toNat < D.length := by omega
  simp [this, byR]
structure St where
  r : R8 Int
  C : List Int
  pc : Int
  steps : Int
  calls : Int
  en : Int
  code : Int
  val : Int
  D : List Int
  l : List Pn
  e : Int
def stV (s : St) : PV := .agg [.int .u64 s.r.a, .int .u64 s.r.b, .int .u64 s.r.c, .int .u64 s.r.d, .int .u64 s.r.e, .int .u64 s.r.f, .int .u64 s.r.g, .int .u64 s.r.h, .lst false 1 (s.C.map wdR), .int .i64 s.pc, .int .i64 s.steps, .int .i64 s.calls, .int .i64 s.en, .int .i64 s.code, .int .u64 s.val, .lst false 1 (s.D.map wdR), .lst false 3 (s.l.map pnR), .int .i64 s.e]
def St.trap (s : St) (c : Int) : St := { s with en := 2, code := c }
def St.nx (s : St) : St := { s with pc := IntKind.i64.wrap (s.pc + 1) }
def St.put (s : St) (a x : Int) : St := { s with r := s.r.put a x }
def St.nxc (s : St) : St := { s with pc := IntKind.i64.wrap (s.pc + 1), calls := IntKind.i64.wrap (s.calls + 1) }
def inpS (inp : List Int) (m : Int) : Int := if m < (inp.length : Int) then inp.getD m.toNat 0 else 0
/-- What an instruction does that may be. -/
def doS (inp : List Int) (most op a b c m : Int) (s : St) : St :=
  if op = 1 then (s.put a m).nx
  else if op = 2 then (s.put a (s.r.get b)).nx
  else if op = 3 then (s.put a (binW (IntKind.i64.wrap m) 64 (s.r.get b) (s.r.get c))).nx
  else if op = 4 then (s.put a (unW (IntKind.i64.wrap m) 64 (s.r.get b))).nx
  else if op = 5 then { s with pc := IntKind.i64.wrap m }
  else if op = 6 then (if s.r.get a = 0 then s.nx else { s with pc := IntKind.i64.wrap m })
  else if op = 7 then (if (s.C.length : Int) ≤ s.r.get b then s.trap 257 else (s.put a (s.C.getD (s.r.get b).toNat 0)).nx)
  else if op = 8 then (if (s.C.length : Int) ≤ s.r.get a then s.trap 257 else { s with C := s.C.set (s.r.get a).toNat (s.r.get b) }.nx)
  else if op = 9 then (s.put a (inpS inp m)).nx
  else if op = 10 then (if (s.D.length : Int) ≤ s.r.get b then s.trap 258 else (s.put a (rdV s.D s.l (s.r.get b))).nx)
  else if op = 11 then (if wrC s.D s.l (s.r.get a) most = 0 then { s with l := wrL s.D s.l s.e (s.r.get a) (s.r.get b) most }.nxc else s.trap (wrC s.D s.l (s.r.get a) most))
  else if op = 12 then { s with D := putsD s.D s.l, l := [], e := 0 }.nxc
  else if op = 13 then { s with e := bumpE s.l s.e }.nxc
  else if op = 14 then { s with en := 1, val := s.r.get a }
  else s.trap (IntKind.i64.wrap m)
def mayS (code : List Ins) (pc : Int) : Prop := 0 ≤ pc ∧ pc < code.length ∧ checkE (code.getD pc.toNat i0).1 (code.getD pc.toNat i0).2.1 (code.getD pc.toNat i0).2.2.1 (code.getD pc.toNat i0).2.2.2.1 (code.getD pc.toNat i0).2.2.2.2 0 code.length = 0
instance (code : List Ins) (pc : Int) : Decidable (mayS code pc) := by unfold mayS; infer_instance
def St.tick (s : St) : St := { s with steps := IntKind.i64.wrap (s.steps + 1) }
def stepS (code : List Ins) (inp : List Int) (most : Int) (s : St) : St :=
  if s.en = 0 then
    if mayS code s.pc then doS inp most (code.getD s.pc.toNat i0).1 (code.getD s.pc.toNat i0).2.1 (code.getD s.pc.toNat i0).2.2.1 (code.getD s.pc.toNat i0).2.2.2.1 (code.getD s.pc.toNat i0).2.2.2.2 s.tick
    else s.tick.trap 256
  else s
def runN (f : St → St) : Nat → St → St
  | 0, s => s
  | n + 1, s => if s.en = 0 then runN f n (f s) else s
def goS (code : List Ins) (inp : List Int) (most fuel : Int) (s : St) : St := runN (stepS code inp most) (fuel - s.steps).toNat s
def runS (code : List Ins) (inp : List Int) (fuel most : Int) (s : St) : St := if (goS code inp most fuel s).en = 0 then { goS code inp most fuel s with en := 3 } else goS code inp most fuel s
theorem hasA {op a b c m : Int} (h : fieldsE op a b c m = 0) : 1 ≤ op ∧ op ≤ 15 ∧ InR8 a ∧ InR8 b ∧ InR8 c := by
  unfold fieldsE at h
  split at h
  · omega
  · split at h
    · omega
    · split at h
      · omega
      · rename_i h1 h2 h3
        refine ⟨by omega, by omega, ?_, ?_, ?_⟩
        · unfold InR8; cases e : hasB (shapeS op) 65 <;> simp [e] at h2 h3 <;> omega
        · unfold InR8; cases e : hasB (shapeS op) 66 <;> simp [e] at h2 h3 <;> omega
        · unfold InR8; cases e : hasB (shapeS op) 67 <;> simp [e] at h2 h3 <;> omega
theorem chk_fields {op a b c m r n : Int} (h : checkE op a b c m r n = 0) : fieldsE op a b c m = 0 := by
  unfold checkE at h; split at h
  · assumption
  · contradiction
theorem chk_rest {op a b c m r n : Int} (h : checkE op a b c m r n = 0) : restE op m r n = 0 := by
  unfold checkE at h; split at h
  · assumption
  · contradiction
theorem chk_in {op a b c m r n : Int} (h : checkE op a b c m r n = 0) : 1 ≤ op ∧ op ≤ 15 ∧ InR8 a ∧ InR8 b ∧ InR8 c := hasA (chk_fields h)
theorem chk_jump {op a b c m r n : Int} (h : checkE op a b c m r n = 0) (ho : op = 5 ∨ op = 6) (hn : 0 ≤ n) (hN : n < 65536) : m < n := by
  have := chk_rest h
  unfold restE at this
  rw [if_neg (by omega), if_neg (by omega), if_pos ho] at this
  split at this
  · omega
  · rename_i h1; rw [wU (by omega) (by omega)] at h1; omega
end Go.Ab.Try
