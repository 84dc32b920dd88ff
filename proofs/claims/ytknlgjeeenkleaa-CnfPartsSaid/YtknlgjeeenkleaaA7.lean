/- What plain operations reckon: numbers, truths, fields, elements, cuts. -/
import Derived.Test.YtknlgjeeenkleaaA6
namespace Go.Ab
open Go.RowKit
set_option linter.unusedVariables false
set_option linter.unusedSimpArgs false

/-! ### Reckoning -/
def iand (k : IntKind) (a b : Int) : Int := k.wrap (BitVec.ofInt k.bits a &&& BitVec.ofInt k.bits b).toNat
def ior (k : IntKind) (a b : Int) : Int := k.wrap (BitVec.ofInt k.bits a ||| BitVec.ofInt k.bits b).toNat
def ixor (k : IntKind) (a b : Int) : Int := k.wrap (BitVec.ofInt k.bits a ^^^ BitVec.ofInt k.bits b).toNat
def ishl (k : IntKind) (a b : Int) : Int := k.wrap (a * 2 ^ (min b.toNat k.bits))
def ishr (k : IntKind) (a b : Int) : Int := a.fdiv (2 ^ (min b.toNat k.bits))
/-- A text's byte. -/
def bat (s : ByteArray) (n : Nat) : Int := ((s.data.toList.getD n 0).toNat : Int)

def intB (op : BinOp) (k : IntKind) (a b : Int) : Option PV :=
  match op with
  | .add => some (.int k (k.wrap (a + b)))
  | .sub => some (.int k (k.wrap (a - b)))
  | .mul => some (.int k (k.wrap (a * b)))
  | .quo => if b = 0 then none else some (.int k (k.wrap (a.tdiv b)))
  | .rem => if b = 0 then none else some (.int k (a.tmod b))
  | .and => some (.int k (iand k a b))
  | .or => some (.int k (ior k a b))
  | .xor => some (.int k (ixor k a b))
  | .eql => some (.bool (decide (a = b)))
  | .neq => some (.bool (!decide (a = b)))
  | .lss => some (.bool (decide (a < b)))
  | .leq => some (.bool (decide (a ≤ b)))
  | .gtr => some (.bool (decide (b < a)))
  | .geq => some (.bool (decide (b ≤ a)))
  | _ => none
def binA (op : BinOp) : AV → AV → Option PV
  | .pv (.int k a), .pv (.int k' b) =>
    match op with
    | .shl => if b < 0 then none else some (.int k (ishl k a b))
    | .shr => if b < 0 then none else some (.int k (ishr k a b))
    | _ => if k = k' then intB op k a b else none
  | .pv (.str a), .pv (.str b) =>
    match op with
    | .eql => some (.bool (decide (a = b)))
    | .neq => some (.bool (!decide (a = b)))
    | .add => if a.size + b.size ≤ 9223372036854775807 then some (.str (a ++ b)) else none
    | _ => none
  | _, _ => none

theorem toList_eq_iff (a b : ByteArray) : (a.toList == b.toList) = decide (a = b) := by
  have : a.toList = b.toList ↔ a = b := by
    constructor
    · intro h
      have ha : a.data.toList = b.data.toList := by
        have e : ∀ s : ByteArray, s.toList = s.data.toList := fun s => ByteArray.toList_eq s
        rwa [e, e] at h
      cases a; cases b; simp_all
    · intro h; rw [h]
  by_cases h : a = b
  · simp [h]
  · simp [h, this]

theorem binA_run {P : Program} {op : BinOp} {T : TypeId} {X Y : Operand} {c : Cx} {h : List ABlk} {w : World} {x y : AV} {u v : Value} {p : PV} (hx : ARep c h w x u) (hy : ARep c h w y v) (hb : binA op x y = some p) :
    ∃ q, (do eqGuard op T X Y u v; binOp op T u v : Sem Value).run P w = .ok q w ∧ Rep c.ok w p q := by
  cases hx with
  | pv p1 _ r1 =>
    cases hy with
    | pv p2 _ r2 =>
      cases r1 with
      | int k a =>
        cases r2 with
        | int k' b =>
          have hg : ∀ q, (binOp op T (.int k a) (.int k' b)).run P w = .ok q w → (do eqGuard op T X Y (.int k a) (.int k' b); binOp op T (.int k a) (.int k' b) : Sem Value).run P w = .ok q w := by
            intro q hq
            cases op <;> simp [eqGuard, hq]
          by_cases hsh : op = .shl ∨ op = .shr
          · rcases hsh with rfl | rfl
            · simp only [binA] at hb
              split at hb
              · cases hb
              · rename_i hneg
                injection hb with hb; subst hb
                exact ⟨_, hg _ (by simp [binOp, Op.shift, hneg]; rfl), .int _ _⟩
            · simp only [binA] at hb
              split at hb
              · cases hb
              · rename_i hneg
                injection hb with hb; subst hb
                exact ⟨_, hg _ (by simp [binOp, Op.shift, hneg]; rfl), .int _ _⟩
          · have hb' : (if k = k' then intB op k a b else none) = some p := by
              cases op <;> simp_all [binA]
            split at hb'
            · rename_i hk; subst hk
              cases op <;> simp only [intB] at hb' <;> first
                | (injection hb' with hb'; subst hb'; exact ⟨_, hg _ (by simp [binOp, Op.intArith, Op.intBits, Op.intCmp, iand, ior, ixor]; try rfl), by constructor⟩)
                | (split at hb'
                   · cases hb'
                   · rename_i h0
                     injection hb' with hb'; subst hb'
                     exact ⟨_, hg _ (by simp [binOp, Op.intDiv, h0]; rfl), by constructor⟩)
                | cases hb'
            · cases hb'
        | _ => simp [binA] at hb
      | str a =>
        cases r2 with
        | str b =>
          have hg : ∀ q, (binOp op T (.string a) (.string b)).run P w = .ok q w → (do eqGuard op T X Y (.string a) (.string b); binOp op T (.string a) (.string b) : Sem Value).run P w = .ok q w := by
            intro q hq
            cases op <;> simp [eqGuard, hq]
          cases op <;> simp only [binA] at hb <;> first
            | (injection hb with hb; subst hb; exact ⟨_, hg _ (by simp [binOp, Op.stringOp, toList_eq_iff]; try rfl), by constructor⟩)
            | (split at hb
               · rename_i hl
                 injection hb with hb; subst hb
                 refine ⟨_, hg _ ?_, .str _⟩
                 have : ¬ (((a.size + b.size : Nat) : Int) > IntKind.i64.max) := by simp [IntKind.max, IntKind.signed, IntKind.bits]; omega
                 simp only [binOp, Op.stringOp, if_neg this]
                 rfl
               · cases hb)
            | cases hb
        | _ => simp [binA] at hb
      | _ => simp [binA] at hb
    | _ => cases p1 <;> simp [binA] at hb
  | _ => simp [binA] at hb

def unA (u : UnOp) : AV → Option PV
  | .pv (.bool b) => match u with | .not => some (.bool (!b)) | _ => none
  | .pv (.int k n) => match u with
    | .neg => some (.int k (k.wrap (0 - n)))
    | .xor => some (.int k (ixor k (if k.signed then -1 else k.max) n))
    | _ => none
  | _ => none
theorem unA_run {P : Program} {u : UnOp} {c : Cx} {h : List ABlk} {w : World} {x : AV} {v : Value} {p : PV} (hx : ARep c h w x v) (hb : unA u x = some p) :
    ∃ q, (Op.unary u v).run P w = .ok q w ∧ Rep c.ok w p q := by
  cases hx with
  | pv p1 _ r1 =>
    cases r1 with
    | bool b => cases u <;> simp [unA] at hb; subst hb; exact ⟨_, by simp [Op.unary], .bool _⟩
    | int k n => cases u <;> simp [unA] at hb <;> subst hb <;> exact ⟨_, by simp [Op.unary, Op.intArith, Op.intBits, ixor] <;> rfl, .int _ _⟩
    | _ => simp [unA] at hb
  | _ => simp [unA] at hb

def convA (P : Program) (src dst : TypeId) : AV → Option PV
  | .pv (.int _ n) => match tk P dst, P.underlying src with | .int k, some _ => some (.int k (k.wrap n)) | _, _ => none
  | .pv (.str s) => match tk P dst, P.underlying src with | .str, some _ => some (.str s) | _, _ => none
  | _ => none
theorem tk_int {P : Program} {t : TypeId} {k : IntKind} (h : tk P t = .int k) : P.underlying t = some (.int k) := by
  unfold tk at h; split at h <;> first | (injection h with h; subst h; assumption) | cases h
theorem tk_str {P : Program} {t : TypeId} (h : tk P t = .str) : P.underlying t = some .string := by
  unfold tk at h; split at h <;> first | assumption | cases h
theorem tk_bool {P : Program} {t : TypeId} (h : tk P t = .bool) : P.underlying t = some .bool := by
  unfold tk at h; split at h <;> first | assumption | cases h
theorem tk_slice {P : Program} {t : TypeId} {e s b : Nat} (h : tk P t = .slice e s b) : P.underlying t = some (.slice e) ∧ szOf P e = s ∧ byOf P e = b := by
  unfold tk at h; split at h <;> first | (injection h with h1 h2 h3; subst h1; exact ⟨by assumption, h2, h3⟩) | cases h
theorem tk_arr {P : Program} {t : TypeId} {n e s : Nat} {g : Bool} (h : tk P t = .arr n e s g) : P.underlying t = some (.array n e) ∧ szOf P e = s ∧ (agOf P e == 2) = g := by
  unfold tk at h; split at h <;> first | (injection h with h1 h2 h3 h4; subst h1; subst h2; exact ⟨by assumption, h3, h4⟩) | cases h
theorem tk_strct {P : Program} {t : TypeId} {fs : List (Nat × Nat × Nat × Bool)} (h : tk P t = .strct fs) : ∃ fs', P.underlying t = some (.struct fs') ∧ fs = fs'.toList.map fun f => (f.type, f.offset, szOf P f.type, agOf P f.type == 2) := by
  unfold tk at h; split at h <;> first | (injection h with h; exact ⟨_, by assumption, h.symm⟩) | cases h
theorem convA_run {P : Program} {src dst : TypeId} {c : Cx} {h : List ABlk} {w : World} {x : AV} {v : Value} {p : PV} (hx : ARep c h w x v) (hb : convA P src dst x = some p) :
    ∃ q, (convert src dst v).run P w = .ok q w ∧ Rep c.ok w p q := by
  cases hx with
  | pv p1 _ r1 =>
    cases r1 with
    | int k n =>
      simp only [convA] at hb
      split at hb
      · rename_i k' d h1 h2
        injection hb with hb; subst hb
        exact ⟨_, by simp [convert, run_underlying h2, run_underlying (tk_int h1), Conv.intToInt], .int _ _⟩
      · cases hb
    | str s =>
      simp only [convA] at hb
      split at hb
      · rename_i d h1 h2
        injection hb with hb; subst hb
        refine ⟨.string s, ?_, .str _⟩
        simp only [convert, Sem.run_bind, run_underlying h2, run_underlying (tk_str h1), Result.andThen_ok]
        cases d <;> rfl
      · cases hb
    | _ => simp [convA] at hb
  | _ => simp [convA] at hb
end Go.Ab
