/- The head of the translation, word by word; what it means for the rows. Printed by init.py out of the translation. -/
import Derived.Test.YtalgjggmhhdkkaaDoorRows
import Derived.Test.YtalgjggmhhdkkaaDoorKD
namespace Go.Ab.Tryd
open Go.Proofs Go.Proofs.YtalgjggmhhdkkaaDoor
set_option maxRecDepth 100000
def chars (l : List Nat) : List Char := l.map Char.ofNat
theorem head_is : Tryd.pinned.checked.prog.initOrder = String.ofList (chars [104, 97, 114, 110, 101, 115, 115, 32, 57, 99, 56, 97, 56, 55, 53, 53, 99, 98, 97, 57, 99, 53, 57, 52, 57, 54, 55, 53, 49, 100, 56, 102, 48, 100, 100, 55, 50, 102, 52, 54, 50, 55, 52, 98, 98, 100, 100, 50, 53, 54, 52, 54, 55, 55, 97, 49, 49, 101, 101, 54, 99, 100, 98, 100, 99, 52, 101, 51, 56, 55, 50, 50, 32, 99, 117, 116, 32, 97, 116, 32, 98, 114, 101, 97, 107, 119, 97, 116, 101, 114, 47, 98, 114, 101, 97, 107, 119, 97, 116, 101, 114, 108, 97, 119, 50, 57, 46, 86, 97, 108, 105, 100, 67, 104, 101, 99, 107, 115, 32, 98, 114, 101, 97, 107, 119, 97, 116, 101, 114, 47, 98, 114, 101, 97, 107, 119, 97, 116, 101, 114, 108, 97, 119, 50, 57, 46, 86, 97, 108, 105, 100, 76, 111, 97, 100, 115]) := by kernel_rfl
theorem words_are : wordsSigns Tryd.pinned.checked.prog.initOrder.toList = [chars [104, 97, 114, 110, 101, 115, 115], chars [57, 99, 56, 97, 56, 55, 53, 53, 99, 98, 97, 57, 99, 53, 57, 52, 57, 54, 55, 53, 49, 100, 56, 102, 48, 100, 100, 55, 50, 102, 52, 54, 50, 55, 52, 98, 98, 100, 100, 50, 53, 54, 52, 54, 55, 55, 97, 49, 49, 101, 101, 54, 99, 100, 98, 100, 99, 52, 101, 51, 56, 55, 50, 50], chars [99, 117, 116], chars [97, 116], chars [98, 114, 101, 97, 107, 119, 97, 116, 101, 114, 47, 98, 114, 101, 97, 107, 119, 97, 116, 101, 114, 108, 97, 119, 50, 57, 46, 86, 97, 108, 105, 100, 67, 104, 101, 99, 107, 115], chars [98, 114, 101, 97, 107, 119, 97, 116, 101, 114, 47, 98, 114, 101, 97, 107, 119, 97, 116, 101, 114, 108, 97, 119, 50, 57, 46, 86, 97, 108, 105, 100, 76, 111, 97, 100, 115]] := by
  rw [head_is, String.toList_ofList]; kernel_rfl
theorem behind_is : behindMainWord (wordsSigns Tryd.pinned.checked.prog.initOrder.toList) = [chars [99, 117, 116], chars [97, 116], chars [98, 114, 101, 97, 107, 119, 97, 116, 101, 114, 47, 98, 114, 101, 97, 107, 119, 97, 116, 101, 114, 108, 97, 119, 50, 57, 46, 86, 97, 108, 105, 100, 67, 104, 101, 99, 107, 115], chars [98, 114, 101, 97, 107, 119, 97, 116, 101, 114, 47, 98, 114, 101, 97, 107, 119, 97, 116, 101, 114, 108, 97, 119, 50, 57, 46, 86, 97, 108, 105, 100, 76, 111, 97, 100, 115]] := by
  rw [words_are]; kernel_rfl
theorem strip_cut (r : List (List Char)) : stripLifts liftWords (chars [99, 117, 116] :: r) = ([], chars [99, 117, 116] :: r) := by
  have e : ∀ o ∈ liftWords, (chars [99, 117, 116] == o.toList) = false := by
    intro o ho
    simp only [liftWords, List.mem_cons, List.not_mem_nil, or_false] at ho
    rcases ho with rfl | rfl | rfl | rfl | rfl | rfl | rfl | rfl | rfl | rfl | rfl | rfl | rfl | rfl | rfl <;> kernel_rfl
  have key : ∀ l : List String, (∀ o ∈ l, (chars [99, 117, 116] == o.toList) = false) → stripLifts l (chars [99, 117, 116] :: r) = ([], chars [99, 117, 116] :: r) := by
    intro l
    induction l with
    | nil => intro _; rfl
    | cons o os ih =>
      intro h
      rw [stripLifts, if_neg (by rw [h o (by simp)]; exact Bool.false_ne_true)]
      exact ih fun o' ho' => h o' (by simp [ho'])
  exact key _ e
theorem enter_of {P : Program} {r : List (List Char)} (h : behindMainWord (wordsSigns P.initOrder.toList) = chars [99, 117, 116] :: r) (h2 : P.laysLater = false) (h3 : P.bearsReflect = false) (h4 : P.doorFits [] = true) : P.mayEnter = true := by
  unfold Program.mayEnter; rw [h]
  have e1 : (chars [99, 117, 116] == "gc".toList) = false := by kernel_rfl
  have e2 : (chars [99, 117, 116] == "spec".toList) = false := by kernel_rfl
  have e4 : (chars [99, 117, 116] == "carried".toList) = false := by kernel_rfl
  have e5 : (some (chars [99, 117, 116]) == some "cut".toList) = true := by kernel_rfl
  have e6 : ∀ s : String, ([] : List String).contains s = false := fun _ => rfl
  simp only [e1, e2, e4, strip_cut, h2, h3, h4, e5, e6, List.head?_cons, Bool.or_self, Bool.false_and, Bool.and_false, Bool.or_false, Bool.false_or, Bool.not_false, Bool.and_true, Bool.true_and, Bool.or_true, Bool.and_self]
theorem lifts_of {P : Program} {r : List (List Char)} (h : behindMainWord (wordsSigns P.initOrder.toList) = chars [99, 117, 116] :: r) : P.liftsFinal = false := by
  have e4 : (some (chars [99, 117, 116]) == some "carried".toList) = false := by kernel_rfl
  have e5 : (some (chars [99, 117, 116]) == some "cut".toList) = true := by kernel_rfl
  have hl : P.headLifts = [] := by unfold Program.headLifts; rw [h, strip_cut]; simp
  unfold Program.liftsFinal; rw [h, hl]
  simp only [e4, List.head?_cons, Bool.false_and, Bool.false_or]; rfl
theorem make_of {P : Program} {r : List (List Char)} (h : behindMainWord (wordsSigns P.initOrder.toList) = chars [99, 117, 116] :: r) : P.make = some .cut := by
  unfold Program.make; rw [h]
  have e1 : (chars [99, 117, 116] == "gc".toList) = false := by kernel_rfl
  have e2 : (chars [99, 117, 116] == "spec".toList) = false := by kernel_rfl
  have e3 : (chars [99, 117, 116] == "cut".toList) = true := by kernel_rfl
  simp only [e1, e2, e3, Bool.or_self, Bool.false_eq_true, if_false, Bool.true_or, if_true]
theorem enter_is : Tryd.pinned.checked.prog.mayEnter = true := enter_of behind_is (by kernel_rfl) (by kernel_rfl) (by kernel_rfl)
theorem lifts_is : Tryd.pinned.checked.prog.liftsFinal = false := lifts_of behind_is
theorem make_is : Tryd.pinned.checked.prog.make = some .cut := make_of behind_is
theorem joined_of {p : Pinned} {f : FuncId} {fn : Func} {s : ChangeSpec} {c : OpenClaim} (h1 : p.checked.prog.mayEnter = true) (h2 : p.checked.prog.liftsFinal = false) (h3 : p.checked.prog.make = some .cut)
    (k0 : (c.wf (OpenSpec.ofChange s) && laidOutB p.checked.prog && mapsRowed p.checked.prog && fn.params.all (p.checked.prog.readableRec ·) && namedTie p.checked.prog c.named s.vars && (c.stops == []) && (p.checked.prog.stops == []) && (c.knobs == []) && (p.checked.prog.stopKnobs == []) && (c.inPlace == p.checked.prog.inPlace f) && (c.unfollowed == p.checked.prog.unfollowed f)) = true)
    (k1 : ((c.recurses == p.checked.prog.recurses f) && (c.named == p.checked.prog.varsNamed f)) = true)
    (k2 : ((c.maps == (fn.params.toList ++ s.plain.varTypes p.checked.prog).any (p.checked.prog.mapsRec ·)) && (c.ifaces == (fn.params.toList ++ s.plain.varTypes p.checked.prog).any (p.checked.prog.ifacesRec ·)) && (c.mapsOut == p.checked.prog.mapsAmong fn.resultTypes.toList) &&
      (c.loops == (fn.params.toList ++ s.plain.varTypes p.checked.prog).any (p.checked.prog.loopsFrom ·)) && (c.wideKeys == (fn.params.toList ++ s.plain.varTypes p.checked.prog ++ fn.resultTypes.toList).any (p.checked.prog.wideKeysFrom ·)) &&
      s.vars.all (p.checked.prog.varReadable ·) && fn.resultTypes.all (fun t => p.checked.prog.readableRec t && decide (t < p.checked.prog.types.size)) && (c.ifacesOut == fn.resultTypes.toList.any (p.checked.prog.ifacesRec ·)) && (c.loopsOut == fn.resultTypes.toList.any (p.checked.prog.loopsFrom ·)) && (c.plainKeys == p.checked.prog.plainKeys) && c.shortTexts.isNone && p.checked.prog.stopsHeard) = true)
    (k3 : (c.lifted == false) = true) (k4 : c.make = .cut)
    (k5 : ((c.kinds == (if c.domain.isEmpty then [] else fn.params.toList.map fun t => match p.checked.prog.underlying t with | some (.int k) => some k | _ => none)) && (c.pinned == c.pinnedBy) &&
      (c.veiled == (fn.params.toList ++ s.plain.varTypes p.checked.prog ++ fn.resultTypes.toList).any (p.checked.prog.veiledRec ·)) && c.veiledFits p.checked.prog fn.params.toList (fn.params.toList ++ s.plain.varTypes p.checked.prog ++ fn.resultTypes.toList)) = true) :
    joinedFacts p.checked.prog f fn s c = true := by
  simp only [Bool.and_eq_true] at k0 k1 k2 k5
  simp only [joinedFacts, Bool.and_eq_true, h1, h2, h3, k4]
  obtain ⟨⟨⟨⟨⟨⟨⟨⟨⟨⟨a1, a2⟩, a3⟩, a4⟩, a5⟩, a6⟩, a7⟩, a8⟩, a9⟩, a10⟩, a11⟩ := k0
  obtain ⟨b1, b2⟩ := k1
  obtain ⟨⟨⟨⟨⟨⟨⟨⟨⟨⟨⟨c1, c2⟩, c3⟩, c4⟩, c5⟩, c6⟩, c7⟩, c8⟩, c9⟩, c10⟩, c11⟩, c12⟩ := k2
  obtain ⟨⟨⟨d1, d2⟩, d3⟩, d4⟩ := k5
  exact ⟨⟨⟨⟨⟨⟨⟨⟨⟨⟨⟨⟨⟨⟨⟨⟨⟨⟨⟨⟨⟨⟨⟨⟨⟨⟨⟨⟨⟨⟨⟨a1, a2⟩, a3⟩, a4⟩, a5⟩, a6⟩, a7⟩, a8⟩, a9⟩, a10⟩, a11⟩, b1⟩, b2⟩, c1⟩, c2⟩, c3⟩, c4⟩, c5⟩, c6⟩, c7⟩, c8⟩, c9⟩, c10⟩, c11⟩, c12⟩, trivial⟩, k3⟩, by simp⟩, d1⟩, d2⟩, d3⟩, d4⟩
end Go.Ab.Tryd
