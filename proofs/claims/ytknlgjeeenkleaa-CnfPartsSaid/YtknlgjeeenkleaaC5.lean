/- What going through regions is reckoned by: the rules for 'simp only [go_sem]'. -/
import Derived.Test.YtknlgjeeenkleaaC4
namespace Go.Ab
@[go_sem] theorem beq_tt (b : Bool) : (b == true) = b := by cases b <;> rfl
@[go_sem] theorem beq_ff (b : Bool) : (b == false) = !b := by cases b <;> rfl
@[go_sem] theorem tt_beq (b : Bool) : (true == b) = b := by cases b <;> rfl
@[go_sem] theorem ff_beq (b : Bool) : (false == b) = !b := by cases b <;> rfl
attribute [go_sem] dsOf stepR stillB feet gOkB evG lk memP subP pG putG dstOf ixOf cleanT purH purHL eqA eqL eqP fit fitP binP thenK blockK roundK retK ppT ppF refs refsL
attribute [go_sem] Nat.reduceSub Nat.reduceAdd Nat.reduceMul Nat.reduceLT Nat.reduceEqDiff Nat.reduceBEq List.replicate_succ List.replicate_zero Option.isSome_some Option.isSome_none Bool.true_and Bool.and_true Bool.false_and Bool.and_false Bool.true_or Bool.or_true Bool.false_or Bool.or_false Bool.not_true Bool.not_false decide_false decide_true beq_self_eq_true Array.toList_append Op.operands Call.operands List.flatMap_cons List.flatMap_nil List.toList_toArray List.reverse_cons List.reverse_nil ite_self and_self and_true true_and and_false false_and not_true_eq_false not_false_eq_true ne_eq bne_self_eq_false Bool.bne_true Bool.bne_false Bool.true_bne Bool.false_bne if_true if_false reduceCtorEq
attribute [go_sem] Nat.reduceLeDiff Nat.reduceLT Nat.reduceGT Nat.reduceBneDiff Nat.reduceBeqDiff Nat.reduceDiv Nat.reduceMod Int.reduceLE Int.reduceLT Int.reduceEq Int.reduceNe Int.reduceNeg Int.reduceToNat Int.reduceAdd Int.reduceSub Int.reduceMul Int.reduceNegSucc Int.reduceBEq Int.reducePow Int.reduceTDiv Int.reduceTMod Int.toNat_natCast Int.reduceDiv Int.reduceMod
@[go_sem] theorem cast_lit (n : Nat) : ((no_index (OfNat.ofNat n : Nat)) : Int) = OfNat.ofNat n := rfl
end Go.Ab
