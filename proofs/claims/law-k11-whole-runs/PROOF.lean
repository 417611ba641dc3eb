import PyProof.Rows.All
import Wide.All
import OpenK.AllK
import Wide.FinOn
import HandS.AnyAll
import HandS.GenOver
import PyProof.EqAt
import PyProof.EqKinds
import PyProof.TupleCall
import HandS.SetBool
import HandS.More
import KE.GoesComp
import KE.GoesRaise
import HandS.Exc
import HandS.ExcOwn
import HandS.Comp
import KE.KExcSuper
import KE.KSuper
import HandS.ForSpec
import HandS.Zip0
import HandS.Dict
import KE.KDictZip
import KE.GoesMore
import HandS.ForExc
import HandS.DictComp
import HandS.ForMost
import HandS.IsInst
import HandS.TupAny
import KE.KStateDown
import HandS.Head0
import HandS.Head1
import HandS.Head2
import HandS.HeadEnd
import HandS.HeadHook1
import HandS.HeadHook2
import HandS.HeadHook3
import HandS.HeadHook4
import HandS.HeadWalk
import HandS.Text
import PySem.Challenge.RW_carryclaim_k11_whole_runs
set_option Elab.async false
set_option linter.all false
set_option hygiene false
local macro_rules | `(tactic| walk_at "a0") => `(tactic| (repeat (first | refine ixT (by first | assumption | exact SqT.of upd_same | exact Chg.sqT (Chg.new (L := []) (by assumption)) (by assumption) | exact Chg.sqT (Chg.new (L := []) (by assumption)) (Chg.sqT (Chg.new (L := []) (by assumption)) (by assumption)) | exact Chg.sqT (by assumption) (by assumption) | exact Chg.sqT (Chg.thenNew (by assumption) (by assumption)) (by assumption)) rfl ?_ | refine ixL (by assumption) rfl ?_ | refine in_seq2 (by first | assumption | exact SqT.of upd_same | exact Chg.sqT (Chg.new (L := []) (by assumption)) (by assumption) | exact Chg.sqT (Chg.new (L := []) (by assumption)) (Chg.sqT (Chg.new (L := []) (by assumption)) (by assumption)) | exact Chg.sqT (by assumption) (by assumption) | exact Chg.sqT (Chg.thenNew (by assumption) (by assumption)) (by assumption)) rfl rfl ?_ | refine ⟨by decide, fun pp hpp => ?_⟩ | refine ⟨rfl, ?_⟩ | rw [if_neg (by decide)] | rw [if_pos (by decide)] | rw [if_pos rfl] | simp only [tSeq, tIfS, tTest, tOp, tUn, tVar, tC, tRet, tRetN, tNext, tDrop, tAsg, gName, gSub, gTup, gCons, gNil, tIsN, tNotN, tB, tAnd, tOr, tNot, tAndV, tOrV, tNotV, tIf, tNil, tCons, tTup, tLst, tCall, tCB, tChain, tMake, tBM, tBM0, tSl, tPart, tNoPart, wipe, tFor_eq, tLc_eq, tDc_eq, tScT_eq, iTup, iList, iRng1, iRng2, iRng3, iStr, tYes, tM1, rI, rI0, rU, rEq, rNe, rAdd, rSub, cxK, cxKn, cxw, cxwn, rAppend, rExtend, rPop, rSetL, sc_ss, sc_ii, sc_bb, L2.start, List.map_cons, List.map_nil, List.length_cons, List.length_nil, List.replicate, List.append_nil, List.cons_append, List.nil_append, List.getElem?_cons_zero, List.getElem?_cons_succ, List.set_cons_zero, List.set_cons_succ, Option.some.injEq, exists_eq_left', exists_eq_left, exists_and_left, exists_and_right, V.int.injEq, V.str.injEq, V.bl.injEq, V.ref.injEq, decide_eq_true_eq, true_and, and_true, and_assoc, List.cons.injEq, and_self, Nat.reduceAdd, Nat.reduceSub, Nat.sub_self, eq_self, reduceCtorEq, decide_true, decide_false, Bool.false_eq_true, Bool.true_eq_false, if_true, if_false, Bool.not_eq_true, ite_true, ite_false, exists_const, exists_eq, exists_eq', Bool.not_true, Bool.not_false, and_false, false_and, or_false, false_or])))
local macro_rules | `(tactic| walk_at "a1") => `(tactic| (repeat (first | refine ixT (by first | assumption | exact SqT.of upd_same | exact Chg.sqT (Chg.new (L := []) (by assumption)) (by assumption) | exact Chg.sqT (Chg.new (L := []) (by assumption)) (Chg.sqT (Chg.new (L := []) (by assumption)) (by assumption)) | exact Chg.sqT (by assumption) (by assumption) | exact Chg.sqT (Chg.thenNew (by assumption) (by assumption)) (by assumption)) rfl ?_ | refine ixL (by assumption) rfl ?_ | refine in_seq2 (by first | assumption | exact SqT.of upd_same | exact Chg.sqT (Chg.new (L := []) (by assumption)) (by assumption) | exact Chg.sqT (Chg.new (L := []) (by assumption)) (Chg.sqT (Chg.new (L := []) (by assumption)) (by assumption)) | exact Chg.sqT (by assumption) (by assumption) | exact Chg.sqT (Chg.thenNew (by assumption) (by assumption)) (by assumption)) rfl rfl ?_ | refine ⟨by decide, fun pp hpp => ?_⟩ | refine ⟨rfl, ?_⟩ | rw [if_neg (by decide)] | rw [if_pos (by decide)] | rw [if_pos rfl] | simp only [tSeq, tIfS, tTest, tOp, tUn, tVar, tC, tRet, tRetN, tNext, tDrop, tAsg, gName, gSub, gTup, gCons, gNil, tIsN, tNotN, tB, tAnd, tOr, tNot, tAndV, tOrV, tNotV, tIf, tNil, tCons, tTup, tLst, tCall, tCB, tChain, tMake, tBM, tBM0, tSl, tPart, tNoPart, wipe, tFor_eq, tLc_eq, tDc_eq, tScT_eq, iTup, iList, iRng1, iRng2, iRng3, iStr, tYes, tM1, rI, rI0, rU, rEq, rNe, rAdd, rSub, cxK, cxKn, cxw, cxwn, rAppend, rExtend, rPop, rSetL, sc_ss, sc_ii, sc_bb, L2.start, List.map_cons, List.map_nil, List.length_cons, List.length_nil, List.replicate, List.append_nil, List.cons_append, List.nil_append, List.getElem?_cons_zero, List.getElem?_cons_succ, List.set_cons_zero, List.set_cons_succ, Option.some.injEq, exists_eq_left', exists_eq_left, exists_and_left, exists_and_right, V.int.injEq, V.str.injEq, V.bl.injEq, V.ref.injEq, decide_eq_true_eq, true_and, and_true, and_assoc, List.cons.injEq, and_self, Nat.reduceAdd, Nat.reduceSub, Nat.sub_self, eq_self, reduceCtorEq, decide_true, decide_false, Bool.false_eq_true, Bool.true_eq_false, if_true, if_false, Bool.not_eq_true, ite_true, ite_false, exists_const, exists_eq, exists_eq', Bool.not_true, inV2, Bool.or_eq_true, Bool.not_false, and_false, false_and, or_false, false_or])))
local macro_rules | `(tactic| walk_at "w2") => `(tactic| (simp only [tSeq, tIfS, tTest, tOp, tUn, tVar, tC, tRet, tRetN, tNext, tDrop, tAsg, gName, gSub, gTup, gCons, gNil, tIsN, tNotN, tB, tAnd, tOr, tNot, tAndV, tOrV, tNotV, tIf, tNil, tCons, tTup, tLst, tCall, tCB, tChain, tMake, tBM, tBM0, tSl, tPart, tNoPart, wipe, tFor_eq, tLc_eq, tDc_eq, tScT_eq, iTup, iList, iRng1, iRng2, iRng3, iStr, tYes, tM1, rI, rI0, rU, rEq, rNe, rAdd, rSub, cxK, cxKn, cxw, cxwn, rAppend, rExtend, rPop, rSetL, sc_ss, sc_ii, sc_bb, L2.start, List.map_cons, List.map_nil, List.length_cons, List.length_nil, List.replicate, List.append_nil, List.cons_append, List.nil_append, List.getElem?_cons_zero, List.getElem?_cons_succ, List.set_cons_zero, List.set_cons_succ, Option.some.injEq, exists_eq_left', exists_eq_left, exists_and_left, exists_and_right, V.int.injEq, V.str.injEq, V.bl.injEq, V.ref.injEq, decide_eq_true_eq, true_and, and_true, and_assoc, List.cons.injEq, and_self, Nat.reduceAdd, Nat.reduceSub, Nat.sub_self, eq_self, reduceCtorEq, decide_true, decide_false, Bool.false_eq_true, Bool.true_eq_false, if_true, if_false, Bool.not_eq_true, ite_true, ite_false, exists_const, exists_eq, exists_eq', Bool.not_true, Bool.not_false, and_false, false_and, or_false, false_or]))
local macro_rules | `(tactic| walk_at "a3") => `(tactic| (repeat (first | refine ixT (by first | assumption | exact SqT.of upd_same | exact Chg.sqT (Chg.new (L := []) (by assumption)) (by assumption) | exact Chg.sqT (Chg.new (L := []) (by assumption)) (Chg.sqT (Chg.new (L := []) (by assumption)) (by assumption)) | exact Chg.sqT (by assumption) (by assumption) | exact Chg.sqT (Chg.thenNew (by assumption) (by assumption)) (by assumption)) rfl ?_ | refine ixL (by assumption) rfl ?_ | refine in_seq2 (by first | assumption | exact SqT.of upd_same | exact Chg.sqT (Chg.new (L := []) (by assumption)) (by assumption) | exact Chg.sqT (Chg.new (L := []) (by assumption)) (Chg.sqT (Chg.new (L := []) (by assumption)) (by assumption)) | exact Chg.sqT (by assumption) (by assumption) | exact Chg.sqT (Chg.thenNew (by assumption) (by assumption)) (by assumption)) rfl rfl ?_ | refine ⟨by decide, fun pp hpp => ?_⟩ | refine ⟨rfl, ?_⟩ | rw [if_neg (by decide)] | rw [if_pos (by decide)] | rw [if_pos rfl] | simp only [optV, tSeq, tIfS, tTest, tOp, tUn, tVar, tC, tRet, tRetN, tNext, tDrop, tAsg, gName, gSub, gTup, gCons, gNil, tIsN, tNotN, tB, tAnd, tOr, tNot, tAndV, tOrV, tNotV, tIf, tNil, tCons, tTup, tLst, tCall, tCB, tChain, tMake, tBM, tBM0, tSl, tPart, tNoPart, wipe, tFor_eq, tLc_eq, tDc_eq, tScT_eq, iTup, iList, iRng1, iRng2, iRng3, iStr, tYes, tM1, rI, rI0, rU, rEq, rNe, rAdd, rSub, cxK, cxKn, cxw, cxwn, rAppend, rExtend, rPop, rSetL, sc_ss, sc_ii, sc_bb, L2.start, List.map_cons, List.map_nil, List.length_cons, List.length_nil, List.replicate, List.append_nil, List.cons_append, List.nil_append, List.getElem?_cons_zero, List.getElem?_cons_succ, List.set_cons_zero, List.set_cons_succ, Option.some.injEq, exists_eq_left', exists_eq_left, exists_and_left, exists_and_right, V.int.injEq, V.str.injEq, V.bl.injEq, V.ref.injEq, decide_eq_true_eq, true_and, and_true, and_assoc, List.cons.injEq, and_self, Nat.reduceAdd, Nat.reduceSub, Nat.sub_self, eq_self, reduceCtorEq, decide_true, decide_false, Bool.false_eq_true, Bool.true_eq_false, if_true, if_false, Bool.not_eq_true, ite_true, ite_false, exists_const, exists_eq, exists_eq', Bool.not_true, Bool.not_false, and_false, false_and, or_false, false_or])))
local macro_rules | `(tactic| walk_at "w4") => `(tactic| (simp only [optV, rIn, tSeq, tIfS, tTest, tOp, tUn, tVar, tC, tRet, tRetN, tNext, tDrop, tAsg, gName, gSub, gTup, gCons, gNil, tIsN, tNotN, tB, tAnd, tOr, tNot, tAndV, tOrV, tNotV, tIf, tNil, tCons, tTup, tLst, tCall, tCB, tChain, tMake, tBM, tBM0, tSl, tPart, tNoPart, wipe, tFor_eq, tLc_eq, tDc_eq, tScT_eq, iTup, iList, iRng1, iRng2, iRng3, iStr, tYes, tM1, rI, rI0, rU, rEq, rNe, rAdd, rSub, cxK, cxKn, cxw, cxwn, rAppend, rExtend, rPop, rSetL, sc_ss, sc_ii, sc_bb, L2.start, List.map_cons, List.map_nil, List.length_cons, List.length_nil, List.replicate, List.append_nil, List.cons_append, List.nil_append, List.getElem?_cons_zero, List.getElem?_cons_succ, List.set_cons_zero, List.set_cons_succ, Option.some.injEq, exists_eq_left', exists_eq_left, exists_and_left, exists_and_right, V.int.injEq, V.str.injEq, V.bl.injEq, V.ref.injEq, decide_eq_true_eq, true_and, and_true, and_assoc, List.cons.injEq, and_self, Nat.reduceAdd, Nat.reduceSub, Nat.sub_self, eq_self, reduceCtorEq, decide_true, decide_false, Bool.false_eq_true, Bool.true_eq_false, if_true, if_false, Bool.not_eq_true, ite_true, ite_false, exists_const, exists_eq, exists_eq', Bool.not_true, Bool.not_false, and_false, false_and, or_false, false_or]))
local macro_rules | `(tactic| walk_at "a5") => `(tactic| (repeat (first | refine ixT (by first | assumption | exact SqT.of upd_same | exact Chg.sqT (Chg.new (L := []) (by assumption)) (by assumption) | exact Chg.sqT (Chg.new (L := []) (by assumption)) (Chg.sqT (Chg.new (L := []) (by assumption)) (by assumption)) | exact Chg.sqT (by assumption) (by assumption) | exact Chg.sqT (Chg.thenNew (by assumption) (by assumption)) (by assumption)) rfl ?_ | refine ixL (by assumption) rfl ?_ | refine in_seq2 (by first | assumption | exact SqT.of upd_same | exact Chg.sqT (Chg.new (L := []) (by assumption)) (by assumption) | exact Chg.sqT (Chg.new (L := []) (by assumption)) (Chg.sqT (Chg.new (L := []) (by assumption)) (by assumption)) | exact Chg.sqT (by assumption) (by assumption) | exact Chg.sqT (Chg.thenNew (by assumption) (by assumption)) (by assumption)) rfl rfl ?_ | refine ⟨by decide, fun pp hpp => ?_⟩ | refine ⟨rfl, ?_⟩ | rw [if_neg (by decide)] | rw [if_pos (by decide)] | rw [if_pos rfl] | simp only [Function.comp, tSeq, tIfS, tTest, tOp, tUn, tVar, tC, tRet, tRetN, tNext, tDrop, tAsg, gName, gSub, gTup, gCons, gNil, tIsN, tNotN, tB, tAnd, tOr, tNot, tAndV, tOrV, tNotV, tIf, tNil, tCons, tTup, tLst, tCall, tCB, tChain, tMake, tBM, tBM0, tSl, tPart, tNoPart, wipe, tFor_eq, tLc_eq, tDc_eq, tScT_eq, iTup, iList, iRng1, iRng2, iRng3, iStr, tYes, tM1, rI, rI0, rU, rEq, rNe, rAdd, rSub, cxK, cxKn, cxw, cxwn, rAppend, rExtend, rPop, rSetL, sc_ss, sc_ii, sc_bb, L2.start, List.map_cons, List.map_nil, List.length_cons, List.length_nil, List.replicate, List.append_nil, List.cons_append, List.nil_append, List.getElem?_cons_zero, List.getElem?_cons_succ, List.set_cons_zero, List.set_cons_succ, Option.some.injEq, exists_eq_left', exists_eq_left, exists_and_left, exists_and_right, V.int.injEq, V.str.injEq, V.bl.injEq, V.ref.injEq, decide_eq_true_eq, true_and, and_true, and_assoc, List.cons.injEq, and_self, Nat.reduceAdd, Nat.reduceSub, Nat.sub_self, eq_self, reduceCtorEq, decide_true, decide_false, Bool.false_eq_true, Bool.true_eq_false, if_true, if_false, Bool.not_eq_true, ite_true, ite_false, exists_const, exists_eq, exists_eq', Bool.not_true, Bool.not_false, and_false, false_and, or_false, false_or])))
local macro_rules | `(tactic| walk_at "a6") => `(tactic| (repeat (first | refine ixT (by first | assumption | exact SqT.of upd_same | exact Chg.sqT (Chg.new (L := []) (by assumption)) (by assumption) | exact Chg.sqT (Chg.new (L := []) (by assumption)) (Chg.sqT (Chg.new (L := []) (by assumption)) (by assumption)) | exact Chg.sqT (by assumption) (by assumption) | exact Chg.sqT (Chg.thenNew (by assumption) (by assumption)) (by assumption)) rfl ?_ | refine ixL (by assumption) rfl ?_ | refine in_seq2 (by first | assumption | exact SqT.of upd_same | exact Chg.sqT (Chg.new (L := []) (by assumption)) (by assumption) | exact Chg.sqT (Chg.new (L := []) (by assumption)) (Chg.sqT (Chg.new (L := []) (by assumption)) (by assumption)) | exact Chg.sqT (by assumption) (by assumption) | exact Chg.sqT (Chg.thenNew (by assumption) (by assumption)) (by assumption)) rfl rfl ?_ | refine ⟨by decide, fun pp hpp => ?_⟩ | refine ⟨rfl, ?_⟩ | rw [if_neg (by decide)] | rw [if_pos (by decide)] | rw [if_pos rfl] | simp only [CgA.tAll, tSeq, tIfS, tTest, tOp, tUn, tVar, tC, tRet, tRetN, tNext, tDrop, tAsg, gName, gSub, gTup, gCons, gNil, tIsN, tNotN, tB, tAnd, tOr, tNot, tAndV, tOrV, tNotV, tIf, tNil, tCons, tTup, tLst, tCall, tCB, tChain, tMake, tBM, tBM0, tSl, tPart, tNoPart, wipe, tFor_eq, tLc_eq, tDc_eq, tScT_eq, iTup, iList, iRng1, iRng2, iRng3, iStr, tYes, tM1, rI, rI0, rU, rEq, rNe, rAdd, rSub, cxK, cxKn, cxw, cxwn, rAppend, rExtend, rPop, rSetL, sc_ss, sc_ii, sc_bb, L2.start, List.map_cons, List.map_nil, List.length_cons, List.length_nil, List.replicate, List.append_nil, List.cons_append, List.nil_append, List.getElem?_cons_zero, List.getElem?_cons_succ, List.set_cons_zero, List.set_cons_succ, Option.some.injEq, exists_eq_left', exists_eq_left, exists_and_left, exists_and_right, V.int.injEq, V.str.injEq, V.bl.injEq, V.ref.injEq, decide_eq_true_eq, true_and, and_true, and_assoc, List.cons.injEq, and_self, Nat.reduceAdd, Nat.reduceSub, Nat.sub_self, eq_self, reduceCtorEq, decide_true, decide_false, Bool.false_eq_true, Bool.true_eq_false, if_true, if_false, Bool.not_eq_true, ite_true, ite_false, exists_const, exists_eq, exists_eq', Bool.not_true, Bool.not_false, and_false, false_and, or_false, false_or])))
local macro_rules | `(tactic| walk_at "a7") => `(tactic| (repeat (first | refine ixT (by first | assumption | exact SqT.of upd_same | exact Chg.sqT (Chg.new (L := []) (by assumption)) (by assumption) | exact Chg.sqT (Chg.new (L := []) (by assumption)) (Chg.sqT (Chg.new (L := []) (by assumption)) (by assumption)) | exact Chg.sqT (by assumption) (by assumption) | exact Chg.sqT (Chg.thenNew (by assumption) (by assumption)) (by assumption)) rfl ?_ | refine ixL (by assumption) rfl ?_ | refine in_seq2 (by first | assumption | exact SqT.of upd_same | exact Chg.sqT (Chg.new (L := []) (by assumption)) (by assumption) | exact Chg.sqT (Chg.new (L := []) (by assumption)) (Chg.sqT (Chg.new (L := []) (by assumption)) (by assumption)) | exact Chg.sqT (by assumption) (by assumption) | exact Chg.sqT (Chg.thenNew (by assumption) (by assumption)) (by assumption)) rfl rfl ?_ | refine ⟨by decide, fun pp hpp => ?_⟩ | refine ⟨rfl, ?_⟩ | rw [if_neg (by decide)] | rw [if_pos (by decide)] | rw [if_pos rfl] | simp only [inV2, Bool.or_eq_true, CgF.tRaiseFail, CgF.tMkFail, tCallS, tFld_eq, sFld_eq, tMethS_eq, tMeth_eq, sDPut_eq, tDGet_eq, tDIn_eq, tDNewK, tSeq, tIfS, tTest, tOp, tUn, tVar, tC, tRet, tRetN, tNext, tDrop, tAsg, gName, gSub, gTup, gCons, gNil, tIsN, tNotN, tB, tAnd, tOr, tNot, tAndV, tOrV, tNotV, tIf, tNil, tCons, tTup, tLst, tCall, tCB, tChain, tMake, tBM, tBM0, tSl, tPart, tNoPart, wipe, tFor_eq, tLc_eq, tDc_eq, tScT_eq, iTup, iList, iRng1, iRng2, iRng3, iStr, tYes, tM1, rI, rI0, rU, rEq, rNe, rAdd, rSub, cxK, cxKn, cxw, cxwn, rAppend, rExtend, rPop, rSetL, sc_ss, sc_ii, sc_bb, L2.start, List.map_cons, List.map_nil, List.length_cons, List.length_nil, List.replicate, List.append_nil, List.cons_append, List.nil_append, List.getElem?_cons_zero, List.getElem?_cons_succ, List.set_cons_zero, List.set_cons_succ, Option.some.injEq, exists_eq_left', exists_eq_left, exists_and_left, exists_and_right, V.int.injEq, V.str.injEq, V.bl.injEq, V.ref.injEq, decide_eq_true_eq, true_and, and_true, and_assoc, List.cons.injEq, and_self, Nat.reduceAdd, Nat.reduceSub, Nat.sub_self, eq_self, reduceCtorEq, decide_true, decide_false, Bool.false_eq_true, Bool.true_eq_false, if_true, if_false, Bool.not_eq_true, ite_true, ite_false, exists_const, exists_eq, exists_eq', Bool.not_true, Bool.not_false, and_false, false_and, or_false, false_or])))
local macro_rules | `(tactic| walk_at "a8") => `(tactic| (repeat (first | refine ixT (by first | assumption | exact SqT.of upd_same | exact Chg.sqT (Chg.new (L := []) (by assumption)) (by assumption) | exact Chg.sqT (Chg.new (L := []) (by assumption)) (Chg.sqT (Chg.new (L := []) (by assumption)) (by assumption)) | exact Chg.sqT (by assumption) (by assumption) | exact Chg.sqT (Chg.thenNew (by assumption) (by assumption)) (by assumption)) rfl ?_ | refine ixL (by assumption) rfl ?_ | refine in_seq2 (by first | assumption | exact SqT.of upd_same | exact Chg.sqT (Chg.new (L := []) (by assumption)) (by assumption) | exact Chg.sqT (Chg.new (L := []) (by assumption)) (Chg.sqT (Chg.new (L := []) (by assumption)) (by assumption)) | exact Chg.sqT (by assumption) (by assumption) | exact Chg.sqT (Chg.thenNew (by assumption) (by assumption)) (by assumption)) rfl rfl ?_ | refine ⟨by decide, fun pp hpp => ?_⟩ | refine ⟨rfl, ?_⟩ | rw [if_neg (by decide)] | rw [if_pos (by decide)] | rw [if_pos rfl] | simp only [CgF.tRaiseFail, CgF.tMkFail, tCallS, tFld_eq, sFld_eq, tMethS_eq, tMeth_eq, sDPut_eq, tDGet_eq, tDIn_eq, tDNewK, tSeq, tIfS, tTest, tOp, tUn, tVar, tC, tRet, tRetN, tNext, tDrop, tAsg, gName, gSub, gTup, gCons, gNil, tIsN, tNotN, tB, tAnd, tOr, tNot, tAndV, tOrV, tNotV, tIf, tNil, tCons, tTup, tLst, tCall, tCB, tChain, tMake, tBM, tBM0, tSl, tPart, tNoPart, wipe, tFor_eq, tLc_eq, tDc_eq, tScT_eq, iTup, iList, iRng1, iRng2, iRng3, iStr, tYes, tM1, rI, rI0, rU, rEq, rNe, rAdd, rSub, cxK, cxKn, cxw, cxwn, rAppend, rExtend, rPop, rSetL, sc_ss, sc_ii, sc_bb, L2.start, List.map_cons, List.map_nil, List.length_cons, List.length_nil, List.replicate, List.append_nil, List.cons_append, List.nil_append, List.getElem?_cons_zero, List.getElem?_cons_succ, List.set_cons_zero, List.set_cons_succ, Option.some.injEq, exists_eq_left', exists_eq_left, exists_and_left, exists_and_right, V.int.injEq, V.str.injEq, V.bl.injEq, V.ref.injEq, decide_eq_true_eq, true_and, and_true, and_assoc, List.cons.injEq, and_self, Nat.reduceAdd, Nat.reduceSub, Nat.sub_self, eq_self, reduceCtorEq, decide_true, decide_false, Bool.false_eq_true, Bool.true_eq_false, if_true, if_false, Bool.not_eq_true, ite_true, ite_false, exists_const, exists_eq, exists_eq', Bool.not_true, Bool.not_false, and_false, false_and, or_false, false_or])))
local macro_rules | `(tactic| walk_at "a9") => `(tactic| (repeat (first | refine ixT (by first | assumption | exact SqT.of upd_same | exact Chg.sqT (Chg.new (L := []) (by assumption)) (by assumption) | exact Chg.sqT (Chg.new (L := []) (by assumption)) (Chg.sqT (Chg.new (L := []) (by assumption)) (by assumption)) | exact Chg.sqT (by assumption) (by assumption) | exact Chg.sqT (Chg.thenNew (by assumption) (by assumption)) (by assumption)) rfl ?_ | refine ixL (by assumption) rfl ?_ | refine in_seq2 (by first | assumption | exact SqT.of upd_same | exact Chg.sqT (Chg.new (L := []) (by assumption)) (by assumption) | exact Chg.sqT (Chg.new (L := []) (by assumption)) (Chg.sqT (Chg.new (L := []) (by assumption)) (by assumption)) | exact Chg.sqT (by assumption) (by assumption) | exact Chg.sqT (Chg.thenNew (by assumption) (by assumption)) (by assumption)) rfl rfl ?_ | refine ⟨by decide, fun pp hpp => ?_⟩ | refine ⟨rfl, ?_⟩ | rw [if_neg (by decide)] | rw [if_pos (by decide)] | rw [if_pos rfl] | simp only [tLcX_eq, CgF.tRaiseFail, CgF.tMkFail, tCallS, tFld_eq, sFld_eq, tMethS_eq, tMeth_eq, sDPut_eq, tDGet_eq, tDIn_eq, tDNewK, tSeq, tIfS, tTest, tOp, tUn, tVar, tC, tRet, tRetN, tNext, tDrop, tAsg, gName, gSub, gTup, gCons, gNil, tIsN, tNotN, tB, tAnd, tOr, tNot, tAndV, tOrV, tNotV, tIf, tNil, tCons, tTup, tLst, tCall, tCB, tChain, tMake, tBM, tBM0, tSl, tPart, tNoPart, wipe, tFor_eq, tLc_eq, tDc_eq, tScT_eq, iTup, iList, iRng1, iRng2, iRng3, iStr, tYes, tM1, rI, rI0, rU, rEq, rNe, rAdd, rSub, cxK, cxKn, cxw, cxwn, rAppend, rExtend, rPop, rSetL, sc_ss, sc_ii, sc_bb, L2.start, List.map_cons, List.map_nil, List.length_cons, List.length_nil, List.replicate, List.append_nil, List.cons_append, List.nil_append, List.getElem?_cons_zero, List.getElem?_cons_succ, List.set_cons_zero, List.set_cons_succ, Option.some.injEq, exists_eq_left', exists_eq_left, exists_and_left, exists_and_right, V.int.injEq, V.str.injEq, V.bl.injEq, V.ref.injEq, decide_eq_true_eq, true_and, and_true, and_assoc, List.cons.injEq, and_self, Nat.reduceAdd, Nat.reduceSub, Nat.sub_self, eq_self, reduceCtorEq, decide_true, decide_false, Bool.false_eq_true, Bool.true_eq_false, if_true, if_false, Bool.not_eq_true, ite_true, ite_false, exists_const, exists_eq, exists_eq', Bool.not_true, Bool.not_false, and_false, false_and, or_false, false_or])))
local macro_rules | `(tactic| walk_at "a10") => `(tactic| (repeat (first | refine ixT (by first | assumption | exact SqT.of upd_same | exact Chg.sqT (Chg.new (L := []) (by assumption)) (by assumption) | exact Chg.sqT (Chg.new (L := []) (by assumption)) (Chg.sqT (Chg.new (L := []) (by assumption)) (by assumption)) | exact Chg.sqT (by assumption) (by assumption) | exact Chg.sqT (Chg.thenNew (by assumption) (by assumption)) (by assumption)) rfl ?_ | refine ixL (by assumption) rfl ?_ | refine in_seq2 (by first | assumption | exact SqT.of upd_same | exact Chg.sqT (Chg.new (L := []) (by assumption)) (by assumption) | exact Chg.sqT (Chg.new (L := []) (by assumption)) (Chg.sqT (Chg.new (L := []) (by assumption)) (by assumption)) | exact Chg.sqT (by assumption) (by assumption) | exact Chg.sqT (Chg.thenNew (by assumption) (by assumption)) (by assumption)) rfl rfl ?_ | refine ⟨by decide, fun pp hpp => ?_⟩ | refine ⟨rfl, ?_⟩ | rw [if_neg (by decide)] | rw [if_pos (by decide)] | rw [if_pos rfl] | simp only [inV2, Bool.or_eq_true, rIsS, isS, CgF.tRaiseFail, CgF.tMkFail, tCallS, tFld_eq, sFld_eq, tMethS_eq, tMeth_eq, sDPut_eq, tDGet_eq, tDIn_eq, tDNewK, tSeq, tIfS, tTest, tOp, tUn, tVar, tC, tRet, tRetN, tNext, tDrop, tAsg, gName, gSub, gTup, gCons, gNil, tIsN, tNotN, tB, tAnd, tOr, tNot, tAndV, tOrV, tNotV, tIf, tNil, tCons, tTup, tLst, tCall, tCB, tChain, tMake, tBM, tBM0, tSl, tPart, tNoPart, wipe, tFor_eq, tLc_eq, tDc_eq, tScT_eq, iTup, iList, iRng1, iRng2, iRng3, iStr, tYes, tM1, rI, rI0, rU, rEq, rNe, rAdd, rSub, cxK, cxKn, cxw, cxwn, rAppend, rExtend, rPop, rSetL, sc_ss, sc_ii, sc_bb, L2.start, List.map_cons, List.map_nil, List.length_cons, List.length_nil, List.replicate, List.append_nil, List.cons_append, List.nil_append, List.getElem?_cons_zero, List.getElem?_cons_succ, List.set_cons_zero, List.set_cons_succ, Option.some.injEq, exists_eq_left', exists_eq_left, exists_and_left, exists_and_right, V.int.injEq, V.str.injEq, V.bl.injEq, V.ref.injEq, decide_eq_true_eq, true_and, and_true, and_assoc, List.cons.injEq, and_self, Nat.reduceAdd, Nat.reduceSub, Nat.sub_self, eq_self, reduceCtorEq, decide_true, decide_false, Bool.false_eq_true, Bool.true_eq_false, if_true, if_false, Bool.not_eq_true, ite_true, ite_false, exists_const, exists_eq, exists_eq', Bool.not_true, Bool.not_false, and_false, false_and, or_false, false_or])))
local macro_rules | `(tactic| walk_at "a11") => `(tactic| (repeat (first | refine ixT (by first | assumption | exact SqT.of upd_same | exact Chg.sqT (Chg.new (L := []) (by assumption)) (by assumption) | exact Chg.sqT (Chg.new (L := []) (by assumption)) (Chg.sqT (Chg.new (L := []) (by assumption)) (by assumption)) | exact Chg.sqT (by assumption) (by assumption) | exact Chg.sqT (Chg.thenNew (by assumption) (by assumption)) (by assumption)) rfl ?_ | refine ixL (by assumption) rfl ?_ | refine in_seq2 (by first | assumption | exact SqT.of upd_same | exact Chg.sqT (Chg.new (L := []) (by assumption)) (by assumption) | exact Chg.sqT (Chg.new (L := []) (by assumption)) (Chg.sqT (Chg.new (L := []) (by assumption)) (by assumption)) | exact Chg.sqT (by assumption) (by assumption) | exact Chg.sqT (Chg.thenNew (by assumption) (by assumption)) (by assumption)) rfl rfl ?_ | refine ⟨by decide, fun pp hpp => ?_⟩ | refine ⟨rfl, ?_⟩ | rw [if_neg (by decide)] | rw [if_pos (by decide)] | rw [if_pos rfl] | simp only [rIsS, isS, CgF.tRaiseFail, CgF.tMkFail, tCallS, tFld_eq, sFld_eq, tMethS_eq, tMeth_eq, sDPut_eq, tDGet_eq, tDIn_eq, tDNewK, tSeq, tIfS, tTest, tOp, tUn, tVar, tC, tRet, tRetN, tNext, tDrop, tAsg, gName, gSub, gTup, gCons, gNil, tIsN, tNotN, tB, tAnd, tOr, tNot, tAndV, tOrV, tNotV, tIf, tNil, tCons, tTup, tLst, tCall, tCB, tChain, tMake, tBM, tBM0, tSl, tPart, tNoPart, wipe, tFor_eq, tLc_eq, tDc_eq, tScT_eq, iTup, iList, iRng1, iRng2, iRng3, iStr, tYes, tM1, rI, rI0, rU, rEq, rNe, rAdd, rSub, cxK, cxKn, cxw, cxwn, rAppend, rExtend, rPop, rSetL, sc_ss, sc_ii, sc_bb, L2.start, List.map_cons, List.map_nil, List.length_cons, List.length_nil, List.replicate, List.append_nil, List.cons_append, List.nil_append, List.getElem?_cons_zero, List.getElem?_cons_succ, List.set_cons_zero, List.set_cons_succ, Option.some.injEq, exists_eq_left', exists_eq_left, exists_and_left, exists_and_right, V.int.injEq, V.str.injEq, V.bl.injEq, V.ref.injEq, decide_eq_true_eq, true_and, and_true, and_assoc, List.cons.injEq, and_self, Nat.reduceAdd, Nat.reduceSub, Nat.sub_self, eq_self, reduceCtorEq, decide_true, decide_false, Bool.false_eq_true, Bool.true_eq_false, if_true, if_false, Bool.not_eq_true, ite_true, ite_false, exists_const, exists_eq, exists_eq', Bool.not_true, Bool.not_false, and_false, false_and, or_false, false_or])))
local macro_rules | `(tactic| walk_at "a12") => `(tactic| (repeat (first | refine ixT (by first | assumption | exact SqT.of upd_same | exact Chg.sqT (Chg.new (L := []) (by assumption)) (by assumption) | exact Chg.sqT (Chg.new (L := []) (by assumption)) (Chg.sqT (Chg.new (L := []) (by assumption)) (by assumption)) | exact Chg.sqT (by assumption) (by assumption) | exact Chg.sqT (Chg.thenNew (by assumption) (by assumption)) (by assumption)) rfl ?_ | refine ixL (by assumption) rfl ?_ | refine in_seq2 (by first | assumption | exact SqT.of upd_same | exact Chg.sqT (Chg.new (L := []) (by assumption)) (by assumption) | exact Chg.sqT (Chg.new (L := []) (by assumption)) (Chg.sqT (Chg.new (L := []) (by assumption)) (by assumption)) | exact Chg.sqT (by assumption) (by assumption) | exact Chg.sqT (Chg.thenNew (by assumption) (by assumption)) (by assumption)) rfl rfl ?_ | refine ⟨by decide, fun pp hpp => ?_⟩ | refine ⟨rfl, ?_⟩ | rw [if_neg (by decide)] | rw [if_pos (by decide)] | rw [if_pos rfl] | simp only [z1, z2, z3, rIsS, isS, CgF.tRaiseFail, CgF.tMkFail, tCallS, tFld_eq, sFld_eq, tMethS_eq, tMeth_eq, sDPut_eq, tDGet_eq, tDIn_eq, tDNewK, tSeq, tIfS, tTest, tOp, tUn, tVar, tC, tRet, tRetN, tNext, tDrop, tAsg, gName, gSub, gTup, gCons, gNil, tIsN, tNotN, tB, tAnd, tOr, tNot, tAndV, tOrV, tNotV, tIf, tNil, tCons, tTup, tLst, tCall, tCB, tChain, tMake, tBM, tBM0, tSl, tPart, tNoPart, wipe, tFor_eq, tLc_eq, tDc_eq, tScT_eq, iTup, iList, iRng1, iRng2, iRng3, iStr, tYes, tM1, rI, rI0, rU, rEq, rNe, rAdd, rSub, cxK, cxKn, cxw, cxwn, rAppend, rExtend, rPop, rSetL, sc_ss, sc_ii, sc_bb, L2.start, List.map_cons, List.map_nil, List.length_cons, List.length_nil, List.replicate, List.append_nil, List.cons_append, List.nil_append, List.getElem?_cons_zero, List.getElem?_cons_succ, List.set_cons_zero, List.set_cons_succ, Option.some.injEq, exists_eq_left', exists_eq_left, exists_and_left, exists_and_right, V.int.injEq, V.str.injEq, V.bl.injEq, V.ref.injEq, decide_eq_true_eq, true_and, and_true, and_assoc, List.cons.injEq, and_self, Nat.reduceAdd, Nat.reduceSub, Nat.sub_self, eq_self, reduceCtorEq, decide_true, decide_false, Bool.false_eq_true, Bool.true_eq_false, if_true, if_false, Bool.not_eq_true, ite_true, ite_false, exists_const, exists_eq, exists_eq', Bool.not_true, Bool.not_false, and_false, false_and, or_false, false_or])))
local macro_rules | `(tactic| walk_at "a13") => `(tactic| (repeat (first | refine ixT (by first | assumption | exact SqT.of upd_same | exact Chg.sqT (Chg.new (L := []) (by assumption)) (by assumption) | exact Chg.sqT (Chg.new (L := []) (by assumption)) (Chg.sqT (Chg.new (L := []) (by assumption)) (by assumption)) | exact Chg.sqT (by assumption) (by assumption) | exact Chg.sqT (Chg.thenNew (by assumption) (by assumption)) (by assumption)) rfl ?_ | refine ixL (by assumption) rfl ?_ | refine in_seq2 (by first | assumption | exact SqT.of upd_same | exact Chg.sqT (Chg.new (L := []) (by assumption)) (by assumption) | exact Chg.sqT (Chg.new (L := []) (by assumption)) (Chg.sqT (Chg.new (L := []) (by assumption)) (by assumption)) | exact Chg.sqT (by assumption) (by assumption) | exact Chg.sqT (Chg.thenNew (by assumption) (by assumption)) (by assumption)) rfl rfl ?_ | refine ⟨by decide, fun pp hpp => ?_⟩ | refine ⟨rfl, ?_⟩ | rw [if_neg (by decide)] | rw [if_pos (by decide)] | rw [if_pos rfl] | simp only [Int.zero_add, rIsS, isS, CgF.tRaiseFail, CgF.tMkFail, tCallS, tFld_eq, sFld_eq, tMethS_eq, tMeth_eq, sDPut_eq, tDGet_eq, tDIn_eq, tDNewK, tSeq, tIfS, tTest, tOp, tUn, tVar, tC, tRet, tRetN, tNext, tDrop, tAsg, gName, gSub, gTup, gCons, gNil, tIsN, tNotN, tB, tAnd, tOr, tNot, tAndV, tOrV, tNotV, tIf, tNil, tCons, tTup, tLst, tCall, tCB, tChain, tMake, tBM, tBM0, tSl, tPart, tNoPart, wipe, tFor_eq, tLc_eq, tDc_eq, tScT_eq, iTup, iList, iRng1, iRng2, iRng3, iStr, tYes, tM1, rI, rI0, rU, rEq, rNe, rAdd, rSub, cxK, cxKn, cxw, cxwn, rAppend, rExtend, rPop, rSetL, sc_ss, sc_ii, sc_bb, L2.start, List.map_cons, List.map_nil, List.length_cons, List.length_nil, List.replicate, List.append_nil, List.cons_append, List.nil_append, List.getElem?_cons_zero, List.getElem?_cons_succ, List.set_cons_zero, List.set_cons_succ, Option.some.injEq, exists_eq_left', exists_eq_left, exists_and_left, exists_and_right, V.int.injEq, V.str.injEq, V.bl.injEq, V.ref.injEq, decide_eq_true_eq, true_and, and_true, and_assoc, List.cons.injEq, and_self, Nat.reduceAdd, Nat.reduceSub, Nat.sub_self, eq_self, reduceCtorEq, decide_true, decide_false, Bool.false_eq_true, Bool.true_eq_false, if_true, if_false, Bool.not_eq_true, ite_true, ite_false, exists_const, exists_eq, exists_eq', Bool.not_true, Bool.not_false, and_false, false_and, or_false, false_or])))
local macro_rules | `(tactic| walk_at "a14") => `(tactic| (repeat (first | refine ixT (by first | assumption | exact SqT.of upd_same | exact Chg.sqT (Chg.new (L := []) (by assumption)) (by assumption) | exact Chg.sqT (Chg.new (L := []) (by assumption)) (Chg.sqT (Chg.new (L := []) (by assumption)) (by assumption)) | exact Chg.sqT (by assumption) (by assumption) | exact Chg.sqT (Chg.thenNew (by assumption) (by assumption)) (by assumption)) rfl ?_ | refine ixL (by assumption) rfl ?_ | refine in_seq2 (by first | assumption | exact SqT.of upd_same | exact Chg.sqT (Chg.new (L := []) (by assumption)) (by assumption) | exact Chg.sqT (Chg.new (L := []) (by assumption)) (Chg.sqT (Chg.new (L := []) (by assumption)) (by assumption)) | exact Chg.sqT (by assumption) (by assumption) | exact Chg.sqT (Chg.thenNew (by assumption) (by assumption)) (by assumption)) rfl rfl ?_ | refine ⟨by decide, fun pp hpp => ?_⟩ | refine ⟨rfl, ?_⟩ | rw [if_neg (by decide)] | rw [if_pos (by decide)] | rw [if_pos rfl] | simp only [inV2, Bool.or_eq_true, optV, rIsS, isS, CgF.tRaiseFail, CgF.tMkFail, tCallS, tFld_eq, sFld_eq, tMethS_eq, tMeth_eq, sDPut_eq, tDGet_eq, tDIn_eq, tDNewK, tSeq, tIfS, tTest, tOp, tUn, tVar, tC, tRet, tRetN, tNext, tDrop, tAsg, gName, gSub, gTup, gCons, gNil, tIsN, tNotN, tB, tAnd, tOr, tNot, tAndV, tOrV, tNotV, tIf, tNil, tCons, tTup, tLst, tCall, tCB, tChain, tMake, tBM, tBM0, tSl, tPart, tNoPart, wipe, tFor_eq, tLc_eq, tDc_eq, tScT_eq, iTup, iList, iRng1, iRng2, iRng3, iStr, tYes, tM1, rI, rI0, rU, rEq, rNe, rAdd, rSub, cxK, cxKn, cxw, cxwn, rAppend, rExtend, rPop, rSetL, sc_ss, sc_ii, sc_bb, L2.start, List.map_cons, List.map_nil, List.length_cons, List.length_nil, List.replicate, List.append_nil, List.cons_append, List.nil_append, List.getElem?_cons_zero, List.getElem?_cons_succ, List.set_cons_zero, List.set_cons_succ, Option.some.injEq, exists_eq_left', exists_eq_left, exists_and_left, exists_and_right, V.int.injEq, V.str.injEq, V.bl.injEq, V.ref.injEq, decide_eq_true_eq, true_and, and_true, and_assoc, List.cons.injEq, and_self, Nat.reduceAdd, Nat.reduceSub, Nat.sub_self, eq_self, reduceCtorEq, decide_true, decide_false, Bool.false_eq_true, Bool.true_eq_false, if_true, if_false, Bool.not_eq_true, ite_true, ite_false, exists_const, exists_eq, exists_eq', Bool.not_true, Bool.not_false, and_false, false_and, or_false, false_or])))
local macro_rules | `(tactic| walk_at "w15") => `(tactic| (simp only [rIsS, isS, CgF.tRaiseFail, CgF.tMkFail, tCallS, tFld_eq, sFld_eq, tMethS_eq, tMeth_eq, sDPut_eq, tDGet_eq, tDIn_eq, tDNewK, tSeq, tIfS, tTest, tOp, tUn, tVar, tC, tRet, tRetN, tNext, tDrop, tAsg, gName, gSub, gTup, gCons, gNil, tIsN, tNotN, tB, tAnd, tOr, tNot, tAndV, tOrV, tNotV, tIf, tNil, tCons, tTup, tLst, tCall, tCB, tChain, tMake, tBM, tBM0, tSl, tPart, tNoPart, wipe, tFor_eq, tLc_eq, tDc_eq, tScT_eq, iTup, iList, iRng1, iRng2, iRng3, iStr, tYes, tM1, rI, rI0, rU, rEq, rNe, rAdd, rSub, cxK, cxKn, cxw, cxwn, rAppend, rExtend, rPop, rSetL, sc_ss, sc_ii, sc_bb, L2.start, List.map_cons, List.map_nil, List.length_cons, List.length_nil, List.replicate, List.append_nil, List.cons_append, List.nil_append, List.getElem?_cons_zero, List.getElem?_cons_succ, List.set_cons_zero, List.set_cons_succ, Option.some.injEq, exists_eq_left', exists_eq_left, exists_and_left, exists_and_right, V.int.injEq, V.str.injEq, V.bl.injEq, V.ref.injEq, decide_eq_true_eq, true_and, and_true, and_assoc, List.cons.injEq, and_self, Nat.reduceAdd, Nat.reduceSub, Nat.sub_self, eq_self, reduceCtorEq, decide_true, decide_false, Bool.false_eq_true, Bool.true_eq_false, if_true, if_false, Bool.not_eq_true, ite_true, ite_false, exists_const, exists_eq, exists_eq', Bool.not_true, Bool.not_false, and_false, false_and, or_false, false_or]))
local macro_rules | `(tactic| walk_at "w16") => `(tactic| (simp only [Int.zero_add, rIsS, isS, CgF.tRaiseFail, CgF.tMkFail, tCallS, tFld_eq, sFld_eq, tMethS_eq, tMeth_eq, sDPut_eq, tDGet_eq, tDIn_eq, tDNewK, tSeq, tIfS, tTest, tOp, tUn, tVar, tC, tRet, tRetN, tNext, tDrop, tAsg, gName, gSub, gTup, gCons, gNil, tIsN, tNotN, tB, tAnd, tOr, tNot, tAndV, tOrV, tNotV, tIf, tNil, tCons, tTup, tLst, tCall, tCB, tChain, tMake, tBM, tBM0, tSl, tPart, tNoPart, wipe, tFor_eq, tLc_eq, tDc_eq, tScT_eq, iTup, iList, iRng1, iRng2, iRng3, iStr, tYes, tM1, rI, rI0, rU, rEq, rNe, rAdd, rSub, cxK, cxKn, cxw, cxwn, rAppend, rExtend, rPop, rSetL, sc_ss, sc_ii, sc_bb, L2.start, List.map_cons, List.map_nil, List.length_cons, List.length_nil, List.replicate, List.append_nil, List.cons_append, List.nil_append, List.getElem?_cons_zero, List.getElem?_cons_succ, List.set_cons_zero, List.set_cons_succ, Option.some.injEq, exists_eq_left', exists_eq_left, exists_and_left, exists_and_right, V.int.injEq, V.str.injEq, V.bl.injEq, V.ref.injEq, decide_eq_true_eq, true_and, and_true, and_assoc, List.cons.injEq, and_self, Nat.reduceAdd, Nat.reduceSub, Nat.sub_self, eq_self, reduceCtorEq, decide_true, decide_false, Bool.false_eq_true, Bool.true_eq_false, if_true, if_false, Bool.not_eq_true, ite_true, ite_false, exists_const, exists_eq, exists_eq', Bool.not_true, Bool.not_false, and_false, false_and, or_false, false_or]))
local macro_rules | `(tactic| walk_at "w17") => `(tactic| (simp only [tDisp, tPairs, rIsS, isS, CgF.tRaiseFail, CgF.tMkFail, tCallS, tFld_eq, sFld_eq, tMethS_eq, tMeth_eq, sDPut_eq, tDGet_eq, tDIn_eq, tDNewK, tSeq, tIfS, tTest, tOp, tUn, tVar, tC, tRet, tRetN, tNext, tDrop, tAsg, gName, gSub, gTup, gCons, gNil, tIsN, tNotN, tB, tAnd, tOr, tNot, tAndV, tOrV, tNotV, tIf, tNil, tCons, tTup, tLst, tCall, tCB, tChain, tMake, tBM, tBM0, tSl, tPart, tNoPart, wipe, tFor_eq, tLc_eq, tDc_eq, tScT_eq, iTup, iList, iRng1, iRng2, iRng3, iStr, tYes, tM1, rI, rI0, rU, rEq, rNe, rAdd, rSub, cxK, cxKn, cxw, cxwn, rAppend, rExtend, rPop, rSetL, sc_ss, sc_ii, sc_bb, L2.start, List.map_cons, List.map_nil, List.length_cons, List.length_nil, List.replicate, List.append_nil, List.cons_append, List.nil_append, List.getElem?_cons_zero, List.getElem?_cons_succ, List.set_cons_zero, List.set_cons_succ, Option.some.injEq, exists_eq_left', exists_eq_left, exists_and_left, exists_and_right, V.int.injEq, V.str.injEq, V.bl.injEq, V.ref.injEq, decide_eq_true_eq, true_and, and_true, and_assoc, List.cons.injEq, and_self, Nat.reduceAdd, Nat.reduceSub, Nat.sub_self, eq_self, reduceCtorEq, decide_true, decide_false, Bool.false_eq_true, Bool.true_eq_false, if_true, if_false, Bool.not_eq_true, ite_true, ite_false, exists_const, exists_eq, exists_eq', Bool.not_true, Bool.not_false, and_false, false_and, or_false, false_or]))
set_option hygiene true
set_option maxRecDepth 100000
set_option maxHeartbeats 2000000
/-! R1: all(elt for x in ..), the element any expression (a call of a def that makes generators of its own, too). -/
namespace CgA
open PySem PySem.Spec PyProof.Rows L2
open Sem (wp)
theorem over_loop {A : Around} {elt tg iter : Expr} {ifs : List Expr} {scope : Scope} {pos : Pos} {it acc : Value} {cenv : Env} : A.over (.compLoop (.GeneratorExp elt [⟨tg, iter, ifs, 0⟩] scope pos) 0 it acc cenv) [] = A.deeper cenv := by
  first
    | rfl
    | (obtain ⟨hd, d, fr, gs, u⟩ := A; simp [Around.over, Around.deeper, marksOver, frameCount, unitsOf, envsOf, guardsOf, pushEnvs, pushGuards, Code.envs, Code.env?, Code.isFrame, Code.guards, Code.isGuard, Code.weight, Code.frames, Code.isCreation, Code.isCaller, Code.cUnits])
theorem over_start {A : Around} {elt tg iter : Expr} {ifs : List Expr} {scope : Scope} {pos : Pos} {it acc : Value} {cenv : Env} : A.over (.compStart (.GeneratorExp elt [⟨tg, iter, ifs, 0⟩] scope pos) 0 it acc cenv) [] = A.deeper cenv := by
  first
    | rfl
    | (obtain ⟨hd, d, fr, gs, u⟩ := A; simp [Around.over, Around.deeper, marksOver, frameCount, unitsOf, envsOf, guardsOf, pushEnvs, pushGuards, Code.envs, Code.env?, Code.isFrame, Code.guards, Code.isGuard, Code.weight, Code.frames, Code.isCreation, Code.isCaller, Code.cUnits])

/-- the generator's own scope: no cells, nothing captured -/
structure GScp (scope : Scope) (x : Str) : Prop where
  kind : scope.kind = .function
  co : scope.isCoroutine = false
  plain : ∀ y ∈ scope.names, y.2 ≠ .cell ∧ y.2 ≠ .free
  dot : scope.names.lookup (".0" : Str) = some NameKind.local
  loc : scope.names.lookup x = some .local

theorem clo_nil {scope : Scope} {x : Str} {cells : List (Str × Addr)} (S : GScp scope x) : cloFrom cells scope.names [] = [] := by
  rw [List.eq_nil_iff_forall_not_mem]
  intro p hp
  rcases cloFrom_mem (n := p.1) (c := p.2) hp with h | ⟨h, _⟩
  · cases h
  · exact (S.plain _ h).2 rfl

/-- the context of the generator's code -/
abbrev gcx (X : Cx) (s : Shared) (H : Hp) (x : Str) (A : Around) (cenv : Env) (fp : List Addr) : Cx :=
  { X with A := A, N := [x], s_0 := s, H_0 := H, env := cenv, outer := X.stack, stack := cenv :: X.stack, ex := fp, fn := fun _ => true, calm := true, pn := [], xe := fun _ _ => False }

section
variable {X : Cx} {pins : List (Addr × Obj)} {σ : L2.St} {H : Hp} {s : Shared}

theorem young_fs (I : Inv X pins σ H s) {b : Addr} (hb : s.heap.objs.size ≤ b) : b ∉ frs X.stack := fun hm => by
  rcases List.mem_cons.mp (I.stkSub b hm) with z | z
  · rw [z] at hb
    exact absurd (Nat.lt_of_lt_of_le I.lt hb) (Nat.lt_irrefl _)
  · exact I.nofs hb z

theorem gen_inv {scope : Scope} {x : Str} {A : Around} {code : Value} {fp : List Addr} {go : Obj} {a : Addr} {h5 : Heap} {g5 : Array GenState} {tk5 : Nat} {m : Str → Option Value} (I : Inv X pins σ H s) (S : GScp scope x)
    (hA : A.frames = some (genEnv scope [] s.heap.objs.size code builtinsNs X.env :: X.stack)) (hh : A.handled = none) (hfp : ∀ b ∈ fp, FpOk X pins H b ∧ b < s.heap.objs.size) (hgl : X.env.globals = mainGlobals)
    (kp : ∀ b o, s.heap.get? b = some o → h5.get? b = some o) (hn : h5.Ns s.heap.objs.size m) (ha : h5.get? a = some go) (haC : s.heap.objs.size < a) (hgo : ∀ v, go.data ≠ .cell v) (hb : AllBare g5) :
    Inv (gcx X s H x A (genEnv scope [] s.heap.objs.size code builtinsNs X.env) fp) [(a, go)] [none] H { s with heap := h5, gens := g5, toks := tk5 } := by
  refine ⟨⟨I.ok.mod, S.kind, hgl, rfl, Nat.le_refl _, fun y z c e1 _ => ?_, fun y hy => ?_, fun y c _ e => ?_, fun _ => hh, hA, .inr ⟨rfl, rfl⟩, fun b hb => ⟨?_, fun y c e => ?_⟩, I.bs, Nat.le_trans I.ok.bsz I.sz, fun b o e hb => ?_, fun b hb z => ?_, I.stack, I.stkFree⟩,
    rfl, hb, Un.kept kp, ⟨m, hn, fun i y v e1 e2 => ?_⟩, fun y c e => ?_, I.hok.fresh (Nat.le_refl _), fun y c e => ?_, fun p hp => ?_, I.hok.kept kp, rfl⟩
  · have e1 : ([] : List (Str × Addr)).lookup y = some c := e1
    cases e1
  · have hy : scope.names.lookup y = some .cell ∨ scope.names.lookup y = some .free := hy
    rcases hy with hy | hy
    · exact absurd rfl (S.plain _ (PySem.mem_of_lookup hy)).1
    · exact absurd rfl (S.plain _ (PySem.mem_of_lookup hy)).2
  · have e : ([] : List (Str × Addr)).lookup y = some c := e
    cases e
  · exact Nat.ne_of_lt (hfp b hb).2
  · have e : ([] : List (Str × Addr)).lookup y = some c := e
    cases e
  · rcases (hfp b hb).1.2.2.2.1 with z | z
    · exact I.ok.noex b o e z
    · exact absurd (Nat.lt_of_lt_of_le (Heap.lt_size e) (Nat.le_trans I.ok.bsz z)) (Nat.lt_irrefl _)
  · rcases List.mem_cons.mp (I.stkSub b z) with z | z
    · exact (hfp b hb).1.2.1 z
    · exact (hfp b hb).1.2.2.1 z
  · cases i with
    | zero => cases e2
    | succ i => cases e2
  · have e : ([] : List (Str × Addr)).lookup y = some c := e
    cases e
  · have e : ([] : List (Str × Addr)).lookup y = some c := e
    cases e
  · have e : p = (a, go) := by simpa using hp
    subst e
    exact ⟨ha, I.hok.fresh (Nat.le_of_lt haC), Nat.ne_of_gt haC, young_fs I (Nat.le_of_lt haC), hgo⟩

/-- only the table of generators has changed -/
theorem inv_same {s' : Shared} (I : Inv X pins σ H s) (hh : s'.heap = s.heap) (ho : s'.os = s.os) (hb : AllBare s'.gens) : Inv X pins σ H s' :=
  I.call' (ch := []) ho (by rw [hh]; exact Un.refl) (by rw [hh]; exact I.hok) hb fun b z => by cases z

def YA (XG : Cx) (gp : List (Addr × Obj)) (n : Nat) (W : Nat → Hp → Prop) (Qf : Hp → Prop) : Protocol := fun m s₀ v s kap =>
  ∃ (i : Nat) (b : Bool) (σ : L2.St) (H : Hp), m + 1 + i = n ∧ v = .bool b ∧ Inv XG gp σ H s ∧ (b = true → W (i + 1) H) ∧ (b = false → Qf H) ∧
    (b = true → ∀ s', s'.heap = s.heap → s'.os = s.os → AllBare s'.gens → kap (.send .none) s')
def RA (XG : Cx) (gp : List (Addr × Obj)) (Qt : Hp → Prop) : Nat → Shared → Shared → Prop := fun m s₀ s => m = 0 ∧ ∃ (σ : L2.St) (H : Hp), Inv XG gp σ H s ∧ Qt H

theorem seg_all {A : Around} {s0 : Shared} {H0 : Hp} {x : Str} {px pos : Pos} {elt iter : Expr} {scope : Scope} {fp : List Addr} {it : Addr} {tn : Nat → Heap → Prop} {J : It} {te : TE} {code : Value} {C : Addr} {gp : List (Addr × Obj)} {n : Nat} {W : Nat → Hp → Prop} {Qt Qf : Hp → Prop}
    (S : GScp scope x) (T : Turn X.prog X.w X.K (.Name x px) J fp it tn)
    (pe : PE (gcx X s0 H0 x (A.deeper (genEnv scope [] C code builtinsNs X.env)) (genEnv scope [] C code builtinsNs X.env) fp) elt te)
    (hgp : ∀ p ∈ gp, ∀ b ∈ fp, p.1 ≠ b)
    (step : ∀ i H, W i H → (i = n → J.stop i H ∧ Qt H) ∧ (i < n → J.go i H ∧ ∀ x H', J.yld i H x H' → te [some x] H' fun y H3 => ∃ b, y = .bl b ∧ (b = true → W (i + 1) H3) ∧ (b = false → Qf H3))) :
    ∀ (k i : Nat) (s₀ s : Shared) (σ : L2.St) (H : Hp), n - i = k → i ≤ n → Inv (gcx X s0 H0 x (A.deeper (genEnv scope [] C code builtinsNs X.env)) (genEnv scope [] C code builtinsNs X.env) fp) gp σ H s → tn i s.heap → (∀ b ∈ fp, H b = none) → W i H →
      Seg (model X.prog X.w) A (fun m s₀ r s₁ => r = .ok .next ∧ RA (gcx X s0 H0 x (A.deeper (genEnv scope [] C code builtinsNs X.env)) (genEnv scope [] C code builtinsNs X.env) fp) gp Qt m s₀ s₁)
        (YA (gcx X s0 H0 x (A.deeper (genEnv scope [] C code builtinsNs X.env)) (genEnv scope [] C code builtinsNs X.env) fp) gp n W Qf) (n - i) s₀
        (.compLoop (.GeneratorExp elt [⟨.Name x px, iter, [], 0⟩] scope pos) 0 (.ref it) .none (genEnv scope [] C code builtinsNs X.env))
        ((model X.prog X.w).den (.compLoop (.GeneratorExp elt [⟨.Name x px, iter, [], 0⟩] scope pos) 0 (.ref it) .none (genEnv scope [] C code builtinsNs X.env))) [] s := by
  generalize hce : genEnv scope [] C code builtinsNs X.env = ce at pe ⊢
  have hsc : ce.scope = scope := by rw [← hce]; rfl
  have nd : [x].Nodup := by simp
  have stat : ∀ {σ' : L2.St} {H' : Hp} {s' : Shared}, Inv (gcx X s0 H0 x (A.deeper ce) ce fp) gp σ' H' s' → (∀ b ∈ fp, H' b = none) → ∀ b ∈ fp, FpOk (gcx X s0 H0 x (A.deeper ce) ce fp) gp H' b := fun {σ' H' s'} I' hn b hb =>
    ⟨hn b hb, (I'.ok.exf b hb).1, I'.ok.exfs b hb, .inl hb, fun x c e => (I'.ok.exf b hb).2 x c e, fun p hp => hgp p (by simpa using hp) b hb⟩
  intro k
  induction k with
  | zero =>
    intro i s₀ s σ H hk hi I st hfr w
    have hin : i = n := by omega
    obtain ⟨stop, qt⟩ := (step i H w).1 hin
    show Seg _ A _ _ _ s₀ _ ((compTurn (.GeneratorExp elt [⟨.Name x px, iter, [], 0⟩] scope pos) 0 (.ref it) .none ce).onRaise (leaving ce)) [] s
    rw [compTurn_gen, Sem.onRaise_eq_wrap]
    refine seg_bind_wrap (wpAny_standAt ?_)
    refine seg_bind_wrap ?_
    rw [over_loop]
    refine thnF (T.done (gcx X s0 H0 x (A.deeper ce) ce fp) rfl rfl rfl rfl i gp s σ H (fun _ _ => False) I (stat I hfr) st stop) fun r s6 ⟨hr, I6⟩ => ?_
    subst hr
    exact seg_end (.ok .next) ⟨rfl, by omega, σ, H, I6, qt⟩
  | succ k ih =>
    intro i s₀ s σ H hk hi I st hfr w
    have hlt : i < n := by omega
    obtain ⟨go, turn⟩ := (step i H w).2 hlt
    show Seg _ A _ _ _ s₀ _ ((compTurn (.GeneratorExp elt [⟨.Name x px, iter, [], 0⟩] scope pos) 0 (.ref it) .none ce).onRaise (leaving ce)) [] s
    rw [compTurn_gen, Sem.onRaise_eq_wrap]
    refine seg_bind_wrap (wpAny_standAt ?_)
    refine seg_bind_wrap ?_
    rw [over_loop]
    refine thnF (T.item (gcx X s0 H0 x (A.deeper ce) ce fp) rfl rfl rfl rfl i gp s σ H (fun _ _ => False) I (stat I hfr) st go) fun r s6 ⟨u, hr, h6⟩ => ?_
    subst hr
    refine seg_bind_wrap ?_
    rw [over_loop]
    refine thnF h6 fun _ s7 ⟨xv, H7, I7, r7, y7, st7, n7⟩ => ?_
    have I7' := I7.pinned (stat I7 n7) (T.obj _ _ st7)
    have pg : PG (gcx X s0 H0 x (A.deeper ce) ce fp) (.Name x px) (gName 0) := pg_name (i := 0) nd rfl (.inl (by show ce.scope.names.lookup x = _; rw [hsc]; exact S.loc)) (.inl rfl)
    refine seg_bind_wrap ?_
    rw [over_loop]
    refine thnF (pg.run _ s7 _ H7 xv u (fun σ' H' => σ' = [some xv] ∧ H' = H7) I7' r7 ?_) fun _ s8 ⟨σ8, H8, I8, e8, e8'⟩ => ?_
    · have hl : σ.length = 1 := I7.len
      refine ⟨?_, rfl⟩
      match σ, hl with
      | [_], _ => rfl
    subst e8 e8'
    refine seg_bind_wrap ?_
    rw [over_loop]
    refine thnF ((pts_nil (X := gcx X s0 H0 x (A.deeper ce) ce fp)).run _ s8 _ H8 (fun b H' => b = true ∧ H' = H8) I8 ⟨rfl, rfl⟩) fun b s9 ⟨H9, I9, e9, e9'⟩ => ?_
    subst e9 e9'
    simp only [if_true]
    have hco : ce.scope.isCoroutine = false := by rw [hsc]; exact S.co
    have hy : ∀ v, yieldOut ce v = yieldValue v := fun v => by simp only [yieldOut, hco, Bool.false_eq_true, if_false]
    simp only [hy]
    have en : n - i = (n - (i + 1)) + 1 := by omega
    rw [en, Sem.bind_eq_wrap', Sem.bind_eq_wrap', Sem.wrap_wrap, Sem.wrap_wrap]
    refine seg_wrap ?_
    rw [over_loop]
    refine thnF (pe.run _ s9 _ H9 _ I9 (turn xv H9 y7)) fun y s10 ⟨yv, H10, I10, r10, b, eb, wt, wf⟩ => ?_
    subst eb
    obtain rfl : y = Value.bool b := r10
    refine seg_at (seg_yield rfl rfl rfl ⟨i, b, _, H10, by omega, rfl, I10.unpinned, wt, wf, fun hbt s' hh ho hb => ?_⟩)
    cases b with
    | false => cases hbt
    | true =>
      have J : Inv (gcx X s0 H0 x (A.deeper ce) ce fp) gp [some xv] H10 s' := inv_same I10.unpinned hh ho hb
      have pin' : ∀ b ∈ fp, ∀ o, s7.heap.get? b = some o → s10.heap.get? b = some o ∧ H10 b = none := fun b hb o e =>
        let z := I10.pin (b, o) (List.mem_append_right _ (List.mem_append_right _ (mem_pinsAt hb e)))
        ⟨z.1, z.2.1⟩
      refine seg_again rfl (ih (i + 1) s' s' _ H10 (by omega) hlt J (T.keep _ _ _ st7 fun b hb o e => by rw [hh]; exact (pin' b hb o e).1) (fun b hb => ?_) (wt rfl))
      obtain ⟨o, e, _⟩ := T.obj _ _ st7 b hb
      exact (pin' b hb o e).2

theorem seg_all0 {A : Around} {XG : Cx} {Y : Protocol} {R : GenEnd} {px pos : Pos} {x : Str} {elt iter : Expr} {scope : Scope} {it : Addr} {ce : Env} {n : Nat} {s₀ s : Shared} {i : Nat} {tn : Nat → Heap → Prop} {P : Program} {w : World} {K : PySem.W.Frag} {J : It} {fp : List Addr} (T : Turn P w K (.Name x px) J fp it tn) (st : tn i s.heap)
    (loop : Seg (model P w) A R Y n s₀ (.compLoop (.GeneratorExp elt [⟨.Name x px, iter, [], 0⟩] scope pos) 0 (.ref it) .none ce) ((model P w).den (.compLoop (.GeneratorExp elt [⟨.Name x px, iter, [], 0⟩] scope pos) 0 (.ref it) .none ce)) [] s) :
    Seg (model P w) A R Y n s₀ (.compStart (.GeneratorExp elt [⟨.Name x px, iter, [], 0⟩] scope pos) 0 (.ref it) .none ce) ((model P w).den (.compStart (.GeneratorExp elt [⟨.Name x px, iter, [], 0⟩] scope pos) 0 (.ref it) .none ce)) [] s := by
  show Seg _ A _ _ _ s₀ _ ((compStart (.GeneratorExp elt [⟨.Name x px, iter, [], 0⟩] scope pos) 0 (.ref it) .none ce).onRaise (leaving ce)) [] s
  unfold compStart
  rw [Sem.onRaise_eq_wrap]
  show Seg _ A _ _ _ s₀ _ ((ask >>= _).wrap _ _ _ _) [] s
  refine seg_bind_wrap (wpAny_askSetting ?_)
  split
  · exact seg_again rfl loop
  · first
      | exact seg_bind_wrap (wpAny_rule (seg_bind_wrap (wpAny_standAt (seg_bind_wrap (T.self _ i s _ _ st (seg_again rfl loop))))))
      | (refine seg_bind_wrap (wpAny_rule ?_); show Seg _ A _ _ _ s₀ _ ((standAt iter.pos >>= _).wrap _ _ _ _) [] s; exact seg_bind_wrap (wpAny_standAt (seg_bind_wrap (T.self _ i s _ _ st (seg_again rfl loop)))))

/-- the generator at a, number g, before turn i -/
structure At (XG : Cx) (A : Around) (gp : List (Addr × Obj)) (a : Addr) (g n : Nat) (W : Nat → Hp → Prop) (Qt Qf : Hp → Prop) (i : Nat) (s : Shared) : Prop where
  gen : s.heap.IsGen a g
  lim : s.heap.NoLimit
  go : ∃ gs, s.gens[g]? = some gs ∧ gs.Goes (model XG.prog XG.w) A (fun m s₀ r s₁ => r = .ok .next ∧ RA XG gp Qt m s₀ s₁) (YA XG gp n W Qf) (n - i) (.send .none) (s.setGen g .running)

theorem bare_set {s : Shared} {g : Nat} {x : GenState} (h : AllBare s.gens) (hx : x.bare = true) : AllBare (s.setGen g x).gens := by
  intro y hy
  have hy : y ∈ s.gens.setIfInBounds g x := hy
  rcases Array.mem_or_eq_of_mem_setIfInBounds hy with h1 | h1
  · exact h y h1
  · rw [h1]; exact hx

theorem all_loop {XG : Cx} {gp : List (Addr × Obj)} {a : Addr} {g n : Nat} {W : Nat → Hp → Prop} {Qt Qf : Hp → Prop} {A : Around} {R : Result → Shared → Prop} (hh : A.handled = none) (hd : A.depth < recursionLimit)
    (hgp : ∃ go, (a, go) ∈ gp ∧ ∃ nm qn, go.cls = .type "generator" ∧ go.data = .fields #[.int g 0, nm, qn] ∧ go.slots = #[])
    (hR : ∀ b σ H s h', Inv XG gp σ H s → (∀ b o, s.heap.get? b = some o → h'.get? b = some o) → (b = true → Qt H) → (b = false → Qf H) → ∀ s', s'.heap = h' → s'.os = s.os → AllBare s'.gens → R (.ok (.ret (.bool b))) s') :
    ∀ (k i : Nat) (s : Shared), n - i = k → i ≤ n → At XG A.in1.in1 gp a g n W Qt Qf i s → AllBare s.gens →
      codeAny (model XG.prog XG.w) A (.builtin "all.loop" ⟨[.ref a], []⟩) R s := by
  intro k
  induction k with
  | zero =>
    intro i s hk hi hat hb
    refine codeAny_builtin F.entry_all_loop ?_
    rw [Around.under_plainId F.plain_all_loop _]
    show wpAny _ A.in1 (pyNext (.ref a) >>= _) _ _ s
    obtain ⟨gs, hgs, hgo⟩ := hat.go
    refine wpAny_bind (wpAny_pyNext_genexpQ (A := A.in1) hh hat.lim hd hat.gen hgs hgo (fun v s₁ gs' hbare hv => ?_) (fun s₁ hp h' hk' => ?_))
    · obtain ⟨j, b, σ', H', hm, ev, I', wt, wf, kap⟩ := hv
      subst ev
      refine wpAny_bind (wpAny_holding (wpAny_truthy_bool ?_))
      refine wpAny_bind (wpAny_letGo ?_)
      cases b with
      | true =>
        have e : n - i = 0 := hk
        rw [e] at kap
        exact (kap rfl s₁ rfl rfl I'.bare).elim
      | false =>
        simp only [Bool.false_eq_true, if_false]
        refine wpAny_bind (wpAny_rule (wpAny_pure ?_))
        exact hR false σ' H' s₁ _ I' (fun _ _ e => e) (fun z => by cases z) wf _ rfl rfl (bare_set I'.bare hbare)
    · obtain ⟨_, σ', H', I', q⟩ := hp
      refine wpAny_bind (wpAny_rule (wpAny_pure ?_))
      exact hR true σ' H' s₁ h' I' hk' (fun _ => q) (fun z => by cases z) _ rfl rfl (bare_set I'.bare rfl)
  | succ k ih =>
    intro i s hk hi hat hb
    refine codeAny_builtin F.entry_all_loop ?_
    rw [Around.under_plainId F.plain_all_loop _]
    show wpAny _ A.in1 (pyNext (.ref a) >>= _) _ _ s
    obtain ⟨gs, hgs, hgo⟩ := hat.go
    have hgl : g + 1 ≤ s.gens.size := (Array.getElem?_eq_some_iff.mp hgs).1
    refine wpAny_bind (GenW.wpAny_gsz hgl (wpAny_pyNext_genexpQ (A := A.in1) hh hat.lim hd hat.gen hgs hgo (fun v s₁ gs' hbare hv hsz => ?_) (fun s₁ hp h' hk' _ => ?_)))
    · obtain ⟨j, b, σ', H', hm, ev, I', wt, wf, kap⟩ := hv
      subst ev
      have ej : j = i := by omega
      subst ej
      refine wpAny_bind (wpAny_holding (wpAny_truthy_bool ?_))
      refine wpAny_bind (wpAny_letGo ?_)
      cases b with
      | true =>
        simp only [if_true]
        refine wpAny_pure ⟨plainId_quiet F.plain_all_loop _, ih (j + 1) _ (by omega) (by omega) ⟨?_, ?_, ?_⟩ (bare_set I'.bare hbare)⟩
        · obtain ⟨go, hgm, nm, qn, q1, q2, q3⟩ := hgp
          exact ⟨go, nm, qn, (I'.pin (a, go) (List.mem_append_right _ hgm)).1, q1, q2, q3⟩
        · exact I'.nolimit
        · have e : n - j = (n - (j + 1)) + 1 := by omega
          rw [e] at kap
          have hlt : g < s₁.gens.size := by
            rw [GenW.setGen_size] at hsz
            exact hsz
          refine ⟨gs', by simp [Shared.setGen, hlt], kap rfl _ rfl rfl (bare_set (bare_set I'.bare hbare) rfl)⟩
      | false =>
        simp only [Bool.false_eq_true, if_false]
        refine wpAny_bind (wpAny_rule (wpAny_pure ?_))
        exact hR false σ' H' s₁ _ I' (fun _ _ e => e) (fun z => by cases z) wf _ rfl rfl (bare_set I'.bare hbare)
    · obtain ⟨h0, _⟩ := hp
      omega

/-- all(te for x in wi); the def's own table at P (it may have grown behind it) -/
def tAll (P : Addr) (wi : TI) (te : TE) : TE := fun σ H Q => wi σ H fun J H1 => GxR.TabG H1 P ∧ ∀ H2, GxR.Tabbed P H1 H2 → ∃ (n : Nat) (W : Nat → Hp → Prop), W 0 H2 ∧ ∀ i H, W i H →
  (i = n → J.stop i H ∧ Q (.bl true) H) ∧ (i < n → J.go i H ∧ ∀ x H', J.yld i H x H' → te [some x] H' fun y H3 => ∃ b, y = .bl b ∧ (b = true → W (i + 1) H3) ∧ (b = false → Q (.bl false) H3))

theorem pe_allG {c P : Addr} {elt iter : Expr} {x : Str} {px p pos gpos : Pos} {scope : Scope} {wi : TI} {te : TE} {k : Nat}
    (hr : Room (k + 3) X.A) (hg : Gl X "all") (hm : X.mg "all" = none) (hbt : bootBuiltins "all" = some (.builtin "all")) (TB : GxR.TabB X.base X.mg c P) (hcode : X.env.code = .ref c) (S : GScp scope x) (hi : PI X (.Name x px) iter wi)
    (hel : ∀ (s : Shared) (H : Hp) (A : Around) (C : Addr) (cd : Value) (fp : List Addr), Room k A → PE (gcx X s H x A (genEnv scope [] C cd builtinsNs X.env) fp) elt te)
    (hs : ∀ v, genFold iter X.env v = pure v)
    (he : starEach [.GeneratorExp elt [⟨.Name x px, iter, [], 0⟩] scope gpos] X.env = (false, eval (.GeneratorExp elt [⟨.Name x px, iter, [], 0⟩] scope gpos) X.env) :: starEach [] X.env := by rfl) :
    PE X (.Call (.Name "all" p) [.GeneratorExp elt [⟨.Name x px, iter, [], 0⟩] scope gpos] [] pos) (tAll P wi te) := by
  refine ⟨fun pins s σ H Q I h => ?_⟩
  have hr2 : Room (k + 1) X.A.in1.in1 := (hr : Room ((k + 2) + 1) X.A).in1.in1
  refine wpAny_Call_Name_kw (ld_blt I hg hm hbt ?_)
  refine PyProof.Rows.callWith_builtin1 ?_ he (by rfl)
  rw [he]
  show wpAny _ _ (spliced ((false, eval (.GeneratorExp elt [⟨.Name x px, iter, [], 0⟩] scope gpos) X.env) :: backTo pos (starEach [] X.env))) _ _ s
  refine Calls.spliced_cons ?_
  have hclos : closureFor scope X.env = pure [] := by
    have e := closure_ok (scope := scope) (env := X.env) fun y hy z => absurd z (S.plain y hy).2
    rw [clo_nil S] at e
    exact e
  refine wpAny_GeneratorExp_make S.co hclos (fun y hy => (S.plain y hy).1) S.dot S.kind (by have := hr.dp; omega) ?_ hs
  refine thn (hi.run pins s σ H _ I h) fun xv s1 h1 => thn h1 fun itv s2 h2 => ?_
  obtain ⟨it, fp, tn, J, H2, rfl, I2, T, st2, f2, ⟨ps, hP, ht⟩, q⟩ := h2
  refine ⟨I2.nolimit, ?_⟩
  have hPs : s2.heap.get? P = some { cls := .none, data := .fields ps } := I2.hok P _ hP
  have hPf : ∀ b ∈ fp, b ≠ P := fun b hb z => by
    have z1 := (f2 b hb).1
    rw [z, hP] at z1
    cases z1
  have cd : PySem.W.CodeHd s2.heap c P := TB.code.keeps fun b u e => I2.bk b u e
  have cont : ∀ (code : Value) (h3 : Heap) (tk : Nat) (ps' : Array Value), Heap.ExtBut P s2.heap h3 → s2.heap.objs.size ≤ h3.objs.size → h3.get? P = some { cls := .none, data := .fields ps' } → (∃ more, ps' = ps ++ more) → TriplesOk ps'.toList →
      wpAny (model X.prog X.w) X.A (builtinsFor X.env.globals X.env.builtins) (fun bi s₄ =>
        ∀ h', h'.Ns s₄.heap.objs.size (fun y => if y = ".0" then some (.ref it) else none) → Heap.SameBut s₄.heap.objs.size (s₄.heap.push { cls := .type "frame", data := .dict #[] }) h' →
          wpAny (model X.prog X.w) X.A (spliced (backTo pos (starEach [] X.env))) (fun vs s => wpAny (model X.prog X.w) X.A (call (.builtin "all") (.ref h'.objs.size :: vs)) (EP X pins σ Q) X.xe s) X.xe { s₄ with
            gens := s₄.gens.push (.fresh (.compStart (.GeneratorExp elt [⟨.Name x px, iter, [], 0⟩] scope gpos) 0 (.ref it) .none (genEnv scope [] s₄.heap.objs.size code bi X.env))),
            toks := s₄.toks + 1 + 1 + 1,
            heap := h'.push { cls := .type "generator", data := .fields #[.int s₄.gens.size 0, .str "<genexpr>" (s₄.toks + 1), .str (X.env.qual ++ "<genexpr>") (s₄.toks + 1 + 1)] } }) X.xe { s2 with heap := h3, toks := tk } := by
    intro code h3 tk ps' hx hsz hP3 hmore ht3
    obtain ⟨bm, ob, e1, e2, e3, e4, e5, e6, e7, e8⟩ := TB.bm
    obtain ⟨more, em⟩ := hmore
    have keep3 : ∀ b u, b ≠ P → s2.heap.get? b = some u → h3.get? b = some u := fun b u hb e => hx b u hb e
    refine wpAny_builtinsFor (m := X.mg) (by rw [I2.ok.glob]; exact (I2.mod.glob.keeps I2.bk).extBut hx TB.gP) e1 e2 (keep3 _ _ e4 (I2.bk _ _ e5)) e6 e7 e8 ?_
    intro h' hn' hs'
    have I4 : Inv X pins σ (upd H2 P (.tbl (ps ++ more))) { s2 with heap := h3, toks := tk } := GxR.inv_tab (g' := s2.gens) (d' := s2.drawn) I2 hP keep3 (by rw [← em]; exact hP3) I2.bare
    have tb : GxR.Tabbed P H2 (upd H2 P (.tbl (ps ++ more))) := ⟨⟨ps ++ more, upd_same, by rw [← em]; exact ht3⟩, fun b hb => upd_ne hb⟩
    obtain ⟨n, W, w0, step⟩ := q _ tb
    refine Calls.spliced_nil ?_
    generalize hgo : ({ cls := .type "generator", data := .fields #[.int s2.gens.size 0, .str "<genexpr>" (tk + 1), .str (X.env.qual ++ "<genexpr>") (tk + 1 + 1)] } : Obj) = go
    have hgc : go.cls = .type "generator" := by rw [← hgo]
    have hgd : go.data = .fields #[.int s2.gens.size 0, .str "<genexpr>" (tk + 1), .str (X.env.qual ++ "<genexpr>") (tk + 1 + 1)] := by rw [← hgo]
    have hgs : go.slots = #[] := by rw [← hgo]
    have hgp : (h'.push go).get? h'.objs.size = some go := by rw [← hgo]; exact Heap.get?_push_size _ rfl
    have hsz' : h'.objs.size = h3.objs.size + 1 := by rw [hs'.1]; exact Heap.size_push ..
    have keep' : ∀ b o, h3.get? b = some o → h'.get? b = some o := fun b o e => hs'.extBut b o (Nat.ne_of_lt (Heap.lt_size e)) (Heap.get?_push_of_some _ e)
    have kp : ∀ b o, h3.get? b = some o → (h'.push go).get? b = some o := fun b o e => Heap.get?_push_of_some _ (keep' b o e)
    have haC : h3.objs.size < h'.objs.size := by rw [hsz']; exact Nat.lt_succ_self _
    have f4 : ∀ b ∈ fp, FpOk X pins (upd H2 P (.tbl (ps ++ more))) b ∧ b < ({ s2 with heap := h3, toks := tk } : Shared).heap.objs.size := fun b hb => by
      obtain ⟨o, e, _⟩ := T.obj _ _ st2 b hb
      refine ⟨⟨by rw [upd_ne (hPf b hb)]; exact (f2 b hb).1, (f2 b hb).2⟩, ?_⟩
      exact Nat.lt_of_lt_of_le (Heap.lt_size e) hsz
    have nfp : ∀ b ∈ fp, (upd H2 P (.tbl (ps ++ more))) b = none := fun b hb => (f4 b hb).1.1
    have st5 : tn 0 (h'.push go) := T.keep _ _ _ st2 fun b hb o e => kp b o (keep3 b o (hPf b hb) e)
    have hfrm : (X.A.in1.in1.deeper (genEnv scope [] h3.objs.size code builtinsNs X.env)).frames = some (genEnv scope [] h3.objs.size code builtinsNs X.env :: X.stack) := Around.frames_deeper I2.ok.frames
    have I5 := gen_inv (x := x) (A := X.A.in1.in1.deeper (genEnv scope [] h3.objs.size code builtinsNs X.env)) (code := code) (fp := fp) (go := go) (a := h'.objs.size) (h5 := h'.push go)
      (g5 := s2.gens.push (.fresh (.compStart (.GeneratorExp elt [⟨.Name x px, iter, [], 0⟩] scope gpos) 0 (.ref it) .none (genEnv scope [] h3.objs.size code builtinsNs X.env)))) (tk5 := tk + 1 + 1 + 1) I4 S hfrm hr.hd f4 I2.ok.glob kp
      (hn'.push _) hgp haC (fun v z => by rw [hgd] at z; cases z) (AllBare.push I2.bare rfl)
    have pe := hel { s2 with heap := h3, toks := tk } (upd H2 P (.tbl (ps ++ more))) (X.A.in1.in1.deeper (genEnv scope [] h3.objs.size code builtinsNs X.env)) h3.objs.size code fp (hr2.deeper _)
    refine call_function_tree F.kind_all F.plain_all F.entry_all (F.args_all1 _) ?_
    unfold Builtin.«all»
    refine wpAny_bind (m := oneArg "all" _) (wpAny_pure ?_)
    have hgen : (h'.push go).IsGen h'.objs.size s2.gens.size := ⟨go, _, _, hgp, hgc, hgd, hgs⟩
    refine wpAny_bind (wpAny_pyIter_gen (a := h'.objs.size) (g := s2.gens.size) hgen ?_)
    refine wpAny_pure ⟨plainId_quiet F.plain_all_loop _, ?_⟩
    refine all_loop (XG := gcx X { s2 with heap := h3, toks := tk } (upd H2 P (.tbl (ps ++ more))) x (X.A.in1.in1.deeper (genEnv scope [] h3.objs.size code builtinsNs X.env)) (genEnv scope [] h3.objs.size code builtinsNs X.env) fp)
      (gp := [(h'.objs.size, go)]) (g := s2.gens.size) (n := n) (W := W) (Qt := fun H => Q (.bl true) H) (Qf := fun H => Q (.bl false) H) hr.hd (by have := hr.dp; omega)
      ⟨go, List.mem_singleton.mpr rfl, _, _, hgc, hgd, hgs⟩ (fun b σ' H' s' h9 I' k9 q1 q2 s9 e9 o9 b9 => ?_) n 0 _ (Nat.sub_zero _) (Nat.zero_le _) ⟨hgen, I5.nolimit, _, Array.getElem?_push_size .., rfl, ?_⟩ I5.bare
    · have u1 : Un (frs X.stack) fp (upd H2 P (.tbl (ps ++ more))) H' h3 s'.heap := I'.base
      have u2 : Un (frs X.stack) fp (upd H2 P (.tbl (ps ++ more))) H' h3 s9.heap := by rw [e9]; exact u1.trans (Un.kept k9)
      have J : Inv X pins σ H' s9 := I4.call' (ch := fp) (o9.trans I'.os) u2 (by rw [e9]; exact I'.hok.kept k9) b9 fun b hb => ⟨(f4 b hb).1.2.2.2.1, (f4 b hb).1.2.1, (f4 b hb).1.2.2.2.2.1, (f4 b hb).1.2.2.2.2.2⟩
      refine ⟨.bl b, H', J, rfl, ?_⟩
      cases b with
      | true => exact q1 rfl
      | false => exact q2 rfl
    · refine seg_all0 (XG := X) T st5 ?_
      have I6 := inv_same (s' := (({ s2 with heap := h'.push go, gens := s2.gens.push (.fresh (.compStart (.GeneratorExp elt [⟨.Name x px, iter, [], 0⟩] scope gpos) 0 (.ref it) .none (genEnv scope [] h3.objs.size code builtinsNs X.env))), toks := tk + 1 + 1 + 1 } : Shared).setGen s2.gens.size .running)) I5 rfl rfl (bare_set I5.bare rfl)
      exact seg_all S T pe (fun p hp b hb z => by
        have e : p = (h'.objs.size, go) := by simpa using hp
        subst e
        have h1 : b < h3.objs.size := (f4 b hb).2
        have h2 : h'.objs.size = b := z
        exact absurd (Nat.lt_trans haC (by rw [h2]; exact h1)) (Nat.lt_irrefl _)) step n 0 _ _ _ _ (Nat.sub_zero _) (Nat.zero_le _) I6 st5 nfp w0
  cases hf : codeAmong gpos ps.toList with
  | none =>
    refine wpAny_genexprCodeX hcode (cd.code hPs ht) (cd.tab hPs) hf fun c' h' tk hx hge hlt hco' _ htab' _ => ?_
    obtain ⟨o1, vs, f1, tf, fl, tg, inF, tx, tt, op, _, _, _, _, _, _, _, _, _, htr, _⟩ := hco'
    exact cont _ h' tk _ hx (Nat.le_trans hge (Nat.le_of_lt hlt)) htab'.2 ⟨_, rfl⟩ htr
  | some cv =>
    refine wpAny_genexprCode_hit hcode (cd.code hPs ht) hf ?_
    exact cont cv s2.heap s2.toks ps (Heap.ExtBut.refl _ _) (Nat.le_refl _) hPs ⟨#[], by simp⟩ ht
end
end CgA
set_option maxRecDepth 100000
set_option maxHeartbeats 2000000
/-! R2: sets of texts: a set comprehension of texts, sorted(set of texts). -/
namespace CgB
open PySem PySem.Spec PyProof.Rows L2 PpSet
theorem isStr_self (k : Str) (t : Tok) : Value.isStrOf k (.str k t) = true := by simp [Value.isStrOf]

/-! ### what a set of truth values is -/
def keyT (e : Int × Value) : Str := match e.2 with | .str k _ => k | _ => ⟨#[]⟩
def GoodT (w : World) (e : Int × Value) : Prop := ∃ k tk, e.2 = Value.str k tk ∧ e.1 = hashStr w k
/-- the set of texts at a: S its members, n their number; its table rises and can be walked -/
def SetT (w : World) (h : Heap) (a : Addr) (S : Str → Bool) (n : Nat) : Prop :=
  ∃ o es ep t, h.get? a = some o ∧ o.ExactSet ∧ o.data = .set es ep t ∧ (∀ e ∈ es.toList, GoodT w e) ∧ (es.toList.map keyT).Nodup ∧ (∀ k, S k = true ↔ k ∈ es.toList.map keyT) ∧
    es.size < scanBound ∧ t.fits es.size = true ∧ es.size = n ∧ Ris t.place.toList ∧ (w.params.followText "set-order" = true ∨ t.led = true)

section
variable {P : Program} {w : World} {h h' : Heap} {a : Addr} {S : Str → Bool} {n : Nat}

theorem SetT.at (R : SetT w h a S n) (k : ∀ o, h.get? a = some o → h'.get? a = some o) : SetT w h' a S n := by
  obtain ⟨o, es, ep, t, ho, r⟩ := R
  exact ⟨o, es, ep, t, k o ho, r⟩
theorem SetT.lt (R : SetT w h a S n) : a < h.objs.size := by
  obtain ⟨o, es, ep, t, ho, r⟩ := R
  exact Heap.lt_size ho
theorem SetT.congr {S' : Str → Bool} (R : SetT w h a S n) (e : ∀ k, S' k = S k) : SetT w h a S' n := by
  have q : S' = S := funext e
  rw [q]; exact R
theorem goodT_elems {l : List (Int × Value)} (g : ∀ e ∈ l, GoodT w e) : ElemsOf (PySem.strKind P w) l := fun e he => by
  obtain ⟨k, tk, h1, h2⟩ := g e he
  exact ⟨⟨k, by rw [h1]; exact isStr_self k tk, h2⟩, by rw [h1] <;> rfl⟩
theorem goodT_is {e : Int × Value} (g : GoodT w e) (k : Str) : (PySem.strKind P w).is k e.2 = true ↔ keyT e = k := by
  obtain ⟨k0, tk0, h1, _⟩ := g
  unfold keyT
  rw [h1]
  show ((k0 == k) = true) ↔ k0 = k
  exact beq_iff_eq
theorem goodT_mem {l : List (Int × Value)} (g : ∀ e ∈ l, GoodT w e) (k : Str) : k ∈ l.map keyT ↔ ∃ e ∈ l, (PySem.strKind P w).is k e.2 = true := by
  rw [List.mem_map]
  constructor
  · rintro ⟨e, he, q⟩
    exact ⟨e, he, (goodT_is (g e he) k).2 q⟩
  · rintro ⟨e, he, q⟩
    exact ⟨e, he, (goodT_is (g e he) k).1 q⟩
theorem SetT.setOf (R : SetT w h a S n) : h.SetOf (PySem.strKind P w) a S n := by
  obtain ⟨o, es, ep, t, ho, hx, hd, g, nd, hm, hb, hf, hn, _⟩ := R
  exact ⟨o, es, ep, t, ho, hx, hd, goodT_elems g, fun k => (hm k).trans (goodT_mem g k), hb, hf, hn⟩
end

section
variable {P : Program} {w : World} {A : Around} {E : Value → Shared → Prop} {s : Shared} {a : Addr} {S : Str → Bool} {n : Nat}

/-! ### add -/
theorem storeT_at {h : Heap} {a : Addr} {o : Obj} {es es' : Array (Int × Value)} {ep : Nat} {t t' : SetTable} (ho : h.get? a = some o) (hd : o.data = .set es ep t) :
    (h.update a (Obj.putSet es' t')).get? a = some { o with data := .set es' (ep + 1) t' } := by
  have q := Heap.get?_update_self (Obj.putSet es' t') ho (by rw [putSet_of es' t' hd]; rfl)
  rw [putSet_of es' t' hd] at q
  exact q

theorem setT_add_tail {g : Bool → Sem Unit} (hg : ∀ (b : Bool) (s₁ : Shared) (Q' : Unit → Shared → Prop), Q' () s₁ → wpAny (model P w) A (g b) Q' E s₁)
    {o : Obj} {es : Array (Int × Value)} {ep : Nat} {t : SetTable} (ho : s.heap.get? a = some o) (hex : o.ExactSet) (hd : o.data = .set es ep t)
    {es1 : Array (Int × Value)} {t2 : SetTable} {S' : Str → Bool} (g1 : ∀ e ∈ es1.toList, GoodT w e) (nd1 : (es1.toList.map keyT).Nodup) (m1 : ∀ k, S' k = true ↔ k ∈ es1.toList.map keyT)
    (hb1 : es1.size < scanBound) (hf2 : t2.fits es1.size = true) (hr : Ris t2.place.toList) (hl : w.params.followText "set-order" = true ∨ t2.led = true) {wasDummy : Bool} {R : Option Bool → Shared → Prop}
    (hR : ∀ h', Heap.SameBut a s.heap h' → SetT w h' a S' es1.size → R (some true) { s with heap := h' }) :
    wpAny (model P w) A (do
        storeSet a es1 t2
        if (!wasDummy && t2.tooFull) = true then do
            g (relayAll t2 es1 (SetTable.grown es1.size)).2.2
            storeSet a (relayAll t2 es1 (SetTable.grown es1.size)).1 (relayAll t2 es1 (SetTable.grown es1.size)).2.1
            pure (some true)
          else pure (some true)) R E s := by
  refine wpAny_bind (wpAny_storeSet_of ho hd ?_ (fits_of_scanBound hb1))
  have ho1 := storeT_at (es' := es1) (t' := t2) ho hd
  have sb1 := Heap.SameBut.update s.heap a (Obj.putSet es1 t2)
  split
  · have pm := relayAll_perm t2 es1 (SetTable.grown es1.size)
    have hf3 := relayAll_fits t2 es1 (SetTable.grown es1.size)
    have hr3 := relayAll_ris t2 es1 (SetTable.grown es1.size)
    have hl3 := relayAll_led t2 es1 (SetTable.grown es1.size)
    generalize relayAll t2 es1 (SetTable.grown es1.size) = Z at pm hf3 hr3 hl3 ⊢
    obtain ⟨es2, t3, gave⟩ := Z
    dsimp only at pm hf3 hr3 hl3 ⊢
    have hsz : es2.size = es1.size := by rw [← Array.length_toList, pm.length_eq, Array.length_toList]
    have hb2 : es2.size < scanBound := by rw [hsz]; exact hb1
    refine wpAny_bind (hg _ _ _ ?_)
    refine wpAny_bind (wpAny_storeSet_of ho1 rfl ?_ (fits_of_scanBound hb2))
    have ho2 := storeT_at (es' := es2) (t' := t3) ho1 rfl
    refine wpAny_pure (hR _ (sb1.trans (Heap.SameBut.update _ a _)) ?_)
    exact ⟨_, es2, _, t3, ho2, hex, rfl, fun e he => g1 e (pm.mem_iff.mp he), (pm.map keyT).nodup_iff.mpr nd1, fun k => (m1 k).trans (pm.map keyT).mem_iff.symm, hb2, hf3, hsz, hr3,
      hl.imp id fun z => by rw [hl3]; exact z⟩
  · exact wpAny_pure (hR _ sb1 ⟨_, es1, _, t2, ho1, hex, rfl, g1, nd1, m1, hb1, hf2, rfl, hr, hl⟩)

theorem setT_add_hashed {k : Str} {tk : Tok} {Q : Bool → Shared → Prop} (R : SetT w s.heap a S n) (room : n + 1 < scanBound)
    (hQ : ∀ h', Heap.SameBut a s.heap h' → SetT w h' a (fun j => S j || decide (j = k)) (if S k = true then n else n + 1) → Q (!S k) { s with heap := h' }) :
    wpAny (model P w) A (setAddHashed a (.str k tk) ((PySem.strKind P w).hash k)) Q E s := by
  obtain ⟨o, es, ep, t, ho, hex, hd, g, nd, hm, hb, hf, hn, hr, hl⟩ := R
  have hkey : (PySem.strKind P w).is k (.str k tk) = true := isStr_self k tk
  have hsc : (Value.str k tk).scannable = true := rfl
  have hel : ElemsOf (PySem.strKind P w) es.toList := goodT_elems g
  unfold setAddHashed setAddHashedIn
  refine wpAny_holding (wpAny_bind (wpAny_setState_of ho hd hf ?_))
  dsimp only
  rw [byScan_of hsc hb hel]
  simp only [↓reduceIte]
  unfold setAddByScan
  refine wpAny_bind ?_
  refine wpAny_bind (wpAny_rule ?_)
  refine wpAny_bind (wpAny_setScan_of hkey ho hd hf hel ?_)
  cases hfi : List.findIdx? (fun e => (PySem.strKind P w).is k e.2) es.toList with
  | some j =>
    dsimp only
    obtain ⟨hj, pj, _⟩ := List.findIdx?_eq_some_iff_getElem.mp hfi
    have hSk : S k = true := (hm k).2 ((goodT_mem (P := P) (w := w) g k).2 ⟨es.toList[j], List.getElem_mem hj, pj⟩)
    refine wpAny_pure (wpAny_pure ?_)
    have q := hQ s.heap (Heap.SameBut.refl a s.heap) ⟨o, es, ep, t, ho, hex, hd, g, nd, fun i => by
      rw [Bool.or_eq_true, decide_eq_true_eq, ← hm i]
      exact ⟨fun z => z.elim id (fun e => e ▸ hSk), .inl⟩, hb, hf, by rw [if_pos hSk]; exact hn, hr, hl⟩
    rw [hSk] at q
    exact q
  | none =>
    dsimp only
    have hnk : k ∉ es.toList.map keyT := fun z => by
      obtain ⟨e, he, q⟩ := (goodT_mem (P := P) (w := w) g k).1 z
      have c := List.findIdx?_eq_none_iff.mp hfi e he
      rw [q] at c
      cases c
    have hSk : S k = false := by
      cases q : S k with
      | false => rfl
      | true => exact absurd ((hm k).1 q) hnk
    have hgw : ∀ (b : Bool) {s₁ : Shared} {Q' : Unit → Shared → Prop}, Q' () s₁ → wpAny (model P w) A (match b with | true => rule "set.scan.the-table-gave-way" | false => pure ()) Q' E s₁ :=
      fun b s₁ Q' q => by cases b <;> first | exact wpAny_pure q | exact wpAny_rule q
    have pm := layNew_perm t es ((PySem.strKind P w).hash k) (.str k tk)
    have hf1 := layNew_fits t es ((PySem.strKind P w).hash k) (.str k tk)
    have hr1 := layNew_ris t es ((PySem.strKind P w).hash k) (.str k tk) hr
    have hl1 := layNew_led t es ((PySem.strKind P w).hash k) (.str k tk)
    generalize layNew t es ((PySem.strKind P w).hash k) (.str k tk) = Z at pm hf1 hr1 hl1 ⊢
    obtain ⟨es1, t1, wasDummy, gave⟩ := Z
    dsimp only at pm hf1 hr1 hl1 ⊢
    rw [Array.toList_push] at pm
    have pc : es1.toList.Perm (((PySem.strKind P w).hash k, Value.str k tk) :: es.toList) := pm.trans (List.perm_append_singleton _ _)
    have pk : (es1.toList.map keyT).Perm (k :: es.toList.map keyT) := pc.map keyT
    have g1 : ∀ e ∈ es1.toList, GoodT w e := fun e he => by
      rcases List.mem_cons.mp (pc.mem_iff.mp he) with z | z
      · rw [z]; exact ⟨k, tk, rfl, rfl⟩
      · exact g e z
    have nd1 : (es1.toList.map keyT).Nodup := pk.nodup_iff.mpr (List.nodup_cons.mpr ⟨hnk, nd⟩)
    have m1 : ∀ i, (S i || decide (i = k)) = true ↔ i ∈ es1.toList.map keyT := fun i => by
      rw [Bool.or_eq_true, decide_eq_true_eq, hm i, pk.mem_iff, List.mem_cons]
      exact Or.comm
    have hsz : es1.size = n + 1 := by rw [← Array.length_toList, pc.length_eq, List.length_cons, Array.length_toList, hn]
    have hb1 : es1.size < scanBound := by rw [hsz]; exact room
    have hled : w.params.followText "set-order" = true ∨ t1.led = true := hl.imp id fun z => by rw [hl1]; exact z
    have fin : ∀ h', Heap.SameBut a s.heap h' → SetT w h' a (fun j => S j || decide (j = k)) es1.size → Q true { s with heap := h' } := fun h' sb r => by
      have q := hQ h' sb
      rw [hSk] at q
      rw [hsz] at r
      exact q r
    refine wpAny_bind (hgw _ ?_)
    split
    · refine wpAny_bind ?_
      rw [hashByValue_scannable 8 hsc]
      refine wpAny_pure ?_
      refine setT_add_tail ?_ ho hex hd g1 nd1 m1 hb1 ?_ ?_ ?_ ?_
      · intro b s₁ Q' q; cases b <;> first | exact wpAny_pure q | exact wpAny_rule q
      · first | (split <;> first | exact hf1 | exact SetTable.fits_plain_off hf1) | exact hf1
      · first | (split <;> exact hr1) | exact hr1
      · first | (split <;> exact hled) | exact hled
      · intro h' sb r; dsimp only; exact wpAny_pure (fin h' sb r)
    · refine wpAny_bind (wpAny_pure ?_)
      simp only [↓reduceIte]
      refine setT_add_tail ?_ ho hex hd g1 nd1 m1 hb1 hf1 hr1 hled ?_
      · intro b s₁ Q' q; cases b <;> first | exact wpAny_pure q | exact wpAny_rule q
      · intro h' sb r; dsimp only; exact wpAny_pure (fin h' sb r)

/-- found.add(k) -/
theorem setT_add {k : Str} {tk : Tok} {Q : Value → Shared → Prop} (R : SetT w s.heap a S n) (room : n + 1 < scanBound)
    (hQ : ∀ h', Heap.SameBut a s.heap h' → SetT w h' a (fun j => S j || decide (j = k)) (if S k = true then n else n + 1) → Q .none { s with heap := h', toks := s.toks + 1 }) :
    wpAny (model P w) A (call (.builtin "set.add") [.ref a, .str k tk]) Q E s := by
  have hS : s.heap.SetOf (PySem.strKind P w) a S n := R.setOf
  refine wpAny_call_entry F.slot_set_add hS.typeIs F.entry_set_add ?_ (F.args_set_add_2 _ _)
  unfold Builtin.«set.add» Builtin.Frozenset.oneOther
  simp only [List.isEmpty_nil, bind_assoc]
  unfold Builtin.Frozenset.addrOf setAdd
  refine wpAny_bind (wpAny_pure ?_)
  try dsimp only
  refine wpAny_bind (wpAny_pure ?_)
  try dsimp only
  refine wpAny_bind ?_
  refine wpAny_holding ?_
  refine wpAny_bind ((PySem.strKind P w).pyHash (isStr_self k tk) ?_)
  refine setT_add_hashed (s := { s with toks := s.toks + 1 }) R room fun h' sb r => ?_
  show wpAny _ _ (ret Value.none) _ _ _
  exact wpAny_pure ⟨_, rfl, hQ h' sb r⟩

end
section
variable {P : Program} {w : World} {A : Around} {E : Value → Shared → Prop} {s : Shared}
/-! ### a new set -/
theorem setT_fresh {h : Heap} (w : World) : SetT w (h.push { cls := .type "set", dict := none, data := .set #[] 0 (.fresh 0 0 (!w.params.followText "set-order")) }) h.objs.size (fun _ => false) 0 :=
  ⟨_, #[], 0, _, Heap.get?_push_size _ rfl, ⟨rfl, rfl, rfl⟩, rfl, (fun e he => by simp at he), (by simp), (fun k => by simp), (by decide), (by rfl), rfl, List.Pairwise.nil, by
    show _ ∨ (!w.params.followText "set-order") = true
    cases w.params.followText "set-order"
    · exact .inr rfl
    · exact .inl rfl⟩

end
/-! ### as tracked things -/
/-- the set of truth values at a -/
def SetTO (w : World) (a : Addr) (S : Str → Bool) (n : Nat) : HO := .ext fun h => SetT w h a S n
theorem setTO_new {w : World} {P : Program} {H : Hp} {h : Heap} {a : Addr} {S : Str → Bool} {n : Nat} (R : SetT w h a S n) : ObjOk P w H h a (SetTO w a S n) := by
  have ⟨o, _, _, _, ho, _⟩ := R
  exact ⟨R, ⟨o, ho⟩, fun h1 h2 p k => SetT.at p k⟩
section
variable {X : Cx}
theorem setTO_get {pins : List (Addr × Obj)} {σ : L2.St} {H : Hp} {s : Shared} {a : Addr} {S : Str → Bool} {n : Nat} (I : Inv X pins σ H s) (ha : H a = some (SetTO X.w a S n)) : SetT X.w s.heap a S n := (I.hok a _ ha).1
/-- set.add of a truth value -/
theorem addT_ok {pins : List (Addr × Obj)} {σ : L2.St} {H : Hp} {s : Shared} {E : Value → Shared → Prop} {D : Addr} {S : Str → Bool} {n : Nat} {y : Str} {tk : Tok} {Q : Value → Shared → Prop} (I : Inv X pins σ H s) (hD : H D = some (SetTO X.w D S n)) (room : n + 1 < scanBound)
    (h : ∀ s', Inv X pins σ (upd H D (SetTO X.w D (fun j => S j || decide (j = y)) (if S y = true then n else n + 1))) s' → Q .none s') : wpAny (model X.prog X.w) X.A (call (.builtin "set.add") [.ref D, .str y tk]) Q E s := by
  have R := setTO_get I hD
  refine setT_add R room fun h' sb new => ?_
  have he : ∃ u, h'.get? D = some u := by
    have ⟨o, _, _, _, ho, _⟩ := new
    exact ⟨o, ho⟩
  exact h _ (I.write (e := D) (t' := s.toks + 1) (by rw [hD]; trivial) (.inl rfl) (fun b u hb hu => (sb.2 b hb).trans hu) he (setTO_new new))
end
section
variable {X : Cx}
/-- {elt for target in iter if ..}, elt a truth value: D the new set -/
def tScT (w : World) (wi : TI) (g : TG) (tt : TT) (te : TE) (vs : List Nat) : TE := fun σ H Q => wi σ H fun J H1 => ∀ D, H1 D = none → ∃ W : Nat → Nat → Hp → Prop, (∃ m, W 0 m (upd H1 D (SetTO w D (fun _ => false) 0))) ∧ ∀ i m H, W i m H →
  (J.stop i H ∧ Q (.ref D) H) ∨ (J.go i H ∧ ∃ Nx : Hp → Prop, (∀ H', Nx H' → ∃ m', m' < m ∧ W (i + 1) m' H') ∧ ∀ x H', J.yld i H x H' → g x (wipe σ vs) H' fun σ2 H2 => wipe σ2 vs = wipe σ vs ∧ tt σ2 H2 fun b H3 =>
    if b = true then te σ2 H3 fun y H4 => ∃ (c : Str) (S : Str → Bool) (n : Nat), y = .str c ∧ H4 D = some (SetTO w D S n) ∧ n + 1 < scanBound ∧ Nx (upd H4 D (SetTO w D (fun j => S j || decide (j = c)) (if S c = true then n else n + 1))) else Nx H3)
theorem scT_core {pins : List (Addr × Obj)} {s : Shared} {σ : L2.St} {H : Hp} {Q : VK} {elt tg iter : Expr} {ifs : List Expr} {scope : Scope} {own : List (PySem.Str × Nat)} {pos pos' : Pos} {wi : TI} {g : TG} {tt : TT} {te : TE} {use : Option (Value → Sem Unit)} {Qf : Value → Shared → Prop}
    (hc : X.calm = true) (hN : X.N.Nodup) (I : Inv X pins σ H s) (hi : PI X tg iter wi) (ok : BlkOk X.N X.env.scope scope own)
    (hg : ∀ (s : Shared) (H : Hp) (C : Addr) (cl : List (PySem.Str × Addr)) (fp : List Addr), PG (X.blk s H scope (compEnvC scope cl C X.env) fp) tg g) (ht : ∀ (s : Shared) (H : Hp) (C : Addr) (cl : List (PySem.Str × Addr)) (fp : List Addr), PTs (X.blk s H scope (compEnvC scope cl C X.env) fp) ifs tt)
    (he : ∀ (s : Shared) (H : Hp) (C : Addr) (cl : List (PySem.Str × Addr)) (fp : List Addr), PE (X.blk s H scope (compEnvC scope cl C X.env) fp) elt te) (hs : ∀ x, foldedSetIterable iter X.env x = pure x)
    (h : tScT X.w wi g tt te (own.map (·.2)) σ H Q)
    (hRR : ∀ D C s' m H', Inv X pins σ H' s' → Q (.ref D) H' → s'.heap.Ns C m → FpOk X pins H' C → compPost (model X.prog X.w) X.A X.xe use Qf (.ref D) C (.ok .next) s') :
    wpAny (model X.prog X.w) X.A (comprehension (.SetComp elt [⟨tg, iter, ifs, 0⟩] scope pos) scope X.env pos' (newSet (.type "set")) false (eval iter X.env) use) Qf X.xe s := by
  have hfree : ∀ y ∈ scope.names, y.2 = .free → ∃ c, X.env.cells.lookup y.1 = some c := fun y hy e => by
    rcases ok.free y hy e with k | k
    · exact I.ok.has _ (.inl k)
    · exact I.ok.has _ (.inr k)
  refine wpAny_comprehension_free (use := use) rfl hs (closure_ok hfree) ok.kind (fun y hy e => by rw [ok.uniq y hy, e])
    (thn (hi.run pins s σ H _ I h) fun xv s1 hx => thn hx fun itv s2 h2 => ?_)
  obtain ⟨it, fp, tn, J, H2, e, I2, T, st2, f2, q⟩ := h2
  subst e
  refine newSet_ok (newEnv_comp ?_)
  generalize hD : s2.heap.objs.size = D
  have hDn : H2 D = none := I2.hok.fresh (Nat.le_of_eq hD)
  obtain ⟨W, ⟨m0, w0⟩, turn⟩ := q D hDn
  -- the new list
  generalize hs3 : ({ s2 with heap := s2.heap.push { cls := .type "set", dict := none, data := .set #[] 0 (.fresh 0 0 (!X.w.params.followText "set-order")) } } : Shared) = s3
  have I3 : Inv X pins σ (upd H2 D (SetTO X.w D (fun _ => false) 0)) s3 := by
    rw [← hs3]
    refine I2.laid (t' := s2.toks) (fun b o e => Heap.get?_push_of_some _ e) (Nat.le_of_eq hD) ?_
    rw [← hD]
    exact setTO_new (setT_fresh X.w)
  have h3 : s3.heap = s2.heap.push { cls := .type "set", dict := none, data := .set #[] 0 (.fresh 0 0 (!X.w.params.followText "set-order")) } := by rw [← hs3]
  have sz : ∀ b ∈ fp, b < s2.heap.objs.size := fun b hb => by
    obtain ⟨o, e, _⟩ := T.obj _ _ st2 b hb
    exact Heap.lt_size e
  have f3 : ∀ b ∈ fp, FpOk X pins (upd H2 D (SetTO X.w D (fun _ => false) 0)) b ∧ b < s3.heap.objs.size := fun b hb => by
    have hlt := sz b hb
    refine ⟨⟨?_, (f2 b hb).2⟩, by rw [h3, Heap.size_push]; exact Nat.lt_succ_of_lt hlt⟩
    rw [upd_ne (by rw [← hD]; exact Nat.ne_of_lt hlt)]
    exact (f2 b hb).1
  have st3 : tn 0 s3.heap := T.keep _ _ _ st2 fun b _ o e => by rw [h3]; exact Heap.get?_push_of_some _ e
  have I4 := block_start I3 ok hN f3
  have pg := hg s3 (upd H2 D (SetTO X.w D (fun _ => false) 0)) s3.heap.objs.size (cellsFrom (s3.heap.objs.size + 1) scope.names (cloFrom X.env.cells scope.names [])) fp
  have pt := ht s3 (upd H2 D (SetTO X.w D (fun _ => false) 0)) s3.heap.objs.size (cellsFrom (s3.heap.objs.size + 1) scope.names (cloFrom X.env.cells scope.names [])) fp
  have pe := he s3 (upd H2 D (SetTO X.w D (fun _ => false) 0)) s3.heap.objs.size (cellsFrom (s3.heap.objs.size + 1) scope.names (cloFrom X.env.cells scope.names [])) fp
  show codeAny _ _ (.compStart (.SetComp elt [⟨tg, iter, ifs, 0⟩] scope pos) 0 (.ref it) (.ref D) (compEnvC scope (cellsFrom (s3.heap.objs.size + 1) scope.names (cloFrom X.env.cells scope.names [])) s3.heap.objs.size X.env)) (compPost (model X.prog X.w) X.A X.xe use Qf (.ref D) s3.heap.objs.size) { s3 with heap := pushCells (s3.heap.push { cls := .type "dict", data := .dict #[] }) scope.names }
  have nfp : ∀ b ∈ fp, (upd H2 D (SetTO X.w D (fun _ => false) 0)) b = none := fun b hb => (f3 b hb).1.1
  generalize hce : compEnvC scope (cellsFrom (s3.heap.objs.size + 1) scope.names (cloFrom X.env.cells scope.names [])) s3.heap.objs.size X.env = ce at I4 pg pt pe ⊢
  have cL : ce.locals = s3.heap.objs.size := by subst hce; rfl
  generalize hH3 : upd H2 D (SetTO X.w D (fun _ => false) 0) = H3 at I3 I4 pg pt pe w0 nfp f3
  generalize hs4 : ({ s3 with heap := pushCells (s3.heap.push { cls := .type "dict", data := .dict #[] }) scope.names } : Shared) = s4 at I4 ⊢
  have st4 : tn 0 s4.heap := T.keep _ _ _ st3 fun b _ o e => by rw [← hs4]; exact pushCells_keeps _ _ _ _ (Heap.get?_push_of_some _ e)
  have stat : ∀ {σ' : L2.St} {H' : Hp} {s' : Shared}, Inv (X.blk s3 H3 scope ce fp) [] σ' H' s' → (∀ b ∈ fp, H' b = none) → ∀ b ∈ fp, FpOk (X.blk s3 H3 scope ce fp) [] H' b := fun {σ' H' s'} I' hn b hb =>
    ⟨hn b hb, (I'.ok.exf b hb).1, I'.ok.exfs b hb, .inl hb, fun x c e => (I'.ok.exf b hb).2 x c e, fun p hp => absurd (show p ∈ ([] : List (Addr × Obj)) ++ [] from hp) (by simp)⟩
  have loop : codeAny (model X.prog X.w) X.A (.compLoop (.SetComp elt [⟨tg, iter, ifs, 0⟩] scope pos) 0 (.ref it) (.ref D) ce) (compPost (model X.prog X.w) X.A X.xe use Qf (.ref D) s3.heap.objs.size) s4 := by
    refine compLoopS_any (fun n s' => ∃ i H', Inv (X.blk s3 H3 scope ce fp) [] (wipe σ (own.map (·.2))) H' s' ∧ tn i s'.heap ∧ (∀ b ∈ fp, H' b = none) ∧ W i n H') ?_ m0 ⟨0, H3, I4, st4, nfp, w0⟩
    rintro n s5 ⟨i, H5, I5, st5, n5, w5⟩
    rcases turn i n H5 w5 with ⟨stop, qq⟩ | ⟨go, Nx, hNx, step⟩
    · have td := T.done (X.blk s3 H3 scope ce fp) rfl rfl rfl hc i [] s5 _ H5 (fun _ _ => False) I5 (stat I5 n5) st5 stop
      refine thnF td fun r s6 ⟨hr, I6⟩ => ?_
      subst hr
      -- back in the def's context
      have I7 : Inv X pins σ H5 s6 := I3.call' (ch := fp) I6.os I6.base I6.hok I6.bare fun b hb => ⟨(f3 b hb).1.2.2.2.1, (f3 b hb).1.2.1, (f3 b hb).1.2.2.2.2.1, (f3 b hb).1.2.2.2.2.2⟩
      have nC : H5 s3.heap.objs.size = none := by
        have z : H5 ce.locals = none := I6.free
        rw [cL] at z
        exact z
      obtain ⟨m, hn, _⟩ := I6.loc
      have hn : s6.heap.Ns ce.locals m := hn
      rw [cL] at hn
      exact hRR D s3.heap.objs.size s6 m H5 I7 qq hn (I3.fpOk (Nat.le_refl _) nC)
    · have ti := T.item (X.blk s3 H3 scope ce fp) rfl rfl rfl hc i [] s5 _ H5 (fun _ _ => False) I5 (stat I5 n5) st5 go
      refine thnF ti fun r s6 ⟨u, hr, h6⟩ => ?_
      subst hr
      refine thnF h6 fun _ s7 ⟨x, H7, I7, r7, y7, st7, n7⟩ => ?_
      have I7' := I7.pinned (stat I7 n7) (T.obj _ _ st7)
      refine thnF (pg.run _ s7 _ H7 x u _ I7' r7 (step x H7 y7)) fun _ s8 ⟨σ8, H8, I8, hw8, q8⟩ => ?_
      refine thnF (pt.run _ s8 σ8 H8 _ I8 q8) fun b s9 ⟨H9, I9, q9⟩ => ?_
      -- the turn's end
      have fin : ∀ {s' : Shared} {H' : Hp}, Inv (X.blk s3 H3 scope ce fp) ([] ++ pinsAt fp s7.heap) σ8 H' s' → Nx H' → ∃ m, m < n ∧ ∃ i H', Inv (X.blk s3 H3 scope ce fp) [] (wipe σ (own.map (·.2))) H' s' ∧ tn i s'.heap ∧ (∀ b ∈ fp, H' b = none) ∧ W i m H' := fun {s' H'} I' nx => by
        obtain ⟨m', hm, w'⟩ := hNx H' nx
        have pin' : ∀ b ∈ fp, ∀ o, s7.heap.get? b = some o → s'.heap.get? b = some o ∧ H' b = none := fun b hb o e =>
          let z := I'.pin (b, o) (List.mem_append_right _ (List.mem_append_right _ (mem_pinsAt hb e)))
          ⟨z.1, z.2.1⟩
        have hl : (wipe σ (own.map (·.2))).length = σ8.length := by rw [← hw8, wipe_length]
        refine ⟨m', hm, i + 1, H', (I'.unpinned (pins := [])).weak hl (fun j v e => ?_), T.keep _ _ _ st7 fun b hb o e => (pin' b hb o e).1, fun b hb => ?_, w'⟩
        · rw [← hw8] at e
          exact (wipe_some e).1
        · obtain ⟨o, e, _⟩ := T.obj _ _ st7 b hb
          exact (pin' b hb o e).2
      cases b with
      | false =>
        simp only [Bool.false_eq_true, if_false] at q9 ⊢
        exact fin I9 q9
      | true =>
        simp only [if_true] at q9 ⊢
        refine thnF (pe.run _ s9 σ8 H9 _ I9 q9) fun z s10 ⟨yv, H10, I10, r10, cb, S0, n0, ey, hD10, hz10, nx⟩ => ?_
        subst ey
        obtain ⟨tk, rfl⟩ := (show ∃ tk, z = Value.str cb tk from r10)
        exact addT_ok (X := X.blk s3 H3 scope ce fp) I10 hD10 hz10 fun s11 I11 => fin I11 nx
  exact codeAny_compStart_set loop (T.self X.A 0 _ _ _ st4 loop)
/-- as a value -/
theorem pe_scT {elt tg iter : Expr} {ifs : List Expr} {scope : Scope} {own : List (PySem.Str × Nat)} {pos : Pos} {wi : TI} {g : TG} {tt : TT} {te : TE} (hc : X.calm = true) (hN : X.N.Nodup) (hi : PI X tg iter wi) (ok : BlkOk X.N X.env.scope scope own)
    (hg : ∀ (s : Shared) (H : Hp) (C : Addr) (cl : List (PySem.Str × Addr)) (fp : List Addr), PG (X.blk s H scope (compEnvC scope cl C X.env) fp) tg g) (ht : ∀ (s : Shared) (H : Hp) (C : Addr) (cl : List (PySem.Str × Addr)) (fp : List Addr), PTs (X.blk s H scope (compEnvC scope cl C X.env) fp) ifs tt)
    (he : ∀ (s : Shared) (H : Hp) (C : Addr) (cl : List (PySem.Str × Addr)) (fp : List Addr), PE (X.blk s H scope (compEnvC scope cl C X.env) fp) elt te) (hs : ∀ x, foldedSetIterable iter X.env x = pure x := by intro _; rfl) :
    PE X (.SetComp elt [⟨tg, iter, ifs, 0⟩] scope pos) (tScT X.w wi g tt te (own.map (·.2))) := by
  refine ⟨fun pins s σ H Q I h => ?_⟩
  rw [eval_SetComp]
  refine scT_core hc hN I hi ok hg ht he hs h fun D C s' m H' I' q hn f => ⟨m, hn, fun h'' sb => ?_⟩
  obtain ⟨f0, f1, f2, f3, f4, f5⟩ := f
  exact ⟨.ref D, H', I'.turned (t' := s'.toks) (fun b o hb e => (sb.2 b hb).trans e) f0 f1 f3 f4 f5, rfl, q⟩
end

/-- sorted(s) of a set of fewer than 64 texts -/
theorem strs_of : ∀ (w : World) (l : List Value), (∀ v ∈ l, ∃ k tk, v = Value.str k tk) → ∃ ks : List Str, StrsAre l ks ∧ ks = l.map (fun v => keyT (0, v))
  | w, [], _ => ⟨[], .nil, rfl⟩
  | w, v :: l, h => by
    obtain ⟨k, tk, rfl⟩ := h v List.mem_cons_self
    obtain ⟨ks, a, b⟩ := strs_of w l fun u hu => h u (List.mem_cons_of_mem _ hu)
    exact ⟨k :: ks, .cons k tk a, by rw [b]; rfl⟩
theorem call_sortedT {X : Cx} (hcalm : X.calm = true) : CallR X (.builtin "sorted") (fun xs H Q => ∃ (a : Addr) (S : Str → Bool) (n : Nat), xs = [.ref a] ∧ H a = some (SetTO X.w a S n) ∧ n < 64 ∧
    ∀ ys p, ys.Nodup → (∀ k, k ∈ ys ↔ S k = true) → ys.length = n → sortedS ys = true → H p = none → Q (.ref p) (upd H p (.lst (ys.map V.str)))) := by
  intro pins s σ H xs us Q I r q
  obtain ⟨a, S, n, ex, ha, h64, q⟩ := q
  subst ex
  obtain ⟨u, eu, rx⟩ := vals1 r
  subst eu
  cases rx
  obtain ⟨o, es, ep, t, ho, hex, hd, g, nd, hm, hb, hf, hn, hr, hl⟩ := setTO_get I ha
  refine Calls.call_function_entry PyProof.Rows.kind_sorted PyProof.Rows.plain_sorted PyProof.Rows.entry_sorted (PyProof.Rows.args_sorted1 _) ?_
  unfold Builtin.«sorted»
  refine wpAny_bind (m := checkCount "sorted" 1 1 _) (wpAny_pure ?_)
  refine wpAny_bind (collect_set (A := X.A.in1) (I.ok.hd hcalm) ⟨o, ho, hex.1, hd⟩ hf hb hr hl fun s1 vs k1 hz g1 o1 pm => ?_)
  have hvl : vs.length = n := by rw [pm.length_eq, List.length_map, Array.length_toList]; exact hn
  obtain ⟨ks, hS, eks⟩ := strs_of X.w vs fun v hv => by
    obtain ⟨e, he, q⟩ := List.mem_map.mp (pm.mem_iff.mp hv)
    obtain ⟨k, tk, h1, _⟩ := g e he
    exact ⟨k, tk, by rw [← q]; exact h1⟩
  have pk : ks.Perm (es.toList.map keyT) := by
    have q := pm.map (fun v => keyT (0, v))
    rw [List.map_map] at q
    rw [eks]
    exact q
  have I1 : Inv X pins σ H s1 := I.call' (ch := []) o1 (Un.kept k1) (I.hok.kept k1) (by rw [g1]; exact I.bare) (fun _ z => nomatch z)
  refine wpAny_bind (wpAny_newList ?_ (by rw [hvl, sizeLine_eq]; omega))
  have hoL : (s1.heap.push (seqObj "list" vs.toArray 0)).get? s1.heap.objs.size = some (seqObj "list" vs.toArray 0) := Heap.get?_push_size _ rfl
  refine wpAny_bind (wpAny_holding (wpAny_call_entry PyProof.Rows.slot_list_sort ⟨_, hoL, rfl⟩ PyProof.Rows.entry_list_sort
    (list_sort_treeK strKind_oneLt hoL hS.keysOf (fun v₁ v₂ rest e => keyKind_strs (by rw [← e]; exact hS)) (by rw [hvl]; exact h64) fun st' hp hs => ⟨_, rfl, ?_⟩)
    (PyProof.Rows.args_list_sort _)))
  obtain ⟨ys, b1, b2, b3⟩ := sorted_out_str hS hp hs
  obtain ⟨e', he'⟩ := PyProof.Rows.sortedHeap_at (vs := vs) (out := (arrOf st').map (·.2)) hoL
  have pn : ys.Perm (es.toList.map keyT) := b2.trans pk
  have hyl : ys.length = n := by rw [pn.length_eq, List.length_map, Array.length_toList]; exact hn
  have hlen : (ys.map V.str).length ≤ sizeLine := by
    rw [List.length_map, hyl]
    exact Nat.le_trans (Nat.le_of_lt h64) (by decide)
  refine wpAny_pure ⟨_, rfl, .ref s1.heap.objs.size, upd H s1.heap.objs.size (.lst (ys.map V.str)), I1.laid (t' := s1.toks) (fun b u e => ?_) (Nat.le_refl _)
    (show ObjOk X.prog X.w _ _ _ (.lst (ys.map V.str)) from ⟨hlen, ((arrOf st').map (·.2)).toList, e', vals_of_strs b1, by rw [Array.toArray_toList]; exact he'⟩), rfl,
    q ys _ (pn.nodup_iff.mpr nd) (fun k => by rw [pn.mem_iff, ← hm k]) hyl b3 (I1.hok.fresh (Nat.le_refl _))⟩
  have hb : b < s1.heap.objs.size := Heap.lt_size e
  rw [PyProof.Rows.sortedHeap_old (Nat.ne_of_lt hb) (by rw [size_push']; exact Nat.lt_succ_of_lt hb)]
  exact Heap.get?_push_of_some _ e

end CgB
set_option maxRecDepth 100000
set_option maxHeartbeats 2000000
/-! R3: y = [elt for x in ..] where a call in the element may raise. -/
namespace CgC
open PySem PySem.Spec PyProof.Rows L2
/-- the block's context; an exception is noted, the block let go, then it goes on in the def -/
abbrev blkx (X : Cx) (s : Shared) (H : Hp) (scope : Scope) (cenv : Env) (fp : List Addr) : Cx := { X.blk s H scope cenv fp with xe := notedBy (model X.prog X.w) X.A cenv (CompFails (model X.prog X.w) X.A X.xe cenv) }
section
variable {X : Cx} {pins : List (Addr × Obj)} {σ : L2.St} {H : Hp} {s s' : Shared} {W : WX} {E : XK}
/-- a call's exception, flying over the ground B -/
theorem call_flying (I : Inv X pins σ H s) {u : Value} (c : L2.CX X.prog X.w X.stack H s E u s') :
    ∃ (a : Addr) (B : Heap) (sI : Shared) (H' : Hp) (cls : Value) (d : Option Addr), u = .ref a ∧ Inv X pins σ H' sI ∧ (∀ b o, sI.heap.get? b = some o → b ∉ frs X.stack → B.get? b = some o) ∧ sI.heap.UpToSlots s'.heap ∧
      HandSPX.FlyingZ B X.stack a (Zc cls d) s'.heap ∧ H' a = none ∧ s'.os = sI.os ∧ AllBare s'.gens ∧ E cls d H' := by
  obtain ⟨a, B, H', cls, d, rfl, fl, hok, ub, na, os, ag, hE⟩ := c
  obtain ⟨G, g1, g2⟩ := restrict s'.heap fun b => (B.get? b).isSome || decide (b ∈ frs X.stack)
  have st : B.StaysIn s'.heap := fl.1
  have gB : ∀ b o, B.get? b = some o → G.get? b = some o := fun b o e => (g1 b (by simp [e])).trans (st b o e)
  have og : ∀ b o, G.get? b = some o → s'.heap.get? b = some o ∧ ((B.get? b).isSome = true ∨ b ∈ frs X.stack) := fun b o e => by
    cases q : ((B.get? b).isSome || decide (b ∈ frs X.stack)) with
    | false => rw [g2 b q] at e; cases e
    | true => rw [g1 b q] at e; exact ⟨e, by simpa [Bool.or_eq_true] using q⟩
  have slots : ∀ b o, s.heap.get? b = some o → b ∈ frs X.stack → ∃ sl, G.get? b = some { o with slots := sl } := fun b o e hb => by
    obtain ⟨sl, q⟩ := ub.slot b o e hb
    exact ⟨sl, (g1 b (by simp [hb])).trans q⟩
  refine ⟨a, B, { s with heap := G, gens := s'.gens, drawn := s'.drawn, toks := s'.toks }, H', cls, d, rfl, ?_, fun b o e hb => ?_, Heap.UpToSlots.of_keeps fun b o e => (og b o e).1, fl, na, os, ag, hE⟩
  · refine I.call (ch := []) ⟨fun b o e n hb _ => gB b o (ub.keep b o e n hb), fun b o e n hb _ => slots b o e hb, fun b o e n _ => ub.free b o e n, fun b o e _ => ?_, ub.tups, ub.frzs, ub.tbls⟩ (hok.kept gB) ag (fun _ z => nomatch z)
    by_cases hb : b ∈ frs X.stack
    · obtain ⟨sl, q⟩ := slots b o e hb
      exact ⟨_, q⟩
    · obtain ⟨o', q⟩ := ub.there b o e hb
      exact ⟨o', gB b o' q⟩
  · obtain ⟨e', h⟩ := og b o e
    rcases h with h | h
    · obtain ⟨o', q⟩ := Option.isSome_iff_exists.mp h
      have z := st b o' q
      rw [e'] at z; cases z
      exact q
    · exact absurd h hb

theorem frames_less {B B' h : Heap} {l : List Env} (hl : h.FunFrames B l) (hb : ∀ b, B.get? b = none → B'.get? b = none) : h.FunFrames B' l :=
  funFrames_none hl fun L hL => by
    obtain ⟨e, he, q⟩ := List.mem_filterMap.mp hL
    exact hb L (hl.mem hL).1

theorem passes_blk {s3 : Shared} {H3 : Hp} {scope : Scope} {cl : List (Str × Addr)} {fp : List Addr} (I3 : Inv X pins σ H3 s3) (f3 : ∀ b ∈ fp, FpOk X pins H3 b ∧ b < s3.heap.objs.size) (hs : X.stack = X.env :: X.outer) (hf : X.env.frame = some X.env.locals)
    (tk : Takes X W) (σ' : L2.St) : PassesAt (L2.CX X.prog X.w) (blkx X s3 H3 scope (compEnvC scope cl s3.heap.objs.size X.env) fp) σ' (fun cls d H' => W cls d σ H') := by
  intro pins' H' s9 e s' J9 c
  obtain ⟨a, B, sI, H9, cls, d, rfl, J, nb, up, fl, na, os, ag, hE⟩ := call_flying J9 c
  have nb : ∀ b o, sI.heap.get? b = some o → b ∉ frs X.stack → B.get? b = some o := nb
  have fl : HandSPX.FlyingZ B X.stack a (Zc cls d) s'.heap := fl
  generalize hce : compEnvC scope cl s3.heap.objs.size X.env = ce at J ⊢
  have cL : ce.locals = s3.heap.objs.size := by rw [← hce]; rfl
  have cF : ce.frame = X.env.frame := by rw [← hce]; rfl
  have hfr : X.A.frames = some (X.env :: X.outer) := by rw [I3.ok.frames, hs]
  rw [hs] at fl
  show wpAny (model X.prog X.w) X.A (noteFrame (.ref a) ce) (fun _ s'' => CompFails (model X.prog X.w) X.A X.xe ce (.ref a) s'') _ s'
  rw [noteFrame_env _ cF]
  refine HandSPX.looks_onZ Zc.steady hfr hf fl fun h1 hh1 up1 => ?_
  -- the block's names
  obtain ⟨m, hn, _⟩ := J.loc
  have hn : sI.heap.Ns ce.locals m := hn
  have hn1 : h1.Ns ce.locals m := by
    obtain ⟨o, es, ep, ho, hd, r⟩ := hn
    obtain ⟨sl, e⟩ := (up.trans up1) ce.locals o ho fun vs z => by rw [hd] at z; cases z
    exact ⟨_, es, ep, e, hd, r⟩
  refine ⟨m, hn1, fun h2 m2 hn2 sb2 => ?_⟩
  obtain ⟨k1, k2, k3, oe, vs, T, oT, ts, he, hz, hd, hT1, hnT, hTe, hT, hdT, h3⟩ := hh1
  obtain ⟨oC, esC, epC, hoC, hdC, _⟩ := hn1
  have neC : ∀ {b : Addr} {o : Obj} {vs : Array Value}, h1.get? b = some o → o.data = .fields vs → b ≠ ce.locals := fun {b o vs} e1 e2 z => by
    rw [z, hoC] at e1
    cases e1
    rw [hdC] at e2
    cases e2
  have ae := neC he hd
  have aT := neC hT hdT
  -- the ground without the block
  generalize hB' : PySem.W.hideAll B [ce.locals] = B'
  have b1 : ∀ b o, B'.get? b = some o → B.get? b = some o ∧ b ≠ ce.locals := fun b o e => by
    rw [← hB'] at e
    refine ⟨PySem.W.of_hideAll _ e, fun z => ?_⟩
    rw [z, PySem.W.hideAll_none [ce.locals] (by simp)] at e
    cases e
  have b2 : ∀ b o, B.get? b = some o → b ≠ ce.locals → B'.get? b = some o := fun b o e z => by
    rw [← hB']
    exact PySem.W.hideAll_get _ e (by simpa using z)
  have b0 : ∀ b, B.get? b = none → B'.get? b = none := fun b e => by
    cases q : B'.get? b with
    | none => rfl
    | some o => rw [(b1 b o q).1] at e; cases e
  have st2 : B'.StaysIn h2 := fun b o e => (sb2.2 b (b1 b o e).2).trans (k1 b o (b1 b o e).1)
  have fr2 : h2.FunFrames B' (X.env :: X.outer) := frames_less (Heap.FunFrames.sameBut sb2 hn2 k3) b0
  have hh2 : HandSPX.HeldZ B' (X.env :: X.outer) a (Zc cls d) X.env.locals h2 := ⟨st2, b0 _ k2, fr2, oe, vs, T, oT, ts, (sb2.2 _ ae).trans he, hz, hd, hT1, b0 _ hnT, hTe, (sb2.2 _ aT).trans hT, hdT, h3⟩
  unfold PySem.passOn
  refine wpAny_bind (wpAny_field ((sb2.2 _ ae).trans he) hd hT1 ?_)
  rw [if_neg (show ¬ ((Value.ref T == Value.none) = true) from by simp)]
  have fin : wpAny (model X.prog X.w) X.A (setFlight (.ref a) ce.frame) (fun _ s4 => wpAny (model X.prog X.w) X.A (throw (.ref a) : Sem Value) (fun _ _ => False) X.xe s4) X.xe { s' with heap := h2 } := by
    rw [cF, hf]
    refine HandSPX.setFlight_onZ hh2 fun h4 hh4 up4 => wpAny_throw (tk _ _ ?_)
    have I7 : Inv X pins σ H9 sI := I3.call' (ch := fp) J.os J.base J.hok J.bare fun b hb => ⟨(f3 b hb).1.2.2.2.1, (f3 b hb).1.2.1, (f3 b hb).1.2.2.2.2.1, (f3 b hb).1.2.2.2.2.2⟩
    have nC : H9 s3.heap.objs.size = none := by
      have z : H9 ce.locals = none := J.free
      rw [cL] at z
      exact z
    obtain ⟨p0, p1, p2, p3, p4, p5⟩ := I3.fpOk (Nat.le_refl _) nC
    have I8 : Inv X pins σ H9 { sI with heap := PySem.W.hideAll sI.heap [ce.locals] } := I7.turned (t' := sI.toks) (it := s3.heap.objs.size) (fun b o hb e => PySem.W.hideAll_get _ e (by rw [cL]; simpa using hb)) p0 p1 p3 p4 p5
    refine ⟨a, B', { sI with heap := PySem.W.hideAll sI.heap [ce.locals] }, pins, σ, H9, cls, d, rfl, I8, fun b o e hb => ?_, fun b o e nf => ?_, .inr (.inr (by rw [hs]; exact hh4)), na, os, ag, hE⟩
    · have e1 : (PySem.W.hideAll sI.heap [ce.locals]).get? b = some o := e
      refine b2 b o (nb b o (PySem.W.of_hideAll _ e1) hb) fun z => ?_
      rw [z, PySem.W.hideAll_none [ce.locals] (by simp)] at e1
      cases e1
    · have e1 : (PySem.W.hideAll sI.heap [ce.locals]).get? b = some o := e
      have hb : b ≠ ce.locals := fun z => by
        rw [z, PySem.W.hideAll_none [ce.locals] (by simp)] at e1
        cases e1
      obtain ⟨sl, q⟩ := (up.trans up1) b o (PySem.W.of_hideAll _ e1) nf
      exact up4 b _ ((sb2.2 b hb).trans q) nf |>.imp fun sl2 q2 => q2
  first
    | exact wpAny_bind (wpAny_pure (wpAny_bind fin))
    | exact wpAny_bind fin

/-- y = [te for .. in wi]: a call in te may let an exception out, wished for by W at the slots ahead -/
def tLcX (wi : TI) (g : TG) (te : XK → TE) (vs : List Nat) (W : WX) : TE := fun σ H Q => wi σ H fun J H1 => ∀ D, H1 D = none → ∃ Wv : Nat → Nat → Hp → Prop, (∃ m, Wv 0 m (upd H1 D (.lst []))) ∧ ∀ i m H, Wv i m H →
  (J.stop i H ∧ Q (.ref D) H) ∨ (J.go i H ∧ ∃ Nx : Hp → Prop, (∀ H', Nx H' → ∃ m', m' < m ∧ Wv (i + 1) m' H') ∧ ∀ x H', J.yld i H x H' → g x (wipe σ vs) H' fun σ2 H2 => wipe σ2 vs = wipe σ vs ∧
    te (fun cls d H' => W cls d σ H') σ2 H2 fun y H4 => ∃ acc, H4 D = some (.lst acc) ∧ acc.length < sizeLine ∧ Nx (upd H4 D (.lst (acc ++ [y]))))

theorem ps_setLcX {i : Nat} {y : Str} {py : Pos} {elt tg iter : Expr} {scope : Scope} {own : List (Str × Nat)} {pos spos : Pos} {wi : TI} {g : TG} {te : XK → TE} (hc : X.calm = true) (hs0 : X.stack = X.env :: X.outer) (hf0 : X.env.frame = some X.env.locals) (tk : Takes X W) (hN : X.N.Nodup) (hy : X.N[i]? = some y)
    (hyl : X.env.scope.names.lookup y = some .local) (hsw : swapsWith (.ListComp elt [⟨tg, iter, [], 0⟩] scope pos) (some (.Name y py)) spos.line X.env = pure true) (hi : PI X tg iter wi) (ok : BlkOk X.N X.env.scope scope own)
    (hg : ∀ (s : Shared) (H : Hp) (C : Addr) (cl : List (Str × Addr)) (fp : List Addr), PG (blkx X s H scope (compEnvC scope cl C X.env) fp) tg g)
    (he : ∀ (s : Shared) (H : Hp) (C : Addr) (cl : List (Str × Addr)) (fp : List Addr) (E : XK), (∀ σ', PassesAt (L2.CX X.prog X.w) (blkx X s H scope (compEnvC scope cl C X.env) fp) σ' E) → PE (blkx X s H scope (compEnvC scope cl C X.env) fp) elt (te E))
    (hs : ∀ x, foldedSetIterable iter X.env x = pure x := by intro _; rfl) :
    PS X (.Assign [.Name y py] (.ListComp elt [⟨tg, iter, [], 0⟩] scope pos) spos) (tAsg (tLcX wi g te (own.map (·.2)) W) (gName i)) := by
  refine ⟨fun pins s σ H D0 I h => ?_⟩
  rw [exec_Assign_Name_used _ _ _ _ hsw]
  refine wpAny_bind (wpAny_standAt (wpAny_bind ?_))
  show wpAny _ X.A (do let _ ← comprehension (.ListComp elt [⟨tg, iter, [], 0⟩] scope pos) scope X.env (firstIterPos [⟨tg, iter, [], 0⟩] pos) (newList []) false (eval iter X.env) (some (assign (.Name y py) X.env))) _ _ s
  have h : tLcX wi g te (own.map (·.2)) W σ H (fun x H1 => gName i x σ H1 D0.nx) := h
  have hfree : ∀ z ∈ scope.names, z.2 = .free → ∃ c, X.env.cells.lookup z.1 = some c := fun z hz e => by
    rcases ok.free z hz e with k | k
    · exact I.ok.has _ (.inl k)
    · exact I.ok.has _ (.inr k)
  refine wpAny_bind (wpAny_mono (comprehension_at (use := some (assign (.Name y py) X.env)) (Q := fun _ s' => SP X pins D0 .next s') rfl hs (closure_ok hfree) ok.kind (fun z hz e => by rw [ok.uniq z hz, e])
    (thn (hi.run pins s σ H _ I h) fun xv s1 hx => thn hx fun itv s2 h2 => ?_)) (fun _ s' hq => wpAny_pure (wpAny_pure hq)) fun _ _ z => z)
  obtain ⟨it, fp, tn, J, H2, e, I2, T, st2, f2, q⟩ := h2
  subst e
  refine wpAny_newObj_type (newEnv_comp ?_) (by show 0 ≤ sizeLine; decide)
  generalize hD : s2.heap.objs.size = D
  have hDn : H2 D = none := I2.hok.fresh (Nat.le_of_eq hD)
  obtain ⟨Wv, ⟨m0, w0⟩, turn⟩ := q D hDn
  generalize hs3 : ({ s2 with heap := s2.heap.push { cls := .type "list", data := .seq ([] : List Value).toArray } } : Shared) = s3
  have I3 : Inv X pins σ (upd H2 D (.lst [])) s3 := by
    rw [← hs3]
    refine I2.laid (t' := s2.toks) (fun b o e => Heap.get?_push_of_some _ e) (Nat.le_of_eq hD) ⟨Nat.zero_le _, [], 0, .nil, ?_⟩
    rw [← hD]
    exact Heap.get?_push_size _ rfl
  have h3 : s3.heap = s2.heap.push { cls := .type "list", data := .seq ([] : List Value).toArray } := by rw [← hs3]
  have f3 : ∀ b ∈ fp, FpOk X pins (upd H2 D (.lst [])) b ∧ b < s3.heap.objs.size := fun b hb => by
    obtain ⟨o, e, _⟩ := T.obj _ _ st2 b hb
    have hlt := Heap.lt_size e
    refine ⟨⟨?_, (f2 b hb).2⟩, by rw [h3, Heap.size_push]; exact Nat.lt_succ_of_lt hlt⟩
    rw [upd_ne (by rw [← hD]; exact Nat.ne_of_lt hlt)]
    exact (f2 b hb).1
  have st3 : tn 0 s3.heap := T.keep _ _ _ st2 fun b _ o e => by rw [h3]; exact Heap.get?_push_of_some _ e
  have I4 := block_start I3 ok hN f3
  have pg := hg s3 (upd H2 D (.lst [])) s3.heap.objs.size (cellsFrom (s3.heap.objs.size + 1) scope.names (cloFrom X.env.cells scope.names [])) fp
  have pe := he s3 (upd H2 D (.lst [])) s3.heap.objs.size (cellsFrom (s3.heap.objs.size + 1) scope.names (cloFrom X.env.cells scope.names [])) fp (fun cls d H' => W cls d σ H') (passes_blk I3 f3 hs0 hf0 tk)
  show codeAny _ _ (.compStart (.ListComp elt [⟨tg, iter, [], 0⟩] scope pos) 0 (.ref it) (.ref D) (compEnvC scope (cellsFrom (s3.heap.objs.size + 1) scope.names (cloFrom X.env.cells scope.names [])) s3.heap.objs.size X.env))
    (compEnds (model X.prog X.w) X.A X.xe (some (assign (.Name y py) X.env)) (fun _ s' => SP X pins D0 .next s') (.ref D) (compEnvC scope (cellsFrom (s3.heap.objs.size + 1) scope.names (cloFrom X.env.cells scope.names [])) s3.heap.objs.size X.env)) { s3 with heap := pushCells (s3.heap.push { cls := .type "dict", data := .dict #[] }) scope.names }
  have nfp : ∀ b ∈ fp, (upd H2 D (.lst [])) b = none := fun b hb => (f3 b hb).1.1
  generalize hce : compEnvC scope (cellsFrom (s3.heap.objs.size + 1) scope.names (cloFrom X.env.cells scope.names [])) s3.heap.objs.size X.env = ce at I4 pg pe ⊢
  have cL : ce.locals = s3.heap.objs.size := by subst hce; rfl
  generalize hH3 : upd H2 D (.lst []) = H3 at I3 I4 pg pe w0 nfp f3
  generalize hs4 : ({ s3 with heap := pushCells (s3.heap.push { cls := .type "dict", data := .dict #[] }) scope.names } : Shared) = s4 at I4 ⊢
  have I4 : Inv (blkx X s3 H3 scope ce fp) [] (wipe σ (own.map (·.2))) H3 s4 := I4.wish _
  have st4 : tn 0 s4.heap := T.keep _ _ _ st3 fun b _ o e => by rw [← hs4]; exact pushCells_keeps _ _ _ _ (Heap.get?_push_of_some _ e)
  have stat : ∀ {σ' : L2.St} {H' : Hp} {s' : Shared}, Inv (blkx X s3 H3 scope ce fp) [] σ' H' s' → (∀ b ∈ fp, H' b = none) → ∀ b ∈ fp, FpOk (blkx X s3 H3 scope ce fp) [] H' b := fun {σ' H' s'} I' hn b hb =>
    ⟨hn b hb, (I'.ok.exf b hb).1, I'.ok.exfs b hb, .inl hb, fun x c e => (I'.ok.exf b hb).2 x c e, fun p hp => absurd (show p ∈ ([] : List (Addr × Obj)) ++ [] from hp) (by simp)⟩
  have loop : codeAny (model X.prog X.w) X.A (.compLoop (.ListComp elt [⟨tg, iter, [], 0⟩] scope pos) 0 (.ref it) (.ref D) ce) (compEnds (model X.prog X.w) X.A X.xe (some (assign (.Name y py) X.env)) (fun _ s' => SP X pins D0 .next s') (.ref D) ce) s4 := by
    refine compLoop_any (fun n s' => ∃ i H', Inv (blkx X s3 H3 scope ce fp) [] (wipe σ (own.map (·.2))) H' s' ∧ tn i s'.heap ∧ (∀ b ∈ fp, H' b = none) ∧ Wv i n H') ?_ m0 ⟨0, H3, I4, st4, nfp, w0⟩
    rintro n s5 ⟨j, H5, I5, st5, n5, w5⟩
    rcases turn j n H5 w5 with ⟨stop, qq⟩ | ⟨go, Nx, hNx, step⟩
    · refine thnF (T.done (blkx X s3 H3 scope ce fp) rfl rfl rfl hc j [] s5 _ H5 (fun _ _ => False) I5 (stat I5 n5) st5 stop) fun r s6 ⟨hr, I6⟩ => ?_
      subst hr
      have I7 : Inv X pins σ H5 s6 := I3.call' (ch := fp) I6.os I6.base I6.hok I6.bare fun b hb => ⟨(f3 b hb).1.2.2.2.1, (f3 b hb).1.2.1, (f3 b hb).1.2.2.2.2.1, (f3 b hb).1.2.2.2.2.2⟩
      have nC : H5 s3.heap.objs.size = none := by
        have z : H5 ce.locals = none := I6.free
        rw [cL] at z
        exact z
      obtain ⟨m, hn, _⟩ := I6.loc
      have hn : s6.heap.Ns ce.locals m := hn
      obtain ⟨p0, p1, p2, p3, p4, p5⟩ := I3.fpOk (Nat.le_refl _) nC
      show wpAny _ _ (assign (.Name y py) X.env (.ref D)) _ _ _
      refine wpAny_assign_Name (store_ok2 (v := V.ref D) I7 hN hy (.inl hyl) rfl (fun s7 I8 ⟨a, sb, ha⟩ => ?_) (.inr hyl))
      have haC : ce.locals ≠ a := by
        rw [cL]
        rcases ha with z | z
        · rw [z]; exact p1
        · exact fun e => p4 y a z e.symm
      refine ⟨m, hn.sameBut sb haC, fun h3 sb3 => ?_⟩
      exact ⟨_, H5, I8.turned (it := s3.heap.objs.size) (t' := s7.toks) (fun b o hb e => (sb3.2 b (by rw [cL]; exact hb)).trans e) p0 p1 p3 p4 p5, qq⟩
    · refine thnF (T.item (blkx X s3 H3 scope ce fp) rfl rfl rfl hc j [] s5 _ H5 (fun _ _ => False) I5 (stat I5 n5) st5 go) fun r s6 ⟨u, hr, h6⟩ => ?_
      subst hr
      refine thnF h6 fun _ s7 ⟨x, H7, I7, r7, y7, st7, n7⟩ => ?_
      have I7' := I7.pinned (stat I7 n7) (T.obj _ _ st7)
      refine thn (pg.run _ s7 _ H7 x u _ I7' r7 (step x H7 y7)) fun _ s8 ⟨σ8, H8, I8, hw8, q8⟩ => ?_
      refine thn ((pts_nil (X := blkx X s3 H3 scope ce fp)).run _ s8 _ H8 (fun b H' => b = true ∧ H' = H8) I8 ⟨rfl, rfl⟩) fun b s9 ⟨H9, I9, e9, e9'⟩ => ?_
      subst e9 e9'
      simp only [if_true]
      have fin : ∀ {s' : Shared} {H' : Hp}, Inv (blkx X s3 H3 scope ce fp) ([] ++ pinsAt fp s7.heap) σ8 H' s' → Nx H' → ∃ m, m < n ∧ ∃ i H', Inv (blkx X s3 H3 scope ce fp) [] (wipe σ (own.map (·.2))) H' s' ∧ tn i s'.heap ∧ (∀ b ∈ fp, H' b = none) ∧ Wv i m H' := fun {s' H'} I' nx => by
        obtain ⟨m', hm, w'⟩ := hNx H' nx
        have pin' : ∀ b ∈ fp, ∀ o, s7.heap.get? b = some o → s'.heap.get? b = some o ∧ H' b = none := fun b hb o e =>
          let z := I'.pin (b, o) (List.mem_append_right _ (List.mem_append_right _ (mem_pinsAt hb e)))
          ⟨z.1, z.2.1⟩
        have hl : (wipe σ (own.map (·.2))).length = σ8.length := by rw [← hw8, wipe_length]
        refine ⟨m', hm, j + 1, H', (I'.unpinned (pins := [])).weak hl (fun k v e => ?_), T.keep _ _ _ st7 fun b hb o e => (pin' b hb o e).1, fun b hb => ?_, w'⟩
        · rw [← hw8] at e
          exact (wipe_some e).1
        · obtain ⟨o, e, _⟩ := T.obj _ _ st7 b hb
          exact (pin' b hb o e).2
      refine thn (pe.run _ s9 σ8 H9 _ I9 q8) fun z s10 ⟨yv, H10, I10, r10, acc, hD10, hz10, nx⟩ => ?_
      exact app_ok (X := blkx X s3 H3 scope ce fp) I10 hD10 hz10 r10 fun s11 I11 => fin I11 nx
  exact codeAny_compStart_list loop (T.self X.A 0 _ _ _ st4 loop)
end
end CgC
set_option maxRecDepth 100000
set_option maxHeartbeats 2000000
/-! R4: an own exception class over ValueError whose __init__ says super().__init__(kind); self.kind = kind. -/
namespace CgF
open PySem PySem.W PySem.Calls PyProof.Rows PySem.HandSPX
/-- the first statement of the class Failure, the 24th of the row's top -/
def iD : Stmt := match PySem.Challenge.pw_carryclaim_k11_whole_runs.main.body.getD 24 (.Pass ⟨0, 0, 0, 0⟩) with
  | .ClassDef _ _ _ b _ _ _ _ _ _ _ => b.getD 0 (.Pass ⟨0, 0, 0, 0⟩)
  | x => x
def iA : Arguments := L2.defArgs iD
def iB : List Stmt := L2.defBody iD
def iS : Scope := L2.defScope iD
/-- what the written part says of Failure, at C, and of its __init__, at fI -/
structure FailTxt (P : Program) (K : Frag) (mg : Str → Option Value) (C fI : Addr) : Prop where
  gC : mg "Failure" = some (.ref C)
  gs : mg "super" = none
  cls : ∃ nm q N bs bm sn sub ab col dd k0 k1 k2 k3 k5, K.lookup C = some (excClassObj nm q C N bs bm true sn sub ab col dd k0 k1 k2 k3 k5 "ValueError.__new__") ∧ refsVE bm = true ∧ alongIn K "__init__" ((Value.ref C :: bm).dropWhile (· != .ref C) |>.drop 1) = some (some (.builtin "ValueError.__init__"))
  sa : findIn K (.ref C) "__setattr__" = some (some (.builtin "object.__setattr__"))
  ga : findIn K (.ref C) "__getattribute__" = some (some (.builtin "BaseException.__getattribute__"))
  gg : findIn K (.ref C) "__getattr__" = some none
  noN : findIn K (.ref C) "kind" = some none
  iC : findIn K (.ref C) "__init__" = some (some (.ref fI))
  tC : typeIn K (.ref fI) = some (.type "function")
  kC : keepIn K (.ref C) = true
  exC : subIn K (.ref C) (.type "BaseException") = some true
  exV : subIn K (.ref C) (.type "ValueError") = some true
  mrC : mroIn K C (.ref C) = some true
  tyC : typeIn K (.ref C) = some (.type "type")
  hdC : hasDictIn K C = true
  te : exmOne K (.ref C) (.ref C) = some true
  tp : nsIn K cStatics "thirdparty.any" = some none
  fn : ∃ (oc : Value) (od : Option Addr) (doc pm : Value) (an : Option Addr) (cda : Addr) (ct : Value) (osl : Array (Option Value)) (cc : Addr) (ccl : Value) (cdd : Option Addr) (vs : Array Value) (ccs : Array (Option Value)) (file : Str) (tf : Tok) (cl : Value) (cld : Option Addr) (csl : Array (Option Value)),
    K.lookup fI = some ⟨oc, od, .func (ksFn "__init__" "Failure.__init__" iA iB iS .none .none doc pm an (.ref cda) ct cc), osl⟩ ∧ codeIn K (.ref cda) "Failure.__init__" = true ∧
    K.lookup cda = some ⟨ccl, cdd, .fields vs, ccs⟩ ∧ vs[2]? = some (.str file tf) ∧ ((P.main.file : Str) == file) = true ∧ K.lookup cc = some ⟨cl, cld, .cell (some (.ref C)), csl⟩
  top : (P.main.scope.names.lookup ("super" : Str)).isSome = false
theorem one_size (v : Value) : [v].length ≤ sizeLine := by
  rw [sizeLine_eq]
  exact (by decide : 1 ≤ 16777216)
theorem ldE {M : Model} {s : Shared} {env : Env} {L : Addr} {m : Str → Option Value} {x : Str} {pos : Pos} {v : Value} {Q : Value → Shared → Prop} {A : Around} {E : Value → Shared → Prop} (hn : s.heap.Ns env.locals m) (hv : m x = some v) (h : Q v s)
    (hk : env.scope.kind = .function) (hl : env.kindOf x = some .local) (hd : (x == ("__debug__" : Str)) = false := by decide) :
    wpAny M A (eval (.Name x pos) env) Q E s := wpAny_Name (wpAny_loadName_local hk hl hn hv h) hd
/-- what __init__ leaves of a fresh exception at x -/
structure InitEnd (h h' : Heap) (x C dx t1 : Addr) (v : Value) : Prop where
  keep : ∀ b o, b ≠ x → h.get? b = some o → h'.get? b = some o
  obj : h'.get? x = some { cls := .ref C, dict := some dx, data := .fields #[.ref t1, .none, .none, .none, .bool false, .none] }
  dbig : h.objs.size ≤ dx
  dne : dx ≠ x
  ns : h'.Ns1 dx (fun y => if y = "kind" then some v else none)
/-- a made Failure -/
structure OwnMade (h h' : Heap) (e C d : Addr) (v : Value) : Prop where
  keep : ∀ b o, h.get? b = some o → h'.get? b = some o
  new : h.objs.size ≤ e
  obj : ∃ oe vs, h'.get? e = some oe ∧ oe.cls = .ref C ∧ oe.dict = some d ∧ oe.data = .fields vs ∧ vs[1]? = some .none
  dbig : h.objs.size ≤ d
  dne : d ≠ e
  ns : h'.Ns1 d (fun y => if y = "kind" then some v else none)
section
variable {prog : Program} {w : World} {A : Around} {E : Value → Shared → Prop} {R : Result → Shared → Prop} {s : Shared} {K : Frag} {mg : Str → Option Value} {C fI : Addr}
theorem call_mw {bm : List Value} {nm q : Str} {N : Addr} {bs : List Value} {sn : List Str} {sub : List Value} {ab : Bool} {col : Option Bool} {dd : Option Addr} {k0 k1 k2 k3 k5 : Option Value} {hd : Bool} {u x t0 : Addr} {rest : List Value} {Q : Value → Shared → Prop}
    (hC : s.heap.get? C = some (excClassObj nm q C N bs bm hd sn sub ab col dd k0 k1 k2 k3 k5 "ValueError.__new__")) (hu : s.heap.get? u = some (kxs_mw "ValueError.__init__" x)) (he : s.heap.get? x = some (excO C t0)) (hz : rest.length ≤ sizeLine)
    (h : ∀ h' t1, (∀ b o, b ≠ x → s.heap.get? b = some o → h'.get? b = some o) → h'.get? x = some (excO C t1) → Q .none { s with heap := h' }) : wpAny (model prog w) A (call (.ref u) rest) Q E s := by
  obtain ⟨hh, g, d, tk, os⟩ := s
  refine wpAny_call (codeAny_of_tree ?_)
  show wpAny _ A.in1 (callAny (.ref u) ⟨rest, []⟩) _ _ _
  simp only [callAny]
  refine wpAny_bind (wpAny_load hu ?_)
  simp only [kxs_mw, show (Value.type "method-wrapper" == Value.type "method" || Value.type "method-wrapper" == Value.type "builtin_function_or_method" || Value.type "method-wrapper" == Value.type "method-wrapper") = true by decide, if_true]
  refine KFB.if_so (by decide) ?_
  refine wpAny_bind (check_bound_init F.excBase_ValueError.toExcCallFacts hC he rfl ?_)
  refine wpAny_bind (wpAny_pure (wpAny_pure ?_))
  refine ⟨plainId_quiet F.excBase_ValueError.init.plain _, codeAny_builtin F.excBase_ValueError.initEntry ?_⟩
  exact exc_init_tree (cls := .ref C) (t0 := t0) (dv := none) (c2 := .none) (c3 := .none) (b4 := .bool false) he hz fun h' k e _ => h h' _ k e
theorem fail_init (T : FailTxt prog K mg C fI) {base : Heap} {x t0 : Addr} {v : Value} (MO : L2.Mod K mg base) (kb : ∀ b o, base.get? b = some o → s.heap.get? b = some o) (hx : s.heap.get? x = some (excO C t0)) (hnx : K.lookup x = none) (hbx : base.get? x = none) (hroom : A.depth < recursionLimit)
    (hq : ∀ h' tk dx t1, InitEnd s.heap h' x C dx t1 v → R (.ok (.ret .none)) { s with heap := h', toks := tk }) :
    codeAny (model prog w) A (.call (.ref fI) ⟨[.ref x, v], []⟩) R s := by
  obtain ⟨oc, od, doc, pm, an, cda, ct, osl, cc, ccl, cdd, vs, ccs, file, tf, cl, cld, csl, ho, hcd, hcda, hvs, hfile, hcc⟩ := T.fn
  obtain ⟨nm, q, N, bs, bm, sn, sub, ab, col, dd, k0, k1, k2, k3, k5, hC, hbm, hal⟩ := T.cls
  have X : K.In s.heap := MO.kin.keeps kb
  have hcl : clsIn K C = some { name := nm, bases := bs, mro := .ref C :: bm, ns := N, qualname := q, hasDict := true, slotNames := sn, subclasses := sub, abstract := ab, collection := col, hasDel := false } := by unfold clsIn; rw [hC] <;> rfl
  refine ks_codeAny_call_defAt (fd := ksFn "__init__" "Failure.__init__" iA iB iS .none .none doc pm an (.ref cda) ct cc) (binds := [("self", .ref x), ("kind", v)]) hroom (X _ _ ho) rfl (MO.nolimit.keeps kb) (codeRec_of X hcd) rfl
    (BindsTo.of_eq (by first | rfl | with_unfolding_all rfl)) (show ∀ x ∈ iS.names, x.2 ≠ .cell by decide) (fun y hy => ?_) (fun h₁ hn k₁ => ?_) rfl rfl rfl
  · show iS.names.lookup y.1 = some .local
    rcases List.mem_cons.mp hy with rfl | hy
    · rfl
    · cases List.mem_singleton.mp hy
      rfl
  generalize hL : s.heap.objs.size = L at hn ⊢
  have hxL : L ≠ x := by rw [← hL]; exact Nat.ne_of_gt (Heap.lt_size hx)
  have X₁ : K.In h₁ := X.keeps k₁
  have hx₁ := k₁ _ _ hx
  have hself : ((fun y => ([((("self" : Str)), Value.ref x), (("kind" : Str), v)] : List (Str × Value)).reverse.lookup y) : Str → Option Value) "self" = some (.ref x) := by first | rfl | with_unfolding_all rfl | kernel_rfl
  have hkind : ((fun y => ([((("self" : Str)), Value.ref x), (("kind" : Str), v)] : List (Str × Value)).reverse.lookup y) : Str → Option Value) "kind" = some v := by first | rfl | with_unfolding_all rfl | kernel_rfl
  generalize hm : ((fun y => ([((("self" : Str)), Value.ref x), (("kind" : Str), v)] : List (Str × Value)).reverse.lookup y) : Str → Option Value) = m at hn hself hkind
  generalize ht : s.toks + ([((("self" : Str)), Value.ref x), (("kind" : Str), v)] : List (Str × Value)).length = tk₁
  obtain ⟨mb, hmb, hmb2⟩ := MO.blt
  -- super().__init__(kind)
  show _root_.PySem.wpAt (model prog w) (A.deeper (ksEnv "Failure.__init__" iS L fI (.ref cda) cc)) (.func iB (ksEnv "Failure.__init__" iS L fI (.ref cda) cc)) (execs iB (ksEnv "Failure.__init__" iS L fI (.ref cda) cc)) _ _ _
  refine ks_wpAt_execs_cons (ks_wpAt_Expr_any (ks_wpAt_MethodCall ?_))
  refine ks_wpAt_super_base (by first | rfl | decide) (by first | rfl | decide) (by decide) rfl (X₁ _ _ ho) rfl rfl rfl (X₁ _ _ hcda) rfl hvs hfile T.top ?_
  refine ks_loadName_global rfl (by first | rfl | decide) (loadGlobal_builtin ((MO.glob.keeps kb).keeps k₁) T.gs ((hmb.keeps kb).keeps k₁) ((hmb2 _ (by decide)).trans PyProof.Rows.Boot.«super») ⟨rfl, ?_⟩)
  refine wpAny_loadName_free rfl (by first | rfl | decide) rfl ⟨_, X₁ _ _ hcc, rfl⟩ ?_
  refine wpAny_loadName_local rfl (by first | rfl | decide) hn hself ?_
  refine ks_wpAny_isType_cls (X₁ _ _ hC) rfl ⟨rfl, ?_⟩
  refine ks_wpAny_call_super (X₁ _ _ hC) rfl hx₁ rfl (fun c e => by cases e) (looks_mroIn X₁ T.mrC) (fun h₂ e₂ k₂ => ?_)
  have X₂ := X₁.keeps k₂
  have hx₂ := k₂ _ _ hx₁
  have I₂ : InstAt h₂ x (excO C t0) C none := ⟨hx₂, rfl, rfl, trivial⟩
  refine kxs_getMethod kxs_ValueError e₂ (looks_opaque X₂ T.tp) (l₀ := .ref C :: bm) (fun A Q E s k q => wpAny_bind ((looks_clsIn X₂ hcl) A _ E s k (wpAny_pure q))) rfl X₂ hal (I₂.type.andThen (looks_subIn X₂ T.exV)) (ks_ne X₂ I₂ hcl) (by decide) ?_
  refine kxs_callWith (i := "ValueError.__init__") (x := x) rfl (evalArgs_plain ?_)
  have k₃ : ∀ b o, h₂.get? b = some o → (h₂.push (kxs_mw "ValueError.__init__" x)).get? b = some o := fun b o e => Heap.get?_push_of_some _ e
  have hn₃ : (h₂.push (kxs_mw "ValueError.__init__" x)).Ns L m := (hn.keeps k₂).keeps k₃
  refine spliced_more (ldE (L := L) hn₃ hkind (spliced_none ?_) rfl (by first | rfl | decide))
  refine ⟨Heap.get?_push_size _ rfl, ?_⟩
  refine call_mw (C := C) (t0 := t0) (k₃ _ _ (X₂ _ _ hC)) (Heap.get?_push_size _ rfl) (k₃ _ _ hx₂) (one_size v) fun h₄ t1 k₄ e₄ => ?_
  have hC4 : C ≠ x := fun z => by rw [z, hnx] at hC; cases hC
  have kk : ∀ b o, b ≠ x → s.heap.get? b = some o → h₄.get? b = some o := fun b o hb e => k₄ b o hb (k₃ b o (k₂ b o (k₁ b o e)))
  have X₄ : K.In h₄ := fun a o e => kk a o (fun z => by rw [z, hnx] at e; cases e) (X a o e)
  have hn₄ : h₄.Ns L m := by
    obtain ⟨o, es, ep, e, r⟩ := hn₃
    exact ⟨o, es, ep, k₄ _ _ hxL e, r⟩
  -- self.kind = kind
  refine ks_wpAt_execs_cons (wpAt_of_wpAny (plainObj_wpAny_Assign_Attribute ?_))
  refine ldE (L := L) (v := v) hn₄ hkind (ldE (L := L) (v := .ref x) hn₄ hself ?_ rfl (by first | rfl | decide)) rfl (by first | rfl | decide)
  refine set_plain X₄ (ox := excO C t1) (od := none) ⟨e₄, rfl, rfl, trivial⟩ T.sa ?_
  refine exc_osa X₄ e₄ hcl (show refsVE (.ref C :: bm) = true from hbm) rfl T.noN (fun h₅ tk₅ dx k₅ dn dne hx₅ hn₅ => ?_)
  have z : L < h₄.objs.size := hn₄.lt
  refine wpAt_of_wpAny (wpAny_execs_nil (hq h₅ tk₅ dx t1 ⟨fun b o hb e => k₅ b o hb (kk b o hb e), hx₅, ?_, dne, hn₅⟩))
  rw [hL]
  exact Nat.le_of_lt (Nat.lt_of_lt_of_le z dn)
theorem fail_made (T : FailTxt prog K mg C fI) {base : Heap} {v : Value} (MO : L2.Mod K mg base) (kb : ∀ b o, base.get? b = some o → s.heap.get? b = some o) (hroom : A.depth + 1 < recursionLimit)
    (hq : ∀ h' tk e d, OwnMade s.heap h' e C d v → R (.ok (.ret (.ref e))) { s with heap := h', toks := tk }) :
    codeAny (model prog w) A (.call (.ref C) ⟨[v], []⟩) R s := by
  obtain ⟨nm, q, N, bs, bm, sn, sub, ab, col, dd, k0, k1, k2, k3, k5, hC, hbm, hal⟩ := T.cls
  have X : K.In s.heap := MO.kin.keeps kb
  obtain ⟨hp, g, dr, tk, os⟩ := s
  have k : ∀ b o, hp.get? b = some o → ((hp.push (kdv_tup [v])).push (excO C hp.objs.size)).get? b = some o := fun b o e => Heap.get?_push_of_some _ (Heap.get?_push_of_some _ e)
  have hget : ((hp.push (kdv_tup [v])).push (excO C hp.objs.size)).get? (hp.objs.size + 1) = some (excO C hp.objs.size) := by heap_get
  have hnx : K.lookup (hp.objs.size + 1) = none := by
    cases e : K.lookup (hp.objs.size + 1) with
    | none => rfl
    | some o =>
      have z : hp.get? (hp.objs.size + 1) = some o := X _ _ e
      exact absurd (Nat.lt_of_succ_lt (Heap.lt_size z)) (Nat.lt_irrefl _)
  have hbx : base.get? (hp.objs.size + 1) = none := by
    cases e : base.get? (hp.objs.size + 1) with
    | none => rfl
    | some o =>
      have z : hp.get? (hp.objs.size + 1) = some o := kb _ _ e
      exact absurd (Nat.lt_of_succ_lt (Heap.lt_size z)) (Nat.lt_irrefl _)
  refine call_own F.excBase_ValueError (fun X => refsVE_contains X bm hbm) (X _ _ hC) (looks_findIn X T.iC) (fun self => bind_fn X self T.tC) (one_size v) ?_
  refine fail_init (s := ⟨(hp.push (kdv_tup [v])).push (excO C hp.objs.size), g, dr, tk, os⟩) T MO (fun b o e => k b o (kb b o e)) hget hnx hbx ?_ fun h' tk' dx t1 ⟨k', hx, dn, dne, hns⟩ => ?_
  · show A.depth + 1 < recursionLimit
    exact hroom
  · have old : ∀ b o, hp.get? b = some o → h'.get? b = some o := fun b o e => k' b o (Nat.ne_of_lt (Nat.lt_succ_of_lt (Heap.lt_size e))) (k b o e)
    have z : hp.objs.size + 1 + 1 ≤ dx := by
      first
        | (simpa only [Heap.size_push] using dn)
        | exact dn
        | (have q := dn; rw [Heap.size_push, Heap.size_push] at q; exact q)
    exact ⟨rfl, hq h' tk' (hp.objs.size + 1) dx ⟨old, Nat.le_succ _, ⟨_, _, hx, rfl, rfl, rfl, rfl⟩, Nat.le_trans (Nat.le_trans (Nat.le_succ _) (Nat.le_succ _)) z, dne, hns⟩⟩
end
end CgF
namespace CgF
open PySem PySem.Spec PyProof.Rows L2
theorem relO_fail {v : V} {v' : Value} (r : RelV v v') (f : Str) : RelO (List.lookup f [(("kind" : Str), v)]) (if f = "kind" then some v' else none) := by
  by_cases hw : f = "kind"
  · subst hw
    rw [if_pos rfl]
    have q : List.lookup ("kind" : Str) [(("kind" : Str), v)] = some v := by simp [List.lookup]
    rw [q]
    exact r
  · rw [if_neg hw]
    have qw : (f == ("kind" : Str)) = false := by simpa using hw
    have q2 : List.lookup f [(("kind" : Str), v)] = none := by simp [List.lookup, qw]
    rw [q2]
    trivial
section
variable {X : Cx} {C fI : Addr}
/-- Fail(e) -/
def tMkFail (C : Addr) (ta : TA) : L2.St → Hp → XK → Prop := fun σ H Q => ta σ H fun vs H1 => ∃ v, vs = [v] ∧ ∀ d, H1 d = none → Q (.ref C) (some d) (upd H1 d (.xd [(("kind" : Str), v)]))
theorem pmk_fail {a : Expr} {ta : TA} {p pos : Pos} {k : Nat} (T : CgF.FailTxt X.prog X.K X.mg C fI) (hr : Room k X.A) (ha : PA X [a] ta) (hg : Gl X "Failure" := by rfl)
    (he : starEach (a :: []) X.env = (false, eval a X.env) :: starEach [] X.env := by rfl) (hpl : (backTo pos (starEach [] X.env)).any (·.1) = false := by rfl) :
    PMk X (.Call (.Name "Failure" p) [a] [] pos) (tMkFail C ta) := by
  intro pins s σ H Q I h
  refine wpAny_Call_Name_kw (ld_glob I hg T.gC ?_)
  refine PySem.W.callWith_K (h₀ := X.base) I.ok.mod.kin T.kC (thn (ha.run pos pins s σ H _ I h) fun us s1 hh => ?_) he hpl
  obtain ⟨vs, H1, I1, r1, v, ev, q1⟩ := hh
  subst ev
  refine ⟨I1.kIn, ?_⟩
  cases r1 with
  | cons rv rn =>
    rename_i v' us'
    cases rn
    show wpAny _ _ (call (.ref C) [v']) _ _ _
    have hlim := I1.nolimit
    obtain ⟨hp, g, dr, tk, os⟩ := s1
    refine wpAny_call (CgF.fail_made T I1.mod I1.bk (by have := hr.dp; omega) fun h' tk' e d M => ?_)
    show MkP X pins σ Q (.ref e) ⟨h', g, dr, tk', os⟩
    obtain ⟨oe, fv, hoe, hc, hd, hdat, h1⟩ := M.obj
    have hns := M.ns
    obtain ⟨G', g1, g2⟩ := restrict h' fun b => decide (b ≠ e)
    have gk : ∀ b, b ≠ e → G'.get? b = h'.get? b := fun b hb => g1 b (decide_eq_true hb)
    have ge : G'.get? e = none := g2 e (by simp)
    have old : ∀ b o, hp.get? b = some o → G'.get? b = some o := fun b o q => (gk b (Nat.ne_of_lt (Nat.lt_of_lt_of_le (Heap.lt_size q) M.new))).trans (M.keep b o q)
    have ob : ObjOk X.prog X.w (upd H1 d (.xd [(("kind" : Str), v)])) G' d (.xd [(("kind" : Str), v)]) :=
      ⟨_, hns.at (fun o q => (gk d M.dne).trans q), fun f => relO_fail rv f⟩
    have J : Inv X pins σ (upd H1 d (.xd [(("kind" : Str), v)])) ⟨G', g, dr, tk', os⟩ := I1.laid (t' := tk') old M.dbig ob
    refine ⟨e, oe, fv, ⟨G', g, dr, tk', os⟩, _, .ref C, some d, rfl, J, fun b o q => ?_, ge, hoe, ⟨hc, hd⟩, hdat, h1, ?_, rfl, I1.bare, raises_own T.exC T.tyC, q1 d (I1.hok.fresh M.dbig)⟩
    · by_cases hb : b = e
      · have q' : G'.get? b = some o := q
        rw [hb, ge] at q'; cases q'
      · exact (gk b hb).symm.trans q
    · rw [upd_ne (Ne.symm M.dne)]
      exact I1.hok.fresh M.new
/-- raise Fail(e) -/
def tRaiseFail (C : Addr) (W : WX) (ta : TA) : TS := fun _ σ H => tMkFail C ta σ H fun cls d H' => W cls d σ H'
theorem ps_raiseFail {a : Expr} {ta : TA} {W : WX} {p pos pos2 : Pos} {k : Nat} (hc : X.calm = true) (T : CgF.FailTxt X.prog X.K X.mg C fI) (hr : Room k X.A) (tk : Takes X W) (ha : PA X [a] ta) (hg : Gl X "Failure" := by rfl)
    (he : starEach (a :: []) X.env = (false, eval a X.env) :: starEach [] X.env := by rfl) (hpl : (backTo pos (starEach [] X.env)).any (·.1) = false := by rfl) :
    PS X (.Raise (some (.Call (.Name "Failure" p) [a] [] pos)) none pos2) (tRaiseFail C W ta) := ps_raise hc tk (pmk_fail T hr ha hg he hpl)
/-- low.by, low the exception that the suite holds (at a; its class cls, its dict d) -/
def tKindFail (C : Addr) (a : Addr) (cls : Value) (d : Option Addr) (te : TE) : TE := fun σ H Q => te σ H fun x H1 => x = .ref a ∧ cls = .ref C ∧ ∃ (dd : Addr) (v : V), d = some dd ∧ H1 dd = some (.xd [(("kind" : Str), v)]) ∧ Q v H1
theorem pe_kindFail {a : Addr} {oe : Obj} {cls : Value} {d : Option Addr} {pn : List (Addr × Obj)} {e : Expr} {te : TE} {pos : Pos} (T : CgF.FailTxt X.prog X.K X.mg C fI) (hz : Zc cls d oe) (hf : ∃ vs, oe.data = .fields vs) (he : PE (X.suite a ((a, oe) :: pn)) e te)
    (hb : attributeBase e "kind" X.env (eval e X.env) = eval e X.env := by rfl) :
    PE (X.suite a ((a, oe) :: pn)) (.Attribute e "kind" pos) (tKindFail C a cls d te) := by
  refine ⟨fun pins s σ H Q I h => ?_⟩
  refine attr_of hb (thn (he.run pins s σ H _ I h) fun u s1 hh => ?_)
  obtain ⟨x, H1, I1, rx, ex, ec, dd, v, ed, ea, q⟩ := hh
  subst ex
  obtain rfl : u = Value.ref a := rx
  subst ec
  subst ed
  obtain ⟨ha, _⟩ := I1.pin (a, oe) (List.mem_append_left _ List.mem_cons_self)
  obtain ⟨vs, hd⟩ := hf
  have hx : ObjOk X.prog X.w H1 s1.heap dd (.xd [(("kind" : Str), v)]) := I1.hok dd _ ea
  obtain ⟨mA, hns, hr⟩ := hx
  obtain ⟨od, ho, hl⟩ := lookIn_ns hns
  have l : List.lookup ("kind" : Str) [(("kind" : Str), v)] = some v := by simp [List.lookup]
  obtain ⟨u, hu, ru⟩ := RelO.some_of (v := v) (o := mA "kind") (by rw [← l]; exact hr "kind")
  have J : PySem.W.InstAt s1.heap a oe C (some od) := ⟨ha, hz.1, by unfold PySem.W.notCls; rw [hd] <;> rfl, by rw [hz.2]; exact ho⟩
  exact HandSPX.exc_get I1.kIn J T.ga T.gg T.exC (PySem.W.findObj_own T.hdC T.noN rfl (by rw [hl, hu])) (handed_of ru) ⟨v, H1, I1.tok _, ru, q⟩
end
end CgF
set_option maxRecDepth 100000
set_option maxHeartbeats 2000000
/-! R5: dict(zip(a, b)) of lists and tuples; d.update(e). -/
namespace CgZ
open PySem PySem.Spec PyProof.Rows L2
open Sem (wp)
def It (t : Bool) (h : Heap) (it l : Addr) (i : Nat) : Prop := if t = true then h.IsTupleIter it l i else h.IsListIter it l i
def Sq (t : Bool) (h : Heap) (l : Addr) (xs : Array Value) : Prop := if t = true then h.IsTuple l xs else h.IsList l xs
theorem It.at {t : Bool} {h h' : Heap} {it l : Addr} {i : Nat} (x : It t h it l i) (k : ∀ o, h.get? it = some o → h'.get? it = some o) : It t h' it l i := by
  cases t
  · exact Heap.IsListIter.at x k
  · obtain ⟨o, e, r⟩ := x
    exact ⟨o, k o e, r⟩
theorem Sq.at {t : Bool} {h h' : Heap} {l : Addr} {xs : Array Value} (x : Sq t h l xs) (k : ∀ o, h.get? l = some o → h'.get? l = some o) : Sq t h' l xs := by
  cases t
  · exact Heap.IsList.at x k
  · obtain ⟨o, e, r⟩ := x
    exact ⟨o, k o e, r⟩
theorem It.extBut {t : Bool} {h h' : Heap} {it l z : Addr} {i : Nat} (x : It t h it l i) (k : Heap.ExtBut z h h') (hz : it ≠ z) : It t h' it l i := x.at fun o e => k _ o hz e
theorem Sq.extBut {t : Bool} {h h' : Heap} {l z : Addr} {xs : Array Value} (x : Sq t h l xs) (k : Heap.ExtBut z h h') (hz : l ≠ z) : Sq t h' l xs := x.at fun o e => k _ o hz e
theorem It.there {t : Bool} {h : Heap} {it l : Addr} {i : Nat} (x : It t h it l i) : ∃ o, h.get? it = some o := by
  cases t
  · obtain ⟨o, e, _⟩ := x; exact ⟨o, e⟩
  · obtain ⟨o, e, _⟩ := x; exact ⟨o, e⟩
theorem Sq.there {t : Bool} {h : Heap} {l : Addr} {xs : Array Value} (x : Sq t h l xs) : ∃ o, h.get? l = some o := by
  cases t
  · obtain ⟨o, e, _⟩ := x; exact ⟨o, e⟩
  · obtain ⟨o, e, _⟩ := x; exact ⟨o, e⟩
section
variable {prog : Program} {w : World} {A : Around} {E : Value → Shared → Prop} {s : Shared}
theorem nextIt_item {t : Bool} {it l : Addr} {i : Nat} {items} {x : Value} {Q : Value → Shared → Prop} (hit : It t s.heap it l i)
    (hl : Sq t s.heap l items) (hx : items[i]? = some x)
    (hQ : ∀ h', It t h' it l (i + 1) → Heap.SameBut it s.heap h' → Q x { s with heap := h' }) :
    wpAny (model prog w) A (Builtin.SmallTypes.nextOf (.ref it)) Q E s := by
  cases t
  · exact wpAny_nextOf_list_item hit hl hx hQ
  · exact RZ.nextOf_tuple_item hit hl hx hQ
theorem nextIt_end {t : Bool} {it l : Addr} {i : Nat} {items} {Q : Value → Shared → Prop} (hh : A.handled = none)
    (hit : It t s.heap it l i) (hl : Sq t s.heap l items) (hx : items[i]? = none)
    (hE : ∀ h' e, Heap.ExtBut it s.heap h' → (∃ o, h'.get? e = some o ∧ o.cls = .type "StopIteration") → E (.ref e) { s with heap := h' }) :
    wpAny (model prog w) A (Builtin.SmallTypes.nextOf (.ref it)) Q E s := by
  cases t
  · exact wpAny_nextOf_list_end hh hit hl hx hE
  · exact RZ.nextOf_tuple_end hh hit hl hx hE

theorem zip_next_itemG {z TI TO i1 i2 l1 l2 : Addr} {t1 t2 : Bool} {k1 k2 : Nat} {xs ys : Array Value} {x y a b : Value} {Q : Value → Shared → Prop} (D : ZipApart z TI TO i1 i2 l1 l2)
    (hz : IsZip s.heap z TI TO .none) (hTI : IsPair s.heap TI (.ref i1) (.ref i2)) (hTO : IsPair s.heap TO a b)
    (h1 : It t1 s.heap i1 l1 k1) (h2 : It t2 s.heap i2 l2 k2) (hl1 : Sq t1 s.heap l1 xs) (hl2 : Sq t2 s.heap l2 ys) (hx : xs[k1]? = some x) (hy : ys[k2]? = some y)
    (hQ : ∀ h', IsZip h' z TI TO (rawInt s.heap.objs.size) → IsPair h' TO x y → It t1 h' i1 l1 (k1 + 1) → It t2 h' i2 l2 (k2 + 1) → IsPair h' s.heap.objs.size x y → h'.objs.size = s.heap.objs.size + 1 →
      (∀ c o, c ≠ z → c ≠ TO → c ≠ i1 → c ≠ i2 → s.heap.get? c = some o → h'.get? c = some o) → Q (.ref s.heap.objs.size) { s with heap := h' }) :
    wpAny (model prog w) A (Builtin.«zip.__next__» ⟨[.ref z], []⟩) (fun fin s' => ∃ v, fin = .done (.ret v) ∧ Q v s') E s := by
  show wpAny _ _ (field (.ref z) 2 >>= _) _ _ _
  refine wpAny_bind (wpAny_field hz rfl (x := .bool false) rfl ?_)
  show wpAny _ _ (field (.ref z) 3 >>= _) _ _ _
  refine wpAny_bind (wpAny_field hz rfl (x := .ref TI) rfl ?_)
  refine wpAny_bind (wpAny_seqItems hTI rfl ?_)
  show wpAny _ _ (Builtin.SmallTypes.ownedTupleIsFree (.ref z) >>= _) _ _ _
  refine wpAny_bind ?_
  unfold Builtin.SmallTypes.ownedTupleIsFree
  refine wpAny_bind (wpAny_field hz rfl (x := .none) rfl (wpAny_pure ?_))
  simp only [if_true]
  refine wpAny_bind (wpAny_rule ?_)
  refine wpAny_bind (wpAny_field hz rfl (x := .ref TO) rfl ?_)
  refine wpAny_bind (wpAny_setField_rec hz (by simp) fun h₁ hz₁ hs₁ => ?_)
  replace hz₁ : IsZip h₁ z TI TO .ellipsis := hz₁
  refine wpAny_bind ?_
  simp only [List.zipIdx_cons, List.zipIdx_nil, List.forIn_cons, List.forIn_nil]

  refine wpAny_bind (wpAny_bind (wpAny_onRaise ?_))
  show wpAny _ _ (Builtin.SmallTypes.nextOf (.ref i1) >>= _) _ _ _
  refine wpAny_bind (nextIt_item (h1.extBut hs₁.extBut D.i1z) (hl1.extBut hs₁.extBut D.l1z) hx fun h₂ h1₂ hs₂ => wpAny_pure ?_)
  have hTO₂ : IsPair h₂ TO a b := hs₂.extBut _ _ D.TOi1 (hs₁.extBut _ _ D.TOz hTO)
  refine wpAny_bind (wpAny_seqItems hTO₂ rfl ?_)
  refine wpAny_bind (wpAny_updateSeq_pair hTO₂ fun h₃ hTO₃ hs₃ => ?_)
  replace hTO₃ : IsPair h₃ TO x b := hTO₃
  refine wpAny_bind (wpAny_letGo (wpAny_pure ?_))

  refine wpAny_bind (wpAny_bind (wpAny_onRaise ?_))
  show wpAny _ _ (Builtin.SmallTypes.nextOf (.ref i2) >>= _) _ _ _
  refine wpAny_bind (nextIt_item (((h2.extBut hs₁.extBut D.i2z).extBut hs₂.extBut D.i12.symm).extBut hs₃.extBut D.TOi2.symm)
    (((hl2.extBut hs₁.extBut D.l2z).extBut hs₂.extBut D.l2i1).extBut hs₃.extBut D.l2TO) hy fun h₄ h2₄ hs₄ => wpAny_pure ?_)
  have hTO₄ : IsPair h₄ TO x b := hs₄.extBut _ _ D.TOi2 hTO₃
  refine wpAny_bind (wpAny_seqItems hTO₄ rfl ?_)
  refine wpAny_bind (wpAny_updateSeq_pair hTO₄ fun h₅ hTO₅ hs₅ => ?_)
  replace hTO₅ : IsPair h₅ TO x y := hTO₅
  refine wpAny_bind (wpAny_letGo (wpAny_pure (wpAny_pure ?_)))

  refine wpAny_bind (wpAny_seqItems hTO₅ rfl ?_)
  refine wpAny_bind (wpAny_newTuple ?_)
  have hsz : h₅.objs.size = s.heap.objs.size := by rw [hs₅.1, hs₄.1, hs₃.1, hs₂.1, hs₁.1]
  have hz₅ : IsZip h₅ z TI TO .ellipsis := hs₅.extBut _ _ D.TOz.symm (hs₄.extBut _ _ D.i2z.symm (hs₃.extBut _ _ D.TOz.symm (hs₂.extBut _ _ D.i1z.symm hz₁)))
  have hk₅ : ∀ c o, c ≠ z → c ≠ TO → c ≠ i1 → c ≠ i2 → s.heap.get? c = some o → h₅.get? c = some o := fun c o c1 c2 c3 c4 e =>
    hs₅.extBut _ _ c2 (hs₄.extBut _ _ c4 (hs₃.extBut _ _ c2 (hs₂.extBut _ _ c3 (hs₁.extBut _ _ c1 e))))
  have h1₅ : It t1 h₅ i1 l1 (k1 + 1) := ((h1₂.extBut hs₃.extBut D.TOi1.symm).extBut hs₄.extBut D.i12).extBut hs₅.extBut D.TOi1.symm
  have h2₅ : It t2 h₅ i2 l2 (k2 + 1) := h2₄.extBut hs₅.extBut D.TOi2.symm
  have hzlt : z < h₅.objs.size := Heap.lt_size hz₅
  have hTOlt : TO < h₅.objs.size := Heap.lt_size hTO₅
  have hi1lt : i1 < h₅.objs.size := by obtain ⟨_, e⟩ := It.there h1₅; exact Heap.lt_size e
  have hi2lt : i2 < h₅.objs.size := by obtain ⟨_, e⟩ := It.there h2₅; exact Heap.lt_size e
  show wpAny _ _ (Builtin.SmallTypes.ownedTupleHandOut (.ref z) (.ref h₅.objs.size) >>= _) _ _ _
  refine wpAny_bind ?_
  unfold Builtin.SmallTypes.ownedTupleHandOut
  have hz₆ : IsZip (h₅.push { cls := .type "tuple", data := .seq #[x, y] }) z TI TO .ellipsis := Heap.get?_push_of_some _ hz₅
  refine wpAny_bind (wpAny_setField_rec hz₆ (by simp) fun h₇ hz₇ hs₇ => ?_)
  replace hz₇ : IsZip h₇ z TI TO (rawInt h₅.objs.size) := hz₇
  refine wpAny_setField_rec hz₇ (by simp) fun h₈ hz₈ hs₈ => ?_
  replace hz₈ : IsZip h₈ z TI TO (rawInt h₅.objs.size) := hz₈
  have up : ∀ c o, c ≠ z → h₅.get? c = some o → h₈.get? c = some o := fun c o c1 e => hs₈.extBut _ _ c1 (hs₇.extBut _ _ c1 (Heap.get?_push_of_some _ e))
  have hT₈ : IsPair h₈ h₅.objs.size x y := hs₈.extBut _ _ (Nat.ne_of_gt hzlt) (hs₇.extBut _ _ (Nat.ne_of_gt hzlt) (Heap.get?_push_size _ rfl))
  have hz8 : h₈.objs.size = h₅.objs.size + 1 := by rw [hs₈.1, hs₇.1, Heap.size_push]
  rw [hsz] at hz₈ hT₈ hz8
  refine wpAny_pure ⟨_, rfl, ?_⟩
  show Q (.ref h₅.objs.size) _
  rw [hsz]
  exact hQ h₈ hz₈ (up _ _ D.TOz hTO₅) (h1₅.at fun o e => up _ o D.i1z e) (h2₅.at fun o e => up _ o D.i2z e) hT₈ hz8 fun c o c1 c2 c3 c4 e => up c o c1 (hk₅ c o c1 c2 c3 c4 e)


theorem zip_next_endG {z TI TO i1 i2 l1 l2 : Addr} {t1 t2 : Bool} {k1 k2 : Nat} {xs ys : Array Value} {a b : Value} {Q : Fin → Shared → Prop} (hh : A.handled = none) (D : ZipApart z TI TO i1 i2 l1 l2)
    (hz : IsZip s.heap z TI TO .none) (hTI : IsPair s.heap TI (.ref i1) (.ref i2)) (hTO : IsPair s.heap TO a b)
    (h1 : It t1 s.heap i1 l1 k1) (h2 : It t2 s.heap i2 l2 k2) (hl1 : Sq t1 s.heap l1 xs) (hl2 : Sq t2 s.heap l2 ys) (hend : xs[k1]? = none ∨ ys[k2]? = none)
    (hE : ∀ h' e, (∀ c o, c ≠ z → c ≠ TO → c ≠ i1 → c ≠ i2 → s.heap.get? c = some o → h'.get? c = some o) → (∃ o, h'.get? e = some o ∧ o.cls = .type "StopIteration") → E (.ref e) { s with heap := h' }) :
    wpAny (model prog w) A (Builtin.«zip.__next__» ⟨[.ref z], []⟩) Q E s := by
  show wpAny _ _ (field (.ref z) 2 >>= _) _ _ _
  refine wpAny_bind (wpAny_field hz rfl (x := .bool false) rfl ?_)
  show wpAny _ _ (field (.ref z) 3 >>= _) _ _ _
  refine wpAny_bind (wpAny_field hz rfl (x := .ref TI) rfl ?_)
  refine wpAny_bind (wpAny_seqItems hTI rfl ?_)
  show wpAny _ _ (Builtin.SmallTypes.ownedTupleIsFree (.ref z) >>= _) _ _ _
  refine wpAny_bind ?_
  unfold Builtin.SmallTypes.ownedTupleIsFree
  refine wpAny_bind (wpAny_field hz rfl (x := .none) rfl (wpAny_pure ?_))
  simp only [if_true]
  refine wpAny_bind (wpAny_rule ?_)
  refine wpAny_bind (wpAny_field hz rfl (x := .ref TO) rfl ?_)
  refine wpAny_bind (wpAny_setField_rec hz (by simp) fun h₁ hz₁ hs₁ => ?_)
  replace hz₁ : IsZip h₁ z TI TO .ellipsis := hz₁
  refine wpAny_bind ?_
  simp only [List.zipIdx_cons, List.zipIdx_nil, List.forIn_cons, List.forIn_nil]
  refine wpAny_bind (wpAny_bind (wpAny_onRaise ?_))
  show wpAny _ _ (Builtin.SmallTypes.nextOf (.ref i1) >>= _) _ _ _
  cases hx : xs[k1]? with
  | none =>
    refine wpAny_bind (nextIt_end hh (h1.extBut hs₁.extBut D.i1z) (hl1.extBut hs₁.extBut D.l1z) hx fun h₂ e hs₂ he => ?_)
    obtain ⟨oe, hoe, hce⟩ := he
    have hz₂ : IsZip h₂ z TI TO .ellipsis := hs₂ _ _ D.i1z.symm hz₁
    have hez : e ≠ z := fun x => by subst x; rw [hz₂] at hoe; cases hoe; simp at hce
    refine wpAny_setField_rec hz₂ (by simp) fun h₃ _ hs₃ => hE h₃ e (fun c o c1 _ c3 _ x => hs₃.extBut _ _ c1 (hs₂ _ _ c3 (hs₁.extBut _ _ c1 x))) ⟨oe, hs₃.extBut _ _ hez hoe, hce⟩
  | some x =>
    have hy : ys[k2]? = none := by rcases hend with h | h; rw [hx] at h; cases h; exact h
    refine wpAny_bind (nextIt_item (h1.extBut hs₁.extBut D.i1z) (hl1.extBut hs₁.extBut D.l1z) hx fun h₂ h1₂ hs₂ => wpAny_pure ?_)
    have hTO₂ : IsPair h₂ TO a b := hs₂.extBut _ _ D.TOi1 (hs₁.extBut _ _ D.TOz hTO)
    refine wpAny_bind (wpAny_seqItems hTO₂ rfl ?_)
    refine wpAny_bind (wpAny_updateSeq_pair hTO₂ fun h₃ hTO₃ hs₃ => ?_)
    refine wpAny_bind (wpAny_letGo (wpAny_pure ?_))
    refine wpAny_bind (wpAny_bind (wpAny_onRaise ?_))
    show wpAny _ _ (Builtin.SmallTypes.nextOf (.ref i2) >>= _) _ _ _
    refine wpAny_bind (nextIt_end hh (((h2.extBut hs₁.extBut D.i2z).extBut hs₂.extBut D.i12.symm).extBut hs₃.extBut D.TOi2.symm)
      (((hl2.extBut hs₁.extBut D.l2z).extBut hs₂.extBut D.l2i1).extBut hs₃.extBut D.l2TO) hy fun h₄ e hs₄ he => ?_)
    obtain ⟨oe, hoe, hce⟩ := he
    have hz₄ : IsZip h₄ z TI TO .ellipsis := hs₄ _ _ D.i2z.symm (hs₃.extBut _ _ D.TOz.symm (hs₂.extBut _ _ D.i1z.symm hz₁))
    have hez : e ≠ z := fun x => by subst x; rw [hz₄] at hoe; cases hoe; simp at hce
    refine wpAny_setField_rec hz₄ (by simp) fun h₅ _ hs₅ => hE h₅ e (fun c o c1 c2 c3 c4 x => hs₅.extBut _ _ c1 (hs₄ _ _ c4 (hs₃.extBut _ _ c2 (hs₂.extBut _ _ c3 (hs₁.extBut _ _ c1 x))))) ⟨oe, hs₅.extBut _ _ hez hoe, hce⟩


theorem wpAny_pyNext_zip_itemG {z TI TO i1 i2 l1 l2 : Addr} {t1 t2 : Bool} {k1 k2 : Nat} {xs ys : Array Value} {x y a b : Value} {Q : Option Value → Shared → Prop} (D : ZipApart z TI TO i1 i2 l1 l2)
    (hz : IsZip s.heap z TI TO .none) (hTI : IsPair s.heap TI (.ref i1) (.ref i2)) (hTO : IsPair s.heap TO a b)
    (h1 : It t1 s.heap i1 l1 k1) (h2 : It t2 s.heap i2 l2 k2) (hl1 : Sq t1 s.heap l1 xs) (hl2 : Sq t2 s.heap l2 ys) (hx : xs[k1]? = some x) (hy : ys[k2]? = some y)
    (hQ : ∀ h', IsZip h' z TI TO (rawInt s.heap.objs.size) → IsPair h' TO x y → It t1 h' i1 l1 (k1 + 1) → It t2 h' i2 l2 (k2 + 1) → IsPair h' s.heap.objs.size x y → h'.objs.size = s.heap.objs.size + 1 →
      (∀ c o, c ≠ z → c ≠ TO → c ≠ i1 → c ≠ i2 → s.heap.get? c = some o → h'.get? c = some o) → Q (some (.ref s.heap.objs.size)) { s with heap := h' }) :
    wpAny (model prog w) A (pyNext (.ref z)) Q E s := by
  have hT : s.TypeIs (.ref z) "zip" := ⟨_, hz, rfl⟩
  unfold pyNext
  exact wpAny_bind (wpAny_attempt (wpAny_callSpecial?_slot (name := Str.ofString "__next__") hT F.slot_zip_next
    (wpAny_call_entry F.slot_zip_next hT F.entry_zip_next
      (zip_next_itemG D hz hTI hTO h1 h2 hl1 hl2 hx hy fun h' a1 a2 a3 a4 a5 a6 a7 => wpAny_pure (hQ h' a1 a2 a3 a4 a5 a6 a7)) (F.args_zip_next_1 _))))


theorem wpAny_pyNext_zip_endG {z TI TO i1 i2 l1 l2 : Addr} {t1 t2 : Bool} {k1 k2 : Nat} {xs ys : Array Value} {a b : Value} {Q : Option Value → Shared → Prop} (hh : A.handled = none) (D : ZipApart z TI TO i1 i2 l1 l2)
    (hz : IsZip s.heap z TI TO .none) (hTI : IsPair s.heap TI (.ref i1) (.ref i2)) (hTO : IsPair s.heap TO a b)
    (h1 : It t1 s.heap i1 l1 k1) (h2 : It t2 s.heap i2 l2 k2) (hl1 : Sq t1 s.heap l1 xs) (hl2 : Sq t2 s.heap l2 ys) (hend : xs[k1]? = none ∨ ys[k2]? = none)
    (hQ : ∀ h', (∀ c o, c ≠ z → c ≠ TO → c ≠ i1 → c ≠ i2 → s.heap.get? c = some o → h'.get? c = some o) → Q none { s with heap := h' }) : wpAny (model prog w) A (pyNext (.ref z)) Q E s := by
  have hT : s.TypeIs (.ref z) "zip" := ⟨_, hz, rfl⟩
  unfold pyNext
  refine wpAny_bind (wpAny_attempt (wpAny_callSpecial?_slot (name := Str.ofString "__next__") hT F.slot_zip_next
    (wpAny_call_entry F.slot_zip_next hT F.entry_zip_next (zip_next_endG hh D hz hTI hTO h1 h2 hl1 hl2 hend fun h' e hk he => ?_) (F.args_zip_next_1 _))))
  obtain ⟨o, ho, hc⟩ := he
  refine wpAny_bind (wpAny_isInstance (T := "StopIteration") (b := true) ⟨o, ho, hc⟩ isSubtype_stop ?_)
  exact wpAny_pure (hQ _ hk)


theorem zip_next_item_heldG {z TI TO T i1 i2 l1 l2 : Addr} {t1 t2 : Bool} {f : Bool} {oT : Obj} {k1 k2 : Nat} {xs ys : Array Value} {x y : Value} {Q : Value → Shared → Prop} (D : ZipApart z TI TO i1 i2 l1 l2)
    (hz : IsZipHeld s.heap z TI TO T f) (hT : s.heap.get? T = some oT) (hTI : IsPair s.heap TI (.ref i1) (.ref i2))
    (h1 : It t1 s.heap i1 l1 k1) (h2 : It t2 s.heap i2 l2 k2) (hl1 : Sq t1 s.heap l1 xs) (hl2 : Sq t2 s.heap l2 ys) (hx : xs[k1]? = some x) (hy : ys[k2]? = some y)
    (hQ : ∀ h', IsZipHeld h' z TI TO T true → It t1 h' i1 l1 (k1 + 1) → It t2 h' i2 l2 (k2 + 1) → IsPair h' s.heap.objs.size x y → h'.objs.size = s.heap.objs.size + 1 →
      (∀ c o, c ≠ z → c ≠ i1 → c ≠ i2 → s.heap.get? c = some o → h'.get? c = some o) → Q (.ref s.heap.objs.size) { s with heap := h' }) :
    wpAny (model prog w) A (Builtin.«zip.__next__» ⟨[.ref z], []⟩) (fun fin s' => ∃ v, fin = .done (.ret v) ∧ Q v s') E s := by
  show wpAny _ _ (field (.ref z) 2 >>= _) _ _ _
  refine wpAny_bind (wpAny_field hz rfl (x := .bool false) rfl ?_)
  show wpAny _ _ (field (.ref z) 3 >>= _) _ _ _
  refine wpAny_bind (wpAny_field hz rfl (x := .ref TI) rfl ?_)
  refine wpAny_bind (wpAny_seqItems hTI rfl ?_)
  show wpAny _ _ (Builtin.SmallTypes.ownedTupleIsFree (.ref z) >>= _) _ _ _
  refine wpAny_bind (wpAny_tupleHeld_zip hz hT fun h₁ hz₁ hs₁ => ?_)
  simp only [Bool.false_eq_true, if_false]
  refine wpAny_bind ?_
  rw [← Array.forIn_toList]
  simp only [List.forIn_cons, List.forIn_nil]
  refine wpAny_bind (wpAny_bind (wpAny_holding ?_))
  show wpAny _ _ (Builtin.SmallTypes.nextOf (.ref i1) >>= _) _ _ _
  refine wpAny_bind (nextIt_item (s := { s with heap := h₁ }) (h1.extBut hs₁.extBut D.i1z) (hl1.extBut hs₁.extBut D.l1z) hx fun h₂ h1₂ hs₂ => wpAny_pure ?_)
  refine wpAny_pure ?_
  refine wpAny_bind (wpAny_bind (wpAny_holding ?_))
  show wpAny _ _ (Builtin.SmallTypes.nextOf (.ref i2) >>= _) _ _ _
  refine wpAny_bind (nextIt_item (s := { s with heap := h₂ }) ((h2.extBut hs₁.extBut D.i2z).extBut hs₂.extBut D.i12.symm) ((hl2.extBut hs₁.extBut D.l2z).extBut hs₂.extBut D.l2i1) hy fun h₃ h2₃ hs₃ => wpAny_pure ?_)
  refine wpAny_pure (wpAny_pure ?_)
  show wpAny _ _ (newTuple [x, y] >>= _) _ _ _
  refine wpAny_bind (wpAny_newTuple ?_)
  have hsz : h₃.objs.size = s.heap.objs.size := by rw [hs₃.1, hs₂.1, hs₁.1]
  have hz₃ : IsZipHeld h₃ z TI TO T true := hs₃.extBut _ _ D.i2z.symm (hs₂.extBut _ _ D.i1z.symm hz₁)
  have hk : ∀ c o, c ≠ z → c ≠ i1 → c ≠ i2 → s.heap.get? c = some o → h₃.get? c = some o := fun c o c1 c2 c3 e => hs₃.extBut _ _ c3 (hs₂.extBut _ _ c2 (hs₁.extBut _ _ c1 e))
  have h1₃ : It t1 h₃ i1 l1 (k1 + 1) := h1₂.extBut hs₃.extBut D.i12
  refine wpAny_pure ⟨_, rfl, ?_⟩
  show Q (.ref h₃.objs.size) _
  have hp : IsPair (h₃.push { cls := .type "tuple", data := .seq #[x, y] }) h₃.objs.size x y := Heap.get?_push_size _ rfl
  have hz4 : (h₃.push { cls := .type "tuple", data := .seq #[x, y] }).objs.size = h₃.objs.size + 1 := Heap.size_push ..
  rw [hsz] at hp hz4 ⊢
  exact hQ _ (Heap.get?_push_of_some _ hz₃) (h1₃.at fun o e => Heap.get?_push_of_some _ e) (h2₃.at fun o e => Heap.get?_push_of_some _ e) hp hz4 fun c o c1 c2 c3 e => Heap.get?_push_of_some _ (hk c o c1 c2 c3 e)


theorem zip_next_end_heldG {z TI TO T i1 i2 l1 l2 : Addr} {t1 t2 : Bool} {f : Bool} {oT : Obj} {k1 k2 : Nat} {xs ys : Array Value} {Q : Fin → Shared → Prop} (hh : A.handled = none) (D : ZipApart z TI TO i1 i2 l1 l2)
    (hz : IsZipHeld s.heap z TI TO T f) (hT : s.heap.get? T = some oT) (hTI : IsPair s.heap TI (.ref i1) (.ref i2))
    (h1 : It t1 s.heap i1 l1 k1) (h2 : It t2 s.heap i2 l2 k2) (hl1 : Sq t1 s.heap l1 xs) (hl2 : Sq t2 s.heap l2 ys) (hend : xs[k1]? = none ∨ ys[k2]? = none)
    (hE : ∀ h' e, (∀ c o, c ≠ z → c ≠ i1 → c ≠ i2 → s.heap.get? c = some o → h'.get? c = some o) → (∃ o, h'.get? e = some o ∧ o.cls = .type "StopIteration") → E (.ref e) { s with heap := h' }) :
    wpAny (model prog w) A (Builtin.«zip.__next__» ⟨[.ref z], []⟩) Q E s := by
  show wpAny _ _ (field (.ref z) 2 >>= _) _ _ _
  refine wpAny_bind (wpAny_field hz rfl (x := .bool false) rfl ?_)
  show wpAny _ _ (field (.ref z) 3 >>= _) _ _ _
  refine wpAny_bind (wpAny_field hz rfl (x := .ref TI) rfl ?_)
  refine wpAny_bind (wpAny_seqItems hTI rfl ?_)
  show wpAny _ _ (Builtin.SmallTypes.ownedTupleIsFree (.ref z) >>= _) _ _ _
  refine wpAny_bind (wpAny_tupleHeld_zip hz hT fun h₁ hz₁ hs₁ => ?_)
  simp only [Bool.false_eq_true, if_false]
  refine wpAny_bind ?_
  rw [← Array.forIn_toList]
  simp only [List.forIn_cons, List.forIn_nil]
  refine wpAny_bind (wpAny_bind (wpAny_holding ?_))
  show wpAny _ _ (Builtin.SmallTypes.nextOf (.ref i1) >>= _) _ _ _
  cases hx : xs[k1]? with
  | none =>
    refine wpAny_bind (nextIt_end (s := { s with heap := h₁ }) hh (h1.extBut hs₁.extBut D.i1z) (hl1.extBut hs₁.extBut D.l1z) hx fun h₂ e hs₂ he => ?_)
    exact hE h₂ e (fun c o c1 c2 _ x => hs₂ _ _ c2 (hs₁.extBut _ _ c1 x)) he
  | some x =>
    have hy : ys[k2]? = none := by rcases hend with h | h; rw [hx] at h; cases h; exact h
    refine wpAny_bind (nextIt_item (s := { s with heap := h₁ }) (h1.extBut hs₁.extBut D.i1z) (hl1.extBut hs₁.extBut D.l1z) hx fun h₂ h1₂ hs₂ => wpAny_pure ?_)
    refine wpAny_pure ?_
    refine wpAny_bind (wpAny_bind (wpAny_holding ?_))
    show wpAny _ _ (Builtin.SmallTypes.nextOf (.ref i2) >>= _) _ _ _
    refine wpAny_bind (nextIt_end (s := { s with heap := h₂ }) hh ((h2.extBut hs₁.extBut D.i2z).extBut hs₂.extBut D.i12.symm) ((hl2.extBut hs₁.extBut D.l2z).extBut hs₂.extBut D.l2i1) hy fun h₃ e hs₃ he => ?_)
    exact hE h₃ e (fun c o c1 c2 c3 x => hs₃ _ _ c3 (hs₂.extBut _ _ c2 (hs₁.extBut _ _ c1 x))) he


theorem wpAny_pyNext_zip_item_heldG {z TI TO T i1 i2 l1 l2 : Addr} {t1 t2 : Bool} {f : Bool} {oT : Obj} {k1 k2 : Nat} {xs ys : Array Value} {x y : Value} {Q : Option Value → Shared → Prop} (D : ZipApart z TI TO i1 i2 l1 l2)
    (hz : IsZipHeld s.heap z TI TO T f) (hT : s.heap.get? T = some oT) (hTI : IsPair s.heap TI (.ref i1) (.ref i2))
    (h1 : It t1 s.heap i1 l1 k1) (h2 : It t2 s.heap i2 l2 k2) (hl1 : Sq t1 s.heap l1 xs) (hl2 : Sq t2 s.heap l2 ys) (hx : xs[k1]? = some x) (hy : ys[k2]? = some y)
    (hQ : ∀ h', IsZipHeld h' z TI TO T true → It t1 h' i1 l1 (k1 + 1) → It t2 h' i2 l2 (k2 + 1) → IsPair h' s.heap.objs.size x y → h'.objs.size = s.heap.objs.size + 1 →
      (∀ c o, c ≠ z → c ≠ i1 → c ≠ i2 → s.heap.get? c = some o → h'.get? c = some o) → Q (some (.ref s.heap.objs.size)) { s with heap := h' }) :
    wpAny (model prog w) A (pyNext (.ref z)) Q E s := by
  have hTy : s.TypeIs (.ref z) "zip" := ⟨_, hz, rfl⟩
  unfold pyNext
  exact wpAny_bind (wpAny_attempt (wpAny_callSpecial?_slot (name := Str.ofString "__next__") hTy F.slot_zip_next
    (wpAny_call_entry F.slot_zip_next hTy F.entry_zip_next
      (zip_next_item_heldG D hz hT hTI h1 h2 hl1 hl2 hx hy fun h' a1 a3 a4 a5 a6 a7 => wpAny_pure (hQ h' a1 a3 a4 a5 a6 a7)) (F.args_zip_next_1 _))))

theorem wpAny_pyNext_zip_end_heldG {z TI TO T i1 i2 l1 l2 : Addr} {t1 t2 : Bool} {f : Bool} {oT : Obj} {k1 k2 : Nat} {xs ys : Array Value} {Q : Option Value → Shared → Prop} (hh : A.handled = none) (D : ZipApart z TI TO i1 i2 l1 l2)
    (hz : IsZipHeld s.heap z TI TO T f) (hT : s.heap.get? T = some oT) (hTI : IsPair s.heap TI (.ref i1) (.ref i2))
    (h1 : It t1 s.heap i1 l1 k1) (h2 : It t2 s.heap i2 l2 k2) (hl1 : Sq t1 s.heap l1 xs) (hl2 : Sq t2 s.heap l2 ys) (hend : xs[k1]? = none ∨ ys[k2]? = none)
    (hQ : ∀ h', (∀ c o, c ≠ z → c ≠ i1 → c ≠ i2 → s.heap.get? c = some o → h'.get? c = some o) → Q none { s with heap := h' }) : wpAny (model prog w) A (pyNext (.ref z)) Q E s := by
  have hTy : s.TypeIs (.ref z) "zip" := ⟨_, hz, rfl⟩
  unfold pyNext
  refine wpAny_bind (wpAny_attempt (wpAny_callSpecial?_slot (name := Str.ofString "__next__") hTy F.slot_zip_next
    (wpAny_call_entry F.slot_zip_next hTy F.entry_zip_next (zip_next_end_heldG hh D hz hT hTI h1 h2 hl1 hl2 hend fun h' e hk he => ?_) (F.args_zip_next_1 _))))
  obtain ⟨o, ho, hc⟩ := he
  refine wpAny_bind (wpAny_isInstance (T := "StopIteration") (b := true) ⟨o, ho, hc⟩ isSubtype_stop ?_)
  exact wpAny_pure (hQ _ hk)


theorem zipArg (t1 t2 : Bool) (z TI TO i1 i2 l1 l2 : Addr) (D : ZipApart z TI TO i1 i2 l1 l2) (xs ys : Array Value) :
    PairArg prog w "zip" z [z, TI, TO, i1, i2, l1, l2] [z, TO, i1, i2] (min xs.size ys.size) (fun i k v => xs[i]? = some k ∧ ys[i]? = some v)
      (fun h => IsZip h z TI TO .none ∧ IsPair h TI (.ref i1) (.ref i2) ∧ (∃ a b, IsPair h TO a b) ∧ It t1 h i1 l1 0 ∧ It t2 h i2 l2 0 ∧ Sq t1 h l1 xs ∧ Sq t2 h l2 ys) where
  type := fun s ok => ⟨_, ok.1, rfl⟩
  notDict := by decide
  keep := fun h h' ok hk => by
    obtain ⟨hz, hTI, ⟨a, b, hTO⟩, h1, h2, hl1, hl2⟩ := ok
    exact ⟨hk _ _ hz, hk _ _ hTI, ⟨a, b, hk _ _ hTO⟩, h1.at fun o e => hk _ o e, h2.at fun o e => hk _ o e, hl1.at fun o e => hk _ o e, hl2.at fun o e => hk _ o e⟩
  there := fun h ok b hb => by
    obtain ⟨hz, hTI, ⟨a, c, hTO⟩, h1, h2, hl1, hl2⟩ := ok
    obtain ⟨o1, h1⟩ := It.there h1
    obtain ⟨o2, h2⟩ := It.there h2
    obtain ⟨o3, hl1⟩ := Sq.there hl1
    obtain ⟨o4, hl2⟩ := Sq.there hl2
    simp only [List.mem_cons, List.not_mem_nil, or_false] at hb
    rcases hb with rfl | rfl | rfl | rfl | rfl | rfl | rfl
    all_goals first | exact ⟨_, hz⟩ | exact ⟨_, hTI⟩ | exact ⟨_, hTO⟩ | exact ⟨_, h1⟩ | exact ⟨_, h2⟩ | exact ⟨_, hl1⟩ | exact ⟨_, hl2⟩
  sub := fun b hb => by simp at hb ⊢; rcases hb with rfl | rfl | rfl | rfl <;> simp
  noKeys := fun A s Q E hA ok h => getAttrOr_miss_zip ok.1 rfl rfl rfl zip_no_keys (by decide +kernel) hA h
  iter := fun A s d Q E hA ok hd hdf h => by
    obtain ⟨hz, hTI, ⟨a, b, hTO⟩, h1, h2, hl1, hl2⟩ := ok
    simp only [List.mem_cons, List.not_mem_nil, or_false, not_or] at hdf
    obtain ⟨dz, dTI, dTO, di1, di2, dl1, dl2⟩ := hdf
    refine wpAny_pyIter_zip hz (h z [z, TO, i1, i2] (fun i h => IsPair h TI (.ref i1) (.ref i2) ∧ It t1 h i1 l1 i ∧ It t2 h i2 l2 i ∧ Sq t1 h l1 xs ∧ Sq t2 h l2 ys ∧
      ((IsZip h z TI TO .none ∧ ∃ a b, IsPair h TO a b) ∨ ∃ T f oT, IsZipHeld h z TI TO T f ∧ h.get? T = some oT ∧ T ≠ z ∧ T ≠ i1 ∧ T ≠ i2 ∧ T ≠ d)) s.heap s.toks ?_
      ⟨hTI, h1, h2, hl1, hl2, .inl ⟨hz, a, b, hTO⟩⟩ (fun _ _ e => e) fun b hb => .inl hb)
    exact {
      off := fun hm => by
        simp only [List.mem_cons, List.not_mem_nil, or_false] at hm
        rcases hm with e | e | e | e
        · exact dz e
        · exact dTO e
        · exact di1 e
        · exact di2 e
      frame := fun i h₁ h₂ st hk => by
        obtain ⟨hTI, h1, h2, hl1, hl2, hz⟩ := st
        refine ⟨hk _ _ (Ne.symm dTI) hTI, h1.at fun o e => hk _ o (Ne.symm di1) e, h2.at fun o e => hk _ o (Ne.symm di2) e, hl1.at fun o e => hk _ o (Ne.symm dl1) e, hl2.at fun o e => hk _ o (Ne.symm dl2) e, ?_⟩
        rcases hz with ⟨hz, a, b, hTO⟩ | ⟨T, f, oT, hz, hT, r1, r2, r3, r4⟩
        · exact .inl ⟨hk _ _ (Ne.symm dz) hz, a, b, hk _ _ (Ne.symm dTO) hTO⟩
        · exact .inr ⟨T, f, oT, hk _ _ (Ne.symm dz) hz, hk _ _ r4 hT, r1, r2, r3, r4⟩
      item := fun i s₁ Q₁ E₁ hi st hds hQ => by
        obtain ⟨hTI, h1, h2, hl1, hl2, hz⟩ := st
        have hix : i < xs.size := Nat.lt_of_lt_of_le hi (Nat.min_le_left ..)
        have hiy : i < ys.size := Nat.lt_of_lt_of_le hi (Nat.min_le_right ..)
        have ex := Array.getElem?_eq_getElem hix
        have ey := Array.getElem?_eq_getElem hiy
        have lt : ∀ {c o}, s₁.heap.get? c = some o → s₁.heap.objs.size ≠ c := fun e => Nat.ne_of_gt (Heap.lt_size e)
        have n1 : s₁.heap.objs.size ≠ i1 := let ⟨_, e⟩ := It.there h1; lt e
        have n2 : s₁.heap.objs.size ≠ i2 := let ⟨_, e⟩ := It.there h2; lt e
        rcases hz with ⟨hz, a, b, hTO⟩ | ⟨T, f, oT, hz, hT, r1, r2, r3, r4⟩
        · refine wpAny_pyNext_zip_itemG D hz hTI hTO h1 h2 hl1 hl2 ex ey fun h' a1 a2 a3 a4 a5 a6 hk => ?_
          exact hQ s₁.heap.objs.size _ _ h' s₁.toks ⟨ex, ey⟩ (.inl ⟨_, a5, rfl, _, rfl⟩)
            ⟨hk _ _ D.TIz D.TITO D.TIi1 D.TIi2 hTI, a3, a4, hl1.at fun o e => hk _ o D.l1z D.l1TO D.l1i1 D.l1i2 e, hl2.at fun o e => hk _ o D.l2z D.l2TO D.l2i1 D.l2i2 e,
              .inr ⟨s₁.heap.objs.size, false, _, a1, a5, lt hz, n1, n2, Nat.ne_of_gt hds⟩⟩
            fun c o hc e => hk c o (fun x => hc (by simp [x])) (fun x => hc (by simp [x])) (fun x => hc (by simp [x])) (fun x => hc (by simp [x])) e
        · refine wpAny_pyNext_zip_item_heldG D hz hT hTI h1 h2 hl1 hl2 ex ey fun h' a1 a3 a4 a5 a6 hk => ?_
          exact hQ s₁.heap.objs.size _ _ h' s₁.toks ⟨ex, ey⟩ (.inl ⟨_, a5, rfl, _, rfl⟩)
            ⟨hk _ _ D.TIz D.TIi1 D.TIi2 hTI, a3, a4, hl1.at fun o e => hk _ o D.l1z D.l1i1 D.l1i2 e, hl2.at fun o e => hk _ o D.l2z D.l2i1 D.l2i2 e,
              .inr ⟨T, true, oT, a1, hk _ _ r1 r2 r3 hT, r1, r2, r3, r4⟩⟩
            fun c o hc e => hk c o (fun x => hc (by simp [x])) (fun x => hc (by simp [x])) (fun x => hc (by simp [x])) e
      done := fun s₁ Q₁ E₁ st hQ => by
        obtain ⟨hTI, h1, h2, hl1, hl2, hz⟩ := st
        have hend : xs[min xs.size ys.size]? = none ∨ ys[min xs.size ys.size]? = none := by
          rcases Nat.le_total xs.size ys.size with h | h
          · exact .inl (Array.getElem?_eq_none (by rw [Nat.min_eq_left h]; exact Nat.le_refl _))
          · exact .inr (Array.getElem?_eq_none (by rw [Nat.min_eq_right h]; exact Nat.le_refl _))
        rcases hz with ⟨hz, a, b, hTO⟩ | ⟨T, f, oT, hz, hT, r1, r2, r3, r4⟩
        · exact wpAny_pyNext_zip_endG hA D hz hTI hTO h1 h2 hl1 hl2 hend fun h' hk => hQ h' s₁.toks fun c o hc e => hk c o (fun x => hc (by simp [x])) (fun x => hc (by simp [x])) (fun x => hc (by simp [x])) (fun x => hc (by simp [x])) e
        · exact wpAny_pyNext_zip_end_heldG hA D hz hT hTI h1 h2 hl1 hl2 hend fun h' hk => hQ h' s₁.toks fun c o hc e => hk c o (fun x => hc (by simp [x])) (fun x => hc (by simp [x])) (fun x => hc (by simp [x])) e }



end
end CgZ
set_option maxRecDepth 100000
set_option maxHeartbeats 2000000
/-! R5, second half: the hand rules for zip(a, b), dict(zip), d.update(e). -/
namespace CgZ
open PySem PySem.Spec PyProof.Rows L2
open Sem (wp)
/-- d.update(e) -/
theorem mt_update {X : Cx} : MtR X "dict.update" (fun x vs H Q => ∃ (a b : Addr) (kvs more : List (Key × V)), x = .ref a ∧ vs = [.ref b] ∧ H a = some (.dK kvs) ∧ Rd H b (.dK more) ∧ a ≠ b ∧ kvs.length + more.length ≤ sizeLine ∧
    Q .non (upd H a (.dK (mergeK kvs more)))) := by
  intro pins s σ H x vs v us Q I rx rv q
  obtain ⟨a, b, kvs, more, rfl, rfl, ha, hb, hne, hz, q⟩ := q
  cases rx
  obtain ⟨u, eu, r⟩ := vals1 rv
  subst eu
  cases r
  obtain ⟨z1, lo, vs1, rel1, d1⟩ := dk_of I.hok ha
  obtain ⟨z2, lo2, vs2, rel2, d2⟩ := dk_rd I.hok hb
  refine call_meetsIn PySem.F.slot_dict_update d1.typeIs PySem.F.entry_dict_update (PySem.F.args_dict_update_2 _ _) (meets_dict_update (mixKind X.prog X.w) a b hne lo2)
    ⟨vs1, vs2, d1, d2, by rw [← rel1.length, ← rel2.length]; exact hz, fun h' hm _ sb => ?_⟩
  have hlen : (mergeK kvs more).length ≤ sizeLine := Nat.le_trans (length_mergeK _ _) hz
  have he : ∃ u, h'.get? a = some u := by
    obtain ⟨o, _, _, e, _⟩ := hm
    exact ⟨o, e⟩
  exact ⟨.non, upd H a (.dK (mergeK kvs more)), I.write (t' := s.toks) (e := a) (by rw [ha]; trivial) (.inl rfl) (fun c u hc hu => (sb.2 c hc).trans hu) he
    (show ObjOk X.prog X.w _ _ a (.dK (mergeK kvs more)) from ⟨hlen, lo, merged vs1 vs2, KV.merge rel2 rel1, hm⟩), rfl, q⟩

/-- the five things of a zip of two -/
structure ZA where
  z : Addr
  ti : Addr
  to : Addr
  i1 : Addr
  i2 : Addr
def EX (a : Addr) (o : Obj) : HO := .ext fun h => h.get? a = some o
def itO (t : Bool) (l : Addr) : Obj := { cls := .type (if t = true then "tuple_iterator" else "list_iterator"), data := .fields #[.ref l, .int 0 0] }
structure ZipAt (lo : Nat) (H : Hp) (Z : ZA) (t1 t2 : Bool) (l1 l2 : Addr) : Prop where
  lo : lo ≤ Z.z ∧ lo ≤ Z.to ∧ lo ≤ Z.i1 ∧ lo ≤ Z.i2
  z : H Z.z = some (EX Z.z { cls := .type "zip", dict := none, data := .fields #[.none, .bool false, .bool false, .ref Z.ti, .ref Z.to], slots := #[] })
  ti : H Z.ti = some (EX Z.ti { cls := .type "tuple", data := .seq #[.ref Z.i1, .ref Z.i2] })
  to : H Z.to = some (EX Z.to { cls := .type "tuple", data := .seq #[.none, .none] })
  i1 : H Z.i1 = some (EX Z.i1 (itO t1 l1))
  i2 : H Z.i2 = some (EX Z.i2 (itO t2 l2))
  ap : ZipApart Z.z Z.ti Z.to Z.i1 Z.i2 l1 l2
/-- a list or a tuple -/
def SqX (K : PySem.W.Frag) (t : Bool) (H : Hp) (l : Addr) (xs : List V) : Prop := if t = true then SqT K H l xs else SqL K H l xs
theorem ex_new {P : Program} {w : World} {H : Hp} {h : Heap} {a : Addr} {o : Obj} (e : h.get? a = some o) : ObjOk P w H h a (EX a o) := ⟨e, ⟨o, e⟩, fun h1 h2 p k => k o p⟩
section
variable {X : Cx} {pins : List (Addr × Obj)} {σ : L2.St} {H : Hp} {s : Shared}
theorem sq_of (I : Inv X pins σ H s) {t : Bool} {l : Addr} {xs : List V} (h : SqX X.K t H l xs) : ∃ its : List Value, Vals xs its ∧ Sq t s.heap l its.toArray ∧ xs.length ≤ sizeLine := by
  cases t with
  | true =>
    obtain ⟨its, rv, ⟨o, e, c, n, d⟩, z⟩ := I.tuple (show SqT X.K H l xs from h)
    exact ⟨its, rv, ⟨o, e, c, n, d⟩, z⟩
  | false =>
    obtain ⟨its, rv, ⟨o, n, e, c, d, dd⟩, z⟩ := I.list (show SqL X.K H l xs from h)
    exact ⟨its, rv, ⟨o, e, c, n, dd⟩, z⟩
theorem begins_sq (t : Bool) (l : Addr) (items : Array Value) : Begins (.ref l) (itO t l) fun h => Sq t h l items := by
  cases t with
  | true => exact begins_tuple l items
  | false => exact begins_list l items
theorem inv_gen {h' : Heap} {H' : Hp} {t' : Nat} (I : Inv X pins σ H s) (wr : List Addr) (hw : ∀ b ∈ wr, ∃ φ, H b = some (.ext φ)) (k : ∀ b o, b ∉ wr → s.heap.get? b = some o → h'.get? b = some o)
    (th : ∀ b ∈ wr, ∃ o, h'.get? b = some o) (g : ∀ a o, a ∉ wr → H a = some o → H' a = some o) (f : ∀ a o, s.heap.get? a = some o → H a = none → H' a = none)
    (n : ∀ a o, H' a = some o → (a ∉ wr ∧ H a = some o) ∨ ObjOk X.prog X.w H' h' a o) : Inv X pins σ H' { s with heap := h', toks := t' } := by
  have nw : ∀ b, H b = none → b ∉ wr := fun b e m => by
    obtain ⟨φ, q⟩ := hw b m
    rw [e] at q; cases q
  have ne : ∀ b o, H b = some o → (∀ φ, o ≠ .ext φ) → b ∉ wr := fun b o e d m => by
    obtain ⟨φ, q⟩ := hw b m
    rw [e] at q
    exact d φ (Option.some.inj q)
  refine I.un ⟨fun b o e c _ _ => k b o (nw b c) e, fun b o e c _ _ => ⟨o.slots, k b o (nw b c) e⟩, fun b o e c _ => f b o e c, fun b o e _ => ?_,
    fun b xs e => g b _ (ne b _ e fun φ z => by cases z) e, fun b o u e => g b _ (ne b _ e fun φ z => by cases z) e, fun b ps e => ⟨#[], by rw [g b _ (ne b _ e fun φ z => by cases z) e]; simp⟩⟩ fun a o e => ?_
  · by_cases hb : b ∈ wr
    · exact th b hb
    · exact ⟨o, k b o hb e⟩
  · rcases n a o e with ⟨ha, e'⟩ | z
    · refine (I.hok a o e').stay (fun b u hb q => k b u ?_ q) (fun b q => g b _ (ne b _ q fun φ z => by cases z) q) fun b xs q => g b _ (ne b _ q fun φ z => by cases z) q
      rcases hb with rfl | hb
      · exact ha
      · exact ne b _ hb fun φ z => by cases z
    · exact z

theorem inv_chg {h' : Heap} {H' : Hp} {t' : Nat} (I : Inv X pins σ H s) (wr : List Addr) (hw : ∀ b ∈ wr, ∃ φ, H b = some (.ext φ)) (k : ∀ b o, b ∉ wr → s.heap.get? b = some o → h'.get? b = some o)
    (lo : ∀ b ∈ wr, X.s_0.heap.objs.size ≤ b) (g : ∀ a o, a ∉ wr → H a = some o → H' a = some o) (f : ∀ a o, s.heap.get? a = some o → H a = none → H' a = none)
    (n : ∀ a o, H' a = some o → (a ∉ wr ∧ H a = some o) ∨ ObjOk X.prog X.w H' h' a o) : Inv X pins σ H' { s with heap := h', toks := t' } := by
  have nw : ∀ b, H b = none → b ∉ wr := fun b e m => by
    obtain ⟨φ, q⟩ := hw b m
    rw [e] at q; cases q
  have ne : ∀ b o, H b = some o → (∀ φ, o ≠ .ext φ) → b ∉ wr := fun b o e d m => by
    obtain ⟨φ, q⟩ := hw b m
    rw [e] at q
    exact d φ (Option.some.inj q)
  refine I.call (ch := wr) ⟨fun b o e c _ _ => k b o (nw b c) e, fun b o e c _ _ => ⟨o.slots, k b o (nw b c) e⟩, fun b o e c _ => f b o e c, fun b o e hb => ⟨o, k b o hb e⟩,
    fun b xs e => g b _ (ne b _ e fun φ z => by cases z) e, fun b o u e => g b _ (ne b _ e fun φ z => by cases z) e, fun b ps e => ⟨#[], by rw [g b _ (ne b _ e fun φ z => by cases z) e]; simp⟩⟩ (fun a o e => ?_) I.bare fun b hb => ?_
  · rcases n a o e with ⟨ha, e'⟩ | z
    · refine (I.hok a o e').stay (fun b u hb q => k b u ?_ q) (fun b q => g b _ (ne b _ q fun φ z => by cases z) q) fun b xs q => g b _ (ne b _ q fun φ z => by cases z) q
      rcases hb with rfl | hb
      · exact ha
      · exact ne b _ hb fun φ z => by cases z
    · exact z
  · obtain ⟨φ, q⟩ := hw b hb
    refine ⟨.inr (lo b hb), fun z => ?_, fun x c e z => ?_, fun p hp z => ?_⟩
    · rw [z, I.free] at q; cases q
    · rw [← z, I.freeC x c e] at q; cases q
    · rw [← z, (I.pin p hp).2.1] at q; cases q

theorem nenat {a b : Nat} (h : b < a) : ¬ a = b := by omega
theorem nenat' {a b : Nat} (h : a < b) : ¬ a = b := by omega
theorem apart5 (n l1 l2 : Nat) (h1 : l1 < n) (h2 : l2 < n) : ZipApart (n + 4) (n + 2) (n + 3) n (n + 1) l1 l2 := by constructor <;> first | exact nenat (by omega) | exact nenat' (by omega)
/-- zip(a, b) -/
theorem call_zip2 : CallR X (.type "zip") (fun xs H Q => ∃ (t1 t2 : Bool) (l1 l2 : Addr) (as bs : List V), xs = [.ref l1, .ref l2] ∧ SqX X.K t1 H l1 as ∧ SqX X.K t2 H l2 bs ∧
    ∀ (Z : ZA) H', (∀ a, a = Z.z ∨ a = Z.ti ∨ a = Z.to ∨ a = Z.i1 ∨ a = Z.i2 → H a = none) → (∀ a o, H a = some o → H' a = some o) → ZipAt X.s_0.heap.objs.size H' Z t1 t2 l1 l2 → Q (.ref Z.z) H') := by
  intro pins s σ H xs us Q I r q
  obtain ⟨t1, t2, l1, l2, as, bs, rfl, h1, h2, q⟩ := q
  obtain ⟨u1, u2, rfl, r1, r2⟩ := vals2 r
  cases r1
  cases r2
  obtain ⟨its1, rv1, q1, _⟩ := sq_of I h1
  obtain ⟨its2, rv2, q2, _⟩ := sq_of I h2
  have lt1 : l1 < s.heap.objs.size := by obtain ⟨o, e⟩ := q1.there; exact Heap.lt_size e
  have lt2 : l2 < s.heap.objs.size := by obtain ⟨o, e⟩ := q2.there; exact Heap.lt_size e
  refine zip_begins2 (begins_sq t1 l1 its1.toArray) (begins_sq t2 l2 its2.toArray) q1 q2 fun h' g4 g2 g3 g0 g1 hsz k => ?_
  generalize hn : s.heap.objs.size = n at *
  have fr : ∀ i, H (n + i) = none := fun i => I.hok.fresh (by omega)
  have fr' : ∀ b, n ≤ b → H b = none := fun b hb => I.hok.fresh (by omega)
  generalize hH : (fun a => if a = n then some (EX n (itO t1 l1)) else if a = n + 1 then some (EX (n + 1) (itO t2 l2)) else if a = n + 2 then some (EX (n + 2) { cls := .type "tuple", data := .seq #[.ref n, .ref (n + 1)] })
    else if a = n + 3 then some (EX (n + 3) { cls := .type "tuple", data := .seq #[.none, .none] })
    else if a = n + 4 then some (EX (n + 4) { cls := .type "zip", dict := none, data := .fields #[.none, .bool false, .bool false, .ref (n + 2), .ref (n + 3)], slots := #[] }) else H a : Hp) = H'
  have e0 : H' n = some (EX n (itO t1 l1)) := by subst hH; simp
  have e1 : H' (n + 1) = some (EX (n + 1) (itO t2 l2)) := by subst hH; simp
  have e2 : H' (n + 2) = some (EX (n + 2) { cls := .type "tuple", data := .seq #[.ref n, .ref (n + 1)] }) := by subst hH; simp
  have e3 : H' (n + 3) = some (EX (n + 3) { cls := .type "tuple", data := .seq #[.none, .none] }) := by subst hH; simp
  have e4 : H' (n + 4) = some (EX (n + 4) { cls := .type "zip", dict := none, data := .fields #[.none, .bool false, .bool false, .ref (n + 2), .ref (n + 3)], slots := #[] }) := by subst hH; simp
  have e5 : ∀ a, a < n → H' a = H a := fun a ha => by
    subst hH
    show (if a = n then _ else _) = _
    rw [if_neg (nenat' (by omega)), if_neg (nenat' (by omega)), if_neg (nenat' (by omega)), if_neg (nenat' (by omega)), if_neg (nenat' (by omega))]
  have e6 : ∀ a, n + 5 ≤ a → H' a = H a := fun a ha => by
    subst hH
    show (if a = n then _ else _) = _
    rw [if_neg (nenat (by omega)), if_neg (nenat (by omega)), if_neg (nenat (by omega)), if_neg (nenat (by omega)), if_neg (nenat (by omega))]
  have old : ∀ a o, H a = some o → a < n := fun a o e => by
    rcases Nat.lt_or_ge a n with c | c
    · exact c
    · rw [fr' a c] at e; cases e
  have J : Inv X pins σ H' { s with heap := h', toks := s.toks } := inv_gen I [] (fun b m => nomatch m) (fun b o _ e => k b o e) (fun b m => nomatch m) (fun a o _ e => by rw [e5 a (old a o e)]; exact e)
    (fun a o e c => by rw [e5 a (by rw [← hn]; exact Heap.lt_size e)]; exact c) fun a o e => by
      rcases Nat.lt_or_ge a n with c | c
      · rw [e5 a c] at e
        exact .inl ⟨by simp, e⟩
      · refine .inr ?_
        by_cases c0 : a = n
        · subst c0; rw [e0] at e; cases e; exact ex_new g0
        by_cases c1 : a = n + 1
        · subst c1; rw [e1] at e; cases e; exact ex_new g1
        by_cases c2 : a = n + 2
        · subst c2; rw [e2] at e; cases e; exact ex_new g2
        by_cases c3 : a = n + 3
        · subst c3; rw [e3] at e; cases e; exact ex_new g3
        by_cases c4 : a = n + 4
        · subst c4; rw [e4] at e; cases e; exact ex_new g4
        · have c5 : n + 5 ≤ a := (fun (n a : Nat) (c : n ≤ a) (c0 : ¬ a = n) (c1 : ¬ a = n + 1) (c2 : ¬ a = n + 2) (c3 : ¬ a = n + 3) (c4 : ¬ a = n + 4) => (by omega : n + 5 ≤ a)) n a c c0 c1 c2 c3 c4
          rw [e6 a c5, fr' a c] at e; cases e
  refine ⟨.ref (n + 4), H', J, rfl, q ⟨n + 4, n + 2, n + 3, n, n + 1⟩ H' (fun a ha => ?_) (fun a o e => by rw [e5 a (old a o e)]; exact e) ⟨?_, e4, e2, e3, e0, e1, ?_⟩⟩
  · rcases ha with h | h | h | h | h <;> (subst h; exact fr' _ (by first | exact Nat.le_add_right _ _ | exact Nat.le_refl _))
  · have z : X.s_0.heap.objs.size ≤ n := by rw [← hn]; exact I.sz
    exact ⟨Nat.le_trans z (Nat.le_add_right _ _), Nat.le_trans z (Nat.le_add_right _ _), z, Nat.le_trans z (Nat.le_add_right _ _)⟩
  · exact apart5 n l1 l2 lt1 lt2

theorem text_is {P : Program} {w : World} {k : Str} {u : Value} (r : RelV (.str k) u) : (mixKind P w).is (Sum.inr k) u = true := kV_is (k := .inr k) r
/-- dict(z) of such a zip, the keys texts -/
theorem call_dictZ (hcalm : X.calm = true) : CallR X (.type "dict") (fun xs H Q => ∃ (Z : ZA) (t1 t2 : Bool) (l1 l2 : Addr) (ks : List Str) (bs : List V), xs = [.ref Z.z] ∧ ZipAt X.s_0.heap.objs.size H Z t1 t2 l1 l2 ∧ SqX X.K t1 H l1 (ks.map V.str) ∧ SqX X.K t2 H l2 bs ∧
    ∀ d H', H d = none → H' d = some (.dK (mergeK [] ((ks.map Sum.inr).zip bs))) → (∀ a o, a ≠ Z.z → a ≠ Z.to → a ≠ Z.i1 → a ≠ Z.i2 → H a = some o → H' a = some o) → Q (.ref d) H') := by
  intro pins s σ H xs us Q I r q
  obtain ⟨Z, t1, t2, l1, l2, ks, bs, rfl, zat, h1, h2, q⟩ := q
  obtain ⟨u, eu, rx⟩ := vals1 r
  subst eu
  cases rx
  obtain ⟨its1, rv1, q1, z1⟩ := sq_of I h1
  obtain ⟨its2, rv2, q2, z2⟩ := sq_of I h2
  have gz := (I.hok _ _ zat.z).1
  have gti := (I.hok _ _ zat.ti).1
  have gto := (I.hok _ _ zat.to).1
  have gi1 := (I.hok _ _ zat.i1).1
  have gi2 := (I.hok _ _ zat.i2).1
  have w1 : It t1 s.heap Z.i1 l1 0 := by cases t1 <;> exact ⟨_, gi1, rfl, rfl⟩
  have w2 : It t2 s.heap Z.i2 l2 0 := by cases t2 <;> exact ⟨_, gi2, rfl, rfl⟩
  have l1' : ks.length = its1.length := by have z := rv1.length; rw [List.length_map] at z; exact z
  have l2' : bs.length = its2.length := rv2.length
  generalize hkv : (ks.map Sum.inr).zip its2 = kvs
  have hlen : kvs.length = min its1.length its2.length := by subst hkv; rw [List.length_zip, List.length_map, l1']
  have hmin : min its1.toArray.size its2.toArray.size = min its1.length its2.length := by simp
  have rel : KV ((ks.map Sum.inr).zip bs) kvs := by
    subst hkv
    have gen : ∀ {bs : List V} {its : List Value} (keys : List Key), Vals bs its → KV (keys.zip bs) (keys.zip its) := by
      intro bs its keys rv
      unfold KV
      induction rv generalizing keys with
      | nil => cases keys <;> exact .nil
      | cons rr tt ih =>
        cases keys with
        | nil => exact .nil
        | cons k keys => exact .cons ⟨rfl, rr⟩ (ih keys)
    exact gen _ rv2
  refine PySem.call_dict_pairs (knd := mixKind X.prog X.w) (kvs := kvs) (zipArg t1 t2 Z.z Z.ti Z.to Z.i1 Z.i2 l1 l2 zat.ap its1.toArray its2.toArray) (I.ok.hd hcalm)
    ⟨gz, gti, ⟨_, _, gto⟩, w1, w2, q1, q2⟩ ⟨by rw [hmin]; exact hlen, fun i key v rl => ?_⟩ (by rw [hmin, ← l1']; rw [List.length_map] at z1; exact Nat.le_trans (Nat.min_le_left _ _) z1) fun h' tk hd' hk => ?_
  · obtain ⟨e1, e2⟩ := rl
    rw [List.getElem?_toArray] at e1 e2
    have hi : i < ks.length := by rw [l1']; exact (List.getElem?_eq_some_iff.mp e1).1
    have ek : (ks.map V.str)[i]? = some (.str ks[i]) := by rw [List.getElem?_map, List.getElem?_eq_getElem hi]; rfl
    obtain ⟨u, eu, ru⟩ := rv1.get ek
    rw [e1] at eu
    cases eu
    refine ⟨.inr ks[i], ?_, text_is ru⟩
    subst hkv
    rw [List.getElem?_zip_eq_some]
    exact ⟨by rw [List.getElem?_map, List.getElem?_eq_getElem hi]; rfl, e2⟩
  · clear hmin
    generalize hn : s.heap.objs.size = n at *
    have old : ∀ a o, H a = some o → a < n := fun a o e => by
      rw [← hn]
      exact I.hok.lt e
    generalize hH : (fun a => if a = n then some (.dK (mergeK [] ((ks.map Sum.inr).zip bs))) else if a ∈ [Z.z, Z.to, Z.i1, Z.i2] then none else H a : Hp) = H'
    have f0 : H' n = some (.dK (mergeK [] ((ks.map Sum.inr).zip bs))) := by subst hH; simp
    have f1 : ∀ a, a < n → a ∉ [Z.z, Z.to, Z.i1, Z.i2] → H' a = H a := fun a ha hb => by
      subst hH
      show (if a = n then _ else _) = _
      rw [if_neg (Nat.ne_of_lt ha), if_neg hb]
    have lt : ∀ {a o}, H a = some o → a < n := fun e => old _ _ e
    have hwr : ∀ b ∈ [Z.z, Z.to, Z.i1, Z.i2], ∃ φ, H b = some (.ext φ) := fun b hb => by
      simp only [List.mem_cons, List.not_mem_nil, or_false] at hb
      rcases hb with rfl | rfl | rfl | rfl
      · exact ⟨_, zat.z⟩
      · exact ⟨_, zat.to⟩
      · exact ⟨_, zat.i1⟩
      · exact ⟨_, zat.i2⟩
    have f2 : ∀ a ∈ [Z.z, Z.to, Z.i1, Z.i2], H' a = none := fun a ha => by
      obtain ⟨φ, e⟩ := hwr a ha
      have z := old a _ e
      subst hH
      show (if a = n then _ else _) = _
      rw [if_neg (Nat.ne_of_lt z), if_pos ha]
    have hm : (n == sysModules) = false := by rw [← hn]; exact beq_eq_false_iff_ne.mpr (Nat.ne_of_gt I.big)
    have hz : (mergeK [] ((ks.map Sum.inr).zip bs)).length ≤ sizeLine := by
      refine Nat.le_trans (length_mergeK _ []) ?_
      rw [List.length_zip, List.length_map]
      simp only [List.length_nil, Nat.zero_add]
      rw [List.length_map] at z1
      exact Nat.le_trans (Nat.min_le_left _ _) z1
    have hlo : ∀ b ∈ [Z.z, Z.to, Z.i1, Z.i2], X.s_0.heap.objs.size ≤ b := fun b hb => by
      simp only [List.mem_cons, List.not_mem_nil, or_false] at hb
      rcases hb with rfl | rfl | rfl | rfl
      · exact zat.lo.1
      · exact zat.lo.2.1
      · exact zat.lo.2.2.1
      · exact zat.lo.2.2.2
    have J : Inv X pins σ H' { s with heap := h', toks := tk } := inv_chg I [Z.z, Z.to, Z.i1, Z.i2] hwr (fun b o hb e => hk b o hb e) hlo (fun a o hb e => by rw [f1 a (old a o e) hb]; exact e)
      (fun a o e c => by rw [f1 a (by rw [← hn]; exact Heap.lt_size e) (fun m => by obtain ⟨φ, z⟩ := hwr a m; rw [c] at z; cases z)]; exact c) fun a o e => by
        by_cases c0 : a = n
        · subst c0
          rw [f0] at e; cases e
          exact .inr ⟨hz, hm, merged [] kvs, KV.merge rel .nil, hd'⟩
        · by_cases c1 : a ∈ [Z.z, Z.to, Z.i1, Z.i2]
          · rw [f2 a c1] at e; cases e
          · subst hH
            have e' : (if a = n then some (.dK (mergeK [] ((ks.map Sum.inr).zip bs))) else if a ∈ [Z.z, Z.to, Z.i1, Z.i2] then none else H a) = some o := e
            rw [if_neg c0, if_neg c1] at e'
            exact .inl ⟨c1, e'⟩
    exact ⟨.ref n, H', J, rfl, q n H' (I.hok.fresh (Nat.le_of_eq hn)) f0 fun a o a1 a2 a3 a4 e => by
      rw [f1 a (old a o e) (by simp [a1, a2, a3, a4])]; exact e⟩
end
end CgZ
set_option maxRecDepth 100000
set_option maxHeartbeats 2000000
/-! R7: o.m(e, ..) that may let an exception out. -/
namespace CgM
open PySem PySem.Spec PyProof.Rows L2
def tMethS (C : Addr) (m : Str) (sp : Sp) (E : L2.St → XK) (ta : TE) (t : TA) : TE := fun σ H Q => ta σ H fun x H1 => ∃ a dx fs, x = .ref a ∧ H1 a = some (.ins C dx fs) ∧ fs.lookup m = none ∧ t σ H1 fun vs H2 => sp (x :: vs) H2 Q (E σ)
theorem pe_methS {X : Cx} {CX : CXT} {k : Nat} {f C : Addr} {fd : FuncData} {ps : List Str} {sp : Sp} {E : L2.St → XK} {m : Str} {pos apos : Pos} {e o : Expr} {es : List Expr} {ta : TE} {t : TA} {pl : Sem Bool} (he : PE X o ta) (c : Cls X.K C) (hm : Meth X.K C m f)
    (F : FnOk X.prog X.w X.K X.mg X.base CX k f fd ps sp) (hr : Room k X.A) (hb : Binds X.K fd ps []) (hx : ∀ σ, PassesAt CX X σ (E σ)) (ha : PA X (e :: es) t)
    (hst : starEach (e :: es) X.env = (false, eval e X.env) :: starEach es X.env := by rfl) (hpl : (backTo pos (starEach es X.env)).any (·.1) = false := by rfl)
    (ht : eval (.Call (.Attribute o m apos) (e :: es) [] pos) X.env = (do
      let ov ← eval o X.env
      standAt apos.atName
      let (f, first) ← holding [ov] (getMethod ov m pl)
      callWith pos f first (backTo pos (starEach (e :: es) X.env)) (backToKw pos (keywordEach [] X.env))) := by rfl) :
    PE X (.Call (.Attribute o m apos) (e :: es) [] pos) (tMethS C m sp E ta t) := by
  refine ⟨fun pins s σ H Q I h => ?_⟩
  refine PySem.W.methodCall_KW (pl := pl) (thn (he.run pins s σ H _ I h) fun u s1 ⟨x, H1, I1, rx, a, dx, fs, ex, ea, l, q⟩ => ?_) ht
  subst ex
  obtain rfl : u = Value.ref a := rx
  refine getmeth_ok I1 ea c hm l ?_
  refine PySem.W.callWith_K (first := [.ref a]) (h₀ := X.base) I.ok.mod.kin hm.kp (thn (ha.run pos pins s1 σ H1 _ I1 q) fun us s2 ⟨vs, H2, I2, r, q2⟩ => ⟨I2.kIn, ?_⟩) hst hpl
  exact run_fnS (us := .ref a :: us) (vs := .ref a :: vs) F hr hb (hx σ) I2 (.cons rfl r) q2
end CgM
set_option maxRecDepth 100000
set_option maxHeartbeats 2000000
/-! R8: d = {k: v for ..} as a statement. -/
namespace CgD
open PySem PySem.Spec PyProof.Rows L2
section
variable {X : Cx}
theorem sw_trueD {kx vx : Expr} {gs : List Comprehension} {scope : Scope} {pos py : Pos} {y : Str} {l : Nat} {env : Env} (hk : env.scope.kind = .function) (hy : env.scope.names.lookup y = some .local) (hl : (py.line == pos.line) = true)
    (ha : (scope.names.any fun (n, k) => n == y && (k == .local || k == .cell)) = false) : swapsWith (.DictComp kx vx gs scope pos) (some (.Name y py)) l env = pure true := by
  have ky : env.kindOf y = some .local := hy
  have hb : env.blockKind = .function := by unfold Env.blockKind; rw [hk]; rfl
  unfold swapsWith
  simp only [hb, ky, ha, Expr.pos, hl]
  rfl
theorem ps_setDc {i : Nat} {y : Str} {py : Pos} {kx vx tg iter : Expr} {ifs : List Expr} {scope : Scope} {own : List (Str × Nat)} {pos spos : Pos} {wi : TI} {g : TG} {tt : TT} {tk tv : TE} (hc : X.calm = true) (hN : X.N.Nodup) (hy : X.N[i]? = some y) (hyl : X.env.scope.names.lookup y = some .local)
    (hsw : swapsWith (.DictComp kx vx [⟨tg, iter, ifs, 0⟩] scope pos) (some (.Name y py)) spos.line X.env = pure true) (hi : PI X tg iter wi) (ok : BlkOk X.N X.env.scope scope own)
    (hg : ∀ (s : Shared) (H : Hp) (C : Addr) (cl : List (Str × Addr)) (fp : List Addr), PG (X.blk s H scope (compEnvC scope cl C X.env) fp) tg g) (ht : ∀ (s : Shared) (H : Hp) (C : Addr) (cl : List (Str × Addr)) (fp : List Addr), PTs (X.blk s H scope (compEnvC scope cl C X.env) fp) ifs tt)
    (hk : ∀ (s : Shared) (H : Hp) (C : Addr) (cl : List (Str × Addr)) (fp : List Addr), PE (X.blk s H scope (compEnvC scope cl C X.env) fp) kx tk)
    (he : ∀ (s : Shared) (H : Hp) (C : Addr) (cl : List (Str × Addr)) (fp : List Addr), PE (X.blk s H scope (compEnvC scope cl C X.env) fp) vx tv) (hs : ∀ x, foldedSetIterable iter X.env x = pure x := by intro _; rfl) :
    PS X (.Assign [.Name y py] (.DictComp kx vx [⟨tg, iter, ifs, 0⟩] scope pos) spos) (tAsg (tDc wi g tt tk tv (own.map (·.2))) (gName i)) := by
  refine ⟨fun pins s σ H D I h => ?_⟩
  rw [exec_Assign_Name_used _ _ _ _ hsw]
  refine wpAny_bind (wpAny_standAt (wpAny_bind ?_))
  show wpAny _ X.A (do let _ ← comprehension (.DictComp kx vx [⟨tg, iter, ifs, 0⟩] scope pos) scope X.env (firstIterPos [⟨tg, iter, ifs, 0⟩] pos) newDict false (eval iter X.env) (some (assign (.Name y py) X.env))) _ _ s
  have h : tDc wi g tt tk tv (own.map (·.2)) σ H (fun x H1 => gName i x σ H1 D.nx) := h
  refine wpAny_bind (thn (dc_core (Qf := fun _ s' => SP X pins D .next s') hc hN I hi ok hg ht hk he hs h fun L C s' m H' I' q hn f => ?_) fun _ s' hq => wpAny_pure (wpAny_pure hq))
  show wpAny _ _ (assign (.Name y py) X.env (.ref L)) _ _ _
  refine wpAny_assign_Name (store_ok2 (v := V.ref L) I' hN hy (.inl hyl) rfl (fun s2 I2 ⟨a, sb, ha⟩ => ?_) (.inr hyl))
  obtain ⟨f0, f1, f2, f3, f4, f5⟩ := f
  have haC : C ≠ a := by
    rcases ha with z | z
    · rw [z]; exact f1
    · exact fun e => f4 y a z e.symm
  refine ⟨m, hn.sameBut sb haC, fun h3 sb3 => ?_⟩
  exact ⟨_, H', I2.turned (t' := s2.toks) (fun b o hb e => (sb3.2 b hb).trans e) f0 f1 f3 f4 f5, q⟩
end
end CgD
set_option maxRecDepth 100000
set_option maxHeartbeats 2000000
/-! The base: the text's statements, the facts of its top. -/
namespace Cc
open PySem PySem.Spec PyProof.Rows L2
def pos0 : Pos := ⟨0, 0, 0, 0⟩
/-- the top's i-th statement -/
def dst (i : Nat) : Stmt := PySem.Challenge.pw_carryclaim_k11_whole_runs.main.body.getD i (.Pass pos0)
def clsBody : Stmt → List Stmt
  | .ClassDef _ _ _ b _ _ _ _ _ _ _ => b
  | _ => []
/-- the j-th statement of the class at i -/
def mst (i j : Nat) : Stmt := (clsBody (dst i)).getD j (.Pass pos0)
/-- a def of the top: its own line, its name's value, kept, its arguments -/
structure DefF (K : PySem.W.Frag) (mg : Str → Option Value) (nm : Str) (st : Stmt) (ps : List Str) (f : Addr) (fd : FuncData) : Prop where
  fn : Fun K nm nm st f fd
  mg : mg nm = some (.ref f)
  kp : PySem.W.keepIn K (.ref f) = true
  bd : Binds K fd ps []
end Cc
set_option maxRecDepth 100000
set_option maxHeartbeats 0
/-! The head: what the top leaves, and what it says. -/
namespace Cc
open PySem PySem.Spec PyProof.Rows L2
def nmOf : Nat → Str × Option Str
  | 1 => ("procedure_of", none)
  | 2 => ("blocks_of", none)
  | 3 => ("all_statements", none)
  | 4 => ("target_of", none)
  | 5 => ("parameters", none)
  | 6 => ("local_names", none)
  | 7 => ("locals_of", none)
  | 8 => ("variables", none)
  | 11 => ("path_text", none)
  | 12 => ("path_of", none)
  | 13 => ("block_at", none)
  | 14 => ("statement_by_path", none)
  | 15 => ("is_plain", none)
  | 16 => ("statement_at", none)
  | 17 => ("first_place", none)
  | 18 => ("next_place", none)
  | 19 => ("next_of_path", none)
  | 20 => ("block_place", none)
  | 27 => ("operate", none)
  | 28 => ("compare", none)
  | 29 => ("full_run", none)
  | 30 => ("run", none)
  | 31 => ("trace", none)
  | 33 => ("_law_next", none)
  | 34 => ("_law_same", none)
  | 35 => ("_law_number", none)
  | 36 => ("_law_expression", none)
  | 37 => ("_law_comparison", none)
  | 38 => ("_law_condition", none)
  | 39 => ("_law_counting", none)
  | 40 => ("_law_statement", none)
  | 41 => ("_law_block", none)
  | 42 => ("_law_procedure", none)
  | 43 => ("_law_program", none)
  | 44 => ("_law_blocks", none)
  | 45 => ("_law_all", none)
  | 46 => ("_law_targets", none)
  | 47 => ("_law_locals", none)
  | 48 => ("_law_inputs", none)
  | 49 => ("_law_operate", none)
  | 50 => ("_law_value", none)
  | 51 => ("_law_compare", none)
  | 52 => ("_law_truth", none)
  | 53 => ("_law_known", none)
  | 54 => ("_law_store", none)
  | 55 => ("_law_tick", none)
  | 56 => ("_law_fails", none)
  | 57 => ("_law_block_run", none)
  | 58 => ("_law_branch_run", none)
  | 59 => ("_law_call_run", none)
  | 60 => ("_law_procedure_run", none)
  | 61 => ("_law_statement_run", none)
  | 62 => ("_law_plain_run", none)
  | 63 => ("_law_run", none)
  | 64 => ("law", none)
  | 24 => ("Failure", none)
  | 25 => ("Frame", none)
  | 26 => ("Run", none)
  | 2500 => ("Frame", some "__init__")
  | 2600 => ("Run", some "__init__")
  | 2601 => ("Run", some "frame")
  | 2602 => ("Run", some "value")
  | 2603 => ("Run", some "store")
  | 2604 => ("Run", some "keep_step")
  | 2605 => ("Run", some "leave")
  | 2606 => ("Run", some "leave_ended")
  | 2607 => ("Run", some "step")
  | 2608 => ("Run", some "execute")
  | 2609 => ("Run", some "simple")
  | 2610 => ("Run", some "branch")
  | 2611 => ("Run", some "call")
  | 2612 => ("Run", some "result")
  | 2613 => ("Run", some "holds")
  | 2400 => ("Failure", some "__init__")
  | _ => ("law", none)
def aOf (K : PySem.W.Frag) (i : Nat) : Addr := if i = 1500 then He.codeOf K ("is_plain", none) else if i = 1501 then He.tabOf K (He.codeOf K ("is_plain", none)) else if i = 1600 then He.codeOf K ("statement_at", none) else if i = 1601 then He.tabOf K (He.codeOf K ("statement_at", none)) else He.fAd K (nmOf i)
def fdOf (K : PySem.W.Frag) (i : Nat) : FuncData := match K.lookup (aOf K i) with
  | some ⟨_, _, .func fd, _⟩ => fd
  | _ => default
def fd1 : He.DefD := ⟨("procedure_of", none), "procedure_of", "procedure_of", defArgs (dst 1), defBody (dst 1), defScope (dst 1), [], []⟩
def fd2 : He.DefD := ⟨("blocks_of", none), "blocks_of", "blocks_of", defArgs (dst 2), defBody (dst 2), defScope (dst 2), [], []⟩
def fd3 : He.DefD := ⟨("all_statements", none), "all_statements", "all_statements", defArgs (dst 3), defBody (dst 3), defScope (dst 3), [], []⟩
def fd4 : He.DefD := ⟨("target_of", none), "target_of", "target_of", defArgs (dst 4), defBody (dst 4), defScope (dst 4), [], []⟩
def fd5 : He.DefD := ⟨("parameters", none), "parameters", "parameters", defArgs (dst 5), defBody (dst 5), defScope (dst 5), [], []⟩
def fd6 : He.DefD := ⟨("local_names", none), "local_names", "local_names", defArgs (dst 6), defBody (dst 6), defScope (dst 6), [], []⟩
def fd7 : He.DefD := ⟨("locals_of", none), "locals_of", "locals_of", defArgs (dst 7), defBody (dst 7), defScope (dst 7), [], []⟩
def fd8 : He.DefD := ⟨("variables", none), "variables", "variables", defArgs (dst 8), defBody (dst 8), defScope (dst 8), [], []⟩
def fd11 : He.DefD := ⟨("path_text", none), "path_text", "path_text", defArgs (dst 11), defBody (dst 11), defScope (dst 11), [], []⟩
def fd12 : He.DefD := ⟨("path_of", none), "path_of", "path_of", defArgs (dst 12), defBody (dst 12), defScope (dst 12), [], []⟩
def fd13 : He.DefD := ⟨("block_at", none), "block_at", "block_at", defArgs (dst 13), defBody (dst 13), defScope (dst 13), [], []⟩
def fd14 : He.DefD := ⟨("statement_by_path", none), "statement_by_path", "statement_by_path", defArgs (dst 14), defBody (dst 14), defScope (dst 14), [], []⟩
def fd15 : He.DefD := ⟨("is_plain", none), "is_plain", "is_plain", defArgs (dst 15), defBody (dst 15), defScope (dst 15), [], []⟩
def fd16 : He.DefD := ⟨("statement_at", none), "statement_at", "statement_at", defArgs (dst 16), defBody (dst 16), defScope (dst 16), [], []⟩
def fd17 : He.DefD := ⟨("first_place", none), "first_place", "first_place", defArgs (dst 17), defBody (dst 17), defScope (dst 17), [], []⟩
def fd18 : He.DefD := ⟨("next_place", none), "next_place", "next_place", defArgs (dst 18), defBody (dst 18), defScope (dst 18), [], []⟩
def fd19 : He.DefD := ⟨("next_of_path", none), "next_of_path", "next_of_path", defArgs (dst 19), defBody (dst 19), defScope (dst 19), [], []⟩
def fd20 : He.DefD := ⟨("block_place", none), "block_place", "block_place", defArgs (dst 20), defBody (dst 20), defScope (dst 20), [], []⟩
def fd27 : He.DefD := ⟨("operate", none), "operate", "operate", defArgs (dst 27), defBody (dst 27), defScope (dst 27), [], []⟩
def fd28 : He.DefD := ⟨("compare", none), "compare", "compare", defArgs (dst 28), defBody (dst 28), defScope (dst 28), [], []⟩
def fd29 : He.DefD := ⟨("full_run", none), "full_run", "full_run", defArgs (dst 29), defBody (dst 29), defScope (dst 29), [], []⟩
def fd30 : He.DefD := ⟨("run", none), "run", "run", defArgs (dst 30), defBody (dst 30), defScope (dst 30), [], []⟩
def fd31 : He.DefD := ⟨("trace", none), "trace", "trace", defArgs (dst 31), defBody (dst 31), defScope (dst 31), [], []⟩
def fd33 : He.DefD := ⟨("_law_next", none), "_law_next", "_law_next", defArgs (dst 33), defBody (dst 33), defScope (dst 33), [], []⟩
def fd34 : He.DefD := ⟨("_law_same", none), "_law_same", "_law_same", defArgs (dst 34), defBody (dst 34), defScope (dst 34), [], []⟩
def fd35 : He.DefD := ⟨("_law_number", none), "_law_number", "_law_number", defArgs (dst 35), defBody (dst 35), defScope (dst 35), [], []⟩
def fd36 : He.DefD := ⟨("_law_expression", none), "_law_expression", "_law_expression", defArgs (dst 36), defBody (dst 36), defScope (dst 36), [], []⟩
def fd37 : He.DefD := ⟨("_law_comparison", none), "_law_comparison", "_law_comparison", defArgs (dst 37), defBody (dst 37), defScope (dst 37), [], []⟩
def fd38 : He.DefD := ⟨("_law_condition", none), "_law_condition", "_law_condition", defArgs (dst 38), defBody (dst 38), defScope (dst 38), [], []⟩
def fd39 : He.DefD := ⟨("_law_counting", none), "_law_counting", "_law_counting", defArgs (dst 39), defBody (dst 39), defScope (dst 39), [], []⟩
def fd40 : He.DefD := ⟨("_law_statement", none), "_law_statement", "_law_statement", defArgs (dst 40), defBody (dst 40), defScope (dst 40), [], []⟩
def fd41 : He.DefD := ⟨("_law_block", none), "_law_block", "_law_block", defArgs (dst 41), defBody (dst 41), defScope (dst 41), [], []⟩
def fd42 : He.DefD := ⟨("_law_procedure", none), "_law_procedure", "_law_procedure", defArgs (dst 42), defBody (dst 42), defScope (dst 42), [], []⟩
def fd43 : He.DefD := ⟨("_law_program", none), "_law_program", "_law_program", defArgs (dst 43), defBody (dst 43), defScope (dst 43), [], []⟩
def fd44 : He.DefD := ⟨("_law_blocks", none), "_law_blocks", "_law_blocks", defArgs (dst 44), defBody (dst 44), defScope (dst 44), [], []⟩
def fd45 : He.DefD := ⟨("_law_all", none), "_law_all", "_law_all", defArgs (dst 45), defBody (dst 45), defScope (dst 45), [], []⟩
def fd46 : He.DefD := ⟨("_law_targets", none), "_law_targets", "_law_targets", defArgs (dst 46), defBody (dst 46), defScope (dst 46), [], []⟩
def fd47 : He.DefD := ⟨("_law_locals", none), "_law_locals", "_law_locals", defArgs (dst 47), defBody (dst 47), defScope (dst 47), [], []⟩
def fd48 : He.DefD := ⟨("_law_inputs", none), "_law_inputs", "_law_inputs", defArgs (dst 48), defBody (dst 48), defScope (dst 48), [], []⟩
def fd49 : He.DefD := ⟨("_law_operate", none), "_law_operate", "_law_operate", defArgs (dst 49), defBody (dst 49), defScope (dst 49), [], []⟩
def fd50 : He.DefD := ⟨("_law_value", none), "_law_value", "_law_value", defArgs (dst 50), defBody (dst 50), defScope (dst 50), [], []⟩
def fd51 : He.DefD := ⟨("_law_compare", none), "_law_compare", "_law_compare", defArgs (dst 51), defBody (dst 51), defScope (dst 51), [], []⟩
def fd52 : He.DefD := ⟨("_law_truth", none), "_law_truth", "_law_truth", defArgs (dst 52), defBody (dst 52), defScope (dst 52), [], []⟩
def fd53 : He.DefD := ⟨("_law_known", none), "_law_known", "_law_known", defArgs (dst 53), defBody (dst 53), defScope (dst 53), [], []⟩
def fd54 : He.DefD := ⟨("_law_store", none), "_law_store", "_law_store", defArgs (dst 54), defBody (dst 54), defScope (dst 54), [], []⟩
def fd55 : He.DefD := ⟨("_law_tick", none), "_law_tick", "_law_tick", defArgs (dst 55), defBody (dst 55), defScope (dst 55), [], []⟩
def fd56 : He.DefD := ⟨("_law_fails", none), "_law_fails", "_law_fails", defArgs (dst 56), defBody (dst 56), defScope (dst 56), [], []⟩
def fd57 : He.DefD := ⟨("_law_block_run", none), "_law_block_run", "_law_block_run", defArgs (dst 57), defBody (dst 57), defScope (dst 57), [], []⟩
def fd58 : He.DefD := ⟨("_law_branch_run", none), "_law_branch_run", "_law_branch_run", defArgs (dst 58), defBody (dst 58), defScope (dst 58), [], []⟩
def fd59 : He.DefD := ⟨("_law_call_run", none), "_law_call_run", "_law_call_run", defArgs (dst 59), defBody (dst 59), defScope (dst 59), [], []⟩
def fd60 : He.DefD := ⟨("_law_procedure_run", none), "_law_procedure_run", "_law_procedure_run", defArgs (dst 60), defBody (dst 60), defScope (dst 60), [], []⟩
def fd61 : He.DefD := ⟨("_law_statement_run", none), "_law_statement_run", "_law_statement_run", defArgs (dst 61), defBody (dst 61), defScope (dst 61), [], []⟩
def fd62 : He.DefD := ⟨("_law_plain_run", none), "_law_plain_run", "_law_plain_run", defArgs (dst 62), defBody (dst 62), defScope (dst 62), [], []⟩
def fd63 : He.DefD := ⟨("_law_run", none), "_law_run", "_law_run", defArgs (dst 63), defBody (dst 63), defScope (dst 63), [], []⟩
def fd64 : He.DefD := ⟨("law", none), "law", "law", defArgs (dst 64), defBody (dst 64), defScope (dst 64), [], []⟩
def fd2500 : He.DefD := ⟨("Frame", some "__init__"), "__init__", "Frame.__init__", defArgs (mst 25 0), defBody (mst 25 0), defScope (mst 25 0), [], []⟩
def fd2600 : He.DefD := ⟨("Run", some "__init__"), "__init__", "Run.__init__", defArgs (mst 26 0), defBody (mst 26 0), defScope (mst 26 0), [], []⟩
def fd2601 : He.DefD := ⟨("Run", some "frame"), "frame", "Run.frame", defArgs (mst 26 1), defBody (mst 26 1), defScope (mst 26 1), [], []⟩
def fd2602 : He.DefD := ⟨("Run", some "value"), "value", "Run.value", defArgs (mst 26 2), defBody (mst 26 2), defScope (mst 26 2), [], []⟩
def fd2603 : He.DefD := ⟨("Run", some "store"), "store", "Run.store", defArgs (mst 26 3), defBody (mst 26 3), defScope (mst 26 3), [], []⟩
def fd2604 : He.DefD := ⟨("Run", some "keep_step"), "keep_step", "Run.keep_step", defArgs (mst 26 4), defBody (mst 26 4), defScope (mst 26 4), [], []⟩
def fd2605 : He.DefD := ⟨("Run", some "leave"), "leave", "Run.leave", defArgs (mst 26 5), defBody (mst 26 5), defScope (mst 26 5), [], []⟩
def fd2606 : He.DefD := ⟨("Run", some "leave_ended"), "leave_ended", "Run.leave_ended", defArgs (mst 26 6), defBody (mst 26 6), defScope (mst 26 6), [], []⟩
def fd2607 : He.DefD := ⟨("Run", some "step"), "step", "Run.step", defArgs (mst 26 7), defBody (mst 26 7), defScope (mst 26 7), [], []⟩
def fd2608 : He.DefD := ⟨("Run", some "execute"), "execute", "Run.execute", defArgs (mst 26 8), defBody (mst 26 8), defScope (mst 26 8), [], []⟩
def fd2609 : He.DefD := ⟨("Run", some "simple"), "simple", "Run.simple", defArgs (mst 26 9), defBody (mst 26 9), defScope (mst 26 9), [], []⟩
def fd2610 : He.DefD := ⟨("Run", some "branch"), "branch", "Run.branch", defArgs (mst 26 10), defBody (mst 26 10), defScope (mst 26 10), [], []⟩
def fd2611 : He.DefD := ⟨("Run", some "call"), "call", "Run.call", defArgs (mst 26 11), defBody (mst 26 11), defScope (mst 26 11), [], []⟩
def fd2612 : He.DefD := ⟨("Run", some "result"), "result", "Run.result", defArgs (mst 26 12), defBody (mst 26 12), defScope (mst 26 12), [], []⟩
def fd2613 : He.DefD := ⟨("Run", some "holds"), "holds", "Run.holds", defArgs (mst 26 13), defBody (mst 26 13), defScope (mst 26 13), [], []⟩
def fnLa : List He.DefD := [fd1, fd2, fd3, fd4, fd5, fd6, fd7, fd8, fd11, fd12, fd13, fd14, fd15, fd16, fd17, fd18, fd19, fd20, fd27, fd28, fd29, fd30, fd31, fd33, fd34, fd35, fd36, fd37, fd38, fd39]
def fnLb : List He.DefD := [fd40, fd41, fd42, fd43, fd44, fd45, fd46, fd47, fd48, fd49, fd50, fd51, fd52, fd53, fd54, fd55, fd56, fd57, fd58, fd59, fd60, fd61, fd62, fd63, fd64, fd2500, fd2600, fd2601, fd2602, fd2603]
def fnLc : List He.DefD := [fd2604, fd2605, fd2606, fd2607, fd2608, fd2609, fd2610, fd2611, fd2612, fd2613]
def fnL : List He.DefD := fnLa ++ fnLb ++ fnLc
def faLa : List He.Fa := [.glo "procedure_of", .glo "blocks_of", .glo "all_statements", .glo "target_of", .glo "parameters", .glo "local_names", .glo "locals_of", .glo "variables", .glo "path_text", .glo "path_of", .glo "block_at", .glo "statement_by_path", .glo "is_plain", .glo "statement_at", .glo "first_place", .glo "next_place", .glo "next_of_path", .glo "block_place", .glo "operate", .glo "compare", .glo "full_run", .glo "run", .glo "trace", .glo "_law_next", .glo "_law_same", .glo "_law_number", .glo "_law_expression", .glo "_law_comparison", .glo "_law_condition", .glo "_law_counting"]
def faLb : List He.Fa := [.glo "_law_statement", .glo "_law_block", .glo "_law_procedure", .glo "_law_program", .glo "_law_blocks", .glo "_law_all", .glo "_law_targets", .glo "_law_locals", .glo "_law_inputs", .glo "_law_operate", .glo "_law_value", .glo "_law_compare", .glo "_law_truth", .glo "_law_known", .glo "_law_store", .glo "_law_tick", .glo "_law_fails", .glo "_law_block_run", .glo "_law_branch_run", .glo "_law_call_run", .glo "_law_procedure_run", .glo "_law_statement_run", .glo "_law_plain_run", .glo "_law_run", .glo "law", .glo "Failure", .glo "Frame", .glo "Run", .free "len", .free "int"]
def faLc : List He.Fa := [.free "abs", .free "str", .free "tuple", .free "list", .free "dict", .free "zip", .free "sorted", .free "isinstance", .free "range", .free "all", .free "bool", .free "super", .str "DIGITS" "0123456789", .int "LARGEST" 10000, .int "MOST_CALLS" 12, .mkr "Frame", .cls "Frame", .mkr "Run", .cls "Run", .meth "Run" "frame", .meth "Run" "value", .meth "Run" "store", .meth "Run" "keep_step", .meth "Run" "leave", .meth "Run" "leave_ended", .meth "Run" "step", .meth "Run" "execute", .meth "Run" "simple", .meth "Run" "branch", .meth "Run" "call"]
def faLd : List He.Fa := [.meth "Run" "result", .meth "Run" "holds", .noat "Frame" "name", .noat "Frame" "place", .noat "Frame" "kept", .noat "Frame" "target", .noat "Run" "program", .noat "Run" "inputs", .noat "Run" "names", .noat "Run" "used", .noat "Run" "told", .noat "Run" "steps", .noat "Run" "shared", .noat "Run" "frames", .noat "Run" "ending"]
def faL : List He.Fa := faLa ++ faLb ++ faLc ++ faLd
def looseLa : List Str := ["procedure_of", "blocks_of", "all_statements", "target_of", "parameters", "local_names", "locals_of", "variables", "path_text", "path_of", "block_at", "statement_by_path", "is_plain", "statement_at", "first_place", "next_place", "next_of_path", "block_place", "operate", "compare", "full_run", "run", "trace", "_law_next", "_law_same", "_law_number", "_law_expression", "_law_comparison", "_law_condition", "_law_counting"]
def looseLb : List Str := ["_law_statement", "_law_block", "_law_procedure", "_law_program", "_law_blocks", "_law_all", "_law_targets", "_law_locals", "_law_inputs", "_law_operate", "_law_value", "_law_compare", "_law_truth", "_law_known", "_law_store", "_law_tick", "_law_fails", "_law_block_run", "_law_branch_run", "_law_call_run", "_law_procedure_run", "_law_statement_run", "_law_plain_run", "_law_run", "DIGITS", "LARGEST", "MOST_CALLS", "Failure", "Frame", "Run"]
def looseL : List Str := looseLa ++ looseLb
def tfL : List He.Defn := [("is_plain", none), ("statement_at", none)]
/-! ### Failure -/
def cF (K : PySem.W.Frag) : Addr := He.ga K "Failure"
def iF (K : PySem.W.Frag) : Addr := He.ma K (cF K) "__init__"
def clsFB (K : PySem.W.Frag) (C : Addr) : Bool := match K.lookup C with
  | some ⟨.type "type", _, .cls cd, sl⟩ => (match cd.mro, sl.toList with
    | .ref C' :: bm, [_, _, _, _, some (.builtin n), _] => C' == C && n == "ValueError.__new__" && !cd.hasDel && cd.hasDict && PySem.HandSPX.refsVE bm && He.eqO (PySem.W.alongIn K "__init__" ((Value.ref C :: bm).dropWhile (· != .ref C) |>.drop 1)) (some (some (.builtin "ValueError.__init__")))
    | _, _ => false)
  | _ => false
def fnFB (K : PySem.W.Frag) (C f : Addr) (main : Str) : Bool := match K.lookup f with
  | some ⟨_, _, .func fd, _⟩ => PySem.W.codeIn K fd.code "Failure.__init__" && ((match fd.code with
    | .ref cda => (match K.lookup cda with
      | some ⟨_, _, .fields vs, _⟩ => (match (vs[2]? : Option Value) with
        | some (.str file _) => main == file
        | _ => false)
      | _ => false)
    | _ => false) && (match fd.closure with
    | [(_, cc)] => (match K.lookup cc with
      | some ⟨_, _, .cell (some (.ref C')), _⟩ => C' == C
      | _ => false)
    | _ => false))
  | _ => false
def l1B (K : PySem.W.Frag) (C f : Addr) : List Bool := [He.eqO (PySem.W.findIn K (.ref C) "__setattr__") (some (some (.builtin "object.__setattr__"))), He.eqO (PySem.W.findIn K (.ref C) "__getattribute__") (some (some (.builtin "BaseException.__getattribute__"))), He.eqO (PySem.W.findIn K (.ref C) "__getattr__") (some none), He.eqO (PySem.W.findIn K (.ref C) "kind") (some none), He.eqO (PySem.W.findIn K (.ref C) "__init__") (some (some (.ref f))), decide (PySem.W.typeIn K (.ref f) = some (.type "function")), PySem.W.keepIn K (.ref C), decide (PySem.W.subIn K (.ref C) (.type "BaseException") = some true), decide (PySem.W.subIn K (.ref C) (.type "ValueError") = some true), decide (PySem.W.mroIn K C (.ref C) = some true), decide (PySem.W.typeIn K (.ref C) = some (.type "type")), PySem.W.hasDictIn K C, decide (PySem.W.exmOne K (.ref C) (.ref C) = some true), He.eqO (PySem.W.nsIn K cStatics "thirdparty.any") (some none)]
def mainF : Str := PySem.Challenge.pw_carryclaim_k11_whole_runs.main.file
def failB (K : PySem.W.Frag) : Bool := clsFB K (cF K) && (fnFB K (cF K) (iF K) mainF && (l1B K (cF K) (iF K)).all id)
abbrev FnZ : Type := Option (Str × Str × Arguments × FuncBody × Scope × Addr × List Str × Value × Value × Addr)
def fnZ (K : PySem.W.Frag) (f : Addr) : FnZ := match K.lookup f with
  | some ⟨_, _, .func fd, _⟩ => some (fd.name, fd.qualname, fd.params, fd.body, fd.scope, fd.globals, fd.closure.map (·.1), fd.defaults, fd.kwdefaults, fd.builtins)
  | _ => none
def zVal : FnZ := some ("__init__", "Failure.__init__", defArgs (mst 24 0), .stmts (defBody (mst 24 0)), defScope (mst 24 0), mainGlobals, ["__class__"], .none, .none, builtinsNs)
/-! ### the Hook -/
abbrev AlY : Type := He.AlX × FnZ
def asY (g : Addr → Option Obj) : List Addr := cStatics :: He.asD g 4
def kY (g : Addr → Option Obj) : PySem.W.Frag := He.frT g (asY g)
def obsY (g : Addr → Option Obj) : AlY := ((He.obsT faL fnL [] (kY g), failB (kY g) && He.tabsB g tfL (kY g)), fnZ (kY g) (iF (kY g)))
def valY (w : World) : AlY := (He.valX fnL [] w, zVal)
structure SaysY (w : World) (h : Heap) (K : PySem.W.Frag) : Prop where
  x : He.SaysX faL fnL [] tfL failB w h K
  z : fnZ K (iF K) = zVal
theorem saysY_of {w : World} {h : Heap} (e : obsY h.get? = valY w) : SaysY w h (kY h.get?) := by
  have e1 : He.obsT faL fnL [] (kY h.get?) = He.valT fnL [] w := congrArg (fun z : AlY => z.1.1) e
  have e2 : (failB (kY h.get?) && He.tabsB h.get? tfL (kY h.get?)) = true := congrArg (fun z : AlY => z.1.2) e
  have e3 : fnZ (kY h.get?) (iF (kY h.get?)) = zVal := congrArg (fun z : AlY => z.2) e
  obtain ⟨h1, h2⟩ := He.ba e2
  have key : ∀ p ∈ tfL, PySem.W.codeHdIn (kY h.get?) (He.cT (kY h.get?) p).1 (He.cT (kY h.get?) p).2 = true ∧ ∃ o, h.get? (He.cT (kY h.get?) p).2 = some o ∧ He.emptyTab o = true := fun p hp => by
    obtain ⟨h3, h4⟩ := He.ba (List.all_eq_true.mp h2 p hp)
    refine ⟨h3, ?_⟩
    cases q : h.get? (He.cT (kY h.get?) p).2 with
    | none =>
      rw [q] at h4
      cases h4
    | some o =>
      rw [q] at h4
      exact ⟨o, rfl, h4⟩
  exact ⟨⟨e1, h1, fun p hp => (key p hp).1, fun p hp => by
    obtain ⟨_, o, q, z⟩ := key p hp
    exact He.frT_none q z, fun p hp => by
    obtain ⟨_, o, q, z⟩ := key p hp
    rw [q, He.emptyTab_eq z]⟩, e3⟩
def hookY : PySem.W.Hook where
  α := AlY
  obs := fun s => obsY s.heap.get?
  val := valY
  says := fun w h => ∃ K : PySem.W.Frag, K.In h ∧ SaysY w h K
  of := fun _ _ e => ⟨_, He.frT_in, saysY_of e⟩
  keeps := fun _ _ _ ⟨K, hK, c⟩ k => ⟨K, PySem.W.Frag.In.keeps hK k, ⟨c.x.t, c.x.more, c.x.hd, c.x.out, fun p hp => k _ _ (c.x.empty p hp)⟩, c.z⟩
theorem obsY_eq {g : Addr → Option Obj} {s : Shared} (h : ∀ a, g a = s.heap.get? a) : obsY g = hookY.obs s := by
  have e : g = s.heap.get? := funext h
  rw [e] <;> rfl
abbrev RowC : PySem.W.OpenRow := PySem.W.OpenLaw.row PySem.Challenge.rw_carryclaim_k11_whole_runs
def obC (s : PySem.W.SharedT) : AlY := obsY (HandSHeadRun.getT s)
theorem obC_eq (s : PySem.W.SharedT) : obC s = hookY.obs s.abs := obsY_eq (HandSHeadRun.getT_eq s)
end Cc
set_option maxRecDepth 100000
set_option maxHeartbeats 0
/-! The run of the top. -/
namespace Cc
open PySem PySem.Spec PyProof.Rows L2
theorem headRun (w : World) : HandSHeadRun.RunEq RowC (PySem.W.view RowC.prog [64]) hookY obC 6000 looseL w := by
  intro os
  kernel_rfl
end Cc
set_option maxRecDepth 100000
set_option maxHeartbeats 2000000
/-! The plain model: programs as trees, the machine by small steps. -/
namespace Cc
open PySem PySem.Spec PyProof.Rows L2

/-! ### data -/
inductive D where
  | non
  | int (i : Int)
  | str (s : Str)
  | tup (l : List D)

inductive Ex where
  | num (i : Int)
  | nm (s : Str)
  | op (s : Str) (l r : Ex)
inductive Cd where
  | cmp (rel : Str) (l r : Ex)
  | neg (c : Cd)
  | bin (b : Bool) (l r : Cd)
inductive Sm where
  | set (n : Str) (e : Ex)
  | ask (n : Str)
  | tell (e : Ex)
  | chk (c : Cd)
  | need (c : Cd)
  | ret (e : Ex)
  | ite (c : Cd) (a b : List Sm)
  | whl (c : Cd) (b : List Sm)
  | call (p : Str) (vs : List Ex) (t : Option Str)
structure Pr where
  name : Str
  params : List Str
  body : List Sm
structure Pg where
  shared : List Str
  procs : List Pr

def wAnd (b : Bool) : Str := if b = true then "and" else "or"
def Ex.d : Ex → D
  | .num i => .tup [.str "number", .int i]
  | .nm s => .tup [.str "name", .str s]
  | .op s l r => .tup [.str "op", .str s, l.d, r.d]
def Cd.d : Cd → D
  | .cmp rel l r => .tup [.str "compare", .str rel, l.d, r.d]
  | .neg c => .tup [.str "not", c.d]
  | .bin b l r => .tup [.str (wAnd b), l.d, r.d]
def optD : Option Str → D
  | none => .non
  | some s => .str s
mutual
def Sm.d : Sm → D
  | .set n e => .tup [.str "set", .str n, e.d]
  | .ask n => .tup [.str "ask", .str n]
  | .tell e => .tup [.str "tell", e.d]
  | .chk c => .tup [.str "check", c.d]
  | .need c => .tup [.str "need", c.d]
  | .ret e => .tup [.str "return", e.d]
  | .ite c a b => .tup [.str "if", c.d, .tup (smsD a), .tup (smsD b)]
  | .whl c b => .tup [.str "while", c.d, .tup (smsD b)]
  | .call p vs t => .tup [.str "call", .str p, .tup (vs.map Ex.d), optD t]
def smsD : List Sm → List D
  | [] => []
  | s :: r => s.d :: smsD r
end
theorem smsD_eq : ∀ l : List Sm, smsD l = l.map Sm.d
  | [] => by rw [smsD]; rfl
  | s :: r => by rw [smsD, smsD_eq r]; rfl
def Pr.d (p : Pr) : D := .tup [.str p.name, .tup (p.params.map D.str), .tup (smsD p.body)]
def Pg.d (p : Pg) : D := .tup [.tup (p.shared.map D.str), .tup (p.procs.map Pr.d)]

/-! ### trees -/
def blocksOf : Sm → List (List Sm)
  | .ite _ a b => [a, b]
  | .whl _ b => [b]
  | _ => []
mutual
def allB : List Sm → List Sm
  | [] => []
  | s :: r => s :: (allI s ++ allB r)
def allI : Sm → List Sm
  | .ite _ a b => allB a ++ allB b
  | .whl _ b => allB b
  | _ => []
end
def tgt : Sm → Option Str
  | .set n _ => some n
  | .ask n => some n
  | .call _ _ t => t
  | _ => none
def procOf (P : Pg) (n : Str) : Option Pr := P.procs.find? fun p => decide (p.name = n)
def bodyOf (P : Pg) (n : Str) : List Sm := ((procOf P n).map (·.body)).getD []
def paramsOf (P : Pg) (n : Str) : List Str := ((procOf P n).map (·.params)).getD []
def isW : Option Sm → Bool
  | some (.whl _ _) => true
  | _ => false
def blockAt (B : List Sm) : List Nat → Option (List Sm)
  | i :: j :: r => B[i]?.bind fun s => (blocksOf s)[j]?.bind fun b => blockAt b r
  | _ => some B
def stmtAt (B : List Sm) (p : List Nat) : Option Sm := if p.length % 2 = 0 then none else (blockAt B p).bind fun b => b[p.getLastD 0]?
def nextOf (B : List Sm) (p : List Nat) : Option (List Nat) :=
  if p.getLastD 0 + 1 < ((blockAt B p).getD []).length then some (p.dropLast ++ [p.getLastD 0 + 1])
  else if h : p.length ≤ 1 then none
  else if isW (stmtAt B p.dropLast.dropLast) = true then some p.dropLast.dropLast
  else nextOf B p.dropLast.dropLast
termination_by p.length
decreasing_by simp only [List.length_dropLast]; omega
def blockPlace (B : List Sm) (p : List Nat) (s : Sm) (i : Nat) : Option (List Nat) :=
  if 0 < (((blocksOf s)[i]?).getD []).length then some (p ++ [i, 0]) else if isW (some s) = true then some p else nextOf B p
def firstPlace (B : List Sm) : Option (List Nat) := if 0 < B.length then some [0] else none

/-! ### sorted names -/
def insU (x : Str) : List Str → List Str
  | [] => [x]
  | y :: r => if x = y then y :: r else if ltCps x.cps.toList y.cps.toList = true then x :: y :: r else y :: insU x r
def sortU (l : List Str) : List Str := l.foldr insU []
def targets (b : List Sm) : List Str := (allB b).filterMap tgt
def localsOf (sh names : List Str) (b : List Sm) : List Str := sortU ((targets b).filter (fun t => decide (t ∉ sh)) ++ names)
def locOf (P : Pg) (n : Str) : List Str := localsOf P.shared (paramsOf P n) (bodyOf P n)
def varsOf (P : Pg) (n : Str) : List Str := P.shared ++ locOf P n

/-! ### values -/
abbrev Sto := Str → Int
def upf (f : Sto) (n : Str) (v : Int) : Sto := fun m => if m = n then v else f m
def arith (s : Str) (a b : Int) : Int := if s = "+" then a + b else if s = "-" then a - b else if s = "*" then a * b else if s = "mod" then a - a.fdiv b * b else a.fdiv b
def operI (s : Str) (a b : Int) : Except Str Int :=
  if (s = "/" ∨ s = "mod") ∧ b = 0 then .error "division" else if -10000 ≤ arith s a b ∧ arith s a b ≤ 10000 then .ok (arith s a b) else .error "overflow"
def ev (f : Sto) : Ex → Except Str Int
  | .num i => .ok i
  | .nm n => .ok (f n)
  | .op s l r => match ev f l with
    | .error k => .error k
    | .ok a => match ev f r with
      | .error k => .error k
      | .ok b => operI s a b
def cmpI (r : Str) (a b : Int) : Bool := if r = "<" then decide (a < b) else if r = "<=" then decide (a ≤ b) else decide (a = b) == decide (r = "==")
def hold (f : Sto) : Cd → Except Str Bool
  | .neg c => match hold f c with
    | .error k => .error k
    | .ok b => .ok (!b)
  | .cmp rel l r => match ev f l with
    | .error k => .error k
    | .ok a => match ev f r with
      | .error k => .error k
      | .ok b => .ok (cmpI rel a b)
  | .bin w l r => match hold f l with
    | .error k => .error k
    | .ok a => match hold f r with
      | .error k => .error k
      | .ok b => .ok (if w = true then a && b else a || b)
def evs (f : Sto) : List Ex → Except Str (List Int)
  | [] => .ok []
  | e :: r => match ev f e with
    | .error k => .error k
    | .ok a => match evs f r with
      | .error k => .error k
      | .ok l => .ok (a :: l)

/-! ### the machine -/
structure Fr where
  name : Str
  place : Option (List Nat)
  kept : Sto
  target : Option Str
structure Cf where
  sh : Sto
  fs : List Fr
  told : List Int
  steps : List D
  used : Nat
  ending : Option D
def numT (n : Nat) : Str := toString (n : Int)
def pathT (p : List Nat) : Str := Txt.join "." (p.map numT)
def placeT : Option (List Nat) → Str
  | none => "out"
  | some p => pathT p
def look (P : Pg) (sh kept : Sto) : Sto := fun n => if n ∈ P.shared then sh n else kept n
def stepD (P : Pg) (c : Cf) (f : Fr) : D := .tup [.str f.name, .str (placeT f.place), .tup ((varsOf P f.name).map fun n => .int (look P c.sh f.kept n))]
/-- a store by the frame f on top of rest -/
def store (P : Pg) (c : Cf) (f : Fr) (rest : List Fr) (n : Str) (v : Int) : Cf :=
  if n ∈ P.shared then { c with sh := upf c.sh n v, fs := f :: rest } else { c with fs := { f with kept := upf f.kept n v } :: rest }
def nextF (P : Pg) (f : Fr) : Option (List Nat) := match f.place with
  | none => none
  | some p => nextOf (bodyOf P f.name) p
/-- the top goes on to its next place -/
def adv (P : Pg) (c : Cf) : Cf := match c.fs with
  | [] => c
  | f :: rest => { c with fs := { f with place := nextF P f } :: rest }
def leave (P : Pg) (r : Int) (c : Cf) : Cf := match c.fs with
  | [] => c
  | [_] => { c with fs := [], ending := some (.tup [.str "done"]) }
  | f :: g :: rest => adv P (match f.target with
    | none => { c with fs := g :: rest }
    | some t => store P c g rest t r)
theorem adv_len (P : Pg) (c : Cf) : (adv P c).fs.length = c.fs.length := by
  unfold adv
  cases h : c.fs with
  | nil => simp [h]
  | cons f r => simp
theorem store_len (P : Pg) (c : Cf) (f : Fr) (rest : List Fr) (n : Str) (v : Int) : (store P c f rest n v).fs.length = rest.length + 1 := by
  unfold store
  split <;> simp
theorem leave_len (P : Pg) (r : Int) (c : Cf) (h : c.fs ≠ []) : (leave P r c).fs.length < c.fs.length := by
  unfold leave
  match hc : c.fs with
  | [] => exact absurd hc h
  | [_] => simp
  | f :: g :: rest =>
    simp only [adv_len]
    cases f.target with
    | none => simp
    | some t => simp [store_len]
/-- the top frame has run to its end -/
def outTop : List Fr → Bool
  | [] => false
  | f :: _ => f.place.isNone
def isOut (c : Cf) : Bool := c.ending.isNone && outTop c.fs
theorem isOut_fs {c : Cf} (h : isOut c = true) : c.fs ≠ [] := by
  intro z
  unfold isOut at h
  rw [z, outTop, Bool.and_false] at h
  cases h
def norm (P : Pg) (c : Cf) : Cf := if h : isOut c = true then norm P (leave P 0 c) else c
termination_by c.fs.length
decreasing_by exact leave_len P 0 c (isOut_fs h)
theorem norm_out {P : Pg} {c : Cf} (h : isOut c = true) : norm P c = norm P (leave P 0 c) := by
  rw [norm, dif_pos h]
theorem norm_in {P : Pg} {c : Cf} (h : isOut c = false) : norm P c = c := by
  rw [norm, dif_neg (by rw [h]; exact Bool.false_ne_true)]

def zeroK : Sto := fun _ => 0
def bindK : List Str → List Int → Sto → Sto
  | n :: ns, v :: vs, f => bindK ns vs (upf f n v)
  | _, _, f => f
def frameOf (P : Pg) (n : Str) (vs : List Int) (t : Option Str) : Fr := ⟨n, firstPlace (bodyOf P n), bindK (paramsOf P n) vs zeroK, t⟩
def failD (f : Fr) (k : Str) : D := .tup [.str "failed", .str f.name, .str (placeT f.place), .str k]
def fail (c : Cf) (f : Fr) (k : Str) : Cf := { c with ending := some (failD f k) }
def goto (c : Cf) (f : Fr) (rest : List Fr) (p : Option (List Nat)) : Cf := { c with fs := { f with place := p } :: rest }
/-- one statement, at p, in the frame f on top of rest -/
def exec (P : Pg) (I : List Int) (c : Cf) (f : Fr) (rest : List Fr) (p : List Nat) (s : Sm) : Cf :=
  match s with
  | .set n e => match ev (look P c.sh f.kept) e with
    | .error k => fail c f k
    | .ok v => adv P (store P c f rest n v)
  | .ask n => if I.length ≤ c.used then { c with ending := some (.tup [.str "starved"]) } else adv P { store P c f rest n (I.getD c.used 0) with used := c.used + 1 }
  | .tell e => match ev (look P c.sh f.kept) e with
    | .error k => fail c f k
    | .ok v => adv P { c with told := c.told ++ [v] }
  | .chk b => match hold (look P c.sh f.kept) b with
    | .error k => fail c f k
    | .ok t => if t = true then adv P c else fail c f "check"
  | .need b => match hold (look P c.sh f.kept) b with
    | .error k => fail c f k
    | .ok t => if t = true then adv P c else { c with ending := some (.tup [.str "halted"]) }
  | .ret e => match ev (look P c.sh f.kept) e with
    | .error k => fail c f k
    | .ok v => leave P v c
  | .ite b x y => match hold (look P c.sh f.kept) b with
    | .error k => fail c f k
    | .ok t => goto c f rest (blockPlace (bodyOf P f.name) p s (if t = true then 0 else 1))
  | .whl b x => match hold (look P c.sh f.kept) b with
    | .error k => fail c f k
    | .ok t => if t = true then goto c f rest (blockPlace (bodyOf P f.name) p s 0) else adv P c
  | .call q es t => match evs (look P c.sh f.kept) es with
    | .error k => fail c f k
    | .ok vs => if 12 ≤ c.fs.length then { c with ending := some (.tup [.str "deep"]) } else { c with fs := frameOf P q vs t :: c.fs }
def kept (P : Pg) (c : Cf) : Cf := match c.fs with
  | [] => c
  | f :: _ => { c with steps := c.steps ++ [stepD P c f] }
def step (P : Pg) (I : List Int) (c : Cf) : Cf := match c.fs with
  | [] => c
  | f :: rest => match f.place with
    | none => c
    | some p => match stmtAt (bodyOf P f.name) p with
      | none => c
      | some s => norm P (exec P I (kept P c) f rest p s)
def init (P : Pg) : Cf := norm P ⟨zeroK, [frameOf P "main" [] none], [], [], 0, none⟩
def live (lim : Nat) (c : Cf) : Bool := c.ending.isNone && decide (c.steps.length < lim)
/-- the configurations that a run passes -/
inductive Runs (P : Pg) (I : List Int) (lim : Nat) : Cf → Prop where
  | start : Runs P I lim (init P)
  | more {c : Cf} : Runs P I lim c → live lim c = true → Runs P I lim (step P I c)
def iter (P : Pg) (I : List Int) (lim : Nat) : Nat → Cf
  | 0 => init P
  | n + 1 => if live lim (iter P I lim n) = true then step P I (iter P I lim n) else iter P I lim n
theorem Runs.iter {P : Pg} {I : List Int} {lim : Nat} {c : Cf} (h : Runs P I lim c) : ∃ n, c = Cc.iter P I lim n := by
  induction h with
  | start => exact ⟨0, rfl⟩
  | more h l ih =>
    obtain ⟨n, e⟩ := ih
    refine ⟨n + 1, ?_⟩
    rw [Cc.iter, ← e, if_pos l]
theorem iter_dead {P : Pg} {I : List Int} {lim n : Nat} (h : live lim (iter P I lim n) = false) : ∀ k, iter P I lim (n + k) = iter P I lim n
  | 0 => rfl
  | k + 1 => by
    have ih := iter_dead h k
    rw [show n + (k + 1) = (n + k) + 1 by omega, iter, ih, if_neg (by rw [h]; exact Bool.false_ne_true)]
/-- a run has one end -/
theorem Runs.one {P : Pg} {I : List Int} {lim : Nat} {c d : Cf} (h : Runs P I lim c) (g : Runs P I lim d) (hc : live lim c = false) (hd : live lim d = false) : c = d := by
  obtain ⟨n, rfl⟩ := h.iter
  obtain ⟨m, rfl⟩ := g.iter
  rcases Nat.le_total n m with l | l
  · obtain ⟨k, rfl⟩ := Nat.exists_eq_add_of_le l
    exact (iter_dead hc k).symm
  · obtain ⟨k, rfl⟩ := Nat.exists_eq_add_of_le l
    exact iter_dead hd k
def runningD : D := .tup [.str "running"]
end Cc
set_option maxRecDepth 100000
set_option maxHeartbeats 2000000
/-! Data in the abstract heap; what a step may change. -/
namespace Cc
open PySem PySem.Spec PyProof.Rows L2

def NT : HO → Prop
  | .tbl _ => False
  | _ => True
/-- only what stands at L may have changed, and things may have come; tables of code objects grow -/
structure Chg (L : List Addr) (H H' : Hp) : Prop where
  keep : ∀ b o, H b = some o → NT o → b ∉ L → H' b = some o
  tups : ∀ b xs, H b = some (.tup xs) → H' b = some (.tup xs)
  frzs : ∀ b o u, H b = some (.frz o u) → H' b = some (.frz o u)
  tabs : ∀ b, GxR.TabG H b → GxR.TabG H' b
  dom : ∀ b o, H b = some o → ∃ o', H' b = some o'
theorem Chg.refl {L : List Addr} {H : Hp} : Chg L H H := ⟨fun _ _ e _ _ => e, fun _ _ e => e, fun _ _ _ e => e, fun _ e => e, fun _ o e => ⟨o, e⟩⟩
theorem Chg.trans {L : List Addr} {H H1 H2 : Hp} (a : Chg L H H1) (b : Chg L H1 H2) : Chg L H H2 :=
  ⟨fun c o e m n => b.keep c o (a.keep c o e m n) m n, fun c xs e => b.tups c xs (a.tups c xs e), fun c o u e => b.frzs c o u (a.frzs c o u e), fun c e => b.tabs c (a.tabs c e), fun c o e => let ⟨u, q⟩ := a.dom c o e; b.dom c u q⟩
theorem Chg.mono {L M : List Addr} {H H' : Hp} (a : Chg L H H') (s : ∀ b ∈ L, b ∈ M) : Chg M H H' := ⟨fun c o e m n => a.keep c o e m fun z => n (s c z), a.tups, a.frzs, a.tabs, a.dom⟩
theorem Chg.of0 {L : List Addr} {H H' : Hp} (a : Chg [] H H') : Chg L H H' := a.mono fun _ z => nomatch z
theorem Chg.nil {H H' : Hp} (k : ∀ b o, H b = some o → H' b = some o) : Chg [] H H' := ⟨fun b o e _ _ => k b o e, fun b _ e => k b _ e, fun b _ _ e => k b _ e, fun b ⟨ps, e, t⟩ => ⟨ps, k b _ e, t⟩, fun b o e => ⟨o, k b o e⟩⟩
theorem Chg.get {H H' : Hp} (a : Chg [] H H') {b : Addr} {o : HO} (e : H b = some o) (n : NT o := by trivial) : H' b = some o := a.keep b o e n (fun z => nomatch z)
theorem Chg.new {L : List Addr} {H : Hp} {p : Addr} {o : HO} (h : H p = none) : Chg L H (upd H p o) := (Chg.nil fun b u e => by rw [upd_ne (ne_of_none e h)]; exact e).of0
def Plain : HO → Prop
  | .tup _ => False
  | .frz _ _ => False
  | .tbl _ => False
  | _ => True
theorem Chg.put {L : List Addr} {H : Hp} {p : Addr} {o u : HO} (h : H p = some u) (m : Plain u) (i : p ∈ L) : Chg L H (upd H p o) :=
  ⟨fun b v e _ n => by rw [upd_ne (fun z => n (by rw [z]; exact i))]; exact e,
   fun b xs e => by rw [upd_ne (fun z => by rw [z, h] at e; cases e; exact m)]; exact e,
   fun b v w e => by rw [upd_ne (fun z => by rw [z, h] at e; cases e; exact m)]; exact e,
   fun b ⟨ps, e, t⟩ => ⟨ps, by rw [upd_ne (fun z => by rw [z, h] at e; cases e; exact m)]; exact e, t⟩,
   fun b v e => by
    by_cases z : b = p
    · exact ⟨o, by rw [z]; exact upd_same⟩
    · exact ⟨v, by rw [upd_ne z]; exact e⟩⟩
theorem Chg.thenNew {L : List Addr} {H H' : Hp} {p : Addr} {o : HO} (a : Chg L H H') (h : H' p = none) : Chg L H (upd H' p o) := a.trans (Chg.new h)
theorem Chg.thenPut {L : List Addr} {H H' : Hp} {p : Addr} {o u : HO} (a : Chg L H H') (h : H' p = some u) (m : Plain u) (i : p ∈ L) : Chg L H (upd H' p o) := a.trans (Chg.put h m i)
/-- a change of what came after H -/
theorem Chg.own {L : List Addr} {H H' : Hp} {p : Addr} {o : HO} (a : Chg L H H') (n : H p = none) : Chg L H (upd H' p o) :=
  ⟨fun b v e m q => by rw [upd_ne (ne_of_none e n)]; exact a.keep b v e m q, fun b xs e => by rw [upd_ne (ne_of_none e n)]; exact a.tups b xs e, fun b v w e => by rw [upd_ne (ne_of_none e n)]; exact a.frzs b v w e,
   fun b t => by
    obtain ⟨ps, e, g⟩ := a.tabs b t
    obtain ⟨_, e0, _⟩ := t
    exact ⟨ps, by rw [upd_ne (ne_of_none e0 n)]; exact e, g⟩,
   fun b v e => by
    obtain ⟨u, q⟩ := a.dom b v e
    exact ⟨u, by rw [upd_ne (ne_of_none e n)]; exact q⟩⟩
theorem Chg.tabbed {L : List Addr} {H H' : Hp} {P : Addr} (t : GxR.TabG H P) (h : GxR.Tabbed P H H') : Chg L H H' := by
  obtain ⟨ps, e, g⟩ := t
  have ne : ∀ b o, H b = some o → NT o → b ≠ P := fun b o q m z => by rw [z, e] at q; cases q; exact m
  exact ⟨fun b o q m _ => by rw [h.2 b (ne b o q m)]; exact q, fun b xs q => by rw [h.2 b (ne b _ q trivial)]; exact q, fun b o u q => by rw [h.2 b (ne b _ q trivial)]; exact q,
    fun b t => by
      by_cases z : b = P
      · rw [z]; exact h.1
      · obtain ⟨ps, e, g⟩ := t
        exact ⟨ps, by rw [h.2 b z]; exact e, g⟩,
    fun b v q => by
      by_cases z : b = P
      · obtain ⟨ps, e, _⟩ := h.1
        exact ⟨_, by rw [z]; exact e⟩
      · exact ⟨v, by rw [h.2 b z]; exact q⟩⟩
theorem Chg.back {L : List Addr} {H H' : Hp} (c : Chg L H H') {b : Addr} (h : H' b = none) : H b = none := by
  cases e : H b with
  | none => rfl
  | some o => obtain ⟨u, q⟩ := c.dom b o e; rw [h] at q; cases q
theorem Chg.sqT {L : List Addr} {H H' : Hp} {K : PySem.W.Frag} {a : Addr} {xs : List V} (c : Chg L H H') (h : SqT K H a xs) : SqT K H' a xs := by
  rcases h with (h | ⟨o, h⟩) | h
  · exact .inl (.inl (c.tups _ _ h))
  · exact .inl (.inr ⟨o, c.frzs _ _ _ h⟩)
  · exact .inr h
/-- the script, and lists of the text's own -/
theorem Chg.sqL {H H' : Hp} {K : PySem.W.Frag} {a : Addr} {xs : List V} (c : Chg [] H H') (h : SqL K H a xs) : SqL K H' a xs := by
  rcases h with (h | ⟨o, h⟩) | h
  · exact .inl (.inl (c.get h))
  · exact .inl (.inr ⟨o, c.frzs _ _ _ h⟩)
  · exact .inr h
theorem Chg.sqL' {L : List Addr} {H H' : Hp} {K : PySem.W.Frag} {a : Addr} {xs : List V} (c : Chg L H H') (h : SqL K H a xs) (n : a ∉ L) : SqL K H' a xs := by
  rcases h with (h | ⟨o, h⟩) | h
  · exact .inl (.inl (c.keep _ _ h trivial n))
  · exact .inl (.inr ⟨o, c.frzs _ _ _ h⟩)
  · exact .inr h

/-! ### data -/
section
variable (K : PySem.W.Frag) (H : Hp)
mutual
def DatAt : D → V → Prop
  | .non, v => v = .non
  | .int i, v => v = .int i
  | .str s, v => v = .str s
  | .tup l, v => ∃ a xs, v = .ref a ∧ SqT K H a xs ∧ DatsAt l xs
def DatsAt : List D → List V → Prop
  | [], xs => xs = []
  | d :: l, xs => ∃ x r, xs = x :: r ∧ DatAt d x ∧ DatsAt l r
end
end
section
variable {K : PySem.W.Frag} {H H' : Hp} {L : List Addr}
mutual
theorem DatAt.chg (c : Chg L H H') : ∀ {d : D} {v : V}, DatAt K H d v → DatAt K H' d v
  | .non, v, h => by rw [DatAt] at h ⊢; exact h
  | .int i, v, h => by rw [DatAt] at h ⊢; exact h
  | .str s, v, h => by rw [DatAt] at h ⊢; exact h
  | .tup l, v, h => by
    rw [DatAt] at h ⊢
    obtain ⟨a, xs, e, s, g⟩ := h
    exact ⟨a, xs, e, c.sqT s, DatsAt.chg c g⟩
theorem DatsAt.chg (c : Chg L H H') : ∀ {l : List D} {xs : List V}, DatsAt K H l xs → DatsAt K H' l xs
  | [], xs, h => by rw [DatsAt] at h ⊢; exact h
  | d :: l, xs, h => by
    rw [DatsAt] at h ⊢
    obtain ⟨x, r, e, p, q⟩ := h
    exact ⟨x, r, e, DatAt.chg c p, DatsAt.chg c q⟩
end
theorem DatsAt.len : ∀ {l : List D} {xs : List V}, DatsAt K H l xs → xs.length = l.length
  | [], xs, h => by rw [DatsAt] at h; subst h; rfl
  | d :: l, xs, h => by
    rw [DatsAt] at h
    obtain ⟨x, r, rfl, _, q⟩ := h
    rw [List.length_cons, List.length_cons, DatsAt.len q]
theorem DatsAt.get : ∀ {l : List D} {xs : List V} {i : Nat} {d : D}, DatsAt K H l xs → l[i]? = some d → ∃ v, xs[i]? = some v ∧ DatAt K H d v
  | [], xs, i, d, h, e => by simp at e
  | d0 :: l, xs, 0, d, h, e => by
    rw [DatsAt] at h
    obtain ⟨x, r, rfl, p, _⟩ := h
    simp at e
    subst e
    exact ⟨x, rfl, p⟩
  | d0 :: l, xs, i + 1, d, h, e => by
    rw [DatsAt] at h
    obtain ⟨x, r, rfl, _, q⟩ := h
    obtain ⟨v, e1, e2⟩ := DatsAt.get q (i := i) (by simpa using e)
    exact ⟨v, by simpa using e1, e2⟩
theorem DatsAt.of : ∀ {l : List D} {xs : List V}, xs.length = l.length → (∀ (i : Nat) d v, l[i]? = some d → xs[i]? = some v → DatAt K H d v) → DatsAt K H l xs
  | [], [], _, _ => by rw [DatsAt]
  | d :: l, x :: xs, hl, h => by
    rw [DatsAt]
    exact ⟨x, xs, rfl, h 0 d x rfl rfl, DatsAt.of (by simpa using hl) fun i d' v e1 e2 => h (i + 1) d' v (by simpa using e1) (by simpa using e2)⟩
  | [], _ :: _, hl, _ => by simp at hl
  | _ :: _, [], hl, _ => by simp at hl
theorem dat_int {i : Int} : DatAt K H (.int i) (.int i) := by rw [DatAt]
theorem dat_str {s : Str} : DatAt K H (.str s) (.str s) := by rw [DatAt]
theorem dat_non : DatAt K H .non .non := by rw [DatAt]
theorem dat_tup {a : Addr} {xs : List V} {l : List D} (s : SqT K H a xs) (g : DatsAt K H l xs) : DatAt K H (.tup l) (.ref a) := by
  rw [DatAt]; exact ⟨a, xs, rfl, s, g⟩
theorem dats_nil : DatsAt K H [] [] := by rw [DatsAt]
theorem dats_cons {d : D} {x : V} {l : List D} {xs : List V} (a : DatAt K H d x) (b : DatsAt K H l xs) : DatsAt K H (d :: l) (x :: xs) := by
  rw [DatsAt]; exact ⟨x, xs, rfl, a, b⟩
theorem dats_ints : ∀ (l : List Int), DatsAt K H (l.map D.int) (l.map V.int)
  | [] => dats_nil
  | i :: r => dats_cons dat_int (dats_ints r)
theorem dats_strs : ∀ (l : List Str), DatsAt K H (l.map D.str) (l.map V.str)
  | [] => dats_nil
  | i :: r => dats_cons dat_str (dats_strs r)
theorem strs_dats : ∀ {l : List Str} {xs : List V}, DatsAt K H (l.map D.str) xs → xs = l.map V.str
  | [], xs, h => by rw [List.map_nil, DatsAt] at h; rw [h]; rfl
  | s :: l, xs, h => by
    rw [List.map_cons, DatsAt] at h
    obtain ⟨x, r, rfl, p, q⟩ := h
    rw [DatAt] at p
    rw [p, strs_dats q, List.map_cons]
/-- a tuple of texts -/
theorem dat_names {l : List Str} {v : V} (h : DatAt K H (.tup (l.map D.str)) v) : ∃ a, v = .ref a ∧ SqT K H a (l.map V.str) := by
  rw [DatAt] at h
  obtain ⟨a, xs, e, s, g⟩ := h
  rw [strs_dats g] at s
  exact ⟨a, e, s⟩
end
/-! ### the steps of readings -/
section
variable {K : PySem.W.Frag} {H H0 H' : Hp} {L : List Addr} {Q : VK}
theorem ixT {a : Addr} {xs : List V} {i : Int} {v : V} (h : SqT K H a xs) (e : atI xs i = some v) (q : Q v H) : rIxT K (.ref a) (.int i) H Q := ⟨a, xs, i, v, rfl, rfl, h, e, q⟩
theorem ixL {a : Addr} {xs : List V} {i : Int} {v : V} (h : SqL K H a xs) (e : atI xs i = some v) (q : Q v H) : rIxL K (.ref a) (.int i) H Q := ⟨a, xs, i, v, rfl, rfl, h, e, q⟩
end
end Cc
set_option maxRecDepth 100000
set_option maxHeartbeats 2000000
/-! What the text's top has written, as facts. -/
namespace Cc
open PySem PySem.Spec PyProof.Rows L2
/-- a def whose code object is known -/
structure FunC (K : PySem.W.Frag) (x qual : Str) (st : Stmt) (f : Addr) (fd : FuncData) (c : Addr) : Prop where
  ex : ∃ (oc : Value) (od : Option Addr) (kV doc pm : Value) (an : Option Addr) (ct : Value) (osl : Array (Option Value)),
    fd = PySem.W.fnOf x qual (defArgs st) (defBody st) (defScope st) .none kV doc pm an (.ref c) ct ∧ K.lookup f = some ⟨oc, od, .func fd, osl⟩ ∧ PySem.W.codeIn K (.ref c) qual = true
theorem FunC.ok {P : Program} {w : World} {K : PySem.W.Frag} {mg : Str → Option Value} {base : Heap} {x qual : Str} {st : Stmt} {f c : Addr} {fd : FuncData} {N ps : List Str} {k : Nat} {sp : Sp} (F : FunC K x qual st f fd c) (S : FnScope N ps (defScope st)) (len : ∀ vs H Q E, sp vs H Q E → vs.length = ps.length)
    (hbody : ∀ (A : Around) (outer : List PySem.Env) (s : Shared) (H : Hp) (vs : List V) (Q : VK) (E : XK), Room k (A.deeper (envOfC qual (defScope st) s.heap.objs.size f (.ref c))) → sp vs H Q E →
      ∃ t, PSs (cxOf CX0 P w K mg base N qual (defScope st) f (.ref c) A outer s H E).nox (defBody st) t ∧ t { nx := fun _ H' => Q .non H', rt := Q } (L2.start N vs) H) : FnOk P w K mg base CX0 (k + 1) f fd ps sp := by
  obtain ⟨oc, od, kV, doc, pm, an, ct, osl, rfl, lk, hcd⟩ := F.ex
  refine fn_of lk hcd S len fun A outer s H vs Q E hr hsp => ?_
  obtain ⟨t, h, q⟩ := hbody A outer s H vs Q E hr hsp
  exact ⟨t, h.nox, q⟩
structure Tx (P : Program) (K : PySem.W.Frag) (mg : Str → Option Value) (base : Heap) (a : Nat → Addr) (fd : Nat → FuncData) : Prop where
  D1 : DefF K mg "procedure_of" (dst 1) ["program", "name"] (a 1) (fd 1)
  D2 : DefF K mg "blocks_of" (dst 2) ["statement"] (a 2) (fd 2)
  D3 : DefF K mg "all_statements" (dst 3) ["block"] (a 3) (fd 3)
  D4 : DefF K mg "target_of" (dst 4) ["statement"] (a 4) (fd 4)
  D5 : DefF K mg "parameters" (dst 5) ["program", "name"] (a 5) (fd 5)
  D6 : DefF K mg "local_names" (dst 6) ["program", "name"] (a 6) (fd 6)
  D7 : DefF K mg "locals_of" (dst 7) ["global_names", "names", "block"] (a 7) (fd 7)
  D8 : DefF K mg "variables" (dst 8) ["program", "name"] (a 8) (fd 8)
  D11 : DefF K mg "path_text" (dst 11) ["path"] (a 11) (fd 11)
  D12 : DefF K mg "path_of" (dst 12) ["place"] (a 12) (fd 12)
  D13 : DefF K mg "block_at" (dst 13) ["program", "name", "path"] (a 13) (fd 13)
  D14 : DefF K mg "statement_by_path" (dst 14) ["program", "name", "path"] (a 14) (fd 14)
  D15 : DefF K mg "is_plain" (dst 15) ["text"] (a 15) (fd 15)
  D16 : DefF K mg "statement_at" (dst 16) ["program", "name", "place"] (a 16) (fd 16)
  D17 : DefF K mg "first_place" (dst 17) ["program", "name"] (a 17) (fd 17)
  D18 : DefF K mg "next_place" (dst 18) ["program", "name", "place"] (a 18) (fd 18)
  D19 : DefF K mg "next_of_path" (dst 19) ["program", "name", "path"] (a 19) (fd 19)
  D20 : DefF K mg "block_place" (dst 20) ["program", "name", "place", "index"] (a 20) (fd 20)
  D27 : DefF K mg "operate" (dst 27) ["sign", "left", "right"] (a 27) (fd 27)
  D28 : DefF K mg "compare" (dst 28) ["relation", "left", "right"] (a 28) (fd 28)
  D29 : DefF K mg "full_run" (dst 29) ["program", "inputs", "limit"] (a 29) (fd 29)
  D30 : DefF K mg "run" (dst 30) ["program", "inputs", "limit"] (a 30) (fd 30)
  D31 : DefF K mg "trace" (dst 31) ["program", "inputs", "limit"] (a 31) (fd 31)
  D33 : DefF K mg "_law_next" (dst 33) ["_law_state", "_law_script", "_law_many"] (a 33) (fd 33)
  D34 : DefF K mg "_law_same" (dst 34) ["_law_actual", "_law_due"] (a 34) (fd 34)
  D35 : DefF K mg "_law_number" (dst 35) ["_law_state", "_law_script"] (a 35) (fd 35)
  D36 : DefF K mg "_law_expression" (dst 36) ["_law_state", "_law_script", "_law_names", "_law_depth"] (a 36) (fd 36)
  D37 : DefF K mg "_law_comparison" (dst 37) ["_law_state", "_law_script", "_law_names"] (a 37) (fd 37)
  D38 : DefF K mg "_law_condition" (dst 38) ["_law_state", "_law_script", "_law_names"] (a 38) (fd 38)
  D39 : DefF K mg "_law_counting" (dst 39) ["_law_state", "_law_script", "_law_world", "_law_depth"] (a 39) (fd 39)
  D40 : DefF K mg "_law_statement" (dst 40) ["_law_state", "_law_script", "_law_world", "_law_depth"] (a 40) (fd 40)
  D41 : DefF K mg "_law_block" (dst 41) ["_law_state", "_law_script", "_law_world", "_law_depth"] (a 41) (fd 41)
  D42 : DefF K mg "_law_procedure" (dst 42) ["_law_state", "_law_script", "_law_shared", "_law_row", "_law_procedures"] (a 42) (fd 42)
  D43 : DefF K mg "_law_program" (dst 43) ["_law_state", "_law_script"] (a 43) (fd 43)
  D44 : DefF K mg "_law_blocks" (dst 44) ["_law_statement_here"] (a 44) (fd 44)
  D45 : DefF K mg "_law_all" (dst 45) ["_law_block_here"] (a 45) (fd 45)
  D46 : DefF K mg "_law_targets" (dst 46) ["_law_statement_here"] (a 46) (fd 46)
  D47 : DefF K mg "_law_locals" (dst 47) ["_law_shared", "_law_procedure_here"] (a 47) (fd 47)
  D48 : DefF K mg "_law_inputs" (dst 48) ["_law_state", "_law_script"] (a 48) (fd 48)
  D49 : DefF K mg "_law_operate" (dst 49) ["_law_sign", "_law_left", "_law_right"] (a 49) (fd 49)
  D50 : DefF K mg "_law_value" (dst 50) ["_law_values", "_law_expression_here"] (a 50) (fd 50)
  D51 : DefF K mg "_law_compare" (dst 51) ["_law_relation", "_law_left", "_law_right"] (a 51) (fd 51)
  D52 : DefF K mg "_law_truth" (dst 52) ["_law_values", "_law_condition_here"] (a 52) (fd 52)
  D53 : DefF K mg "_law_known" (dst 53) ["_law_world", "_law_own"] (a 53) (fd 53)
  D54 : DefF K mg "_law_store" (dst 54) ["_law_world", "_law_own", "_law_name", "_law_value_here"] (a 54) (fd 54)
  D55 : DefF K mg "_law_tick" (dst 55) ["_law_world", "_law_name", "_law_place", "_law_own"] (a 55) (fd 55)
  D56 : DefF K mg "_law_fails" (dst 56) ["_law_world", "_law_name", "_law_place", "_law_kind"] (a 56) (fd 56)
  D57 : DefF K mg "_law_block_run" (dst 57) ["_law_world", "_law_name", "_law_block_here", "_law_start", "_law_own"] (a 57) (fd 57)
  D58 : DefF K mg "_law_branch_run" (dst 58) ["_law_world", "_law_name", "_law_statement_here", "_law_path", "_law_own"] (a 58) (fd 58)
  D59 : DefF K mg "_law_call_run" (dst 59) ["_law_world", "_law_name", "_law_statement_here", "_law_place", "_law_own"] (a 59) (fd 59)
  D60 : DefF K mg "_law_procedure_run" (dst 60) ["_law_world", "_law_name", "_law_values"] (a 60) (fd 60)
  D61 : DefF K mg "_law_statement_run" (dst 61) ["_law_world", "_law_name", "_law_statement_here", "_law_path", "_law_own"] (a 61) (fd 61)
  D62 : DefF K mg "_law_plain_run" (dst 62) ["_law_world", "_law_name", "_law_statement_here", "_law_place", "_law_own"] (a 62) (fd 62)
  D63 : DefF K mg "_law_run" (dst 63) ["_law_program_here", "_law_inputs_here", "_law_limit"] (a 63) (fd 63)
  D64 : DefF K mg "law" (dst 64) ["_law_script"] (a 64) (fd 64)
  C15 : FunC K "is_plain" "is_plain" (dst 15) (a 15) (fd 15) (a 1500)
  C16 : FunC K "statement_at" "statement_at" (dst 16) (a 16) (fd 16) (a 1600)
  B15 : GxR.TabB base mg (a 1500) (a 1501)
  B16 : GxR.TabB base mg (a 1600) (a 1601)
  n_len : mg "len" = none
  n_int : mg "int" = none
  n_abs : mg "abs" = none
  n_str : mg "str" = none
  n_tuple : mg "tuple" = none
  n_list : mg "list" = none
  n_dict : mg "dict" = none
  n_zip : mg "zip" = none
  n_sorted : mg "sorted" = none
  n_isinstance : mg "isinstance" = none
  n_range : mg "range" = none
  n_all : mg "all" = none
  n_bool : mg "bool" = none
  n_super : mg "super" = none
  cDIGITS : ∃ t, mg "DIGITS" = some (.str "0123456789" t)
  cLARGEST : ∃ t, mg "LARGEST" = some (.int 10000 t)
  cMOST_CALLS : ∃ t, mg "MOST_CALLS" = some (.int 12 t)
  fail : CgF.FailTxt P K mg (a 24) (a 2400)
  gFrame : mg "Frame" = some (.ref (a 25))
  mkFrame : Mk K (a 25) (a 2500)
  clFrame : Cls K (a 25)
  F2500 : Fun K "__init__" "Frame.__init__" (mst 25 0) (a 2500) (fd 2500)
  b2500 : Binds K (fd 2500) ["self", "name", "place", "values", "target"] []
  gRun : mg "Run" = some (.ref (a 26))
  mkRun : Mk K (a 26) (a 2600)
  clRun : Cls K (a 26)
  F2600 : Fun K "__init__" "Run.__init__" (mst 26 0) (a 2600) (fd 2600)
  b2600 : Binds K (fd 2600) ["self", "program", "inputs"] []
  F2601 : Fun K "frame" "Run.frame" (mst 26 1) (a 2601) (fd 2601)
  b2601 : Binds K (fd 2601) ["self", "name", "values", "target"] []
  M1 : Meth K (a 26) "frame" (a 2601)
  bM1 : Binds K (fd 2601) ["self", "name", "values", "target"] []
  F2602 : Fun K "value" "Run.value" (mst 26 2) (a 2602) (fd 2602)
  b2602 : Binds K (fd 2602) ["self", "name"] []
  M2 : Meth K (a 26) "value" (a 2602)
  bM2 : Binds K (fd 2602) ["self", "name"] []
  F2603 : Fun K "store" "Run.store" (mst 26 3) (a 2603) (fd 2603)
  b2603 : Binds K (fd 2603) ["self", "name", "value"] []
  M3 : Meth K (a 26) "store" (a 2603)
  bM3 : Binds K (fd 2603) ["self", "name", "value"] []
  F2604 : Fun K "keep_step" "Run.keep_step" (mst 26 4) (a 2604) (fd 2604)
  b2604 : Binds K (fd 2604) ["self"] []
  M4 : Meth K (a 26) "keep_step" (a 2604)
  bM4 : Binds K (fd 2604) ["self"] []
  F2605 : Fun K "leave" "Run.leave" (mst 26 5) (a 2605) (fd 2605)
  b2605 : Binds K (fd 2605) ["self", "result"] []
  M5 : Meth K (a 26) "leave" (a 2605)
  bM5 : Binds K (fd 2605) ["self", "result"] []
  F2606 : Fun K "leave_ended" "Run.leave_ended" (mst 26 6) (a 2606) (fd 2606)
  b2606 : Binds K (fd 2606) ["self"] []
  M6 : Meth K (a 26) "leave_ended" (a 2606)
  bM6 : Binds K (fd 2606) ["self"] []
  F2607 : Fun K "step" "Run.step" (mst 26 7) (a 2607) (fd 2607)
  b2607 : Binds K (fd 2607) ["self"] []
  M7 : Meth K (a 26) "step" (a 2607)
  bM7 : Binds K (fd 2607) ["self"] []
  F2608 : Fun K "execute" "Run.execute" (mst 26 8) (a 2608) (fd 2608)
  b2608 : Binds K (fd 2608) ["self", "top", "statement"] []
  M8 : Meth K (a 26) "execute" (a 2608)
  bM8 : Binds K (fd 2608) ["self", "top", "statement"] []
  F2609 : Fun K "simple" "Run.simple" (mst 26 9) (a 2609) (fd 2609)
  b2609 : Binds K (fd 2609) ["self", "word", "statement"] []
  M9 : Meth K (a 26) "simple" (a 2609)
  bM9 : Binds K (fd 2609) ["self", "word", "statement"] []
  F2610 : Fun K "branch" "Run.branch" (mst 26 10) (a 2610) (fd 2610)
  b2610 : Binds K (fd 2610) ["self", "top", "statement"] []
  M10 : Meth K (a 26) "branch" (a 2610)
  bM10 : Binds K (fd 2610) ["self", "top", "statement"] []
  F2611 : Fun K "call" "Run.call" (mst 26 11) (a 2611) (fd 2611)
  b2611 : Binds K (fd 2611) ["self", "statement"] []
  M11 : Meth K (a 26) "call" (a 2611)
  bM11 : Binds K (fd 2611) ["self", "statement"] []
  F2612 : Fun K "result" "Run.result" (mst 26 12) (a 2612) (fd 2612)
  b2612 : Binds K (fd 2612) ["self", "expression"] []
  M12 : Meth K (a 26) "result" (a 2612)
  bM12 : Binds K (fd 2612) ["self", "expression"] []
  F2613 : Fun K "holds" "Run.holds" (mst 26 13) (a 2613) (fd 2613)
  b2613 : Binds K (fd 2613) ["self", "condition"] []
  M13 : Meth K (a 26) "holds" (a 2613)
  bM13 : Binds K (fd 2613) ["self", "condition"] []
  nf_name : NoAttr K (a 25) "name"
  nf_place : NoAttr K (a 25) "place"
  nf_kept : NoAttr K (a 25) "kept"
  nf_target : NoAttr K (a 25) "target"
  nr_program : NoAttr K (a 26) "program"
  nr_inputs : NoAttr K (a 26) "inputs"
  nr_names : NoAttr K (a 26) "names"
  nr_used : NoAttr K (a 26) "used"
  nr_told : NoAttr K (a 26) "told"
  nr_steps : NoAttr K (a 26) "steps"
  nr_shared : NoAttr K (a 26) "shared"
  nr_frames : NoAttr K (a 26) "frames"
  nr_ending : NoAttr K (a 26) "ending"
section
variable {X : Cx} {x : Str} {pos : Pos}
theorem pe_gS {s : Str} (hg : Gl X x) (hm : ∃ t, X.mg x = some (.str s t)) (hd : (x == ("__debug__" : Str)) = false := by decide) : PE X (.Name x pos) (tC (.str s)) := by
  obtain ⟨t, e⟩ := hm
  exact pe_glob hg e ⟨t, rfl⟩ hd
theorem pe_gI {n : Int} (hg : Gl X x) (hm : ∃ t, X.mg x = some (.int n t)) (hd : (x == ("__debug__" : Str)) = false := by decide) : PE X (.Name x pos) (tC (.int n)) := by
  obtain ⟨t, e⟩ := hm
  exact pe_glob hg e ⟨t, rfl⟩ hd
end
end Cc
set_option maxRecDepth 100000
set_option maxHeartbeats 2000000
/-! Loops and comprehensions as single words. -/
namespace Cc
open PySem PySem.Spec PyProof.Rows L2

theorem cxK {CX : CXT} {P : Program} {w : World} {K : PySem.W.Frag} {mg : Str → Option Value} {base : Heap} {N : List Str} {q : Str} {sc : Scope} {f : Addr} {c : Value} {A : Around} {o : List Env} {s : Shared} {H : Hp} {E : XK} : (cxOf CX P w K mg base N q sc f c A o s H E).K = K := rfl
theorem cxKn {CX : CXT} {P : Program} {w : World} {K : PySem.W.Frag} {mg : Str → Option Value} {base : Heap} {N : List Str} {q : Str} {sc : Scope} {f : Addr} {c : Value} {A : Around} {o : List Env} {s : Shared} {H : Hp} {E : XK} : (cxOf CX P w K mg base N q sc f c A o s H E).nox.K = K := rfl
theorem cxw {CX : CXT} {P : Program} {w : World} {K : PySem.W.Frag} {mg : Str → Option Value} {base : Heap} {N : List Str} {q : Str} {sc : Scope} {f : Addr} {c : Value} {A : Around} {o : List Env} {s : Shared} {H : Hp} {E : XK} : (cxOf CX P w K mg base N q sc f c A o s H E).w = w := rfl
theorem cxwn {CX : CXT} {P : Program} {w : World} {K : PySem.W.Frag} {mg : Str → Option Value} {base : Heap} {N : List Str} {q : Str} {sc : Scope} {f : Addr} {c : Value} {A : Around} {o : List Env} {s : Shared} {H : Hp} {E : XK} : (cxOf CX P w K mg base N q sc f c A o s H E).nox.w = w := rfl
theorem sc_ss {a b : Str} : scal (.str a) (.str b) = true := rfl
theorem sc_ii {a b : Int} : scal (.int a) (.int b) = true := rfl
theorem sc_bb {a b : Bool} : scal (.bl a) (.bl b) = true := rfl
def forB (g : TG) (tb : TS) (D : Ends) (σ : L2.St) (J : It) (H1 : Hp) : Prop := ∃ W : Nat → Nat → L2.St → Hp → Prop, (∃ m, W 0 m σ H1) ∧ ∀ i m σ H, W i m σ H →
  (J.stop i H ∧ D.nx σ H) ∨ (J.go i H ∧ ∃ N : L2.St → Hp → Prop, (∀ σ' H', N σ' H' → ∃ m', m' < m ∧ W (i + 1) m' σ' H') ∧ ∀ x H', J.yld i H x H' → g x σ H' fun σ2 H2 => tb { D with nx := N, ct := N, bk := D.nx } σ2 H2)
theorem tFor_eq {wi : TI} {g : TG} {tb : TS} {D : Ends} {σ : L2.St} {H : Hp} : tFor wi g tb D σ H = wi σ H fun J H1 => forB g tb D σ J H1 := rfl
def lcB (g : TG) (tt : TT) (te : TE) (vs : List Nat) (σ : L2.St) (J : It) (H1 : Hp) (Q : VK) : Prop := ∀ D, H1 D = none → ∃ W : Nat → Nat → Hp → Prop, (∃ m, W 0 m (upd H1 D (.lst []))) ∧ ∀ i m H, W i m H →
  (J.stop i H ∧ Q (.ref D) H) ∨ (J.go i H ∧ ∃ Nx : Hp → Prop, (∀ H', Nx H' → ∃ m', m' < m ∧ W (i + 1) m' H') ∧ ∀ x H', J.yld i H x H' → g x (wipe σ vs) H' fun σ2 H2 => wipe σ2 vs = wipe σ vs ∧ tt σ2 H2 fun b H3 =>
    if b = true then te σ2 H3 fun y H4 => ∃ acc, H4 D = some (.lst acc) ∧ acc.length < sizeLine ∧ Nx (upd H4 D (.lst (acc ++ [y]))) else Nx H3)
theorem tLc_eq {wi : TI} {g : TG} {tt : TT} {te : TE} {vs : List Nat} {σ : L2.St} {H : Hp} {Q : VK} : tLc wi g tt te vs σ H Q = wi σ H fun J H1 => lcB g tt te vs σ J H1 Q := rfl
def dcB (g : TG) (tt : TT) (tk tv : TE) (vs : List Nat) (σ : L2.St) (J : It) (H1 : Hp) (Q : VK) : Prop := ∀ D, H1 D = none → ∃ W : Nat → Nat → Hp → Prop, (∃ m, W 0 m (upd H1 D (.dK []))) ∧ ∀ i m H, W i m H →
  (J.stop i H ∧ Q (.ref D) H) ∨ (J.go i H ∧ ∃ Nx : Hp → Prop, (∀ H', Nx H' → ∃ m', m' < m ∧ W (i + 1) m' H') ∧ ∀ x H', J.yld i H x H' → g x (wipe σ vs) H' fun σ2 H2 => wipe σ2 vs = wipe σ vs ∧ tt σ2 H2 fun b H3 =>
    if b = true then tk σ2 H3 fun y H4 => tv σ2 H4 fun z H5 => ∃ kvs k, y = kV k ∧ H5 D = some (.dK kvs) ∧ kvs.length < sizeLine ∧ Nx (upd H5 D (.dK (putK kvs k z))) else Nx H3)
theorem tDc_eq {wi : TI} {g : TG} {tt : TT} {tk tv : TE} {vs : List Nat} {σ : L2.St} {H : Hp} {Q : VK} : tDc wi g tt tk tv vs σ H Q = wi σ H fun J H1 => dcB g tt tk tv vs σ J H1 Q := rfl
section
variable {K : PySem.W.Frag} {a : Addr} {xs : List V} {g : TG} {tb : TS} {D : Ends} {σ : L2.St} {H : Hp}
theorem forT (Pv : Nat → L2.St → Hp → Prop) (h0 : Pv 0 σ H) (hl : ∀ i σ H, i ≤ xs.length → Pv i σ H → SqT K H a xs)
    (hs : ∀ i x σ H, xs[i]? = some x → Pv i σ H → g x σ H fun σ2 H2 => tb { D with nx := Pv (i + 1), ct := Pv (i + 1), bk := D.nx } σ2 H2) (hd : ∀ σ H, Pv xs.length σ H → D.nx σ H) : forB g tb D σ (Itt K a) H := for_tup Pv h0 hl hs hd
theorem forL (Pv : Nat → L2.St → Hp → Prop) (h0 : Pv 0 σ H) (hl : ∀ i σ H, i ≤ xs.length → Pv i σ H → SqL K H a xs)
    (hs : ∀ i x σ H, xs[i]? = some x → Pv i σ H → g x σ H fun σ2 H2 => tb { D with nx := Pv (i + 1), ct := Pv (i + 1), bk := D.nx } σ2 H2) (hd : ∀ σ H, Pv xs.length σ H → D.nx σ H) : forB g tb D σ (Itl K a) H := for_list Pv h0 hl hs hd
theorem forR {lo : Int} {n : Nat} (Pv : Nat → L2.St → Hp → Prop) (h0 : Pv 0 σ H)
    (hs : ∀ i σ H, i < n → Pv i σ H → g (.int (lo + i)) σ H fun σ2 H2 => tb { D with nx := Pv (i + 1), ct := Pv (i + 1), bk := D.nx } σ2 H2) (hd : ∀ σ H, Pv n σ H → D.nx σ H) : forB g tb D σ (Itr lo n) H := for_range Pv h0 hs hd
end
theorem chg_lst {H1 H : Hp} {D : Addr} {o : HO} {u : HO} (n : H1 D = none) (c : Chg [] H1 H) (e : H D = some u) (m : Plain u) : Chg [] H1 (upd H D o) := c.own n
section
variable {K : PySem.W.Frag} {a : Addr} {xs : List V} {g : TG} {tt : TT} {te tk tv : TE} {vs : List Nat} {σ : L2.St} {H1 : Hp} {Q : VK}
/-- a comprehension over a thing that yields the xs, one by one, while H1 stands -/
theorem lc_gen {J : It} (hgo : ∀ i H x, Chg [] H1 H → xs[i]? = some x → J.go i H) (hstop : ∀ H, Chg [] H1 H → J.stop xs.length H) (hyld : ∀ i H x H', Chg [] H1 H → J.yld i H x H' → H' = H ∧ xs[i]? = some x)
    (S : Nat → List V → Hp → Prop) (h0 : S 0 [] H1) (hS : ∀ i acc L H H', Chg L H H' → S i acc H → S i acc H') (hz : ∀ i acc H, S i acc H → acc.length < sizeLine)
    (hs : ∀ i x H acc (N' : V → Hp → Prop) (N : Hp → Prop), xs[i]? = some x → Chg [] H1 H → S i acc H → (∀ y H4, Chg [] H H4 → S (i + 1) (acc ++ [y]) H4 → N' y H4) → (∀ H4, Chg [] H H4 → S (i + 1) acc H4 → N H4) →
      g x (wipe σ vs) H fun σ2 H2 => wipe σ2 vs = wipe σ vs ∧ tt σ2 H2 fun b H3 => if b = true then te σ2 H3 N' else N H3)
    (hd : ∀ D H acc, H1 D = none → Chg [] H1 H → H D = some (.lst acc) → S xs.length acc H → Q (.ref D) H) : lcB g tt te vs σ J H1 Q := by
  intro D hD
  refine ⟨fun i m H => m = xs.length - i ∧ i ≤ xs.length ∧ ∃ acc, Chg [] H1 H ∧ H D = some (.lst acc) ∧ S i acc H, ⟨xs.length, by simp, Nat.zero_le _, [], Chg.new hD, upd_same, hS _ _ _ _ _ (Chg.new (L := []) hD) h0⟩, ?_⟩
  rintro i m H ⟨rfl, hi, acc, c, e, w⟩
  by_cases hlt : i < xs.length
  · refine .inr ⟨hgo i H _ c (List.getElem?_eq_getElem hlt), fun H' => ∃ acc, Chg [] H1 H' ∧ H' D = some (.lst acc) ∧ S (i + 1) acc H', fun H' p' => ⟨xs.length - (i + 1), by omega, rfl, hlt, p'⟩, fun x H' y => ?_⟩
    obtain ⟨rfl, hx⟩ := hyld i H x H' c y
    refine hs i x H' acc _ _ hx c w (fun y H4 c4 w4 => ⟨acc, c4.get e, hz _ _ _ w, acc ++ [y], chg_lst hD (c.trans c4) (c4.get e) trivial, upd_same, ?_⟩) fun H4 c4 w4 => ⟨acc, c.trans c4, c4.get e, w4⟩
    exact hS _ _ [D] _ _ (Chg.put (c4.get e) trivial (by simp)) w4
  · have q : i = xs.length := by omega
    subst q
    exact .inl ⟨hstop H c, hd D H acc hD c e w⟩
theorem lcT (h : SqT K H1 a xs) (S : Nat → List V → Hp → Prop) (h0 : S 0 [] H1) (hS : ∀ i acc L H H', Chg L H H' → S i acc H → S i acc H') (hz : ∀ i acc H, S i acc H → acc.length < sizeLine)
    (hs : ∀ i x H acc (N' : V → Hp → Prop) (N : Hp → Prop), xs[i]? = some x → Chg [] H1 H → S i acc H → (∀ y H4, Chg [] H H4 → S (i + 1) (acc ++ [y]) H4 → N' y H4) → (∀ H4, Chg [] H H4 → S (i + 1) acc H4 → N H4) →
      g x (wipe σ vs) H fun σ2 H2 => wipe σ2 vs = wipe σ vs ∧ tt σ2 H2 fun b H3 => if b = true then te σ2 H3 N' else N H3)
    (hd : ∀ D H acc, H1 D = none → Chg [] H1 H → H D = some (.lst acc) → S xs.length acc H → Q (.ref D) H) : lcB g tt te vs σ (Itt K a) H1 Q :=
  lc_gen (fun i H x c e => ⟨xs, x, c.sqT h, e⟩) (fun H c => ⟨xs, c.sqT h, Nat.le_refl _⟩) (fun i H x H' c y => ⟨y.1, y.2 xs (by rw [y.1] at *; exact c.sqT h)⟩) S h0 hS hz hs hd
theorem lcL (h : SqL K H1 a xs) (S : Nat → List V → Hp → Prop) (h0 : S 0 [] H1) (hS : ∀ i acc L H H', Chg L H H' → S i acc H → S i acc H') (hz : ∀ i acc H, S i acc H → acc.length < sizeLine)
    (hs : ∀ i x H acc (N' : V → Hp → Prop) (N : Hp → Prop), xs[i]? = some x → Chg [] H1 H → S i acc H → (∀ y H4, Chg [] H H4 → S (i + 1) (acc ++ [y]) H4 → N' y H4) → (∀ H4, Chg [] H H4 → S (i + 1) acc H4 → N H4) →
      g x (wipe σ vs) H fun σ2 H2 => wipe σ2 vs = wipe σ vs ∧ tt σ2 H2 fun b H3 => if b = true then te σ2 H3 N' else N H3)
    (hd : ∀ D H acc, H1 D = none → Chg [] H1 H → H D = some (.lst acc) → S xs.length acc H → Q (.ref D) H) : lcB g tt te vs σ (Itl K a) H1 Q :=
  lc_gen (fun i H x c e => ⟨xs, x, c.sqL h, e⟩) (fun H c => ⟨xs, c.sqL h, Nat.le_refl _⟩) (fun i H x H' c y => ⟨y.1, y.2 xs (by rw [y.1] at *; exact c.sqL h)⟩) S h0 hS hz hs hd
/-- the keys' dict by a comprehension -/
theorem dc_gen {J : It} (hgo : ∀ i H x, Chg [] H1 H → xs[i]? = some x → J.go i H) (hstop : ∀ H, Chg [] H1 H → J.stop xs.length H) (hyld : ∀ i H x H', Chg [] H1 H → J.yld i H x H' → H' = H ∧ xs[i]? = some x)
    (S : Nat → List (Key × V) → Hp → Prop) (h0 : S 0 [] H1) (hS : ∀ i acc L H H', Chg L H H' → S i acc H → S i acc H') (hz : ∀ i acc H, S i acc H → acc.length < sizeLine)
    (hs : ∀ i x H acc (N' : V → V → Hp → Prop) (N : Hp → Prop), xs[i]? = some x → Chg [] H1 H → S i acc H → (∀ k z H4, Chg [] H H4 → S (i + 1) (putK acc k z) H4 → N' (kV k) z H4) → (∀ H4, Chg [] H H4 → S (i + 1) acc H4 → N H4) →
      g x (wipe σ vs) H fun σ2 H2 => wipe σ2 vs = wipe σ vs ∧ tt σ2 H2 fun b H3 => if b = true then tk σ2 H3 fun y H4 => tv σ2 H4 fun z H5 => N' y z H5 else N H3)
    (hd : ∀ D H acc, H1 D = none → Chg [] H1 H → H D = some (.dK acc) → S xs.length acc H → Q (.ref D) H) : dcB g tt tk tv vs σ J H1 Q := by
  intro D hD
  refine ⟨fun i m H => m = xs.length - i ∧ i ≤ xs.length ∧ ∃ acc, Chg [] H1 H ∧ H D = some (.dK acc) ∧ S i acc H, ⟨xs.length, by simp, Nat.zero_le _, [], Chg.new hD, upd_same, hS _ _ _ _ _ (Chg.new (L := []) hD) h0⟩, ?_⟩
  rintro i m H ⟨rfl, hi, acc, c, e, w⟩
  by_cases hlt : i < xs.length
  · refine .inr ⟨hgo i H _ c (List.getElem?_eq_getElem hlt), fun H' => ∃ acc, Chg [] H1 H' ∧ H' D = some (.dK acc) ∧ S (i + 1) acc H', fun H' p' => ⟨xs.length - (i + 1), by omega, rfl, hlt, p'⟩, fun x H' y => ?_⟩
    obtain ⟨rfl, hx⟩ := hyld i H x H' c y
    refine hs i x H' acc (fun y z H5 => ∃ kvs k, y = kV k ∧ H5 D = some (.dK kvs) ∧ kvs.length < sizeLine ∧ ∃ acc, Chg [] H1 (upd H5 D (.dK (putK kvs k z))) ∧ upd H5 D (.dK (putK kvs k z)) D = some (.dK acc) ∧ S (i + 1) acc (upd H5 D (.dK (putK kvs k z)))) _ hx c w
      (fun k z H4 c4 w4 => ⟨acc, k, rfl, c4.get e, hz _ _ _ w, putK acc k z, chg_lst hD (c.trans c4) (c4.get e) trivial, upd_same, ?_⟩) fun H4 c4 w4 => ⟨acc, c.trans c4, c4.get e, w4⟩
    exact hS _ _ [D] _ _ (Chg.put (c4.get e) trivial (by simp)) w4
  · have q : i = xs.length := by omega
    subst q
    exact .inl ⟨hstop H c, hd D H acc hD c e w⟩
theorem dcT (h : SqT K H1 a xs) (S : Nat → List (Key × V) → Hp → Prop) (h0 : S 0 [] H1) (hS : ∀ i acc L H H', Chg L H H' → S i acc H → S i acc H') (hz : ∀ i acc H, S i acc H → acc.length < sizeLine)
    (hs : ∀ i x H acc (N' : V → V → Hp → Prop) (N : Hp → Prop), xs[i]? = some x → Chg [] H1 H → S i acc H → (∀ k z H4, Chg [] H H4 → S (i + 1) (putK acc k z) H4 → N' (kV k) z H4) → (∀ H4, Chg [] H H4 → S (i + 1) acc H4 → N H4) →
      g x (wipe σ vs) H fun σ2 H2 => wipe σ2 vs = wipe σ vs ∧ tt σ2 H2 fun b H3 => if b = true then tk σ2 H3 fun y H4 => tv σ2 H4 fun z H5 => N' y z H5 else N H3)
    (hd : ∀ D H acc, H1 D = none → Chg [] H1 H → H D = some (.dK acc) → S xs.length acc H → Q (.ref D) H) : dcB g tt tk tv vs σ (Itt K a) H1 Q :=
  dc_gen (fun i H x c e => ⟨xs, x, c.sqT h, e⟩) (fun H c => ⟨xs, c.sqT h, Nat.le_refl _⟩) (fun i H x H' c y => ⟨y.1, y.2 xs (by rw [y.1] at *; exact c.sqT h)⟩) S h0 hS hz hs hd
end

open CgB in
def scB (w : World) (g : TG) (tt : TT) (te : TE) (vs : List Nat) (σ : L2.St) (J : It) (H1 : Hp) (Q : VK) : Prop := ∀ D, H1 D = none → ∃ W : Nat → Nat → Hp → Prop, (∃ m, W 0 m (upd H1 D (SetTO w D (fun _ => false) 0))) ∧ ∀ i m H, W i m H →
  (J.stop i H ∧ Q (.ref D) H) ∨ (J.go i H ∧ ∃ Nx : Hp → Prop, (∀ H', Nx H' → ∃ m', m' < m ∧ W (i + 1) m' H') ∧ ∀ x H', J.yld i H x H' → g x (wipe σ vs) H' fun σ2 H2 => wipe σ2 vs = wipe σ vs ∧ tt σ2 H2 fun b H3 =>
    if b = true then te σ2 H3 fun y H4 => ∃ (c : Str) (S : Str → Bool) (n : Nat), y = .str c ∧ H4 D = some (SetTO w D S n) ∧ n + 1 < scanBound ∧ Nx (upd H4 D (SetTO w D (fun j => S j || decide (j = c)) (if S c = true then n else n + 1))) else Nx H3)
theorem tScT_eq {w : World} {wi : TI} {g : TG} {tt : TT} {te : TE} {vs : List Nat} {σ : L2.St} {H : Hp} {Q : VK} : CgB.tScT w wi g tt te vs σ H Q = wi σ H fun J H1 => scB w g tt te vs σ J H1 Q := rfl
open CgB in
/-- the set of the texts of a list -/
theorem scL {K : PySem.W.Frag} {w : World} {a : Addr} {ks : List Str} {g : TG} {tt : TT} {te : TE} {vs : List Nat} {σ : L2.St} {H1 : Hp} {Q : VK} (h : SqL K H1 a (ks.map V.str)) (hz : ks.length < 64)
    (hs : ∀ x H (N' : V → Hp → Prop) (N : Hp → Prop), Chg [] H1 H → N' (.str x) H →
      g (.str x) (wipe σ vs) H fun σ2 H2 => wipe σ2 vs = wipe σ vs ∧ tt σ2 H2 fun b H3 => if b = true then te σ2 H3 N' else N H3)
    (hd : ∀ D H S n, H1 D = none → Chg [] H1 H → H D = some (SetTO w D S n) → n < 64 → (∀ j, S j = true ↔ j ∈ ks) → Q (.ref D) H) : scB w g tt te vs σ (Itl K a) H1 Q := by
  intro D hD
  refine ⟨fun i m H => m = ks.length - i ∧ i ≤ ks.length ∧ ∃ S n, Chg [] H1 H ∧ H D = some (SetTO w D S n) ∧ n ≤ i ∧ ∀ j, S j = true ↔ j ∈ ks.take i, ⟨ks.length, by simp, Nat.zero_le _, _, _, Chg.new hD, upd_same, Nat.le_refl _, fun j => by simp⟩, ?_⟩
  rintro i m H ⟨rfl, hi, S, n, c, e, hn, hS⟩
  by_cases hlt : i < ks.length
  · have hx0 : (ks.map V.str)[i]? = some (.str ks[i]) := by rw [List.getElem?_map, List.getElem?_eq_getElem hlt]; rfl
    refine .inr ⟨⟨_, _, c.sqL h, hx0⟩, fun H' => ∃ S n, Chg [] H1 H' ∧ H' D = some (SetTO w D S n) ∧ n ≤ i + 1 ∧ ∀ j, S j = true ↔ j ∈ ks.take (i + 1), fun H' p' => ⟨ks.length - (i + 1), by omega, rfl, hlt, p'⟩, fun x H' y => ?_⟩
    obtain ⟨rfl, y2⟩ := y
    have hx := y2 _ (c.sqL h)
    rw [hx0] at hx
    cases hx
    refine hs ks[i] H' _ _ c ⟨ks[i], S, n, rfl, e, ?_, _, _, chg_lst hD c e trivial, upd_same, ?_, fun j => ?_⟩
    · exact Nat.lt_of_le_of_lt (show n + 1 ≤ 64 by omega) (by decide)
    · split <;> omega
    · rw [Bool.or_eq_true, decide_eq_true_eq, hS, List.take_add_one, List.getElem?_eq_getElem hlt]
      simp only [List.mem_append, Option.toList, List.mem_singleton]
  · have q : i = ks.length := by omega
    subst q
    rw [List.take_length] at hS
    exact .inl ⟨⟨_, c.sqL h, by simp⟩, hd D H S n hD c e (by omega) hS⟩

section
variable {X : Cx} {K : PySem.W.Frag}
theorem ixTK (h : X.K = K) : IxR X (rIxT K) := by subst h; exact ix_tup
theorem ixLK (h : X.K = K) : IxR X (rIxL K) := by subst h; exact ix_list
theorem inK (h : X.K = K) : OpR X (compareOp .In) (rIn K false) := by subst h; exact op_in_seq
theorem ninK (h : X.K = K) : OpR X (compareOp .NotIn) (rIn K true) := by subst h; exact op_notIn_seq
end
end Cc
set_option maxRecDepth 100000
set_option maxHeartbeats 4000000
/-! Parts of data, small lemmas. -/
namespace Cc
open PySem PySem.Spec PyProof.Rows L2
theorem DatAt.tup_inv {K : PySem.W.Frag} {H : Hp} {l : List D} {v : V} (h : DatAt K H (.tup l) v) : ∃ a xs, v = .ref a ∧ SqT K H a xs ∧ DatsAt K H l xs := by rw [DatAt] at h; exact h
theorem DatsAt.cons_inv {K : PySem.W.Frag} {H : Hp} {d : D} {l : List D} {xs : List V} (h : DatsAt K H (d :: l) xs) : ∃ x r, xs = x :: r ∧ DatAt K H d x ∧ DatsAt K H l r := by rw [DatsAt] at h; exact h
theorem DatsAt.nil_inv {K : PySem.W.Frag} {H : Hp} {xs : List V} (h : DatsAt K H [] xs) : xs = [] := by rw [DatsAt] at h; exact h
theorem DatsAt.at {K : PySem.W.Frag} {H : Hp} {l : List D} {xs : List V} {i : Nat} {x : V} (h : DatsAt K H l xs) (e : xs[i]? = some x) : ∃ d, l[i]? = some d ∧ DatAt K H d x := by
  have hi : i < l.length := by rw [← h.len]; exact (List.getElem?_eq_some_iff.mp e).1
  obtain ⟨v, e2, q⟩ := h.get (List.getElem?_eq_getElem hi)
  rw [e] at e2
  cases e2
  exact ⟨_, List.getElem?_eq_getElem hi, q⟩
theorem dat_str_inv {K : PySem.W.Frag} {H : Hp} {s : Str} {v : V} (h : DatAt K H (.str s) v) : v = .str s := by rw [DatAt] at h; exact h
theorem dat_int_inv {K : PySem.W.Frag} {H : Hp} {s : Int} {v : V} (h : DatAt K H (.int s) v) : v = .int s := by rw [DatAt] at h; exact h
theorem dat_non_inv {K : PySem.W.Frag} {H : Hp} {v : V} (h : DatAt K H .non v) : v = .non := by rw [DatAt] at h; exact h
/-- a program's parts -/
theorem pg_at {K : PySem.W.Frag} {H : Hp} {G : Pg} {v : V} (h : DatAt K H G.d v) : ∃ p b c xs, v = .ref p ∧ SqT K H p [.ref b, .ref c] ∧ SqT K H b (G.shared.map V.str) ∧ SqT K H c xs ∧ DatsAt K H (G.procs.map Pr.d) xs := by
  obtain ⟨p, ys, rfl, s, g⟩ := DatAt.tup_inv h
  obtain ⟨x, r, rfl, h1, g⟩ := g.cons_inv
  obtain ⟨y, r, rfl, h2, g⟩ := g.cons_inv
  cases g.nil_inv
  obtain ⟨b, rfl, s1⟩ := dat_names h1
  obtain ⟨c, xs, rfl, s2, g2⟩ := DatAt.tup_inv h2
  exact ⟨p, b, c, xs, rfl, s, s1, s2, g2⟩
theorem pr_at {K : PySem.W.Frag} {H : Hp} {G : Pr} {v : V} (h : DatAt K H G.d v) : ∃ p b c xs, v = .ref p ∧ SqT K H p [.str G.name, .ref b, .ref c] ∧ SqT K H b (G.params.map V.str) ∧ SqT K H c xs ∧ DatsAt K H (smsD G.body) xs := by
  obtain ⟨p, ys, rfl, s, g⟩ := DatAt.tup_inv h
  obtain ⟨x, r, rfl, h0, g⟩ := g.cons_inv
  obtain ⟨x, r, rfl, h1, g⟩ := g.cons_inv
  obtain ⟨y, r, rfl, h2, g⟩ := g.cons_inv
  cases g.nil_inv
  cases dat_str_inv h0
  obtain ⟨b, rfl, s1⟩ := dat_names h1
  obtain ⟨c, xs, rfl, s2, g2⟩ := DatAt.tup_inv h2
  exact ⟨p, b, c, xs, rfl, s, s1, s2, g2⟩
theorem in_seq2 {K : PySem.W.Frag} {H : Hp} {p : Addr} {xs : List V} {x : V} {Q : VK} (s : SqT K H p xs) (f : flatV x = true) (g : xs.all flatV = true) (q : Q (.bl (inV x xs)) H) : rIn K false x (.ref p) H Q := ⟨p, xs, rfl, .inr s, f, g, q⟩
theorem inV2 {s x y : Str} : inV (.str s) [.str x, .str y] = (decide (s = x) || decide (s = y)) := by
  have h : ∀ p q : Str, eqV (.str p) (.str q) = decide (q = p) := fun p q => by
    show (p == q) = _
    by_cases e : p = q
    · subst e; simp
    · rw [beq_eq_false_iff_ne.mpr e, decide_eq_false (fun z => e z.symm)]
  unfold inV
  rw [List.any_cons, List.any_cons, List.any_nil, h, h, Bool.or_false]
theorem FnOk.never {P : Program} {w : World} {K : PySem.W.Frag} {mg : Str → Option Value} {base : Heap} {CX : CXT} {k : Nat} {f : Addr} {fd : FuncData} {ps : List Str} : FnOk P w K mg base CX k f fd ps (fun _ _ _ _ => False) :=
  ⟨fun _ _ _ _ h => h.elim, fun _ _ _ _ _ _ _ _ _ _ _ _ _ h => h.elim⟩
theorem sz {n : Nat} (h : n ≤ 1000000) : n ≤ sizeLine := Nat.le_trans h (by decide)
theorem sz' {n : Nat} (h : n ≤ 1000000) : n < sizeLine := Nat.lt_of_le_of_lt h (by decide)
mutual
def depS : Sm → Nat
  | .ite _ a b => 1 + max (depB a) (depB b)
  | .whl _ b => 1 + depB b
  | _ => 0
def depB : List Sm → Nat
  | [] => 0
  | s :: r => max (depS s) (depB r)
end
theorem depB_mem : ∀ {b : List Sm} {s : Sm}, s ∈ b → depS s ≤ depB b
  | x :: r, s, h => by
    rw [depB]
    rcases List.mem_cons.mp h with e | h
    · rw [e]; exact Nat.le_max_left _ _
    · exact Nat.le_trans (depB_mem h) (Nat.le_max_right _ _)
theorem dep_blocks {s : Sm} {b : List Sm} (h : b ∈ blocksOf s) : depB b < depS s := by
  cases s with
  | ite c x y =>
    rw [depS]
    rcases List.mem_cons.mp h with e | h
    · subst e; have := Nat.le_max_left (depB b) (depB y); omega
    · have e := List.mem_singleton.mp h
      subst e; have := Nat.le_max_right (depB x) (depB b); omega
  | whl c x =>
    rw [depS]
    have e := List.mem_singleton.mp h
    subst e; omega
  | _ => cases h
theorem allI_eq (s : Sm) : allI s = (blocksOf s).flatMap allB := by
  cases s <;> simp [allI, blocksOf]
theorem allB_append : ∀ (x y : List Sm), allB (x ++ y) = allB x ++ allB y
  | [], y => by rw [allB]; rfl
  | s :: r, y => by rw [List.cons_append, allB, allB, allB_append r y, List.cons_append, List.append_assoc]
theorem allB_one (s : Sm) : allB [s] = s :: allI s := by rw [allB, allB, List.append_nil]
theorem take_succ {α : Type} {l : List α} {i : Nat} {x : α} (h : l[i]? = some x) : l.take (i + 1) = l.take i ++ [x] := by
  rw [List.take_add_one, h]; rfl
theorem DatsAt.append {K : PySem.W.Frag} {H : Hp} : ∀ {l m : List D} {xs ys : List V}, DatsAt K H l xs → DatsAt K H m ys → DatsAt K H (l ++ m) (xs ++ ys)
  | [], m, xs, ys, h, g => by cases h.nil_inv; exact g
  | d :: l, m, xs, ys, h, g => by
    obtain ⟨x, r, rfl, p, q⟩ := h.cons_inv
    exact dats_cons p (DatsAt.append q g)
def optV : Option Str → V
  | none => .non
  | some s => .str s
theorem dat_opt {K : PySem.W.Frag} {H : Hp} {t : Option Str} {v : V} (h : DatAt K H (optD t) v) : v = optV t := by
  cases t with
  | none => exact dat_non_inv h
  | some s => exact dat_str_inv h
theorem inV_strs {t : Str} : ∀ sh : List Str, inV (V.str t) (sh.map V.str) = decide (t ∈ sh)
  | [] => rfl
  | y :: r => by
    have ih := inV_strs (t := t) r
    unfold inV at ih ⊢
    rw [List.map_cons, List.any_cons, ih]
    show ((y == t) || _) = _
    by_cases e : t = y
    · subst e; simp
    · rw [beq_eq_false_iff_ne.mpr (Ne.symm e)]
      simp [e]
end Cc
set_option maxRecDepth 100000
set_option maxHeartbeats 4000000
/-! Programs: procedure_of .. variables -/
namespace Cc
open PySem PySem.Spec PyProof.Rows L2
theorem scs2 : FnScope ["statement"] ["statement"] (defScope (dst 2)) := ⟨rfl, rfl, rfl, by decide +kernel, rfl, by decide +kernel, by decide +kernel⟩
def sp2 (K : PySem.W.Frag) : Sp := fun vs H Q _ => ∃ (v : V) (s : Sm), vs = [v] ∧ DatAt K H s.d v ∧ ∀ b xs H', Chg [] H H' → SqT K H' b xs → DatsAt K H' ((blocksOf s).map fun l => D.tup (smsD l)) xs → Q (.ref b) H'
section
variable {P : Program} {w : World} {K : PySem.W.Frag} {mg : Str → Option Value} {base : Heap} {a : Nat → Addr} {fd : Nat → FuncData}
theorem ok2 (T : Tx P K mg base a fd) : FnOk P w K mg base CX0 1 (a 2) (fd 2) ["statement"] (sp2 K) := by
  refine T.D2.fn.ok scs2 (fun vs H Q E h => ?_) (fun cdv A outer s H vs Q E hr h => ⟨_, (pss_cons (ps_if (pt_cmpR op_eq (pe_ix (ixTK (K := K) rfl) (pv 0) pe_int (fun _ _ => rfl)) pe_str (nomark _)) (pss_one (ps_ret (pe_tup (pa_cons (pe_ix (ixTK (K := K) rfl) (pv 0) pe_int (fun _ _ => rfl)) (pa_cons (pe_ix (ixTK (K := K) rfl) (pv 0) pe_int (fun _ _ => rfl)) pa_nil))))) pss_nil)
      (pss_cons (ps_if (pt_cmpR op_eq (pe_ix (ixTK (K := K) rfl) (pv 0) pe_int (fun _ _ => rfl)) pe_str (nomark _)) (pss_one (ps_ret (pe_tup (pa_cons (pe_ix (ixTK (K := K) rfl) (pv 0) pe_int (fun _ _ => rfl)) pa_nil)))) pss_nil)
      (pss_one (ps_ret (pe_tup pa_nil))))), ?_⟩)
  · obtain ⟨v, s, rfl, _⟩ := h
    rfl
  · obtain ⟨v, s, rfl, hs, q⟩ := h
    cases s with
    | set n e =>
      obtain ⟨p, xs, rfl, h0, g⟩ := DatAt.tup_inv hs
      obtain ⟨x0, r, rfl, h1, g⟩ := g.cons_inv
      obtain ⟨x1, r, rfl, h2, g⟩ := g.cons_inv
      obtain ⟨x2, r, rfl, h3, g⟩ := g.cons_inv
      cases g.nil_inv
      cases dat_str_inv h1
      walk_at "a0"
      exact q _ _ _ (Chg.new hpp) (SqT.of upd_same) (dats_nil.chg (Chg.new (L := []) hpp))
    | ask n =>
      obtain ⟨p, xs, rfl, h0, g⟩ := DatAt.tup_inv hs
      obtain ⟨x0, r, rfl, h1, g⟩ := g.cons_inv
      obtain ⟨x1, r, rfl, h2, g⟩ := g.cons_inv
      cases g.nil_inv
      cases dat_str_inv h1
      walk_at "a0"
      exact q _ _ _ (Chg.new hpp) (SqT.of upd_same) (dats_nil.chg (Chg.new (L := []) hpp))
    | tell e =>
      obtain ⟨p, xs, rfl, h0, g⟩ := DatAt.tup_inv hs
      obtain ⟨x0, r, rfl, h1, g⟩ := g.cons_inv
      obtain ⟨x1, r, rfl, h2, g⟩ := g.cons_inv
      cases g.nil_inv
      cases dat_str_inv h1
      walk_at "a0"
      exact q _ _ _ (Chg.new hpp) (SqT.of upd_same) (dats_nil.chg (Chg.new (L := []) hpp))
    | chk c =>
      obtain ⟨p, xs, rfl, h0, g⟩ := DatAt.tup_inv hs
      obtain ⟨x0, r, rfl, h1, g⟩ := g.cons_inv
      obtain ⟨x1, r, rfl, h2, g⟩ := g.cons_inv
      cases g.nil_inv
      cases dat_str_inv h1
      walk_at "a0"
      exact q _ _ _ (Chg.new hpp) (SqT.of upd_same) (dats_nil.chg (Chg.new (L := []) hpp))
    | need c =>
      obtain ⟨p, xs, rfl, h0, g⟩ := DatAt.tup_inv hs
      obtain ⟨x0, r, rfl, h1, g⟩ := g.cons_inv
      obtain ⟨x1, r, rfl, h2, g⟩ := g.cons_inv
      cases g.nil_inv
      cases dat_str_inv h1
      walk_at "a0"
      exact q _ _ _ (Chg.new hpp) (SqT.of upd_same) (dats_nil.chg (Chg.new (L := []) hpp))
    | ret e =>
      obtain ⟨p, xs, rfl, h0, g⟩ := DatAt.tup_inv hs
      obtain ⟨x0, r, rfl, h1, g⟩ := g.cons_inv
      obtain ⟨x1, r, rfl, h2, g⟩ := g.cons_inv
      cases g.nil_inv
      cases dat_str_inv h1
      walk_at "a0"
      exact q _ _ _ (Chg.new hpp) (SqT.of upd_same) (dats_nil.chg (Chg.new (L := []) hpp))
    | ite c x y =>
      obtain ⟨p, xs, rfl, h0, g⟩ := DatAt.tup_inv hs
      obtain ⟨x0, r, rfl, h1, g⟩ := g.cons_inv
      obtain ⟨x1, r, rfl, h2, g⟩ := g.cons_inv
      obtain ⟨x2, r, rfl, h3, g⟩ := g.cons_inv
      obtain ⟨x3, r, rfl, h4, g⟩ := g.cons_inv
      cases g.nil_inv
      cases dat_str_inv h1
      walk_at "a0"
      exact q _ _ _ (Chg.new hpp) (SqT.of upd_same) ((dats_cons h3 (dats_cons h4 dats_nil)).chg (Chg.new (L := []) hpp))
    | whl c x =>
      obtain ⟨p, xs, rfl, h0, g⟩ := DatAt.tup_inv hs
      obtain ⟨x0, r, rfl, h1, g⟩ := g.cons_inv
      obtain ⟨x1, r, rfl, h2, g⟩ := g.cons_inv
      obtain ⟨x2, r, rfl, h3, g⟩ := g.cons_inv
      cases g.nil_inv
      cases dat_str_inv h1
      walk_at "a0"
      exact q _ _ _ (Chg.new hpp) (SqT.of upd_same) ((dats_cons h3 dats_nil).chg (Chg.new (L := []) hpp))
    | call pn es t =>
      obtain ⟨p, xs, rfl, h0, g⟩ := DatAt.tup_inv hs
      obtain ⟨x0, r, rfl, h1, g⟩ := g.cons_inv
      obtain ⟨x1, r, rfl, h2, g⟩ := g.cons_inv
      obtain ⟨x2, r, rfl, h3, g⟩ := g.cons_inv
      obtain ⟨x3, r, rfl, h4, g⟩ := g.cons_inv
      cases g.nil_inv
      cases dat_str_inv h1
      walk_at "a0"
      exact q _ _ _ (Chg.new hpp) (SqT.of upd_same) (dats_nil.chg (Chg.new (L := []) hpp))
end
theorem scs4 : FnScope ["statement"] ["statement"] (defScope (dst 4)) := ⟨rfl, rfl, rfl, by decide +kernel, rfl, by decide +kernel, by decide +kernel⟩
def sp4 (K : PySem.W.Frag) : Sp := fun vs H Q _ => ∃ (v : V) (s : Sm), vs = [v] ∧ DatAt K H s.d v ∧ ∀ H', Chg [] H H' → Q (optV (tgt s)) H'
section
variable {P : Program} {w : World} {K : PySem.W.Frag} {mg : Str → Option Value} {base : Heap} {a : Nat → Addr} {fd : Nat → FuncData}
theorem ok4 (T : Tx P K mg base a fd) : FnOk P w K mg base CX0 1 (a 4) (fd 4) ["statement"] (sp4 K) := by
  refine T.D4.fn.ok scs4 (fun vs H Q E h => ?_) (fun cdv A outer s H vs Q E hr h => ⟨_, (pss_cons (ps_if (pt_cmpR (inK (K := K) rfl) (pe_ix (ixTK (K := K) rfl) (pv 0) pe_int (fun _ _ => rfl)) (pe_tup (pa_cons pe_str (pa_cons pe_str pa_nil))) (by rfl)) (pss_one (ps_ret (pe_ix (ixTK (K := K) rfl) (pv 0) pe_int (fun _ _ => rfl)))) pss_nil)
      (pss_cons (ps_if (pt_cmpR op_eq (pe_ix (ixTK (K := K) rfl) (pv 0) pe_int (fun _ _ => rfl)) pe_str (nomark _)) (pss_one (ps_ret (pe_ix (ixTK (K := K) rfl) (pv 0) pe_int (fun _ _ => rfl)))) pss_nil)
      (pss_one (ps_ret pe_non)))), ?_⟩)
  · obtain ⟨v, s, rfl, _⟩ := h
    rfl
  · obtain ⟨v, s, rfl, hs, q⟩ := h
    cases s with
    | set n e =>
      obtain ⟨p, xs, rfl, h0, g⟩ := DatAt.tup_inv hs
      obtain ⟨x0, r, rfl, h1, g⟩ := g.cons_inv
      obtain ⟨x1, r, rfl, h2, g⟩ := g.cons_inv
      obtain ⟨x2, r, rfl, h3, g⟩ := g.cons_inv
      cases g.nil_inv
      cases dat_str_inv h1
      cases dat_str_inv h2
      walk_at "a1"
      exact q _ (Chg.new hpp)
    | ask n =>
      obtain ⟨p, xs, rfl, h0, g⟩ := DatAt.tup_inv hs
      obtain ⟨x0, r, rfl, h1, g⟩ := g.cons_inv
      obtain ⟨x1, r, rfl, h2, g⟩ := g.cons_inv
      cases g.nil_inv
      cases dat_str_inv h1
      cases dat_str_inv h2
      walk_at "a1"
      exact q _ (Chg.new hpp)
    | tell e =>
      obtain ⟨p, xs, rfl, h0, g⟩ := DatAt.tup_inv hs
      obtain ⟨x0, r, rfl, h1, g⟩ := g.cons_inv
      obtain ⟨x1, r, rfl, h2, g⟩ := g.cons_inv
      cases g.nil_inv
      cases dat_str_inv h1
      skip
      walk_at "a1"
      exact q _ (Chg.new hpp)
    | chk c =>
      obtain ⟨p, xs, rfl, h0, g⟩ := DatAt.tup_inv hs
      obtain ⟨x0, r, rfl, h1, g⟩ := g.cons_inv
      obtain ⟨x1, r, rfl, h2, g⟩ := g.cons_inv
      cases g.nil_inv
      cases dat_str_inv h1
      skip
      walk_at "a1"
      exact q _ (Chg.new hpp)
    | need c =>
      obtain ⟨p, xs, rfl, h0, g⟩ := DatAt.tup_inv hs
      obtain ⟨x0, r, rfl, h1, g⟩ := g.cons_inv
      obtain ⟨x1, r, rfl, h2, g⟩ := g.cons_inv
      cases g.nil_inv
      cases dat_str_inv h1
      skip
      walk_at "a1"
      exact q _ (Chg.new hpp)
    | ret e =>
      obtain ⟨p, xs, rfl, h0, g⟩ := DatAt.tup_inv hs
      obtain ⟨x0, r, rfl, h1, g⟩ := g.cons_inv
      obtain ⟨x1, r, rfl, h2, g⟩ := g.cons_inv
      cases g.nil_inv
      cases dat_str_inv h1
      skip
      walk_at "a1"
      exact q _ (Chg.new hpp)
    | ite c x y =>
      obtain ⟨p, xs, rfl, h0, g⟩ := DatAt.tup_inv hs
      obtain ⟨x0, r, rfl, h1, g⟩ := g.cons_inv
      obtain ⟨x1, r, rfl, h2, g⟩ := g.cons_inv
      obtain ⟨x2, r, rfl, h3, g⟩ := g.cons_inv
      obtain ⟨x3, r, rfl, h4, g⟩ := g.cons_inv
      cases g.nil_inv
      cases dat_str_inv h1
      skip
      walk_at "a1"
      exact q _ (Chg.new hpp)
    | whl c x =>
      obtain ⟨p, xs, rfl, h0, g⟩ := DatAt.tup_inv hs
      obtain ⟨x0, r, rfl, h1, g⟩ := g.cons_inv
      obtain ⟨x1, r, rfl, h2, g⟩ := g.cons_inv
      obtain ⟨x2, r, rfl, h3, g⟩ := g.cons_inv
      cases g.nil_inv
      cases dat_str_inv h1
      skip
      walk_at "a1"
      exact q _ (Chg.new hpp)
    | call pn es t =>
      obtain ⟨p, xs, rfl, h0, g⟩ := DatAt.tup_inv hs
      obtain ⟨x0, r, rfl, h1, g⟩ := g.cons_inv
      obtain ⟨x1, r, rfl, h2, g⟩ := g.cons_inv
      obtain ⟨x2, r, rfl, h3, g⟩ := g.cons_inv
      obtain ⟨x3, r, rfl, h4, g⟩ := g.cons_inv
      cases g.nil_inv
      cases dat_str_inv h1
      cases dat_opt h4
      walk_at "a1"
      exact q _ (Chg.new hpp)
end
theorem scs1 : FnScope ["program", "name", "procedure"] ["program", "name"] (defScope (dst 1)) := ⟨rfl, rfl, rfl, by decide +kernel, rfl, by decide +kernel, by decide +kernel⟩
def sp1 (K : PySem.W.Frag) : Sp := fun vs H Q _ => ∃ (v : V) (n : Str) (G : Pg) (pr : Pr), vs = [v, .str n] ∧ DatAt K H G.d v ∧ procOf G n = some pr ∧ ∀ u, DatAt K H pr.d u → Q u H
section
variable {P : Program} {w : World} {K : PySem.W.Frag} {mg : Str → Option Value} {base : Heap} {a : Nat → Addr} {fd : Nat → FuncData}
theorem ok1 (T : Tx P K mg base a fd) : FnOk P w K mg base CX0 1 (a 1) (fd 1) ["program", "name"] (sp1 K) := by
  refine T.D1.fn.ok scs1 (fun vs H Q E h => ?_) (fun cdv A outer s H vs Q E hr h => ⟨_, (pss_cons (ps_for PassesOwn.never rfl (pi_tup (pe_ix (ixTK (K := K) rfl) (pv 0) pe_int (fun _ _ => rfl))) (pg_name (i := 2) scs1.nd rfl (Or.inl rfl)) (pss_one (ps_if (pt_cmpR op_eq (pe_ix (ixTK (K := K) rfl) (pv 2) pe_int (fun _ _ => rfl)) (pv 1) (nomark _)) (pss_one (ps_ret (pv 2))) pss_nil)))
      (pss_one (ps_ret pe_non))), ?_⟩)
  · obtain ⟨v, n, G, pr, rfl, _⟩ := h
    rfl
  · obtain ⟨v, n, G, pr, rfl, hG, hp, q⟩ := h
    obtain ⟨p, b, c, xs, rfl, h0, h1, h2, g⟩ := pg_at hG
    walk_at "a0"
    refine ⟨⟨_, h2⟩, forT (xs := xs) (fun i σ H' => H' = H ∧ (∃ o, σ = [some (.ref p), some (.str n), o]) ∧ (G.procs.drop i).find? (fun p => decide (p.name = n)) = some pr) ⟨rfl, ⟨_, rfl⟩, by rw [List.drop_zero]; exact hp⟩ (fun i σ H' _ z => by rw [z.1]; exact h2) ?_ ?_⟩
    · rintro i x σ H' hx ⟨rfl, ⟨o, rfl⟩, hf⟩
      obtain ⟨d, hd, hdx⟩ := g.at hx
      rw [List.getElem?_map] at hd
      cases hpi : G.procs[i]? with
      | none => rw [hpi] at hd; cases hd
      | some pi =>
        rw [hpi] at hd
        cases hd
        obtain ⟨p', b', c', xs', rfl, k0, k1, k2, k3⟩ := pr_at hdx
        have hi : i < G.procs.length := (List.getElem?_eq_some_iff.mp hpi).1
        have hdr : G.procs.drop i = pi :: G.procs.drop (i + 1) := by
          rw [List.drop_eq_getElem_cons hi]
          congr 1
          exact (List.getElem?_eq_some_iff.mp hpi).2
        rw [hdr, List.find?_cons] at hf
        walk_at "a0"
        by_cases e : pi.name = n
        · rw [if_pos e]
          rw [decide_eq_true e] at hf
          cases hf
          exact q _ hdx
        · rw [if_neg e]
          rw [decide_eq_false e] at hf
          first | exact hf | exact ⟨⟨_, rfl⟩, hf⟩
    · rintro σ H' ⟨rfl, ⟨o, rfl⟩, hf⟩
      have hl : xs.length = G.procs.length := by rw [g.len, List.length_map]
      rw [hl, List.drop_length] at hf
      cases hf
end
theorem scs5 : FnScope ["program", "name"] ["program", "name"] (defScope (dst 5)) := ⟨rfl, rfl, rfl, by decide +kernel, rfl, by decide +kernel, by decide +kernel⟩
def sp5 (K : PySem.W.Frag) : Sp := fun vs H Q _ => ∃ (v : V) (n : Str) (G : Pg) (pr : Pr), vs = [v, .str n] ∧ DatAt K H G.d v ∧ procOf G n = some pr ∧ ∀ b, SqT K H b (pr.params.map V.str) → Q (.ref b) H
section
variable {P : Program} {w : World} {K : PySem.W.Frag} {mg : Str → Option Value} {base : Heap} {a : Nat → Addr} {fd : Nat → FuncData}
theorem ok5 (T : Tx P K mg base a fd) : FnOk P w K mg base CX0 2 (a 5) (fd 5) ["program", "name"] (sp5 K) := by
  refine T.D5.fn.ok scs5 (fun vs H Q E h => ?_) (fun cdv A outer s H vs Q E hr h => ⟨_, (pss_one (ps_ret (pe_ix (ixTK (K := K) rfl) (pe_call (ok1 T) (hr.mono (by first | exact Nat.le_refl _ | decide | omega)) rfl T.D1.mg T.D1.kp T.D1.bd .nil pass0 (pa_cons (pv 0) (pa_cons (pv 1) pa_nil))) pe_int (fun _ _ => rfl)))), ?_⟩)
  · obtain ⟨v, n, G, pr, rfl, _⟩ := h
    rfl
  · obtain ⟨v, n, G, pr, rfl, hG, hp, q⟩ := h
    walk_at "a0"
    refine ⟨_, _, _, _, rfl, hG, hp, fun u hu => ?_⟩
    obtain ⟨p', b', c', xs', rfl, k0, k1, k2, k3⟩ := pr_at hu
    walk_at "a0"
    exact q _ k1
end
theorem scs3 : FnScope ["block", "found", "statement", "inner"] ["block"] (defScope (dst 3)) := ⟨rfl, rfl, rfl, by decide +kernel, rfl, by decide +kernel, by decide +kernel⟩
def sp3 (K : PySem.W.Frag) (n : Nat) : Sp := fun vs H Q _ => ∃ (v : V) (b : List Sm), vs = [v] ∧ DatAt K H (.tup (smsD b)) v ∧ depB b < n ∧ (allB b).length ≤ 10000 ∧ ∀ l ys H', H l = none → Chg [] H H' → H' l = some (.lst ys) → DatsAt K H' ((allB b).map Sm.d) ys → Q (.ref l) H'
section
variable {P : Program} {w : World} {K : PySem.W.Frag} {mg : Str → Option Value} {base : Heap} {a : Nat → Addr} {fd : Nat → FuncData}
theorem ok3s (T : Tx P K mg base a fd) (n : Nat) (G3 : FnOk P w K mg base CX0 (n + 1) (a 3) (fd 3) ["block"] (sp3 K n)) : FnOk P w K mg base CX0 (n + 2) (a 3) (fd 3) ["block"] (sp3 K (n + 1)) := by
  refine T.D3.fn.ok scs3 (fun vs H Q E h => ?_) (fun cdv A outer s H vs Q E hr h => ⟨_, (pss_cons (ps_set (i := 1) scs3.nd rfl (Or.inl rfl) (pe_lst pa_nil))
      (pss_cons (ps_for PassesOwn.never rfl (pi_tup (pv 0)) (pg_name (i := 2) scs3.nd rfl (Or.inl rfl)) (pss_cons (ps_expr (pe_bm PySem.F.plainAttrs_list PySem.F.slot_list_append PySem.F.type_list_append mt_append (pv 1) (pa_cons (pv 2) pa_nil)))
      (pss_one (ps_for PassesOwn.never rfl (pi_tup (pe_call (ok2 T) (hr.mono (by first | exact Nat.le_refl _ | decide | omega)) rfl T.D2.mg T.D2.kp T.D2.bd .nil pass0 (pa_cons (pv 2) pa_nil))) (pg_name (i := 3) scs3.nd rfl (Or.inl rfl)) (pss_one (ps_expr (pe_bm PySem.F.plainAttrs_list PySem.F.slot_list_extend PySem.F.type_list_extend mt_extend (pv 1) (pa_cons (pe_call G3 (hr.mono (by first | exact Nat.le_refl _ | decide | omega)) rfl T.D3.mg T.D3.kp T.D3.bd .nil pass0 (pa_cons (pv 3) pa_nil)) pa_nil))))))))
      (pss_one (ps_ret (pv 1))))), ?_⟩)
  · obtain ⟨v, b, rfl, _⟩ := h
    rfl
  · obtain ⟨v, b, rfl, hb, hdep, hsz, q⟩ := h
    obtain ⟨p, xs, rfl, h0, g⟩ := DatAt.tup_inv hb
    rw [smsD_eq] at g
    walk_at "a0"
    refine ⟨⟨_, Chg.sqT (Chg.new (L := []) hpp) h0⟩, ?_⟩
    have pre : ∀ i, (allB (b.take i)).length ≤ 10000 := fun i => by
      have e := allB_append (b.take i) (b.drop i)
      rw [List.take_append_drop] at e
      have e2 := congrArg List.length e
      rw [List.length_append] at e2
      omega
    refine forT (xs := xs) (fun i σ H' => (∃ o1 o2, σ = [some (.ref p), some (.ref pp), o1, o2]) ∧ Chg [] H H' ∧ ∃ acc, H' pp = some (.lst acc) ∧ DatsAt K H' ((allB (b.take i)).map Sm.d) acc) ⟨⟨_, _, rfl⟩, Chg.new hpp, [], upd_same, by rw [List.take_zero, allB]; exact dats_nil⟩ (fun i σ H' _ z => z.2.1.sqT h0) ?_ ?_
    · rintro i x σ H' hx ⟨⟨o1, o2, rfl⟩, c, acc, hacc, hda⟩
      obtain ⟨d, hd, hdx⟩ := g.at hx
      rw [List.getElem?_map] at hd
      cases hpi : b[i]? with
      | none => rw [hpi] at hd; cases hd
      | some s =>
        rw [hpi] at hd
        cases hd
        have htk : allB (b.take (i + 1)) = allB (b.take i) ++ s :: allI s := by rw [take_succ hpi, allB_append, allB_one]
        have hbnd := pre (i + 1)
        rw [htk, List.length_append, List.length_cons] at hbnd
        have hal : acc.length = (allB (b.take i)).length := by rw [hda.len, List.length_map]
        walk_at "a0"
        refine ⟨.inl ⟨rfl, _, SqL.of hacc⟩, _, hacc, sz' (by omega), ?_⟩
        have c1 : Chg [] H (upd H' pp (.lst (acc ++ [x]))) := chg_lst hpp c hacc trivial
        have hds := hdx.chg c1
        refine ⟨_, _, rfl, hds, fun q0 qs H1 c2 hq hqs => ?_⟩
        walk_at "a0"
        have hcur : H1 pp = some (.lst (acc ++ [x])) := c2.get upd_same
        refine ⟨⟨_, hq⟩, forT (xs := qs) (fun j σ H2 => (∃ o2, σ = [some (.ref p), some (.ref pp), some x, o2]) ∧ Chg [] H H2 ∧ SqT K H2 q0 qs ∧ DatsAt K H2 ((blocksOf s).map fun l => D.tup (smsD l)) qs ∧ ∃ acc, H2 pp = some (.lst acc) ∧ DatsAt K H2 ((allB (b.take i) ++ s :: ((blocksOf s).take j).flatMap allB).map Sm.d) acc)
          ⟨⟨_, rfl⟩, c1.trans c2, hq, hqs, _, hcur, ?_⟩ (fun j σ H2 _ z => z.2.2.1) ?_ ?_⟩
        · rw [List.take_zero, List.flatMap_nil, List.map_append, List.map_cons, List.map_nil]
          exact DatsAt.append (hda.chg ((Chg.put (L := [pp]) hacc trivial (by simp)).trans c2.of0)) (dats_cons (hds.chg c2) dats_nil)
        · rintro j y σ H2 hy ⟨⟨o2, rfl⟩, c3, hq2, hqs2, acc2, hacc2, hda2⟩
          obtain ⟨d2, hd2, hdy⟩ := hqs2.at hy
          rw [List.getElem?_map] at hd2
          cases hbj : (blocksOf s)[j]? with
          | none => rw [hbj] at hd2; cases hd2
          | some bj =>
            rw [hbj] at hd2
            cases hd2
            have hmem : bj ∈ blocksOf s := List.mem_of_getElem? hbj
            have hsm : s ∈ b := List.mem_of_getElem? hpi
            have hdj : depB bj < n := by
              have z1 := dep_blocks hmem
              have z2 := depB_mem hsm
              omega
            have htj : ((blocksOf s).take (j + 1)).flatMap allB = ((blocksOf s).take j).flatMap allB ++ allB bj := by
              rw [take_succ hbj, List.flatMap_append]; simp
            have hIs : (((blocksOf s).take j).flatMap allB ++ allB bj).length ≤ (allI s).length := by
              rw [← htj, allI_eq]
              have e := congrArg List.length (congrArg (fun l => l.flatMap allB) (List.take_append_drop (j + 1) (blocksOf s)))
              rw [List.flatMap_append, List.length_append] at e
              omega
            rw [List.length_append] at hIs
            have hal2 : acc2.length = (allB (b.take i)).length + (((blocksOf s).take j).flatMap allB).length + 1 := by
              rw [hda2.len, List.length_map, List.length_append, List.length_cons]; omega
            walk_at "a0"
            refine ⟨.inl ⟨rfl, _, SqL.of hacc2⟩, _, _, rfl, hdy, hdj, by omega, fun l ys H3 hl c4 hl3 hys => ?_⟩
            have hne : l ≠ pp := fun z => by rw [z, hacc2] at hl; cases hl
            have hl3' : ys.length = (allB bj).length := by rw [hys.len, List.length_map]
            walk_at "w2"
            refine ⟨_, c4.get hacc2, _, hl3, sz (by omega), ?_⟩
            have c5 : Chg [] H (upd H3 pp (.lst (acc2 ++ ys))) := chg_lst hpp (c3.trans c4) (c4.get hacc2) trivial
            have c6 : Chg [pp] H2 (upd H3 pp (.lst (acc2 ++ ys))) := c4.of0.trans (Chg.put (c4.get hacc2) trivial (by simp))
            have c7 : Chg [pp] H3 (upd H3 pp (.lst (acc2 ++ ys))) := Chg.put (c4.get hacc2) trivial (by simp)
            first | refine ⟨c5, c6.sqT hq2, hqs2.chg c6, _, upd_same, ?_⟩ | refine ⟨⟨_, rfl⟩, c5, c6.sqT hq2, hqs2.chg c6, _, upd_same, ?_⟩
            rw [htj, ← List.cons_append, ← List.append_assoc, List.map_append]
            exact DatsAt.append (hda2.chg c6) (hys.chg c7)
        · rintro σ H2 ⟨⟨o2, rfl⟩, c3, hq2, hqs2, acc2, hacc2, hda2⟩
          have hlq : qs.length = (blocksOf s).length := by rw [hqs.len, List.length_map]
          rw [hlq, List.take_length, ← allI_eq, ← htk] at hda2
          exact ⟨⟨_, _, rfl⟩, c3, _, hacc2, hda2⟩
    · rintro σ H' ⟨⟨o1, o2, rfl⟩, c, acc, hacc, hda⟩
      have hlb : xs.length = b.length := by rw [g.len, List.length_map]
      rw [hlb, List.take_length] at hda
      walk_at "a0"
      exact q _ _ _ hpp c hacc hda
theorem ok3 (T : Tx P K mg base a fd) : ∀ n : Nat, FnOk P w K mg base CX0 (n + 1) (a 3) (fd 3) ["block"] (sp3 K n)
  | 0 => (FnOk.never (ps := ["block"])).imp fun vs H Q E h => by
    obtain ⟨v, b, _, _, z, _⟩ := h
    exact absurd z (Nat.not_lt_zero _)
  | n + 1 => ok3s T n (ok3 T n)
end
end Cc
set_option maxRecDepth 100000
set_option maxHeartbeats 2000000
/-! Sorted names, each once. -/
namespace Cc
open PySem PySem.Spec PyProof.Rows L2
def lts (x y : Str) : Prop := x.cps.toList < y.cps.toList
theorem ltCps_iff {x y : Str} : ltCps x.cps.toList y.cps.toList = true ↔ lts x y := by rw [ltCps_eq]; exact decide_eq_true_iff
theorem str_ext {x y : Str} (h : x.cps.toList = y.cps.toList) : x = y := by
  obtain ⟨⟨x⟩⟩ := x
  obtain ⟨⟨y⟩⟩ := y
  have h : x = y := h
  rw [h]
theorem lts_irr (x : Str) : ¬ lts x x := List.lt_irrefl _
theorem lts_tr {x y z : Str} (h : lts x y) (g : lts y z) : lts x z := List.lt_trans h g
theorem lts_tot {x y : Str} (h : ¬ lts x y) (n : x ≠ y) : lts y x := by
  rcases Classical.em (lts y x) with g | g
  · exact g
  · exact absurd (str_ext (List.le_antisymm (List.not_lt.mp g) (List.not_lt.mp h))) n
abbrev Asc (l : List Str) : Prop := l.Pairwise lts
theorem asc_cons {x y : Str} {r : List Str} (h : lts x y) (a : Asc (y :: r)) : Asc (x :: y :: r) := by
  refine List.pairwise_cons.mpr ⟨fun z hz => ?_, a⟩
  rcases List.mem_cons.mp hz with e | hz
  · rw [e]; exact h
  · exact lts_tr h ((List.pairwise_cons.mp a).1 z hz)
theorem asc_of : ∀ {l : List Str}, sortedS l = true → l.Nodup → Asc l
  | [], _, _ => List.Pairwise.nil
  | [x], _, _ => List.pairwise_singleton _ _
  | x :: y :: r, h, d => by
    have h : (!ltCps y.cps.toList x.cps.toList && risingS y r) = true := h
    rw [Bool.and_eq_true] at h
    have n : x ≠ y := fun z => by
      have := (List.nodup_cons.mp d).1
      exact this (by rw [z]; simp)
    have hy : ¬ lts y x := fun z => by
      rw [ltCps_iff.mpr z] at h
      exact absurd h.1 (by simp)
    exact asc_cons (lts_tot hy (Ne.symm n)) (asc_of (l := y :: r) h.2 (List.nodup_cons.mp d).2)
theorem asc_one : ∀ {l m : List Str}, Asc l → Asc m → (∀ k, k ∈ l ↔ k ∈ m) → l = m
  | [], [], _, _, _ => rfl
  | [], y :: m, _, _, h => by have := (h y).mpr (by simp); simp at this
  | x :: l, [], _, _, h => by have := (h x).mp (by simp); simp at this
  | x :: l, y :: m, a, b, h => by
    obtain ⟨a1, a2⟩ := List.pairwise_cons.mp a
    obtain ⟨b1, b2⟩ := List.pairwise_cons.mp b
    have e : x = y := by
      rcases List.mem_cons.mp ((h x).mp (by simp)) with e | hx
      · exact e
      · rcases List.mem_cons.mp ((h y).mpr (by simp)) with e | hy
        · exact e.symm
        · exact absurd (lts_tr (a1 y hy) (b1 x hx)) (lts_irr x)
    subst e
    congr 1
    refine asc_one a2 b2 fun k => ⟨fun hk => ?_, fun hk => ?_⟩
    · rcases List.mem_cons.mp ((h k).mp (List.mem_cons_of_mem _ hk)) with e | q
      · exact absurd (a1 k hk) (by rw [e]; exact lts_irr x)
      · exact q
    · rcases List.mem_cons.mp ((h k).mpr (List.mem_cons_of_mem _ hk)) with e | q
      · exact absurd (b1 k hk) (by rw [e]; exact lts_irr x)
      · exact q
theorem mem_insU {x k : Str} : ∀ {l : List Str}, k ∈ insU x l ↔ k = x ∨ k ∈ l
  | [] => by simp [insU]
  | y :: r => by
    rw [insU]
    split
    · next e => subst e; simp
    · split
      · simp
      · rw [List.mem_cons, mem_insU, List.mem_cons]
        constructor
        · rintro (h | h | h)
          · exact .inr (.inl h)
          · exact .inl h
          · exact .inr (.inr h)
        · rintro (h | h | h)
          · exact .inr (.inl h)
          · exact .inl h
          · exact .inr (.inr h)
theorem asc_insU {x : Str} : ∀ {l : List Str}, Asc l → Asc (insU x l)
  | [], _ => by rw [insU]; exact List.pairwise_singleton _ _
  | y :: r, a => by
    rw [insU]
    split
    · exact a
    · next n =>
      split
      · next h => exact asc_cons (ltCps_iff.mp h) a
      · next h =>
        obtain ⟨a1, a2⟩ := List.pairwise_cons.mp a
        refine List.pairwise_cons.mpr ⟨fun z hz => ?_, asc_insU a2⟩
        rcases mem_insU.mp hz with e | hz
        · rw [e]; exact lts_tot (fun z => h (ltCps_iff.mpr z)) n
        · exact a1 z hz
theorem mem_sortU {k : Str} : ∀ {l : List Str}, k ∈ sortU l ↔ k ∈ l
  | [] => by simp [sortU]
  | x :: r => by
    have ih := mem_sortU (k := k) (l := r)
    unfold sortU at ih ⊢
    rw [List.foldr_cons, mem_insU, ih, List.mem_cons]
theorem asc_sortU : ∀ (l : List Str), Asc (sortU l)
  | [] => List.Pairwise.nil
  | x :: r => by
    have ih := asc_sortU r
    unfold sortU at ih ⊢
    rw [List.foldr_cons]
    exact asc_insU ih
theorem sortU_is {l m : List Str} (h : sortedS m = true) (d : m.Nodup) (e : ∀ k, k ∈ m ↔ k ∈ l) : m = sortU l := asc_one (asc_of h d) (asc_sortU l) fun k => (e k).trans mem_sortU.symm
theorem len_insU (x : Str) : ∀ l : List Str, (insU x l).length ≤ l.length + 1
  | [] => by simp [insU]
  | y :: r => by
    rw [insU]
    split
    · simp
    · split
      · simp
      · have := len_insU x r
        simp only [List.length_cons]; omega
theorem len_sortU : ∀ l : List Str, (sortU l).length ≤ l.length
  | [] => by simp [sortU]
  | x :: r => by
    have ih := len_sortU r
    have z := len_insU x (sortU r)
    unfold sortU at ih z ⊢
    rw [List.foldr_cons]
    simp only [List.length_cons]; omega
end Cc
set_option maxRecDepth 100000
set_option maxHeartbeats 4000000
/-! locals_of, local_names, variables -/
namespace Cc
open PySem PySem.Spec PyProof.Rows L2
theorem scs7 : FnScope ["global_names", "names", "block", "targets", "known", "statement", "target", "name"] ["global_names", "names", "block"] (defScope (dst 7)) := ⟨rfl, rfl, rfl, by decide +kernel, rfl, by decide +kernel, by decide +kernel⟩
def sp7 (K : PySem.W.Frag) : Sp := fun vs H Q _ => ∃ (v : V) (gn pn : Addr) (sh ns : List Str) (b : List Sm), vs = [.ref gn, .ref pn, v] ∧ SqT K H gn (sh.map V.str) ∧ SqT K H pn (ns.map V.str) ∧ DatAt K H (.tup (smsD b)) v ∧
  depB b < 8 ∧ (allB b).length ≤ 55 ∧ ns.length ≤ 5 ∧ ∀ p H', Chg [] H H' → SqT K H' p ((localsOf sh ns b).map V.str) → Q (.ref p) H'
section
variable {P : Program} {w : World} {K : PySem.W.Frag} {mg : Str → Option Value} {base : Heap} {a : Nat → Addr} {fd : Nat → FuncData}
theorem ok7 (T : Tx P K mg base a fd) : FnOk P w K mg base CX0 20 (a 7) (fd 7) ["global_names", "names", "block"] (sp7 K) := by
  refine T.D7.fn.ok scs7 (fun vs H Q E h => ?_) (fun cdv A outer s H vs Q E hr h => ⟨_, (pss_cons (ps_setLc (i := 3) (own := [("statement", 5)]) (g := gName 5) (tt := tYes) (by rfl) scs7.nd rfl rfl (sw_true rfl rfl rfl (by decide +kernel)) (pi_list (pe_call (ok3 T 8) (hr.mono (by first | exact Nat.le_refl _ | decide | omega)) rfl T.D3.mg T.D3.kp T.D3.bd .nil pass0 (pa_cons (pv 2) pa_nil))) (blkOk_by (own := [("statement", 5)]) (N := ["global_names", "names", "block", "targets", "known", "statement", "target", "name"]) (sc := (defScope (dst 7))) (by decide +kernel)) (fun _ _ _ _ _ => (pg_name (i := 5) scs7.nd rfl (Or.inl rfl))) (fun _ _ _ _ _ => pts_nil) (fun _ _ _ _ _ => (pe_call (ok4 T) (hr.mono (by first | exact Nat.le_refl _ | decide | omega)) rfl T.D4.mg T.D4.kp T.D4.bd .nil pass0 (pa_cons (pv 5) pa_nil))))
      (pss_cons (ps_setLc (i := 4) (own := [("target", 6)]) (g := gName 6) (by rfl) scs7.nd rfl rfl (sw_true rfl rfl rfl (by decide +kernel)) (pi_list (pv 3)) (blkOk_by (own := [("target", 6)]) (N := ["global_names", "names", "block", "targets", "known", "statement", "target", "name"]) (sc := (defScope (dst 7))) (by decide +kernel)) (fun _ _ _ _ _ => (pg_name (i := 6) scs7.nd rfl (Or.inl rfl))) (fun _ _ _ _ _ => (pts_one (PW.pt (pw_and (pt_cmpR op_notN (pv 6) pe_non (nomark _)) (pw_and1 (pt_cmpR (ninK (K := K) rfl) (pv 6) (pv 0) (by rfl))))))) (fun _ _ _ _ _ => (pv 6)))
      (pss_one (ps_ret (pe_callTy call_tuple_of (by rfl) T.n_tuple PyProof.Rows.Boot.«tuple» (pa_cons (pe_callB (CgB.call_sortedT rfl) (by rfl) T.n_sorted PyProof.Rows.Boot.«sorted» (pa_cons (CgB.pe_scT (own := [("name", 7)]) (g := gName 7) (tt := tYes) (by rfl) scs7.nd (pi_list (pe_op op_cat (pv 4) (pe_callTy call_list_of (by rfl) T.n_list PyProof.Rows.Boot.«list» (pa_cons (pv 1) pa_nil)))) (blkOk_by (own := [("name", 7)]) (N := ["global_names", "names", "block", "targets", "known", "statement", "target", "name"]) (sc := (defScope (dst 7))) (by decide +kernel)) (fun _ _ _ _ _ => (pg_name (i := 7) scs7.nd rfl (Or.inl rfl))) (fun _ _ _ _ _ => pts_nil) (fun _ _ _ _ _ => (pv 7))) pa_nil)) pa_nil)))))), ?_⟩)
  · obtain ⟨v, gn, pn, sh, ns, b, rfl, _⟩ := h
    rfl
  · obtain ⟨v, gn, pn, sh, ns, b, rfl, hgn, hpn, hb, hd, hz, hnz, q⟩ := h
    walk_at "a0"
    refine ⟨_, _, rfl, hb, hd, by omega, fun l ys H1 hl c1 hl1 hys => ?_⟩
    walk_at "w2"
    refine ⟨⟨_, SqL.of hl1⟩, lcL (SqL.of hl1) (fun i acc H => acc = ((allB b).take i).map (fun s => optV (tgt s))) (by rw [List.take_zero]; rfl) (fun i acc L H H' _ z => z) (fun i acc H z => by
      rw [z, List.length_map, List.length_take]; exact sz' (by omega)) ?_ ?_⟩
    · intro i x H2 acc N' N hx c w k1 k2
      obtain ⟨d, hd, hdx⟩ := hys.at hx
      rw [List.getElem?_map] at hd
      cases hpi : (allB b)[i]? with
      | none => rw [hpi] at hd; cases hd
      | some s =>
        rw [hpi] at hd
        cases hd
        walk_at "a0"
        refine ⟨_, _, rfl, hdx.chg c, fun H3 c3 => k1 _ _ c3 ?_⟩
        rw [w, take_succ hpi, List.map_append]; rfl
    · intro D H2 acc hD c2 hacc w
      have hyl : ys.length = (allB b).length := by rw [hys.len, List.length_map]
      rw [hyl, List.take_length] at w
      subst w
      walk_at "a0"
      have hgn2 := (c1.trans c2).sqT hgn
      refine ⟨⟨_, SqL.of hacc⟩, lcL (SqL.of hacc) (fun i acc H => acc = ((((allB b).take i).filterMap tgt).filter (fun t => decide (t ∉ sh))).map V.str) (by rw [List.take_zero]; rfl) (fun i acc L H H' _ z => z) (fun i acc H z => ?_) ?_ ?_⟩
      · rw [z, List.length_map]
        refine sz' (Nat.le_trans (List.length_filter_le _ _) (Nat.le_trans (List.length_filterMap_le _ _) ?_))
        rw [List.length_take]; omega
      · intro i x H3 acc N' N hx c w k1 k2
        rw [List.getElem?_map] at hx
        cases hpi : (allB b)[i]? with
        | none => rw [hpi] at hx; cases hx
        | some s =>
          rw [hpi] at hx
          cases hx
          rw [take_succ hpi, List.filterMap_append, List.filter_append, List.map_append, ← w] at k1 k2
          walk_at "a0"
          cases ht : tgt s with
          | none =>
            walk_at "a3"
            refine k2 _ Chg.refl ?_
            simp [ht]
          | some t =>
            have hns := inV_strs (t := t) sh
            walk_at "w4"
            refine ⟨_, .inr (c.sqT hgn2), rfl, by simp [flatV], ?_⟩
            rw [hns]
            by_cases e : t ∈ sh
            · simp only [e, decide_true, Bool.not_true, Bool.false_eq_true, if_false, if_true]
              refine k2 _ Chg.refl ?_
              simp [ht, e]
            · simp only [e, decide_false, Bool.not_false, if_true]
              refine k1 _ _ Chg.refl ?_
              simp [ht, e]
      · intro D2 H3 acc hD2 c3 hacc3 w
        rw [List.length_map, List.take_length] at w
        subst w
        walk_at "a0"
        have c13 : Chg [] H H3 := (c1.trans c2).trans c3
        refine ⟨_, .inr (c13.sqT hpn), fun l2 hl2 => ?_⟩
        simp only [rCat]
        refine ⟨_, _, _, _, rfl, rfl, (Chg.new (L := []) hl2).get hacc3, upd_same, ?_, ?_⟩
        · rw [List.length_map, List.length_map]
          refine sz (Nat.le_trans (Nat.add_le_add (Nat.le_trans (List.length_filter_le _ _) (List.length_filterMap_le _ _)) (Nat.le_refl _)) (by omega))
        · intro p3 hp3
          walk_at "a0"
          have c4 : Chg [] H3 (upd (upd H3 l2 (HO.lst (ns.map V.str))) p3 (HO.lst ((((allB b).filterMap tgt).filter fun t => decide (t ∉ sh)).map V.str ++ ns.map V.str))) := (Chg.new hl2).thenNew hp3
          rw [← List.map_append] at c4 ⊢
          refine ⟨⟨_, SqL.of upd_same⟩, scL (SqL.of upd_same) ?_ ?_ ?_⟩
          · rw [List.length_append]
            exact Nat.lt_of_le_of_lt (Nat.add_le_add (Nat.le_trans (List.length_filter_le _ _) (List.length_filterMap_le _ _)) (Nat.le_refl _)) (by omega)
          · intro x H5 N' N c k
            walk_at "a0"
            exact k
          · intro D5 H5 S n hD5 c5 hS hn hm
            walk_at "a0"
            refine ⟨S, n, hS, hn, fun ys2 p6 nd hmem hlen hsrt hp6 => ⟨_, .inl ⟨SqL.of upd_same, fun l7 hl7 => ?_⟩⟩⟩
            have e := sortU_is hsrt nd (fun k => (hmem k).trans (hm k))
            refine q _ _ ((((c13.trans c4).trans c5).thenNew hp6).thenNew hl7) (SqT.of ?_)
            rw [upd_same, e]
            rfl
end
end Cc
set_option maxRecDepth 100000
set_option maxHeartbeats 4000000
/-! local_names, variables -/
namespace Cc
open PySem PySem.Spec PyProof.Rows L2
/-- bounds of a procedure, of a program -/
structure PrB (p : Pr) : Prop where
  dep : depB p.body < 8
  all : (allB p.body).length ≤ 55
  par : p.params.length ≤ 5
structure PgB (G : Pg) : Prop where
  sh : G.shared.length ≤ 5
  pr : ∀ p ∈ G.procs, PrB p
theorem proc_mem {G : Pg} {n : Str} {p : Pr} (h : procOf G n = some p) : p ∈ G.procs := List.mem_of_find?_eq_some h
theorem proc_body {G : Pg} {n : Str} {p : Pr} (h : procOf G n = some p) : bodyOf G n = p.body := by rw [bodyOf, h]; rfl
theorem proc_params {G : Pg} {n : Str} {p : Pr} (h : procOf G n = some p) : paramsOf G n = p.params := by rw [paramsOf, h]; rfl
theorem proc_name {G : Pg} {n : Str} {p : Pr} (h : procOf G n = some p) : p.name = n := by
  have z := List.find?_some h
  exact of_decide_eq_true z
theorem len_loc {G : Pg} {n : Str} {p : Pr} (B : PgB G) (h : procOf G n = some p) : (locOf G n).length ≤ 60 := by
  have b := B.pr p (proc_mem h)
  unfold locOf localsOf
  refine Nat.le_trans (len_sortU _) ?_
  rw [List.length_append, proc_params h, proc_body h]
  have z1 := List.length_filter_le (fun t => decide (t ∉ G.shared)) (targets p.body)
  have z2 : (targets p.body).length ≤ (allB p.body).length := List.length_filterMap_le _ _
  have z3 := b.all
  have z4 := b.par
  omega
theorem scs6 : FnScope ["program", "name", "found", "names", "block"] ["program", "name"] (defScope (dst 6)) := ⟨rfl, rfl, rfl, by decide +kernel, rfl, by decide +kernel, by decide +kernel⟩
def sp6 (K : PySem.W.Frag) : Sp := fun vs H Q _ => ∃ (v : V) (n : Str) (G : Pg) (pr : Pr), vs = [v, .str n] ∧ DatAt K H G.d v ∧ procOf G n = some pr ∧ PgB G ∧ ∀ p H', Chg [] H H' → SqT K H' p ((locOf G n).map V.str) → Q (.ref p) H'
section
variable {P : Program} {w : World} {K : PySem.W.Frag} {mg : Str → Option Value} {base : Heap} {a : Nat → Addr} {fd : Nat → FuncData}
theorem ok6 (T : Tx P K mg base a fd) : FnOk P w K mg base CX0 21 (a 6) (fd 6) ["program", "name"] (sp6 K) := by
  refine T.D6.fn.ok scs6 (fun vs H Q E h => ?_) (fun cdv A outer s H vs Q E hr h => ⟨_, (pss_cons (ps_asg (pe_call (ok1 T) (hr.mono (by first | exact Nat.le_refl _ | decide | omega)) rfl T.D1.mg T.D1.kp T.D1.bd .nil pass0 (pa_cons (pv 0) (pa_cons (pv 1) pa_nil))) (pg_tup (by rfl) (pgs_cons (pg_name (i := 2) scs6.nd rfl (Or.inl rfl)) (pgs_cons (pg_name (i := 3) scs6.nd rfl (Or.inl rfl)) (pgs_cons (pg_name (i := 4) scs6.nd rfl (Or.inl rfl)) pgs_nil)))))
      (pss_one (ps_ret (pe_call (ok7 T) (hr.mono (by first | exact Nat.le_refl _ | decide | omega)) rfl T.D7.mg T.D7.kp T.D7.bd .nil pass0 (pa_cons (pe_ix (ixTK (K := K) rfl) (pv 0) pe_int (fun _ _ => rfl)) (pa_cons (pv 3) (pa_cons (pv 4) pa_nil))))))), ?_⟩)
  · obtain ⟨v, n, G, pr, rfl, _⟩ := h
    rfl
  · obtain ⟨v, n, G, pr, rfl, hG, hp, B, q⟩ := h
    walk_at "a0"
    refine ⟨_, _, _, _, rfl, hG, hp, fun u hu => ?_⟩
    obtain ⟨p', b', c', xs', rfl, k0, k1, k2, k3⟩ := pr_at hu
    obtain ⟨p, b, c, xs, rfl, h0, h1, h2, g⟩ := pg_at hG
    walk_at "a0"
    refine ⟨_, k0, ?_⟩
    walk_at "a0"
    have b2 := B.pr pr (proc_mem hp)
    refine ⟨_, _, _, _, _, _, rfl, h1, k1, dat_tup k2 k3, b2.dep, b2.all, b2.par, fun p H' c hs => q p H' c ?_⟩
    rw [locOf, proc_params hp, proc_body hp]
    exact hs
end
theorem catK {X : Cx} {K : PySem.W.Frag} (h : X.K = K) : OpR X (binaryOp .Add) (rCatA K) := by subst h; exact op_catA
theorem catA {K : PySem.W.Frag} {H : Hp} {a b : Addr} {xs ys : List V} {Q : VK} (h : SqT K H a xs) (g : SqT K H b ys) (z : xs.length + ys.length ≤ sizeLine) (q : ∀ p H', Chg [] H H' → SqT K H' p (xs ++ ys) → Q (.ref p) H') : rCatA K (.ref a) (.ref b) H Q := by
  refine ⟨a, b, xs, ys, rfl, rfl, h, g, z, fun e => ?_, fun _ e => ?_, fun _ _ p hp => ?_⟩
  · subst e; exact q b H Chg.refl g
  · subst e; exact q a H Chg.refl (by rw [List.append_nil]; exact h)
  · exact q p _ (Chg.new hp) (SqT.of upd_same)
theorem scs8 : FnScope ["program", "name"] ["program", "name"] (defScope (dst 8)) := ⟨rfl, rfl, rfl, by decide +kernel, rfl, by decide +kernel, by decide +kernel⟩
def sp8 (K : PySem.W.Frag) : Sp := fun vs H Q _ => ∃ (v : V) (n : Str) (G : Pg) (pr : Pr), vs = [v, .str n] ∧ DatAt K H G.d v ∧ procOf G n = some pr ∧ PgB G ∧ ∀ p H', Chg [] H H' → SqT K H' p ((varsOf G n).map V.str) → Q (.ref p) H'
section
variable {P : Program} {w : World} {K : PySem.W.Frag} {mg : Str → Option Value} {base : Heap} {a : Nat → Addr} {fd : Nat → FuncData}
theorem ok8 (T : Tx P K mg base a fd) : FnOk P w K mg base CX0 22 (a 8) (fd 8) ["program", "name"] (sp8 K) := by
  refine T.D8.fn.ok scs8 (fun vs H Q E h => ?_) (fun cdv A outer s H vs Q E hr h => ⟨_, (pss_one (ps_ret (pe_op (catK (K := K) rfl) (pe_ix (ixTK (K := K) rfl) (pv 0) pe_int (fun _ _ => rfl)) (pe_call (ok6 T) (hr.mono (by first | exact Nat.le_refl _ | decide | omega)) rfl T.D6.mg T.D6.kp T.D6.bd .nil pass0 (pa_cons (pv 0) (pa_cons (pv 1) pa_nil)))))), ?_⟩)
  · obtain ⟨v, n, G, pr, rfl, _⟩ := h
    rfl
  · obtain ⟨v, n, G, pr, rfl, hG, hp, B, q⟩ := h
    obtain ⟨p, b, c, xs, rfl, h0, h1, h2, g⟩ := pg_at hG
    walk_at "a0"
    refine ⟨_, _, _, _, rfl, hG, hp, B, fun p2 H2 c2 s2 => catA (c2.sqT h1) s2 ?_ fun p3 H3 c3 s3 => q p3 H3 (c2.trans c3) ?_⟩
    · have z := len_loc B hp
      have z2 := B.sh
      rw [List.length_map, List.length_map]
      exact sz (by omega)
    · rw [varsOf, List.map_append]; exact s3
end
end Cc
set_option maxRecDepth 100000
set_option maxHeartbeats 2000000
/-! Paths, plain. -/
namespace Cc
open PySem PySem.Spec PyProof.Rows L2
structure PthB (p : List Nat) : Prop where
  lt : ∀ n ∈ p, n < 100
  len : p.length ≤ 100
theorem blockAt_all : ∀ (p : List Nat) {B b : List Sm}, blockAt B p = some b → (allB b).length ≤ (allB B).length ∧ depB b ≤ depB B
  | [], B, b, h => by rw [blockAt] at h; cases h; exact ⟨Nat.le_refl _, Nat.le_refl _⟩; intro i j r z; cases z
  | [k], B, b, h => by rw [blockAt] at h; cases h; exact ⟨Nat.le_refl _, Nat.le_refl _⟩; intro i j r z; cases z
  | i :: j :: r, B, b, h => by
    rw [blockAt] at h
    obtain ⟨s, hs, h⟩ := Option.bind_eq_some_iff.mp h
    obtain ⟨c, hc, h⟩ := Option.bind_eq_some_iff.mp h
    have ih := blockAt_all r h
    have m1 := List.mem_of_getElem? hs
    have m2 := List.mem_of_getElem? hc
    have d1 := depB_mem m1
    have d2 := dep_blocks m2
    refine ⟨Nat.le_trans ih.1 ?_, by omega⟩
    obtain ⟨x, y, rfl⟩ := List.append_of_mem m1
    obtain ⟨u, v, e⟩ := List.append_of_mem m2
    rw [allB_append, allB, allI_eq, e]
    simp only [List.length_append, List.flatMap_append, List.flatMap_cons, List.length_cons]
    omega
theorem len_allB : ∀ b : List Sm, b.length ≤ (allB b).length
  | [] => by simp
  | s :: r => by
    have := len_allB r
    rw [allB, List.length_cons, List.length_cons, List.length_append]; omega
theorem blockAt_len : ∀ (p : List Nat) {B b : List Sm}, blockAt B p = some b → p.length + 2 * depB b ≤ 2 * depB B + 1
  | [], B, b, h => by rw [blockAt] at h; cases h; simp; intro i j r z; cases z
  | [k], B, b, h => by rw [blockAt] at h; cases h; simp; omega; intro i j r z; cases z
  | i :: j :: r, B, b, h => by
    rw [blockAt] at h
    obtain ⟨s, hs, h⟩ := Option.bind_eq_some_iff.mp h
    obtain ⟨c, hc, h⟩ := Option.bind_eq_some_iff.mp h
    have ih := blockAt_len r h
    have d1 := depB_mem (List.mem_of_getElem? hs)
    have d2 := dep_blocks (List.mem_of_getElem? hc)
    simp only [List.length_cons]
    omega
theorem blockAt_lt : ∀ (p : List Nat) {B b : List Sm}, blockAt B p = some b → (allB B).length ≤ 55 → p ≠ [] → p.getLastD 0 < 56 → ∀ n ∈ p, n < 56
  | [], B, b, h, _, e, _ => absurd rfl e
  | [k], B, b, h, _, _, hk => fun n hn => by rw [List.mem_singleton.mp hn]; exact hk
  | i :: j :: r, B, b, h, hz, _, hl => by
    rw [blockAt] at h
    obtain ⟨s, hs, h⟩ := Option.bind_eq_some_iff.mp h
    obtain ⟨c, hc, h⟩ := Option.bind_eq_some_iff.mp h
    have hi : i < B.length := (List.getElem?_eq_some_iff.mp hs).1
    have hj : j < (blocksOf s).length := (List.getElem?_eq_some_iff.mp hc).1
    have hj2 : (blocksOf s).length ≤ 2 := by cases s <;> simp [blocksOf]
    have hB := len_allB B
    have hall : (allB c).length ≤ (allB B).length := (blockAt_all [i, j] (B := B) (b := c) (by rw [blockAt, hs, Option.bind_some, hc, Option.bind_some, blockAt]; intro i j r z; cases z)).1
    intro n hn
    rcases List.mem_cons.mp hn with e | hn
    · omega
    rcases List.mem_cons.mp hn with e | hn
    · omega
    · cases r with
      | nil => cases hn
      | cons k r' => exact blockAt_lt (k :: r') h (by omega) (by simp) hl n hn
/-- a statement's path -/
theorem stmtAt_inv {B : List Sm} {p : List Nat} {s : Sm} (h : stmtAt B p = some s) : p.length % 2 = 1 ∧ ∃ b, blockAt B p = some b ∧ b[p.getLastD 0]? = some s := by
  unfold stmtAt at h
  split at h
  · cases h
  · obtain ⟨b, h1, h2⟩ := Option.bind_eq_some_iff.mp h
    exact ⟨by omega, b, h1, h2⟩
theorem stmtAt_of {B b : List Sm} {p : List Nat} {s : Sm} (o : p.length % 2 = 1) (h1 : blockAt B p = some b) (h2 : b[p.getLastD 0]? = some s) : stmtAt B p = some s := by
  unfold stmtAt
  rw [if_neg (by omega), h1, Option.bind_some, h2]
theorem stmt_bound {B : List Sm} {p : List Nat} {s : Sm} (h : stmtAt B p = some s) (hz : (allB B).length ≤ 55) (hd : depB B < 8) : (∀ n ∈ p, n < 56) ∧ p.length ≤ 15 ∧ p ≠ [] := by
  obtain ⟨o, b, h1, h2⟩ := stmtAt_inv h
  have ne : p ≠ [] := fun z => by rw [z] at o; simp at o
  have l1 := (blockAt_all p h1).1
  have l2 := len_allB b
  have l3 : p.getLastD 0 < b.length := (List.getElem?_eq_some_iff.mp h2).1
  have l4 := blockAt_len p h1
  exact ⟨blockAt_lt p h1 hz ne (by omega), by omega, ne⟩
theorem stmt_pthB {B : List Sm} {p : List Nat} {s : Sm} (h : stmtAt B p = some s) (hz : (allB B).length ≤ 55) (hd : depB B < 8) : PthB p := by
  obtain ⟨a, b, _⟩ := stmt_bound h hz hd
  exact ⟨fun n hn => by have := a n hn; omega, by omega⟩
theorem blockAt_app : ∀ (p : List Nat) {B b : List Sm} (q : List Nat), p.length % 2 = 0 → blockAt B p = some b → blockAt B (p ++ q) = blockAt b q
  | [], B, b, q, _, h => by rw [blockAt] at h; cases h; rfl; intro i j r z; cases z
  | [k], B, b, q, e, h => by simp at e
  | i :: j :: r, B, b, q, e, h => by
    rw [blockAt] at h
    obtain ⟨s, hs, h⟩ := Option.bind_eq_some_iff.mp h
    obtain ⟨c, hc, h⟩ := Option.bind_eq_some_iff.mp h
    show blockAt B (i :: j :: (r ++ q)) = _
    rw [blockAt, hs, Option.bind_some, hc, Option.bind_some]
    exact blockAt_app r q (by simp at e; omega) h
theorem blockAt_even : ∀ (p : List Nat) {B b : List Sm} (k : Nat), p.length % 2 = 0 → blockAt B (p ++ [k]) = some b → blockAt B p = some b
  | [], B, b, k, _, h => by
    have h : blockAt B [k] = some b := h
    rw [blockAt] at h ⊢
    · exact h
    · intro i j r z; cases z
    · intro i j r z; cases z
  | [i], B, b, k, e, h => by simp at e
  | i :: j :: r, B, b, k, e, h => by
    have h : blockAt B (i :: j :: (r ++ [k])) = some b := h
    rw [blockAt] at h ⊢
    obtain ⟨s, hs, h⟩ := Option.bind_eq_some_iff.mp h
    obtain ⟨c, hc, h⟩ := Option.bind_eq_some_iff.mp h
    rw [hs, Option.bind_some, hc, Option.bind_some]
    exact blockAt_even r k (by simp at e; omega) h
/-- the path of a statement: of a block, a place in it -/
theorem path_split {p : List Nat} (o : p.length % 2 = 1) : ∃ q k, p = q ++ [k] ∧ q.length % 2 = 0 := by
  have ne : p ≠ [] := fun z => by rw [z] at o; simp at o
  refine ⟨p.dropLast, p.getLast ne, (List.dropLast_concat_getLast ne).symm, ?_⟩
  rw [List.length_dropLast]; omega
theorem stmtAt_app {B : List Sm} {q : List Nat} {k : Nat} (e : q.length % 2 = 0) {b : List Sm} (h : blockAt B q = some b) : stmtAt B (q ++ [k]) = b[k]? := by
  unfold stmtAt
  rw [if_neg (by rw [List.length_append, List.length_singleton]; omega), blockAt_app q [k] e h, blockAt]
  · simp
  · intro i j r z; cases z
theorem stmtAt_app_inv {B : List Sm} {q : List Nat} {k : Nat} {s : Sm} (e : q.length % 2 = 0) (h : stmtAt B (q ++ [k]) = some s) : ∃ b, blockAt B q = some b ∧ b[k]? = some s := by
  obtain ⟨_, b, h1, h2⟩ := stmtAt_inv h
  refine ⟨b, blockAt_even q k e h1, ?_⟩
  simpa using h2
/-- a block within a statement -/
theorem blockAt_in {B : List Sm} {q : List Nat} {k j : Nat} {s : Sm} (e : q.length % 2 = 0) (h : stmtAt B (q ++ [k]) = some s) : blockAt B (q ++ [k, j]) = (blocksOf s)[j]? := by
  obtain ⟨b, h1, h2⟩ := stmtAt_app_inv e h
  rw [blockAt_app q [k, j] e h1, blockAt, h2, Option.bind_some]
  cases hc : (blocksOf s)[j]? with
  | none => rfl
  | some c =>
    rw [Option.bind_some, blockAt]
    intro i j r z; cases z
/-- the statement around a block -/
theorem outer : ∀ (q : List Nat) {B b : List Sm} {k j : Nat}, q.length % 2 = 0 → blockAt B (q ++ [k, j]) = some b → ∃ s, stmtAt B (q ++ [k]) = some s ∧ (blocksOf s)[j]? = some b
  | [], B, b, k, j, e, h => by
    have h : blockAt B [k, j] = some b := h
    rw [blockAt] at h
    obtain ⟨s, hs, h⟩ := Option.bind_eq_some_iff.mp h
    obtain ⟨c, hc, h⟩ := Option.bind_eq_some_iff.mp h
    rw [blockAt] at h
    · cases h
      refine ⟨s, ?_, hc⟩
      rw [stmtAt_app (q := []) (b := B) rfl (by rw [blockAt]; intro i j r z; cases z)]
      exact hs
    · intro i j r z; cases z
  | [i], B, b, k, j, e, h => by simp at e
  | i :: i2 :: r, B, b, k, j, e, h => by
    have h : blockAt B (i :: i2 :: (r ++ [k, j])) = some b := h
    rw [blockAt] at h
    obtain ⟨s0, hs, h⟩ := Option.bind_eq_some_iff.mp h
    obtain ⟨c, hc, h⟩ := Option.bind_eq_some_iff.mp h
    have er : r.length % 2 = 0 := by simp at e; omega
    obtain ⟨s, h1, h2⟩ := outer r er h
    obtain ⟨b', k1, k2⟩ := stmtAt_app_inv er h1
    refine ⟨s, ?_, h2⟩
    rw [stmtAt_app (q := i :: i2 :: r) (b := b') (by simp; omega) (by rw [blockAt, hs, Option.bind_some, hc, Option.bind_some]; exact k1)]
    exact k2
/-- where a run goes on behind a statement -/
def afterB (B : List Sm) (q : List Nat) : Option (List Nat) := if q = [] then none else if isW (stmtAt B q.dropLast) = true then some q.dropLast else nextOf B q.dropLast
theorem nextOf_app {B b : List Sm} {q : List Nat} {k : Nat} (e : q.length % 2 = 0) (h : blockAt B q = some b) : nextOf B (q ++ [k]) = if k + 1 < b.length then some (q ++ [k + 1]) else afterB B q := by
  rw [nextOf]
  have e1 : blockAt B (q ++ [k]) = some b := by
    rw [blockAt_app q [k] e h, blockAt]
    intro i j r z; cases z
  rw [e1]
  simp only [List.getLastD_concat, Option.getD_some, List.dropLast_concat, List.length_append, List.length_singleton]
  unfold afterB
  split
  · rfl
  · cases q with
    | nil => simp
    | cons x r => simp
theorem nextOf_len {B : List Sm} {p o : List Nat} (h : nextOf B p = some o) (op : p.length % 2 = 1) : o.length % 2 = 1 := by
  induction hn : p.length using Nat.strongRecOn generalizing p with
  | _ n ih =>
    rw [nextOf] at h
    split at h
    · cases h
      rw [List.length_append, List.length_dropLast, List.length_singleton]; omega
    · split at h
      · cases h
      · split at h
        · cases h
          rw [List.length_dropLast, List.length_dropLast]; omega
        · exact ih _ (by rw [List.length_dropLast, List.length_dropLast]; omega) h (by rw [List.length_dropLast, List.length_dropLast]; omega) rfl
/-- the next place is a statement's -/
theorem nextOf_stmt {B : List Sm} {p o : List Nat} {s : Sm} (h : nextOf B p = some o) (hs : stmtAt B p = some s) : ∃ s', stmtAt B o = some s' := by
  induction hn : p.length using Nat.strongRecOn generalizing p s with
  | _ n ih =>
    obtain ⟨op, _⟩ := stmtAt_inv hs
    obtain ⟨q, k, rfl, eq⟩ := path_split op
    obtain ⟨b, hb, hk⟩ := stmtAt_app_inv eq hs
    rw [nextOf_app eq hb] at h
    split at h
    · next hlt =>
      cases h
      exact ⟨b[k + 1], by rw [stmtAt_app eq hb]; exact List.getElem?_eq_getElem hlt⟩
    · unfold afterB at h
      split at h
      · cases h
      · next hne =>
        have e1 : q.dropLast.length % 2 = 1 := by
          have : 0 < q.length := List.length_pos_iff.mpr hne
          rw [List.length_dropLast]; omega
        obtain ⟨q2, k2, e2, eq2⟩ := path_split e1
        have e3 : q = q2 ++ [k2, q.getLast hne] := by
          have := List.dropLast_concat_getLast hne
          rw [e2, List.append_assoc] at this
          exact this.symm
        rw [e3] at hb
        obtain ⟨s2, h2, _⟩ := outer q2 eq2 hb
        rw [e2] at h
        split at h
        · cases h
          exact ⟨s2, h2⟩
        · refine ih (q2 ++ [k2]).length ?_ h h2 rfl
          rw [← e2, ← hn, List.length_dropLast, List.length_append, List.length_singleton]; omega
/-! ### texts -/
open TL
theorem tl_numT (n : Nat) : tl (numT n) = numL n := tl_num n
theorem numT_len {n : Nat} (h : n < 100) : (numT n).length ≤ 2 := by rw [len_tl, tl_numT]; exact numL_len (k := 2) (by decide) (by omega)
theorem numT_int {n : Nat} (h : n < 100) : intText? (numT n) = some (n : Int) := int_num (Nat.le_trans (numL_len (k := 2) (by decide) (by omega)) (by decide))
theorem path_parts {p : List Nat} (h : p ≠ []) : Txt.split (pathT p) "." = p.map numT := by
  refine split_join (s := 46) (S := []) (by rfl) (by decide +kernel) (fun z => h (List.map_eq_nil_iff.mp z)) fun t ht => ?_
  obtain ⟨n, _, rfl⟩ := List.mem_map.mp ht
  rw [tl_numT]
  exact numL_free (.inl (by decide))
theorem joinL_len (S : List Nat) : ∀ l : List (List Nat), (joinL S l).length ≤ (l.map List.length).sum + l.length * S.length
  | [] => by simp [joinL]
  | [p] => by simp [joinL]
  | p :: q :: r => by
    have ih := joinL_len S (q :: r)
    rw [joinL, List.length_append, List.length_append, List.map_cons, List.sum_cons, List.length_cons, Nat.succ_mul]
    omega
theorem sum_le {l : List Nat} {k : Nat} (h : ∀ x ∈ l, x ≤ k) : l.sum ≤ l.length * k := by
  induction l with
  | nil => simp
  | cons x r ih =>
    have h1 := h x (by simp)
    have h2 := ih fun y hy => h y (List.mem_cons_of_mem _ hy)
    rw [List.sum_cons, List.length_cons, Nat.succ_mul]; omega
theorem pathT_len {p : List Nat} (h : PthB p) : (pathT p).length ≤ 300 := by
  unfold pathT
  rw [len_tl, join_eq, tl_join]
  refine Nat.le_trans (joinL_len _ _) ?_
  have e : (tl ("." : Str)).length = 1 := rfl
  have z : (((p.map numT).map tl).map List.length).sum ≤ (((p.map numT).map tl).map List.length).length * 2 := sum_le fun x hx => by
    obtain ⟨y, hy, rfl⟩ := List.mem_map.mp hx
    obtain ⟨t, ht, rfl⟩ := List.mem_map.mp hy
    obtain ⟨n, hn, rfl⟩ := List.mem_map.mp ht
    rw [tl_numT]
    exact numL_len (k := 2) (by decide) (by have := h.lt n hn; omega)
  have l := h.len
  simp only [List.length_map] at z ⊢
  rw [e]; omega
theorem sum_len {p : List Nat} (h : PthB p) : ((p.map numT).map (·.length)).sum + (p.map numT).length * ("." : Str).length ≤ 16777216 := by
  have z : ((p.map numT).map (·.length)).sum ≤ ((p.map numT).map (·.length)).length * 2 := sum_le fun x hx => by
    obtain ⟨t, ht, rfl⟩ := List.mem_map.mp hx
    obtain ⟨n, hn, rfl⟩ := List.mem_map.mp ht
    exact numT_len (h.lt n hn)
  have l := h.len
  have e : ("." : Str).length = 1 := by decide
  simp only [List.length_map] at z ⊢
  rw [e]; omega
end Cc
set_option maxRecDepth 100000
set_option maxHeartbeats 4000000
/-! paths: path_text .. statement_by_path -/
namespace Cc
open PySem PySem.Spec PyProof.Rows L2
theorem log_small {n : Nat} (h : n < 100) : ((n : Int)).natAbs.log2 < 1920 := by
  have e : ((n : Int)).natAbs = n := Int.natAbs_natCast n
  rw [e]
  exact Nat.lt_of_le_of_lt (Nat.log2_le_self n) (by omega)
theorem ints_at {p : List Nat} {i : Nat} {x : V} (h : (p.map fun n => V.int (n : Nat))[i]? = some x) : ∃ n : Nat, p[i]? = some n ∧ x = .int n := by
  rw [List.getElem?_map] at h
  cases e : p[i]? with
  | none => rw [e] at h; cases h
  | some n => rw [e] at h; cases h; exact ⟨n, rfl, rfl⟩
theorem scs11 : FnScope ["path", "number"] ["path"] (defScope (dst 11)) := ⟨rfl, rfl, rfl, by decide +kernel, rfl, by decide +kernel, by decide +kernel⟩
def sp11 (K : PySem.W.Frag) : Sp := fun vs H Q _ => ∃ (t : Addr) (p : List Nat), vs = [.ref t] ∧ SqT K H t (p.map fun n => V.int (n : Nat)) ∧ PthB p ∧ ∀ H', Chg [] H H' → Q (.str (pathT p)) H'
section
variable {P : Program} {w : World} {K : PySem.W.Frag} {mg : Str → Option Value} {base : Heap} {a : Nat → Addr} {fd : Nat → FuncData}
theorem ok11 (T : Tx P K mg base a fd) : FnOk P w K mg base CX0 1 (a 11) (fd 11) ["path"] (sp11 K) := by
  refine T.D11.fn.ok scs11 (fun vs H Q E h => ?_) (fun cdv A outer s H vs Q E hr h => ⟨_, (pss_one (ps_ret (pe_join pe_str (pe_lc (own := [("number", 1)]) (g := gName 1) (tt := tYes) (by rfl) scs11.nd (pi_tup (pv 0)) (blkOk_by (own := [("number", 1)]) (N := ["path", "number"]) (sc := (defScope (dst 11))) (by decide +kernel)) (fun _ _ _ _ _ => (pg_name (i := 1) scs11.nd rfl (Or.inl rfl))) (fun _ _ _ _ _ => pts_nil) (fun _ _ _ _ _ => (pe_callTy call_str_int (by rfl) T.n_str PyProof.Rows.Boot.«str» (pa_cons (pv 1) pa_nil))))))), ?_⟩)
  · obtain ⟨t, p, rfl, _⟩ := h
    rfl
  · obtain ⟨t, p, rfl, ht, B, q⟩ := h
    walk_at "a0"
    refine ⟨⟨_, ht⟩, lcT ht (fun i acc H => acc = (p.take i).map (fun n => V.str (numT n))) (by rw [List.take_zero]; rfl) (fun i acc L H H' _ z => z) (fun i acc H z => by
      rw [z, List.length_map, List.length_take]; have := B.len; exact sz' (by omega)) ?_ ?_⟩
    · intro i x H2 acc N' N hx c w k1 k2
      obtain ⟨n, hn, rfl⟩ := ints_at hx
      walk_at "a0"
      refine ⟨log_small (B.lt n (List.mem_of_getElem? hn)), k1 _ _ Chg.refl ?_⟩
      rw [w, take_succ hn, List.map_append]; rfl
    · intro D H2 acc hD c2 hacc w
      rw [List.length_map, List.take_length] at w
      subst w
      walk_at "a0"
      refine ⟨p.map numT, .inl (SqL.of (by rw [List.map_map]; exact hacc)), sum_len B, ?_⟩
      exact q _ c2
end
theorem scs12 : FnScope ["place", "part"] ["place"] (defScope (dst 12)) := ⟨rfl, rfl, rfl, by decide +kernel, rfl, by decide +kernel, by decide +kernel⟩
def sp12 (K : PySem.W.Frag) : Sp := fun vs H Q _ => ∃ (p : List Nat), vs = [.str (pathT p)] ∧ p ≠ [] ∧ PthB p ∧ ∀ t H', Chg [] H H' → SqT K H' t (p.map fun n => V.int (n : Nat)) → Q (.ref t) H'
section
variable {P : Program} {w : World} {K : PySem.W.Frag} {mg : Str → Option Value} {base : Heap} {a : Nat → Addr} {fd : Nat → FuncData}
theorem ok12 (T : Tx P K mg base a fd) : FnOk P w K mg base CX0 1 (a 12) (fd 12) ["place"] (sp12 K) := by
  refine T.D12.fn.ok scs12 (fun vs H Q E h => ?_) (fun cdv A outer s H vs Q E hr h => ⟨_, (pss_one (ps_ret (pe_callTy call_tuple_of (by rfl) T.n_tuple PyProof.Rows.Boot.«tuple» (pa_cons (pe_lc (own := [("part", 1)]) (g := gName 1) (tt := tYes) (by rfl) scs12.nd (pi_list (pe_split (pv 0) pe_str)) (blkOk_by (own := [("part", 1)]) (N := ["place", "part"]) (sc := (defScope (dst 12))) (by decide +kernel)) (fun _ _ _ _ _ => (pg_name (i := 1) scs12.nd rfl (Or.inl rfl))) (fun _ _ _ _ _ => pts_nil) (fun _ _ _ _ _ => (pe_callTy call_int_str (by rfl) T.n_int PyProof.Rows.Boot.«int» (pa_cons (pv 1) pa_nil)))) pa_nil)))), ?_⟩)
  · obtain ⟨p, rfl, _⟩ := h
    rfl
  · obtain ⟨p, rfl, hne, B, q⟩ := h
    walk_at "a0"
    refine ⟨sz (by have := pathT_len B; omega), fun l hl => ?_⟩
    rw [path_parts hne]
    refine ⟨_, rfl, ⟨_, SqL.of upd_same⟩, lcL (SqL.of upd_same) (fun i acc H => acc = (p.take i).map (fun n => V.int (n : Nat))) (by rw [List.take_zero]; rfl) (fun i acc L H H' _ z => z) (fun i acc H z => by
      rw [z, List.length_map, List.length_take]; have := B.len; exact sz' (by omega)) ?_ ?_⟩
    · intro i x H2 acc N' N hx c w k1 k2
      rw [List.map_map, List.getElem?_map] at hx
      cases hn : p[i]? with
      | none => rw [hn] at hx; cases hx
      | some n =>
        rw [hn] at hx
        cases hx
        have hb := B.lt n (List.mem_of_getElem? hn)
        walk_at "a5"
        refine ⟨_, numT_int hb, Nat.le_trans (numT_len hb) (by decide), k1 _ _ Chg.refl ?_⟩
        rw [w, take_succ hn, List.map_append]; rfl
    · intro D H2 acc hD c2 hacc w
      rw [List.length_map, List.length_map, List.take_length] at w
      subst w
      walk_at "a0"
      refine ⟨_, .inl ⟨SqL.of hacc, fun l3 hl3 => ?_⟩⟩
      exact q _ _ (((Chg.new hl).trans c2).thenNew hl3) (SqT.of upd_same)
end
theorem rg2 : ∀ m : Nat, m ≤ 50 → RgC 0 ((2 * m : Nat) : Int) 2 m := by
  have h : ∀ m : Fin 51, (2 : Int) ≠ 0 ∧ (2 : Int).natAbs < 1073741824 ∧ Builtin.Range.small 0 ((2 * m.1 : Nat) : Int) 2 = true ∧ Builtin.Range.rangeSize 0 ((2 * m.1 : Nat) : Int) 2 = m.1 := by decide +kernel
  intro m hm
  exact h ⟨m, by omega⟩
theorem forC {lo c : Int} {n : Nat} {g : TG} {tb : TS} {D : Ends} {σ : L2.St} {H : Hp} (Pv : Nat → L2.St → Hp → Prop) (h0 : Pv 0 σ H)
    (hs : ∀ i σ H, i < n → Pv i σ H → g (.int (lo + (i : Nat) * c)) σ H fun σ2 H2 => tb { D with nx := Pv (i + 1), ct := Pv (i + 1), bk := D.nx } σ2 H2) (hd : ∀ σ H, Pv n σ H → D.nx σ H) : forB g tb D σ (Itc lo c n) H := for_rangeC Pv h0 hs hd
theorem atI_cast {α : Type} {xs : List α} {j : Nat} {v : α} {i : Int} (h : xs[j]? = some v) (e : i = (j : Int)) : atI xs i = some v := by rw [e]; exact atI_nat h
theorem scs13 : FnScope ["program", "name", "path", "block", "at", "inner"] ["program", "name", "path"] (defScope (dst 13)) := ⟨rfl, rfl, rfl, by decide +kernel, rfl, by decide +kernel, by decide +kernel⟩
def sp13 (K : PySem.W.Frag) : Sp := fun vs H Q _ => ∃ (v : V) (n : Str) (t : Addr) (G : Pg) (pr : Pr) (p : List Nat) (b : List Sm), vs = [v, .str n, .ref t] ∧ DatAt K H G.d v ∧ procOf G n = some pr ∧ SqT K H t (p.map fun n => V.int (n : Nat)) ∧ PthB p ∧ p.length % 2 = 1 ∧ blockAt pr.body p = some b ∧
  ∀ u xs H', Chg [] H H' → SqT K H' u xs → DatsAt K H' (b.map Sm.d) xs → Q (.ref u) H'
section
variable {P : Program} {w : World} {K : PySem.W.Frag} {mg : Str → Option Value} {base : Heap} {a : Nat → Addr} {fd : Nat → FuncData}
theorem ok13 (T : Tx P K mg base a fd) : FnOk P w K mg base CX0 2 (a 13) (fd 13) ["program", "name", "path"] (sp13 K) := by
  refine T.D13.fn.ok scs13 (fun vs H Q E h => ?_) (fun cdv A outer s H vs Q E hr h => ⟨_, (pss_cons (ps_set (i := 3) scs13.nd rfl (Or.inl rfl) (pe_ix (ixTK (K := K) rfl) (pe_call (ok1 T) (hr.mono (by first | exact Nat.le_refl _ | decide | omega)) rfl T.D1.mg T.D1.kp T.D1.bd .nil pass0 (pa_cons (pv 0) (pa_cons (pv 1) pa_nil))) pe_int (fun _ _ => rfl)))
      (pss_cons (ps_for PassesOwn.never rfl (pi_range3 (by rfl) T.n_range (pa_cons pe_int (pa_cons (pe_op op_sub (pe_callB call_len_seq (by rfl) T.n_len PyProof.Rows.Boot.«len» (pa_cons (pv 2) pa_nil)) pe_int) (pa_cons pe_int pa_nil)))) (pg_name (i := 4) scs13.nd rfl (Or.inl rfl)) (pss_cons (ps_if (pt_cmpR op_ge (pe_ix (ixTK (K := K) rfl) (pv 2) (pv 4) (fun _ _ => rfl)) (pe_callB call_len_seq (by rfl) T.n_len PyProof.Rows.Boot.«len» (pa_cons (pv 3) pa_nil)) (nomark _)) (pss_one (ps_ret pe_non)) pss_nil)
      (pss_cons (ps_set (i := 5) scs13.nd rfl (Or.inl rfl) (pe_call (ok2 T) (hr.mono (by first | exact Nat.le_refl _ | decide | omega)) rfl T.D2.mg T.D2.kp T.D2.bd .nil pass0 (pa_cons (pe_ix (ixTK (K := K) rfl) (pv 3) (pe_ix (ixTK (K := K) rfl) (pv 2) (pv 4) (fun _ _ => rfl)) (fun _ _ => rfl)) pa_nil)))
      (pss_cons (ps_if (pt_cmpR op_ge (pe_ix (ixTK (K := K) rfl) (pv 2) (pe_op op_add (pv 4) pe_int) (fun _ _ => rfl)) (pe_callB call_len_seq (by rfl) T.n_len PyProof.Rows.Boot.«len» (pa_cons (pv 5) pa_nil)) (nomark _)) (pss_one (ps_ret pe_non)) pss_nil)
      (pss_one (ps_set (i := 3) scs13.nd rfl (Or.inl rfl) (pe_ix (ixTK (K := K) rfl) (pv 5) (pe_ix (ixTK (K := K) rfl) (pv 2) (pe_op op_add (pv 4) pe_int) (fun _ _ => rfl)) (fun _ _ => rfl))))))))
      (pss_one (ps_ret (pv 3))))), ?_⟩)
  · obtain ⟨v, n, t, G, pr, p, b, rfl, _⟩ := h
    rfl
  · obtain ⟨v, n, t, G, pr, p, b, rfl, hG, hp, ht, B, hodd, hbl, q⟩ := h
    walk_at "a0"
    refine ⟨_, _, _, _, rfl, hG, hp, fun u hu => ?_⟩
    obtain ⟨p', b', c', xs', rfl, k0, k1, k2, k3⟩ := pr_at hu
    rw [smsD_eq] at k3
    obtain ⟨m, hm⟩ : ∃ m, p.length = 2 * m + 1 := ⟨p.length / 2, by omega⟩
    walk_at "a0"
    have hj : ((List.map (fun n => V.int (n : Nat)) p).length : Int) - 1 = ((2 * m : Nat) : Int) := by rw [List.length_map, hm]; omega
    refine ⟨_, .inr ht, m, by rw [hj]; exact rg2 m (by have := B.len; omega), ?_⟩
    refine forC (fun i σ H' => (∃ u o1 o2 xs b0, σ = [some v, some (.str n), some (.ref t), some (.ref u), o1, o2] ∧ Chg [] H H' ∧ SqT K H' u xs ∧ DatsAt K H' (b0.map Sm.d) xs ∧ blockAt b0 (p.drop (2 * i)) = some b)) ⟨_, _, _, _, _, rfl, Chg.refl, k2, k3, by rw [Nat.mul_zero, List.drop_zero]; exact hbl⟩ ?_ ?_
    · rintro i σ H' hi ⟨u0, o1, o2, xs0, b0, rfl, c, hu0, hd0, hb0⟩
      have l1 : 2 * i < p.length := by omega
      have l2 : 2 * i + 1 < p.length := by omega
      rw [List.drop_eq_getElem_cons l1, List.drop_eq_getElem_cons l2, blockAt] at hb0
      obtain ⟨s0, hs0, hb1⟩ := Option.bind_eq_some_iff.mp hb0
      obtain ⟨c0, hc0, hb2⟩ := Option.bind_eq_some_iff.mp hb1
      clear hb0 hb1
      have g1 : (p.map fun n => V.int (n : Nat))[2 * i]? = some (.int (p[2 * i] : Nat)) := by rw [List.getElem?_map, List.getElem?_eq_getElem l1]; rfl
      have g2 : (p.map fun n => V.int (n : Nat))[2 * i + 1]? = some (.int (p[2 * i + 1] : Nat)) := by rw [List.getElem?_map, List.getElem?_eq_getElem l2]; rfl
      generalize p[2 * i] = k at *
      generalize p[2 * i + 1] = j at *
      have hx0 : (b0.map Sm.d)[k]? = some s0.d := by rw [List.getElem?_map, hs0]; rfl
      obtain ⟨sv, hsv, hsd⟩ := hd0.get hx0
      have hk : k < xs0.length := (List.getElem?_eq_some_iff.mp hsv).1
      walk_at "a0"
      refine ixT (c.sqT ht) (atI_cast g1 (by omega)) ?_
      walk_at "a0"
      refine ⟨xs0, .inr hu0, ?_⟩
      rw [if_neg (by omega)]
      walk_at "a0"
      refine ixT (c.sqT ht) (atI_cast g1 (by omega)) ?_
      walk_at "a0"
      refine ixT hu0 (atI_nat hsv) ?_
      refine ⟨_, _, rfl, hsd, fun q0 qs H1 c2 hq hqs => ?_⟩
      have hxj : ((blocksOf s0).map fun l => D.tup (smsD l))[j]? = some (D.tup (smsD c0)) := by rw [List.getElem?_map, hc0]; rfl
      obtain ⟨cv, hcv, hcd⟩ := hqs.get hxj
      have hj : j < qs.length := (List.getElem?_eq_some_iff.mp hcv).1
      walk_at "a0"
      refine ixT ((c.trans c2).sqT ht) (atI_cast g2 (by omega)) ?_
      walk_at "a0"
      refine ⟨qs, .inr hq, ?_⟩
      rw [if_neg (by omega)]
      walk_at "a0"
      refine ixT ((c.trans c2).sqT ht) (atI_cast g2 (by omega)) ?_
      walk_at "a0"
      refine ixT hq (atI_nat hcv) ?_
      obtain ⟨w, ws, rfl, hw, hws⟩ := DatAt.tup_inv hcd
      rw [smsD_eq] at hws
      walk_at "a0"
      exact ⟨c.trans c2, _, hw, _, hws, by rw [show 2 * (i + 1) = 2 * i + 1 + 1 by omega]; exact hb2⟩
    · rintro σ H' ⟨u0, o1, o2, xs0, b0, rfl, c, hu0, hd0, hb0⟩
      have e : blockAt b0 (p.drop (2 * m)) = some b0 := by
        have l1 : 2 * m < p.length := by omega
        rw [List.drop_eq_getElem_cons l1, show p.drop (2 * m + 1) = [] from List.drop_eq_nil_of_le (by omega), blockAt]
        intro i j r z; cases z
      rw [e] at hb0
      cases hb0
      walk_at "a0"
      exact q _ _ _ c hu0 hd0
end
theorem scs14 : FnScope ["program", "name", "path", "block"] ["program", "name", "path"] (defScope (dst 14)) := ⟨rfl, rfl, rfl, by decide +kernel, rfl, by decide +kernel, by decide +kernel⟩
def sp14 (K : PySem.W.Frag) : Sp := fun vs H Q _ => ∃ (v : V) (n : Str) (t : Addr) (G : Pg) (pr : Pr) (p : List Nat) (s : Sm), vs = [v, .str n, .ref t] ∧ DatAt K H G.d v ∧ procOf G n = some pr ∧ SqT K H t (p.map fun n => V.int (n : Nat)) ∧ PthB p ∧ stmtAt pr.body p = some s ∧
  ∀ u H', Chg [] H H' → DatAt K H' s.d u → Q u H'
section
variable {P : Program} {w : World} {K : PySem.W.Frag} {mg : Str → Option Value} {base : Heap} {a : Nat → Addr} {fd : Nat → FuncData}
theorem ok14 (T : Tx P K mg base a fd) : FnOk P w K mg base CX0 3 (a 14) (fd 14) ["program", "name", "path"] (sp14 K) := by
  refine T.D14.fn.ok scs14 (fun vs H Q E h => ?_) (fun cdv A outer s H vs Q E hr h => ⟨_, (pss_cons (ps_if (pt_cmpR op_eq (pe_op op_modN (pe_callB call_len_seq (by rfl) T.n_len PyProof.Rows.Boot.«len» (pa_cons (pv 2) pa_nil)) pe_int) pe_int (nomark _)) (pss_one (ps_ret pe_non)) pss_nil)
      (pss_cons (ps_set (i := 3) scs14.nd rfl (Or.inl rfl) (pe_call (ok13 T) (hr.mono (by first | exact Nat.le_refl _ | decide | omega)) rfl T.D13.mg T.D13.kp T.D13.bd .nil pass0 (pa_cons (pv 0) (pa_cons (pv 1) (pa_cons (pv 2) pa_nil)))))
      (pss_cons (ps_if (PW.pt (pw_or (pt_cmpR op_isN (pv 3) pe_non (nomark _)) (pw_or1 (pt_cmpR op_ge (pe_ix (ixTK (K := K) rfl) (pv 2) (pe_un un_neg pe_int) (fun _ _ => rfl)) (pe_callB call_len_seq (by rfl) T.n_len PyProof.Rows.Boot.«len» (pa_cons (pv 3) pa_nil)) (nomark _))))) (pss_one (ps_ret pe_non)) pss_nil)
      (pss_one (ps_ret (pe_ix (ixTK (K := K) rfl) (pv 3) (pe_ix (ixTK (K := K) rfl) (pv 2) (pe_un un_neg pe_int) (fun _ _ => rfl)) (fun _ _ => rfl))))))), ?_⟩)
  · obtain ⟨v, n, t, G, pr, p, b, rfl, _⟩ := h
    rfl
  · obtain ⟨v, n, t, G, pr, p, s, rfl, hG, hp, ht, B, hst, q⟩ := h
    obtain ⟨hodd, b, hb, hbs⟩ := stmtAt_inv hst
    obtain ⟨q0, k, rfl, hq0⟩ := path_split hodd
    have hbs : b[k]? = some s := by simpa using hbs
    walk_at "a0"
    refine ⟨_, .inr ht, ?_, ?_⟩
    · decide
    rw [if_neg (by rw [List.length_map, List.length_append, List.length_singleton]; intro z; have z' : ((q0.length + 1 : Nat) : Int).fmod 2 = 0 := z; rw [Int.fmod_eq_emod_of_nonneg _ (by decide)] at z'; omega)]
    refine ⟨_, _, _, _, _, _, _, rfl, hG, hp, ht, B, hodd, hb, fun u xs H1 c hu hd => ?_⟩
    have hx0 : (b.map Sm.d)[k]? = some s.d := by rw [List.getElem?_map, hbs]; rfl
    obtain ⟨sv, hsv, hsd⟩ := hd.get hx0
    have hk : k < xs.length := (List.getElem?_eq_some_iff.mp hsv).1
    have ht1 := c.sqT ht
    rw [List.map_append] at ht1
    walk_at "a0"
    refine ixT ht1 (atI_last _ _) ?_
    walk_at "a0"
    refine ⟨xs, .inr hu, ?_⟩
    rw [if_neg (by omega)]
    walk_at "a0"
    refine ixT ht1 (atI_last _ _) ?_
    walk_at "a0"
    refine ixT hu (atI_nat hsv) ?_
    exact q _ _ c hsd
end
end Cc
set_option maxRecDepth 100000
set_option maxHeartbeats 4000000
/-! places: is_plain .. block_place -/
namespace Cc
open PySem PySem.Spec PyProof.Rows L2
theorem scs15 : FnScope ["text"] ["text"] (defScope (dst 15)) := ⟨rfl, rfl, rfl, by decide +kernel, rfl, by decide +kernel, by decide +kernel⟩
def sp15 (P : Addr) : Sp := fun vs H Q _ => ∃ n : Nat, vs = [.str (numT n)] ∧ n < 100 ∧ GxR.TabG H P ∧ ∀ H', Chg [] H H' → Q (.bl true) H'
theorem dig_mem {c : Nat} (h : 48 ≤ c ∧ c ≤ 57) : c ∈ (Str.ofString "0123456789").cps.toList := by
  have e : (Str.ofString "0123456789").cps.toList = [48, 49, 50, 51, 52, 53, 54, 55, 56, 57] := by decide +kernel
  rw [e]
  simp only [List.mem_cons, List.not_mem_nil, or_false]
  omega
section
variable {P : Program} {w : World} {K : PySem.W.Frag} {mg : Str → Option Value} {base : Heap} {a : Nat → Addr} {fd : Nat → FuncData}
theorem ok15 (T : Tx P K mg base a fd) : FnOk P w K mg base CX0 4 (a 15) (fd 15) ["text"] (sp15 (a 1501)) := by
  refine T.C15.ok scs15 (fun vs H Q E h => ?_) (fun A outer s H vs Q E hr h => ⟨_, (pss_cons (ps_if (PW.pt (pw_or (pt_not (pt_chain op_le op_le pe_int (pe_callB call_len_str (by rfl) T.n_len PyProof.Rows.Boot.«len» (pa_cons (pv 0) pa_nil)) pe_int)) (pw_or1 (PW.pt (pw_and (pt_cmpR op_eq (pe_callB call_len_str (by rfl) T.n_len PyProof.Rows.Boot.«len» (pa_cons (pv 0) pa_nil)) pe_int (nomark _)) (pw_and1 (pt_cmpR op_eq (pe_ix ix_str (pv 0) pe_int (fun _ _ => rfl)) pe_str (nomark _)))))))) (pss_one (ps_ret pe_bl)) pss_nil)
      (pss_one (ps_ret (CgA.pe_allG (k := 0) hr (by rfl) T.n_all PyProof.Rows.Boot.«all» T.B15 rfl ⟨rfl, rfl, by decide, rfl, rfl⟩ (pi_str (pv 0)) (fun _ _ _ _ _ _ hr2 => (pe_cmpR op_in_sign (pv 0) (pe_gS rfl T.cDIGITS) rfl)) (fun _ => rfl))))), ?_⟩)
  · obtain ⟨n, rfl, _⟩ := h
    rfl
  · obtain ⟨n, rfl, hn, hT, q⟩ := h
    walk_at "a6"
    have fin : ∀ H1, Chg [] H H1 → GxR.TabG H1 (a 1501) ∧ ∀ (H2 : Hp), GxR.Tabbed (a 1501) H1 H2 → ∃ (n_1 : Nat) (W : Nat → Hp → Prop), W 0 H2 ∧ ∀ (i : Nat) (H : Hp), W i H →
        (i = n_1 → (Its (numT n)).stop i H ∧ Q (V.bl true) H) ∧ (i < n_1 → (Its (numT n)).go i H ∧ ∀ (x : V) (H' : Hp), (Its (numT n)).yld i H x H' →
          ∃ c, x = V.str { cps := #[c] } ∧ (c ∈ (Str.ofString "0123456789").cps.toList → W (i + 1) H') ∧ (decide (c ∈ (Str.ofString "0123456789").cps.toList) = false → Q (V.bl false) H')) := by
      intro H1 c1
      have t1 := c1.tabs _ hT
      refine ⟨t1, fun H2 h2 => ⟨(numT n).cps.size, fun _ H' => Chg [] H H', c1.trans (Chg.tabbed t1 h2), fun i H3 c3 => ⟨fun e => ⟨by rw [e]; exact Nat.le_refl _, q _ c3⟩, fun hi => ⟨hi, fun x H' y => ?_⟩⟩⟩⟩
      obtain ⟨rfl, ch, hch, rfl⟩ := y
      refine ⟨ch, rfl, fun _ => c3, fun z => ?_⟩
      have hm : ch ∈ TL.numL n := by
        rw [← tl_numT]
        exact List.mem_of_getElem? (show (numT n).cps.toList[i]? = some ch by rw [Array.getElem?_toList]; exact hch)
      exact absurd (dig_mem (TL.numL_digits n ch hm)) (of_decide_eq_false z)
    have hl : (numT n).length = (TL.numL n).length := by rw [TL.len_tl, tl_numT]
    have hl2 := numT_len hn
    refine ⟨sz (by omega), ?_⟩
    by_cases h10 : n < 10
    · have e1 : (numT n).length = 1 := by rw [hl, TL.numL_lt h10]; rfl
      rw [e1]
      simp only [if_pos (show (1 : Int) ≤ ((1 : Nat) : Int) by decide), show (!decide (((1 : Nat) : Int) ≤ 2)) = false by decide, Bool.false_eq_true, if_false, if_neg (show ¬ (((1 : Nat) : Int) = 2) by decide)]
      exact ⟨by decide, fin H Chg.refl⟩
    · have hd1 : n / 10 < 10 := by omega
      have e0 : TL.numL n = [48 + n / 10, 48 + n % 10] := by rw [TL.numL_step (by omega), TL.numL_lt hd1]; rfl
      have e1 : (numT n).length = 2 := by rw [hl, e0]; rfl
      rw [e1]
      simp only [if_pos (show (1 : Int) ≤ ((2 : Nat) : Int) by decide), show (!decide (((2 : Nat) : Int) ≤ 2)) = false by decide, Bool.false_eq_true, if_false, if_pos (show (((2 : Nat) : Int) = 2) by decide)]
      refine ⟨by decide, numT n, 0, 48 + n / 10, rfl, rfl, by rw [e1]; decide, ?_, rfl, ?_⟩
      · show atI (TL.tl (numT n)) 0 = _
        rw [tl_numT, e0]; rfl
      · rw [if_neg ?_]
        · exact fin H Chg.refl
        · intro z
          have z : V.str ⟨#[48 + n / 10]⟩ = V.str ⟨#[48]⟩ := z
          injection z with z
          have z2 := congrArg (fun s : Str => s.cps.toList) z
          simp at z2
          omega
end
end Cc
set_option maxRecDepth 100000
set_option maxHeartbeats 4000000
/-! places: statement_at .. block_place -/
namespace Cc
open PySem PySem.Spec PyProof.Rows L2
theorem slA {K : PySem.W.Frag} {H : Hp} {a : Addr} {xs ys : List V} {lo hi : Option Int} {Q : VK} (h : SqT K H a xs) (e : cutV xs lo hi = ys) (q : ∀ p H', Chg [] H H' → SqT K H' p ys → Q (.ref p) H') : rSlA K (.ref a) lo hi H Q := by
  refine ⟨a, xs, rfl, h, fun z => ?_, fun z p hp => ?_⟩
  · refine q a H Chg.refl ?_
    have e2 : cutV xs lo hi = xs := by
      unfold cutV
      rw [z.1, z.2, List.drop_zero, Nat.sub_zero, List.take_length]
    rw [← e, e2]; exact h
  · exact q p _ (Chg.new hp) (SqT.of (by rw [upd_same, e]))
theorem slKA {X : Cx} {K : PySem.W.Frag} (h : X.K = K) : SlR X (rSlA K) := by subst h; exact sl_tupA
theorem cut_neg {xs : List V} {m : Nat} (h : m ≤ xs.length) (h0 : 0 < m) : cutV xs none (some (-(m : Int))) = xs.take (xs.length - m) := by
  have e : HT.sIx xs.length xs.length (some (-(m : Int))) = xs.length - m := by
    show (if -(m : Int) < 0 then (-(m : Int) + (xs.length : Int)).toNat else _) = _
    rw [if_pos (by omega)]; omega
  unfold cutV
  rw [HT.sIx_none, e, List.drop_zero, Nat.sub_zero]
theorem scs16 : FnScope ["program", "name", "place", "parts"] ["program", "name", "place"] (defScope (dst 16)) := ⟨rfl, rfl, rfl, by decide +kernel, rfl, by decide +kernel, by decide +kernel⟩
def sp16 (K : PySem.W.Frag) (P Q' : Addr) : Sp := fun vs H Q _ => ∃ (v : V) (n : Str) (G : Pg) (pr : Pr) (p : List Nat) (s : Sm), vs = [v, .str n, .str (pathT p)] ∧ DatAt K H G.d v ∧ procOf G n = some pr ∧ PthB p ∧ stmtAt pr.body p = some s ∧ GxR.TabG H P ∧ GxR.TabG H Q' ∧
  ∀ u H', Chg [] H H' → DatAt K H' s.d u → Q u H'
section
variable {P : Program} {w : World} {K : PySem.W.Frag} {mg : Str → Option Value} {base : Heap} {a : Nat → Addr} {fd : Nat → FuncData}
theorem ok16 (T : Tx P K mg base a fd) : FnOk P w K mg base CX0 8 (a 16) (fd 16) ["program", "name", "place"] (sp16 K (a 1501) (a 1601)) := by
  refine T.C16.ok scs16 (fun vs H Q E h => ?_) (fun A outer s H vs Q E hr h => ⟨_, (pss_cons (ps_set (i := 3) scs16.nd rfl (Or.inl rfl) (pe_split (pv 2) pe_str))
      (pss_cons (ps_if (pt_not (pt_val (CgA.pe_allG (k := 4) hr (by rfl) T.n_all PyProof.Rows.Boot.«all» T.B16 rfl ⟨rfl, rfl, by decide, rfl, rfl⟩ (pi_list (pv 3)) (fun _ _ _ _ _ _ hr2 => (pe_call (ok15 T) hr2 rfl T.D15.mg T.D15.kp T.D15.bd .nil pass0 (pa_cons (pv 0) pa_nil))) (fun _ => rfl)))) (pss_one (ps_ret pe_non)) pss_nil)
      (pss_one (ps_ret (pe_call (ok14 T) (hr.mono (by first | exact Nat.le_refl _ | decide | omega)) rfl T.D14.mg T.D14.kp T.D14.bd .nil pass0 (pa_cons (pv 0) (pa_cons (pv 1) (pa_cons (pe_call (ok12 T) (hr.mono (by first | exact Nat.le_refl _ | decide | omega)) rfl T.D12.mg T.D12.kp T.D12.bd .nil pass0 (pa_cons (pv 2) pa_nil)) pa_nil)))))))), ?_⟩)
  · obtain ⟨v, n, G, pr, p, s, rfl, _⟩ := h
    rfl
  · obtain ⟨v, n, G, pr, p, s, rfl, hG, hp, B, hst, hT1, hT2, q⟩ := h
    have hne : p ≠ [] := fun z => by
      have := (stmtAt_inv hst).1
      rw [z] at this; simp at this
    walk_at "a6"
    refine ⟨sz (by have := pathT_len B; omega), fun l hl => ?_⟩
    rw [path_parts hne]
    have c1 : Chg [] H (upd H l (.lst ((p.map numT).map V.str))) := Chg.new hl
    generalize hH1 : upd H l (.lst ((p.map numT).map V.str)) = H1 at c1 ⊢
    have hl1 : H1 l = some (.lst ((p.map numT).map V.str)) := by rw [← hH1]; exact upd_same
    walk_at "a6"
    refine ⟨⟨_, SqL.of hl1⟩, c1.tabs _ hT2, fun H2 h2 => ⟨p.length, fun _ H' => Chg [] H1 H', Chg.tabbed (c1.tabs _ hT2) h2, fun i H3 c3 => ⟨fun e => ⟨⟨_, c3.sqL (SqL.of hl1), by rw [e, List.length_map, List.length_map]; exact Nat.le_refl _⟩, ?_⟩, fun hi => ⟨⟨_, _, c3.sqL (SqL.of hl1), List.getElem?_eq_getElem (by rw [List.length_map, List.length_map]; exact hi)⟩, fun x H' y => ?_⟩⟩⟩⟩
    · walk_at "a0"
      refine ⟨p, rfl, hne, B, fun t H4 c4 ht => ?_⟩
      have c : Chg [] H H4 := (c1.trans c3).trans c4
      exact ⟨_, _, _, _, _, _, _, rfl, hG.chg c, hp, ht, B, hst, fun u H5 c5 hu => q u H5 (c.trans c5) hu⟩
    · obtain ⟨rfl, y2⟩ := y
      have e := y2 _ (c3.sqL (SqL.of hl1))
      rw [List.map_map, List.getElem?_map, List.getElem?_eq_getElem hi] at e
      have e : x = .str (numT p[i]) := (Option.some.inj e).symm
      subst e
      walk_at "a0"
      refine ⟨_, rfl, B.lt _ (List.getElem_mem hi), (c1.trans c3).tabs _ hT1, fun H4 c4 => ?_⟩
      walk_at "a0"
      exact ⟨fun _ => c3.trans c4, fun z => z.elim⟩
end
theorem place0 : Str.ofString "0" = pathT [0] := by decide +kernel
theorem scs17 : FnScope ["program", "name"] ["program", "name"] (defScope (dst 17)) := ⟨rfl, rfl, rfl, by decide +kernel, rfl, by decide +kernel, by decide +kernel⟩
def sp17 (K : PySem.W.Frag) : Sp := fun vs H Q _ => ∃ (v : V) (n : Str) (G : Pg) (pr : Pr), vs = [v, .str n] ∧ DatAt K H G.d v ∧ procOf G n = some pr ∧ Q (.str (placeT (firstPlace pr.body))) H
section
variable {P : Program} {w : World} {K : PySem.W.Frag} {mg : Str → Option Value} {base : Heap} {a : Nat → Addr} {fd : Nat → FuncData}
theorem ok17 (T : Tx P K mg base a fd) : FnOk P w K mg base CX0 2 (a 17) (fd 17) ["program", "name"] (sp17 K) := by
  refine T.D17.fn.ok scs17 (fun vs H Q E h => ?_) (fun cdv A outer s H vs Q E hr h => ⟨_, (pss_one (ps_ret (pe_ifExp (pt_cmpR op_gt (pe_callB call_len_seq (by rfl) T.n_len PyProof.Rows.Boot.«len» (pa_cons (pe_ix (ixTK (K := K) rfl) (pe_call (ok1 T) (hr.mono (by first | exact Nat.le_refl _ | decide | omega)) rfl T.D1.mg T.D1.kp T.D1.bd .nil pass0 (pa_cons (pv 0) (pa_cons (pv 1) pa_nil))) pe_int (fun _ _ => rfl)) pa_nil)) pe_int (nomark _)) pe_str pe_str))), ?_⟩)
  · obtain ⟨v, n, G, pr, rfl, _⟩ := h
    rfl
  · obtain ⟨v, n, G, pr, rfl, hG, hp, q⟩ := h
    walk_at "a0"
    refine ⟨_, _, _, _, rfl, hG, hp, fun u hu => ?_⟩
    obtain ⟨p', b', c', xs', rfl, k0, k1, k2, k3⟩ := pr_at hu
    rw [smsD_eq] at k3
    have hl := k3.len
    rw [List.length_map] at hl
    walk_at "a0"
    refine ⟨_, .inr k2, ?_⟩
    unfold firstPlace at q
    by_cases h0 : 0 < pr.body.length
    · rw [if_pos (by omega)]
      rw [if_pos h0] at q
      rw [place0]; exact q
    · rw [if_neg (by omega)]
      rw [if_neg h0] at q
      exact q
end
theorem take_of_app {p : List Nat} {m : Nat} (f : Nat → V) (h : m ≤ p.length) (h0 : 0 < m) : cutV (p.map f) none (some (-(m : Int))) = (p.take (p.length - m)).map f := by
  rw [cut_neg (by rw [List.length_map]; exact h) h0, List.length_map, List.map_take]
theorem isW_word {s : Sm} {p : Addr} {xs : List V} {K : PySem.W.Frag} {H : Hp} : DatAt K H s.d (.ref p) → ∃ w xs, SqT K H p (.str w :: xs) ∧ (w = "while" ↔ isW (some s) = true) := by
  intro h
  cases s <;> (obtain ⟨p, xs, e, h0, g⟩ := DatAt.tup_inv h; cases e; obtain ⟨x0, r, rfl, h1, g⟩ := g.cons_inv; cases dat_str_inv h1; refine ⟨_, _, h0, ?_⟩; (try simp only [isW]); (try decide))
theorem scs19 : FnScope ["program", "name", "path", "block", "outer"] ["program", "name", "path"] (defScope (dst 19)) := ⟨rfl, rfl, rfl, by decide +kernel, rfl, by decide +kernel, by decide +kernel⟩
def sp19 (K : PySem.W.Frag) (N : Nat) : Sp := fun vs H Q _ => ∃ (v : V) (n : Str) (t : Addr) (G : Pg) (pr : Pr) (p : List Nat) (s : Sm), vs = [v, .str n, .ref t] ∧ DatAt K H G.d v ∧ procOf G n = some pr ∧ SqT K H t (p.map fun n => V.int (n : Nat)) ∧ PrB pr ∧ stmtAt pr.body p = some s ∧ p.length < N ∧
  ∀ H', Chg [] H H' → Q (.str (placeT (nextOf pr.body p))) H'
section
variable {P : Program} {w : World} {K : PySem.W.Frag} {mg : Str → Option Value} {base : Heap} {a : Nat → Addr} {fd : Nat → FuncData}
theorem ok19s (T : Tx P K mg base a fd) (n : Nat) (G19 : FnOk P w K mg base CX0 (n + 3) (a 19) (fd 19) ["program", "name", "path"] (sp19 K n)) : FnOk P w K mg base CX0 (n + 4) (a 19) (fd 19) ["program", "name", "path"] (sp19 K (n + 1)) := by
  refine T.D19.fn.ok scs19 (fun vs H Q E h => ?_) (fun cdv A outer s H vs Q E hr h => ⟨_, (pss_cons (ps_set (i := 3) scs19.nd rfl (Or.inl rfl) (pe_call (ok13 T) (hr.mono (by first | exact Nat.le_refl _ | decide | omega)) rfl T.D13.mg T.D13.kp T.D13.bd .nil pass0 (pa_cons (pv 0) (pa_cons (pv 1) (pa_cons (pv 2) pa_nil)))))
      (pss_cons (ps_if (pt_cmpR op_lt (pe_op op_add (pe_ix (ixTK (K := K) rfl) (pv 2) (pe_un un_neg pe_int) (fun _ _ => rfl)) pe_int) (pe_callB call_len_seq (by rfl) T.n_len PyProof.Rows.Boot.«len» (pa_cons (pv 3) pa_nil)) (nomark _)) (pss_one (ps_ret (pe_call (ok11 T) (hr.mono (by first | exact Nat.le_refl _ | decide | omega)) rfl T.D11.mg T.D11.kp T.D11.bd .nil pass0 (pa_cons (pe_op (catK (K := K) rfl) (pe_slice (slKA (K := K) rfl) (pv 2) po_none (po_some (pe_un un_neg pe_int))) (pe_tup (pa_cons (pe_op op_add (pe_ix (ixTK (K := K) rfl) (pv 2) (pe_un un_neg pe_int) (fun _ _ => rfl)) pe_int) pa_nil))) pa_nil)))) pss_nil)
      (pss_cons (ps_if (pt_cmpR op_eq (pe_callB call_len_seq (by rfl) T.n_len PyProof.Rows.Boot.«len» (pa_cons (pv 2) pa_nil)) pe_int (nomark _)) (pss_one (ps_ret pe_str)) pss_nil)
      (pss_cons (ps_set (i := 4) scs19.nd rfl (Or.inl rfl) (pe_slice (slKA (K := K) rfl) (pv 2) po_none (po_some (pe_un un_neg pe_int))))
      (pss_cons (ps_if (pt_cmpR op_eq (pe_ix (ixTK (K := K) rfl) (pe_call (ok14 T) (hr.mono (by first | exact Nat.le_refl _ | decide | omega)) rfl T.D14.mg T.D14.kp T.D14.bd .nil pass0 (pa_cons (pv 0) (pa_cons (pv 1) (pa_cons (pv 4) pa_nil)))) pe_int (fun _ _ => rfl)) pe_str (nomark _)) (pss_one (ps_ret (pe_call (ok11 T) (hr.mono (by first | exact Nat.le_refl _ | decide | omega)) rfl T.D11.mg T.D11.kp T.D11.bd .nil pass0 (pa_cons (pv 4) pa_nil)))) pss_nil)
      (pss_one (ps_ret (pe_call G19 (hr.mono (by first | exact Nat.le_refl _ | decide | omega)) rfl T.D19.mg T.D19.kp T.D19.bd .nil pass0 (pa_cons (pv 0) (pa_cons (pv 1) (pa_cons (pv 4) pa_nil))))))))))), ?_⟩)
  · obtain ⟨v, n, t, G, pr, p, s, rfl, _⟩ := h
    rfl
  · obtain ⟨v, n, t, G, pr, p, s, rfl, hG, hp, ht, hB, hst, hlen, q⟩ := h
    have B := stmt_pthB hst hB.all hB.dep
    obtain ⟨hodd, b0, hb0, hbs0⟩ := stmtAt_inv hst
    obtain ⟨q0, k, rfl, hq0⟩ := path_split hodd
    obtain ⟨b, hb, hbs⟩ := stmtAt_app_inv hq0 hst
    rw [nextOf_app hq0 hb] at q
    walk_at "a0"
    refine ⟨_, _, _, _, _, _, _, rfl, hG, hp, ht, B, hodd, hb0, fun u xs H1 c1 hu hd => ?_⟩
    have hbb : b0 = b := by
      have e := blockAt_even q0 k hq0 hb0
      rw [e] at hb; exact Option.some.inj hb
    subst hbb
    have hl := hd.len
    rw [List.length_map] at hl
    have ht1 := c1.sqT ht
    have ht1' := ht1
    rw [List.map_append] at ht1'
    walk_at "a0"
    refine ixT ht1' (atI_last _ _) ?_
    walk_at "a0"
    refine ⟨xs, .inr hu, ?_⟩
    by_cases hlt : k + 1 < b0.length
    · rw [if_pos (by omega)]
      rw [if_pos hlt] at q
      walk_at "a0"
      refine slA ht1 (take_of_app (m := 1) _ (by simp) (by decide)) fun p2 H2 c2 hp2 => ?_
      have ht2 := c2.sqT ht1'
      walk_at "a0"
      refine ixT ht2 (atI_last _ _) ?_
      walk_at "a0"
      refine catA (Chg.sqT (Chg.new (L := []) hpp) hp2) (SqT.of upd_same) ?_ fun p3 H3 c3 hp3 => ?_
      · rw [List.length_map]
        have := B.len
        exact sz (by simp; simp at this; omega)
      have e : (q0 ++ [k]).take ((q0 ++ [k]).length - 1) = q0 := by simp
      rw [e] at hp3
      have hst2 : stmtAt pr.body (q0 ++ [k + 1]) = some b0[k + 1] := by rw [stmtAt_app hq0 hb]; exact List.getElem?_eq_getElem hlt
      refine ⟨_, q0 ++ [k + 1], rfl, by rw [List.map_append]; exact hp3, stmt_pthB hst2 hB.all hB.dep, fun H4 c4 => q H4 (((c1.trans c2).thenNew hpp).trans (c3.trans c4))⟩
    · rw [if_neg (by omega)]
      rw [if_neg hlt] at q
      walk_at "a0"
      refine ⟨_, .inr ht1, ?_⟩
      by_cases hq1 : q0 = []
      · subst hq1
        rw [if_pos (by rfl)]
        rw [afterB, if_pos rfl] at q
        walk_at "a0"
        exact q _ c1
      · have hq0l : 2 ≤ q0.length := by
          have : 0 < q0.length := List.length_pos_iff.mpr hq1
          omega
        rw [if_neg (by rw [List.length_map, List.length_append, List.length_singleton]; omega)]
        rw [afterB, if_neg hq1] at q
        walk_at "a0"
        refine slA ht1 (take_of_app (m := 2) _ (by simp; omega) (by decide)) fun p2 H2 c2 hp2 => ?_
        have e : (q0 ++ [k]).take ((q0 ++ [k]).length - 2) = q0.dropLast := by
          rw [List.length_append, List.length_singleton, List.dropLast_eq_take, List.take_append_of_le_length (by omega)]
          congr 1
        rw [e] at hp2
        have e1 : q0.dropLast.length % 2 = 1 := by rw [List.length_dropLast]; omega
        obtain ⟨q2, k2, e2, eq2⟩ := path_split e1
        have e3 : q0 = q2 ++ [k2, q0.getLast hq1] := by
          have := List.dropLast_concat_getLast hq1
          rw [e2, List.append_assoc] at this
          exact this.symm
        have hb' := hb
        rw [e3] at hb'
        obtain ⟨s2, h2, _⟩ := Cc.outer q2 eq2 hb'
        rw [← e2] at h2
        have B2 := stmt_pthB h2 hB.all hB.dep
        have c12 : Chg [] H H2 := c1.trans c2
        walk_at "a0"
        refine ⟨_, _, _, _, _, _, _, rfl, hG.chg c12, hp, hp2, B2, h2, fun u3 H3 c3 hu3 => ?_⟩
        obtain ⟨p4, xs4, rfl, _, _⟩ : ∃ p xs, u3 = .ref p ∧ SqT K H3 p xs ∧ True := by
          cases s2 <;> (obtain ⟨p, xs, rfl, h0, _⟩ := DatAt.tup_inv hu3; exact ⟨p, xs, rfl, h0, trivial⟩)
        obtain ⟨w4, r4, h4, hw4⟩ := isW_word (xs := xs4) hu3
        have c13 : Chg [] H H3 := c12.trans c3
        walk_at "a0"
        refine ixT h4 (atI_cast (j := 0) rfl rfl) ?_
        walk_at "a0"
        rw [h2] at q
        by_cases hw : w4 = Str.ofString "while"
        · rw [if_pos hw]
          rw [if_pos (hw4.mp hw)] at q
          exact ⟨_, _, rfl, c3.sqT hp2, B2, fun H4 c4 => q H4 (c13.trans c4)⟩
        · rw [if_neg hw]
          rw [if_neg (fun z => hw (hw4.mpr z))] at q
          refine ⟨_, _, _, _, _, _, _, rfl, hG.chg c13, hp, c3.sqT hp2, hB, h2, ?_, fun H4 c4 => q H4 (c13.trans c4)⟩
          rw [List.length_append, List.length_singleton] at hlen
          rw [List.length_dropLast]; omega
theorem ok19 (T : Tx P K mg base a fd) : ∀ n : Nat, FnOk P w K mg base CX0 (n + 3) (a 19) (fd 19) ["program", "name", "path"] (sp19 K n)
  | 0 => (FnOk.never (ps := ["program", "name", "path"])).imp fun vs H Q E h => by
    obtain ⟨v, n, t, G, pr, p, s, _, _, _, _, _, _, z, _⟩ := h
    exact absurd z (Nat.not_lt_zero _)
  | n + 1 => ok19s T n (ok19 T n)
end
theorem scs18 : FnScope ["program", "name", "place"] ["program", "name", "place"] (defScope (dst 18)) := ⟨rfl, rfl, rfl, by decide +kernel, rfl, by decide +kernel, by decide +kernel⟩
def sp18 (K : PySem.W.Frag) : Sp := fun vs H Q _ => ∃ (v : V) (n : Str) (G : Pg) (pr : Pr) (p : List Nat) (s : Sm), vs = [v, .str n, .str (pathT p)] ∧ DatAt K H G.d v ∧ procOf G n = some pr ∧ PrB pr ∧ stmtAt pr.body p = some s ∧
  ∀ H', Chg [] H H' → Q (.str (placeT (nextOf pr.body p))) H'
section
variable {P : Program} {w : World} {K : PySem.W.Frag} {mg : Str → Option Value} {base : Heap} {a : Nat → Addr} {fd : Nat → FuncData}
theorem ok18 (T : Tx P K mg base a fd) : FnOk P w K mg base CX0 20 (a 18) (fd 18) ["program", "name", "place"] (sp18 K) := by
  refine T.D18.fn.ok scs18 (fun vs H Q E h => ?_) (fun cdv A outer s H vs Q E hr h => ⟨_, (pss_one (ps_ret (pe_call (ok19 T 16) (hr.mono (by first | exact Nat.le_refl _ | decide | omega)) rfl T.D19.mg T.D19.kp T.D19.bd .nil pass0 (pa_cons (pv 0) (pa_cons (pv 1) (pa_cons (pe_call (ok12 T) (hr.mono (by first | exact Nat.le_refl _ | decide | omega)) rfl T.D12.mg T.D12.kp T.D12.bd .nil pass0 (pa_cons (pv 2) pa_nil)) pa_nil)))))), ?_⟩)
  · obtain ⟨v, n, G, pr, p, s, rfl, _⟩ := h
    rfl
  · obtain ⟨v, n, G, pr, p, s, rfl, hG, hp, hB, hst, q⟩ := h
    obtain ⟨b1, b2, b3⟩ := stmt_bound hst hB.all hB.dep
    walk_at "a0"
    refine ⟨_, rfl, b3, stmt_pthB hst hB.all hB.dep, fun t H1 c1 ht => ?_⟩
    exact ⟨_, _, _, _, _, _, _, rfl, hG.chg c1, hp, ht, hB, hst, by omega, fun H2 c2 => q H2 (c1.trans c2)⟩
end
theorem scs20 : FnScope ["program", "name", "place", "index", "path", "statement"] ["program", "name", "place", "index"] (defScope (dst 20)) := ⟨rfl, rfl, rfl, by decide +kernel, rfl, by decide +kernel, by decide +kernel⟩
def sp20 (K : PySem.W.Frag) : Sp := fun vs H Q _ => ∃ (v : V) (n : Str) (G : Pg) (pr : Pr) (p : List Nat) (s : Sm) (i : Nat) (c : List Sm), vs = [v, .str n, .str (pathT p), .int (i : Nat)] ∧ DatAt K H G.d v ∧ procOf G n = some pr ∧ PrB pr ∧ stmtAt pr.body p = some s ∧ (blocksOf s)[i]? = some c ∧
  ∀ H', Chg [] H H' → Q (.str (placeT (blockPlace pr.body p s i))) H'
section
variable {P : Program} {w : World} {K : PySem.W.Frag} {mg : Str → Option Value} {base : Heap} {a : Nat → Addr} {fd : Nat → FuncData}
theorem ok20 (T : Tx P K mg base a fd) : FnOk P w K mg base CX0 20 (a 20) (fd 20) ["program", "name", "place", "index"] (sp20 K) := by
  refine T.D20.fn.ok scs20 (fun vs H Q E h => ?_) (fun cdv A outer s H vs Q E hr h => ⟨_, (pss_cons (ps_set (i := 4) scs20.nd rfl (Or.inl rfl) (pe_call (ok12 T) (hr.mono (by first | exact Nat.le_refl _ | decide | omega)) rfl T.D12.mg T.D12.kp T.D12.bd .nil pass0 (pa_cons (pv 2) pa_nil)))
      (pss_cons (ps_set (i := 5) scs20.nd rfl (Or.inl rfl) (pe_call (ok14 T) (hr.mono (by first | exact Nat.le_refl _ | decide | omega)) rfl T.D14.mg T.D14.kp T.D14.bd .nil pass0 (pa_cons (pv 0) (pa_cons (pv 1) (pa_cons (pv 4) pa_nil)))))
      (pss_cons (ps_if (pt_cmpR op_gt (pe_callB call_len_seq (by rfl) T.n_len PyProof.Rows.Boot.«len» (pa_cons (pe_ix (ixTK (K := K) rfl) (pe_call (ok2 T) (hr.mono (by first | exact Nat.le_refl _ | decide | omega)) rfl T.D2.mg T.D2.kp T.D2.bd .nil pass0 (pa_cons (pv 5) pa_nil)) (pv 3) (fun _ _ => rfl)) pa_nil)) pe_int (nomark _)) (pss_one (ps_ret (pe_call (ok11 T) (hr.mono (by first | exact Nat.le_refl _ | decide | omega)) rfl T.D11.mg T.D11.kp T.D11.bd .nil pass0 (pa_cons (pe_op (catK (K := K) rfl) (pv 4) (pe_tup (pa_cons (pv 3) (pa_cons pe_int pa_nil)))) pa_nil)))) pss_nil)
      (pss_cons (ps_if (pt_cmpR op_eq (pe_ix (ixTK (K := K) rfl) (pv 5) pe_int (fun _ _ => rfl)) pe_str (nomark _)) (pss_one (ps_ret (pv 2))) pss_nil)
      (pss_one (ps_ret (pe_call (ok19 T 16) (hr.mono (by first | exact Nat.le_refl _ | decide | omega)) rfl T.D19.mg T.D19.kp T.D19.bd .nil pass0 (pa_cons (pv 0) (pa_cons (pv 1) (pa_cons (pv 4) pa_nil)))))))))), ?_⟩)
  · obtain ⟨v, n, G, pr, p, s, i, c, rfl, _⟩ := h
    rfl
  · obtain ⟨v, n, G, pr, p, s, i, c, rfl, hG, hp, hB, hst, hi, q⟩ := h
    obtain ⟨b1, b2, b3⟩ := stmt_bound hst hB.all hB.dep
    have B := stmt_pthB hst hB.all hB.dep
    rw [blockPlace, hi, Option.getD_some] at q
    walk_at "a0"
    refine ⟨_, rfl, b3, B, fun t H1 c1 ht => ?_⟩
    refine ⟨_, _, _, _, _, _, _, rfl, hG.chg c1, hp, ht, B, hst, fun u H2 c2 hu => ?_⟩
    have c12 : Chg [] H H2 := c1.trans c2
    walk_at "a0"
    refine ⟨_, _, rfl, hu, fun q0 qs H3 c3 hq hqs => ?_⟩
    have c13 : Chg [] H H3 := c12.trans c3
    have hxj : ((blocksOf s).map fun l => D.tup (smsD l))[i]? = some (D.tup (smsD c)) := by rw [List.getElem?_map, hi]; rfl
    obtain ⟨cv, hcv, hcd⟩ := hqs.get hxj
    obtain ⟨w, ws, rfl, hw, hws⟩ := DatAt.tup_inv hcd
    rw [smsD_eq] at hws
    have hl := hws.len
    rw [List.length_map] at hl
    walk_at "a0"
    refine ixT hq (atI_nat hcv) ?_
    walk_at "a0"
    refine ⟨_, .inr hw, ?_⟩
    by_cases h0 : 0 < c.length
    · rw [if_pos (by omega)]
      rw [if_pos h0] at q
      walk_at "a0"
      have ht3 := (c2.trans c3).sqT ht
      refine catA (Chg.sqT (Chg.new (L := []) hpp) ht3) (SqT.of upd_same) ?_ fun p3 H4 c4 hp3 => ?_
      · rw [List.length_map]
        exact sz (by simp; omega)
      have hi2 : i < 2 := by
        have := (List.getElem?_eq_some_iff.mp hi).1
        cases s <;> simp [blocksOf] at this <;> omega
      refine ⟨_, p ++ [i, 0], rfl, by rw [List.map_append]; exact hp3, ⟨fun n hn => ?_, by rw [List.length_append]; simp; omega⟩, fun H5 c5 => q H5 ((c13.thenNew hpp).trans (c4.trans c5))⟩
      rcases List.mem_append.mp hn with hn | hn
      · have := b1 n hn; omega
      · simp at hn; omega
    · rw [if_neg (by omega)]
      rw [if_neg h0] at q
      have hu3 := hu.chg c3
      obtain ⟨p4, xs4, rfl, _, _⟩ : ∃ p xs, u = .ref p ∧ SqT K H3 p xs ∧ True := by
        cases s <;> (obtain ⟨p, xs, rfl, h0, _⟩ := DatAt.tup_inv hu3; exact ⟨p, xs, rfl, h0, trivial⟩)
      obtain ⟨w4, r4, h4, hw4⟩ := isW_word (xs := xs4) hu3
      walk_at "a0"
      refine ixT h4 (atI_cast (j := 0) rfl rfl) ?_
      walk_at "a0"
      by_cases hw5 : w4 = Str.ofString "while"
      · rw [if_pos hw5]
        rw [if_pos (hw4.mp hw5)] at q
        exact q _ c13
      · rw [if_neg hw5]
        rw [if_neg (fun z => hw5 (hw4.mpr z))] at q
        exact ⟨_, _, _, _, _, _, _, rfl, hG.chg c13, hp, (c2.trans c3).sqT ht, hB, hst, by omega, fun H4 c4 => q H4 (c13.trans c4)⟩
end
end Cc
set_option maxRecDepth 100000
set_option maxHeartbeats 2000000
/-! The machine in the heap. -/
namespace Cc
open PySem PySem.Spec PyProof.Rows L2

/-! ### well-formed programs -/
def Sml (i : Int) : Prop := -10000 ≤ i ∧ i ≤ 10000
def exDep : Ex → Nat
  | .op _ l r => 1 + max (exDep l) (exDep r)
  | _ => 0
def cdDep : Cd → Nat
  | .cmp _ _ _ => 0
  | .neg c => 1 + cdDep c
  | .bin _ l r => 1 + max (cdDep l) (cdDep r)
def okE (V : List Str) : Ex → Prop
  | .num i => Sml i
  | .nm n => n ∈ V
  | .op s l r => (s = "+" ∨ s = "-" ∨ s = "*" ∨ s = "/" ∨ s = "mod") ∧ okE V l ∧ okE V r
def okC (V : List Str) : Cd → Prop
  | .cmp _ l r => okE V l ∧ okE V r ∧ exDep l < 8 ∧ exDep r < 8
  | .neg c => okC V c
  | .bin _ l r => okC V l ∧ okC V r
def okEx (V : List Str) (e : Ex) : Prop := okE V e ∧ exDep e < 8
def okCd (V : List Str) (c : Cd) : Prop := okC V c ∧ cdDep c < 8
def okS (G : Pg) (V : List Str) : Sm → Prop
  | .set n e => n ∈ V ∧ okEx V e
  | .ask n => n ∈ V
  | .tell e => okEx V e
  | .ret e => okEx V e
  | .chk c => okCd V c
  | .need c => okCd V c
  | .ite c _ _ => okCd V c
  | .whl c _ => okCd V c
  | .call q es t => (∃ pq, procOf G q = some pq ∧ es.length = pq.params.length) ∧ (∀ e ∈ es, okEx V e) ∧ ∀ n, t = some n → n ∈ V
structure WF (G : Pg) : Prop where
  b : PgB G
  ok : ∀ p ∈ G.procs, ∀ s ∈ allB p.body, okS G (varsOf G p.name) s
  nd : (G.procs.map (·.name)).Nodup
  few : G.procs.length ≤ 5
  d3 : ∀ p ∈ G.procs, depB p.body < 3
  pn : ∀ p ∈ G.procs, p.params.Nodup
  main : ∃ p, procOf G "main" = some p ∧ p.params = []

/-! ### dicts of numbers -/
def Rep (kvs : List (Key × V)) (dom : List Str) (f : Sto) : Prop := kvs.length ≤ 200 ∧ ∀ n, valV kvs (Sum.inr n) = if n ∈ dom then some (.int (f n)) else none
theorem Rep.get {kvs : List (Key × V)} {dom : List Str} {f : Sto} (h : Rep kvs dom f) {n : Str} (m : n ∈ dom) : valV kvs (Sum.inr n) = some (.int (f n)) := by rw [h.2, if_pos m]
theorem Rep.not {kvs : List (Key × V)} {dom : List Str} {f : Sto} (h : Rep kvs dom f) {n : Str} (m : n ∉ dom) : valV kvs (Sum.inr n) = none := by rw [h.2, if_neg m]
theorem putK_len {kvs : List (Key × V)} {k : Key} {v : V} (h : (valV kvs k).isSome = true) : (putK kvs k v).length = kvs.length := by
  unfold putK
  rw [valV_any, if_pos h, List.length_map]
theorem Rep.put {kvs : List (Key × V)} {dom : List Str} {f : Sto} (h : Rep kvs dom f) {n : Str} (m : n ∈ dom) (v : Int) : Rep (putK kvs (Sum.inr n) (.int v)) dom (upf f n v) := by
  refine ⟨by rw [putK_len (by rw [h.get m]; rfl)]; exact h.1, fun j => ?_⟩
  rw [valV_put]
  by_cases e : j = n
  · subst e; rw [if_pos rfl, if_pos m, upf, if_pos rfl]
  · rw [if_neg (fun z => e (Sum.inr.inj z)), h.2, upf, if_neg e]

/-! ### the machine's things -/
structure RA where
  r : Addr
  dx : Addr
  pv : V
  iv : Addr
  nd : Addr
  td : Addr
  sd : Addr
  shd : Addr
  fl : Addr
structure FO where
  fa : Addr
  dx : Addr
  kd : Addr
  kvs : List (Key × V)
def runL (pv : V) (iv nd : Addr) (u : V) (td sd sh fl : Addr) (e : V) : List (Str × V) := [("program", pv), ("inputs", .ref iv), ("names", .ref nd), ("used", u), ("told", .ref td), ("steps", .ref sd), ("shared", .ref sh), ("frames", .ref fl), ("ending", e)]
def frL (n : Str) (p : Str) (kd : Addr) (t : V) : List (Str × V) := [("name", .str n), ("place", .str p), ("kept", .ref kd), ("target", t)]
def runC (C : Addr) (A : RA) (u : Nat) (e : V) : HO := .ins C A.dx (runL A.pv A.iv A.nd (.int u) A.td A.sd A.shd A.fl e)
def frC (C : Addr) (o : FO) (f : Fr) : HO := .ins C o.dx (frL f.name (placeT f.place) o.kd (optV f.target))
def fCells (C : Addr) : List (FO × Fr) → List (Addr × HO)
  | [] => []
  | (o, f) :: r => (o.fa, frC C o f) :: (o.kd, .dK o.kvs) :: fCells C r
def flist (l : List (FO × Fr)) : List V := (l.map fun x => V.ref x.1.fa).reverse
def cells (a : Nat → Addr) (A : RA) (told : List Int) (u : Nat) (e : V) (sv : List V) (skvs : List (Key × V)) (l : List (FO × Fr)) : List (Addr × HO) :=
  (A.r, runC (a 26) A u e) :: (A.td, .lst (told.map V.int)) :: (A.sd, .lst sv) :: (A.shd, .dK skvs) :: (A.fl, .lst (flist l)) :: fCells (a 25) l
def fAdr : List (FO × Fr) → List Addr
  | [] => []
  | (o, _) :: r => o.fa :: o.kd :: fAdr r
def muts (A : RA) (l : List (FO × Fr)) : List Addr := A.r :: A.td :: A.sd :: A.shd :: A.fl :: fAdr l
theorem fAdr_cons {o : FO} {f : Fr} {r : List (FO × Fr)} : fAdr ((o, f) :: r) = o.fa :: o.kd :: fAdr r := rfl
theorem fCells_cons {C : Addr} {o : FO} {f : Fr} {r : List (FO × Fr)} : fCells C ((o, f) :: r) = (o.fa, frC C o f) :: (o.kd, .dK o.kvs) :: fCells C r := rfl
theorem fCells_fst (C : Addr) : ∀ l : List (FO × Fr), (fCells C l).map (·.1) = fAdr l
  | [] => rfl
  | (o, f) :: r => by rw [fCells, List.map_cons, List.map_cons, fCells_fst C r, fAdr]
theorem fCells_plain (C : Addr) : ∀ l : List (FO × Fr), ∀ p ∈ fCells C l, Plain p.2
  | [], p, h => nomatch h
  | (o, f) :: r, p, h => by
    rcases List.mem_cons.mp h with e | h
    · rw [e]; trivial
    rcases List.mem_cons.mp h with e | h
    · rw [e]; trivial
    · exact fCells_plain C r p h
theorem cells_fst {a : Nat → Addr} {A : RA} {told : List Int} {u : Nat} {e : V} {sv : List V} {skvs : List (Key × V)} {l : List (FO × Fr)} : (cells a A told u e sv skvs l).map (·.1) = muts A l := by
  unfold cells muts
  simp only [List.map_cons, fCells_fst]
theorem cells_plain {a : Nat → Addr} {A : RA} {told : List Int} {u : Nat} {e : V} {sv : List V} {skvs : List (Key × V)} {l : List (FO × Fr)} : ∀ p ∈ cells a A told u e sv skvs l, Plain p.2 := by
  intro p h
  unfold cells at h
  simp only [List.mem_cons] at h
  rcases h with e | e | e | e | e | h
  all_goals first | (rw [e]; trivial) | exact fCells_plain _ _ p h
theorem plain_nt : ∀ {o : HO}, Plain o → NT o
  | .tbl _, h => h
  | .lst _, _ => trivial
  | .tup _, h => h.elim
  | .dK _, _ => trivial
  | .dT _, _ => trivial
  | .set _ _, _ => trivial
  | .ins _ _ _, _ => trivial
  | .own _, _ => trivial
  | .xd _, _ => trivial
  | .met _ _, _ => trivial
  | .rng _ _, _ => trivial
  | .frz _ _, h => h.elim
  | .ext _, _ => trivial
def EndAt (K : PySem.W.Frag) (H : Hp) : Option D → V → Prop
  | none, e => e = .non
  | some d, e => DatAt K H d e ∧ e ≠ .non
structure RunX (K : PySem.W.Frag) (a : Nat → Addr) (H0 H : Hp) (G : Pg) (I : List Int) (A : RA) (c : Cf) (e : V) (sv : List V) (skvs : List (Key × V)) (l : List (FO × Fr)) : Prop where
  at_ : ∀ p ∈ cells a A c.told c.used e sv skvs l, H p.1 = some p.2
  nd : (muts A l).Nodup
  fs : c.fs = l.map (·.2)
  sh : Rep skvs G.shared c.sh
  kp : ∀ x ∈ l, Rep x.1.kvs (locOf G x.2.name) x.2.kept
  st : DatsAt K H c.steps sv
  en : EndAt K H c.ending e
  nm : ∃ nkvs, H A.nd = some (.dK nkvs) ∧ ∀ pr ∈ G.procs, ∃ t, valV nkvs (Sum.inr pr.name) = some (.ref t) ∧ SqT K H t ((varsOf G pr.name).map V.str)
  nn : A.nd ∉ muts A l
  pg : DatAt K H G.d A.pv
  inp : SqT K H A.iv (I.map V.int)
  c0 : Chg [] H0 H
  fr : ∀ b ∈ muts A l, H0 b = none
  t15 : GxR.TabG H (a 1501)
  t16 : GxR.TabG H (a 1601)
theorem at_put {H : Hp} {l1 l2 : List (Addr × HO)} {b : Addr} {o o' : HO} (h : ∀ p ∈ l1 ++ (b, o) :: l2, H p.1 = some p.2) (nd : ((l1 ++ (b, o) :: l2).map (·.1)).Nodup) : ∀ p ∈ l1 ++ (b, o') :: l2, upd H b o' p.1 = some p.2 := by
  intro p hp
  rw [List.map_append, List.map_cons, List.nodup_append] at nd
  obtain ⟨n1, n2, n3⟩ := nd
  obtain ⟨n4, n5⟩ := List.nodup_cons.mp n2
  rcases List.mem_append.mp hp with hp | hp
  · have ne : p.1 ≠ b := fun z => n3 p.1 (List.mem_map_of_mem hp) b (by simp) z
    rw [upd_ne ne]
    exact h p (List.mem_append_left _ hp)
  rcases List.mem_cons.mp hp with e | hp
  · rw [e]; exact upd_same
  · have ne : p.1 ≠ b := fun z => n4 (by rw [← z]; exact List.mem_map_of_mem (f := (·.1)) hp)
    rw [upd_ne ne]
    exact h p (List.mem_append_right _ (List.mem_cons_of_mem _ hp))
section
variable {K : PySem.W.Frag} {a : Nat → Addr} {H0 H H' : Hp} {G : Pg} {I : List Int} {A : RA} {c c' : Cf} {e e' : V} {sv sv' : List V} {skvs skvs' : List (Key × V)} {l l' : List (FO × Fr)}
theorem EndAt.chg {L : List Addr} (k : Chg L H H') : ∀ {d : Option D}, EndAt K H d e → EndAt K H' d e
  | none, h => h
  | some d, h => ⟨h.1.chg k, h.2⟩
theorem nm_chg {L : List Addr} {nd : Addr} (k : Chg L H H') (n : nd ∉ L) : (∃ nkvs, H nd = some (.dK nkvs) ∧ ∀ pr ∈ G.procs, ∃ t, valV nkvs (Sum.inr pr.name) = some (.ref t) ∧ SqT K H t ((varsOf G pr.name).map V.str)) →
    ∃ nkvs, H' nd = some (.dK nkvs) ∧ ∀ pr ∈ G.procs, ∃ t, valV nkvs (Sum.inr pr.name) = some (.ref t) ∧ SqT K H' t ((varsOf G pr.name).map V.str) := by
  rintro ⟨nkvs, h1, h2⟩
  refine ⟨nkvs, k.keep _ _ h1 trivial n, fun pr hp => ?_⟩
  obtain ⟨t, h3, h4⟩ := h2 pr hp
  exact ⟨t, h3, k.sqT h4⟩
/-- things have come -/
theorem RunX.chg (R : RunX K a H0 H G I A c e sv skvs l) (k : Chg [] H H') : RunX K a H0 H' G I A c e sv skvs l where
  at_ := fun p hp => k.get (R.at_ p hp) (plain_nt (cells_plain p hp))
  nd := R.nd
  fs := R.fs
  sh := R.sh
  kp := R.kp
  st := R.st.chg k
  en := R.en.chg k
  nm := nm_chg k (fun z => nomatch z) R.nm
  nn := R.nn
  pg := R.pg.chg k
  inp := k.sqT R.inp
  c0 := R.c0.trans k
  fr := R.fr
  t15 := k.tabs _ R.t15
  t16 := k.tabs _ R.t16
/-- one cell is written -/
theorem RunX.put (R : RunX K a H0 H G I A c e sv skvs l) {b : Addr} {o o' : HO} {l1 l2 : List (Addr × HO)} (e1 : cells a A c.told c.used e sv skvs l = l1 ++ (b, o) :: l2) (e2 : cells a A c'.told c'.used e' sv' skvs' l' = l1 ++ (b, o') :: l2)
    (fs : c'.fs = l'.map (·.2)) (sh : Rep skvs' G.shared c'.sh) (kp : ∀ x ∈ l', Rep x.1.kvs (locOf G x.2.name) x.2.kept) (st : DatsAt K (upd H b o') c'.steps sv') (en : EndAt K (upd H b o') c'.ending e') : RunX K a H0 (upd H b o') G I A c' e' sv' skvs' l' := by
  have hm : muts A l' = muts A l := by
    have z1 := congrArg (List.map (·.1)) e1
    have z2 := congrArg (List.map (·.1)) e2
    rw [cells_fst, List.map_append, List.map_cons] at z1 z2
    rw [z1, z2]
  have hb : (b, o) ∈ cells a A c.told c.used e sv skvs l := by rw [e1]; simp
  have hbm : b ∈ muts A l := by rw [← cells_fst (a := a) (told := c.told) (u := c.used) (e := e) (sv := sv) (skvs := skvs)]; exact List.mem_map_of_mem (f := (·.1)) hb
  have k : Chg [b] H (upd H b o') := Chg.put (R.at_ _ hb) (cells_plain _ hb) (by simp)
  refine ⟨?_, by rw [hm]; exact R.nd, fs, sh, kp, st, en, nm_chg k (fun z => R.nn (by rw [List.mem_singleton.mp z]; exact hbm)) R.nm, by rw [hm]; exact R.nn, R.pg.chg k, k.sqT R.inp, R.c0.own (R.fr b hbm), by rw [hm]; exact R.fr, k.tabs _ R.t15, k.tabs _ R.t16⟩
  rw [e2]
  refine at_put (o := o) ?_ ?_
  · rw [← e1]; exact R.at_
  · rw [← e1, cells_fst]; exact R.nd
theorem RunX.gr (R : RunX K a H0 H G I A c e sv skvs l) : H A.r = some (runC (a 26) A c.used e) := R.at_ (A.r, _) List.mem_cons_self
theorem RunX.gtd (R : RunX K a H0 H G I A c e sv skvs l) : H A.td = some (.lst (c.told.map V.int)) := R.at_ (A.td, _) (by unfold cells; simp)
theorem RunX.gsd (R : RunX K a H0 H G I A c e sv skvs l) : H A.sd = some (.lst sv) := R.at_ (A.sd, _) (by unfold cells; simp)
theorem RunX.gshd (R : RunX K a H0 H G I A c e sv skvs l) : H A.shd = some (.dK skvs) := R.at_ (A.shd, _) (by unfold cells; simp)
theorem RunX.gfl (R : RunX K a H0 H G I A c e sv skvs l) : H A.fl = some (.lst (flist l)) := R.at_ (A.fl, _) (by unfold cells; simp)
theorem RunX.gtop {o : FO} {f : Fr} {r : List (FO × Fr)} (R : RunX K a H0 H G I A c e sv skvs ((o, f) :: r)) : H o.fa = some (frC (a 25) o f) := R.at_ (o.fa, _) (List.mem_cons_of_mem _ (List.mem_cons_of_mem _ (List.mem_cons_of_mem _ (List.mem_cons_of_mem _ (List.mem_cons_of_mem _ List.mem_cons_self)))))
theorem RunX.gkd {o : FO} {f : Fr} {r : List (FO × Fr)} (R : RunX K a H0 H G I A c e sv skvs ((o, f) :: r)) : H o.kd = some (.dK o.kvs) := R.at_ (o.kd, _) (List.mem_cons_of_mem _ (List.mem_cons_of_mem _ (List.mem_cons_of_mem _ (List.mem_cons_of_mem _ (List.mem_cons_of_mem _ (List.mem_cons_of_mem _ List.mem_cons_self))))))
theorem flist_cons {o : FO} {f : Fr} {r : List (FO × Fr)} : flist ((o, f) :: r) = flist r ++ [.ref o.fa] := by
  unfold flist; rw [List.map_cons, List.reverse_cons]
theorem flist_len : (flist l).length = l.length := by unfold flist; rw [List.length_reverse, List.length_map]
/-- told -/
theorem RunX.tell (R : RunX K a H0 H G I A c e sv skvs l) (v : Int) : RunX K a H0 (upd H A.td (.lst (c.told.map V.int ++ [.int v]))) G I A { c with told := c.told ++ [v] } e sv skvs l :=
  R.put (c' := { c with told := c.told ++ [v] }) (l1 := [_]) (b := A.td) rfl (by unfold cells; rw [List.map_append]; rfl) R.fs R.sh R.kp (R.st.chg (Chg.put (L := [A.td]) R.gtd trivial (by simp))) (R.en.chg (Chg.put (L := [A.td]) R.gtd trivial (by simp)))
/-- a step is kept -/
theorem RunX.keepS (R : RunX K a H0 H G I A c e sv skvs l) {d : D} {v : V} (h : DatAt K H d v) : RunX K a H0 (upd H A.sd (.lst (sv ++ [v]))) G I A { c with steps := c.steps ++ [d] } e (sv ++ [v]) skvs l :=
  R.put (c' := { c with steps := c.steps ++ [d] }) (l1 := [_, _]) (b := A.sd) rfl rfl R.fs R.sh R.kp ((R.st.chg (Chg.put (L := [A.sd]) R.gsd trivial (by simp))).append (dats_cons (h.chg (Chg.put (L := [A.sd]) R.gsd trivial (by simp))) dats_nil))
    (R.en.chg (Chg.put (L := [A.sd]) R.gsd trivial (by simp)))
/-- used -/
theorem RunX.use (R : RunX K a H0 H G I A c e sv skvs l) (n : Nat) : RunX K a H0 (upd H A.r (runC (a 26) A n e)) G I A { c with used := n } e sv skvs l :=
  R.put (c' := { c with used := n }) (l1 := []) (b := A.r) rfl rfl R.fs R.sh R.kp (R.st.chg (Chg.put (L := [A.r]) R.gr trivial (by simp))) (R.en.chg (Chg.put (L := [A.r]) R.gr trivial (by simp)))
/-- the ending -/
theorem RunX.endd (R : RunX K a H0 H G I A c e sv skvs l) {d : D} {v : V} (h : DatAt K H d v) (n : v ≠ .non) : RunX K a H0 (upd H A.r (runC (a 26) A c.used v)) G I A { c with ending := some d } v sv skvs l :=
  R.put (c' := { c with ending := some d }) (l1 := []) (b := A.r) rfl rfl R.fs R.sh R.kp (R.st.chg (Chg.put (L := [A.r]) R.gr trivial (by simp))) ⟨h.chg (Chg.put (L := [A.r]) R.gr trivial (by simp)), n⟩
/-- a store in the shared dict -/
theorem RunX.putS (R : RunX K a H0 H G I A c e sv skvs l) {n : Str} (m : n ∈ G.shared) (v : Int) : RunX K a H0 (upd H A.shd (.dK (putK skvs (Sum.inr n) (.int v)))) G I A { c with sh := upf c.sh n v } e sv (putK skvs (Sum.inr n) (.int v)) l :=
  R.put (c' := { c with sh := upf c.sh n v }) (l1 := [_, _, _]) (b := A.shd) rfl rfl R.fs (R.sh.put m v) R.kp (R.st.chg (Chg.put (L := [A.shd]) R.gshd trivial (by simp))) (R.en.chg (Chg.put (L := [A.shd]) R.gshd trivial (by simp)))
/-- a store in the top's dict -/
theorem RunX.putK' {o : FO} {f : Fr} {r : List (FO × Fr)} (R : RunX K a H0 H G I A c e sv skvs ((o, f) :: r)) {n : Str} (m : n ∈ locOf G f.name) (v : Int) :
    RunX K a H0 (upd H o.kd (.dK (putK o.kvs (Sum.inr n) (.int v)))) G I A { c with fs := { f with kept := upf f.kept n v } :: r.map (·.2) } e sv skvs (({ o with kvs := putK o.kvs (Sum.inr n) (.int v) }, { f with kept := upf f.kept n v }) :: r) :=
  R.put (c' := { c with fs := { f with kept := upf f.kept n v } :: r.map (·.2) }) (l1 := [_, _, _, _, _, _]) (b := o.kd) rfl (by unfold cells; rw [flist_cons, flist_cons]; rfl) rfl R.sh (fun x hx => by
    rcases List.mem_cons.mp hx with z | hx
    · rw [z]; exact (R.kp _ List.mem_cons_self).put m v
    · exact R.kp x (List.mem_cons_of_mem _ hx)) (R.st.chg (Chg.put (L := [o.kd]) R.gkd trivial (by simp))) (R.en.chg (Chg.put (L := [o.kd]) R.gkd trivial (by simp)))
/-- the top's place -/
theorem RunX.go {o : FO} {f : Fr} {r : List (FO × Fr)} (R : RunX K a H0 H G I A c e sv skvs ((o, f) :: r)) (p : Option (List Nat)) :
    RunX K a H0 (upd H o.fa (frC (a 25) o { f with place := p })) G I A { c with fs := { f with place := p } :: r.map (·.2) } e sv skvs ((o, { f with place := p }) :: r) :=
  R.put (c' := { c with fs := { f with place := p } :: r.map (·.2) }) (l1 := [_, _, _, _, _]) (b := o.fa) rfl (by unfold cells; rw [flist_cons, flist_cons]; rfl) rfl R.sh (fun x hx => by
    rcases List.mem_cons.mp hx with z | hx
    · rw [z]; exact R.kp (o, f) List.mem_cons_self
    · exact R.kp x (List.mem_cons_of_mem _ hx)) (R.st.chg (Chg.put (L := [o.fa]) R.gtop trivial (by simp))) (R.en.chg (Chg.put (L := [o.fa]) R.gtop trivial (by simp)))
/-- a frame comes -/
theorem RunX.push (R : RunX K a H0 H G I A c e sv skvs l) {o : FO} {f : Fr} (h1 : H o.fa = some (frC (a 25) o f)) (h2 : H o.kd = some (.dK o.kvs)) (n1 : o.fa ∉ muts A l) (n2 : o.kd ∉ muts A l) (n3 : o.fa ≠ o.kd) (z1 : H0 o.fa = none) (z2 : H0 o.kd = none)
    (d1 : A.nd ≠ o.fa) (d2 : A.nd ≠ o.kd) (kp : Rep o.kvs (locOf G f.name) f.kept) : RunX K a H0 (upd H A.fl (.lst (flist l ++ [.ref o.fa]))) G I A { c with fs := f :: c.fs } e sv skvs ((o, f) :: l) := by
  have k : Chg [A.fl] H (upd H A.fl (.lst (flist l ++ [.ref o.fa]))) := Chg.put R.gfl trivial (by simp)
  have hfl : A.fl ∈ muts A l := by unfold muts; simp
  have base := at_put (l1 := [_, _, _, _]) (b := A.fl) (o' := .lst (flist l ++ [.ref o.fa])) (l2 := fCells (a 25) l) (show ∀ p ∈ [_, _, _, _] ++ (A.fl, _) :: fCells (a 25) l, H p.1 = some p.2 from R.at_) (by
    have z := R.nd
    rw [← cells_fst (a := a) (told := c.told) (u := c.used) (e := e) (sv := sv) (skvs := skvs)] at z
    exact z)
  refine ⟨fun p hp => ?_, ?_, by rw [List.map_cons, ← R.fs], R.sh, fun x hx => ?_, R.st.chg k, R.en.chg k, nm_chg k (fun z => R.nn (by rw [List.mem_singleton.mp z]; exact hfl)) R.nm, ?_, R.pg.chg k, k.sqT R.inp, R.c0.own (R.fr _ hfl), fun b hb => ?_, k.tabs _ R.t15, k.tabs _ R.t16⟩
  · unfold cells fCells at hp
    rw [flist_cons] at hp
    by_cases q : p ∈ ([(A.r, runC (a 26) A c.used e), (A.td, HO.lst (c.told.map V.int)), (A.sd, HO.lst sv), (A.shd, HO.dK skvs)] ++ (A.fl, HO.lst (flist l ++ [.ref o.fa])) :: fCells (a 25) l)
    · exact base p q
    · have : p = (o.fa, frC (a 25) o f) ∨ p = (o.kd, HO.dK o.kvs) := by
        simp only [List.mem_cons, List.mem_append, List.not_mem_nil, or_false, not_or] at hp q
        rcases hp with e | e | e | e | e | e | e | e
        · exact absurd e q.1.1
        · exact absurd e q.1.2.1
        · exact absurd e q.1.2.2.1
        · exact absurd e q.1.2.2.2
        · exact absurd e q.2.1
        · exact .inl e
        · exact .inr e
        · exact absurd e q.2.2
      rcases this with rfl | rfl
      · exact k.keep _ _ h1 trivial (fun z => n1 ((List.mem_singleton.mp z : o.fa = A.fl) ▸ hfl))
      · exact k.keep _ _ h2 trivial (fun z => n2 ((List.mem_singleton.mp z : o.kd = A.fl) ▸ hfl))
  · have z := R.nd
    unfold muts at z n1 n2 ⊢
    simp only [fAdr_cons, List.nodup_cons, List.mem_cons, not_or] at z n1 n2 ⊢
    obtain ⟨⟨a1, a2, a3, a4, a5⟩, ⟨b1, b2, b3, b4⟩, ⟨e1, e2, e3⟩, ⟨g1, g2⟩, i1, i2⟩ := z
    obtain ⟨m1, m2, m3, m4, m5, m6⟩ := n1
    obtain ⟨p1, p2, p3, p4, p5, p6⟩ := n2
    exact ⟨⟨a1, a2, a3, a4, Ne.symm m1, Ne.symm p1, a5⟩, ⟨b1, b2, b3, Ne.symm m2, Ne.symm p2, b4⟩, ⟨e1, e2, Ne.symm m3, Ne.symm p3, e3⟩, ⟨g1, Ne.symm m4, Ne.symm p4, g2⟩, ⟨Ne.symm m5, Ne.symm p5, i1⟩, ⟨n3, m6⟩, p6, i2⟩
  · rcases List.mem_cons.mp hx with z | hx
    · rw [z]; exact kp
    · exact R.kp x hx
  · have z := R.nn
    unfold muts at z ⊢
    simp only [fAdr_cons, List.mem_cons, not_or] at z ⊢
    exact ⟨z.1, z.2.1, z.2.2.1, z.2.2.2.1, z.2.2.2.2.1, d1, d2, z.2.2.2.2.2⟩
  · have z := R.fr
    unfold muts at z hb
    simp only [fAdr_cons, List.mem_cons] at z hb
    rcases hb with e | e | e | e | e | e | e | e
    · exact z b (.inl e)
    · exact z b (.inr (.inl e))
    · exact z b (.inr (.inr (.inl e)))
    · exact z b (.inr (.inr (.inr (.inl e))))
    · exact z b (.inr (.inr (.inr (.inr (.inl e)))))
    · rw [e]; exact z1
    · rw [e]; exact z2
    · exact z b (.inr (.inr (.inr (.inr (.inr e)))))
/-- the top goes -/
theorem RunX.pop {o : FO} {f : Fr} {r : List (FO × Fr)} (R : RunX K a H0 H G I A c e sv skvs ((o, f) :: r)) : RunX K a H0 (upd H A.fl (.lst (flist r))) G I A { c with fs := r.map (·.2) } e sv skvs r := by
  have k : Chg [A.fl] H (upd H A.fl (.lst (flist r))) := Chg.put R.gfl trivial (by simp)
  have hfl : A.fl ∈ muts A ((o, f) :: r) := by unfold muts; simp
  have base := at_put (l1 := [_, _, _, _]) (b := A.fl) (o' := .lst (flist r)) (l2 := fCells (a 25) ((o, f) :: r)) (show ∀ p ∈ [_, _, _, _] ++ (A.fl, _) :: fCells (a 25) ((o, f) :: r), H p.1 = some p.2 from R.at_) (by
    have z := R.nd
    rw [← cells_fst (a := a) (told := c.told) (u := c.used) (e := e) (sv := sv) (skvs := skvs)] at z
    exact z)
  have sub : ∀ b ∈ muts A r, b ∈ muts A ((o, f) :: r) := fun b hb => by
    unfold muts
    unfold muts at hb
    simp only [fAdr_cons, List.mem_cons] at hb ⊢
    rcases hb with e | e | e | e | e | e <;> simp [e]
  refine ⟨fun p hp => base p ?_, ?_, rfl, R.sh, fun x hx => R.kp x (List.mem_cons_of_mem _ hx), R.st.chg k, R.en.chg k, nm_chg k (fun z => R.nn (by rw [List.mem_singleton.mp z]; exact hfl)) R.nm, fun z => R.nn (sub _ z), R.pg.chg k, k.sqT R.inp, R.c0.own (R.fr _ hfl), fun b hb => R.fr b (sub b hb), k.tabs _ R.t15, k.tabs _ R.t16⟩
  · unfold cells at hp
    rw [fCells_cons]
    simp only [List.mem_cons, List.mem_append, List.not_mem_nil, or_false] at hp ⊢
    rcases hp with e | e | e | e | e | e <;> simp [e]
  · have z := R.nd
    unfold muts at z
    unfold muts
    simp only [fAdr_cons, List.nodup_cons, List.mem_cons, not_or] at z ⊢
    obtain ⟨⟨a1, a2, a3, a4, _, _, a5⟩, ⟨b1, b2, b3, _, _, b4⟩, ⟨e1, e2, _, _, e3⟩, ⟨g1, _, _, g2⟩, ⟨_, _, i1⟩, _, _, i2⟩ := z
    exact ⟨⟨a1, a2, a3, a4, a5⟩, ⟨b1, b2, b3, b4⟩, ⟨e1, e2, e3⟩, ⟨g1, g2⟩, i1, i2⟩
end

/-! ### words for fields, dicts -/
def fldR (K : PySem.W.Frag) (f : Str) (x : V) (H : Hp) (Q : VK) : Prop := ∃ a C dx fs v, x = .ref a ∧ H a = some (.ins C dx fs) ∧ Cls K C ∧ NoAttr K C f ∧ fs.lookup f = some v ∧ Q v H
theorem tFld_eq {K : PySem.W.Frag} {ta : TE} {f : Str} {σ : L2.St} {H : Hp} {Q : VK} : tFld K ta f σ H Q = ta σ H fun x H1 => fldR K f x H1 Q := rfl
theorem fldI {K : PySem.W.Frag} {f : Str} {r C dx : Addr} {fs : List (Str × V)} {v : V} {H : Hp} {Q : VK} (h : H r = some (.ins C dx fs)) (c : Cls K C) (n : NoAttr K C f) (l : fs.lookup f = some v) (q : Q v H) : fldR K f (.ref r) H Q := ⟨r, C, dx, fs, v, rfl, h, c, n, l, q⟩
def fldW (K : PySem.W.Frag) (f : Str) (x y : V) (H : Hp) (Q : Hp → Prop) : Prop := ∃ a C dx fs, x = .ref a ∧ H a = some (.ins C dx fs) ∧ Cls K C ∧ NoAttr K C f ∧ fs.length < 1000 ∧ Q (upd H a (.ins C dx (putF f y fs)))
theorem sFld_eq {K : PySem.W.Frag} {ta tv : TE} {f : Str} {D : Ends} {σ : L2.St} {H : Hp} : sFld K ta tv f D σ H = tv σ H fun y H1 => ta σ H1 fun x H2 => fldW K f x y H2 fun H3 => D.nx σ H3 := rfl
theorem fldWI {K : PySem.W.Frag} {f : Str} {r C dx : Addr} {fs gs : List (Str × V)} {y : V} {H : Hp} {Q : Hp → Prop} (h : H r = some (.ins C dx fs)) (c : Cls K C) (n : NoAttr K C f) (l : fs.length < 1000) (e : putF f y fs = gs) (q : Q (upd H r (.ins C dx gs))) : fldW K f (.ref r) y H Q := by
  subst e; exact ⟨r, C, dx, fs, rfl, h, c, n, l, q⟩
def metR (C : Addr) (m : Str) (x : V) (H : Hp) (R : Prop) : Prop := ∃ a dx fs, x = .ref a ∧ H a = some (.ins C dx fs) ∧ fs.lookup m = none ∧ R
theorem tMeth_eq {C : Addr} {m : Str} {sp : Sp} {dvs : List V} {E : XK} {ta : TE} {t : TA} {σ : L2.St} {H : Hp} {Q : VK} : tMeth C m sp dvs E ta t σ H Q = ta σ H fun x H1 => metR C m x H1 (t σ H1 fun vs H2 => sp (x :: (vs ++ dvs)) H2 Q E) := rfl
theorem tMethS_eq {C : Addr} {m : Str} {sp : Sp} {E : L2.St → XK} {ta : TE} {t : TA} {σ : L2.St} {H : Hp} {Q : VK} : CgM.tMethS C m sp E ta t σ H Q = ta σ H fun x H1 => metR C m x H1 (t σ H1 fun vs H2 => sp (x :: vs) H2 Q (E σ)) := rfl
theorem metI {r C dx : Addr} {m : Str} {fs : List (Str × V)} {H : Hp} {R : Prop} (h : H r = some (.ins C dx fs)) (l : fs.lookup m = none) (q : R) : metR C m (.ref r) H R := ⟨r, dx, fs, rfl, h, l, q⟩
def dgR (x y : V) (H : Hp) (Q : VK) : Prop := ∃ a v, x = .ref a ∧ DGet H a y (some v) ∧ Q v H
theorem tDGet_eq {td ty : TE} {σ : L2.St} {H : Hp} {Q : VK} : tDGet td ty σ H Q = td σ H fun x H1 => ty σ H1 fun y H2 => dgR x y H2 Q := rfl
theorem dgI {d : Addr} {kvs : List (Key × V)} {n : Str} {v : V} {H : Hp} {Q : VK} (h : H d = some (.dK kvs)) (e : valV kvs (Sum.inr n) = some v) (q : Q v H) : dgR (.ref d) (.str n) H Q := ⟨d, v, rfl, .inl ⟨kvs, .inr n, .inl h, rfl, e.symm⟩, q⟩
def diR (y x : V) (H : Hp) (Q : VK) : Prop := ∃ a o, x = .ref a ∧ DGet H a y o ∧ Q (.bl o.isSome) H
theorem tDIn_eq {td ty : TE} {σ : L2.St} {H : Hp} {Q : VK} : tDIn ty td σ H Q = ty σ H fun y H1 => td σ H1 fun x H2 => diR y x H2 Q := rfl
theorem diI {d : Addr} {kvs : List (Key × V)} {n : Str} {H : Hp} {Q : VK} (h : H d = some (.dK kvs)) (q : Q (.bl (valV kvs (Sum.inr n)).isSome) H) : diR (.str n) (.ref d) H Q := ⟨d, _, rfl, .inl ⟨kvs, .inr n, .inl h, rfl, rfl⟩, q⟩
def dpW (x y v : V) (H : Hp) (Q : Hp → Prop) : Prop := ∃ a H4, x = .ref a ∧ DPut H a y v H4 ∧ Q H4
theorem sDPut_eq {td ty tv : TE} {D : Ends} {σ : L2.St} {H : Hp} : sDPut td ty tv D σ H = tv σ H fun v H1 => td σ H1 fun x H2 => ty σ H2 fun y H3 => dpW x y v H3 fun H4 => D.nx σ H4 := rfl
theorem dpI {d : Addr} {kvs : List (Key × V)} {n : Str} {v : V} {H : Hp} {Q : Hp → Prop} (h : H d = some (.dK kvs)) (z : kvs.length < sizeLine) (q : Q (upd H d (.dK (putK kvs (Sum.inr n) v)))) : dpW (.ref d) (.str n) v H Q := ⟨d, _, rfl, .inl ⟨kvs, .inr n, h, rfl, z, rfl⟩, q⟩
section
variable {X : Cx} {K : PySem.W.Frag} {e o : Expr} {f : Str} {pos pos' : Pos} {ta tv : TE} {value : Expr}
theorem pe_fldK (h : X.K = K) (he : PE X e ta) (hb : attributeBase e f X.env (eval e X.env) = eval e X.env) : PE X (.Attribute e f pos) (tFld K ta f) := by subst h; exact pe_fld he hb
end
end Cc
set_option maxRecDepth 100000
set_option maxHeartbeats 4000000
/-! operate, compare, values -/
namespace Cc
open PySem PySem.Spec PyProof.Rows L2
theorem scs27 : FnScope ["sign", "left", "right", "result"] ["sign", "left", "right"] (defScope (dst 27)) := ⟨rfl, rfl, rfl, by decide +kernel, rfl, by decide +kernel, by decide +kernel⟩
def FailE (a : Nat → Addr) (E : XK) (H : Hp) (k : Str) : Prop := ∀ d H', Chg [] H H' → H' d = some (.xd [(("kind" : Str), .str k)]) → E (.ref (a 24)) (some d) H'
theorem FailE.chg {a : Nat → Addr} {E : XK} {H H' : Hp} {k : Str} (h : FailE a E H k) (c : Chg [] H H') : FailE a E H' k := fun d H2 c2 e => h d H2 (c.trans c2) e
def sp27 (a : Nat → Addr) : Sp := fun vs H Q E => ∃ (s : Str) (x y : Int), vs = [.str s, .int x, .int y] ∧ (s = "+" ∨ s = "-" ∨ s = "*" ∨ s = "/" ∨ s = "mod") ∧ Sml x ∧ Sml y ∧ (∀ v, operI s x y = .ok v → ∀ H', Chg [] H H' → Q (.int v) H') ∧ ∀ k, operI s x y = .error k → FailE a E H k
section
variable {P : Program} {w : World} {K : PySem.W.Frag} {mg : Str → Option Value} {base : Heap} {a : Nat → Addr} {fd : Nat → FuncData}
theorem ok27 (T : Tx P K mg base a fd) : FnOk P w K mg base (L2.CX P w) 10 (a 27) (fd 27) ["sign", "left", "right"] (sp27 a) := by
  refine T.D27.fn.okX scs27 (fun vs H Q E h => ?_) (fun cdv A outer s H vs Q E hr h => ⟨_, (pss_cons (ps_if (PW.pt (pw_and (pt_cmpR (inK (K := K) rfl) (pv 0) (pe_tup (pa_cons pe_str (pa_cons pe_str pa_nil))) (by rfl)) (pw_and1 (pt_cmpR op_eq (pv 2) pe_int (nomark _))))) (pss_one (CgF.ps_raiseFail rfl T.fail hr (takes_of rfl rfl rfl rfl) (pa_cons pe_str pa_nil))) pss_nil)
      (pss_cons (ps_if (pt_cmpR op_eq (pv 0) pe_str (nomark _)) (pss_one (ps_set (i := 3) scs27.nd rfl (Or.inl rfl) (pe_op op_add (pv 1) (pv 2)))) (pss_one (ps_if (pt_cmpR op_eq (pv 0) pe_str (nomark _)) (pss_one (ps_set (i := 3) scs27.nd rfl (Or.inl rfl) (pe_op op_sub (pv 1) (pv 2)))) (pss_one (ps_if (pt_cmpR op_eq (pv 0) pe_str (nomark _)) (pss_one (ps_set (i := 3) scs27.nd rfl (Or.inl rfl) (pe_op op_mul (pv 1) (pv 2)))) (pss_cons (ps_set (i := 3) scs27.nd rfl (Or.inl rfl) (pe_op op_fdivN (pe_callTy call_int1 (by rfl) T.n_int PyProof.Rows.Boot.«int» (pa_cons (pv 1) pa_nil)) (pv 2)))
      (pss_one (ps_if (pt_cmpR op_eq (pv 0) pe_str (nomark _)) (pss_one (ps_set (i := 3) scs27.nd rfl (Or.inl rfl) (pe_op op_sub (pv 1) (pe_op op_mul (pv 3) (pv 2))))) pss_nil))))))))
      (pss_cons (ps_if (pt_not (pt_chain op_le op_le (pe_un un_neg (pe_gI rfl T.cLARGEST)) (pv 3) (pe_gI rfl T.cLARGEST))) (pss_one (CgF.ps_raiseFail rfl T.fail hr (takes_of rfl rfl rfl rfl) (pa_cons pe_str pa_nil))) pss_nil)
      (pss_one (ps_ret (pv 3)))))), ?_⟩)
  · obtain ⟨s, x, y, rfl, _⟩ := h
    rfl
  · obtain ⟨s, x, y, rfl, hs, hx, hy, q, qe⟩ := h
    have leaf : ∀ (r : Int) (H1 : Hp), Chg [] H H1 → arith s x y = r → ¬ ((s = "/" ∨ s = "mod") ∧ y = 0) →
        (if -10000 ≤ r then if (!decide (r ≤ 10000)) = true then ∀ d, H1 d = none → E (Value.ref (a 24)) (some d) (upd H1 d (.xd [(Str.ofString "kind", V.str (Str.ofString "overflow"))])) else Q (V.int r) H1
        else ∀ d, H1 d = none → E (Value.ref (a 24)) (some d) (upd H1 d (.xd [(Str.ofString "kind", V.str (Str.ofString "overflow"))]))) := by
      intro r H1 c1 hr hn
      have ov : ¬ (-10000 ≤ r ∧ r ≤ 10000) → operI s x y = .error "overflow" := fun z => by
        unfold operI; rw [if_neg hn, hr, if_neg z]
      have ok : (-10000 ≤ r ∧ r ≤ 10000) → operI s x y = .ok r := fun z => by
        unfold operI; rw [if_neg hn, hr, if_pos z]
      by_cases h1 : -10000 ≤ r
      · rw [if_pos h1]
        by_cases h2 : r ≤ 10000
        · rw [if_neg (by simp [h2])]
          exact q _ (ok ⟨h1, h2⟩) _ c1
        · rw [if_pos (by simp [h2])]
          exact fun d hd => qe _ (ov fun z => h2 z.2) d _ (c1.thenNew hd) upd_same
      · rw [if_neg h1]
        exact fun d hd => qe _ (ov fun z => h1 z.1) d _ (c1.thenNew hd) upd_same
    have dv : (s = "/" ∨ s = "mod") → y = 0 → ∀ H1, Chg [] H H1 → ∀ d, H1 d = none → E (Value.ref (a 24)) (some d) (upd H1 d (.xd [(Str.ofString "kind", V.str (Str.ofString "division"))])) := fun z1 z2 H1 c1 d hd =>
      qe _ (by unfold operI; rw [if_pos ⟨z1, z2⟩]) d _ (c1.thenNew hd) upd_same
    have mul : ∀ u v : Int, Sml u → CMul u v := fun u v h => by
      unfold Sml at h; unfold CMul; omega
    have div : y ≠ 0 → CDivN x y := fun h => ⟨h, by unfold Sml at hy; omega⟩
    rcases hs with rfl | rfl | rfl | rfl | rfl
    · walk_at "a7"
      exact leaf _ _ (Chg.new hpp) rfl (fun z => absurd z.1 (by decide))
    · walk_at "a7"
      exact leaf _ _ (Chg.new hpp) rfl (fun z => absurd z.1 (by decide))
    · walk_at "a7"
      exact ⟨mul _ _ hx, leaf _ _ (Chg.new hpp) rfl (fun z => absurd z.1 (by decide))⟩
    · walk_at "a7"
      by_cases h0 : y = 0
      · rw [if_pos h0]
        exact dv (.inl rfl) h0 _ (Chg.new hpp)
      · rw [if_neg h0]
        exact ⟨div h0, leaf _ _ (Chg.new hpp) rfl (fun z => h0 z.2)⟩
    · walk_at "a7"
      by_cases h0 : y = 0
      · rw [if_pos h0]
        exact dv (.inr rfl) h0 _ (Chg.new hpp)
      · rw [if_neg h0]
        refine ⟨div h0, ?_, leaf _ _ (Chg.new hpp) rfl (fun z => h0 z.2)⟩
        have h1 := Int.natAbs_fdiv_le_natAbs x y
        unfold Sml at hx; unfold CMul; omega
end
end Cc
set_option maxRecDepth 100000
set_option maxHeartbeats 4000000
/-! compare, values, results -/
namespace Cc
open PySem PySem.Spec PyProof.Rows L2
theorem scs28 : FnScope ["relation", "left", "right"] ["relation", "left", "right"] (defScope (dst 28)) := ⟨rfl, rfl, rfl, by decide +kernel, rfl, by decide +kernel, by decide +kernel⟩
def sp28 : Sp := fun vs H Q _ => ∃ (r : Str) (x y : Int), vs = [.str r, .int x, .int y] ∧ Q (.bl (cmpI r x y)) H
section
variable {P : Program} {w : World} {K : PySem.W.Frag} {mg : Str → Option Value} {base : Heap} {a : Nat → Addr} {fd : Nat → FuncData}
theorem ok28 (T : Tx P K mg base a fd) : FnOk P w K mg base CX0 1 (a 28) (fd 28) ["relation", "left", "right"] sp28 := by
  refine T.D28.fn.ok scs28 (fun vs H Q E h => ?_) (fun cdv A outer s H vs Q E hr h => ⟨_, (pss_cons (ps_if (pt_cmpR op_eq (pv 0) pe_str (nomark _)) (pss_one (ps_ret (pe_cmpR op_lt (pv 1) (pv 2) (nomark _)))) pss_nil)
      (pss_cons (ps_if (pt_cmpR op_eq (pv 0) pe_str (nomark _)) (pss_one (ps_ret (pe_cmpR op_le (pv 1) (pv 2) (nomark _)))) pss_nil)
      (pss_one (ps_ret (pe_cmpR op_eq (pe_cmpR op_eq (pv 1) (pv 2) (nomark _)) (pe_cmpR op_eq (pv 0) pe_str (nomark _)) (nomark _)))))), ?_⟩)
  · obtain ⟨r, x, y, rfl, _⟩ := h
    rfl
  · obtain ⟨r, x, y, rfl, q⟩ := h
    walk_at "a8"
    unfold cmpI at q
    split
    · rename_i e; rw [if_pos e] at q; exact q
    · rename_i e; rw [if_neg e] at q
      split
      · rename_i e2; rw [if_pos e2] at q; exact q
      · rename_i e2; rw [if_neg e2] at q
        have z : decide (decide (x = y) = decide (r = Str.ofString "==")) = (decide (x = y) == decide (r = Str.ofString "==")) := by
          by_cases z1 : x = y <;> by_cases z2 : r = Str.ofString "==" <;> simp [z1, z2]
        rw [z]; exact q
end
theorem scs2500 : FnScope ["self", "name", "place", "values", "target"] ["self", "name", "place", "values", "target"] (defScope (mst 25 0)) := ⟨rfl, rfl, rfl, by decide +kernel, rfl, by decide +kernel, by decide +kernel⟩
def sp2500 (a : Nat → Addr) : Sp := fun vs H Q _ => ∃ (x dx kd : Addr) (n p : Str) (tv : V), vs = [.ref x, .str n, .str p, .ref kd, tv] ∧ H x = some (.ins (a 25) dx []) ∧ Q .non (upd H x (.ins (a 25) dx (frL n p kd tv)))
section
variable {P : Program} {w : World} {K : PySem.W.Frag} {mg : Str → Option Value} {base : Heap} {a : Nat → Addr} {fd : Nat → FuncData}
theorem okFrame0 (T : Tx P K mg base a fd) : FnOk P w K mg base CX0 1 (a 2500) (fd 2500) ["self", "name", "place", "values", "target"] (sp2500 a) := by
  refine T.F2500.ok scs2500 (fun vs H Q E h => ?_) (fun cdv A outer s H vs Q E hr h => ⟨_, (pss_cons (ps_fld (pv 0) (pv 1) rfl)
      (pss_cons (ps_fld (pv 0) (pv 2) rfl)
      (pss_cons (ps_fld (pv 0) (pv 3) rfl)
      (pss_one (ps_fld (pv 0) (pv 4) rfl))))), ?_⟩)
  · obtain ⟨x, dx, kd, n, p, tv, rfl, _⟩ := h
    rfl
  · obtain ⟨x, dx, kd, n, p, tv, rfl, hx, q⟩ := h
    walk_at "a8"
    refine fldWI hx T.clFrame T.nf_name (by simp) (gs := [("name", .str n)]) rfl ?_
    walk_at "a8"
    refine fldWI upd_same T.clFrame T.nf_place (by simp) (gs := [("name", .str n), ("place", .str p)]) rfl ?_
    walk_at "a8"
    refine fldWI upd_same T.clFrame T.nf_kept (by simp) (gs := [("name", .str n), ("place", .str p), ("kept", .ref kd)]) rfl ?_
    walk_at "a8"
    refine fldWI upd_same T.clFrame T.nf_target (by simp) (gs := frL n p kd tv) rfl ?_
    rw [upd_upd, upd_upd, upd_upd]
    exact q
end
def RunY (K : PySem.W.Frag) (a : Nat → Addr) (H0 H : Hp) (G : Pg) (I : List Int) (A : RA) (c : Cf) (l : List (FO × Fr)) : Prop := ∃ e sv skvs, RunX K a H0 H G I A c e sv skvs l
theorem RunY.chg {K : PySem.W.Frag} {a : Nat → Addr} {H0 H H' : Hp} {G : Pg} {I : List Int} {A : RA} {c : Cf} {l : List (FO × Fr)} (h : RunY K a H0 H G I A c l) (k : Chg [] H H') : RunY K a H0 H' G I A c l := by
  obtain ⟨e, sv, skvs, R⟩ := h
  exact ⟨e, sv, skvs, R.chg k⟩
def adr (x : FO × Fr) : Addr × Addr × Addr := (x.1.fa, x.1.dx, x.1.kd)
theorem top_ix {o : FO} {f : Fr} {r : List (FO × Fr)} : atI (flist ((o, f) :: r)) (-1) = some (.ref o.fa) := by rw [flist_cons]; exact atI_last _ _
theorem valV_some {skvs : List (Key × V)} {dom : List Str} {f : Sto} (h : Rep skvs dom f) (n : Str) : (valV skvs (Sum.inr n)).isSome = decide (n ∈ dom) := by
  rw [h.2]
  by_cases e : n ∈ dom
  · rw [if_pos e, decide_eq_true e]; rfl
  · rw [if_neg e, decide_eq_false e]; rfl
theorem vars_mem {G : Pg} {m n : Str} (h : n ∈ varsOf G m) (z : n ∉ G.shared) : n ∈ locOf G m := (List.mem_append.mp h).resolve_left z
theorem scs2602 : FnScope ["self", "name"] ["self", "name"] (defScope (mst 26 2)) := ⟨rfl, rfl, rfl, by decide +kernel, rfl, by decide +kernel, by decide +kernel⟩
def spM2 (K : PySem.W.Frag) (a : Nat → Addr) : Sp := fun vs H Q _ => ∃ (H0 : Hp) (G : Pg) (I : List Int) (A : RA) (c : Cf) (o : FO) (f : Fr) (l : List (FO × Fr)) (n : Str), vs = [.ref A.r, .str n] ∧ RunY K a H0 H G I A c ((o, f) :: l) ∧ n ∈ varsOf G f.name ∧ Q (.int (look G c.sh f.kept n)) H
section
variable {P : Program} {w : World} {K : PySem.W.Frag} {mg : Str → Option Value} {base : Heap} {a : Nat → Addr} {fd : Nat → FuncData}
theorem okM2 (T : Tx P K mg base a fd) : FnOk P w K mg base CX0 1 (a 2602) (fd 2602) ["self", "name"] (spM2 K a) := by
  refine T.F2602.ok scs2602 (fun vs H Q E h => ?_) (fun cdv A outer s H vs Q E hr h => ⟨_, (pss_one (ps_ret (pe_ifExp (pt_cmp (pc_din (hu_of hr) (pv 1) (pe_fldK (K := K) rfl (pv 0) rfl))) (pe_dget (hu_of hr) (pe_fldK (K := K) rfl (pv 0) rfl) (pv 1) (fun _ _ => rfl)) (pe_dget (hu_of hr) (pe_fldK (K := K) rfl (pe_ix (ixLK (K := K) rfl) (pe_fldK (K := K) rfl (pv 0) rfl) (pe_un un_neg pe_int) (fun _ _ => rfl)) rfl) (pv 1) (fun _ _ => rfl))))), ?_⟩)
  · obtain ⟨H0, G, I, A, c, o, f, l, n, rfl, _⟩ := h
    rfl
  · obtain ⟨H0, G, I, A, c, o, f, l, n, rfl, ⟨e, sv, skvs, R⟩, hn, q⟩ := h
    walk_at "a8"
    refine fldI R.gr T.clRun T.nr_shared rfl ?_
    refine diI R.gshd ?_
    rw [valV_some R.sh]
    unfold look at q
    by_cases h1 : n ∈ G.shared
    · rw [if_pos h1] at q
      simp only [h1, decide_true, V.bl.injEq, exists_eq_left', if_true]
      walk_at "a8"
      refine fldI R.gr T.clRun T.nr_shared rfl ?_
      walk_at "a8"
      exact dgI R.gshd (R.sh.get h1) q
    · rw [if_neg h1] at q
      simp only [h1, decide_false, V.bl.injEq, exists_eq_left', Bool.false_eq_true, if_false]
      walk_at "a8"
      refine fldI R.gr T.clRun T.nr_frames rfl ?_
      refine ixL (SqL.of R.gfl) top_ix ?_
      refine fldI R.gtop T.clFrame T.nf_kept rfl ?_
      walk_at "a8"
      exact dgI R.gkd ((R.kp _ List.mem_cons_self).get (vars_mem hn h1)) q
end
theorem store_sh {G : Pg} {c : Cf} {f : Fr} {r : List Fr} {n : Str} {v : Int} (h : c.fs = f :: r) (m : n ∈ G.shared) : store G c f r n v = { c with sh := upf c.sh n v } := by
  unfold store; rw [if_pos m, ← h]
theorem store_loc {G : Pg} {c : Cf} {f : Fr} {r : List Fr} {n : Str} {v : Int} (m : n ∉ G.shared) : store G c f r n v = { c with fs := { f with kept := upf f.kept n v } :: r } := by
  unfold store; rw [if_neg m]
theorem scs2603 : FnScope ["self", "name", "value"] ["self", "name", "value"] (defScope (mst 26 3)) := ⟨rfl, rfl, rfl, by decide +kernel, rfl, by decide +kernel, by decide +kernel⟩
def spM3 (K : PySem.W.Frag) (a : Nat → Addr) : Sp := fun vs H Q _ => ∃ (H0 : Hp) (G : Pg) (I : List Int) (A : RA) (c : Cf) (o : FO) (f : Fr) (l : List (FO × Fr)) (n : Str) (v : Int), vs = [.ref A.r, .str n, .int v] ∧ RunY K a H0 H G I A c ((o, f) :: l) ∧ n ∈ varsOf G f.name ∧
  ∀ H' l', RunY K a H0 H' G I A (store G c f (l.map (·.2)) n v) l' → l'.map adr = ((o, f) :: l).map adr → Q .non H'
section
variable {P : Program} {w : World} {K : PySem.W.Frag} {mg : Str → Option Value} {base : Heap} {a : Nat → Addr} {fd : Nat → FuncData}
theorem okM3 (T : Tx P K mg base a fd) : FnOk P w K mg base CX0 1 (a 2603) (fd 2603) ["self", "name", "value"] (spM3 K a) := by
  refine T.F2603.ok scs2603 (fun vs H Q E h => ?_) (fun cdv A outer s H vs Q E hr h => ⟨_, (pss_one (ps_if (pt_cmp (pc_din (hu_of hr) (pv 1) (pe_fldK (K := K) rfl (pv 0) rfl))) (pss_one (ps_dput (hu_of hr) (pe_fldK (K := K) rfl (pv 0) rfl) (pv 1) (pv 2) rfl)) (pss_one (ps_dput (hu_of hr) (pe_fldK (K := K) rfl (pe_ix (ixLK (K := K) rfl) (pe_fldK (K := K) rfl (pv 0) rfl) (pe_un un_neg pe_int) (fun _ _ => rfl)) rfl) (pv 1) (pv 2) rfl)))), ?_⟩)
  · obtain ⟨H0, G, I, A, c, o, f, l, n, v, rfl, _⟩ := h
    rfl
  · obtain ⟨H0, G, I, A, c, o, f, l, n, v, rfl, ⟨e, sv, skvs, R⟩, hn, q⟩ := h
    have hfs : c.fs = f :: l.map (·.2) := R.fs
    walk_at "a8"
    refine fldI R.gr T.clRun T.nr_shared rfl ?_
    refine diI R.gshd ?_
    rw [valV_some R.sh]
    by_cases h1 : n ∈ G.shared
    · rw [store_sh hfs h1] at q
      simp only [h1, decide_true, V.bl.injEq, exists_eq_left', if_true]
      walk_at "a8"
      refine fldI R.gr T.clRun T.nr_shared rfl ?_
      walk_at "a8"
      refine dpI R.gshd (sz' (Nat.le_trans R.sh.1 (by decide))) ?_
      exact q _ _ ⟨_, _, _, R.putS h1 v⟩ rfl
    · rw [store_loc h1] at q
      simp only [h1, decide_false, V.bl.injEq, exists_eq_left', Bool.false_eq_true, if_false]
      walk_at "a8"
      refine fldI R.gr T.clRun T.nr_frames rfl ?_
      refine ixL (SqL.of R.gfl) top_ix ?_
      refine fldI R.gtop T.clFrame T.nf_kept rfl ?_
      walk_at "a8"
      refine dpI R.gkd (sz' (Nat.le_trans (R.kp _ List.mem_cons_self).1 (by decide))) ?_
      exact q _ _ ⟨_, _, _, R.putK' (vars_mem hn h1) v⟩ rfl
end
end Cc
set_option maxRecDepth 100000
set_option maxHeartbeats 4000000
/-! results, conditions -/
namespace Cc
open PySem PySem.Spec PyProof.Rows L2
theorem oper_sml {s : Str} {x y v : Int} (h : operI s x y = .ok v) : Sml v := by
  unfold operI at h
  split at h
  · cases h
  · split at h
    · next z => cases h; exact z
    · cases h
theorem ev_sml {f : Sto} {V : List Str} (b : ∀ n ∈ V, Sml (f n)) : ∀ {e : Ex} {v : Int}, okE V e → ev f e = .ok v → Sml v
  | .num i, v, h, e => by rw [ev] at e; cases e; exact h
  | .nm n, v, h, e => by rw [ev] at e; cases e; exact b n h
  | .op s l r, v, h, e => by
    rw [ev] at e
    split at e
    · cases e
    · split at e
      · cases e
      · exact oper_sml e
theorem scs2612 : FnScope ["self", "expression", "left", "right"] ["self", "expression"] (defScope (mst 26 12)) := ⟨rfl, rfl, rfl, by decide +kernel, rfl, by decide +kernel, by decide +kernel⟩
def spM12 (K : PySem.W.Frag) (a : Nat → Addr) (N : Nat) : Sp := fun vs H Q E => ∃ (H0 : Hp) (G : Pg) (I : List Int) (A : RA) (c : Cf) (o : FO) (f : Fr) (l : List (FO × Fr)) (ex : Ex) (v : V), vs = [.ref A.r, v] ∧ RunY K a H0 H G I A c ((o, f) :: l) ∧ DatAt K H ex.d v ∧ okE (varsOf G f.name) ex ∧ exDep ex < N ∧ (∀ n ∈ varsOf G f.name, Sml (look G c.sh f.kept n)) ∧
  (∀ i, ev (look G c.sh f.kept) ex = .ok i → Sml i → ∀ H', Chg [] H H' → Q (.int i) H') ∧ ∀ k, ev (look G c.sh f.kept) ex = .error k → FailE a E H k
section
variable {P : Program} {w : World} {K : PySem.W.Frag} {mg : Str → Option Value} {base : Heap} {a : Nat → Addr} {fd : Nat → FuncData}
theorem okM12s (T : Tx P K mg base a fd) (n : Nat) (GM12 : FnOk P w K mg base (L2.CX P w) (n + 11) (a 2612) (fd 2612) ["self", "expression"] (spM12 K a n)) : FnOk P w K mg base (L2.CX P w) (n + 12) (a 2612) (fd 2612) ["self", "expression"] (spM12 K a (n + 1)) := by
  refine T.F2612.okX scs2612 (fun vs H Q E h => ?_) (fun cdv A outer s H vs Q E hr h => ⟨_, (pss_cons (ps_if (pt_cmpR op_eq (pe_ix (ixTK (K := K) rfl) (pv 1) pe_int (fun _ _ => rfl)) pe_str (nomark _)) (pss_one (ps_ret (pe_ix (ixTK (K := K) rfl) (pv 1) pe_int (fun _ _ => rfl)))) pss_nil)
      (pss_cons (ps_if (pt_cmpR op_eq (pe_ix (ixTK (K := K) rfl) (pv 1) pe_int (fun _ _ => rfl)) pe_str (nomark _)) (pss_one (ps_ret (pe_meth (pv 0) T.clRun T.M2 (okM2 T) (hr.mono (by first | exact Nat.le_refl _ | decide | omega)) T.bM2 .nil pass0 (pa_cons (pe_ix (ixTK (K := K) rfl) (pv 1) pe_int (fun _ _ => rfl)) pa_nil)))) pss_nil)
      (pss_cons (ps_set (i := 2) scs2612.nd rfl (Or.inl rfl) (CgM.pe_methS (pv 0) T.clRun T.M12 GM12 (hr.mono (by first | exact Nat.le_refl _ | decide | omega)) T.bM12 (fun σ => passAt (takes_of rfl rfl rfl rfl) σ) (pa_cons (pe_ix (ixTK (K := K) rfl) (pv 1) pe_int (fun _ _ => rfl)) pa_nil)))
      (pss_cons (ps_set (i := 3) scs2612.nd rfl (Or.inl rfl) (CgM.pe_methS (pv 0) T.clRun T.M12 GM12 (hr.mono (by first | exact Nat.le_refl _ | decide | omega)) T.bM12 (fun σ => passAt (takes_of rfl rfl rfl rfl) σ) (pa_cons (pe_ix (ixTK (K := K) rfl) (pv 1) pe_int (fun _ _ => rfl)) pa_nil)))
      (pss_one (ps_ret (pe_callS (ok27 T) (hr.mono (by first | exact Nat.le_refl _ | decide | omega)) rfl T.D27.mg T.D27.kp T.D27.bd (fun σ => passAt (takes_of rfl rfl rfl rfl) σ) (pa_cons (pe_ix (ixTK (K := K) rfl) (pv 1) pe_int (fun _ _ => rfl)) (pa_cons (pv 2) (pa_cons (pv 3) pa_nil)))))))))), ?_⟩)
  · obtain ⟨H0, G, I, A, c, o, f, l, ex, v, rfl, _⟩ := h
    rfl
  · obtain ⟨H0, G, I, A, c, o, f, l, ex, v, rfl, R, hd, hok, hdep, hb, q, qe⟩ := h
    cases ex with
    | num i =>
      obtain ⟨p, xs, rfl, h0, g⟩ := DatAt.tup_inv hd
      obtain ⟨x0, r, rfl, h1, g⟩ := g.cons_inv
      obtain ⟨x1, r, rfl, h2, g⟩ := g.cons_inv
      cases g.nil_inv
      cases dat_str_inv h1
      cases dat_int_inv h2
      walk_at "a8"
      exact q _ rfl hok _ Chg.refl
    | nm m =>
      obtain ⟨p, xs, rfl, h0, g⟩ := DatAt.tup_inv hd
      obtain ⟨x0, r, rfl, h1, g⟩ := g.cons_inv
      obtain ⟨x1, r, rfl, h2, g⟩ := g.cons_inv
      cases g.nil_inv
      cases dat_str_inv h1
      cases dat_str_inv h2
      obtain ⟨e, sv, skvs, R'⟩ := id R
      walk_at "a8"
      refine metI R'.gr rfl (ixT h0 rfl ?_)
      exact ⟨H0, G, I, A, c, o, f, l, m, rfl, R, hok, q _ rfl (hb m hok) _ Chg.refl⟩
    | op s x y =>
      obtain ⟨p, xs, rfl, h0, g⟩ := DatAt.tup_inv hd
      obtain ⟨x0, r, rfl, h1, g⟩ := g.cons_inv
      obtain ⟨x1, r, rfl, h2, g⟩ := g.cons_inv
      obtain ⟨x2, r, rfl, h3, g⟩ := g.cons_inv
      obtain ⟨x3, r, rfl, h4, g⟩ := g.cons_inv
      cases g.nil_inv
      cases dat_str_inv h1
      cases dat_str_inv h2
      obtain ⟨e, sv, skvs, R'⟩ := id R
      obtain ⟨hs, hx, hy⟩ := hok
      have hdx : exDep x < n := by rw [exDep] at hdep; omega
      have hdy : exDep y < n := by rw [exDep] at hdep; omega
      walk_at "a8"
      refine metI R'.gr rfl (ixT h0 rfl ?_)
      refine ⟨H0, G, I, A, c, o, f, l, x, x2, rfl, R, h3, hx, hdx, hb, fun i hi si H1 c1 => ?_, fun k hk => qe k (by rw [ev, hk])⟩
      have h01 := c1.sqT h0
      obtain ⟨e1, sv1, skvs1, R1'⟩ := R.chg c1
      walk_at "a8"
      refine metI R1'.gr rfl (ixT h01 rfl ?_)
      refine ⟨H0, G, I, A, c, o, f, l, y, x3, rfl, R.chg c1, h4.chg c1, hy, hdy, hb, fun j hj sj H2 c2 => ?_, fun k hk => (qe k (by rw [ev, hi, hk])).chg c1⟩
      have h02 := c2.sqT h01
      walk_at "a8"
      refine ⟨s, i, j, rfl, hs, si, sj, fun v hv H3 c3 => ?_, fun k hk => (qe k (by rw [ev, hi, hj]; exact hk)).chg (c1.trans c2)⟩
      exact q v (by rw [ev, hi, hj]; exact hv) (oper_sml hv) _ ((c1.trans c2).trans c3)
theorem okM12 (T : Tx P K mg base a fd) : ∀ n : Nat, FnOk P w K mg base (L2.CX P w) (n + 11) (a 2612) (fd 2612) ["self", "expression"] (spM12 K a n)
  | 0 => (FnOk.never (ps := ["self", "expression"])).imp fun vs H Q E h => by
    obtain ⟨H0, G, I, A, c, o, f, l, ex, v, _, _, _, _, z, _⟩ := h
    exact absurd z (Nat.not_lt_zero _)
  | n + 1 => okM12s T n (okM12 T n)
end
theorem scs2613 : FnScope ["self", "condition", "word", "left", "right"] ["self", "condition"] (defScope (mst 26 13)) := ⟨rfl, rfl, rfl, by decide +kernel, rfl, by decide +kernel, by decide +kernel⟩
def spM13 (K : PySem.W.Frag) (a : Nat → Addr) (N : Nat) : Sp := fun vs H Q E => ∃ (H0 : Hp) (G : Pg) (I : List Int) (A : RA) (c : Cf) (o : FO) (f : Fr) (l : List (FO × Fr)) (cd : Cd) (v : V), vs = [.ref A.r, v] ∧ RunY K a H0 H G I A c ((o, f) :: l) ∧ DatAt K H cd.d v ∧ okC (varsOf G f.name) cd ∧ cdDep cd < N ∧ (∀ n ∈ varsOf G f.name, Sml (look G c.sh f.kept n)) ∧
  (∀ i, hold (look G c.sh f.kept) cd = .ok i → ∀ H', Chg [] H H' → Q (.bl i) H') ∧ ∀ k, hold (look G c.sh f.kept) cd = .error k → FailE a E H k
section
variable {P : Program} {w : World} {K : PySem.W.Frag} {mg : Str → Option Value} {base : Heap} {a : Nat → Addr} {fd : Nat → FuncData}
theorem okM13s (T : Tx P K mg base a fd) (n : Nat) (GM13 : FnOk P w K mg base (L2.CX P w) (n + 21) (a 2613) (fd 2613) ["self", "condition"] (spM13 K a n)) : FnOk P w K mg base (L2.CX P w) (n + 22) (a 2613) (fd 2613) ["self", "condition"] (spM13 K a (n + 1)) := by
  refine T.F2613.okX scs2613 (fun vs H Q E h => ?_) (fun cdv A outer s H vs Q E hr h => ⟨_, (pss_cons (ps_set (i := 2) scs2613.nd rfl (Or.inl rfl) (pe_ix (ixTK (K := K) rfl) (pv 1) pe_int (fun _ _ => rfl)))
      (pss_cons (ps_if (pt_cmpR op_eq (pv 2) pe_str (nomark _)) (pss_one (ps_ret (pe_not (CgM.pe_methS (pv 0) T.clRun T.M13 GM13 (hr.mono (by first | exact Nat.le_refl _ | decide | omega)) T.bM13 (fun σ => passAt (takes_of rfl rfl rfl rfl) σ) (pa_cons (pe_ix (ixTK (K := K) rfl) (pv 1) pe_int (fun _ _ => rfl)) pa_nil))))) pss_nil)
      (pss_cons (ps_if (pt_cmpR op_eq (pv 2) pe_str (nomark _)) (pss_cons (ps_set (i := 3) scs2613.nd rfl (Or.inl rfl) (CgM.pe_methS (pv 0) T.clRun T.M12 (okM12 T 8) (hr.mono (by first | exact Nat.le_refl _ | decide | omega)) T.bM12 (fun σ => passAt (takes_of rfl rfl rfl rfl) σ) (pa_cons (pe_ix (ixTK (K := K) rfl) (pv 1) pe_int (fun _ _ => rfl)) pa_nil)))
      (pss_one (ps_ret (pe_call (ok28 T) (hr.mono (by first | exact Nat.le_refl _ | decide | omega)) rfl T.D28.mg T.D28.kp T.D28.bd .nil pass0 (pa_cons (pe_ix (ixTK (K := K) rfl) (pv 1) pe_int (fun _ _ => rfl)) (pa_cons (pv 3) (pa_cons (CgM.pe_methS (pv 0) T.clRun T.M12 (okM12 T 8) (hr.mono (by first | exact Nat.le_refl _ | decide | omega)) T.bM12 (fun σ => passAt (takes_of rfl rfl rfl rfl) σ) (pa_cons (pe_ix (ixTK (K := K) rfl) (pv 1) pe_int (fun _ _ => rfl)) pa_nil)) pa_nil))))))) pss_nil)
      (pss_cons (ps_set (i := 3) scs2613.nd rfl (Or.inl rfl) (CgM.pe_methS (pv 0) T.clRun T.M13 GM13 (hr.mono (by first | exact Nat.le_refl _ | decide | omega)) T.bM13 (fun σ => passAt (takes_of rfl rfl rfl rfl) σ) (pa_cons (pe_ix (ixTK (K := K) rfl) (pv 1) pe_int (fun _ _ => rfl)) pa_nil)))
      (pss_cons (ps_set (i := 4) scs2613.nd rfl (Or.inl rfl) (CgM.pe_methS (pv 0) T.clRun T.M13 GM13 (hr.mono (by first | exact Nat.le_refl _ | decide | omega)) T.bM13 (fun σ => passAt (takes_of rfl rfl rfl rfl) σ) (pa_cons (pe_ix (ixTK (K := K) rfl) (pv 1) pe_int (fun _ _ => rfl)) pa_nil)))
      (pss_one (ps_ret (pe_ifExp (pt_cmpR op_eq (pv 2) pe_str (nomark _)) (pe_and (pv 3) (pe_one (pv 4))) (pe_or (pv 3) (pe_one (pv 4))))))))))), ?_⟩)
  · obtain ⟨H0, G, I, A, c, o, f, l, cd, v, rfl, _⟩ := h
    rfl
  · obtain ⟨H0, G, I, A, c, o, f, l, cd, v, rfl, R, hd, hok, hdep, hb, q, qe⟩ := h
    obtain ⟨e, sv, skvs, R'⟩ := id R
    cases cd with
    | neg x =>
      obtain ⟨p, xs, rfl, h0, g⟩ := DatAt.tup_inv hd
      obtain ⟨x0, r, rfl, h1, g⟩ := g.cons_inv
      obtain ⟨x1, r, rfl, h2, g⟩ := g.cons_inv
      cases g.nil_inv
      cases dat_str_inv h1
      have hdx : cdDep x < n := by rw [cdDep] at hdep; omega
      walk_at "a8"
      refine metI R'.gr rfl (ixT h0 rfl ?_)
      refine ⟨H0, G, I, A, c, o, f, l, x, x1, rfl, R, h2, hok, hdx, hb, fun i hi H1 c1 => ?_, fun k hk => qe k (by rw [hold, hk])⟩
      walk_at "a8"
      exact q _ (by rw [hold, hi]) _ c1
    | cmp s x y =>
      obtain ⟨p, xs, rfl, h0, g⟩ := DatAt.tup_inv hd
      obtain ⟨x0, r, rfl, h1, g⟩ := g.cons_inv
      obtain ⟨x1, r, rfl, h2, g⟩ := g.cons_inv
      obtain ⟨x2, r, rfl, h3, g⟩ := g.cons_inv
      obtain ⟨x3, r, rfl, h4, g⟩ := g.cons_inv
      cases g.nil_inv
      cases dat_str_inv h1
      cases dat_str_inv h2
      obtain ⟨hx, hy, hdx, hdy⟩ := hok
      walk_at "a8"
      refine metI R'.gr rfl (ixT h0 rfl ?_)
      refine ⟨H0, G, I, A, c, o, f, l, x, x2, rfl, R, h3, hx, hdx, hb, fun i hi si H1 c1 => ?_, fun k hk => qe k (by rw [hold, hk])⟩
      have h01 := c1.sqT h0
      obtain ⟨e1, sv1, skvs1, R1'⟩ := R.chg c1
      walk_at "a8"
      refine metI R1'.gr rfl (ixT h01 rfl ?_)
      refine ⟨H0, G, I, A, c, o, f, l, y, x3, rfl, R.chg c1, h4.chg c1, hy, hdy, hb, fun j hj sj H2 c2 => ?_, fun k hk => (qe k (by rw [hold, hi, hk])).chg c1⟩
      walk_at "a8"
      refine ⟨s, i, j, rfl, ?_⟩
      exact q _ (by rw [hold, hi, hj]) _ (c1.trans c2)
    | bin b x y =>
      obtain ⟨hx, hy⟩ := hok
      have hdx : cdDep x < n := by rw [cdDep] at hdep; omega
      have hdy : cdDep y < n := by rw [cdDep] at hdep; omega
      cases b
      · 
        obtain ⟨p, xs, rfl, h0, g⟩ := DatAt.tup_inv hd
        obtain ⟨x0, r, rfl, h1, g⟩ := g.cons_inv
        obtain ⟨x1, r, rfl, h2, g⟩ := g.cons_inv
        obtain ⟨x2, r, rfl, h3, g⟩ := g.cons_inv
        cases g.nil_inv
        cases dat_str_inv h1
        walk_at "a8"
        refine metI R'.gr rfl (ixT h0 rfl ?_)
        refine ⟨H0, G, I, A, c, o, f, l, x, x1, rfl, R, h2, hx, hdx, hb, fun i hi H1 c1 => ?_, fun k hk => qe k (by rw [hold, hk])⟩
        have h01 := c1.sqT h0
        obtain ⟨e1, sv1, skvs1, R1'⟩ := R.chg c1
        walk_at "a8"
        refine metI R1'.gr rfl (ixT h01 rfl ?_)
        refine ⟨H0, G, I, A, c, o, f, l, y, x2, rfl, R.chg c1, h3.chg c1, hy, hdy, hb, fun j hj H2 c2 => ?_, fun k hk => (qe k (by rw [hold, hi, hk])).chg c1⟩
        have qq := q _ (by rw [hold, hi, hj]) _ (c1.trans c2)
        walk_at "a8"
        cases i <;> cases j <;> simpa using qq
      · 
        obtain ⟨p, xs, rfl, h0, g⟩ := DatAt.tup_inv hd
        obtain ⟨x0, r, rfl, h1, g⟩ := g.cons_inv
        obtain ⟨x1, r, rfl, h2, g⟩ := g.cons_inv
        obtain ⟨x2, r, rfl, h3, g⟩ := g.cons_inv
        cases g.nil_inv
        cases dat_str_inv h1
        walk_at "a8"
        refine metI R'.gr rfl (ixT h0 rfl ?_)
        refine ⟨H0, G, I, A, c, o, f, l, x, x1, rfl, R, h2, hx, hdx, hb, fun i hi H1 c1 => ?_, fun k hk => qe k (by rw [hold, hk])⟩
        have h01 := c1.sqT h0
        obtain ⟨e1, sv1, skvs1, R1'⟩ := R.chg c1
        walk_at "a8"
        refine metI R1'.gr rfl (ixT h01 rfl ?_)
        refine ⟨H0, G, I, A, c, o, f, l, y, x2, rfl, R.chg c1, h3.chg c1, hy, hdy, hb, fun j hj H2 c2 => ?_, fun k hk => (qe k (by rw [hold, hi, hk])).chg c1⟩
        have qq := q _ (by rw [hold, hi, hj]) _ (c1.trans c2)
        walk_at "a8"
        cases i <;> cases j <;> simpa using qq
theorem okM13 (T : Tx P K mg base a fd) : ∀ n : Nat, FnOk P w K mg base (L2.CX P w) (n + 21) (a 2613) (fd 2613) ["self", "condition"] (spM13 K a n)
  | 0 => (FnOk.never (ps := ["self", "condition"])).imp fun vs H Q E h => by
    obtain ⟨H0, G, I, A, c, o, f, l, ex, v, _, _, _, _, z, _⟩ := h
    exact absurd z (Nat.not_lt_zero _)
  | n + 1 => okM13s T n (okM13 T n)
end
end Cc
set_option maxRecDepth 100000
set_option maxHeartbeats 4000000
/-! keep_step, frame -/
namespace Cc
open PySem PySem.Spec PyProof.Rows L2
theorem type_du : typeOf (.builtin "dict.update") = pure (.type "method_descriptor") := by show builtinType _ = _; rw [builtinType_eq_fast]; kernel_rfl
theorem strs_at {p : List Str} {i : Nat} {x : V} (h : (p.map V.str)[i]? = some x) : ∃ n, p[i]? = some n ∧ x = .str n := by
  rw [List.getElem?_map] at h
  cases e : p[i]? with
  | none => rw [e] at h; cases h
  | some n => rw [e] at h; cases h; exact ⟨n, rfl, rfl⟩
theorem dats_intsf {K : PySem.W.Frag} {H : Hp} (f : Str → Int) : ∀ l : List Str, DatsAt K H (l.map fun n => D.int (f n)) (l.map fun n => V.int (f n))
  | [] => dats_nil
  | n :: r => dats_cons dat_int (dats_intsf f r)
theorem scs2604 : FnScope ["self", "top", "values", "name"] ["self"] (defScope (mst 26 4)) := ⟨rfl, rfl, rfl, by decide +kernel, rfl, by decide +kernel, by decide +kernel⟩
def spM4 (K : PySem.W.Frag) (a : Nat → Addr) : Sp := fun vs H Q _ => ∃ (H0 : Hp) (G : Pg) (I : List Int) (A : RA) (c : Cf) (o : FO) (f : Fr) (l : List (FO × Fr)) (pr : Pr), vs = [.ref A.r] ∧ RunY K a H0 H G I A c ((o, f) :: l) ∧ WF G ∧ procOf G f.name = some pr ∧ c.steps.length ≤ 1000 ∧
  ∀ H', RunY K a H0 H' G I A { c with steps := c.steps ++ [stepD G c f] } ((o, f) :: l) → Q .non H'
section
variable {P : Program} {w : World} {K : PySem.W.Frag} {mg : Str → Option Value} {base : Heap} {a : Nat → Addr} {fd : Nat → FuncData}
theorem okM4 (T : Tx P K mg base a fd) : FnOk P w K mg base CX0 2 (a 2604) (fd 2604) ["self"] (spM4 K a) := by
  refine T.F2604.ok scs2604 (fun vs H Q E h => ?_) (fun cdv A outer s H vs Q E hr h => ⟨_, (pss_cons (ps_set (i := 1) scs2604.nd rfl (Or.inl rfl) (pe_ix (ixLK (K := K) rfl) (pe_fldK (K := K) rfl (pv 0) rfl) (pe_un un_neg pe_int) (fun _ _ => rfl)))
      (pss_cons (ps_setLc (i := 2) (own := [("name", 3)]) (g := gName 3) (tt := tYes) (by rfl) scs2604.nd rfl rfl (sw_true rfl rfl rfl (by decide +kernel)) (pi_tup (pe_dget (hu_of hr) (pe_fldK (K := K) rfl (pv 0) rfl) (pe_fldK (K := K) rfl (pv 1) rfl) (fun _ _ => rfl))) (blkOk_by (own := [("name", 3)]) (N := ["self", "top", "values", "name"]) (sc := (defScope (mst 26 4))) (by decide +kernel)) (fun _ _ _ _ _ => (pg_name (i := 3) scs2604.nd rfl (Or.inl rfl))) (fun _ _ _ _ _ => pts_nil) (fun _ _ _ _ _ => (pe_meth (pv 0) T.clRun T.M2 (okM2 T) (hr.mono (by first | exact Nat.le_refl _ | decide | omega)) T.bM2 .nil pass0 (pa_cons (pv 3) pa_nil))))
      (pss_one (ps_expr (pe_bm PySem.F.plainAttrs_list PySem.F.slot_list_append PySem.F.type_list_append mt_append (pe_fldK (K := K) rfl (pv 0) rfl) (pa_cons (pe_tup (pa_cons (pe_fldK (K := K) rfl (pv 1) rfl) (pa_cons (pe_fldK (K := K) rfl (pv 1) rfl) (pa_cons (pe_callTy call_tuple_of (by rfl) T.n_tuple PyProof.Rows.Boot.«tuple» (pa_cons (pv 2) pa_nil)) pa_nil)))) pa_nil)))))), ?_⟩)
  · obtain ⟨H0, G, I, A, c, o, f, l, pr, rfl, _⟩ := h
    rfl
  · obtain ⟨H0, G, I, A, c, o, f, l, pr, rfl, ⟨e, sv, skvs, R⟩, W, hp, hz, q⟩ := h
    obtain ⟨nkvs, hnd, hn⟩ := R.nm
    obtain ⟨t, ht, hts⟩ := hn pr (proc_mem hp)
    rw [proc_name hp] at ht hts
    have hzv := len_loc W.b hp
    have hzs := W.b.sh
    walk_at "a8"
    refine fldI R.gr T.clRun T.nr_frames rfl ?_
    refine ixL (SqL.of R.gfl) top_ix ?_
    walk_at "a8"
    refine fldI R.gr T.clRun T.nr_names rfl ?_
    refine fldI R.gtop T.clFrame T.nf_name rfl ?_
    refine dgI hnd ht ?_
    walk_at "a8"
    refine ⟨⟨_, hts⟩, lcT hts (fun i acc H => acc = ((varsOf G f.name).take i).map (fun n => V.int (look G c.sh f.kept n))) (by rw [List.take_zero]; rfl) (fun i acc L H H' _ z => z) (fun i acc H z => by
      rw [z, List.length_map, List.length_take]
      have : (varsOf G f.name).length ≤ 65 := by unfold varsOf; rw [List.length_append]; omega
      exact sz' (by omega)) ?_ ?_⟩
    · intro i x H2 acc N' N hx c2 w k1 k2
      obtain ⟨n, hn, rfl⟩ := strs_at hx
      have R2 := R.chg c2
      walk_at "a8"
      refine metI R2.gr rfl ?_
      walk_at "a8"
      refine ⟨H0, G, I, A, c, o, f, l, n, rfl, ⟨_, _, _, R2⟩, List.mem_of_getElem? hn, k1 _ _ Chg.refl ?_⟩
      rw [w, take_succ hn, List.map_append]; rfl
    · intro D H2 acc hD c2 hacc w
      rw [List.length_map, List.take_length] at w
      have R2 := R.chg c2
      have hD2 : D ∉ muts A ((o, f) :: l) := fun z => by
        rw [← cells_fst (a := a) (told := c.told) (u := c.used) (e := e) (sv := sv) (skvs := skvs)] at z
        obtain ⟨x, hx, e2⟩ := List.mem_map.mp z
        have := R.at_ x hx
        rw [e2, hD] at this; cases this
      walk_at "a8"
      refine fldI R2.gr T.clRun T.nr_steps rfl ?_
      walk_at "a8"
      refine ⟨.inl ⟨rfl, _, SqL.of R2.gsd⟩, ?_⟩
      refine fldI R2.gtop T.clFrame T.nf_name rfl ?_
      refine fldI R2.gtop T.clFrame T.nf_place rfl ?_
      walk_at "a8"
      refine ⟨_, .inl ⟨SqL.of hacc, fun l3 hl3 => ?_⟩⟩
      walk_at "a8"
      have c3 : Chg [] H2 (upd H2 l3 (.tup acc)) := Chg.new hl3
      have c4 := c3.thenNew (o := .tup [.str f.name, .str (placeT f.place), .ref l3]) hpp
      have R4 := R2.chg c4
      refine ⟨_, R4.gsd, sz' (by rw [R.st.len]; omega), ?_⟩
      refine q _ ⟨_, _, _, R4.keepS (d := stepD G c f) (dat_tup (SqT.of upd_same) (dats_cons dat_str (dats_cons dat_str (dats_cons (dat_tup (xs := acc) (SqT.of ?_) ?_) dats_nil))))⟩
      · exact (Chg.new (L := []) hpp).tups _ _ upd_same
      · rw [w]
        exact dats_intsf _ _
end
end Cc
set_option maxRecDepth 100000
set_option maxHeartbeats 4000000
/-! frame -/
namespace Cc
open PySem PySem.Spec PyProof.Rows L2
theorem slA2 {K : PySem.W.Frag} {H : Hp} {a : Addr} {xs : List V} {m : Nat} {Q : VK} (h : SqT K H a xs) (q : ∀ p H', Chg [] H H' → SqT K H' p (xs.drop m) → Q (.ref p) H') : rSlA K (.ref a) (some (m : Int)) none H Q := by
  refine slA h ?_ q
  unfold cutV
  rw [HT.sIx_none, HT.sIx_nat]
  rcases Nat.le_total m xs.length with z | z
  · rw [Nat.min_eq_left z, List.take_of_length_le]
    rw [List.length_drop]; omega
  · rw [Nat.min_eq_right z, List.drop_length, List.drop_eq_nil_of_le z, List.take_nil]
theorem rep_zero : ∀ (l : List Str) (kvs : List (Key × V)), (∀ n, valV (l.foldl (fun acc n => putK acc (Sum.inr n) (.int 0)) kvs) (Sum.inr n) = if n ∈ l then some (.int 0) else valV kvs (Sum.inr n))
  | [], kvs, n => by simp
  | x :: r, kvs, n => by
    rw [List.foldl_cons, rep_zero r, valV_put]
    by_cases h : n ∈ r
    · rw [if_pos h, if_pos (List.mem_cons_of_mem _ h)]
    · rw [if_neg h]
      by_cases e : n = x
      · subst e; rw [if_pos rfl, if_pos (List.mem_cons_self)]
      · rw [if_neg (fun z => e (Sum.inr.inj z)), if_neg (fun z => (List.mem_cons.mp z).elim e h)]
theorem rep_bind : ∀ (ps : List Str) (vs : List Int) (kvs : List (Key × V)) (dom : List Str) (f : Sto), (∀ n ∈ ps, n ∈ dom) → (∀ n, valV kvs (Sum.inr n) = if n ∈ dom then some (.int (f n)) else none) →
    ∀ n, valV (mergeK kvs ((ps.map Sum.inr).zip (vs.map V.int))) (Sum.inr n) = if n ∈ dom then some (.int (bindK ps vs f n)) else none
  | [], vs, kvs, dom, f, _, h, n => h n
  | p :: ps, [], kvs, dom, f, _, h, n => h n
  | p :: ps, v :: vs, kvs, dom, f, hp, h, n => by
    rw [List.map_cons, List.map_cons, List.zip_cons_cons]
    show valV (mergeK (putK kvs (Sum.inr p) (.int v)) ((ps.map Sum.inr).zip (vs.map V.int))) (Sum.inr n) = _
    rw [rep_bind ps vs _ dom (upf f p v) (fun n hn => hp n (List.mem_cons_of_mem _ hn)) (fun m => ?_) n]
    · rfl
    · rw [valV_put]
      by_cases e : m = p
      · subst e; rw [if_pos rfl, if_pos (hp m List.mem_cons_self), upf, if_pos rfl]
      · rw [if_neg (fun z => e (Sum.inr.inj z)), h, upf, if_neg e]
theorem mergeK_app : ∀ (more acc : List (Key × V)), ((acc ++ more).map (·.1)).Nodup → mergeK acc more = acc ++ more
  | [], acc, _ => by rw [List.append_nil]; rfl
  | p :: r, acc, h => by
    have e : putK acc p.1 p.2 = acc ++ [p] := by
      unfold putK
      rw [if_neg]
      intro z
      obtain ⟨x, hx, e⟩ := List.any_eq_true.mp z
      rw [List.map_append, List.map_cons, List.nodup_append] at h
      exact h.2.2 x.1 (List.mem_map_of_mem hx) p.1 (by simp) (of_decide_eq_true e)
    show mergeK (putK acc p.1 p.2) r = _
    rw [e, mergeK_app r (acc ++ [p]) (by rw [List.append_assoc]; exact h), List.append_assoc]
    rfl
theorem zip_nd {ps : List Str} (h : ps.Nodup) : ∀ vs : List V, (((ps.map Sum.inr).zip vs : List (Key × V)).map (·.1)).Nodup := by
  induction ps with
  | nil => intro vs; simp
  | cons p r ih =>
    intro vs
    obtain ⟨h1, h2⟩ := List.nodup_cons.mp h
    cases vs with
    | nil => simp
    | cons v vs =>
      rw [List.map_cons, List.zip_cons_cons, List.map_cons]
      refine List.nodup_cons.mpr ⟨fun z => ?_, ih h2 vs⟩
      obtain ⟨x, hx, e⟩ := List.mem_map.mp z
      have m := (List.of_mem_zip hx).1
      rw [e] at m
      obtain ⟨y, hy, e2⟩ := List.mem_map.mp m
      exact h1 (Sum.inr.inj e2 ▸ hy)
theorem zero_len : ∀ (l : List Str) (kvs : List (Key × V)), (l.foldl (fun acc n => putK acc (Sum.inr n) (.int 0)) kvs).length ≤ kvs.length + l.length
  | [], kvs => by simp
  | x :: r, kvs => by
    have h1 := zero_len r (putK kvs (Sum.inr x) (.int 0))
    have h2 := length_putK kvs (Sum.inr x) (.int 0)
    rw [List.foldl_cons, List.length_cons]; omega
theorem par_loc {G : Pg} {n p : Str} (h : p ∈ paramsOf G n) : p ∈ locOf G n := by
  unfold locOf localsOf
  exact mem_sortU.mpr (List.mem_append_right _ h)
theorem scs2601 : FnScope ["self", "name", "values", "target", "known", "one"] ["self", "name", "values", "target"] (defScope (mst 26 1)) := ⟨rfl, rfl, rfl, by decide +kernel, rfl, by decide +kernel, by decide +kernel⟩
theorem sqX_t {K : PySem.W.Frag} {H : Hp} {l : Addr} {xs : List V} (h : SqT K H l xs) : CgZ.SqX K true H l xs := by unfold CgZ.SqX; rw [if_pos rfl]; exact h
theorem sqX_f {K : PySem.W.Frag} {H : Hp} {l : Addr} {xs : List V} (h : SqL K H l xs) : CgZ.SqX K false H l xs := by unfold CgZ.SqX; rw [if_neg (by decide)]; exact h
theorem CgZ_SqX_chg {K : PySem.W.Frag} {H H' : Hp} {l : Addr} {xs : List V} {t : Bool} (h : CgZ.SqX K t H l xs) (c : Chg [] H H') : CgZ.SqX K t H' l xs := by
  cases t
  · unfold CgZ.SqX at h ⊢; exact c.sqL h
  · unfold CgZ.SqX at h ⊢; exact c.sqT h
def spM1 (K : PySem.W.Frag) (a : Nat → Addr) : Sp := fun vs H Q _ => ∃ (r dx nd va : Addr) (pv : V) (fs : List (Str × V)) (G : Pg) (n : Str) (pr : Pr) (tb : Bool) (vals : List Int) (tg : Option Str), vs = [.ref r, .str n, .ref va, optV tg] ∧ H r = some (.ins (a 26) dx fs) ∧ fs.lookup ("names" : Str) = some (V.ref nd) ∧ fs.lookup ("program" : Str) = some pv ∧
  (∃ nkvs, H nd = some (.dK nkvs) ∧ ∀ pr ∈ G.procs, ∃ t, valV nkvs (Sum.inr pr.name) = some (.ref t) ∧ SqT K H t ((varsOf G pr.name).map V.str)) ∧ DatAt K H G.d pv ∧ WF G ∧ procOf G n = some pr ∧ CgZ.SqX K tb H va (vals.map V.int) ∧
  ∀ (o : FO) H', Chg [] H H' → H o.fa = none → H o.kd = none → o.fa ≠ o.kd → H' o.fa = some (frC (a 25) o (frameOf G n vals tg)) → H' o.kd = some (.dK o.kvs) → Rep o.kvs (locOf G n) (frameOf G n vals tg).kept → Q (.ref o.fa) H'
section
variable {P : Program} {w : World} {K : PySem.W.Frag} {mg : Str → Option Value} {base : Heap} {a : Nat → Addr} {fd : Nat → FuncData}
theorem okM1 (T : Tx P K mg base a fd) : FnOk P w K mg base CX0 3 (a 2601) (fd 2601) ["self", "name", "values", "target"] (spM1 K a) := by
  refine T.F2601.ok scs2601 (fun vs H Q E h => ?_) (fun cdv A outer s H vs Q E hr h => ⟨_, (pss_cons (CgD.ps_setDc (i := 4) (own := [("one", 5)]) (g := gName 5) (tt := tYes) (by rfl) scs2601.nd rfl rfl (CgD.sw_trueD rfl rfl rfl (by decide +kernel)) (pi_tup (pe_slice (slKA (K := K) rfl) (pe_dget (hu_of hr) (pe_fldK (K := K) rfl (pv 0) rfl) (pv 1) (fun _ _ => rfl)) (po_some (pe_callB call_len_seq (by rfl) T.n_len PyProof.Rows.Boot.«len» (pa_cons (pe_ix (ixTK (K := K) rfl) (pe_fldK (K := K) rfl (pv 0) rfl) pe_int (fun _ _ => rfl)) pa_nil))) po_none)) (blkOk_by (own := [("one", 5)]) (N := ["self", "name", "values", "target", "known", "one"]) (sc := (defScope (mst 26 1))) (by decide +kernel)) (fun _ _ _ _ _ => (pg_name (i := 5) scs2601.nd rfl (Or.inl rfl))) (fun _ _ _ _ _ => pts_nil) (fun _ _ _ _ _ => (pv 5)) (fun _ _ _ _ _ => pe_int))
      (pss_cons (ps_expr (pe_bm PySem.F.plainAttrs_dict PySem.F.slot_dict_update type_du CgZ.mt_update (pv 4) (pa_cons (pe_callTy (CgZ.call_dictZ rfl) (by rfl) T.n_dict PyProof.Rows.Boot.«dict» (pa_cons (pe_callTy CgZ.call_zip2 (by rfl) T.n_zip PyProof.Rows.Boot.«zip» (pa_cons (pe_call (ok5 T) (hr.mono (by first | exact Nat.le_refl _ | decide | omega)) rfl T.D5.mg T.D5.kp T.D5.bd .nil pass0 (pa_cons (pe_fldK (K := K) rfl (pv 0) rfl) (pa_cons (pv 1) pa_nil))) (pa_cons (pv 2) pa_nil))) pa_nil)) pa_nil)))
      (pss_one (ps_ret (pe_make T.mkFrame (okFrame0 T) (hr.mono (by decide)) rfl T.gFrame T.b2500 .nil pass0 (pa_cons (pv 1) (pa_cons (pe_call (ok17 T) (hr.mono (by first | exact Nat.le_refl _ | decide | omega)) rfl T.D17.mg T.D17.kp T.D17.bd .nil pass0 (pa_cons (pe_fldK (K := K) rfl (pv 0) rfl) (pa_cons (pv 1) pa_nil))) (pa_cons (pv 4) (pa_cons (pv 3) pa_nil))))))))), ?_⟩)
  · obtain ⟨r, dx, nd, va, pv, fs, G, n, pr, tb, vals, tg, rfl, _⟩ := h
    rfl
  · obtain ⟨r, dx, nd, va, pv, fs, G, n, pr, tb, vals, tg, rfl, hr0, hf1, hf2, ⟨nkvs, hnd, hn⟩, hG, W, hp, hva, q⟩ := h
    obtain ⟨t, ht, hts⟩ := hn pr (proc_mem hp)
    rw [proc_name hp] at ht hts
    have hzv := len_loc W.b hp
    obtain ⟨p, b, c, xs, rfl, h0, h1, h2, g⟩ := pg_at hG
    walk_at "a8"
    refine fldI hr0 T.clRun T.nr_names hf1 ?_
    refine dgI hnd ht ?_
    refine fldI hr0 T.clRun T.nr_program hf2 ?_
    walk_at "a8"
    refine ⟨_, .inr h1, slA2 hts fun p1 H1 c1 hp1 => ?_⟩
    have hdr : (List.map V.str (varsOf G n)).drop (List.map V.str G.shared).length = (locOf G n).map V.str := by
      rw [varsOf, List.map_append, List.drop_left]
    rw [hdr] at hp1
    walk_at "a8"
    refine ⟨⟨_, hp1⟩, dcT hp1 (fun i acc H => acc = ((locOf G n).take i).foldl (fun acc n => putK acc (Sum.inr n) (V.int 0)) []) (by rw [List.take_zero]; rfl) (fun i acc L H H' _ z => z) (fun i acc H z => by
      have := zero_len ((locOf G n).take i) []
      rw [List.length_take, List.length_nil] at this
      rw [z]; exact sz' (by omega)) ?_ ?_⟩
    · intro i x H2 acc N' N hx c2 w k1 k2
      obtain ⟨m, hm, rfl⟩ := strs_at hx
      walk_at "a8"
      exact k1 (Sum.inr m) (.int 0) _ Chg.refl (by rw [w, take_succ hm, List.foldl_append]; rfl)
    · intro D H2 acc hD c2 hacc w
      rw [List.length_map, List.take_length] at w
      have c12 := c1.trans c2
      have hr2 := c12.get hr0
      have hG2 := hG.chg c12
      walk_at "a8"
      refine ⟨.inr (.inr (.inl ⟨rfl, .inl ⟨_, hacc⟩⟩)), ?_⟩
      refine fldI hr2 T.clRun T.nr_program hf2 ?_
      refine ⟨_, _, _, _, rfl, hG2, hp, fun bp hbp => ?_⟩
      have hva2 := CgZ_SqX_chg hva c12
      refine ⟨true, tb, bp, rfl, ⟨_, sqX_t hbp⟩, ⟨_, hva2⟩, fun Z H3 z0 k3 zat => ?_⟩
      have c3 : Chg [] H2 H3 := Chg.nil k3
      refine ⟨Z, rfl, true, tb, bp, va, zat, pr.params, sqX_t (c3.sqT hbp), vals.map V.int, CgZ_SqX_chg hva2 c3, fun d H4 hd e4 k4 => ?_⟩
      have c4 : Chg [] H2 H4 := Chg.nil fun b o e => by
        have hb : ∀ z, H2 z = none → b ≠ z := fun z hz q => by rw [q, hz] at e; cases e
        exact k4 b o (hb _ (z0 _ (.inl rfl))) (hb _ (z0 _ (.inr (.inr (.inl rfl))))) (hb _ (z0 _ (.inr (.inr (.inr (.inl rfl)))))) (hb _ (z0 _ (.inr (.inr (.inr (.inr rfl)))))) (k3 b o e)
      walk_at "a8"
      have hpl := (W.b.pr pr (proc_mem hp)).par
      have zl := zero_len (locOf G n) []
      rw [List.length_nil] at zl
      have zz : ((pr.params.map Sum.inr).zip (vals.map V.int) : List (Key × V)).length ≤ 5 := by rw [List.length_zip, List.length_map]; omega
      rw [mergeK_app ((pr.params.map Sum.inr).zip (vals.map V.int)) [] (zip_nd (W.pn pr (proc_mem hp)) (vals.map V.int)), List.nil_append] at e4
      refine ⟨_, c4.get hacc, _, .inl e4, ?_, by rw [w]; exact sz (by omega), ?_⟩
      · intro z
        rw [← z] at hd
        have := c3.back hd
        rw [hacc] at this; cases this
      have c5 : Chg [] H1 (upd H4 D (.dK (mergeK acc ((pr.params.map Sum.inr).zip (vals.map V.int))))) := (c2.trans c4).own hD
      have c15 := c1.trans c5
      have hD5 : upd H4 D (.dK (mergeK acc ((pr.params.map Sum.inr).zip (vals.map V.int)))) D = some (.dK (mergeK acc ((pr.params.map Sum.inr).zip (vals.map V.int)))) := upd_same
      generalize upd H4 D (.dK (mergeK acc ((pr.params.map Sum.inr).zip (vals.map V.int)))) = H5 at c5 c15 hD5 ⊢
      refine fldI (c15.get hr0) T.clRun T.nr_program hf2 ?_
      refine ⟨_, _, _, _, rfl, hG.chg c15, hp, ?_⟩
      intro x dx2 hx hdx ne
      refine ⟨x, dx2, D, n, _, optV tg, rfl, upd_same, rfl, ?_⟩
      have hxD : D ≠ x := fun z => by rw [z, hx] at hD5; cases hD5
      have hdD : D ≠ dx2 := fun z => by rw [z, hdx] at hD5; cases hD5
      refine q ⟨x, dx2, D, _⟩ _ (((c15.thenNew hdx).thenNew (by rw [upd_ne (Ne.symm ne)]; exact hx)).own (c15.back hx)) (c15.back hx) (c1.back hD) (Ne.symm hxD) ?_ (by rw [upd_ne hxD, upd_ne hxD, upd_ne hdD]; exact hD5) ?_
      · rw [upd_same]
        unfold frC frameOf
        rw [proc_body hp]
      · refine ⟨by have := length_mergeK ((pr.params.map Sum.inr).zip (vals.map V.int) : List (Key × V)) acc; rw [w] at this ⊢; exact Nat.le_trans this (by omega), fun m => ?_⟩
        unfold frameOf
        rw [proc_params hp]
        refine rep_bind pr.params vals acc (locOf G n) zeroK (fun m hm => par_loc (by rw [proc_params hp]; exact hm)) (fun m => ?_) m
        rw [w, rep_zero]
        by_cases e : m ∈ locOf G n
        · rw [if_pos e, if_pos e]; rfl
        · rw [if_neg e, if_neg e]; rfl
end
end Cc
set_option maxRecDepth 100000
set_option maxHeartbeats 2000000
/-! What every configuration keeps. -/
namespace Cc
open PySem PySem.Spec PyProof.Rows L2
structure FrOk (G : Pg) (f : Fr) : Prop where
  pr : ∃ pr, procOf G f.name = some pr ∧ ∀ p, f.place = some p → ∃ s, stmtAt pr.body p = some s
  kb : ∀ n ∈ locOf G f.name, Sml (f.kept n)
def TgOk (G : Pg) : List Fr → Prop
  | f :: g :: r => (∀ t, f.target = some t → t ∈ varsOf G g.name) ∧ g.place ≠ none ∧ TgOk G (g :: r)
  | _ => True
structure CfOk (G : Pg) (c : Cf) : Prop where
  fr : ∀ f ∈ c.fs, FrOk G f
  tg : TgOk G c.fs
  sh : ∀ n ∈ G.shared, Sml (c.sh n)
  len : c.fs.length ≤ 12
  told : c.told.length ≤ c.steps.length
  live : c.ending = none → c.fs ≠ []
theorem CfOk.look {G : Pg} {c : Cf} {f : Fr} {r : List Fr} (h : CfOk G c) (e : c.fs = f :: r) : ∀ n ∈ varsOf G f.name, Sml (Cc.look G c.sh f.kept n) := by
  intro n hn
  unfold Cc.look
  by_cases z : n ∈ G.shared
  · rw [if_pos z]; exact h.sh n z
  · rw [if_neg z]; exact (h.fr f (by rw [e]; simp)).kb n ((List.mem_append.mp hn).resolve_left z)
theorem adv_eq {G : Pg} {c : Cf} {f : Fr} {r : List Fr} (e : c.fs = f :: r) : adv G c = { c with fs := { f with place := nextF G f } :: r } := by
  unfold adv; rw [e]
theorem TgOk.top {G : Pg} {f f' : Fr} {r : List Fr} (h : TgOk G (f :: r)) (e : f'.target = f.target) : TgOk G (f' :: r) := by
  cases r with
  | nil => exact True.intro
  | cons g r => exact ⟨fun t ht => h.1 t (by rw [← e]; exact ht), h.2⟩
/-- the top is changed -/
theorem CfOk.setTop {G : Pg} {c c' : Cf} {f f' : Fr} {r : List Fr} (h : CfOk G c) (e : c.fs = f :: r) (e' : c'.fs = f' :: r) (et : f'.target = f.target) (hf : FrOk G f') (hs : ∀ n ∈ G.shared, Sml (c'.sh n)) (ht : c'.told.length ≤ c'.steps.length) : CfOk G c' where
  fr := fun x hx => by
    rw [e'] at hx
    rcases List.mem_cons.mp hx with z | hx
    · rw [z]; exact hf
    · exact h.fr x (by rw [e]; exact List.mem_cons_of_mem _ hx)
  tg := by
    have z := h.tg
    rw [e] at z
    rw [e']; exact z.top et
  sh := hs
  len := by
    have z := h.len
    rw [e] at z
    rw [e']; exact z
  told := ht
  live := fun _ => by rw [e']; simp
theorem CfOk.store {G : Pg} {c : Cf} {f : Fr} {r : List Fr} {n : Str} {v : Int} (h : CfOk G c) (e : c.fs = f :: r) (hn : n ∈ varsOf G f.name) (hv : Sml v) : CfOk G (Cc.store G c f r n v) := by
  have hf := h.fr f (by rw [e]; simp)
  unfold Cc.store
  split
  · refine h.setTop (f' := f) e rfl rfl hf (fun m hm => ?_) h.told
    show Sml (upf c.sh n v m)
    unfold upf
    split
    · exact hv
    · exact h.sh m hm
  · refine h.setTop (f' := { f with kept := upf f.kept n v }) e rfl rfl ⟨hf.pr, fun m hm => ?_⟩ h.sh h.told
    show Sml (upf f.kept n v m)
    unfold upf
    split
    · exact hv
    · exact hf.kb m hm
theorem store_fs {G : Pg} {c : Cf} {f : Fr} {r : List Fr} {n : Str} {v : Int} : ∃ f', (Cc.store G c f r n v).fs = f' :: r ∧ f'.name = f.name ∧ f'.place = f.place ∧ f'.target = f.target := by
  unfold Cc.store
  split
  · exact ⟨f, rfl, rfl, rfl, rfl⟩
  · exact ⟨_, rfl, rfl, rfl, rfl⟩
theorem bodyOf_eq {G : Pg} {n : Str} {pr : Pr} (h : procOf G n = some pr) : bodyOf G n = pr.body := by rw [bodyOf, h]; rfl
theorem CfOk.place {G : Pg} {c : Cf} {f : Fr} {r : List Fr} {pr : Pr} (h : CfOk G c) (e : c.fs = f :: r) (hp : procOf G f.name = some pr) (q : Option (List Nat)) (hq : ∀ p, q = some p → ∃ s, stmtAt pr.body p = some s) : CfOk G { c with fs := { f with place := q } :: r } :=
  h.setTop (f' := { f with place := q }) e rfl rfl ⟨⟨pr, hp, hq⟩, (h.fr f (by rw [e]; simp)).kb⟩ h.sh h.told
theorem CfOk.adv {G : Pg} {c : Cf} {f : Fr} {r : List Fr} (h : CfOk G c) (e : c.fs = f :: r) : CfOk G (Cc.adv G c) := by
  obtain ⟨pr, hp, hs⟩ := (h.fr f (by rw [e]; simp)).pr
  rw [adv_eq e]
  refine h.place e hp _ fun p ep => ?_
  unfold nextF at ep
  cases hpl : f.place with
  | none => rw [hpl] at ep; cases ep
  | some p0 =>
    rw [hpl] at ep
    obtain ⟨s, hs0⟩ := hs p0 hpl
    rw [bodyOf_eq hp] at ep
    exact nextOf_stmt ep hs0
theorem leave_one {G : Pg} {c : Cf} {v : Int} {f : Fr} (e : c.fs = [f]) : leave G v c = { c with fs := [], ending := some (.tup [.str "done"]) } := by unfold leave; rw [e]
theorem leave_none {G : Pg} {c : Cf} {v : Int} {f g : Fr} {r : List Fr} (e : c.fs = f :: g :: r) (h : f.target = none) : leave G v c = adv G { c with fs := g :: r } := by unfold leave; rw [e]; simp only [h]
theorem leave_some {G : Pg} {c : Cf} {v : Int} {f g : Fr} {r : List Fr} {t : Str} (e : c.fs = f :: g :: r) (h : f.target = some t) : leave G v c = adv G (store G c g r t v) := by unfold leave; rw [e]; simp only [h]
theorem CfOk.leave {G : Pg} {c : Cf} {v : Int} (h : CfOk G c) (hv : Sml v) (hn : c.fs ≠ []) : CfOk G (Cc.leave G v c) := by
  match hc : c.fs with
  | [] => exact absurd hc hn
  | [f] =>
    rw [leave_one hc]
    exact { fr := (fun x hx => nomatch hx), tg := True.intro, sh := h.sh, len := Nat.zero_le _, told := h.told, live := (fun z => nomatch z) }
  | f :: g :: r =>
    have ht := h.tg
    rw [hc] at ht
    have h1 : CfOk G { c with fs := g :: r } := ⟨fun x hx => h.fr x (by rw [hc]; exact List.mem_cons_of_mem _ hx), ht.2.2, h.sh, by have := h.len; rw [hc] at this; simp at this ⊢; omega, h.told, fun _ => by simp⟩
    cases he : f.target with
    | none => rw [leave_none hc he]; exact CfOk.adv h1 rfl
    | some t =>
      have h2 := h1.store (n := t) (v := v) rfl (ht.1 t he) hv
      obtain ⟨f', e, _⟩ := store_fs (G := G) (c := c) (f := g) (r := r) (n := t) (v := v)
      rw [leave_some hc he]
      exact CfOk.adv h2 e
theorem sml0 : Sml 0 := ⟨by decide, by decide⟩
theorem CfOk.norm {G : Pg} {c : Cf} (h : CfOk G c) : CfOk G (Cc.norm G c) := by
  induction hn : c.fs.length using Nat.strongRecOn generalizing c with
  | _ n ih =>
    by_cases ho : isOut c = true
    · rw [norm_out ho]
      exact ih _ (by rw [← hn]; exact leave_len G 0 c (isOut_fs ho)) (h.leave sml0 (isOut_fs ho)) rfl
    · rw [norm_in (by simpa using ho)]; exact h
theorem norm_done {G : Pg} {c : Cf} : isOut (norm G c) = false := by
  induction hn : c.fs.length using Nat.strongRecOn generalizing c with
  | _ n ih =>
    by_cases ho : isOut c = true
    · rw [norm_out ho]
      exact ih _ (by rw [← hn]; exact leave_len G 0 c (isOut_fs ho)) rfl
    · rw [norm_in (by simpa using ho)]; simpa using ho
theorem blockPlace_stmt {B : List Sm} {p o : List Nat} {s : Sm} {i : Nat} (hs : stmtAt B p = some s) (hi : i < (blocksOf s).length) (h : blockPlace B p s i = some o) : ∃ s', stmtAt B o = some s' := by
  obtain ⟨op, _⟩ := stmtAt_inv hs
  obtain ⟨q, k, rfl, eq⟩ := path_split op
  unfold blockPlace at h
  rw [List.getElem?_eq_getElem hi, Option.getD_some] at h
  split at h
  · next hl =>
    cases h
    have e1 : blockAt B (q ++ [k, i]) = some (blocksOf s)[i] := by rw [blockAt_in eq hs, List.getElem?_eq_getElem hi]
    refine ⟨(blocksOf s)[i][0], ?_⟩
    rw [List.append_assoc]
    show stmtAt B (q ++ ([k, i] ++ [0])) = _
    rw [← List.append_assoc, stmtAt_app (by rw [List.length_append]; simp; omega) e1]
    exact List.getElem?_eq_getElem hl
  · split at h
    · cases h; exact ⟨s, hs⟩
    · exact nextOf_stmt h hs
theorem firstPlace_stmt {B : List Sm} {p : List Nat} (h : firstPlace B = some p) : ∃ s, stmtAt B p = some s := by
  unfold firstPlace at h
  split at h
  · next hl =>
    cases h
    refine ⟨B[0], ?_⟩
    show stmtAt B ([] ++ [0]) = _
    rw [stmtAt_app (q := []) (b := B) rfl (by rw [blockAt]; intro i j r z; cases z)]
    exact List.getElem?_eq_getElem hl
  · cases h
theorem bindK_sml : ∀ {ps : List Str} {vs : List Int} {f : Sto}, (∀ n, Sml (f n)) → (∀ v ∈ vs, Sml v) → ∀ n, Sml (bindK ps vs f n)
  | [], vs, f, hf, hv, n => by rw [bindK]; exact hf n; intro a b c d e; cases e
  | p :: ps, [], f, hf, hv, n => by rw [bindK]; exact hf n; intro a b c d e z; cases z
  | p :: ps, v :: vs, f, hf, hv, n => by
    rw [bindK]
    refine bindK_sml (fun m => ?_) (fun x hx => hv x (List.mem_cons_of_mem _ hx)) n
    unfold upf
    split
    · exact hv v (by simp)
    · exact hf m
theorem frameOf_ok {G : Pg} {n : Str} {pr : Pr} {vs : List Int} {t : Option Str} (hp : procOf G n = some pr) (hv : ∀ v ∈ vs, Sml v) : FrOk G (frameOf G n vs t) :=
  ⟨⟨pr, hp, fun p h => by
    have h : firstPlace (bodyOf G n) = some p := h
    rw [bodyOf_eq hp] at h
    exact firstPlace_stmt h⟩, fun m _ => bindK_sml (fun _ => sml0) hv m⟩
theorem CfOk.push {G : Pg} {c : Cf} {f g : Fr} {r : List Fr} (h : CfOk G c) (e : c.fs = g :: r) (hf : FrOk G f) (ht : ∀ t, f.target = some t → t ∈ varsOf G g.name) (hg : g.place ≠ none) (hl : c.fs.length < 12) : CfOk G { c with fs := f :: c.fs } where
  fr := fun x hx => by
    rcases List.mem_cons.mp hx with z | hx
    · rw [z]; exact hf
    · exact h.fr x hx
  tg := by
    have z := h.tg
    rw [e] at z ⊢
    exact ⟨ht, hg, z⟩
  sh := h.sh
  len := by show c.fs.length + 1 ≤ 12; omega
  told := h.told
  live := fun _ => by simp
theorem CfOk.endd {G : Pg} {c : Cf} (h : CfOk G c) (d : D) : CfOk G { c with ending := some d } := ⟨h.fr, h.tg, h.sh, h.len, h.told, fun z => nomatch z⟩
theorem CfOk.keepS {G : Pg} {c : Cf} (h : CfOk G c) (d : D) : CfOk G { c with steps := c.steps ++ [d] } := ⟨h.fr, h.tg, h.sh, h.len, by have := h.told; simp; omega, h.live⟩
theorem init_ok {G : Pg} (W : WF G) : CfOk G (init G) := by
  obtain ⟨pr, hp, he⟩ := W.main
  refine CfOk.norm ⟨fun x hx => ?_, True.intro, fun n _ => sml0, by simp, Nat.le_refl _, fun _ => by simp⟩
  rw [List.mem_singleton.mp hx]
  exact frameOf_ok hp fun v hv => nomatch hv
end Cc
set_option maxRecDepth 100000
set_option maxHeartbeats 4000000
/-! leave, leave_ended -/
namespace Cc
open PySem PySem.Spec PyProof.Rows L2
theorem runL_len {pv : V} {iv nd : Addr} {u : V} {td sd sh fl : Addr} {e : V} : (runL pv iv nd u td sd sh fl e).length < 1000 := show 9 < 1000 by decide
theorem frL_len {n p : Str} {kd : Addr} {t : V} : (frL n p kd t).length < 1000 := show 4 < 1000 by decide
theorem store_irr {G : Pg} {c : Cf} {X : List Fr} {f : Fr} {r : List Fr} {n : Str} {v : Int} : store G c f r n v = store G { c with fs := X } f r n v := by
  unfold store; split <;> rfl
theorem fa_fl {K : PySem.W.Frag} {a : Nat → Addr} {H0 H : Hp} {G : Pg} {I : List Int} {A : RA} {c : Cf} {e : V} {sv : List V} {skvs : List (Key × V)} {o : FO} {f : Fr} {r : List (FO × Fr)} (R : RunX K a H0 H G I A c e sv skvs ((o, f) :: r)) : o.fa ≠ A.fl := by
  have z := R.nd
  unfold muts at z
  simp only [fAdr_cons, List.nodup_cons, List.mem_cons, not_or] at z
  exact Ne.symm z.2.2.2.2.1.1
theorem procOf_of {G : Pg} {f : Fr} (h : FrOk G f) {p : List Nat} (e : f.place = some p) : ∃ pr s, procOf G f.name = some pr ∧ stmtAt pr.body p = some s := by
  obtain ⟨pr, h1, h2⟩ := h.pr
  obtain ⟨s, hs⟩ := h2 p e
  exact ⟨pr, s, h1, hs⟩
theorem map_inv {l' : List (FO × Fr)} {f : Fr} {r : List Fr} (h : f :: r = l'.map (·.2)) : ∃ o r', l' = (o, f) :: r' ∧ r = r'.map (·.2) := by
  cases l' with
  | nil => cases h
  | cons x r' =>
    obtain ⟨o, f'⟩ := x
    rw [List.map_cons] at h
    cases h
    exact ⟨o, r', rfl, rfl⟩
theorem scs2605 : FnScope ["self", "result", "target", "top"] ["self", "result"] (defScope (mst 26 5)) := ⟨rfl, rfl, rfl, by decide +kernel, rfl, by decide +kernel, by decide +kernel⟩
def spM5 (K : PySem.W.Frag) (a : Nat → Addr) : Sp := fun vs H Q _ => ∃ (H0 : Hp) (G : Pg) (I : List Int) (A : RA) (c : Cf) (o : FO) (f : Fr) (l : List (FO × Fr)) (v : Int), vs = [.ref A.r, .int v] ∧ RunY K a H0 H G I A c ((o, f) :: l) ∧ WF G ∧ CfOk G c ∧ Sml v ∧
  ∀ H' l', RunY K a H0 H' G I A (leave G v c) l' → Q .non H'
section
variable {P : Program} {w : World} {K : PySem.W.Frag} {mg : Str → Option Value} {base : Heap} {a : Nat → Addr} {fd : Nat → FuncData}
theorem okM5 (T : Tx P K mg base a fd) : FnOk P w K mg base CX0 30 (a 2605) (fd 2605) ["self", "result"] (spM5 K a) := by
  refine T.F2605.ok scs2605 (fun vs H Q E h => ?_) (fun cdv A outer s H vs Q E hr h => ⟨_, (pss_cons (ps_set (i := 2) scs2605.nd rfl (Or.inl rfl) (pe_fldK (K := K) rfl (pe_bm0 PySem.F.plainAttrs_list PySem.F.slot_list_pop PySem.F.type_list_pop mt_pop (pe_fldK (K := K) rfl (pv 0) rfl)) rfl))
      (pss_cons (ps_if (pt_not (pt_truth (pe_fldK (K := K) rfl (pv 0) rfl) (by intro _; rfl))) (pss_cons (ps_fld (pv 0) (pe_tup (pa_cons pe_str pa_nil)) rfl)
      (pss_one ps_retN)) pss_nil)
      (pss_cons (ps_set (i := 3) scs2605.nd rfl (Or.inl rfl) (pe_ix (ixLK (K := K) rfl) (pe_fldK (K := K) rfl (pv 0) rfl) (pe_un un_neg pe_int) (fun _ _ => rfl)))
      (pss_cons (ps_if (pt_cmpR op_notN (pv 2) pe_non (nomark _)) (pss_one (ps_expr (pe_meth (pv 0) T.clRun T.M3 (okM3 T) (hr.mono (by first | exact Nat.le_refl _ | decide | omega)) T.bM3 .nil pass0 (pa_cons (pv 2) (pa_cons (pv 1) pa_nil))))) pss_nil)
      (pss_one (ps_fld (pv 3) (pe_call (ok18 T) (hr.mono (by first | exact Nat.le_refl _ | decide | omega)) rfl T.D18.mg T.D18.kp T.D18.bd .nil pass0 (pa_cons (pe_fldK (K := K) rfl (pv 0) rfl) (pa_cons (pe_fldK (K := K) rfl (pv 3) rfl) (pa_cons (pe_fldK (K := K) rfl (pv 3) rfl) pa_nil)))) rfl)))))), ?_⟩)
  · obtain ⟨H0, G, I, A, c, o, f, l, v, rfl, _⟩ := h
    rfl
  · obtain ⟨H0, G, I, A, c, o, f, l, v, rfl, ⟨e, sv, skvs, R⟩, W, ok, hv, q⟩ := h
    have R1 := R.pop
    have h1 : upd H A.fl (.lst (flist l)) o.fa = some (frC (a 25) o f) := by rw [upd_ne (fa_fl R)]; exact R.gtop
    have hdl : (flist ((o, f) :: l)).dropLast = flist l := by rw [flist_cons, List.dropLast_concat]
    have hfs : c.fs = f :: l.map (·.2) := R.fs
    walk_at "a8"
    refine fldI R.gr T.clRun T.nr_frames rfl ?_
    walk_at "a8"
    refine ⟨.inl ⟨rfl, _, SqL.of R.gfl⟩, _, R.gfl, .ref o.fa, by rw [flist_cons]; simp, ?_⟩
    rw [hdl]
    refine fldI h1 T.clFrame T.nf_target rfl ?_
    walk_at "a8"
    refine fldI R1.gr T.clRun T.nr_frames rfl ?_
    refine ⟨!(flist l).isEmpty, .inl ⟨_, SqL.of R1.gfl, rfl⟩, ?_⟩
    cases l with
    | nil =>
      rw [leave_one hfs] at q
      have e0 : (flist ([] : List (FO × Fr))).isEmpty = true := rfl
      simp only [e0]
      walk_at "a8"
      have R2 := R1.chg (Chg.new (L := []) (o := .tup [V.str (Str.ofString "done")]) hpp)
      refine fldWI R2.gr T.clRun T.nr_ending runL_len rfl ?_
      exact q _ [] ⟨_, _, _, R2.endd (d := .tup [.str "done"]) (dat_tup (SqT.of upd_same) (dats_cons dat_str dats_nil)) (fun z => nomatch z)⟩
    | cons x l2 =>
      obtain ⟨o2, g⟩ := x
      have e0 : (flist ((o2, g) :: l2)).isEmpty = false := by rw [flist_cons]; simp
      simp only [e0]
      have htg := ok.tg
      rw [hfs] at htg
      obtain ⟨ht1, ht2, _⟩ := htg
      obtain ⟨p, hpl⟩ : ∃ p, g.place = some p := by
        cases z : g.place with
        | none => exact absurd z ht2
        | some p => exact ⟨p, rfl⟩
      have hgok : FrOk G g := ok.fr g (by rw [hfs]; simp)
      walk_at "a8"
      refine fldI R1.gr T.clRun T.nr_frames rfl ?_
      refine ixL (SqL.of R1.gfl) top_ix ?_
      cases htv : f.target with
      | none =>
        rw [leave_none hfs htv] at q
        simp only [optV]
        obtain ⟨pr, s, hp, hs⟩ := procOf_of hgok hpl
        walk_at "a8"
        refine fldI R1.gr T.clRun T.nr_program rfl ?_
        refine fldI R1.gtop T.clFrame T.nf_name rfl ?_
        refine fldI R1.gtop T.clFrame T.nf_place rfl ?_
        rw [hpl]
        refine ⟨_, _, _, _, _, _, rfl, R1.pg, hp, W.b.pr pr (proc_mem hp), hs, fun H9 c9 => ?_⟩
        have R9 := R1.chg c9
        have hnx : nextF G g = nextOf pr.body p := by
          unfold nextF; rw [hpl]; show nextOf (bodyOf G _) p = _; rw [bodyOf_eq hp]
        have R10 := R9.go (nextF G g)
        rw [hnx] at R10
        walk_at "a8"
        refine fldWI R9.gtop T.clFrame T.nf_place frL_len rfl ?_
        rw [adv_eq (c := { c with fs := g :: l2.map (·.2) }) rfl, hnx] at q
        exact q _ _ ⟨_, _, _, R10⟩
      | some t =>
        rw [leave_some hfs htv] at q
        simp only [optV]
        walk_at "a8"
        refine metI R1.gr rfl ?_
        walk_at "a8"
        refine ⟨H0, G, I, A, _, o2, g, l2, t, v, rfl, ⟨_, _, _, R1⟩, ht1 t htv, fun H3 l3 ⟨e3, sv3, sk3, R3⟩ hadr => ?_⟩
        obtain ⟨g', hg1, hg2, hg3, hg4⟩ := store_fs (G := G) (c := { c with fs := g :: l2.map (·.2) }) (f := g) (r := l2.map (·.2)) (n := t) (v := v)
        have hg1' := hg1.symm.trans R3.fs
        obtain ⟨o3, r3, rfl, hr3⟩ := map_inv hg1'
        have ho3 : o3.fa = o2.fa := by
          have z := congrArg List.head? hadr
          have z : some (adr (o3, g')) = some (adr (o2, g)) := z
          exact congrArg Prod.fst (Option.some.inj z)
        have hpl' : g'.place = some p := by rw [hg3]; exact hpl
        have hgok' : FrOk G g' := ⟨by rw [hg2, hg3]; exact hgok.pr, by
          have okk : CfOk G (store G { c with fs := g :: l2.map (·.2) } g (l2.map (·.2)) t v) := CfOk.store ⟨fun x hx => ok.fr x (by rw [hfs]; exact List.mem_cons_of_mem _ hx), by have z := ok.tg; rw [hfs] at z; exact z.2.2, ok.sh, by have z := ok.len; rw [hfs] at z; simp at z ⊢; omega, ok.told, fun _ => by simp⟩ rfl (ht1 t htv) hv
          exact (okk.fr g' (by rw [hg1]; simp)).kb⟩
        rw [← ho3]
        obtain ⟨pr, s, hp, hs⟩ := procOf_of hgok' hpl'
        walk_at "a8"
        refine fldI R3.gr T.clRun T.nr_program rfl ?_
        refine fldI R3.gtop T.clFrame T.nf_name rfl ?_
        refine fldI R3.gtop T.clFrame T.nf_place rfl ?_
        rw [hpl']
        refine ⟨_, _, _, _, _, _, rfl, R3.pg, hp, W.b.pr pr (proc_mem hp), hs, fun H9 c9 => ?_⟩
        have R9 := R3.chg c9
        have hnx : nextF G g' = nextOf pr.body p := by
          unfold nextF; rw [hpl']; show nextOf (bodyOf G _) p = _; rw [bodyOf_eq hp]
        have R10 := R9.go (nextF G g')
        rw [hnx] at R10
        walk_at "a8"
        refine fldWI R9.gtop T.clFrame T.nf_place frL_len rfl ?_
        rw [store_irr (X := g :: l2.map (·.2)), adv_eq hg1, hnx] at q
        rw [← hr3] at R10
        exact q _ _ ⟨_, _, _, R10⟩
end
end Cc
set_option maxRecDepth 100000
set_option maxHeartbeats 4000000
/-! leave_ended -/
namespace Cc
open PySem PySem.Spec PyProof.Rows L2
theorem out_ne {p : List Nat} (h : p ≠ []) : pathT p ≠ "out" := by
  intro e
  have z := path_parts h
  rw [e] at z
  have z2 : Txt.split (Str.ofString "out") (Str.ofString ".") = [Str.ofString "out"] := by decide +kernel
  rw [z2] at z
  cases p with
  | nil => cases z
  | cons k r =>
    rw [List.map_cons] at z
    have z3 : Str.ofString "out" = numT k := (List.cons.inj z).1
    have z4 : TL.tl (Str.ofString "out") = TL.numL k := by rw [z3, tl_numT]
    have z5 : (111 : Nat) ∈ TL.numL k := by rw [← z4]; decide +kernel
    have := TL.numL_digits k 111 z5
    omega
theorem place_out {o : Option (List Nat)} (h : ∀ p, o = some p → p ≠ []) : decide (placeT o = "out") = o.isNone := by
  cases o with
  | none => rfl
  | some p =>
    exact decide_eq_false (out_ne (h p rfl))
theorem end_none {K : PySem.W.Frag} {H : Hp} {d : Option D} {e : V} (h : EndAt K H d e) : decide (e = V.non) = d.isNone := by
  cases d with
  | none => exact decide_eq_true h
  | some d => exact decide_eq_false h.2
theorem end_iff {K : PySem.W.Frag} {H : Hp} {d : Option D} {e : V} (h : EndAt K H d e) : e = V.non ↔ d = none := by
  cases d with
  | none => exact ⟨fun _ => rfl, fun _ => h⟩
  | some d => exact ⟨fun z => absurd z h.2, fun z => nomatch z⟩
theorem out_iff {o : Option (List Nat)} (h : ∀ p, o = some p → p ≠ []) : placeT o = "out" ↔ o = none := by
  cases o with
  | none => exact ⟨fun _ => rfl, fun _ => rfl⟩
  | some p => exact ⟨fun z => absurd z (out_ne (h p rfl)), fun z => nomatch z⟩
theorem isOut_of {c : Cf} {f : Fr} {r : List Fr} (e : c.fs = f :: r) (h : c.ending = none) (g : f.place = none) : isOut c = true := by
  unfold isOut; rw [e, h, outTop, g]; rfl
theorem isOut_end {c : Cf} (h : c.ending ≠ none) : isOut c = false := by
  unfold isOut
  cases z : c.ending with
  | none => exact absurd z h
  | some d => rfl
theorem isOut_pl {c : Cf} {f : Fr} {r : List Fr} (e : c.fs = f :: r) (g : f.place ≠ none) : isOut c = false := by
  unfold isOut
  rw [e, outTop]
  cases z : f.place with
  | none => exact absurd z g
  | some d => simp
theorem stmt_ne {B : List Sm} {p : List Nat} {s : Sm} (h : stmtAt B p = some s) : p ≠ [] := fun z => by
  have := (stmtAt_inv h).1
  rw [z] at this; simp at this
theorem scs2606 : FnScope ["self"] ["self"] (defScope (mst 26 6)) := ⟨rfl, rfl, rfl, by decide +kernel, rfl, by decide +kernel, by decide +kernel⟩
def spM6 (K : PySem.W.Frag) (a : Nat → Addr) : Sp := fun vs H Q _ => ∃ (H0 : Hp) (G : Pg) (I : List Int) (A : RA) (c : Cf) (l : List (FO × Fr)), vs = [.ref A.r] ∧ RunY K a H0 H G I A c l ∧ WF G ∧ CfOk G c ∧
  ∀ H' l', RunY K a H0 H' G I A (norm G c) l' → Q .non H'
section
variable {P : Program} {w : World} {K : PySem.W.Frag} {mg : Str → Option Value} {base : Heap} {a : Nat → Addr} {fd : Nat → FuncData}
theorem okM6 (T : Tx P K mg base a fd) : FnOk P w K mg base CX0 31 (a 2606) (fd 2606) ["self"] (spM6 K a) := by
  refine T.F2606.ok scs2606 (fun vs H Q E h => ?_) (fun cdv A outer s H vs Q E hr h => ⟨_, (pss_one (ps_while PassesOwn.never (PW.pt (pw_and (pt_cmpR op_isN (pe_fldK (K := K) rfl (pv 0) rfl) pe_non (nomark _)) (pw_and1 (pt_cmpR op_eq (pe_fldK (K := K) rfl (pe_ix (ixLK (K := K) rfl) (pe_fldK (K := K) rfl (pv 0) rfl) (pe_un un_neg pe_int) (fun _ _ => rfl)) rfl) pe_str (nomark _))))) (pss_one (ps_expr (pe_meth (pv 0) T.clRun T.M5 (okM5 T) (hr.mono (by first | exact Nat.le_refl _ | decide | omega)) T.bM5 .nil pass0 (pa_cons pe_int pa_nil)))))), ?_⟩)
  · obtain ⟨H0, G, I, A, c, l, rfl, _⟩ := h
    rfl
  · obtain ⟨H0, G, I, A, c, l, rfl, R, W, ok, q⟩ := h
    refine ⟨fun m σ H => σ = [some (.ref A.r)] ∧ ∃ c' l', RunY K a H0 H G I A c' l' ∧ CfOk G c' ∧ norm G c' = norm G c ∧ c'.fs.length = m, ⟨_, rfl, c, l, R, ok, rfl, rfl⟩, ?_⟩
    rintro m σ H2 ⟨rfl, c', l', ⟨e, sv, skvs, R'⟩, ok', hn, hl⟩
    walk_at "a8"
    refine fldI R'.gr T.clRun T.nr_ending rfl ?_
    by_cases he : c'.ending = none
    · rw [if_pos ((end_iff R'.en).mpr he)]
      obtain ⟨f, r, hfs⟩ : ∃ f r, c'.fs = f :: r := by
        cases z : c'.fs with
        | nil => exact absurd z (ok'.live he)
        | cons f r => exact ⟨f, r, rfl⟩
      obtain ⟨o, r', rfl, hr⟩ := map_inv (hfs.symm.trans R'.fs)
      have hfo := ok'.fr f (by rw [hfs]; simp)
      refine fldI R'.gr T.clRun T.nr_frames rfl ?_
      refine ixL (SqL.of R'.gfl) top_ix ?_
      refine fldI R'.gtop T.clFrame T.nf_place rfl ?_
      walk_at "a8"
      have hne : ∀ p, f.place = some p → p ≠ [] := fun p hp => by
        obtain ⟨pr, s, _, hs⟩ := procOf_of hfo hp
        exact stmt_ne hs
      by_cases hpl : f.place = none
      · rw [if_pos ((out_iff hne).mpr hpl)]
        have ho := isOut_of hfs he hpl
        refine ⟨fun σ' H' => σ' = [some (V.ref A.r)] ∧ ∃ c'' l'', RunY K a H0 H' G I A c'' l'' ∧ CfOk G c'' ∧ norm G c'' = norm G c ∧ c''.fs.length < m, ?_, ?_⟩
        · rintro σ' H' ⟨rfl, c'', l'', h1, h2, h3, h4⟩
          exact ⟨_, h4, rfl, c'', ⟨_, h1⟩, h2, h3, rfl⟩
        · refine metI R'.gr rfl ?_
          refine ⟨H0, G, I, A, c', o, f, r', 0, rfl, ⟨_, _, _, R'⟩, W, ok', sml0, fun H3 l3 R3 => ?_⟩
          exact ⟨rfl, _, l3, R3, ok'.leave sml0 (isOut_fs ho), by rw [← norm_out ho]; exact hn, by rw [← hl]; exact leave_len G 0 c' (isOut_fs ho)⟩
      · rw [if_neg (fun z => hpl ((out_iff hne).mp z))]
        rw [← hn, norm_in (isOut_pl hfs hpl)] at q
        exact q _ _ ⟨_, _, _, R'⟩
    · rw [if_neg (fun z => he ((end_iff R'.en).mp z))]
      rw [← hn, norm_in (isOut_end he)] at q
      exact q _ _ ⟨_, _, _, R'⟩
end
end Cc
set_option maxRecDepth 100000
set_option maxHeartbeats 4000000
/-! call -/
namespace Cc
open PySem PySem.Spec PyProof.Rows L2
def lcXB (g : TG) (te : TE) (vs : List Nat) (σ : L2.St) (J : It) (H1 : Hp) (Q : VK) : Prop := ∀ D, H1 D = none → ∃ Wv : Nat → Nat → Hp → Prop, (∃ m, Wv 0 m (upd H1 D (.lst []))) ∧ ∀ i m H, Wv i m H →
  (J.stop i H ∧ Q (.ref D) H) ∨ (J.go i H ∧ ∃ Nx : Hp → Prop, (∀ H', Nx H' → ∃ m', m' < m ∧ Wv (i + 1) m' H') ∧ ∀ x H', J.yld i H x H' → g x (wipe σ vs) H' fun σ2 H2 => wipe σ2 vs = wipe σ vs ∧
    te σ2 H2 fun y H4 => ∃ acc, H4 D = some (.lst acc) ∧ acc.length < sizeLine ∧ Nx (upd H4 D (.lst (acc ++ [y]))))
theorem tLcX_eq {wi : TI} {g : TG} {te : XK → TE} {vs : List Nat} {W : WX} {σ : L2.St} {H : Hp} {Q : VK} : CgC.tLcX wi g te vs W σ H Q = wi σ H fun J H1 => lcXB g (te (fun cls d H' => W cls d σ H')) vs σ J H1 Q := rfl
theorem lcXT {K : PySem.W.Frag} {a : Addr} {xs : List V} {g : TG} {te : TE} {vs : List Nat} {σ : L2.St} {H1 : Hp} {Q : VK} (h : SqT K H1 a xs) (S : Nat → List V → Hp → Prop) (h0 : S 0 [] H1) (hS : ∀ i acc L H H', Chg L H H' → S i acc H → S i acc H') (hz : ∀ i acc H, S i acc H → acc.length < sizeLine)
    (hs : ∀ i x H acc (N' : V → Hp → Prop), xs[i]? = some x → Chg [] H1 H → S i acc H → (∀ y H4, Chg [] H H4 → S (i + 1) (acc ++ [y]) H4 → N' y H4) →
      g x (wipe σ vs) H fun σ2 H2 => wipe σ2 vs = wipe σ vs ∧ te σ2 H2 N')
    (hd : ∀ D H acc, H1 D = none → Chg [] H1 H → H D = some (.lst acc) → S xs.length acc H → Q (.ref D) H) : lcXB g te vs σ (Itt K a) H1 Q := by
  intro D hD
  refine ⟨fun i m H => m = xs.length - i ∧ i ≤ xs.length ∧ ∃ acc, Chg [] H1 H ∧ H D = some (.lst acc) ∧ S i acc H, ⟨xs.length, by simp, Nat.zero_le _, [], Chg.new hD, upd_same, hS _ _ _ _ _ (Chg.new (L := []) hD) h0⟩, ?_⟩
  rintro i m H ⟨rfl, hi, acc, c, e, w⟩
  by_cases hlt : i < xs.length
  · refine .inr ⟨⟨xs, _, c.sqT h, List.getElem?_eq_getElem hlt⟩, fun H' => ∃ acc, Chg [] H1 H' ∧ H' D = some (.lst acc) ∧ S (i + 1) acc H', fun H' p' => ⟨xs.length - (i + 1), by omega, rfl, hlt, p'⟩, fun x H' y => ?_⟩
    obtain ⟨rfl, y2⟩ := y
    refine hs i x H' acc _ (y2 xs (c.sqT h)) c w (fun y H4 c4 w4 => ⟨acc, c4.get e, hz _ _ _ w, acc ++ [y], chg_lst hD (c.trans c4) (c4.get e) trivial, upd_same, ?_⟩)
    exact hS _ _ [D] _ _ (Chg.put (c4.get e) trivial (by simp)) w4
  · have q : i = xs.length := by omega
    subst q
    exact .inl ⟨⟨xs, c.sqT h, Nat.le_refl _⟩, hd D H acc hD c e w⟩
theorem RunX.fresh {K : PySem.W.Frag} {a : Nat → Addr} {H0 H : Hp} {G : Pg} {I : List Int} {A : RA} {c : Cf} {e : V} {sv : List V} {skvs : List (Key × V)} {l : List (FO × Fr)} (R : RunX K a H0 H G I A c e sv skvs l) {b : Addr} (h : H b = none) : b ∉ muts A l := fun z => by
  rw [← cells_fst (a := a) (told := c.told) (u := c.used) (e := e) (sv := sv) (skvs := skvs)] at z
  obtain ⟨x, hx, e2⟩ := List.mem_map.mp z
  have := R.at_ x hx
  rw [e2, h] at this; cases this
/-! ### one statement, failures apart -/
def callE (G : Pg) (c : Cf) (f : Fr) (q : Str) (es : List Ex) (t : Option Str) : Except Str Cf := match evs (look G c.sh f.kept) es with
  | .error k => .error k
  | .ok vs => .ok (if 12 ≤ c.fs.length then { c with ending := some (.tup [.str "deep"]) } else { c with fs := frameOf G q vs t :: c.fs })
theorem evs_snoc {f : Sto} : ∀ {l : List Ex} {vs : List Int} {e : Ex} {v : Int}, evs f l = .ok vs → ev f e = .ok v → evs f (l ++ [e]) = .ok (vs ++ [v])
  | [], vs, e, v, h, g => by rw [evs] at h; cases h; rw [List.nil_append, evs, g, evs]; rfl
  | x :: l, vs, e, v, h, g => by
    rw [evs] at h
    rw [List.cons_append, evs]
    cases hx : ev f x with
    | error k => rw [hx] at h; cases h
    | ok i =>
      rw [hx] at h
      cases hl : evs f l with
      | error k => simp only [hl] at h; cases h
      | ok ws =>
        simp only [hl] at h
        cases h
        simp only [evs_snoc hl g]
        rfl
theorem evs_err {f : Sto} : ∀ {l r : List Ex} {vs : List Int} {e : Ex} {k : Str}, evs f l = .ok vs → ev f e = .error k → evs f (l ++ e :: r) = .error k
  | [], r, vs, e, k, h, g => by rw [List.nil_append, evs, g]
  | x :: l, r, vs, e, k, h, g => by
    rw [evs] at h
    rw [List.cons_append, evs]
    cases hx : ev f x with
    | error k => rw [hx] at h; cases h
    | ok i =>
      rw [hx] at h
      cases hl : evs f l with
      | error k => simp only [hl] at h; cases h
      | ok ws => simp only [evs_err hl g]
theorem evs_sml {f : Sto} {V : List Str} (b : ∀ n ∈ V, Sml (f n)) : ∀ {l : List Ex} {vs : List Int}, (∀ e ∈ l, okE V e) → evs f l = .ok vs → (∀ v ∈ vs, Sml v) ∧ vs.length = l.length
  | [], vs, _, h => by rw [evs] at h; cases h; exact ⟨fun v hv => (nomatch hv), rfl⟩
  | x :: l, vs, ho, h => by
    rw [evs] at h
    cases hx : ev f x with
    | error k => rw [hx] at h; cases h
    | ok i =>
      rw [hx] at h
      cases hl : evs f l with
      | error k => simp only [hl] at h; cases h
      | ok ws =>
        simp only [hl] at h
        cases h
        obtain ⟨h1, h2⟩ := evs_sml b (fun e he => ho e (List.mem_cons_of_mem _ he)) hl
        refine ⟨fun v hv => ?_, by rw [List.length_cons, List.length_cons, h2]⟩
        rcases List.mem_cons.mp hv with e | hv
        · rw [e]; exact ev_sml b (ho x (by simp)) hx
        · exact h1 v hv
theorem scs2611 : FnScope ["self", "statement", "values", "value"] ["self", "statement"] (defScope (mst 26 11)) := ⟨rfl, rfl, rfl, by decide +kernel, rfl, by decide +kernel, by decide +kernel⟩
def spM11 (K : PySem.W.Frag) (a : Nat → Addr) : Sp := fun vs H Q E => ∃ (H0 : Hp) (G : Pg) (I : List Int) (A : RA) (c : Cf) (o : FO) (f : Fr) (l : List (FO × Fr)) (q : Str) (es : List Ex) (t : Option Str) (v : V), vs = [.ref A.r, v] ∧ RunY K a H0 H G I A c ((o, f) :: l) ∧ WF G ∧ CfOk G c ∧ okS G (varsOf G f.name) (.call q es t) ∧ DatAt K H (Sm.call q es t).d v ∧
  (∀ c', callE G c f q es t = .ok c' → ∀ H' l', RunY K a H0 H' G I A c' l' → Q .non H') ∧ ∀ k, callE G c f q es t = .error k → FailE a E H k
section
variable {P : Program} {w : World} {K : PySem.W.Frag} {mg : Str → Option Value} {base : Heap} {a : Nat → Addr} {fd : Nat → FuncData}
theorem okM11 (T : Tx P K mg base a fd) : FnOk P w K mg base (L2.CX P w) 40 (a 2611) (fd 2611) ["self", "statement"] (spM11 K a) := by
  refine T.F2611.okX scs2611 (fun vs H Q E h => ?_) (fun cdv A outer s H vs Q E hr h => ⟨_, (pss_cons (CgC.ps_setLcX (i := 2) (own := [("value", 3)]) (g := gName 3) (by rfl) rfl rfl (takes_of rfl rfl rfl rfl) scs2611.nd rfl rfl (sw_true rfl rfl rfl (by decide +kernel)) (pi_tup (pe_ix (ixTK (K := K) rfl) (pv 1) pe_int (fun _ _ => rfl))) (blkOk_by (own := [("value", 3)]) (N := ["self", "statement", "values", "value"]) (sc := (defScope (mst 26 11))) (by decide +kernel)) (fun _ _ _ _ _ => (pg_name (i := 3) scs2611.nd rfl (Or.inl rfl))) (fun _ _ _ _ _ E hE => (CgM.pe_methS (E := fun _ => E) (pv 0) T.clRun T.M12 (okM12 T 8) (hr.mono (by decide)) T.bM12 (fun σ => hE σ) (pa_cons (pv 3) pa_nil))))
      (pss_one (ps_if (pt_cmpR op_ge (pe_callB call_len_seq (by rfl) T.n_len PyProof.Rows.Boot.«len» (pa_cons (pe_fldK (K := K) rfl (pv 0) rfl) pa_nil)) (pe_gI rfl T.cMOST_CALLS) (nomark _)) (pss_one (ps_fld (pv 0) (pe_tup (pa_cons pe_str pa_nil)) rfl)) (pss_one (ps_expr (pe_bm PySem.F.plainAttrs_list PySem.F.slot_list_append PySem.F.type_list_append mt_append (pe_fldK (K := K) rfl (pv 0) rfl) (pa_cons (pe_meth (pv 0) T.clRun T.M1 (okM1 T) (hr.mono (by first | exact Nat.le_refl _ | decide | omega)) T.bM1 .nil pass0 (pa_cons (pe_ix (ixTK (K := K) rfl) (pv 1) pe_int (fun _ _ => rfl)) (pa_cons (pv 2) (pa_cons (pe_ix (ixTK (K := K) rfl) (pv 1) pe_int (fun _ _ => rfl)) pa_nil)))) pa_nil))))))), ?_⟩)
  · obtain ⟨H0, G, I, A, c, o, f, l, q, es, t, v, rfl, _⟩ := h
    rfl
  · obtain ⟨H0, G, I, A, c, o, f, l, q, es, t, v, rfl, R, W, ok, hok, hd, q1, qe⟩ := h
    obtain ⟨e, sv, skvs, R'⟩ := id R
    have hfs : c.fs = f :: l.map (·.2) := R'.fs
    obtain ⟨⟨pq, hpq, hlen⟩, hes, htg⟩ := hok
    obtain ⟨p, xs, rfl, h0, g⟩ := DatAt.tup_inv hd
    obtain ⟨x0, r, rfl, h1, g⟩ := g.cons_inv
    obtain ⟨x1, r, rfl, h2, g⟩ := g.cons_inv
    obtain ⟨x2, r, rfl, h3, g⟩ := g.cons_inv
    obtain ⟨x3, r, rfl, h4, g⟩ := g.cons_inv
    cases g.nil_inv
    cases dat_str_inv h1
    cases dat_str_inv h2
    cases dat_opt h4
    obtain ⟨ta, txs, rfl, hta, htx⟩ := DatAt.tup_inv h3
    have hlook := ok.look hfs
    walk_at "a9"
    refine ⟨⟨_, hta⟩, lcXT hta (fun i acc H => ∃ vals, evs (look G c.sh f.kept) (es.take i) = .ok vals ∧ acc = vals.map V.int ∧ vals.length ≤ i) ⟨[], by rw [List.take_zero, evs], rfl, Nat.le_refl _⟩ (fun i acc L H H' _ z => z) (fun i acc H z => ?_) ?_ ?_⟩
    · obtain ⟨vals, hv, hacc, hvl⟩ := z
      have z1 := (evs_sml hlook (fun e he => (hes e (List.mem_of_mem_take he)).1) hv).2
      rw [List.length_take] at z1
      have z2 := (W.b.pr pq (proc_mem hpq)).par
      rw [hacc, List.length_map]; exact sz' (by omega)
    · intro i x H2 acc N' hx c2 ⟨vals, hv, hacc, hvl⟩ k1
      obtain ⟨d, hd, hdx⟩ := htx.at hx
      rw [List.getElem?_map] at hd
      cases hpi : es[i]? with
      | none => rw [hpi] at hd; cases hd
      | some ei =>
        rw [hpi] at hd
        cases hd
        have hei := hes ei (List.mem_of_getElem? hpi)
        have R2 := R.chg c2
        obtain ⟨e2, sv2, sk2, R2'⟩ := id R2
        have hi : i < es.length := (List.getElem?_eq_some_iff.mp hpi).1
        walk_at "a8"
        refine metI R2'.gr rfl ?_
        walk_at "a8"
        refine ⟨H0, G, I, A, c, o, f, l, ei, _, rfl, R2, hdx.chg c2, hei.1, hei.2, hlook, fun j hj sj H3 c3 => k1 _ _ c3 ⟨vals ++ [j], ?_, ?_, ?_⟩, fun k hk => (qe k ?_).chg c2⟩
        · rw [take_succ hpi]; exact evs_snoc hv hj
        · rw [hacc, List.map_append]; rfl
        · rw [List.length_append, List.length_singleton]; omega
        · have e : es = es.take i ++ ei :: es.drop (i + 1) := by
            rw [← (List.getElem?_eq_some_iff.mp hpi).2, ← List.drop_eq_getElem_cons hi, List.take_append_drop]
          unfold callE
          rw [e, evs_err hv hk]
    · intro D H2 acc hD c2 hacc ⟨vals, hv, haccv, hvl⟩
      have htl : txs.length = es.length := by rw [htx.len, List.length_map]
      rw [htl, List.take_length] at hv
      obtain ⟨hvs, hvn⟩ := evs_sml hlook (fun e he => (hes e he).1) hv
      have q2 := q1 _ (by unfold callE; rw [hv])
      have R2' := R'.chg c2
      have hfl : (flist ((o, f) :: l)).length = c.fs.length := by rw [flist_len, hfs]; simp
      walk_at "a8"
      refine fldI R2'.gr T.clRun T.nr_frames rfl ?_
      refine ⟨_, rfl, _, .inl (SqL.of R2'.gfl), ?_⟩
      rw [hfl]
      walk_at "a8"
      by_cases h12 : 12 ≤ c.fs.length
      · rw [if_pos (by omega)]
        rw [if_pos h12] at q2
        walk_at "a8"
        have R3 := R2'.chg (Chg.new (L := []) (o := .tup [V.str (Str.ofString "deep")]) hpp)
        refine fldWI R3.gr T.clRun T.nr_ending runL_len rfl ?_
        exact q2 _ _ ⟨_, _, _, R3.endd (d := .tup [.str "deep"]) (dat_tup (SqT.of upd_same) (dats_cons dat_str dats_nil)) (fun z => nomatch z)⟩
      · rw [if_neg (by omega)]
        rw [if_neg h12] at q2
        walk_at "a8"
        refine fldI R2'.gr T.clRun T.nr_frames rfl ?_
        refine ⟨.inl ⟨rfl, _, SqL.of R2'.gfl⟩, ?_⟩
        refine metI R2'.gr rfl ?_
        refine ixT (c2.sqT h0) rfl ?_
        refine ixT (c2.sqT h0) rfl ?_
        refine ⟨A.r, A.dx, A.nd, D, A.pv, _, G, q, pq, false, vals, t, rfl, R2'.gr, rfl, rfl, R2'.nm, R2'.pg, W, hpq, sqX_f (SqL.of (by rw [hacc, haccv])), fun o3 H3 c3 hn1 hn2 hne hf1 hf2 hrep => ?_⟩
        have R3 := R2'.chg c3
        obtain ⟨nk, hnk, _⟩ := R2'.nm
        refine ⟨A.fl, rfl, _, R3.gfl, sz' (by rw [hfl]; omega), ?_⟩
        exact q2 _ _ ⟨_, _, _, R3.push (o := o3) (f := frameOf G q vals t) hf1 hf2 (R2'.fresh hn1) (R2'.fresh hn2) hne (R2'.c0.back hn1) (R2'.c0.back hn2) (fun z => by rw [z, hn1] at hnk; cases hnk) (fun z => by rw [z, hn2] at hnk; cases hnk) hrep⟩
end
end Cc
set_option maxRecDepth 100000
set_option maxHeartbeats 4000000
/-! branch, simple -/
namespace Cc
open PySem PySem.Spec PyProof.Rows L2
def branchE (G : Pg) (c : Cf) (f : Fr) (rest : List Fr) (p : List Nat) (s : Sm) : Except Str Cf := match s with
  | .ite b _ _ => match hold (look G c.sh f.kept) b with
    | .error k => .error k
    | .ok t => .ok (goto c f rest (blockPlace (bodyOf G f.name) p s (if t = true then 0 else 1)))
  | .whl b _ => match hold (look G c.sh f.kept) b with
    | .error k => .error k
    | .ok t => .ok (if t = true then goto c f rest (blockPlace (bodyOf G f.name) p s 0) else adv G c)
  | _ => .ok c
def isBr : Sm → Bool
  | .ite _ _ _ => true
  | .whl _ _ => true
  | _ => false
theorem scs2610 : FnScope ["self", "top", "statement"] ["self", "top", "statement"] (defScope (mst 26 10)) := ⟨rfl, rfl, rfl, by decide +kernel, rfl, by decide +kernel, by decide +kernel⟩
def spM10 (K : PySem.W.Frag) (a : Nat → Addr) : Sp := fun vs H Q E => ∃ (H0 : Hp) (G : Pg) (I : List Int) (A : RA) (c : Cf) (o : FO) (f : Fr) (l : List (FO × Fr)) (s : Sm) (p : List Nat) (pr : Pr) (v : V), vs = [.ref A.r, .ref o.fa, v] ∧ RunY K a H0 H G I A c ((o, f) :: l) ∧ WF G ∧ CfOk G c ∧ okS G (varsOf G f.name) s ∧ isBr s = true ∧ procOf G f.name = some pr ∧ f.place = some p ∧ stmtAt pr.body p = some s ∧ DatAt K H s.d v ∧
  (∀ c', branchE G c f (l.map (·.2)) p s = .ok c' → ∀ H' l', RunY K a H0 H' G I A c' l' → Q .non H') ∧ ∀ k, branchE G c f (l.map (·.2)) p s = .error k → FailE a E H k
section
variable {P : Program} {w : World} {K : PySem.W.Frag} {mg : Str → Option Value} {base : Heap} {a : Nat → Addr} {fd : Nat → FuncData}
theorem okM10 (T : Tx P K mg base a fd) : FnOk P w K mg base (L2.CX P w) 40 (a 2610) (fd 2610) ["self", "top", "statement"] (spM10 K a) := by
  refine T.F2610.okX scs2610 (fun vs H Q E h => ?_) (fun cdv A outer s H vs Q E hr h => ⟨_, (pss_one (ps_if (pt_val (CgM.pe_methS (pv 0) T.clRun T.M13 (okM13 T 8) (hr.mono (by first | exact Nat.le_refl _ | decide | omega)) T.bM13 (fun σ => passAt (takes_of rfl rfl rfl rfl) σ) (pa_cons (pe_ix (ixTK (K := K) rfl) (pv 2) pe_int (fun _ _ => rfl)) pa_nil))) (pss_one (ps_fld (pv 1) (pe_call (ok20 T) (hr.mono (by first | exact Nat.le_refl _ | decide | omega)) rfl T.D20.mg T.D20.kp T.D20.bd .nil pass0 (pa_cons (pe_fldK (K := K) rfl (pv 0) rfl) (pa_cons (pe_fldK (K := K) rfl (pv 1) rfl) (pa_cons (pe_fldK (K := K) rfl (pv 1) rfl) (pa_cons pe_int pa_nil))))) rfl)) (pss_one (ps_if (pt_cmpR op_eq (pe_ix (ixTK (K := K) rfl) (pv 2) pe_int (fun _ _ => rfl)) pe_str (nomark _)) (pss_one (ps_fld (pv 1) (pe_call (ok20 T) (hr.mono (by first | exact Nat.le_refl _ | decide | omega)) rfl T.D20.mg T.D20.kp T.D20.bd .nil pass0 (pa_cons (pe_fldK (K := K) rfl (pv 0) rfl) (pa_cons (pe_fldK (K := K) rfl (pv 1) rfl) (pa_cons (pe_fldK (K := K) rfl (pv 1) rfl) (pa_cons pe_int pa_nil))))) rfl)) (pss_one (ps_fld (pv 1) (pe_call (ok18 T) (hr.mono (by first | exact Nat.le_refl _ | decide | omega)) rfl T.D18.mg T.D18.kp T.D18.bd .nil pass0 (pa_cons (pe_fldK (K := K) rfl (pv 0) rfl) (pa_cons (pe_fldK (K := K) rfl (pv 1) rfl) (pa_cons (pe_fldK (K := K) rfl (pv 1) rfl) pa_nil)))) rfl)))))), ?_⟩)
  · obtain ⟨H0, G, I, A, c, o, f, l, s, p, pr, v, rfl, _⟩ := h
    rfl
  · obtain ⟨H0, G, I, A, c, o, f, l, s, p, pr, v, rfl, R, W, ok, hok, hbr, hp, hpl, hs, hd, q, qe⟩ := h
    obtain ⟨e, sv, skvs, R'⟩ := id R
    have hfs : c.fs = f :: l.map (·.2) := R'.fs
    have hlook := ok.look hfs
    have hbo := bodyOf_eq hp
    cases s with
    | ite b x y =>
      obtain ⟨tp, xs, rfl, h0, g⟩ := DatAt.tup_inv hd
      obtain ⟨x0, r, rfl, h1, g⟩ := g.cons_inv
      obtain ⟨x1, r, rfl, h2, g⟩ := g.cons_inv
      obtain ⟨x2, r, rfl, h3, g⟩ := g.cons_inv
      obtain ⟨x3, r, rfl, h4, g⟩ := g.cons_inv
      cases g.nil_inv
      cases dat_str_inv h1
      walk_at "a8"
      refine metI R'.gr rfl (ixT h0 rfl ?_)
      refine ⟨H0, G, I, A, c, o, f, l, b, x1, rfl, R, h2, hok.1, hok.2, hlook, fun i hi H2 c2 => ?_, fun k hk => qe k (by simp only [branchE, hk])⟩
      have q2 := q _ (by simp only [branchE, hi]; rfl)
      rw [hbo] at q2
      have R2' := R'.chg c2
      have h02 := c2.sqT h0
      cases i with
      | true =>
        walk_at "a8"
        refine fldI R2'.gr T.clRun T.nr_program rfl ?_
        refine fldI R2'.gtop T.clFrame T.nf_name rfl ?_
        refine fldI R2'.gtop T.clFrame T.nf_place rfl ?_
        rw [hpl]
        refine ⟨_, _, _, _, _, _, 0, _, rfl, R2'.pg, hp, W.b.pr pr (proc_mem hp), hs, rfl, fun H9 c9 => ?_⟩
        have R9 := R2'.chg c9
        have R10 := R9.go (blockPlace pr.body p (.ite b x y) 0)
        walk_at "a8"
        refine fldWI R9.gtop T.clFrame T.nf_place frL_len rfl ?_
        exact q2 _ _ ⟨_, _, _, R10⟩
      | false =>
        walk_at "a8"
        refine fldI R2'.gr T.clRun T.nr_program rfl ?_
        refine fldI R2'.gtop T.clFrame T.nf_name rfl ?_
        refine fldI R2'.gtop T.clFrame T.nf_place rfl ?_
        rw [hpl]
        refine ⟨_, _, _, _, _, _, 1, _, rfl, R2'.pg, hp, W.b.pr pr (proc_mem hp), hs, rfl, fun H9 c9 => ?_⟩
        have R9 := R2'.chg c9
        have R10 := R9.go (blockPlace pr.body p (.ite b x y) 1)
        walk_at "a8"
        refine fldWI R9.gtop T.clFrame T.nf_place frL_len rfl ?_
        exact q2 _ _ ⟨_, _, _, R10⟩
    | whl b x =>
      obtain ⟨tp, xs, rfl, h0, g⟩ := DatAt.tup_inv hd
      obtain ⟨x0, r, rfl, h1, g⟩ := g.cons_inv
      obtain ⟨x1, r, rfl, h2, g⟩ := g.cons_inv
      obtain ⟨x2, r, rfl, h3, g⟩ := g.cons_inv
      cases g.nil_inv
      cases dat_str_inv h1
      walk_at "a8"
      refine metI R'.gr rfl (ixT h0 rfl ?_)
      refine ⟨H0, G, I, A, c, o, f, l, b, x1, rfl, R, h2, hok.1, hok.2, hlook, fun i hi H2 c2 => ?_, fun k hk => qe k (by simp only [branchE, hk])⟩
      have q2 := q _ (by simp only [branchE, hi]; rfl)
      rw [hbo] at q2
      have R2' := R'.chg c2
      have h02 := c2.sqT h0
      cases i with
      | true =>
        walk_at "a8"
        refine fldI R2'.gr T.clRun T.nr_program rfl ?_
        refine fldI R2'.gtop T.clFrame T.nf_name rfl ?_
        refine fldI R2'.gtop T.clFrame T.nf_place rfl ?_
        rw [hpl]
        refine ⟨_, _, _, _, _, _, 0, _, rfl, R2'.pg, hp, W.b.pr pr (proc_mem hp), hs, rfl, fun H9 c9 => ?_⟩
        have R9 := R2'.chg c9
        have R10 := R9.go (blockPlace pr.body p (.whl b x) 0)
        walk_at "a8"
        refine fldWI R9.gtop T.clFrame T.nf_place frL_len rfl ?_
        exact q2 _ _ ⟨_, _, _, R10⟩
      | false =>
        walk_at "a8"
        refine fldI R2'.gr T.clRun T.nr_program rfl ?_
        refine fldI R2'.gtop T.clFrame T.nf_name rfl ?_
        refine fldI R2'.gtop T.clFrame T.nf_place rfl ?_
        rw [hpl]
        refine ⟨_, _, _, _, _, _, rfl, R2'.pg, hp, W.b.pr pr (proc_mem hp), hs, fun H9 c9 => ?_⟩
        have R9 := R2'.chg c9
        have hnx : nextF G f = nextOf pr.body p := by
          unfold nextF; rw [hpl]; show nextOf (bodyOf G _) p = _; rw [bodyOf_eq hp]
        have R10 := R9.go (nextF G f)
        rw [hnx] at R10
        walk_at "a8"
        refine fldWI R9.gtop T.clFrame T.nf_place frL_len rfl ?_
        simp only [Bool.false_eq_true, if_false] at q2
        rw [adv_eq hfs, hnx] at q2
        exact q2 _ _ ⟨_, _, _, R10⟩
    | _ => cases hbr
end
end Cc
set_option maxRecDepth 100000
set_option maxHeartbeats 4000000
/-! simple -/
namespace Cc
open PySem PySem.Spec PyProof.Rows L2
def simpleE (G : Pg) (I : List Int) (c : Cf) (f : Fr) (rest : List Fr) (s : Sm) : Except Str Cf := match s with
  | .set n e => match ev (look G c.sh f.kept) e with
    | .error k => .error k
    | .ok v => .ok (store G c f rest n v)
  | .ask n => .ok (if I.length ≤ c.used then { c with ending := some (.tup [.str "starved"]) } else { store G c f rest n (I.getD c.used 0) with used := c.used + 1 })
  | .tell e => match ev (look G c.sh f.kept) e with
    | .error k => .error k
    | .ok v => .ok { c with told := c.told ++ [v] }
  | .chk b => match hold (look G c.sh f.kept) b with
    | .error k => .error k
    | .ok t => if t = true then .ok c else .error "check"
  | .need b => match hold (look G c.sh f.kept) b with
    | .error k => .error k
    | .ok t => if t = true then .ok c else .ok { c with ending := some (.tup [.str "halted"]) }
  | _ => .ok c
def isSi : Sm → Bool
  | .set _ _ => true
  | .ask _ => true
  | .tell _ => true
  | .chk _ => true
  | .need _ => true
  | _ => false
def wordOf : Sm → Str
  | .set _ _ => "set"
  | .ask _ => "ask"
  | .tell _ => "tell"
  | .chk _ => "check"
  | .need _ => "need"
  | .ret _ => "return"
  | .ite _ _ _ => "if"
  | .whl _ _ => "while"
  | .call _ _ _ => "call"
theorem store_used {G : Pg} {c : Cf} {f : Fr} {r : List Fr} {n : Str} {v : Int} : (store G c f r n v).used = c.used := by unfold store; split <;> rfl
theorem scs2609 : FnScope ["self", "word", "statement"] ["self", "word", "statement"] (defScope (mst 26 9)) := ⟨rfl, rfl, rfl, by decide +kernel, rfl, by decide +kernel, by decide +kernel⟩
def spM9 (K : PySem.W.Frag) (a : Nat → Addr) : Sp := fun vs H Q E => ∃ (H0 : Hp) (G : Pg) (I : List Int) (A : RA) (c : Cf) (o : FO) (f : Fr) (l : List (FO × Fr)) (s : Sm) (v : V), vs = [.ref A.r, .str (wordOf s), v] ∧ RunY K a H0 H G I A c ((o, f) :: l) ∧ WF G ∧ CfOk G c ∧ okS G (varsOf G f.name) s ∧ isSi s = true ∧ c.steps.length ≤ 1000 ∧ DatAt K H s.d v ∧
  (∀ c', simpleE G I c f (l.map (·.2)) s = .ok c' → ∀ H' l', RunY K a H0 H' G I A c' l' → l'.map adr = ((o, f) :: l).map adr → Q .non H') ∧ ∀ k, simpleE G I c f (l.map (·.2)) s = .error k → FailE a E H k
section
variable {P : Program} {w : World} {K : PySem.W.Frag} {mg : Str → Option Value} {base : Heap} {a : Nat → Addr} {fd : Nat → FuncData}
theorem okM9 (T : Tx P K mg base a fd) : FnOk P w K mg base (L2.CX P w) 40 (a 2609) (fd 2609) ["self", "word", "statement"] (spM9 K a) := by
  refine T.F2609.okX scs2609 (fun vs H Q E h => ?_) (fun cdv A outer s H vs Q E hr h => ⟨_, (pss_one (ps_if (pt_cmpR op_eq (pv 1) pe_str (nomark _)) (pss_one (ps_expr (pe_meth (pv 0) T.clRun T.M3 (okM3 T) (hr.mono (by first | exact Nat.le_refl _ | decide | omega)) T.bM3 .nil pass0 (pa_cons (pe_ix (ixTK (K := K) rfl) (pv 2) pe_int (fun _ _ => rfl)) (pa_cons (CgM.pe_methS (pv 0) T.clRun T.M12 (okM12 T 8) (hr.mono (by first | exact Nat.le_refl _ | decide | omega)) T.bM12 (fun σ => passAt (takes_of rfl rfl rfl rfl) σ) (pa_cons (pe_ix (ixTK (K := K) rfl) (pv 2) pe_int (fun _ _ => rfl)) pa_nil)) pa_nil))))) (pss_one (ps_if (pt_cmpR op_eq (pv 1) pe_str (nomark _)) (pss_one (ps_expr (pe_bm PySem.F.plainAttrs_list PySem.F.slot_list_append PySem.F.type_list_append mt_append (pe_fldK (K := K) rfl (pv 0) rfl) (pa_cons (CgM.pe_methS (pv 0) T.clRun T.M12 (okM12 T 8) (hr.mono (by first | exact Nat.le_refl _ | decide | omega)) T.bM12 (fun σ => passAt (takes_of rfl rfl rfl rfl) σ) (pa_cons (pe_ix (ixTK (K := K) rfl) (pv 2) pe_int (fun _ _ => rfl)) pa_nil)) pa_nil)))) (pss_one (ps_if (pt_cmpR op_eq (pv 1) pe_str (nomark _)) (pss_one (ps_if (pt_cmpR op_ge (pe_fldK (K := K) rfl (pv 0) rfl) (pe_callB call_len_seq (by rfl) T.n_len PyProof.Rows.Boot.«len» (pa_cons (pe_fldK (K := K) rfl (pv 0) rfl) pa_nil)) (nomark _)) (pss_one (ps_fld (pv 0) (pe_tup (pa_cons pe_str pa_nil)) rfl)) (pss_cons (ps_expr (pe_meth (pv 0) T.clRun T.M3 (okM3 T) (hr.mono (by first | exact Nat.le_refl _ | decide | omega)) T.bM3 .nil pass0 (pa_cons (pe_ix (ixTK (K := K) rfl) (pv 2) pe_int (fun _ _ => rfl)) (pa_cons (pe_ix (ixTK (K := K) rfl) (pe_fldK (K := K) rfl (pv 0) rfl) (pe_fldK (K := K) rfl (pv 0) rfl) (fun _ _ => rfl)) pa_nil))))
      (pss_one (ps_fld (pv 0) (pe_op op_add (pe_fldK (K := K) rfl (pv 0) rfl) pe_int) rfl))))) (pss_one (ps_if (pt_not (pt_val (CgM.pe_methS (pv 0) T.clRun T.M13 (okM13 T 8) (hr.mono (by first | exact Nat.le_refl _ | decide | omega)) T.bM13 (fun σ => passAt (takes_of rfl rfl rfl rfl) σ) (pa_cons (pe_ix (ixTK (K := K) rfl) (pv 2) pe_int (fun _ _ => rfl)) pa_nil)))) (pss_cons (ps_if (pt_cmpR op_eq (pv 1) pe_str (nomark _)) (pss_one (CgF.ps_raiseFail rfl T.fail hr (takes_of rfl rfl rfl rfl) (pa_cons pe_str pa_nil))) pss_nil)
      (pss_one (ps_fld (pv 0) (pe_tup (pa_cons pe_str pa_nil)) rfl))) pss_nil)))))))), ?_⟩)
  · obtain ⟨H0, G, I, A, c, o, f, l, s, v, rfl, _⟩ := h
    rfl
  · obtain ⟨H0, G, I, A, c, o, f, l, s, v, rfl, R, W, ok, hok, hsi, hz, hd, q, qe⟩ := h
    obtain ⟨e, sv, skvs, R'⟩ := id R
    have hfs : c.fs = f :: l.map (·.2) := R'.fs
    have hlook := ok.look hfs
    cases s with
    | set n ex =>
      obtain ⟨p, xs, rfl, h0, g⟩ := DatAt.tup_inv hd
      obtain ⟨x0, r, rfl, h1, g⟩ := g.cons_inv
      obtain ⟨x1, r, rfl, h2, g⟩ := g.cons_inv
      obtain ⟨x2, r, rfl, h3, g⟩ := g.cons_inv
      cases g.nil_inv
      cases dat_str_inv h1
      cases dat_str_inv h2
      obtain ⟨hn, hx⟩ := hok
      simp only [wordOf]
      walk_at "a8"
      refine metI R'.gr rfl (ixT h0 rfl ?_)
      refine metI R'.gr rfl (ixT h0 rfl ?_)
      refine ⟨H0, G, I, A, c, o, f, l, ex, x2, rfl, R, h3, hx.1, hx.2, hlook, fun i hi si H2 c2 => ?_, fun k hk => qe k (by simp only [simpleE, hk])⟩
      have q2 := q _ (by simp only [simpleE, hi]; rfl)
      walk_at "a8"
      exact ⟨H0, G, I, A, c, o, f, l, n, i, rfl, R.chg c2, hn, fun H3 l3 R3 ha => q2 H3 l3 R3 ha⟩
    | ask n =>
      obtain ⟨p, xs, rfl, h0, g⟩ := DatAt.tup_inv hd
      obtain ⟨x0, r, rfl, h1, g⟩ := g.cons_inv
      obtain ⟨x1, r, rfl, h2, g⟩ := g.cons_inv
      cases g.nil_inv
      cases dat_str_inv h1
      cases dat_str_inv h2
      have hn : n ∈ varsOf G f.name := hok
      have q2 := q _ rfl
      simp only [wordOf]
      walk_at "a8"
      refine fldI R'.gr T.clRun T.nr_used rfl ?_
      refine fldI R'.gr T.clRun T.nr_inputs rfl ?_
      refine ⟨_, rfl, _, .inr R'.inp, ?_⟩
      rw [List.length_map]
      refine ⟨_, rfl, ?_⟩
      by_cases hu : I.length ≤ c.used
      · rw [if_pos hu] at q2
        rw [if_pos (by omega)]
        walk_at "a8"
        have R3 := R'.chg (Chg.new (L := []) (o := .tup [V.str (Str.ofString "starved")]) hpp)
        refine fldWI R3.gr T.clRun T.nr_ending runL_len rfl ?_
        exact q2 _ _ ⟨_, _, _, R3.endd (d := .tup [.str "starved"]) (dat_tup (SqT.of upd_same) (dats_cons dat_str dats_nil)) (fun z => nomatch z)⟩ rfl
      · rw [if_neg hu] at q2
        rw [if_neg (by omega)]
        have hiu : (I.map V.int)[c.used]? = some (.int (I.getD c.used 0)) := by
          rw [List.getElem?_map, List.getD, List.getElem?_eq_getElem (by omega)]; rfl
        walk_at "a8"
        refine metI R'.gr rfl (ixT h0 rfl ?_)
        refine fldI R'.gr T.clRun T.nr_inputs rfl ?_
        refine fldI R'.gr T.clRun T.nr_used rfl ?_
        refine ixT R'.inp (atI_nat hiu) ?_
        refine ⟨H0, G, I, A, c, o, f, l, n, _, rfl, R, hn, fun H3 l3 ⟨e3, sv3, sk3, R3⟩ ha => ?_⟩
        walk_at "a8"
        refine fldI R3.gr T.clRun T.nr_used rfl ?_
        walk_at "a8"
        refine fldWI R3.gr T.clRun T.nr_used runL_len rfl ?_
        have R4 := R3.use (c.used + 1)
        have hsu := store_used (G := G) (c := c) (f := f) (r := l.map (·.2)) (n := n) (v := I.getD c.used 0)
        rw [hsu]
        exact q2 _ _ ⟨_, _, _, R4⟩ ha
    | tell ex =>
      obtain ⟨p, xs, rfl, h0, g⟩ := DatAt.tup_inv hd
      obtain ⟨x0, r, rfl, h1, g⟩ := g.cons_inv
      obtain ⟨x1, r, rfl, h2, g⟩ := g.cons_inv
      cases g.nil_inv
      cases dat_str_inv h1
      simp only [wordOf]
      walk_at "a8"
      refine fldI R'.gr T.clRun T.nr_told rfl ?_
      refine ⟨.inl ⟨rfl, _, SqL.of R'.gtd⟩, ?_⟩
      refine metI R'.gr rfl (ixT h0 rfl ?_)
      refine ⟨H0, G, I, A, c, o, f, l, ex, x1, rfl, R, h2, hok.1, hok.2, hlook, fun i hi si H2 c2 => ?_, fun k hk => qe k (by simp only [simpleE, hk])⟩
      have q2 := q _ (by simp only [simpleE, hi]; rfl)
      have R2' := R'.chg c2
      refine ⟨A.td, rfl, _, R2'.gtd, sz' (by rw [List.length_map]; have := ok.told; omega), ?_⟩
      exact q2 _ _ ⟨_, _, _, R2'.tell i⟩ rfl
    | chk b =>
      obtain ⟨p, xs, rfl, h0, g⟩ := DatAt.tup_inv hd
      obtain ⟨x0, r, rfl, h1, g⟩ := g.cons_inv
      obtain ⟨x1, r, rfl, h2, g⟩ := g.cons_inv
      cases g.nil_inv
      cases dat_str_inv h1
      simp only [wordOf]
      walk_at "a8"
      refine metI R'.gr rfl (ixT h0 rfl ?_)
      refine ⟨H0, G, I, A, c, o, f, l, b, x1, rfl, R, h2, hok.1, hok.2, hlook, fun i hi H2 c2 => ?_, fun k hk => qe k (by simp only [simpleE, hk])⟩
      cases i with
      | true =>
        have q2 := q _ (by simp only [simpleE, hi]; rfl)
        walk_at "a8"
        exact q2 _ _ (R.chg c2) rfl
      | false =>
        have q2 := qe "check" (by simp only [simpleE, hi]; rfl)
        walk_at "a8"
        exact fun d hd => q2 d _ (c2.thenNew hd) upd_same
    | need b =>
      obtain ⟨p, xs, rfl, h0, g⟩ := DatAt.tup_inv hd
      obtain ⟨x0, r, rfl, h1, g⟩ := g.cons_inv
      obtain ⟨x1, r, rfl, h2, g⟩ := g.cons_inv
      cases g.nil_inv
      cases dat_str_inv h1
      simp only [wordOf]
      walk_at "a8"
      refine metI R'.gr rfl (ixT h0 rfl ?_)
      refine ⟨H0, G, I, A, c, o, f, l, b, x1, rfl, R, h2, hok.1, hok.2, hlook, fun i hi H2 c2 => ?_, fun k hk => qe k (by simp only [simpleE, hk])⟩
      cases i with
      | true =>
        have q2 := q _ (by simp only [simpleE, hi]; rfl)
        walk_at "a8"
        exact q2 _ _ (R.chg c2) rfl
      | false =>
        have q2 := q _ (by simp only [simpleE, hi]; rfl)
        walk_at "a8"
        have R3 := (R'.chg c2).chg (Chg.new (L := []) (o := .tup [V.str (Str.ofString "halted")]) hpp)
        refine fldWI R3.gr T.clRun T.nr_ending runL_len rfl ?_
        exact q2 _ _ ⟨_, _, _, R3.endd (d := .tup [.str "halted"]) (dat_tup (SqT.of upd_same) (dats_cons dat_str dats_nil)) (fun z => nomatch z)⟩ rfl
    | _ => cases hsi
end
end Cc
set_option maxRecDepth 100000
set_option maxHeartbeats 4000000
/-! execute -/
namespace Cc
open PySem PySem.Spec PyProof.Rows L2
def execE (G : Pg) (I : List Int) (c : Cf) (f : Fr) (rest : List Fr) (p : List Nat) (s : Sm) : Except Str Cf := match s with
  | .ite _ _ _ => branchE G c f rest p s
  | .whl _ _ => branchE G c f rest p s
  | .call q es t => callE G c f q es t
  | .ret e => match ev (look G c.sh f.kept) e with
    | .error k => .error k
    | .ok v => .ok (leave G v c)
  | _ => match simpleE G I c f rest s with
    | .error k => .error k
    | .ok c' => .ok (if c'.ending.isNone = true then adv G c' else c')
def orFail (c : Cf) (f : Fr) : Except Str Cf → Cf
  | .ok c' => c'
  | .error k => fail c f k
theorem store_end {G : Pg} {c : Cf} {f : Fr} {r : List Fr} {n : Str} {v : Int} : (store G c f r n v).ending = c.ending := by unfold store; split <;> rfl
theorem exec_eq {G : Pg} {I : List Int} {c : Cf} {f : Fr} {rest : List Fr} {p : List Nat} {s : Sm} (he : c.ending = none) : exec G I c f rest p s = orFail c f (execE G I c f rest p s) := by
  cases s with
  | set n e =>
    simp only [exec, execE, simpleE]
    cases h : ev (look G c.sh f.kept) e with
    | error k => rfl
    | ok v => simp only [store_end, he, Option.isNone_none, if_true]; rfl
  | ask n =>
    simp only [exec, execE, simpleE]
    split
    · rfl
    · simp only [store_end, he, Option.isNone_none, if_true]; rfl
  | tell e =>
    simp only [exec, execE, simpleE]
    cases h : ev (look G c.sh f.kept) e with
    | error k => rfl
    | ok v => simp only [he, Option.isNone_none, if_true]; rfl
  | chk b =>
    simp only [exec, execE, simpleE]
    cases h : hold (look G c.sh f.kept) b with
    | error k => rfl
    | ok t => cases t <;> simp [he, orFail]
  | need b =>
    simp only [exec, execE, simpleE]
    cases h : hold (look G c.sh f.kept) b with
    | error k => rfl
    | ok t => cases t <;> simp [he, orFail]
  | ret e =>
    simp only [exec, execE]
    cases h : ev (look G c.sh f.kept) e <;> rfl
  | ite b x y =>
    simp only [exec, execE, branchE]
    cases h : hold (look G c.sh f.kept) b <;> rfl
  | whl b x =>
    simp only [exec, execE, branchE]
    cases h : hold (look G c.sh f.kept) b <;> rfl
  | call q es t =>
    simp only [exec, execE, callE]
    cases h : evs (look G c.sh f.kept) es <;> rfl
theorem simpleE_fs {G : Pg} {I : List Int} {c c' : Cf} {f : Fr} {rest : List Fr} {s : Sm} (hfs : c.fs = f :: rest) (h : simpleE G I c f rest s = .ok c') : ∃ f', c'.fs = f' :: rest ∧ f'.name = f.name ∧ f'.place = f.place ∧ f'.target = f.target := by
  cases s with
  | set n e =>
    simp only [simpleE] at h
    cases hv : ev (look G c.sh f.kept) e with
    | error k => rw [hv] at h; cases h
    | ok v => rw [hv] at h; cases h; exact store_fs
  | ask n =>
    simp only [simpleE] at h
    split at h
    · cases h; exact ⟨f, hfs, rfl, rfl, rfl⟩
    · cases h
      obtain ⟨f', h1, h2⟩ := store_fs (G := G) (c := c) (f := f) (r := rest) (n := n) (v := I.getD c.used 0)
      exact ⟨f', h1, h2⟩
  | tell e =>
    simp only [simpleE] at h
    cases hv : ev (look G c.sh f.kept) e with
    | error k => rw [hv] at h; cases h
    | ok v => rw [hv] at h; cases h; exact ⟨f, hfs, rfl, rfl, rfl⟩
  | chk b =>
    simp only [simpleE] at h
    cases hv : hold (look G c.sh f.kept) b with
    | error k => rw [hv] at h; cases h
    | ok v =>
      rw [hv] at h
      cases v
      · cases h
      · cases h; exact ⟨f, hfs, rfl, rfl, rfl⟩
  | need b =>
    simp only [simpleE] at h
    cases hv : hold (look G c.sh f.kept) b with
    | error k => rw [hv] at h; cases h
    | ok v =>
      rw [hv] at h
      cases v
      · cases h; exact ⟨f, hfs, rfl, rfl, rfl⟩
      · cases h; exact ⟨f, hfs, rfl, rfl, rfl⟩
  | _ => cases h; exact ⟨f, hfs, rfl, rfl, rfl⟩
theorem scs2608 : FnScope ["self", "top", "statement", "word"] ["self", "top", "statement"] (defScope (mst 26 8)) := ⟨rfl, rfl, rfl, by decide +kernel, rfl, by decide +kernel, by decide +kernel⟩
def spM8 (K : PySem.W.Frag) (a : Nat → Addr) : Sp := fun vs H Q E => ∃ (H0 : Hp) (G : Pg) (I : List Int) (A : RA) (c : Cf) (o : FO) (f : Fr) (l : List (FO × Fr)) (s : Sm) (p : List Nat) (pr : Pr) (v : V), vs = [.ref A.r, .ref o.fa, v] ∧ RunY K a H0 H G I A c ((o, f) :: l) ∧ WF G ∧ CfOk G c ∧ okS G (varsOf G f.name) s ∧ c.steps.length ≤ 1000 ∧ procOf G f.name = some pr ∧ f.place = some p ∧ stmtAt pr.body p = some s ∧ DatAt K H s.d v ∧
  (∀ c', execE G I c f (l.map (·.2)) p s = .ok c' → ∀ H' l', RunY K a H0 H' G I A c' l' → Q .non H') ∧ ∀ k, execE G I c f (l.map (·.2)) p s = .error k → FailE a E H k
section
variable {P : Program} {w : World} {K : PySem.W.Frag} {mg : Str → Option Value} {base : Heap} {a : Nat → Addr} {fd : Nat → FuncData}
theorem okM8 (T : Tx P K mg base a fd) : FnOk P w K mg base (L2.CX P w) 50 (a 2608) (fd 2608) ["self", "top", "statement"] (spM8 K a) := by
  refine T.F2608.okX scs2608 (fun vs H Q E h => ?_) (fun cdv A outer s H vs Q E hr h => ⟨_, (pss_cons (ps_set (i := 3) scs2608.nd rfl (Or.inl rfl) (pe_ix (ixTK (K := K) rfl) (pv 2) pe_int (fun _ _ => rfl)))
      (pss_one (ps_if (pt_cmpR (inK (K := K) rfl) (pv 3) (pe_tup (pa_cons pe_str (pa_cons pe_str pa_nil))) (by rfl)) (pss_one (ps_expr (CgM.pe_methS (pv 0) T.clRun T.M10 (okM10 T) (hr.mono (by first | exact Nat.le_refl _ | decide | omega)) T.bM10 (fun σ => passAt (takes_of rfl rfl rfl rfl) σ) (pa_cons (pv 1) (pa_cons (pv 2) pa_nil))))) (pss_one (ps_if (pt_cmpR op_eq (pv 3) pe_str (nomark _)) (pss_one (ps_expr (CgM.pe_methS (pv 0) T.clRun T.M11 (okM11 T) (hr.mono (by first | exact Nat.le_refl _ | decide | omega)) T.bM11 (fun σ => passAt (takes_of rfl rfl rfl rfl) σ) (pa_cons (pv 2) pa_nil)))) (pss_one (ps_if (pt_cmpR op_eq (pv 3) pe_str (nomark _)) (pss_one (ps_expr (pe_meth (pv 0) T.clRun T.M5 (okM5 T) (hr.mono (by first | exact Nat.le_refl _ | decide | omega)) T.bM5 .nil pass0 (pa_cons (CgM.pe_methS (pv 0) T.clRun T.M12 (okM12 T 8) (hr.mono (by first | exact Nat.le_refl _ | decide | omega)) T.bM12 (fun σ => passAt (takes_of rfl rfl rfl rfl) σ) (pa_cons (pe_ix (ixTK (K := K) rfl) (pv 2) pe_int (fun _ _ => rfl)) pa_nil)) pa_nil)))) (pss_cons (ps_expr (CgM.pe_methS (pv 0) T.clRun T.M9 (okM9 T) (hr.mono (by first | exact Nat.le_refl _ | decide | omega)) T.bM9 (fun σ => passAt (takes_of rfl rfl rfl rfl) σ) (pa_cons (pv 3) (pa_cons (pv 2) pa_nil))))
      (pss_one (ps_if (pt_cmpR op_isN (pe_fldK (K := K) rfl (pv 0) rfl) pe_non (nomark _)) (pss_one (ps_fld (pv 1) (pe_call (ok18 T) (hr.mono (by first | exact Nat.le_refl _ | decide | omega)) rfl T.D18.mg T.D18.kp T.D18.bd .nil pass0 (pa_cons (pe_fldK (K := K) rfl (pv 0) rfl) (pa_cons (pe_fldK (K := K) rfl (pv 1) rfl) (pa_cons (pe_fldK (K := K) rfl (pv 1) rfl) pa_nil)))) rfl)) pss_nil)))))))))), ?_⟩)
  · obtain ⟨H0, G, I, A, c, o, f, l, s, p, pr, v, rfl, _⟩ := h
    rfl
  · obtain ⟨H0, G, I, A, c, o, f, l, s, p, pr, v, rfl, R, W, ok, hok, hz, hp, hpl, hs, hd, q, qe⟩ := h
    obtain ⟨e, sv, skvs, R'⟩ := id R
    have hfs : c.fs = f :: l.map (·.2) := R'.fs
    have hlook := ok.look hfs
    cases s with
    | set n e =>
      obtain ⟨tp, xs, rfl, h0, g⟩ := DatAt.tup_inv hd
      obtain ⟨x0, r, rfl, h1, g⟩ := g.cons_inv
      obtain ⟨x1, r, rfl, h2, g⟩ := g.cons_inv
      obtain ⟨x2, r, rfl, h3, g⟩ := g.cons_inv
      cases g.nil_inv
      cases dat_str_inv h1
      walk_at "a7"
      have c1 := Chg.new (L := []) (o := .tup [V.str (Str.ofString "if"), V.str (Str.ofString "while")]) hpp
      have R1 := R'.chg c1
      refine metI R1.gr rfl ?_
      refine ⟨H0, G, I, A, c, o, f, l, _, _, rfl, ⟨_, _, _, R1⟩, W, ok, hok, rfl, hz, hd.chg c1, fun c' hc' H2 l2 ⟨e2, sv2, sk2, R2⟩ ha => ?_, fun k hk => (qe k (by simp only [execE, hk])).chg c1⟩
      have q2 := q _ (by simp only [execE, hc']; rfl)
      obtain ⟨f', hf1, hf2, hf3, hf4⟩ := simpleE_fs hfs hc'
      obtain ⟨o3, r3, rfl, hr3⟩ := map_inv (hf1.symm.trans R2.fs)
      have ho3 : o3.fa = o.fa := by
        have z := congrArg List.head? ha
        have z : some (adr (o3, f')) = some (adr (o, f)) := z
        exact congrArg Prod.fst (Option.some.inj z)
      walk_at "a8"
      refine fldI R2.gr T.clRun T.nr_ending rfl ?_
      by_cases he : c'.ending = none
      · rw [if_pos ((end_iff R2.en).mpr he)]
        rw [he, Option.isNone_none, if_pos rfl] at q2
        have hp' : procOf G f'.name = some pr := by rw [hf2]; exact hp
        have hpl' : f'.place = some p := by rw [hf3]; exact hpl
        rw [← ho3]
        walk_at "a8"
        refine fldI R2.gr T.clRun T.nr_program rfl ?_
        refine fldI R2.gtop T.clFrame T.nf_name rfl ?_
        refine fldI R2.gtop T.clFrame T.nf_place rfl ?_
        rw [hpl']
        refine ⟨_, _, _, _, _, _, rfl, R2.pg, hp', W.b.pr pr (proc_mem hp), hs, fun H9 c9 => ?_⟩
        have R9 := R2.chg c9
        have hnx : nextF G f' = nextOf pr.body p := by
          unfold nextF; rw [hpl']; show nextOf (bodyOf G _) p = _; rw [bodyOf_eq hp']
        have R10 := R9.go (nextF G f')
        rw [hnx] at R10
        walk_at "a8"
        refine fldWI R9.gtop T.clFrame T.nf_place frL_len rfl ?_
        rw [adv_eq hf1, hnx] at q2
        rw [← hr3] at R10
        exact q2 _ _ ⟨_, _, _, R10⟩
      · rw [if_neg (fun z => he ((end_iff R2.en).mp z))]
        have hne : c'.ending.isNone = false := by cases z : c'.ending with
          | none => exact absurd z he
          | some d => rfl
        rw [hne, if_neg (by simp)] at q2
        exact q2 _ _ ⟨_, _, _, R2⟩
    | ask n =>
      obtain ⟨tp, xs, rfl, h0, g⟩ := DatAt.tup_inv hd
      obtain ⟨x0, r, rfl, h1, g⟩ := g.cons_inv
      obtain ⟨x1, r, rfl, h2, g⟩ := g.cons_inv
      cases g.nil_inv
      cases dat_str_inv h1
      walk_at "a7"
      have c1 := Chg.new (L := []) (o := .tup [V.str (Str.ofString "if"), V.str (Str.ofString "while")]) hpp
      have R1 := R'.chg c1
      refine metI R1.gr rfl ?_
      refine ⟨H0, G, I, A, c, o, f, l, _, _, rfl, ⟨_, _, _, R1⟩, W, ok, hok, rfl, hz, hd.chg c1, fun c' hc' H2 l2 ⟨e2, sv2, sk2, R2⟩ ha => ?_, fun k hk => (qe k (by simp only [execE, hk])).chg c1⟩
      have q2 := q _ (by simp only [execE, hc']; rfl)
      obtain ⟨f', hf1, hf2, hf3, hf4⟩ := simpleE_fs hfs hc'
      obtain ⟨o3, r3, rfl, hr3⟩ := map_inv (hf1.symm.trans R2.fs)
      have ho3 : o3.fa = o.fa := by
        have z := congrArg List.head? ha
        have z : some (adr (o3, f')) = some (adr (o, f)) := z
        exact congrArg Prod.fst (Option.some.inj z)
      walk_at "a8"
      refine fldI R2.gr T.clRun T.nr_ending rfl ?_
      by_cases he : c'.ending = none
      · rw [if_pos ((end_iff R2.en).mpr he)]
        rw [he, Option.isNone_none, if_pos rfl] at q2
        have hp' : procOf G f'.name = some pr := by rw [hf2]; exact hp
        have hpl' : f'.place = some p := by rw [hf3]; exact hpl
        rw [← ho3]
        walk_at "a8"
        refine fldI R2.gr T.clRun T.nr_program rfl ?_
        refine fldI R2.gtop T.clFrame T.nf_name rfl ?_
        refine fldI R2.gtop T.clFrame T.nf_place rfl ?_
        rw [hpl']
        refine ⟨_, _, _, _, _, _, rfl, R2.pg, hp', W.b.pr pr (proc_mem hp), hs, fun H9 c9 => ?_⟩
        have R9 := R2.chg c9
        have hnx : nextF G f' = nextOf pr.body p := by
          unfold nextF; rw [hpl']; show nextOf (bodyOf G _) p = _; rw [bodyOf_eq hp']
        have R10 := R9.go (nextF G f')
        rw [hnx] at R10
        walk_at "a8"
        refine fldWI R9.gtop T.clFrame T.nf_place frL_len rfl ?_
        rw [adv_eq hf1, hnx] at q2
        rw [← hr3] at R10
        exact q2 _ _ ⟨_, _, _, R10⟩
      · rw [if_neg (fun z => he ((end_iff R2.en).mp z))]
        have hne : c'.ending.isNone = false := by cases z : c'.ending with
          | none => exact absurd z he
          | some d => rfl
        rw [hne, if_neg (by simp)] at q2
        exact q2 _ _ ⟨_, _, _, R2⟩
    | tell e =>
      obtain ⟨tp, xs, rfl, h0, g⟩ := DatAt.tup_inv hd
      obtain ⟨x0, r, rfl, h1, g⟩ := g.cons_inv
      obtain ⟨x1, r, rfl, h2, g⟩ := g.cons_inv
      cases g.nil_inv
      cases dat_str_inv h1
      walk_at "a7"
      have c1 := Chg.new (L := []) (o := .tup [V.str (Str.ofString "if"), V.str (Str.ofString "while")]) hpp
      have R1 := R'.chg c1
      refine metI R1.gr rfl ?_
      refine ⟨H0, G, I, A, c, o, f, l, _, _, rfl, ⟨_, _, _, R1⟩, W, ok, hok, rfl, hz, hd.chg c1, fun c' hc' H2 l2 ⟨e2, sv2, sk2, R2⟩ ha => ?_, fun k hk => (qe k (by simp only [execE, hk])).chg c1⟩
      have q2 := q _ (by simp only [execE, hc']; rfl)
      obtain ⟨f', hf1, hf2, hf3, hf4⟩ := simpleE_fs hfs hc'
      obtain ⟨o3, r3, rfl, hr3⟩ := map_inv (hf1.symm.trans R2.fs)
      have ho3 : o3.fa = o.fa := by
        have z := congrArg List.head? ha
        have z : some (adr (o3, f')) = some (adr (o, f)) := z
        exact congrArg Prod.fst (Option.some.inj z)
      walk_at "a8"
      refine fldI R2.gr T.clRun T.nr_ending rfl ?_
      by_cases he : c'.ending = none
      · rw [if_pos ((end_iff R2.en).mpr he)]
        rw [he, Option.isNone_none, if_pos rfl] at q2
        have hp' : procOf G f'.name = some pr := by rw [hf2]; exact hp
        have hpl' : f'.place = some p := by rw [hf3]; exact hpl
        rw [← ho3]
        walk_at "a8"
        refine fldI R2.gr T.clRun T.nr_program rfl ?_
        refine fldI R2.gtop T.clFrame T.nf_name rfl ?_
        refine fldI R2.gtop T.clFrame T.nf_place rfl ?_
        rw [hpl']
        refine ⟨_, _, _, _, _, _, rfl, R2.pg, hp', W.b.pr pr (proc_mem hp), hs, fun H9 c9 => ?_⟩
        have R9 := R2.chg c9
        have hnx : nextF G f' = nextOf pr.body p := by
          unfold nextF; rw [hpl']; show nextOf (bodyOf G _) p = _; rw [bodyOf_eq hp']
        have R10 := R9.go (nextF G f')
        rw [hnx] at R10
        walk_at "a8"
        refine fldWI R9.gtop T.clFrame T.nf_place frL_len rfl ?_
        rw [adv_eq hf1, hnx] at q2
        rw [← hr3] at R10
        exact q2 _ _ ⟨_, _, _, R10⟩
      · rw [if_neg (fun z => he ((end_iff R2.en).mp z))]
        have hne : c'.ending.isNone = false := by cases z : c'.ending with
          | none => exact absurd z he
          | some d => rfl
        rw [hne, if_neg (by simp)] at q2
        exact q2 _ _ ⟨_, _, _, R2⟩
    | chk cb =>
      obtain ⟨tp, xs, rfl, h0, g⟩ := DatAt.tup_inv hd
      obtain ⟨x0, r, rfl, h1, g⟩ := g.cons_inv
      obtain ⟨x1, r, rfl, h2, g⟩ := g.cons_inv
      cases g.nil_inv
      cases dat_str_inv h1
      walk_at "a7"
      have c1 := Chg.new (L := []) (o := .tup [V.str (Str.ofString "if"), V.str (Str.ofString "while")]) hpp
      have R1 := R'.chg c1
      refine metI R1.gr rfl ?_
      refine ⟨H0, G, I, A, c, o, f, l, _, _, rfl, ⟨_, _, _, R1⟩, W, ok, hok, rfl, hz, hd.chg c1, fun c' hc' H2 l2 ⟨e2, sv2, sk2, R2⟩ ha => ?_, fun k hk => (qe k (by simp only [execE, hk])).chg c1⟩
      have q2 := q _ (by simp only [execE, hc']; rfl)
      obtain ⟨f', hf1, hf2, hf3, hf4⟩ := simpleE_fs hfs hc'
      obtain ⟨o3, r3, rfl, hr3⟩ := map_inv (hf1.symm.trans R2.fs)
      have ho3 : o3.fa = o.fa := by
        have z := congrArg List.head? ha
        have z : some (adr (o3, f')) = some (adr (o, f)) := z
        exact congrArg Prod.fst (Option.some.inj z)
      walk_at "a8"
      refine fldI R2.gr T.clRun T.nr_ending rfl ?_
      by_cases he : c'.ending = none
      · rw [if_pos ((end_iff R2.en).mpr he)]
        rw [he, Option.isNone_none, if_pos rfl] at q2
        have hp' : procOf G f'.name = some pr := by rw [hf2]; exact hp
        have hpl' : f'.place = some p := by rw [hf3]; exact hpl
        rw [← ho3]
        walk_at "a8"
        refine fldI R2.gr T.clRun T.nr_program rfl ?_
        refine fldI R2.gtop T.clFrame T.nf_name rfl ?_
        refine fldI R2.gtop T.clFrame T.nf_place rfl ?_
        rw [hpl']
        refine ⟨_, _, _, _, _, _, rfl, R2.pg, hp', W.b.pr pr (proc_mem hp), hs, fun H9 c9 => ?_⟩
        have R9 := R2.chg c9
        have hnx : nextF G f' = nextOf pr.body p := by
          unfold nextF; rw [hpl']; show nextOf (bodyOf G _) p = _; rw [bodyOf_eq hp']
        have R10 := R9.go (nextF G f')
        rw [hnx] at R10
        walk_at "a8"
        refine fldWI R9.gtop T.clFrame T.nf_place frL_len rfl ?_
        rw [adv_eq hf1, hnx] at q2
        rw [← hr3] at R10
        exact q2 _ _ ⟨_, _, _, R10⟩
      · rw [if_neg (fun z => he ((end_iff R2.en).mp z))]
        have hne : c'.ending.isNone = false := by cases z : c'.ending with
          | none => exact absurd z he
          | some d => rfl
        rw [hne, if_neg (by simp)] at q2
        exact q2 _ _ ⟨_, _, _, R2⟩
    | need cb =>
      obtain ⟨tp, xs, rfl, h0, g⟩ := DatAt.tup_inv hd
      obtain ⟨x0, r, rfl, h1, g⟩ := g.cons_inv
      obtain ⟨x1, r, rfl, h2, g⟩ := g.cons_inv
      cases g.nil_inv
      cases dat_str_inv h1
      walk_at "a7"
      have c1 := Chg.new (L := []) (o := .tup [V.str (Str.ofString "if"), V.str (Str.ofString "while")]) hpp
      have R1 := R'.chg c1
      refine metI R1.gr rfl ?_
      refine ⟨H0, G, I, A, c, o, f, l, _, _, rfl, ⟨_, _, _, R1⟩, W, ok, hok, rfl, hz, hd.chg c1, fun c' hc' H2 l2 ⟨e2, sv2, sk2, R2⟩ ha => ?_, fun k hk => (qe k (by simp only [execE, hk])).chg c1⟩
      have q2 := q _ (by simp only [execE, hc']; rfl)
      obtain ⟨f', hf1, hf2, hf3, hf4⟩ := simpleE_fs hfs hc'
      obtain ⟨o3, r3, rfl, hr3⟩ := map_inv (hf1.symm.trans R2.fs)
      have ho3 : o3.fa = o.fa := by
        have z := congrArg List.head? ha
        have z : some (adr (o3, f')) = some (adr (o, f)) := z
        exact congrArg Prod.fst (Option.some.inj z)
      walk_at "a8"
      refine fldI R2.gr T.clRun T.nr_ending rfl ?_
      by_cases he : c'.ending = none
      · rw [if_pos ((end_iff R2.en).mpr he)]
        rw [he, Option.isNone_none, if_pos rfl] at q2
        have hp' : procOf G f'.name = some pr := by rw [hf2]; exact hp
        have hpl' : f'.place = some p := by rw [hf3]; exact hpl
        rw [← ho3]
        walk_at "a8"
        refine fldI R2.gr T.clRun T.nr_program rfl ?_
        refine fldI R2.gtop T.clFrame T.nf_name rfl ?_
        refine fldI R2.gtop T.clFrame T.nf_place rfl ?_
        rw [hpl']
        refine ⟨_, _, _, _, _, _, rfl, R2.pg, hp', W.b.pr pr (proc_mem hp), hs, fun H9 c9 => ?_⟩
        have R9 := R2.chg c9
        have hnx : nextF G f' = nextOf pr.body p := by
          unfold nextF; rw [hpl']; show nextOf (bodyOf G _) p = _; rw [bodyOf_eq hp']
        have R10 := R9.go (nextF G f')
        rw [hnx] at R10
        walk_at "a8"
        refine fldWI R9.gtop T.clFrame T.nf_place frL_len rfl ?_
        rw [adv_eq hf1, hnx] at q2
        rw [← hr3] at R10
        exact q2 _ _ ⟨_, _, _, R10⟩
      · rw [if_neg (fun z => he ((end_iff R2.en).mp z))]
        have hne : c'.ending.isNone = false := by cases z : c'.ending with
          | none => exact absurd z he
          | some d => rfl
        rw [hne, if_neg (by simp)] at q2
        exact q2 _ _ ⟨_, _, _, R2⟩
    | ret e =>
      obtain ⟨tp, xs, rfl, h0, g⟩ := DatAt.tup_inv hd
      obtain ⟨x0, r, rfl, h1, g⟩ := g.cons_inv
      obtain ⟨x1, r, rfl, h2, g⟩ := g.cons_inv
      cases g.nil_inv
      cases dat_str_inv h1
      walk_at "a7"
      have c1 := Chg.new (L := []) (o := .tup [V.str (Str.ofString "if"), V.str (Str.ofString "while")]) hpp
      have R1 := R'.chg c1
      refine metI R1.gr rfl ?_
      refine metI R1.gr rfl (ixT (c1.sqT h0) rfl ?_)
      refine ⟨H0, G, I, A, c, o, f, l, _, x1, rfl, ⟨_, _, _, R1⟩, h2.chg c1, hok.1, hok.2, hlook, fun i hi si H2 c2 => ?_, fun k hk => (qe k (by simp only [execE, hk])).chg c1⟩
      have q2 := q _ (by simp only [execE, hi]; rfl)
      walk_at "a8"
      exact ⟨H0, G, I, A, c, o, f, l, i, rfl, ⟨_, _, _, R1.chg c2⟩, W, ok, si, q2⟩
    | ite cb x y =>
      obtain ⟨tp, xs, rfl, h0, g⟩ := DatAt.tup_inv hd
      obtain ⟨x0, r, rfl, h1, g⟩ := g.cons_inv
      obtain ⟨x1, r, rfl, h2, g⟩ := g.cons_inv
      obtain ⟨x2, r, rfl, h3, g⟩ := g.cons_inv
      obtain ⟨x3, r, rfl, h4, g⟩ := g.cons_inv
      cases g.nil_inv
      cases dat_str_inv h1
      walk_at "a7"
      have c1 := Chg.new (L := []) (o := .tup [V.str (Str.ofString "if"), V.str (Str.ofString "while")]) hpp
      have R1 := R'.chg c1
      refine metI R1.gr rfl ?_
      exact ⟨H0, G, I, A, c, o, f, l, _, p, pr, _, rfl, ⟨_, _, _, R1⟩, W, ok, hok, rfl, hp, hpl, hs, hd.chg c1, q, fun k hk => (qe k hk).chg c1⟩
    | whl cb x =>
      obtain ⟨tp, xs, rfl, h0, g⟩ := DatAt.tup_inv hd
      obtain ⟨x0, r, rfl, h1, g⟩ := g.cons_inv
      obtain ⟨x1, r, rfl, h2, g⟩ := g.cons_inv
      obtain ⟨x2, r, rfl, h3, g⟩ := g.cons_inv
      cases g.nil_inv
      cases dat_str_inv h1
      walk_at "a7"
      have c1 := Chg.new (L := []) (o := .tup [V.str (Str.ofString "if"), V.str (Str.ofString "while")]) hpp
      have R1 := R'.chg c1
      refine metI R1.gr rfl ?_
      exact ⟨H0, G, I, A, c, o, f, l, _, p, pr, _, rfl, ⟨_, _, _, R1⟩, W, ok, hok, rfl, hp, hpl, hs, hd.chg c1, q, fun k hk => (qe k hk).chg c1⟩
    | call pn es t =>
      obtain ⟨tp, xs, rfl, h0, g⟩ := DatAt.tup_inv hd
      obtain ⟨x0, r, rfl, h1, g⟩ := g.cons_inv
      obtain ⟨x1, r, rfl, h2, g⟩ := g.cons_inv
      obtain ⟨x2, r, rfl, h3, g⟩ := g.cons_inv
      obtain ⟨x3, r, rfl, h4, g⟩ := g.cons_inv
      cases g.nil_inv
      cases dat_str_inv h1
      walk_at "a7"
      have c1 := Chg.new (L := []) (o := .tup [V.str (Str.ofString "if"), V.str (Str.ofString "while")]) hpp
      have R1 := R'.chg c1
      refine metI R1.gr rfl ?_
      exact ⟨H0, G, I, A, c, o, f, l, _, _, _, _, rfl, ⟨_, _, _, R1⟩, W, ok, hok, hd.chg c1, q, fun k hk => (qe k hk).chg c1⟩
end
end Cc
set_option maxRecDepth 100000
set_option maxHeartbeats 2000000
/-! A step keeps what every configuration keeps. -/
namespace Cc
open PySem PySem.Spec PyProof.Rows L2
theorem mem_allB : ∀ (b : List Sm) (s : Sm), s ∈ b → s ∈ allB b
  | x :: r, s, h => by
    rw [allB]
    rcases List.mem_cons.mp h with e | h
    · rw [e]; exact List.mem_cons_self
    · exact List.mem_cons_of_mem _ (List.mem_append_right _ (mem_allB r s h))
theorem allI_sub : ∀ (b : List Sm) (s : Sm), s ∈ b → ∀ x ∈ allI s, x ∈ allB b
  | y :: r, s, h, x, hx => by
    rw [allB]
    rcases List.mem_cons.mp h with e | h
    · subst e; exact List.mem_cons_of_mem _ (List.mem_append_left _ hx)
    · exact List.mem_cons_of_mem _ (List.mem_append_right _ (allI_sub r s h x hx))
theorem blk_allI {s : Sm} {j : Nat} {b : List Sm} (h : (blocksOf s)[j]? = some b) : ∀ x ∈ allB b, x ∈ allI s := by
  intro x hx
  cases s with
  | ite c u v =>
    rw [allI]
    match j, h with
    | 0, h => cases h; exact List.mem_append_left _ hx
    | 1, h => cases h; exact List.mem_append_right _ hx
    | j + 2, h => cases h
  | whl c u =>
    rw [allI]
    match j, h with
    | 0, h => cases h; exact hx
    | j + 1, h => cases h
  | _ => cases h
theorem blockAt_sub : ∀ (p : List Nat) {B b : List Sm}, blockAt B p = some b → ∀ x ∈ allB b, x ∈ allB B
  | [], B, b, h, x, hx => by
    rw [blockAt] at h
    · cases h; exact hx
    · intro i j r z; cases z
  | [i], B, b, h, x, hx => by
    rw [blockAt] at h
    · cases h; exact hx
    · intro i j r z; cases z
  | i :: j :: r, B, b, h, x, hx => by
    rw [blockAt] at h
    cases h1 : B[i]? with
    | none => rw [h1] at h; cases h
    | some s =>
      rw [h1] at h
      have h : ((blocksOf s)[j]?.bind fun b => blockAt b r) = some b := h
      cases h2 : (blocksOf s)[j]? with
      | none => rw [h2] at h; cases h
      | some b2 =>
        rw [h2] at h
        exact allI_sub B s (List.mem_of_getElem? h1) x (blk_allI h2 x (blockAt_sub r (B := b2) h x hx))
theorem stmt_mem {B : List Sm} {p : List Nat} {s : Sm} (h : stmtAt B p = some s) : s ∈ allB B := by
  obtain ⟨_, b, h1, h2⟩ := stmtAt_inv h
  exact blockAt_sub p h1 s (mem_allB b s (List.mem_of_getElem? h2))
theorem WF.okS {G : Pg} (W : WF G) {n : Str} {pr : Pr} {p : List Nat} {s : Sm} (hp : procOf G n = some pr) (hs : stmtAt pr.body p = some s) : Cc.okS G (varsOf G n) s := by
  have z := W.ok pr (proc_mem hp) s (stmt_mem hs)
  have hn : pr.name = n := by
    have := List.find?_some hp
    simpa using this
  rw [hn] at z
  exact z
/-- a statement keeps what every configuration keeps -/
theorem exec_ok {G : Pg} {I : List Int} {c : Cf} {f : Fr} {rest : List Fr} {p : List Nat} {s : Sm} {pr : Pr} (W : WF G) (h : CfOk G c) (e : c.fs = f :: rest) (hl : c.told.length + 1 ≤ c.steps.length) (hi : ∀ i ∈ I, Sml i)
    (hp : procOf G f.name = some pr) (hpl : f.place = some p) (hs : stmtAt pr.body p = some s) (he : c.ending = none) : CfOk G (exec G I c f rest p s) := by
  have hok := W.okS hp hs
  have hlk := h.look e
  have hfail : ∀ k, CfOk G (fail c f k) := fun k => h.endd _
  have hadv := h.adv e
  have hst : ∀ (n : Str) (v : Int), n ∈ varsOf G f.name → Sml v → CfOk G (adv G (store G c f rest n v)) := fun n v hn hv => by
    obtain ⟨f', e', _⟩ := store_fs (G := G) (c := c) (f := f) (r := rest) (n := n) (v := v)
    exact (h.store e hn hv).adv e'
  have hgo : ∀ i, i < (blocksOf s).length → CfOk G (goto c f rest (blockPlace (bodyOf G f.name) p s i)) := fun i hi => by
    refine h.place e hp _ fun p' z => ?_
    rw [bodyOf_eq hp] at z
    exact blockPlace_stmt hs hi z
  cases s with
  | set n ex =>
    simp only [exec]
    cases hv : ev (look G c.sh f.kept) ex with
    | error k => exact hfail k
    | ok v => exact hst n v hok.1 (ev_sml hlk hok.2.1 hv)
  | ask n =>
    simp only [exec]
    split
    · exact h.endd _
    · next hu =>
      have hsm : Sml (I.getD c.used 0) := by
        rw [List.getD_eq_getElem?_getD, List.getElem?_eq_getElem (by omega)]
        exact hi _ (List.getElem_mem _)
      obtain ⟨f', e', _⟩ := store_fs (G := G) (c := c) (f := f) (r := rest) (n := n) (v := I.getD c.used 0)
      have h2 := h.store e (n := n) hok hsm
      have h3 : CfOk G { store G c f rest n (I.getD c.used 0) with used := c.used + 1 } := ⟨h2.fr, h2.tg, h2.sh, h2.len, h2.told, h2.live⟩
      exact h3.adv e'
  | tell ex =>
    simp only [exec]
    cases hv : ev (look G c.sh f.kept) ex with
    | error k => exact hfail k
    | ok v =>
      have h3 : CfOk G { c with told := c.told ++ [v] } := ⟨h.fr, h.tg, h.sh, h.len, by simp; omega, h.live⟩
      exact h3.adv e
  | chk b =>
    simp only [exec]
    cases hv : hold (look G c.sh f.kept) b with
    | error k => exact hfail k
    | ok t => cases t
              · exact hfail _
              · exact hadv
  | need b =>
    simp only [exec]
    cases hv : hold (look G c.sh f.kept) b with
    | error k => exact hfail k
    | ok t => cases t
              · exact h.endd _
              · exact hadv
  | ret ex =>
    simp only [exec]
    cases hv : ev (look G c.sh f.kept) ex with
    | error k => exact hfail k
    | ok v => exact h.leave (ev_sml hlk hok.1 hv) (by rw [e]; simp)
  | ite b x y =>
    simp only [exec]
    cases hv : hold (look G c.sh f.kept) b with
    | error k => exact hfail k
    | ok t => cases t
              · exact hgo 1 (by show 1 < 2; decide)
              · exact hgo 0 (by show 0 < 2; decide)
  | whl b x =>
    simp only [exec]
    cases hv : hold (look G c.sh f.kept) b with
    | error k => exact hfail k
    | ok t => cases t
              · exact hadv
              · exact hgo 0 (by show 0 < 1; decide)
  | call q es t =>
    simp only [exec]
    cases hv : evs (look G c.sh f.kept) es with
    | error k => exact hfail k
    | ok vs =>
      obtain ⟨⟨pq, hq, _⟩, hes, ht⟩ := hok
      have hvs := (evs_sml hlk (fun x hx => (hes x hx).1) hv).1
      show CfOk G (if 12 ≤ c.fs.length then _ else _)
      split
      · exact h.endd _
      · exact h.push e (frameOf_ok hq hvs) ht (by rw [hpl]; simp) (by omega)
theorem kept_eq {G : Pg} {c : Cf} {f : Fr} {r : List Fr} (e : c.fs = f :: r) : kept G c = { c with steps := c.steps ++ [stepD G c f] } := by unfold kept; rw [e]
theorem isOut_top {c : Cf} {f : Fr} {r : List Fr} (e : c.fs = f :: r) (he : c.ending = none) (h : isOut c = false) : ∃ p, f.place = some p := by
  unfold isOut at h
  rw [he, e, outTop] at h
  cases hp : f.place with
  | none => rw [hp] at h; cases h
  | some p => exact ⟨p, rfl⟩
theorem step_eq {G : Pg} {I : List Int} {c : Cf} {f : Fr} {r : List Fr} {p : List Nat} {s : Sm} {pr : Pr} (e : c.fs = f :: r) (hpl : f.place = some p) (hp : procOf G f.name = some pr) (hs : stmtAt pr.body p = some s) :
    step G I c = norm G (exec G I { c with steps := c.steps ++ [stepD G c f] } f r p s) := by
  unfold step
  simp only [e, hpl, bodyOf_eq hp, hs, kept_eq e]
theorem step_ok {G : Pg} {I : List Int} {c : Cf} (W : WF G) (h : CfOk G c) (hi : ∀ i ∈ I, Sml i) (ho : isOut c = false) (he : c.ending = none) : CfOk G (step G I c) := by
  match e : c.fs with
  | [] => exact absurd e (h.live he)
  | f :: r =>
    obtain ⟨p, hpl⟩ := isOut_top e he ho
    obtain ⟨pr, s, hp, hs⟩ := procOf_of (h.fr f (by rw [e]; simp)) hpl
    rw [step_eq e hpl hp hs]
    refine CfOk.norm (exec_ok W (h.keepS (stepD G c f)) e ?_ hi hp hpl hs he)
    have := h.told
    show c.told.length + 1 ≤ (c.steps ++ [_]).length
    simp; omega
theorem step_out {G : Pg} {I : List Int} {c : Cf} (h : CfOk G c) (ho : isOut c = false) (he : c.ending = none) : isOut (step G I c) = false := by
  match e : c.fs with
  | [] => exact absurd e (h.live he)
  | f :: r =>
    obtain ⟨p, hpl⟩ := isOut_top e he ho
    obtain ⟨pr, s, hp, hs⟩ := procOf_of (h.fr f (by rw [e]; simp)) hpl
    rw [step_eq e hpl hp hs]
    exact norm_done
theorem init_out {G : Pg} : isOut (init G) = false := norm_done
theorem Runs.ok {G : Pg} {I : List Int} {lim : Nat} {c : Cf} (W : WF G) (hi : ∀ i ∈ I, Sml i) (h : Runs G I lim c) : CfOk G c ∧ isOut c = false := by
  induction h with
  | start => exact ⟨init_ok W, init_out⟩
  | more h l ih =>
    unfold live at l
    rw [Bool.and_eq_true] at l
    have he := Option.isNone_iff_eq_none.mp l.1
    exact ⟨step_ok W ih.1 hi ih.2 he, step_out ih.1 ih.2 he⟩
end Cc
set_option maxRecDepth 100000
set_option maxHeartbeats 4000000
/-! step -/
namespace Cc
open PySem PySem.Spec PyProof.Rows L2
theorem scs2607 : FnScope ["self", "top", "failure"] ["self"] (defScope (mst 26 7)) := ⟨rfl, rfl, rfl, by decide +kernel, rfl, by decide +kernel, by decide +kernel⟩
def spM7 (K : PySem.W.Frag) (a : Nat → Addr) : Sp := fun vs H Q _ => ∃ (H0 : Hp) (G : Pg) (I : List Int) (A : RA) (c : Cf) (l : List (FO × Fr)), vs = [.ref A.r] ∧ RunY K a H0 H G I A c l ∧ WF G ∧ CfOk G c ∧ (∀ i ∈ I, Sml i) ∧ isOut c = false ∧ c.ending = none ∧ c.steps.length ≤ 900 ∧
  ∀ H' l', RunY K a H0 H' G I A (step G I c) l' → Q .non H'
section
variable {P : Program} {w : World} {K : PySem.W.Frag} {mg : Str → Option Value} {base : Heap} {a : Nat → Addr} {fd : Nat → FuncData}
theorem okM7 (T : Tx P K mg base a fd) : FnOk P w K mg base CX0 51 (a 2607) (fd 2607) ["self"] (spM7 K a) := by
  refine T.F2607.ok scs2607 (fun vs H Q E h => ?_) (fun cdv A outer s H vs Q E hr h => ⟨_, (pss_cons (ps_expr (pe_meth0 (pv 0) T.clRun T.M4 (okM4 T) (hr.mono (by first | exact Nat.le_refl _ | decide | omega)) T.bM4 .nil pass0)) (pss_cons (ps_set (i := 1) scs2607.nd rfl (Or.inl rfl) (pe_ix (ixLK (K := K) rfl) (pe_fldK (K := K) rfl (pv 0) rfl) (pe_un un_neg pe_int) (fun _ _ => rfl))) (pss_cons (ps_try_as (i := 2) (tb := fun W => tDrop (CgM.tMethS (a 26) "execute" (spM8 K a) (WE W) (tVar 0) (tCons (tVar 1) (tCons (tCall (sp16 K (a 1501) (a 1601)) [] E0 (tCons (tFld K (tVar 0) "program") (tCons (tFld K (tVar 1) "name") (tCons (tFld K (tVar 1) "place") tNil)))) tNil)))) (ts := fun x cls d => sFld K (tVar 0) (tTup (tCons (tC (.str "failed")) (tCons (tFld K (tVar 1) "name") (tCons (tFld K (tVar 1) "place") (tCons (CgF.tKindFail (a 24) x cls d (tVar 2)) tNil))))) "ending") (Wout := fun _ _ _ _ => False) rfl rfl scs2607.nd rfl rfl ⟨rfl, by decide, .inl T.fail.gC⟩ takes0
          (fun W pn xe tk _ => pss_one (ps_expr (by exact (CgM.pe_methS (pv 0) T.clRun T.M8 (okM8 T) (hr.mono (by first | exact Nat.le_refl _ | decide | omega)) T.bM8 (fun σ => passAt tk σ) (by exact (pa_cons (pv 1) (pa_cons (pe_call (ok16 T) (hr.mono (by first | exact Nat.le_refl _ | decide | omega)) rfl T.D16.mg T.D16.kp T.D16.bd .nil pass0 (pa_cons (pe_fldK (K := K) rfl (pv 0) rfl) (pa_cons (pe_fldK (K := K) rfl (pv 1) rfl) (pa_cons (pe_fldK (K := K) rfl (pv 1) rfl) pa_nil)))) pa_nil)))))))
          (fun x oe cls d pn hz hf => pss_one (by exact (ps_fld (pv 0) (pe_tup (pa_cons pe_str (pa_cons (pe_fldK (K := K) rfl (pv 1) rfl) (pa_cons (pe_fldK (K := K) rfl (pv 1) rfl) (pa_cons (CgF.pe_kindFail T.fail hz hf (pv 2)) pa_nil))))) rfl)))) (pss_one (ps_expr (pe_meth0 (pv 0) T.clRun T.M6 (okM6 T) (hr.mono (by first | exact Nat.le_refl _ | decide | omega)) T.bM6 .nil pass0)))))), ?_⟩)
  · obtain ⟨H0, G, I, A, c, l, rfl, _⟩ := h
    rfl
  · obtain ⟨H0, G, I, A, c, l, rfl, R, W, ok, hi, ho, he, hz, q⟩ := h
    obtain ⟨f, r, hfs⟩ : ∃ f r, c.fs = f :: r := by
      cases z : c.fs with
      | nil => exact absurd z (ok.live he)
      | cons f r => exact ⟨f, r, rfl⟩
    obtain ⟨p, hpl⟩ := isOut_top hfs he ho
    have hfr := ok.fr f (by rw [hfs]; simp)
    obtain ⟨pr, s, hp, hs⟩ := procOf_of hfr hpl
    obtain ⟨e0, sv0, sk0, R0⟩ := id R
    obtain ⟨o, l, rfl, hl⟩ := map_inv (hfs.symm.trans R0.fs)
    rw [step_eq hfs hpl hp hs] at q
    have hst : ({ c with steps := c.steps ++ [stepD G c f] } : Cf).told.length + 1 ≤ (c.steps ++ [stepD G c f]).length := by
      have := ok.told
      rw [List.length_append]; show c.told.length + 1 ≤ _; simp; omega
    have okx := exec_ok W (ok.keepS (stepD G c f)) hfs hst hi hp hpl hs he
    have hok := W.okS hp hs
    simp only [wAs, WE, CgM.tMethS]
    walk_at "a8"
    refine metI R0.gr rfl ?_
    refine ⟨H0, G, I, A, c, o, f, l, pr, rfl, R, W, hp, by omega, fun H1 R1 => ?_⟩
    obtain ⟨e1, sv1, sk1, R1'⟩ := id R1
    walk_at "a8"
    refine fldI R1'.gr T.clRun T.nr_frames rfl ?_
    refine ixL (SqL.of R1'.gfl) top_ix ?_
    walk_at "a8"
    refine metI R1'.gr rfl ?_
    refine fldI R1'.gr T.clRun T.nr_program rfl ?_
    refine fldI R1'.gtop T.clFrame T.nf_name rfl ?_
    refine fldI R1'.gtop T.clFrame T.nf_place rfl ?_
    rw [hpl]
    refine ⟨_, _, _, _, _, _, rfl, R1'.pg, hp, stmt_pthB hs (W.b.pr pr (proc_mem hp)).all (W.b.pr pr (proc_mem hp)).dep, hs, R1'.t15, R1'.t16, fun u H2 c2 hu => ?_⟩
    have R2 := R1.chg c2
    refine ⟨H0, G, I, A, _, o, f, l, s, p, pr, u, rfl, R2, W, ok.keepS (stepD G c f), hok, by show (c.steps ++ [_]).length ≤ 1000; simp; omega, hp, hpl, hs, hu, fun c' hc' H3 l3 R3 => ?_, fun k hk d H3 c3 hd => ?_⟩
    · rw [exec_eq (by exact he)] at q okx
      rw [hl, hc'] at q
      rw [hl, hc'] at okx
      obtain ⟨e3, sv3, sk3, R3'⟩ := id R3
      walk_at "a8"
      refine metI R3'.gr rfl ?_
      exact ⟨H0, G, I, A, c', l3, rfl, R3, W, okx, q⟩
    · rw [exec_eq (by exact he)] at q okx
      rw [hl, hk] at q
      rw [hl, hk] at okx
      have R3 := R2.chg c3
      obtain ⟨e3, sv3, sk3, R3'⟩ := id R3
      simp only [wAs, WE]
      refine ⟨true, T.fail.te, fun _ fa hfa => ?_, fun z => Bool.noConfusion z⟩
      walk_at "a8"
      refine fldI R3'.gtop T.clFrame T.nf_name rfl ?_
      refine fldI R3'.gtop T.clFrame T.nf_place rfl ?_
      walk_at "a8"
      refine ⟨_, rfl, rfl, rfl, d, _, rfl, hd, ⟨by decide, fun pp hpp => ?_⟩⟩
      have c4 := Chg.new (L := []) (o := .tup [V.str (Str.ofString "failed"), V.str f.name, V.str (placeT f.place), V.str k]) hpp
      have R4 := R3'.chg c4
      have R5 := R4.endd (dat_tup (K := K) (a := pp) (l := [.str (Str.ofString "failed"), .str f.name, .str (placeT f.place), .str k]) (SqT.of upd_same) (dats_cons dat_str (dats_cons dat_str (dats_cons dat_str (dats_cons dat_str dats_nil))))) (by simp)
      refine fldWI R4.gr T.clRun T.nr_ending runL_len rfl ?_
      refine metI R5.gr rfl ?_
      exact ⟨H0, G, I, A, _, _, rfl, ⟨_, _, _, R5⟩, W, okx, q⟩
end
end Cc
set_option maxRecDepth 100000
set_option maxHeartbeats 4000000
/-! Run.__init__ -/
namespace Cc
open PySem PySem.Spec PyProof.Rows L2
theorem procOf_mem {G : Pg} {pr : Pr} (h : pr ∈ G.procs) : ∃ pq, procOf G pr.name = some pq := by
  cases z : procOf G pr.name with
  | some pq => exact ⟨pq, rfl⟩
  | none =>
    have := List.find?_eq_none.mp z pr h
    simp at this
theorem fldX {K : PySem.W.Frag} {f : Str} {x C dx : Addr} {fs gs : List (Str × V)} {y : V} {H1 H : Hp} {Q : Hp → Prop} (h : H x = some (.ins C dx fs)) (c : Cls K C) (n : NoAttr K C f) (l : fs.length < 1000) (e : putF f y fs = gs) (k : Chg [] H1 H) (hx : H1 x = none)
    (q : ∀ H', Chg [] H1 H' → H' x = some (.ins C dx gs) → (∀ b, b ≠ x → H' b = H b) → Chg [x] H H' → Q H') : fldW K f (.ref x) y H Q :=
  fldWI h c n l e (q _ (k.own hx) upd_same (fun b hb => upd_ne hb) (Chg.put h trivial (by simp)))
/-- the start, before the calls at their exit are ended -/
def raw (G : Pg) : Cf := ⟨zeroK, [frameOf G "main" [] none], [], [], 0, none⟩
theorem raw_ok {G : Pg} (W : WF G) : CfOk G (raw G) := by
  obtain ⟨pr, hp, he⟩ := W.main
  refine ⟨fun x hx => ?_, True.intro, fun n _ => sml0, by simp [raw], Nat.le_refl _, fun _ => by simp [raw]⟩
  rw [List.mem_singleton.mp hx]
  exact frameOf_ok hp fun v hv => nomatch hv
def NmAt (K : PySem.W.Frag) (G : Pg) (ps : List Pr) (nk : List (Key × V)) (H : Hp) : Prop := nk.length ≤ 100 ∧ ∀ pr ∈ ps, ∃ t, valV nk (Sum.inr pr.name) = some (.ref t) ∧ SqT K H t ((varsOf G pr.name).map V.str)
theorem procs_at {K : PySem.W.Frag} {H : Hp} {G : Pg} {xs : List V} {i : Nat} {x : V} (h : DatsAt K H (G.procs.map Pr.d) xs) (e : xs[i]? = some x) : ∃ pr, G.procs[i]? = some pr ∧ DatAt K H pr.d x := by
  have hl := h.len
  rw [List.length_map] at hl
  have hi : i < xs.length := by
    rcases Nat.lt_or_ge i xs.length with z | z
    · exact z
    · rw [List.getElem?_eq_none z] at e; cases e
  have h1 : G.procs[i]? = some G.procs[i] := List.getElem?_eq_getElem (by omega)
  obtain ⟨v, hv, hd⟩ := h.get (i := i) (d := G.procs[i].d) (by rw [List.getElem?_map, h1]; rfl)
  rw [e] at hv
  cases hv
  exact ⟨_, h1, hd⟩
theorem scs2600 : FnScope ["self", "program", "inputs", "one", "name"] ["self", "program", "inputs"] (defScope (mst 26 0)) := ⟨rfl, rfl, rfl, by decide +kernel, rfl, by decide +kernel, by decide +kernel⟩
def spM0 (K : PySem.W.Frag) (a : Nat → Addr) : Sp := fun vs H Q _ => ∃ (H0 H1 : Hp) (G : Pg) (I : List Int) (x dx iv : Addr) (v : V), vs = [.ref x, v, .ref iv] ∧ Chg [] H0 H1 ∧ H1 x = none ∧ H = upd H1 x (.ins (a 26) dx []) ∧ WF G ∧ DatAt K H1 G.d v ∧ SqT K H1 iv (I.map V.int) ∧ GxR.TabG H1 (a 1501) ∧ GxR.TabG H1 (a 1601) ∧
  ∀ A H' l, A.r = x → RunY K a H0 H' G I A (init G) l → Q .non H'
section
variable {P : Program} {w : World} {K : PySem.W.Frag} {mg : Str → Option Value} {base : Heap} {a : Nat → Addr} {fd : Nat → FuncData}
theorem okM0 (T : Tx P K mg base a fd) : FnOk P w K mg base CX0 52 (a 2600) (fd 2600) ["self", "program", "inputs"] (spM0 K a) := by
  refine T.F2600.ok scs2600 (fun vs H Q E h => ?_) (fun cdv A outer s H vs Q E hr h => ⟨_, (pss_cons (ps_fld (pv 0) (pv 1) rfl)
      (pss_cons (ps_fld (pv 0) (pv 2) rfl)
      (pss_cons (ps_fld (pv 0) (pe_dc (own := [("one", 3)]) (g := gName 3) (tt := tYes) (by rfl) scs2600.nd (pi_tup (pe_ix (ixTK (K := K) rfl) (pv 1) pe_int (fun _ _ => rfl))) (blkOk_by (own := [("one", 3)]) (N := ["self", "program", "inputs", "one", "name"]) (sc := (defScope (mst 26 0))) (by decide +kernel)) (fun _ _ _ _ _ => (pg_name (i := 3) scs2600.nd rfl (Or.inl rfl))) (fun _ _ _ _ _ => pts_nil) (fun _ _ _ _ _ => (pe_ix (ixTK (K := K) rfl) (pv 3) pe_int (fun _ _ => rfl))) (fun _ _ _ _ _ => (pe_call (ok8 T) (hr.mono (by first | exact Nat.le_refl _ | decide | omega)) rfl T.D8.mg T.D8.kp T.D8.bd .nil pass0 (pa_cons (pv 1) (pa_cons (pe_ix (ixTK (K := K) rfl) (pv 3) pe_int (fun _ _ => rfl)) pa_nil))))) rfl)
      (pss_cons (ps_fld (pv 0) pe_int rfl)
      (pss_cons (ps_fld (pv 0) (pe_lst pa_nil) rfl)
      (pss_cons (ps_fld (pv 0) (pe_lst pa_nil) rfl)
      (pss_cons (ps_fld (pv 0) (pe_dc (own := [("name", 4)]) (g := gName 4) (tt := tYes) (by rfl) scs2600.nd (pi_tup (pe_ix (ixTK (K := K) rfl) (pv 1) pe_int (fun _ _ => rfl))) (blkOk_by (own := [("name", 4)]) (N := ["self", "program", "inputs", "one", "name"]) (sc := (defScope (mst 26 0))) (by decide +kernel)) (fun _ _ _ _ _ => (pg_name (i := 4) scs2600.nd rfl (Or.inl rfl))) (fun _ _ _ _ _ => pts_nil) (fun _ _ _ _ _ => (pv 4)) (fun _ _ _ _ _ => pe_int)) rfl)
      (pss_cons (ps_fld (pv 0) (pe_lst (pa_cons (pe_meth (pv 0) T.clRun T.M1 (okM1 T) (hr.mono (by first | exact Nat.le_refl _ | decide | omega)) T.bM1 .nil pass0 (pa_cons pe_str (pa_cons (pe_tup pa_nil) (pa_cons pe_non pa_nil)))) pa_nil)) rfl)
      (pss_cons (ps_fld (pv 0) pe_non rfl)
      (pss_one (ps_expr (pe_meth0 (pv 0) T.clRun T.M6 (okM6 T) (hr.mono (by first | exact Nat.le_refl _ | decide | omega)) T.bM6 .nil pass0)))))))))))), ?_⟩)
  · obtain ⟨H0, H1, G, I, x, dx, iv, v, rfl, _⟩ := h
    rfl
  · obtain ⟨H0, H1, G, I, x, dx, iv, v, rfl, c0, hx, rfl, W, hG, hI, t15, t16, q⟩ := h
    walk_at "a8"
    refine fldX upd_same T.clRun T.nr_program (Nat.zero_lt_succ _) rfl (Chg.refl.own hx) hx (fun H2 k2 hx2 s2 _ => ?_)
    refine fldX hx2 T.clRun T.nr_inputs (by exact (by decide : 1 < 1000)) rfl k2 hx (fun H3 k3 hx3 s3 _ => ?_)
    have hG3 := hG.chg k3
    obtain ⟨p, b, c, xs, rfl, h0, h1, h2, g⟩ := pg_at hG3
    walk_at "a8"
    refine ⟨⟨_, h2⟩, dcT h2 (fun i acc H => acc.length ≤ (G.procs.take i).length ∧ ∀ pr ∈ G.procs.take i, ∃ t, valV acc (Sum.inr pr.name) = some (.ref t) ∧ SqT K H t ((varsOf G pr.name).map V.str)) ⟨Nat.le_refl _, fun pr hpr => nomatch hpr⟩ (fun i acc L Ha Hb hc z => ⟨z.1, fun pr hpr => by
      obtain ⟨t, h5, h6⟩ := z.2 pr hpr
      exact ⟨t, h5, hc.sqT h6⟩⟩) (fun i acc H z => ?_) ?_ ?_⟩
    · have h5 := z.1
      have h6 := W.few
      rw [List.length_take] at h5
      exact sz' (by omega)
    · intro i y H4 acc N' N hy c4 z q1 q2
      obtain ⟨pr, hpr, hd⟩ := procs_at g hy
      have hd4 := hd.chg c4
      obtain ⟨p4, b4, c4', xs4, rfl, h40, h41, h42, g4⟩ := pr_at hd4
      walk_at "a8"
      obtain ⟨pq, hpq⟩ := procOf_mem (List.mem_of_getElem? hpr)
      refine ⟨_, _, _, pq, rfl, hG3.chg c4, hpq, W.b, fun t H5 c5 ht => ?_⟩
      refine q1 (Sum.inr pr.name) (.ref t) H5 c5 ⟨by rw [take_succ hpr, List.length_append]; exact Nat.le_trans (length_putK acc _ _) (Nat.succ_le_succ z.1), fun pn hpn => ?_⟩
      rw [take_succ hpr] at hpn
      rw [valV_put]
      by_cases e : pn.name = pr.name
      · rw [if_pos (congrArg Sum.inr e), e]
        exact ⟨t, rfl, ht⟩
      · rw [if_neg (fun w => e (Sum.inr.inj w))]
        rcases List.mem_append.mp hpn with m | m
        · obtain ⟨t6, h5, h6⟩ := z.2 pn m
          exact ⟨t6, h5, c5.sqT h6⟩
        · rw [List.mem_singleton.mp m] at e
          exact absurd rfl e
    · intro D H4 nk hD c4 hDk z
      have hx4 := c4.get hx3
      have hDx : D ≠ x := fun w => by rw [w, hx3] at hD; cases hD
      have k4 := k3.trans c4
      refine fldX hx4 T.clRun T.nr_names (by exact (by decide : 2 < 1000)) rfl k4 hx (fun H5 k5 hx5 s5 w5 => ?_)
      refine fldX hx5 T.clRun T.nr_used (by exact (by decide : 3 < 1000)) rfl k5 hx (fun H6 k6 hx6 s6 w6 => ?_)
      have hD6 : H6 D = some (.dK nk) := by rw [s6 D hDx, s5 D hDx]; exact hDk
      refine ⟨by decide, fun td htd => ?_⟩
      have htx : td ≠ x := Ne.symm (ne_of_none hx6 htd)
      refine fldX (H := upd H6 td (.lst [])) (by rw [upd_ne (Ne.symm htx)]; exact hx6) T.clRun T.nr_told (by exact (by decide : 4 < 1000)) rfl (k6.thenNew htd) hx (fun H7 k7 hx7 s7 w7 => ?_)
      have htd7 : H7 td = some (.lst []) := by rw [s7 td htx]; exact upd_same
      have hD7 : H7 D = some (.dK nk) := by rw [s7 D hDx, upd_ne (ne_of_none hD6 htd)]; exact hD6
      refine ⟨by decide, fun sd hsd => ?_⟩
      have hsx : sd ≠ x := Ne.symm (ne_of_none hx7 hsd)
      refine fldX (H := upd H7 sd (.lst [])) (by rw [upd_ne (Ne.symm hsx)]; exact hx7) T.clRun T.nr_steps (by exact (by decide : 5 < 1000)) rfl (k7.thenNew hsd) hx (fun H8 k8 hx8 s8 w8 => ?_)
      have hsd8 : H8 sd = some (.lst []) := by rw [s8 sd hsx]; exact upd_same
      have htd8 : H8 td = some (.lst []) := by rw [s8 td htx, upd_ne (ne_of_none htd7 hsd)]; exact htd7
      have hD8 : H8 D = some (.dK nk) := by rw [s8 D hDx, upd_ne (ne_of_none hD7 hsd)]; exact hD7
      have w48 : Chg [x] H4 H8 := (((w5.trans w6).thenNew htd).trans w7).thenNew hsd |>.trans w8
      have h18 := w48.sqT (c4.sqT h1)
      have h08 := w48.sqT (c4.sqT h0)
      walk_at "a8"
      refine ⟨⟨_, h18⟩, dcT h18 (fun i acc H => acc = (G.shared.take i).foldl (fun acc n => putK acc (Sum.inr n) (V.int 0)) []) (by rw [List.take_zero]; rfl) (fun i acc L H H' _ z => z) (fun i acc H z => ?_) ?_ ?_⟩
      · have := zero_len (G.shared.take i) []
        have hs := W.b.sh
        rw [List.length_take, List.length_nil] at this
        rw [z]; exact sz' (by omega)
      · intro i y H9 acc N' N hy c9 z q1 q2
        obtain ⟨m, hm, rfl⟩ := strs_at hy
        walk_at "a8"
        exact q1 (Sum.inr m) (.int 0) _ Chg.refl (by rw [z, take_succ hm, List.foldl_append]; rfl)
      · intro shd H9 sk hsh c9 hsk zk
        rw [List.length_map, List.take_length] at zk
        have hx9 := c9.get hx8
        have hshx : shd ≠ x := fun w => by rw [w, hx8] at hsh; cases hsh
        have k9 := k8.trans c9
        refine fldX hx9 T.clRun T.nr_shared (by exact (by decide : 6 < 1000)) rfl k9 hx (fun HA kA hxA sA wA => ?_)
        have hDA : HA D = some (.dK nk) := by rw [sA D hDx]; exact c9.get hD8
        have htdA : HA td = some (.lst []) := by rw [sA td htx]; exact c9.get htd8
        have hsdA : HA sd = some (.lst []) := by rw [sA sd hsx]; exact c9.get hsd8
        have hshA : HA shd = some (.dK sk) := by rw [sA shd hshx]; exact hsk
        have w4A : Chg [x] H4 HA := (w48.trans c9.of0).trans wA
        refine metI hxA rfl ⟨by decide, fun u hu => ?_⟩
        obtain ⟨pm, hpm, hpar⟩ := W.main
        have nmA : ∃ nkvs, HA D = some (.dK nkvs) ∧ ∀ pr ∈ G.procs, ∃ t, valV nkvs (Sum.inr pr.name) = some (.ref t) ∧ SqT K HA t ((varsOf G pr.name).map V.str) := ⟨nk, hDA, fun pr hpr => by
          have hl := g.len
          rw [List.length_map] at hl
          rw [hl, List.take_length] at z
          obtain ⟨t, h5, h6⟩ := z.2 pr hpr
          exact ⟨t, h5, w4A.sqT h6⟩⟩
        have cu : Chg [] HA (upd HA u (.tup [])) := Chg.new hu
        have hGA := (hG3.chg c4).chg w4A
        refine ⟨x, dx, D, u, _, _, G, _, pm, true, [], none, rfl, cu.get hxA, rfl, rfl, ?_, hGA.chg cu, W, hpm, sqX_t (SqT.of upd_same), fun o HB cB ho1 ho2 ho3 ho4 ho5 ho6 => ?_⟩
        · obtain ⟨nk', z1, z2⟩ := nmA
          exact ⟨nk', cu.get z1, fun pr hpr => by
            obtain ⟨t, h5, h6⟩ := z2 pr hpr
            exact ⟨t, h5, cu.sqT h6⟩⟩
        have cAB := cu.trans cB
        have ho1A := cu.back ho1
        have ho2A := cu.back ho2
        walk_at "a8"
        revert pp
        intro fl hfl
        have hxB := cAB.get hxA
        have hflx : fl ≠ x := Ne.symm (ne_of_none hxB hfl)
        refine fldX (H := upd HB fl (.lst [.ref o.fa])) (by rw [upd_ne (Ne.symm hflx)]; exact hxB) T.clRun T.nr_frames (by exact (by decide : 7 < 1000)) rfl ((kA.trans cAB).thenNew hfl) hx (fun HC kC hxC sC wC => ?_)
        refine fldX hxC T.clRun T.nr_ending (by exact (by decide : 8 < 1000)) rfl kC hx (fun HD kD hxD sD wD => ?_)
        have keep : ∀ b o, b ≠ x → HB b = some o → HD b = some o := fun b o hb e => by rw [sD b hb, sC b hb, upd_ne (ne_of_none e hfl)]; exact e
        have hox : o.fa ≠ x := Ne.symm (ne_of_none hxA ho1A)
        have hkx : o.kd ≠ x := Ne.symm (ne_of_none hxA ho2A)
        have nsd : sd ≠ td ∧ True := ⟨Ne.symm (ne_of_none htd7 hsd), trivial⟩
        have nsh : shd ≠ td ∧ shd ≠ sd := ⟨Ne.symm (ne_of_none htd8 hsh), Ne.symm (ne_of_none hsd8 hsh)⟩
        have nfl : fl ≠ td ∧ fl ≠ sd ∧ fl ≠ shd := ⟨Ne.symm (ne_of_none (cAB.get htdA) hfl), Ne.symm (ne_of_none (cAB.get hsdA) hfl), Ne.symm (ne_of_none (cAB.get hshA) hfl)⟩
        have nfa : o.fa ≠ td ∧ o.fa ≠ sd ∧ o.fa ≠ shd ∧ o.fa ≠ fl := ⟨Ne.symm (ne_of_none htdA ho1A), Ne.symm (ne_of_none hsdA ho1A), Ne.symm (ne_of_none hshA ho1A), ne_of_none ho4 hfl⟩
        have nkd : o.kd ≠ td ∧ o.kd ≠ sd ∧ o.kd ≠ shd ∧ o.kd ≠ fl := ⟨Ne.symm (ne_of_none htdA ho2A), Ne.symm (ne_of_none hsdA ho2A), Ne.symm (ne_of_none hshA ho2A), ne_of_none ho5 hfl⟩
        have wAD : Chg [x] HA HD := ((cAB.of0.thenNew hfl).trans wC).trans wD
        have R : RunX K a H0 HD G I ⟨x, dx, .ref p, iv, D, td, sd, shd, fl⟩ (raw G) .non [] sk [(o, frameOf G "main" [] none)] := {
          at_ := fun pp hpp => by
            simp only [cells, fCells, List.mem_cons, List.not_mem_nil, or_false, flist, List.map_cons, List.map_nil, List.reverse_cons, List.reverse_nil, List.nil_append] at hpp
            rcases hpp with e | e | e | e | e | e | e
            · rw [e]; exact hxD
            · rw [e]; exact keep td _ htx (cAB.get htdA)
            · rw [e]; exact keep sd _ hsx (cAB.get hsdA)
            · rw [e]; exact keep shd _ hshx (cAB.get hshA)
            · rw [e]; show HD fl = _; rw [sD fl hflx, sC fl hflx]; exact upd_same
            · rw [e]; exact keep o.fa _ hox ho4
            · rw [e]; exact keep o.kd _ hkx ho5
          nd := by
            simp only [muts, fAdr, List.nodup_cons, List.mem_cons, List.not_mem_nil, or_false, not_or, not_false_eq_true, List.nodup_nil, and_true]
            refine ⟨⟨Ne.symm htx, Ne.symm hsx, Ne.symm hshx, Ne.symm hflx, Ne.symm hox, Ne.symm hkx⟩, ⟨Ne.symm (fun e => nsd.1 e), Ne.symm nsh.1, Ne.symm nfl.1, Ne.symm nfa.1, Ne.symm nkd.1⟩, ⟨Ne.symm nsh.2, Ne.symm nfl.2.1, Ne.symm nfa.2.1, Ne.symm nkd.2.1⟩, ⟨Ne.symm nfl.2.2, Ne.symm nfa.2.2.1, Ne.symm nkd.2.2.1⟩, ⟨Ne.symm nfa.2.2.2, Ne.symm nkd.2.2.2⟩, ho3⟩
          fs := rfl
          sh := ⟨by rw [zk]; have := zero_len G.shared []; have hs := W.b.sh; rw [List.length_nil] at this; omega, fun n => by rw [zk, rep_zero]; rfl⟩
          kp := fun y hy => by rw [List.mem_singleton.mp hy]; exact ho6
          st := dats_nil
          en := rfl
          nm := by
            obtain ⟨nk', z1, z2⟩ := nmA
            exact ⟨nk', keep D _ hDx (cAB.get z1), fun pr hpr => by
              obtain ⟨t, h5, h6⟩ := z2 pr hpr
              exact ⟨t, h5, wAD.sqT h6⟩⟩
          nn := by
            simp only [muts, fAdr, List.mem_cons, List.not_mem_nil, or_false, not_or]
            exact ⟨hDx, ne_of_none hD6 htd, ne_of_none hD7 hsd, ne_of_none hD8 hsh, ne_of_none (cAB.get hDA) hfl, ne_of_none hDA ho1A, ne_of_none hDA ho2A⟩
          pg := hGA.chg wAD
          inp := kD.sqT hI
          c0 := c0.trans kD
          fr := fun bb hbb => by
            refine c0.back ?_
            simp only [muts, fAdr, List.mem_cons, List.not_mem_nil, or_false] at hbb
            rcases hbb with e | e | e | e | e | e | e
            · rw [e]; exact hx
            · rw [e]; exact k6.back htd
            · rw [e]; exact k7.back hsd
            · rw [e]; exact k8.back hsh
            · rw [e]; exact (kA.trans cAB).back hfl
            · rw [e]; exact kA.back ho1A
            · rw [e]; exact kA.back ho2A
          t15 := kD.tabs _ t15
          t16 := kD.tabs _ t16 }
        refine metI R.gr rfl ?_
        exact ⟨H0, G, I, _, _, _, rfl, ⟨_, _, _, R⟩, W, raw_ok W, fun H' l' R' => q _ H' l' rfl R'⟩
end
end Cc
set_option maxRecDepth 100000
set_option maxHeartbeats 4000000
/-! full_run, run, trace -/
namespace Cc
open PySem PySem.Spec PyProof.Rows L2
theorem store_steps {G : Pg} {c : Cf} {f : Fr} {r : List Fr} {n : Str} {v : Int} : (store G c f r n v).steps = c.steps := by unfold store; split <;> rfl
theorem adv_steps {G : Pg} {c : Cf} : (adv G c).steps = c.steps := by unfold adv; split <;> rfl
theorem leave_steps {G : Pg} {c : Cf} {v : Int} : (leave G v c).steps = c.steps := by
  unfold leave
  split
  · rfl
  · rfl
  · rw [adv_steps]
    split
    · rfl
    · exact store_steps
theorem norm_steps {G : Pg} {c : Cf} : (norm G c).steps = c.steps := by
  induction hn : c.fs.length using Nat.strongRecOn generalizing c with
  | _ n ih =>
    by_cases ho : isOut c = true
    · rw [norm_out ho, ih _ (by rw [← hn]; exact leave_len G 0 c (isOut_fs ho)) rfl, leave_steps]
    · rw [norm_in (by simpa using ho)]
theorem exec_steps {G : Pg} {I : List Int} {c : Cf} {f : Fr} {rest : List Fr} {p : List Nat} {s : Sm} : (exec G I c f rest p s).steps = c.steps := by
  cases s with
  | set n e => simp only [exec]; split <;> simp [fail, adv_steps, store_steps]
  | ask n => simp only [exec]; split <;> simp [adv_steps, store_steps]
  | tell e => simp only [exec]; split <;> simp [fail, adv_steps]
  | chk b => simp only [exec]; split <;> (try split) <;> simp [fail, adv_steps]
  | need b => simp only [exec]; split <;> (try split) <;> simp [fail, adv_steps]
  | ret e => simp only [exec]; split <;> simp [fail, leave_steps]
  | ite b x y => simp only [exec]; split <;> simp [fail, goto]
  | whl b x => simp only [exec]; split <;> (try split) <;> simp [fail, goto, adv_steps]
  | call q es t => simp only [exec]; split <;> (try split) <;> simp [fail]
theorem step_steps {G : Pg} {I : List Int} {c : Cf} (h : CfOk G c) (ho : isOut c = false) (he : c.ending = none) : (step G I c).steps.length = c.steps.length + 1 := by
  match e : c.fs with
  | [] => exact absurd e (h.live he)
  | f :: r =>
    obtain ⟨p, hpl⟩ := isOut_top e he ho
    obtain ⟨pr, s, hp, hs⟩ := procOf_of (h.fr f (by rw [e]; simp)) hpl
    rw [step_eq e hpl hp hs, norm_steps, exec_steps]
    simp
theorem init_steps {G : Pg} : (init G).steps = [] := by unfold init; exact norm_steps
theorem Runs.len {G : Pg} {I : List Int} {lim : Nat} {c : Cf} (W : WF G) (hi : ∀ i ∈ I, Sml i) (h : Runs G I lim c) : c.steps.length ≤ lim := by
  induction h with
  | start => rw [init_steps]; exact Nat.zero_le _
  | more h l ih =>
    obtain ⟨ok, ho⟩ := h.ok W hi
    unfold live at l
    rw [Bool.and_eq_true] at l
    rw [step_steps ok ho (Option.isNone_iff_eq_none.mp l.1)]
    exact of_decide_eq_true l.2
/-- what a run ends with -/
def fin (c : Cf) : Cf := if c.ending = none then { c with ending := some (.tup [.str (Str.ofString "running")]) } else c
theorem fin_told {c : Cf} : (fin c).told = c.told := by unfold fin; split <;> rfl
theorem fin_steps {c : Cf} : (fin c).steps = c.steps := by unfold fin; split <;> rfl
theorem fin_end {K : PySem.W.Frag} {H : Hp} {c : Cf} {e : V} (h : EndAt K H (fin c).ending e) : ∃ d, (fin c).ending = some d ∧ DatAt K H d e := by
  cases z : (fin c).ending with
  | some d => rw [z] at h; exact ⟨d, rfl, h.1⟩
  | none =>
    unfold fin at z
    split at z
    · cases z
    · next w => exact absurd z w
theorem scs29 : FnScope ["program", "inputs", "limit", "made"] ["program", "inputs", "limit"] (defScope (dst 29)) := ⟨rfl, rfl, rfl, by decide +kernel, rfl, by decide +kernel, by decide +kernel⟩
def spF (K : PySem.W.Frag) (a : Nat → Addr) (vs : List V) (H : Hp) (q : (G : Pg) → (I : List Int) → (lim : Nat) → Prop) : Prop := ∃ (v : V) (iv : Addr) (G : Pg) (I : List Int) (lim : Nat), vs = [v, .ref iv, .int lim] ∧ WF G ∧ (∀ i ∈ I, Sml i) ∧ lim ≤ 300 ∧ DatAt K H G.d v ∧ SqT K H iv (I.map V.int) ∧ GxR.TabG H (a 1501) ∧ GxR.TabG H (a 1601) ∧ q G I lim
def sp29 (K : PySem.W.Frag) (a : Nat → Addr) : Sp := fun vs H Q _ => spF K a vs H fun G I lim => ∀ A c l H', Runs G I lim c → live lim c = false → RunY K a H H' G I A (fin c) l → Q (.ref A.r) H'
def sp30 (K : PySem.W.Frag) (a : Nat → Addr) : Sp := fun vs H Q _ => spF K a vs H fun G I lim => ∀ c p H' ev tp, Chg [] H H' → Runs G I lim c → live lim c = false → SqT K H' p [ev, .ref tp] → (∃ d, (fin c).ending = some d ∧ DatAt K H' d ev) → SqT K H' tp (c.told.map V.int) → Q (.ref p) H'
def sp31 (K : PySem.W.Frag) (a : Nat → Addr) : Sp := fun vs H Q _ => spF K a vs H fun G I lim => ∀ c p H', Chg [] H H' → Runs G I lim c → live lim c = false → DatAt K H' (.tup c.steps) (.ref p) → Q (.ref p) H'
section
variable {P : Program} {w : World} {K : PySem.W.Frag} {mg : Str → Option Value} {base : Heap} {a : Nat → Addr} {fd : Nat → FuncData}
theorem ok29 (T : Tx P K mg base a fd) : FnOk P w K mg base CX0 60 (a 29) (fd 29) ["program", "inputs", "limit"] (sp29 K a) := by
  refine T.D29.fn.ok scs29 (fun vs H Q E h => ?_) (fun cdv A outer s H vs Q E hr h => ⟨_, (pss_cons (ps_set (i := 3) scs29.nd rfl (Or.inl rfl) (pe_make T.mkRun (okM0 T) (hr.mono (by decide)) rfl T.gRun T.b2600 .nil pass0 (pa_cons (pv 0) (pa_cons (pv 1) pa_nil))))
      (pss_cons (ps_while PassesOwn.never (PW.pt (pw_and (pt_cmpR op_isN (pe_fldK (K := K) rfl (pv 3) rfl) pe_non (nomark _)) (pw_and1 (pt_cmpR op_lt (pe_callB call_len_seq (by rfl) T.n_len PyProof.Rows.Boot.«len» (pa_cons (pe_fldK (K := K) rfl (pv 3) rfl) pa_nil)) (pv 2) (nomark _))))) (pss_one (ps_expr (pe_meth0 (pv 3) T.clRun T.M7 (okM7 T) (hr.mono (by first | exact Nat.le_refl _ | decide | omega)) T.bM7 .nil pass0))))
      (pss_cons (ps_if (pt_cmpR op_isN (pe_fldK (K := K) rfl (pv 3) rfl) pe_non (nomark _)) (pss_one (ps_fld (pv 3) (pe_tup (pa_cons pe_str pa_nil)) rfl)) pss_nil)
      (pss_one (ps_ret (pv 3)))))), ?_⟩)
  · obtain ⟨v, iv, G, I, lim, rfl, _⟩ := h
    rfl
  · obtain ⟨v, iv, G, I, lim, rfl, W, hi, hl, hG, hI, t15, t16, q⟩ := h
    walk_at "a8"
    intro x dx hx hdx ne
    have c1 : Chg [] H (upd H dx (.own x)) := Chg.new hdx
    refine ⟨H, upd H dx (.own x), G, I, x, dx, iv, v, rfl, c1, by rw [upd_ne (Ne.symm ne)]; exact hx, rfl, W, hG.chg c1, c1.sqT hI, c1.tabs _ t15, c1.tabs _ t16, fun A H2 l hA R => ?_⟩
    subst hA
    walk_at "a8"
    refine ⟨fun m σ H3 => σ = [some v, some (.ref iv), some (.int lim), some (.ref A.r)] ∧ ∃ c' l', RunY K a H H3 G I A c' l' ∧ Runs G I lim c' ∧ m = lim - c'.steps.length, ⟨_, rfl, _, l, R, .start, rfl⟩, ?_⟩
    rintro m σ H3 ⟨rfl, c', l', ⟨e, sv, skvs, R'⟩, hr2, hm⟩
    obtain ⟨ok', ho⟩ := hr2.ok W hi
    have hlen := hr2.len W hi
    have hsv : sv.length = c'.steps.length := R'.st.len
    walk_at "a8"
    refine fldI R'.gr T.clRun T.nr_ending rfl ?_
    by_cases he : c'.ending = none
    · rw [if_pos ((end_iff R'.en).mpr he)]
      refine fldI R'.gr T.clRun T.nr_steps rfl ?_
      refine ⟨_, rfl, sv, .inl (SqL.of R'.gsd), ?_⟩
      by_cases hlt : c'.steps.length < lim
      · rw [if_pos (by omega)]
        have hlive : live lim c' = true := by unfold live; rw [he, decide_eq_true hlt]; rfl
        refine ⟨fun σ' H' => σ' = [some v, some (.ref iv), some (.int lim), some (.ref A.r)] ∧ ∃ l'', RunY K a H H' G I A (step G I c') l'', ?_, ?_⟩
        · rintro σ' H' ⟨rfl, l'', h1⟩
          refine ⟨lim - (step G I c').steps.length, ?_, rfl, _, ⟨_, h1⟩, .more hr2 hlive, rfl⟩
          rw [step_steps ok' ho he, hm]; omega
        · refine metI R'.gr rfl ?_
          exact ⟨H, G, I, A, c', l', rfl, ⟨_, _, _, R'⟩, W, ok', hi, ho, he, by omega, fun H4 l4 R4 => ⟨rfl, l4, R4⟩⟩
      · rw [if_neg (by omega)]
        have hdead : live lim c' = false := by unfold live; rw [decide_eq_false hlt, Bool.and_false]
        refine fldI R'.gr T.clRun T.nr_ending rfl ?_
        rw [if_pos ((end_iff R'.en).mpr he)]
        refine ⟨by decide, fun p hp => ?_⟩
        have c4 := Chg.new (L := []) (o := .tup [V.str (Str.ofString "running")]) hp
        have R4 := R'.chg c4
        have R5 := R4.endd (dat_tup (K := K) (a := p) (l := [.str (Str.ofString "running")]) (SqT.of upd_same) (dats_cons dat_str dats_nil)) (by simp)
        refine fldWI R4.gr T.clRun T.nr_ending runL_len rfl ?_
        refine q A c' l' _ hr2 hdead ?_
        unfold fin
        rw [if_pos he]
        exact ⟨_, _, _, R5⟩
    · rw [if_neg (fun z => he ((end_iff R'.en).mp z))]
      have hdead : live lim c' = false := by
        unfold live
        cases z : c'.ending with
        | none => exact absurd z he
        | some d => rfl
      refine fldI R'.gr T.clRun T.nr_ending rfl ?_
      rw [if_neg (fun z => he ((end_iff R'.en).mp z))]
      refine q A c' l' _ hr2 hdead ?_
      unfold fin
      rw [if_neg he]
      exact ⟨_, _, _, R'⟩
end
theorem scs30 : FnScope ["program", "inputs", "limit", "made"] ["program", "inputs", "limit"] (defScope (dst 30)) := ⟨rfl, rfl, rfl, by decide +kernel, rfl, by decide +kernel, by decide +kernel⟩
section
variable {P : Program} {w : World} {K : PySem.W.Frag} {mg : Str → Option Value} {base : Heap} {a : Nat → Addr} {fd : Nat → FuncData}
theorem ok30 (T : Tx P K mg base a fd) : FnOk P w K mg base CX0 61 (a 30) (fd 30) ["program", "inputs", "limit"] (sp30 K a) := by
  refine T.D30.fn.ok scs30 (fun vs H Q E h => ?_) (fun cdv A outer s H vs Q E hr h => ⟨_, (pss_cons (ps_set (i := 3) scs30.nd rfl (Or.inl rfl) (pe_call (ok29 T) (hr.mono (by first | exact Nat.le_refl _ | decide | omega)) rfl T.D29.mg T.D29.kp T.D29.bd .nil pass0 (pa_cons (pv 0) (pa_cons (pv 1) (pa_cons (pv 2) pa_nil)))))
      (pss_one (ps_ret (pe_tup (pa_cons (pe_fldK (K := K) rfl (pv 3) rfl) (pa_cons (pe_callTy call_tuple_of (by rfl) T.n_tuple PyProof.Rows.Boot.«tuple» (pa_cons (pe_fldK (K := K) rfl (pv 3) rfl) pa_nil)) pa_nil)))))), ?_⟩)
  · obtain ⟨v, iv, G, I, lim, rfl, _⟩ := h
    rfl
  · obtain ⟨v, iv, G, I, lim, rfl, W, hi, hl, hG, hI, t15, t16, q⟩ := h
    walk_at "a8"
    refine ⟨v, iv, G, I, lim, rfl, W, hi, hl, hG, hI, t15, t16, fun A c l H2 hr2 hd ⟨e, sv, skvs, R⟩ => ?_⟩
    walk_at "a8"
    refine fldI R.gr T.clRun T.nr_ending rfl ?_
    refine fldI R.gr T.clRun T.nr_told rfl ?_
    obtain ⟨d, hde, hda⟩ := fin_end R.en
    refine ⟨_, rfl, _, .inl ⟨SqL.of R.gtd, fun tp htp => ⟨by decide, fun p hp => ?_⟩⟩⟩
    have c2 : Chg [] H2 (upd (upd H2 tp (.tup ((fin c).told.map V.int))) p (.tup [e, .ref tp])) := (Chg.new htp).thenNew hp
    have hne : tp ≠ p := fun z => by rw [← z, upd_same] at hp; cases hp
    exact q c p _ e tp (R.c0.trans c2) hr2 hd (SqT.of upd_same) ⟨d, hde, hda.chg c2⟩ (by rw [← fin_told (c := c)]; exact SqT.of (by rw [upd_ne hne]; exact upd_same))
end
theorem scs31 : FnScope ["program", "inputs", "limit"] ["program", "inputs", "limit"] (defScope (dst 31)) := ⟨rfl, rfl, rfl, by decide +kernel, rfl, by decide +kernel, by decide +kernel⟩
section
variable {P : Program} {w : World} {K : PySem.W.Frag} {mg : Str → Option Value} {base : Heap} {a : Nat → Addr} {fd : Nat → FuncData}
theorem ok31 (T : Tx P K mg base a fd) : FnOk P w K mg base CX0 61 (a 31) (fd 31) ["program", "inputs", "limit"] (sp31 K a) := by
  refine T.D31.fn.ok scs31 (fun vs H Q E h => ?_) (fun cdv A outer s H vs Q E hr h => ⟨_, (pss_one (ps_ret (pe_callTy call_tuple_of (by rfl) T.n_tuple PyProof.Rows.Boot.«tuple» (pa_cons (pe_fldK (K := K) rfl (pe_call (ok29 T) (hr.mono (by first | exact Nat.le_refl _ | decide | omega)) rfl T.D29.mg T.D29.kp T.D29.bd .nil pass0 (pa_cons (pv 0) (pa_cons (pv 1) (pa_cons (pv 2) pa_nil)))) rfl) pa_nil)))), ?_⟩)
  · obtain ⟨v, iv, G, I, lim, rfl, _⟩ := h
    rfl
  · obtain ⟨v, iv, G, I, lim, rfl, W, hi, hl, hG, hI, t15, t16, q⟩ := h
    walk_at "a8"
    refine ⟨v, iv, G, I, lim, rfl, W, hi, hl, hG, hI, t15, t16, fun A c l H2 hr2 hd ⟨e, sv, skvs, R⟩ => ?_⟩
    walk_at "a8"
    refine fldI R.gr T.clRun T.nr_steps rfl ?_
    refine ⟨_, rfl, _, .inl ⟨SqL.of R.gsd, fun p hp => ?_⟩⟩
    have c2 : Chg [] H2 (upd H2 p (.tup sv)) := Chg.new hp
    exact q c p _ (R.c0.trans c2) hr2 hd (dat_tup (SqT.of upd_same) (by rw [← fin_steps]; exact R.st.chg c2))
end
end Cc
set_option maxRecDepth 100000
set_option maxHeartbeats 4000000
/-! the law: operate .. truth -/
namespace Cc
open PySem PySem.Spec PyProof.Rows L2
def isS : V → Option Bool
  | .int _ => some false
  | .str _ => some true
  | .bl _ => some false
  | _ => none
def rIsS : List V → Hp → VK → Prop := fun xs H Q => ∃ x, xs = [x, .ty "str"] ∧ ∃ b, isS x = some b ∧ Q (.bl b) H
theorem isiS {X : Cx} : CallR X (.builtin "isinstance") rIsS := by
  intro pins s σ H xs us Q I r ⟨x, e, b, hb, q⟩
  refine call_isi pins s σ H xs us Q I r ?_
  cases x with
  | int i => cases hb; exact ⟨_, _, _, _, false, e, .ty _, .base (.int i), kit_ty (by decide +kernel), q⟩
  | str i => cases hb; exact ⟨_, _, _, _, true, e, .ty _, .base (.str i), kit_ty (by decide +kernel), q⟩
  | bl i => cases hb; exact ⟨_, _, _, _, false, e, .ty _, .base (.bl i), kit_ty (by decide +kernel), q⟩
  | _ => cases hb
theorem scs49 : FnScope ["_law_sign", "_law_left", "_law_right", "_law_result"] ["_law_sign", "_law_left", "_law_right"] (defScope (dst 49)) := ⟨rfl, rfl, rfl, by decide +kernel, rfl, by decide +kernel, by decide +kernel⟩
def resV : Except Str Int → V
  | .ok i => .int i
  | .error k => .str k
def sp49 : Sp := fun vs H Q _ => ∃ (s : Str) (x y : Int), vs = [.str s, .int x, .int y] ∧ (s = "+" ∨ s = "-" ∨ s = "*" ∨ s = "/" ∨ s = "mod") ∧ Sml x ∧ Sml y ∧ ∀ H', Chg [] H H' → Q (resV (operI s x y)) H'
section
variable {P : Program} {w : World} {K : PySem.W.Frag} {mg : Str → Option Value} {base : Heap} {a : Nat → Addr} {fd : Nat → FuncData}
theorem ok49 (T : Tx P K mg base a fd) : FnOk P w K mg base CX0 2 (a 49) (fd 49) ["_law_sign", "_law_left", "_law_right"] sp49 := by
  refine T.D49.fn.ok scs49 (fun vs H Q E h => ?_) (fun cdv A outer s H vs Q E hr h => ⟨_, (pss_cons (ps_if (PW.pt (pw_and (pt_cmpR (inK (K := K) rfl) (pv 0) (pe_tup (pa_cons pe_str (pa_cons pe_str pa_nil))) (by rfl)) (pw_and1 (pt_cmpR op_eq (pv 2) pe_int (nomark _))))) (pss_one (ps_ret pe_str)) pss_nil)
      (pss_cons (ps_if (pt_cmpR op_eq (pv 0) pe_str (nomark _)) (pss_one (ps_set (i := 3) scs49.nd rfl (Or.inl rfl) (pe_op op_add (pv 1) (pv 2)))) (pss_one (ps_if (pt_cmpR op_eq (pv 0) pe_str (nomark _)) (pss_one (ps_set (i := 3) scs49.nd rfl (Or.inl rfl) (pe_op op_sub (pv 1) (pv 2)))) (pss_one (ps_if (pt_cmpR op_eq (pv 0) pe_str (nomark _)) (pss_one (ps_set (i := 3) scs49.nd rfl (Or.inl rfl) (pe_op op_mul (pv 1) (pv 2)))) (pss_cons (ps_set (i := 3) scs49.nd rfl (Or.inl rfl) (pe_op op_fdivN (pe_callTy call_int1 (by rfl) T.n_int PyProof.Rows.Boot.«int» (pa_cons (pv 1) pa_nil)) (pv 2)))
      (pss_one (ps_if (pt_cmpR op_eq (pv 0) pe_str (nomark _)) (pss_one (ps_set (i := 3) scs49.nd rfl (Or.inl rfl) (pe_op op_sub (pv 1) (pe_op op_mul (pv 2) (pv 3))))) pss_nil))))))))
      (pss_cons (ps_if (PW.pt (pw_or (pt_cmpR op_lt (pv 3) (pe_un un_neg pe_int) (nomark _)) (pw_or1 (pt_cmpR op_gt (pv 3) pe_int (nomark _))))) (pss_one (ps_ret pe_str)) pss_nil)
      (pss_one (ps_ret (pv 3)))))), ?_⟩)
  · obtain ⟨s, x, y, rfl, _⟩ := h
    rfl
  · obtain ⟨s, x, y, rfl, hs, hx, hy, q⟩ := h
    have leaf : ∀ (r : Int) (H1 : Hp), Chg [] H H1 → arith s x y = r → ¬ ((s = "/" ∨ s = "mod") ∧ y = 0) →
        (if r < -10000 then Q (V.str (Str.ofString "overflow")) H1 else if 10000 < r then Q (V.str (Str.ofString "overflow")) H1 else Q (V.int r) H1) := by
      intro r H1 c1 hr hn
      have q1 := q H1 c1
      unfold operI at q1
      rw [if_neg hn, hr] at q1
      by_cases h1 : r < -10000
      · rw [if_pos h1]; rw [if_neg (by omega)] at q1; exact q1
      · rw [if_neg h1]
        by_cases h2 : 10000 < r
        · rw [if_pos h2]; rw [if_neg (by omega)] at q1; exact q1
        · rw [if_neg h2]; rw [if_pos (by omega)] at q1; exact q1
    have dv : (s = "/" ∨ s = "mod") → y = 0 → ∀ H1, Chg [] H H1 → Q (V.str (Str.ofString "division")) H1 := fun z1 z2 H1 c1 => by
      have q1 := q H1 c1
      unfold operI at q1
      rw [if_pos ⟨z1, z2⟩] at q1
      exact q1
    have mul : ∀ u v : Int, Sml u → CMul u v := fun u v h => by
      unfold Sml at h; unfold CMul; omega
    have div : y ≠ 0 → CDivN x y := fun h => ⟨h, by unfold Sml at hy; omega⟩
    rcases hs with rfl | rfl | rfl | rfl | rfl
    · walk_at "a10"
      exact leaf _ _ (Chg.new hpp) rfl (fun z => absurd z.1 (by decide))
    · walk_at "a10"
      exact leaf _ _ (Chg.new hpp) rfl (fun z => absurd z.1 (by decide))
    · walk_at "a10"
      exact ⟨mul _ _ hx, leaf _ _ (Chg.new hpp) rfl (fun z => absurd z.1 (by decide))⟩
    · walk_at "a10"
      by_cases h0 : y = 0
      · rw [if_pos h0]
        exact dv (.inl rfl) h0 _ (Chg.new hpp)
      · rw [if_neg h0]
        walk_at "a11"
        refine ⟨div h0, ?_⟩
        walk_at "a11"
        exact leaf _ _ (Chg.new hpp) rfl (fun z => h0 z.2)
    · walk_at "a10"
      by_cases h0 : y = 0
      · rw [if_pos h0]
        exact dv (.inr rfl) h0 _ (Chg.new hpp)
      · rw [if_neg h0]
        walk_at "a11"
        refine ⟨div h0, ?_⟩
        walk_at "a11"
        refine ⟨?_, leaf _ _ (Chg.new hpp) (by rw [Int.mul_comm]; rfl) (fun z => h0 z.2)⟩
        unfold Sml at hy; unfold CMul; omega
end
theorem scs51 : FnScope ["_law_relation", "_law_left", "_law_right"] ["_law_relation", "_law_left", "_law_right"] (defScope (dst 51)) := ⟨rfl, rfl, rfl, by decide +kernel, rfl, by decide +kernel, by decide +kernel⟩
def sp51 : Sp := fun vs H Q _ => ∃ (r : Str) (x y : Int), vs = [.str r, .int x, .int y] ∧ Q (.bl (cmpI r x y)) H
section
variable {P : Program} {w : World} {K : PySem.W.Frag} {mg : Str → Option Value} {base : Heap} {a : Nat → Addr} {fd : Nat → FuncData}
theorem ok51 (T : Tx P K mg base a fd) : FnOk P w K mg base CX0 1 (a 51) (fd 51) ["_law_relation", "_law_left", "_law_right"] sp51 := by
  refine T.D51.fn.ok scs51 (fun vs H Q E h => ?_) (fun cdv A outer s H vs Q E hr h => ⟨_, (pss_cons (ps_if (pt_cmpR op_eq (pv 0) pe_str (nomark _)) (pss_one (ps_ret (pe_cmpR op_lt (pv 1) (pv 2) (nomark _)))) pss_nil)
      (pss_cons (ps_if (pt_cmpR op_eq (pv 0) pe_str (nomark _)) (pss_one (ps_ret (pe_cmpR op_le (pv 1) (pv 2) (nomark _)))) pss_nil)
      (pss_cons (ps_if (pt_cmpR op_eq (pv 0) pe_str (nomark _)) (pss_one (ps_ret (pe_cmpR op_eq (pv 1) (pv 2) (nomark _)))) pss_nil)
      (pss_one (ps_ret (pe_cmpR op_ne (pv 1) (pv 2) (nomark _))))))), ?_⟩)
  · obtain ⟨s, x, y, rfl, _⟩ := h
    rfl
  · obtain ⟨s, x, y, rfl, q⟩ := h
    rcases (show s = "<" ∨ s = "<=" ∨ s = "==" ∨ (s ≠ "<" ∧ s ≠ "<=" ∧ s ≠ "==") by by_cases z1 : s = "<" <;> by_cases z2 : s = "<=" <;> by_cases z3 : s = "==" <;> simp [z1, z2, z3]) with rfl | rfl | rfl | ⟨z1, z2, z3⟩
    · walk_at "a11"
      exact q
    · walk_at "a11"
      exact q
    · walk_at "a11"
      unfold cmpI at q
      rw [if_neg (by decide), if_neg (by decide), show decide ((Str.ofString "==") = Str.ofString "==") = true by decide] at q
      simpa using q
    · walk_at "a12"
      unfold cmpI at q
      rw [if_neg z1, if_neg z2, decide_eq_false z3] at q
      simpa using q
end
theorem scs50 : FnScope ["_law_values", "_law_expression_here", "_law_left", "_law_right"] ["_law_values", "_law_expression_here"] (defScope (dst 50)) := ⟨rfl, rfl, rfl, by decide +kernel, rfl, by decide +kernel, by decide +kernel⟩
def Known (H : Hp) (d : Addr) (V : List Str) (f : Sto) : Prop := ∃ kvs, H d = some (.dK kvs) ∧ ∀ n ∈ V, valV kvs (Sum.inr n) = some (.int (f n))
theorem Known.chg {H H' : Hp} {d : Addr} {V : List Str} {f : Sto} (h : Known H d V f) (c : Chg [] H H') : Known H' d V f := by
  obtain ⟨kvs, h1, h2⟩ := h
  exact ⟨kvs, c.get h1, h2⟩
def sp50 (K : PySem.W.Frag) (N : Nat) : Sp := fun vs H Q _ => ∃ (d : Addr) (v : V) (V' : List Str) (f : Sto) (ex : Ex), vs = [.ref d, v] ∧ Known H d V' f ∧ DatAt K H ex.d v ∧ okE V' ex ∧ exDep ex < N ∧ (∀ n ∈ V', Sml (f n)) ∧ ∀ H', Chg [] H H' → Q (resV (ev f ex)) H'
section
variable {P : Program} {w : World} {K : PySem.W.Frag} {mg : Str → Option Value} {base : Heap} {a : Nat → Addr} {fd : Nat → FuncData}
theorem ok50s (T : Tx P K mg base a fd) (n : Nat) (G50 : FnOk P w K mg base CX0 (n + 3) (a 50) (fd 50) ["_law_values", "_law_expression_here"] (sp50 K n)) : FnOk P w K mg base CX0 (n + 4) (a 50) (fd 50) ["_law_values", "_law_expression_here"] (sp50 K (n + 1)) := by
  refine T.D50.fn.ok scs50 (fun vs H Q E h => ?_) (fun cdv A outer s H vs Q E hr h => ⟨_, (pss_cons (ps_if (pt_cmpR op_eq (pe_ix (ixTK (K := K) rfl) (pv 1) pe_int (fun _ _ => rfl)) pe_str (nomark _)) (pss_one (ps_ret (pe_ix (ixTK (K := K) rfl) (pv 1) pe_int (fun _ _ => rfl)))) pss_nil)
      (pss_cons (ps_if (pt_cmpR op_eq (pe_ix (ixTK (K := K) rfl) (pv 1) pe_int (fun _ _ => rfl)) pe_str (nomark _)) (pss_one (ps_ret (pe_dget (hu_of hr) (pv 0) (pe_ix (ixTK (K := K) rfl) (pv 1) pe_int (fun _ _ => rfl)) (fun _ _ => rfl)))) pss_nil)
      (pss_cons (ps_set (i := 2) scs50.nd rfl (Or.inl rfl) (pe_call G50 (hr.mono (by first | exact Nat.le_refl _ | decide | omega)) rfl T.D50.mg T.D50.kp T.D50.bd .nil pass0 (pa_cons (pv 0) (pa_cons (pe_ix (ixTK (K := K) rfl) (pv 1) pe_int (fun _ _ => rfl)) pa_nil))))
      (pss_cons (ps_if (pt_val (pe_callB isiS (by rfl) T.n_isinstance PyProof.Rows.Boot.«isinstance» (pa_cons (pv 2) (pa_cons (pe_bltn (v := .ty "str") (by rfl) T.n_str PyProof.Rows.Boot.«str» rfl) pa_nil)))) (pss_one (ps_ret (pv 2))) pss_nil)
      (pss_cons (ps_set (i := 3) scs50.nd rfl (Or.inl rfl) (pe_call G50 (hr.mono (by first | exact Nat.le_refl _ | decide | omega)) rfl T.D50.mg T.D50.kp T.D50.bd .nil pass0 (pa_cons (pv 0) (pa_cons (pe_ix (ixTK (K := K) rfl) (pv 1) pe_int (fun _ _ => rfl)) pa_nil))))
      (pss_cons (ps_if (pt_val (pe_callB isiS (by rfl) T.n_isinstance PyProof.Rows.Boot.«isinstance» (pa_cons (pv 3) (pa_cons (pe_bltn (v := .ty "str") (by rfl) T.n_str PyProof.Rows.Boot.«str» rfl) pa_nil)))) (pss_one (ps_ret (pv 3))) pss_nil)
      (pss_one (ps_ret (pe_call (ok49 T) (hr.mono (by first | exact Nat.le_refl _ | decide | omega)) rfl T.D49.mg T.D49.kp T.D49.bd .nil pass0 (pa_cons (pe_ix (ixTK (K := K) rfl) (pv 1) pe_int (fun _ _ => rfl)) (pa_cons (pv 2) (pa_cons (pv 3) pa_nil)))))))))))), ?_⟩)
  · obtain ⟨d, v, V', f, ex, rfl, _⟩ := h
    rfl
  · obtain ⟨d, v, V', f, ex, rfl, hk, hd, hok, hdep, hb, q⟩ := h
    cases ex with
    | num i =>
      obtain ⟨tp, xs, rfl, h0, g⟩ := DatAt.tup_inv hd
      obtain ⟨x0, r, rfl, h1, g⟩ := g.cons_inv
      obtain ⟨x1, r, rfl, h2, g⟩ := g.cons_inv
      cases g.nil_inv
      cases dat_str_inv h1
      cases dat_int_inv h2
      walk_at "a11"
      exact q _ Chg.refl
    | nm m =>
      obtain ⟨tp, xs, rfl, h0, g⟩ := DatAt.tup_inv hd
      obtain ⟨x0, r, rfl, h1, g⟩ := g.cons_inv
      obtain ⟨x1, r, rfl, h2, g⟩ := g.cons_inv
      cases g.nil_inv
      cases dat_str_inv h1
      cases dat_str_inv h2
      obtain ⟨kvs, hk1, hk2⟩ := hk
      walk_at "a11"
      exact dgI hk1 (hk2 m hok) (q _ Chg.refl)
    | op s x y =>
      obtain ⟨tp, xs, rfl, h0, g⟩ := DatAt.tup_inv hd
      obtain ⟨x0, r, rfl, h1, g⟩ := g.cons_inv
      obtain ⟨x1, r, rfl, h2, g⟩ := g.cons_inv
      obtain ⟨x2, r, rfl, h3, g⟩ := g.cons_inv
      obtain ⟨x3, r, rfl, h4, g⟩ := g.cons_inv
      cases g.nil_inv
      cases dat_str_inv h1
      cases dat_str_inv h2
      obtain ⟨hs, hx, hy⟩ := hok
      have hdx : exDep x < n := by rw [exDep] at hdep; omega
      have hdy : exDep y < n := by rw [exDep] at hdep; omega
      walk_at "a11"
      refine ⟨_, _, V', f, x, rfl, hk, h3, hx, hdx, hb, fun H1 c1 => ?_⟩
      cases hex : ev f x with
      | error k =>
        simp only [resV]
        walk_at "a11"
        rw [ev, hex] at q
        exact q _ c1
      | ok i =>
        simp only [resV]
        have h01 := c1.sqT h0
        walk_at "a11"
        refine ⟨_, _, V', f, y, rfl, hk.chg c1, h4.chg c1, hy, hdy, hb, fun H2 c2 => ?_⟩
        cases hey : ev f y with
        | error k =>
          simp only [resV]
          walk_at "a11"
          rw [ev, hex, hey] at q
          exact q _ (c1.trans c2)
        | ok j =>
          simp only [resV]
          have h02 := c2.sqT h01
          walk_at "a11"
          refine ⟨s, i, j, rfl, hs, ev_sml hb hx hex, ev_sml hb hy hey, fun H3 c3 => ?_⟩
          rw [ev, hex, hey] at q
          exact q _ ((c1.trans c2).trans c3)
theorem ok50 (T : Tx P K mg base a fd) : ∀ n : Nat, FnOk P w K mg base CX0 (n + 3) (a 50) (fd 50) ["_law_values", "_law_expression_here"] (sp50 K n)
  | 0 => (FnOk.never (ps := ["_law_values", "_law_expression_here"])).imp fun vs H Q E h => by
    obtain ⟨d, v, V', f, ex, _, _, _, _, z, _⟩ := h
    exact absurd z (Nat.not_lt_zero _)
  | n + 1 => ok50s T n (ok50 T n)
end
theorem scs52 : FnScope ["_law_values", "_law_condition_here", "_law_inner", "_law_left", "_law_right"] ["_law_values", "_law_condition_here"] (defScope (dst 52)) := ⟨rfl, rfl, rfl, by decide +kernel, rfl, by decide +kernel, by decide +kernel⟩
def resB : Except Str Bool → V
  | .ok i => .bl i
  | .error k => .str k
def sp52 (K : PySem.W.Frag) (N : Nat) : Sp := fun vs H Q _ => ∃ (d : Addr) (v : V) (V' : List Str) (f : Sto) (cd : Cd), vs = [.ref d, v] ∧ Known H d V' f ∧ DatAt K H cd.d v ∧ okC V' cd ∧ cdDep cd < N ∧ (∀ n ∈ V', Sml (f n)) ∧ ∀ H', Chg [] H H' → Q (resB (hold f cd)) H'
section
variable {P : Program} {w : World} {K : PySem.W.Frag} {mg : Str → Option Value} {base : Heap} {a : Nat → Addr} {fd : Nat → FuncData}
theorem ok52s (T : Tx P K mg base a fd) (n : Nat) (G52 : FnOk P w K mg base CX0 (n + 12) (a 52) (fd 52) ["_law_values", "_law_condition_here"] (sp52 K n)) : FnOk P w K mg base CX0 (n + 13) (a 52) (fd 52) ["_law_values", "_law_condition_here"] (sp52 K (n + 1)) := by
  refine T.D52.fn.ok scs52 (fun vs H Q E h => ?_) (fun cdv A outer s H vs Q E hr h => ⟨_, (pss_cons (ps_if (pt_cmpR op_eq (pe_ix (ixTK (K := K) rfl) (pv 1) pe_int (fun _ _ => rfl)) pe_str (nomark _)) (pss_cons (ps_set (i := 2) scs52.nd rfl (Or.inl rfl) (pe_call G52 (hr.mono (by first | exact Nat.le_refl _ | decide | omega)) rfl T.D52.mg T.D52.kp T.D52.bd .nil pass0 (pa_cons (pv 0) (pa_cons (pe_ix (ixTK (K := K) rfl) (pv 1) pe_int (fun _ _ => rfl)) pa_nil))))
      (pss_one (ps_ret (pe_ifExp (pt_val (pe_callB isiS (by rfl) T.n_isinstance PyProof.Rows.Boot.«isinstance» (pa_cons (pv 2) (pa_cons (pe_bltn (v := .ty "str") (by rfl) T.n_str PyProof.Rows.Boot.«str» rfl) pa_nil)))) (pv 2) (pe_not (pv 2)))))) pss_nil)
      (pss_cons (ps_if (pt_cmpR op_eq (pe_ix (ixTK (K := K) rfl) (pv 1) pe_int (fun _ _ => rfl)) pe_str (nomark _)) (pss_cons (ps_set (i := 3) scs52.nd rfl (Or.inl rfl) (pe_call (ok50 T 8) (hr.mono (by first | exact Nat.le_refl _ | decide | omega)) rfl T.D50.mg T.D50.kp T.D50.bd .nil pass0 (pa_cons (pv 0) (pa_cons (pe_ix (ixTK (K := K) rfl) (pv 1) pe_int (fun _ _ => rfl)) pa_nil))))
      (pss_cons (ps_if (pt_val (pe_callB isiS (by rfl) T.n_isinstance PyProof.Rows.Boot.«isinstance» (pa_cons (pv 3) (pa_cons (pe_bltn (v := .ty "str") (by rfl) T.n_str PyProof.Rows.Boot.«str» rfl) pa_nil)))) (pss_one (ps_ret (pv 3))) pss_nil)
      (pss_cons (ps_set (i := 4) scs52.nd rfl (Or.inl rfl) (pe_call (ok50 T 8) (hr.mono (by first | exact Nat.le_refl _ | decide | omega)) rfl T.D50.mg T.D50.kp T.D50.bd .nil pass0 (pa_cons (pv 0) (pa_cons (pe_ix (ixTK (K := K) rfl) (pv 1) pe_int (fun _ _ => rfl)) pa_nil))))
      (pss_one (ps_ret (pe_ifExp (pt_val (pe_callB isiS (by rfl) T.n_isinstance PyProof.Rows.Boot.«isinstance» (pa_cons (pv 4) (pa_cons (pe_bltn (v := .ty "str") (by rfl) T.n_str PyProof.Rows.Boot.«str» rfl) pa_nil)))) (pv 4) (pe_call (ok51 T) (hr.mono (by first | exact Nat.le_refl _ | decide | omega)) rfl T.D51.mg T.D51.kp T.D51.bd .nil pass0 (pa_cons (pe_ix (ixTK (K := K) rfl) (pv 1) pe_int (fun _ _ => rfl)) (pa_cons (pv 3) (pa_cons (pv 4) pa_nil)))))))))) pss_nil)
      (pss_cons (ps_set (i := 3) scs52.nd rfl (Or.inl rfl) (pe_call G52 (hr.mono (by first | exact Nat.le_refl _ | decide | omega)) rfl T.D52.mg T.D52.kp T.D52.bd .nil pass0 (pa_cons (pv 0) (pa_cons (pe_ix (ixTK (K := K) rfl) (pv 1) pe_int (fun _ _ => rfl)) pa_nil))))
      (pss_cons (ps_if (pt_val (pe_callB isiS (by rfl) T.n_isinstance PyProof.Rows.Boot.«isinstance» (pa_cons (pv 3) (pa_cons (pe_bltn (v := .ty "str") (by rfl) T.n_str PyProof.Rows.Boot.«str» rfl) pa_nil)))) (pss_one (ps_ret (pv 3))) pss_nil)
      (pss_cons (ps_set (i := 4) scs52.nd rfl (Or.inl rfl) (pe_call G52 (hr.mono (by first | exact Nat.le_refl _ | decide | omega)) rfl T.D52.mg T.D52.kp T.D52.bd .nil pass0 (pa_cons (pv 0) (pa_cons (pe_ix (ixTK (K := K) rfl) (pv 1) pe_int (fun _ _ => rfl)) pa_nil))))
      (pss_cons (ps_if (pt_val (pe_callB isiS (by rfl) T.n_isinstance PyProof.Rows.Boot.«isinstance» (pa_cons (pv 4) (pa_cons (pe_bltn (v := .ty "str") (by rfl) T.n_str PyProof.Rows.Boot.«str» rfl) pa_nil)))) (pss_one (ps_ret (pv 4))) pss_nil)
      (pss_one (ps_ret (pe_ifExp (pt_cmpR op_eq (pe_ix (ixTK (K := K) rfl) (pv 1) pe_int (fun _ _ => rfl)) pe_str (nomark _)) (pe_and (pv 3) (pe_one (pv 4))) (pe_or (pv 3) (pe_one (pv 4)))))))))))), ?_⟩)
  · obtain ⟨d, v, V', f, cd, rfl, _⟩ := h
    rfl
  · obtain ⟨d, v, V', f, cd, rfl, hk, hd, hok, hdep, hb, q⟩ := h
    cases cd with
    | neg x =>
      obtain ⟨tp, xs, rfl, h0, g⟩ := DatAt.tup_inv hd
      obtain ⟨x0, r, rfl, h1, g⟩ := g.cons_inv
      obtain ⟨x1, r, rfl, h2, g⟩ := g.cons_inv
      cases g.nil_inv
      cases dat_str_inv h1
      have hdx : cdDep x < n := by rw [cdDep] at hdep; omega
      walk_at "a11"
      refine ⟨_, _, V', f, x, rfl, hk, h2, hok, hdx, hb, fun H1 c1 => ?_⟩
      cases hex : hold f x with
      | error k =>
        simp only [resB]
        walk_at "a11"
        rw [hold, hex] at q
        exact q _ c1
      | ok i =>
        simp only [resB]
        walk_at "a11"
        rw [hold, hex] at q
        exact q _ c1
    | cmp s x y =>
      obtain ⟨tp, xs, rfl, h0, g⟩ := DatAt.tup_inv hd
      obtain ⟨x0, r, rfl, h1, g⟩ := g.cons_inv
      obtain ⟨x1, r, rfl, h2, g⟩ := g.cons_inv
      obtain ⟨x2, r, rfl, h3, g⟩ := g.cons_inv
      obtain ⟨x3, r, rfl, h4, g⟩ := g.cons_inv
      cases g.nil_inv
      cases dat_str_inv h1
      cases dat_str_inv h2
      obtain ⟨hx, hy, hdx, hdy⟩ := hok
      walk_at "a11"
      refine ⟨_, _, V', f, x, rfl, hk, h3, hx, hdx, hb, fun H1 c1 => ?_⟩
      cases hex : ev f x with
      | error k =>
        simp only [resV]
        walk_at "a11"
        rw [hold, hex] at q
        exact q _ c1
      | ok i =>
        simp only [resV]
        have h01 := c1.sqT h0
        walk_at "a11"
        refine ⟨_, _, V', f, y, rfl, hk.chg c1, h4.chg c1, hy, hdy, hb, fun H2 c2 => ?_⟩
        cases hey : ev f y with
        | error k =>
          simp only [resV]
          walk_at "a11"
          rw [hold, hex, hey] at q
          exact q _ (c1.trans c2)
        | ok j =>
          simp only [resV]
          have h02 := c2.sqT h01
          walk_at "a11"
          refine ⟨s, i, j, rfl, ?_⟩
          rw [hold, hex, hey] at q
          exact q _ (c1.trans c2)
    | bin b x y =>
      obtain ⟨hx, hy⟩ := hok
      have hdx : cdDep x < n := by rw [cdDep] at hdep; omega
      have hdy : cdDep y < n := by rw [cdDep] at hdep; omega
      cases b
      · 
        obtain ⟨tp, xs, rfl, h0, g⟩ := DatAt.tup_inv hd
        obtain ⟨x0, r, rfl, h1, g⟩ := g.cons_inv
        obtain ⟨x1, r, rfl, h2, g⟩ := g.cons_inv
        obtain ⟨x2, r, rfl, h3, g⟩ := g.cons_inv
        cases g.nil_inv
        cases dat_str_inv h1
        walk_at "a11"
        refine ⟨_, _, V', f, x, rfl, hk, h2, hx, hdx, hb, fun H1 c1 => ?_⟩
        cases hex : hold f x with
        | error k =>
          simp only [resB]
          walk_at "a11"
          rw [hold, hex] at q
          exact q _ c1
        | ok i =>
          simp only [resB]
          have h01 := c1.sqT h0
          walk_at "a11"
          refine ⟨_, _, V', f, y, rfl, hk.chg c1, h3.chg c1, hy, hdy, hb, fun H2 c2 => ?_⟩
          cases hey : hold f y with
          | error k =>
            simp only [resB]
            walk_at "a11"
            rw [hold, hex, hey] at q
            exact q _ (c1.trans c2)
          | ok j =>
            simp only [resB]
            have h02 := c2.sqT h01
            walk_at "a11"
            rw [hold, hex, hey] at q
            have qq := q _ (c1.trans c2)
            cases i <;> cases j <;> simpa [resB] using qq
      · 
        obtain ⟨tp, xs, rfl, h0, g⟩ := DatAt.tup_inv hd
        obtain ⟨x0, r, rfl, h1, g⟩ := g.cons_inv
        obtain ⟨x1, r, rfl, h2, g⟩ := g.cons_inv
        obtain ⟨x2, r, rfl, h3, g⟩ := g.cons_inv
        cases g.nil_inv
        cases dat_str_inv h1
        walk_at "a11"
        refine ⟨_, _, V', f, x, rfl, hk, h2, hx, hdx, hb, fun H1 c1 => ?_⟩
        cases hex : hold f x with
        | error k =>
          simp only [resB]
          walk_at "a11"
          rw [hold, hex] at q
          exact q _ c1
        | ok i =>
          simp only [resB]
          have h01 := c1.sqT h0
          walk_at "a11"
          refine ⟨_, _, V', f, y, rfl, hk.chg c1, h3.chg c1, hy, hdy, hb, fun H2 c2 => ?_⟩
          cases hey : hold f y with
          | error k =>
            simp only [resB]
            walk_at "a11"
            rw [hold, hex, hey] at q
            exact q _ (c1.trans c2)
          | ok j =>
            simp only [resB]
            have h02 := c2.sqT h01
            walk_at "a11"
            rw [hold, hex, hey] at q
            have qq := q _ (c1.trans c2)
            cases i <;> cases j <;> simpa [resB] using qq
theorem ok52 (T : Tx P K mg base a fd) : ∀ n : Nat, FnOk P w K mg base CX0 (n + 12) (a 52) (fd 52) ["_law_values", "_law_condition_here"] (sp52 K n)
  | 0 => (FnOk.never (ps := ["_law_values", "_law_condition_here"])).imp fun vs H Q E h => by
    obtain ⟨d, v, V', f, ex, _, _, _, _, z, _⟩ := h
    exact absurd z (Nat.not_lt_zero _)
  | n + 1 => ok52s T n (ok52 T n)
end
end Cc
set_option maxRecDepth 100000
set_option maxHeartbeats 400000
/-! The law's world in the heap. -/
namespace Cc
open PySem PySem.Spec PyProof.Rows L2
theorem valV_merge : ∀ (more kvs : List (Key × V)) (k : Key), (more.map (·.1)).Nodup → valV (mergeK kvs more) k = match valV more k with
    | some v => some v
    | none => valV kvs k
  | [], kvs, k, _ => rfl
  | p :: r, kvs, k, h => by
    rw [List.map_cons, List.nodup_cons] at h
    show valV (mergeK (putK kvs p.1 p.2) r) k = _
    rw [valV_merge r _ k h.2, valV_put]
    by_cases e : p.1 = k
    · rw [valV_pos e, if_pos e.symm]
      have z : valV r k = none := by
        cases z : valV r k with
        | none => rfl
        | some v =>
          unfold valV at z
          obtain ⟨q, hq, _⟩ := Option.map_eq_some_iff.mp z
          have m := List.mem_of_find?_eq_some hq
          have e2 : q.1 = k := by simpa using List.find?_some hq
          exact absurd (List.mem_map.mpr ⟨q, m, e2.trans e.symm⟩) h.1
      rw [z]
    · rw [valV_neg e, if_neg (Ne.symm e)]
theorem putK_keys {kvs : List (Key × V)} {k : Key} {v : V} (h : (kvs.map (·.1)).Nodup) : ((putK kvs k v).map (·.1)).Nodup := by
  unfold putK
  split
  · next a =>
    rw [List.map_map]
    have e : (fun x : Key × V => x.1) ∘ (fun kv : Key × V => if kv.1 = k then (kv.1, v) else kv) = fun x => x.1 := by
      funext x; simp only [Function.comp]; split <;> rfl
    rw [e]; exact h
  · next a =>
    rw [List.map_append, List.nodup_append]
    refine ⟨h, by simp, fun x hx y hy => ?_⟩
    rw [List.map_cons, List.map_nil, List.mem_singleton] at hy
    subst hy
    intro z
    subst z
    obtain ⟨q, hq, e⟩ := List.mem_map.mp hx
    exact a (List.any_eq_true.mpr ⟨q, hq, decide_eq_true e⟩)
/-- an own dict -/
structure Own (kvs : List (Key × V)) (dom : List Str) (f : Sto) : Prop where
  rep : Rep kvs dom f
  nd : (kvs.map (·.1)).Nodup
theorem Own.put {kvs : List (Key × V)} {dom : List Str} {f : Sto} (h : Own kvs dom f) {n : Str} (m : n ∈ dom) (v : Int) : Own (putK kvs (Sum.inr n) (.int v)) dom (upf f n v) := ⟨h.rep.put m v, putK_keys h.nd⟩
structure LA where
  wd : Addr
  shd : Addr
  sd : Addr
  td : Addr
  pv : V
  iv : Addr
  od : Addr
def wL (A : LA) (used lim opn res : Int) (e : V) : List (Key × V) :=
  [(Sum.inr "shared", .ref A.shd), (Sum.inr "procedures", A.pv), (Sum.inr "order", .ref A.od), (Sum.inr "steps", .ref A.sd), (Sum.inr "told", .ref A.td), (Sum.inr "inputs", .ref A.iv), (Sum.inr "used", .int used), (Sum.inr "limit", .int lim), (Sum.inr "open", .int opn), (Sum.inr "result", .int res), (Sum.inr "ending", e)]
def lmut (A : LA) : List Addr := [A.wd, A.td, A.sd, A.shd]
/-- what no statement changes -/
structure LFix (K : PySem.W.Frag) (Hs : Hp) (G : Pg) (I : List Int) (A : LA) : Prop where
  nd : (lmut A).Nodup
  fr : ∀ b ∈ lmut A, Hs b = none
  od : ∃ okvs, Hs A.od = some (.dK okvs) ∧ ∀ pr ∈ G.procs, ∃ t, valV okvs (Sum.inr pr.name) = some (.ref t) ∧ SqL K Hs t ((varsOf G pr.name).map V.str)
  pv : ∃ c xs, A.pv = .ref c ∧ SqT K Hs c xs ∧ DatsAt K Hs (G.procs.map Pr.d) xs
  inp : SqT K Hs A.iv (I.map V.int)
  np : ∀ pr ∈ G.procs, ∀ p ∈ pr.params, p ∉ G.shared
structure LX (K : PySem.W.Frag) (Hs H : Hp) (G : Pg) (lim : Nat) (A : LA) (sh : Sto) (told : List Int) (steps : List D) (used : Nat) (opn : Int) (res : Int) (e : V) : Prop where
  wd : H A.wd = some (.dK (wL A used lim opn res e))
  td : H A.td = some (.lst (told.map V.int))
  sd : ∃ sv, H A.sd = some (.lst sv) ∧ DatsAt K H steps sv
  sh : ∃ kv, H A.shd = some (.dK kv) ∧ Rep kv G.shared sh ∧ kv.length = G.shared.length
  c0 : Chg [] Hs H
section
variable {K : PySem.W.Frag} {Hs H H' : Hp} {G : Pg} {I : List Int} {lim : Nat} {A : LA} {sh : Sto} {told : List Int} {steps : List D} {used : Nat} {opn : Int} {res : Int} {e : V}
theorem LX.chg (L : LX K Hs H G lim A sh told steps used opn res e) (c : Chg [] H H') : LX K Hs H' G lim A sh told steps used opn res e := by
  obtain ⟨sv, h1, h2⟩ := L.sd
  obtain ⟨kv, h3, h4⟩ := L.sh
  exact ⟨c.get L.wd, c.get L.td, ⟨sv, c.get h1, h2.chg c⟩, ⟨kv, c.get h3, h4⟩, L.c0.trans c⟩
/-- a change of other things -/
theorem LX.chg' {M : List Addr} (L : LX K Hs H G lim A sh told steps used opn res e) (c : Chg M H H') (n : ∀ b ∈ lmut A, b ∉ M) (c0 : Chg [] Hs H') : LX K Hs H' G lim A sh told steps used opn res e := by
  obtain ⟨sv, h1, h2⟩ := L.sd
  obtain ⟨kv, h3, h4⟩ := L.sh
  exact ⟨c.keep _ _ L.wd trivial (n _ (by simp [lmut])), c.keep _ _ L.td trivial (n _ (by simp [lmut])), ⟨sv, c.keep _ _ h1 trivial (n _ (by simp [lmut])), h2.chg c⟩, ⟨kv, c.keep _ _ h3 trivial (n _ (by simp [lmut])), h4⟩, c0⟩
theorem LFix.ne {b c : Addr} {i j : Nat} (F : LFix K Hs G I A) (hi : (lmut A)[i]? = some b) (hj : (lmut A)[j]? = some c) (h : i ≠ j) : b ≠ c := by
  intro z
  subst z
  have h1 : i < (lmut A).length := by
    rcases Nat.lt_or_ge i (lmut A).length with w | w
    · exact w
    · rw [List.getElem?_eq_none w] at hi; cases hi
  have h2 : j < (lmut A).length := by
    rcases Nat.lt_or_ge j (lmut A).length with w | w
    · exact w
    · rw [List.getElem?_eq_none w] at hj; cases hj
  rw [List.getElem?_eq_getElem h1] at hi
  rw [List.getElem?_eq_getElem h2] at hj
  exact h ((List.getElem_inj F.nd).mp ((Option.some.inj hi).trans (Option.some.inj hj).symm))
/-- the world's own words change -/
theorem LX.setW (F : LFix K Hs G I A) (L : LX K Hs H G lim A sh told steps used opn res e) (used' : Nat) (opn' : Int) (res' : Int) (e' : V) : LX K Hs (upd H A.wd (.dK (wL A used' lim opn' res' e'))) G lim A sh told steps used' opn' res' e' := by
  obtain ⟨sv, h1, h2⟩ := L.sd
  obtain ⟨kv, h3, h4⟩ := L.sh
  have n1 : A.td ≠ A.wd := F.ne (i := 1) (j := 0) rfl rfl (by decide)
  have n2 : A.sd ≠ A.wd := F.ne (i := 2) (j := 0) rfl rfl (by decide)
  have n3 : A.shd ≠ A.wd := F.ne (i := 3) (j := 0) rfl rfl (by decide)
  have c : Chg [A.wd] H (upd H A.wd (.dK (wL A used' lim opn' res' e'))) := Chg.put L.wd trivial (by simp)
  exact ⟨upd_same, by rw [upd_ne n1]; exact L.td, ⟨sv, by rw [upd_ne n2]; exact h1, h2.chg c⟩, ⟨kv, by rw [upd_ne n3]; exact h3, h4⟩, L.c0.own (F.fr _ (by simp [lmut]))⟩
theorem LX.tell (F : LFix K Hs G I A) (L : LX K Hs H G lim A sh told steps used opn res e) (v : Int) : LX K Hs (upd H A.td (.lst (told.map V.int ++ [.int v]))) G lim A sh (told ++ [v]) steps used opn res e := by
  obtain ⟨sv, h1, h2⟩ := L.sd
  obtain ⟨kv, h3, h4⟩ := L.sh
  have n1 : A.wd ≠ A.td := F.ne (i := 0) (j := 1) rfl rfl (by decide)
  have n2 : A.sd ≠ A.td := F.ne (i := 2) (j := 1) rfl rfl (by decide)
  have n3 : A.shd ≠ A.td := F.ne (i := 3) (j := 1) rfl rfl (by decide)
  have c : Chg [A.td] H (upd H A.td (.lst (told.map V.int ++ [.int v]))) := Chg.put L.td trivial (by simp)
  exact ⟨by rw [upd_ne n1]; exact L.wd, by rw [upd_same, List.map_append]; rfl, ⟨sv, by rw [upd_ne n2]; exact h1, h2.chg c⟩, ⟨kv, by rw [upd_ne n3]; exact h3, h4⟩, L.c0.own (F.fr _ (by simp [lmut]))⟩
theorem LX.keepS (F : LFix K Hs G I A) (L : LX K Hs H G lim A sh told steps used opn res e) {sv : List V} (hs : H A.sd = some (.lst sv)) (h2 : DatsAt K H steps sv) {d : D} {v : V} (hd : DatAt K H d v) : LX K Hs (upd H A.sd (.lst (sv ++ [v]))) G lim A sh told (steps ++ [d]) used opn res e := by
  obtain ⟨kv, h3, h4⟩ := L.sh
  have n1 : A.wd ≠ A.sd := F.ne (i := 0) (j := 2) rfl rfl (by decide)
  have n2 : A.td ≠ A.sd := F.ne (i := 1) (j := 2) rfl rfl (by decide)
  have n3 : A.shd ≠ A.sd := F.ne (i := 3) (j := 2) rfl rfl (by decide)
  have c : Chg [A.sd] H (upd H A.sd (.lst (sv ++ [v]))) := Chg.put hs trivial (by simp)
  exact ⟨by rw [upd_ne n1]; exact L.wd, by rw [upd_ne n2]; exact L.td, ⟨_, upd_same, (h2.chg c).append (dats_cons (hd.chg c) dats_nil)⟩, ⟨kv, by rw [upd_ne n3]; exact h3, h4⟩, L.c0.own (F.fr _ (by simp [lmut]))⟩
theorem LX.putS (F : LFix K Hs G I A) (L : LX K Hs H G lim A sh told steps used opn res e) {kv : List (Key × V)} (hs : H A.shd = some (.dK kv)) (hr : Rep kv G.shared sh) (hk : kv.length = G.shared.length) {n : Str} (m : n ∈ G.shared) (v : Int) : LX K Hs (upd H A.shd (.dK (putK kv (Sum.inr n) (.int v)))) G lim A (upf sh n v) told steps used opn res e := by
  obtain ⟨sv, h1, h2⟩ := L.sd
  have n1 : A.wd ≠ A.shd := F.ne (i := 0) (j := 3) rfl rfl (by decide)
  have n2 : A.td ≠ A.shd := F.ne (i := 1) (j := 3) rfl rfl (by decide)
  have n3 : A.sd ≠ A.shd := F.ne (i := 2) (j := 3) rfl rfl (by decide)
  have c : Chg [A.shd] H (upd H A.shd (.dK (putK kv (Sum.inr n) (.int v)))) := Chg.put hs trivial (by simp)
  exact ⟨by rw [upd_ne n1]; exact L.wd, by rw [upd_ne n2]; exact L.td, ⟨sv, by rw [upd_ne n3]; exact h1, h2.chg c⟩, ⟨_, upd_same, hr.put m v, by rw [putK_len (by rw [hr.get m]; rfl)]; exact hk⟩, L.c0.own (F.fr _ (by simp [lmut]))⟩
end
theorem loc_shared {G : Pg} {n : Str} {pr : Pr} (hp : procOf G n = some pr) (np : ∀ p ∈ pr.params, p ∉ G.shared) : ∀ m ∈ locOf G n, m ∉ G.shared := by
  intro m hm
  unfold locOf localsOf at hm
  rw [mem_sortU, List.mem_append, List.mem_filter] at hm
  rcases hm with h | h
  · exact of_decide_eq_true h.2
  · rw [proc_params hp] at h; exact np m h
/-- the shared and the own together -/
theorem known_at {G : Pg} {n : Str} {sh kept : Sto} {kv kw : List (Key × V)} (hs : Rep kv G.shared sh) (ho : Own kw (locOf G n) kept) (dis : ∀ m ∈ locOf G n, m ∉ G.shared) : ∀ m ∈ varsOf G n, valV (mergeK kv kw) (Sum.inr m) = some (.int (look G sh kept m)) := by
  intro m hm
  rw [valV_merge _ _ _ ho.nd, ho.rep.2]
  unfold look
  by_cases h : m ∈ locOf G n
  · rw [if_pos h, if_neg (dis m h)]
  · rw [if_neg h]
    have hsm : m ∈ G.shared := by
      rcases List.mem_append.mp hm with z | z
      · exact z
      · exact absurd z h
    show valV kv (Sum.inr m) = _
    rw [hs.get hsm, if_pos hsm]
end Cc
set_option maxRecDepth 100000
set_option maxHeartbeats 4000000
/-! the law: known, store, tick, fails -/
namespace Cc
open PySem PySem.Spec PyProof.Rows L2
theorem scs53 : FnScope ["_law_world", "_law_own", "_law_values"] ["_law_world", "_law_own"] (defScope (dst 53)) := ⟨rfl, rfl, rfl, by decide +kernel, rfl, by decide +kernel, by decide +kernel⟩
/-- a world and an own dict -/
structure LO (K : PySem.W.Frag) (Hs H : Hp) (G : Pg) (I : List Int) (lim : Nat) (A : LA) (n : Str) (own : Addr) (sh : Sto) (told : List Int) (steps : List D) (used : Nat) (opn : Int) (res : Int) (e : V) (kept : Sto) : Prop where
  F : LFix K Hs G I A
  L : LX K Hs H G lim A sh told steps used opn res e
  o : ∃ kw, H own = some (.dK kw) ∧ Own kw (locOf G n) kept
  of : Hs own = none
  om : own ∉ lmut A
  pr : ∃ pr, procOf G n = some pr
  wf : WF G
theorem LO.chg {K : PySem.W.Frag} {Hs H H' : Hp} {G : Pg} {I : List Int} {lim : Nat} {A : LA} {n : Str} {own : Addr} {sh : Sto} {told : List Int} {steps : List D} {used : Nat} {opn : Int} {res : Int} {e : V} {kept : Sto} (L : LO K Hs H G I lim A n own sh told steps used opn res e kept) (c : Chg [] H H') : LO K Hs H' G I lim A n own sh told steps used opn res e kept := by
  obtain ⟨kw, h1, h2⟩ := L.o
  exact ⟨L.F, L.L.chg c, ⟨kw, c.get h1, h2⟩, L.of, L.om, L.pr, L.wf⟩
theorem LO.dis {K : PySem.W.Frag} {Hs H : Hp} {G : Pg} {I : List Int} {lim : Nat} {A : LA} {n : Str} {own : Addr} {sh : Sto} {told : List Int} {steps : List D} {used : Nat} {opn : Int} {res : Int} {e : V} {kept : Sto} (L : LO K Hs H G I lim A n own sh told steps used opn res e kept) : ∀ m ∈ locOf G n, m ∉ G.shared := by
  obtain ⟨pr, hp⟩ := L.pr
  exact loc_shared hp (L.F.np pr (proc_mem hp))
theorem LO.setW {K : PySem.W.Frag} {Hs H : Hp} {G : Pg} {I : List Int} {lim : Nat} {A : LA} {n : Str} {own : Addr} {sh : Sto} {told : List Int} {steps : List D} {used : Nat} {opn : Int} {res : Int} {e : V} {kept : Sto} (L : LO K Hs H G I lim A n own sh told steps used opn res e kept) (used' : Nat) (opn' : Int) (res' : Int) (e' : V) : LO K Hs (upd H A.wd (.dK (wL A used' lim opn' res' e'))) G I lim A n own sh told steps used' opn' res' e' kept := by
  obtain ⟨kw, h1, h2⟩ := L.o
  have ne : own ≠ A.wd := fun z => L.om (by rw [z]; simp [lmut])
  exact ⟨L.F, L.L.setW L.F _ _ _ _, ⟨kw, by rw [upd_ne ne]; exact h1, h2⟩, L.of, L.om, L.pr, L.wf⟩
/-- all that a run of the law's may change -/
def LM (A : LA) (own : Addr) : List Addr := own :: lmut A
def LA5 (H : Hp) (vs : List V) (q : Prop) : Prop := q
def sp53 (K : PySem.W.Frag) : Sp := fun vs H Q _ => ∃ (Hs : Hp) (G : Pg) (I : List Int) (lim : Nat) (A : LA) (n : Str) (own : Addr) (sh : Sto) (told : List Int) (steps : List D) (used : Nat) (opn : Int) (res : Int) (e : V) (kept : Sto), vs = [.ref A.wd, .ref own] ∧ LO K Hs H G I lim A n own sh told steps used opn res e kept ∧
  ∀ d H', Chg [] H H' → Known H' d (varsOf G n) (look G sh kept) → Q (.ref d) H'
section
variable {P : Program} {w : World} {K : PySem.W.Frag} {mg : Str → Option Value} {base : Heap} {a : Nat → Addr} {fd : Nat → FuncData}
theorem ok53 (T : Tx P K mg base a fd) : FnOk P w K mg base CX0 1 (a 53) (fd 53) ["_law_world", "_law_own"] (sp53 K) := by
  refine T.D53.fn.ok scs53 (fun vs H Q E h => ?_) (fun cdv A outer s H vs Q E hr h => ⟨_, (pss_cons (ps_set (i := 2) scs53.nd rfl (Or.inl rfl) (pe_callTy call_dictD (by rfl) T.n_dict PyProof.Rows.Boot.«dict» (pa_cons (pe_dget (hu_of hr) (pv 0) pe_str (fun _ _ => rfl)) pa_nil)))
      (pss_cons (ps_expr (pe_bm PySem.F.plainAttrs_dict PySem.F.slot_dict_update type_du CgZ.mt_update (pv 2) (pa_cons (pv 1) pa_nil)))
      (pss_one (ps_ret (pv 2))))), ?_⟩)
  · obtain ⟨Hs, G, I, lim, A, n, own, sh, told, steps, used, opn, res, e, kept, rfl, _⟩ := h
    rfl
  · obtain ⟨Hs, G, I, lim, A, n, own, sh, told, steps, used, opn, res, e, kept, rfl, L, q⟩ := h
    obtain ⟨kv, hkv, rkv, rkn⟩ := L.L.sh
    obtain ⟨kw, hkw, rkw⟩ := L.o
    walk_at "a11"
    refine dgI L.L.wd rfl ?_
    refine ⟨_, rfl, kv, .inl hkv, fun p hp => ?_⟩
    have c1 : Chg [] H (upd H p (.dK kv)) := Chg.new hp
    walk_at "a11"
    have hne : p ≠ own := Ne.symm (ne_of_none hkw hp)
    refine ⟨.inr (.inr (.inl ⟨rfl, .inl ⟨_, upd_same⟩⟩)), kv, upd_same, kw, .inl (c1.get hkw), hne, sz (by have := rkv.1; have := rkw.rep.1; omega), ?_⟩
    walk_at "a11"
    refine q p _ (c1.own hp) ⟨_, upd_same, known_at rkv rkw L.dis⟩
end
theorem scs54 : FnScope ["_law_world", "_law_own", "_law_name", "_law_value_here", "_law_shared"] ["_law_world", "_law_own", "_law_name", "_law_value_here"] (defScope (dst 54)) := ⟨rfl, rfl, rfl, by decide +kernel, rfl, by decide +kernel, by decide +kernel⟩
def stSh (G : Pg) (n : Str) (v : Int) (sh : Sto) : Sto := if n ∈ G.shared then upf sh n v else sh
def stKe (G : Pg) (n : Str) (v : Int) (kept : Sto) : Sto := if n ∈ G.shared then kept else upf kept n v
def sp54 (K : PySem.W.Frag) : Sp := fun vs H Q _ => ∃ (Hs : Hp) (G : Pg) (I : List Int) (lim : Nat) (A : LA) (n : Str) (own : Addr) (sh : Sto) (told : List Int) (steps : List D) (used : Nat) (opn : Int) (res : Int) (e : V) (kept : Sto) (m : Str) (v : Int), vs = [.ref A.wd, .ref own, .str m, .int v] ∧ LO K Hs H G I lim A n own sh told steps used opn res e kept ∧ m ∈ varsOf G n ∧
  ∀ H', Chg (LM A own) H H' → LO K Hs H' G I lim A n own (stSh G m v sh) told steps used opn res e (stKe G m v kept) → Q .non H'
section
variable {P : Program} {w : World} {K : PySem.W.Frag} {mg : Str → Option Value} {base : Heap} {a : Nat → Addr} {fd : Nat → FuncData}
theorem ok54 (T : Tx P K mg base a fd) : FnOk P w K mg base CX0 1 (a 54) (fd 54) ["_law_world", "_law_own", "_law_name", "_law_value_here"] (sp54 K) := by
  refine T.D54.fn.ok scs54 (fun vs H Q E h => ?_) (fun cdv A outer s H vs Q E hr h => ⟨_, (pss_one (ps_if (pt_cmp (pc_din (hu_of hr) (pv 2) (pe_dget (hu_of hr) (pv 0) pe_str (fun _ _ => rfl)))) (pss_cons (ps_set (i := 4) scs54.nd rfl (Or.inl rfl) (pe_dget (hu_of hr) (pv 0) pe_str (fun _ _ => rfl)))
      (pss_one (ps_dput (hu_of hr) (pv 4) (pv 2) (pv 3) rfl))) (pss_one (ps_dput (hu_of hr) (pv 1) (pv 2) (pv 3) rfl)))), ?_⟩)
  · obtain ⟨Hs, G, I, lim, A, n, own, sh, told, steps, used, opn, res, e, kept, m, v, rfl, _⟩ := h
    rfl
  · obtain ⟨Hs, G, I, lim, A, n, own, sh, told, steps, used, opn, res, e, kept, m, v, rfl, L, hm, q⟩ := h
    obtain ⟨kv, hkv, rkv, rkn⟩ := L.L.sh
    obtain ⟨kw, hkw, rkw⟩ := L.o
    walk_at "a11"
    refine dgI L.L.wd rfl (diI hkv ?_)
    have hv : (valV kv (Sum.inr m)).isSome = decide (m ∈ G.shared) := valV_some rkv m
    rw [hv]
    by_cases hs : m ∈ G.shared
    · refine ⟨true, by rw [decide_eq_true hs], ?_⟩
      rw [if_pos rfl]
      refine dgI L.L.wd rfl (dpI hkv (Nat.lt_of_le_of_lt rkv.1 (sz' (by decide))) ?_)
      have hno : own ≠ A.shd := fun z => L.om (by rw [z]; simp [lmut])
      refine q _ ((Chg.put (L := [A.shd]) hkv trivial (by simp)).mono (fun b hb => by rw [List.mem_singleton.mp hb]; simp [LM, lmut])) ?_
      unfold stSh stKe
      rw [if_pos hs, if_pos hs]
      exact ⟨L.F, L.L.putS L.F hkv rkv rkn hs v, ⟨kw, by rw [upd_ne hno]; exact hkw, rkw⟩, L.of, L.om, L.pr, L.wf⟩
    · refine ⟨false, by rw [decide_eq_false hs], ?_⟩
      rw [if_neg (by simp)]
      have hloc := vars_mem hm hs
      refine dpI hkw (Nat.lt_of_le_of_lt rkw.rep.1 (sz' (by decide))) ?_
      have c1 : Chg [own] H (upd H own (.dK (putK kw (Sum.inr m) (.int v)))) := Chg.put hkw trivial (by simp)
      refine q _ (c1.mono (fun b hb => by rw [List.mem_singleton.mp hb]; simp [LM])) ?_
      unfold stSh stKe
      rw [if_neg hs, if_neg hs]
      exact ⟨L.F, L.L.chg' c1 (fun b hb z => L.om (by rw [← List.mem_singleton.mp z]; exact hb)) (L.L.c0.own L.of), ⟨_, upd_same, rkw.put hloc v⟩, L.of, L.om, L.pr, L.wf⟩
end
theorem scs56 : FnScope ["_law_world", "_law_name", "_law_place", "_law_kind"] ["_law_world", "_law_name", "_law_place", "_law_kind"] (defScope (dst 56)) := ⟨rfl, rfl, rfl, by decide +kernel, rfl, by decide +kernel, by decide +kernel⟩
def sp56 (K : PySem.W.Frag) : Sp := fun vs H Q _ => ∃ (Hs : Hp) (G : Pg) (I : List Int) (lim : Nat) (A : LA) (n : Str) (own : Addr) (sh : Sto) (told : List Int) (steps : List D) (used : Nat) (opn : Int) (res : Int) (e : V) (kept : Sto) (nm pl kd : Str), vs = [.ref A.wd, .str nm, .str pl, .str kd] ∧ LO K Hs H G I lim A n own sh told steps used opn res e kept ∧
  ∀ H' e', Chg (LM A own) H H' → LO K Hs H' G I lim A n own sh told steps used opn res e' kept → DatAt K H' (.tup [.str (Str.ofString "failed"), .str nm, .str pl, .str kd]) e' → Q (.str "stop") H'
theorem LO.endd {K : PySem.W.Frag} {Hs H : Hp} {G : Pg} {I : List Int} {lim : Nat} {A : LA} {n : Str} {own : Addr} {sh : Sto} {told : List Int} {steps : List D} {used : Nat} {opn : Int} {res : Int} {e : V} {kept : Sto} (L : LO K Hs H G I lim A n own sh told steps used opn res e kept) {o : HO} : Chg (LM A own) H (upd H A.wd o) :=
  (Chg.put (L := [A.wd]) L.L.wd trivial (by simp)).mono (fun b hb => by rw [List.mem_singleton.mp hb]; simp [LM, lmut])
section
variable {P : Program} {w : World} {K : PySem.W.Frag} {mg : Str → Option Value} {base : Heap} {a : Nat → Addr} {fd : Nat → FuncData}
theorem ok56 (T : Tx P K mg base a fd) : FnOk P w K mg base CX0 1 (a 56) (fd 56) ["_law_world", "_law_name", "_law_place", "_law_kind"] (sp56 K) := by
  refine T.D56.fn.ok scs56 (fun vs H Q E h => ?_) (fun cdv A outer s H vs Q E hr h => ⟨_, (pss_cons (ps_dput (hu_of hr) (pv 0) pe_str (pe_tup (pa_cons pe_str (pa_cons (pv 1) (pa_cons (pv 2) (pa_cons (pv 3) pa_nil))))) rfl)
      (pss_one (ps_ret pe_str))), ?_⟩)
  · obtain ⟨Hs, G, I, lim, A, n, own, sh, told, steps, used, opn, res, e, kept, nm, pl, kd, rfl, _⟩ := h
    rfl
  · obtain ⟨Hs, G, I, lim, A, n, own, sh, told, steps, used, opn, res, e, kept, nm, pl, kd, rfl, L, q⟩ := h
    walk_at "a11"
    have c1 := Chg.new (L := []) (o := .tup [.str (Str.ofString "failed"), .str nm, .str pl, .str kd]) hpp
    have L1 := L.chg c1
    refine dpI L1.L.wd (by exact (sz' (by decide) : 11 < sizeLine)) ?_
    exact q _ _ (c1.of0.trans L1.endd) (L1.setW used opn res (.ref pp)) ((dat_tup (K := K) (l := [.str (Str.ofString "failed"), .str nm, .str pl, .str kd]) (SqT.of upd_same) (dats_cons dat_str (dats_cons dat_str (dats_cons dat_str (dats_cons dat_str dats_nil))))).chg L1.endd)
end
theorem scs55 : FnScope ["_law_world", "_law_name", "_law_place", "_law_own", "_law_values", "_law_steps", "_law_one"] ["_law_world", "_law_name", "_law_place", "_law_own"] (defScope (dst 55)) := ⟨rfl, rfl, rfl, by decide +kernel, rfl, by decide +kernel, by decide +kernel⟩
def sp55 (K : PySem.W.Frag) : Sp := fun vs H Q _ => ∃ (Hs : Hp) (G : Pg) (I : List Int) (lim : Nat) (A : LA) (n : Str) (own : Addr) (sh : Sto) (told : List Int) (steps : List D) (used : Nat) (opn : Int) (res : Int) (e : V) (kept : Sto) (pl : Str), vs = [.ref A.wd, .str n, .str pl, .ref own] ∧ LO K Hs H G I lim A n own sh told steps used opn res e kept ∧ PgB G ∧ steps.length ≤ 1000 ∧
  (lim ≤ steps.length → ∀ H' e', Chg (LM A own) H H' → LO K Hs H' G I lim A n own sh told steps used opn res e' kept → DatAt K H' (.tup [.str (Str.ofString "running")]) e' → Q (.bl false) H') ∧
  (steps.length < lim → ∀ H', Chg (LM A own) H H' → LO K Hs H' G I lim A n own sh told (steps ++ [.tup [.str n, .str pl, .tup ((varsOf G n).map fun m => .int (look G sh kept m))]]) used opn res e kept → Q (.bl true) H')
section
variable {P : Program} {w : World} {K : PySem.W.Frag} {mg : Str → Option Value} {base : Heap} {a : Nat → Addr} {fd : Nat → FuncData}
theorem ok55 (T : Tx P K mg base a fd) : FnOk P w K mg base CX0 2 (a 55) (fd 55) ["_law_world", "_law_name", "_law_place", "_law_own"] (sp55 K) := by
  refine T.D55.fn.ok scs55 (fun vs H Q E h => ?_) (fun cdv A outer s H vs Q E hr h => ⟨_, (pss_cons (ps_if (pt_cmpR op_ge (pe_callB call_len_seq (by rfl) T.n_len PyProof.Rows.Boot.«len» (pa_cons (pe_dget (hu_of hr) (pv 0) pe_str (fun _ _ => rfl)) pa_nil)) (pe_dget (hu_of hr) (pv 0) pe_str (fun _ _ => rfl)) (nomark _)) (pss_cons (ps_dput (hu_of hr) (pv 0) pe_str (pe_tup (pa_cons pe_str pa_nil)) rfl)
      (pss_one (ps_ret pe_bl))) pss_nil)
      (pss_cons (ps_set (i := 4) scs55.nd rfl (Or.inr rfl) (pe_call (ok53 T) (hr.mono (by first | exact Nat.le_refl _ | decide | omega)) rfl T.D53.mg T.D53.kp T.D53.bd .nil pass0 (pa_cons (pv 0) (pa_cons (pv 3) pa_nil))))
      (pss_cons (ps_set (i := 5) scs55.nd rfl (Or.inl rfl) (pe_dget (hu_of hr) (pv 0) pe_str (fun _ _ => rfl)))
      (pss_cons (ps_expr (pe_bm PySem.F.plainAttrs_list PySem.F.slot_list_append PySem.F.type_list_append mt_append (pv 5) (pa_cons (pe_tup (pa_cons (pv 1) (pa_cons (pv 2) (pa_cons (pe_callTy call_tuple_of (by rfl) T.n_tuple PyProof.Rows.Boot.«tuple» (pa_cons (pe_lc (own := [("_law_one", 6)]) (g := gName 6) (tt := tYes) (by rfl) scs55.nd (pi_list (pe_dget (hu_of hr) (pe_dget (hu_of hr) (pv 0) pe_str (fun _ _ => rfl)) (pv 1) (fun _ _ => rfl))) (blkOk_by (own := [("_law_one", 6)]) (N := ["_law_world", "_law_name", "_law_place", "_law_own", "_law_values", "_law_steps", "_law_one"]) (sc := (defScope (dst 55))) (by decide +kernel)) (fun _ _ _ _ _ => (pg_name (i := 6) scs55.nd rfl (Or.inl rfl))) (fun _ _ _ _ _ => pts_nil) (fun _ _ _ _ _ => (pe_dget (hu_of hr) (pv 4) (pv 6) (fun _ _ => rfl)))) pa_nil)) pa_nil)))) pa_nil)))
      (pss_one (ps_ret pe_bl)))))), ?_⟩)
  · obtain ⟨Hs, G, I, lim, A, n, own, sh, told, steps, used, opn, res, e, kept, pl, rfl, _⟩ := h
    rfl
  · obtain ⟨Hs, G, I, lim, A, n, own, sh, told, steps, used, opn, res, e, kept, pl, rfl, L, PB, hz, q1, q2⟩ := h
    obtain ⟨sv, hsv, dsv⟩ := L.L.sd
    have hl := dsv.len
    walk_at "a11"
    refine dgI L.L.wd rfl ?_
    refine ⟨_, rfl, sv, .inl (SqL.of hsv), ?_⟩
    refine dgI L.L.wd rfl ?_
    walk_at "a11"
    by_cases hlt : lim ≤ steps.length
    · rw [if_pos (by omega)]
      refine ⟨by decide, fun p hp => ?_⟩
      have c1 := Chg.new (L := []) (o := .tup [.str (Str.ofString "running")]) hp
      have L1 := L.chg c1
      refine dpI L1.L.wd (by exact (sz' (by decide) : 11 < sizeLine)) ?_
      exact q1 hlt _ _ (c1.of0.trans L1.endd) (L1.setW used opn res (.ref p)) ((dat_tup (K := K) (l := [.str (Str.ofString "running")]) (SqT.of upd_same) (dats_cons dat_str dats_nil)).chg L1.endd)
    · rw [if_neg (by omega)]
      refine ⟨Hs, G, I, lim, A, n, own, sh, told, steps, used, opn, res, e, kept, rfl, L, fun d H1 c1 hd => ?_⟩
      have L1 := L.chg c1
      walk_at "a11"
      refine dgI L1.L.wd rfl ?_
      walk_at "a11"
      obtain ⟨sv1, hsv1, dsv1⟩ := L1.L.sd
      have hl1 := dsv1.len
      refine ⟨.inl ⟨rfl, _, SqL.of hsv1⟩, ?_⟩
      refine dgI L1.L.wd rfl ?_
      obtain ⟨okvs, hod, hord⟩ := L1.F.od
      obtain ⟨pr, hpr⟩ := L.pr
      obtain ⟨t, ht, hts⟩ := hord pr (proc_mem hpr)
      rw [proc_name hpr] at ht hts
      refine dgI (L1.L.c0.get hod) ht ?_
      have hts1 := L1.L.c0.sqL hts
      obtain ⟨kvs, hkd, hkn⟩ := hd
      have hzv := len_loc PB hpr
      have hzs := PB.sh
      refine ⟨_, rfl, ?_⟩
      refine ⟨⟨_, hts1⟩, lcL hts1 (fun i acc H => acc = ((varsOf G n).take i).map (fun m => V.int (look G sh kept m))) (by rw [List.take_zero]; rfl) (fun i acc L H H' _ z => z) (fun i acc H z => by
        rw [z, List.length_map, List.length_take]; unfold varsOf; rw [List.length_append]; exact sz' (by omega)) ?_ ?_⟩
      · intro i x H2 acc N' N hx c w k1 k2
        obtain ⟨m, hm, rfl⟩ := strs_at hx
        walk_at "a11"
        refine dgI (c.get hkd) (hkn m (List.mem_of_getElem? hm)) (k1 _ _ Chg.refl ?_)
        rw [w, take_succ hm, List.map_append]; rfl
      · intro D H2 acc hD c2 hacc w
        rw [List.length_map, List.take_length] at w
        subst w
        refine ⟨_, rfl, _, .inl ⟨SqL.of hacc, fun l hl2 => ⟨by decide, fun p hp => ?_⟩⟩⟩
        have c3 : Chg [] H2 (upd H2 l (.tup ((varsOf G n).map fun m => V.int (look G sh kept m)))) := Chg.new hl2
        have c4 := c3.thenNew (o := .tup [.str n, .str pl, .ref l]) hp
        have L4 := L1.chg (c2.trans c4)
        obtain ⟨sv4, hsv4, dsv4⟩ := L4.L.sd
        have hl4 := dsv4.len
        refine ⟨sv4, hsv4, sz' (by omega), ?_⟩
        have hne : l ≠ p := fun z => by rw [← z, upd_same] at hp; cases hp
        have hdat : DatAt K (upd (upd H2 l (.tup ((varsOf G n).map fun m => V.int (look G sh kept m)))) p (.tup [.str n, .str pl, .ref l])) (.tup [.str n, .str pl, .tup ((varsOf G n).map fun m => .int (look G sh kept m))]) (.ref p) := by
          refine dat_tup (SqT.of upd_same) (dats_cons dat_str (dats_cons dat_str (dats_cons (dat_tup (SqT.of (by rw [upd_ne hne]; exact upd_same)) ?_) dats_nil)))
          have := dats_ints (K := K) (H := upd (upd H2 l (.tup ((varsOf G n).map fun m => V.int (look G sh kept m)))) p (.tup [.str n, .str pl, .ref l])) ((varsOf G n).map fun m => look G sh kept m)
          rw [List.map_map, List.map_map] at this
          exact this
        have hput : Chg [A.sd] _ (upd _ A.sd (.lst (sv4 ++ [.ref p]))) := Chg.put hsv4 trivial (by simp)
        refine q2 (by omega) _ ((c1.trans (c2.trans c4)).of0.trans (hput.mono (fun b hb => by rw [List.mem_singleton.mp hb]; simp [LM, lmut]))) ?_
        obtain ⟨kw, hkw, rkw⟩ := L4.o
        have hno : own ≠ A.sd := fun z => L.om (by rw [z]; simp [lmut])
        exact ⟨L.F, L4.L.keepS L.F hsv4 dsv4 hdat, ⟨kw, by rw [upd_ne hno]; exact hkw, rkw⟩, L.of, L.om, L.pr, L.wf⟩
end
end Cc
set_option maxRecDepth 100000
set_option maxHeartbeats 400000
/-! The law's run goes as the machine's. -/
namespace Cc
open PySem PySem.Spec PyProof.Rows L2
def At (G : Pg) (I : List Int) (lim : Nat) (c : Cf) : Prop := Runs G I lim (norm G c)
def mkC (sh : Sto) (n : Str) (pl : Option (List Nat)) (kept : Sto) (tg : Option Str) (rest : List Fr) (told : List Int) (steps : List D) (used : Nat) : Cf := ⟨sh, ⟨n, pl, kept, tg⟩ :: rest, told, steps, used, none⟩
def entryB (B : List Sm) (q : List Nat) (b : List Sm) (k : Nat) : Option (List Nat) := if k < b.length then some (q ++ [k]) else afterB B q
def Stop (K : PySem.W.Frag) (H : Hp) (G : Pg) (I : List Int) (lim : Nat) (told : List Int) (steps : List D) (e : V) : Prop := ∃ c d, Runs G I lim c ∧ live lim c = false ∧ c.told = told ∧ c.steps = steps ∧ (fin c).ending = some d ∧ DatAt K H d e
/-- what stays the same while a procedure's body runs -/
structure SC (K : PySem.W.Frag) (Hs : Hp) (G : Pg) (I : List Int) (lim : Nat) (A : LA) (n : Str) (own : Addr) (pr : Pr) (rest : List Fr) : Prop where
  F : LFix K Hs G I A
  of : Hs own = none
  om : own ∉ lmut A
  hp : procOf G n = some pr
  W : WF G
  hi : ∀ i ∈ I, Sml i
  hl : lim ≤ 300
  hr : rest.length ≤ 11
def InW (K : PySem.W.Frag) (Hs H : Hp) (G : Pg) (I : List Int) (lim : Nat) (A : LA) (n : Str) (own : Addr) (tg : Option Str) (rest : List Fr) (e : V) (pl : Option (List Nat)) (m : Nat) : Prop :=
  ∃ sh told steps used res kept, LO K Hs H G I lim A n own sh told steps used (rest.length + 1) res e kept ∧ At G I lim (mkC sh n pl kept tg rest told steps used) ∧ m ≤ steps.length
def RetW (K : PySem.W.Frag) (Hs H : Hp) (G : Pg) (I : List Int) (lim : Nat) (A : LA) (n : Str) (own : Addr) (tg : Option Str) (rest : List Fr) (e : V) (m : Nat) : Prop :=
  ∃ sh told steps used res kept, LO K Hs H G I lim A n own sh told steps used (rest.length + 1) res e kept ∧ At G I lim (leave G res (mkC sh n none kept tg rest told steps used)) ∧ m ≤ steps.length
def StopW (K : PySem.W.Frag) (Hs H : Hp) (G : Pg) (I : List Int) (lim : Nat) (A : LA) (n : Str) (own : Addr) (opn : Int) : Prop :=
  ∃ sh told steps used res kept e, LO K Hs H G I lim A n own sh told steps used opn res e kept ∧ Stop K H G I lim told steps e
/-- a step is kept, the statement s at p is to be made -/
def InT (K : PySem.W.Frag) (Hs H : Hp) (G : Pg) (I : List Int) (lim : Nat) (A : LA) (n : Str) (own : Addr) (tg : Option Str) (rest : List Fr) (e : V) (p : List Nat) (s : Sm) (m : Nat) : Prop :=
  ∃ sh told steps used res kept, LO K Hs H G I lim A n own sh told steps used (rest.length + 1) res e kept ∧ (steps.length ≤ 301 ∧ m ≤ steps.length ∧ used ≤ I.length) ∧ told.length < steps.length ∧ CfOk G (mkC sh n (some p) kept tg rest told steps used) ∧ At G I lim (exec G I (mkC sh n (some p) kept tg rest told steps used) ⟨n, some p, kept, tg⟩ rest p s)
def Post (K : PySem.W.Frag) (Hs H : Hp) (G : Pg) (I : List Int) (lim : Nat) (A : LA) (n : Str) (own : Addr) (tg : Option Str) (rest : List Fr) (e : V) (nx : Option (List Nat)) (m : Nat) (s : Str) : Prop :=
  (s = "" ∧ InW K Hs H G I lim A n own tg rest e nx m) ∨ (s = "return" ∧ RetW K Hs H G I lim A n own tg rest e m) ∨ (s = "stop" ∧ ∃ op, StopW K Hs H G I lim A n own op)
section
variable {K : PySem.W.Frag} {Hs H H' : Hp} {G : Pg} {I : List Int} {lim : Nat} {A : LA} {n : Str} {own : Addr} {pr : Pr} {tg : Option Str} {rest : List Fr} {e : V} {p : List Nat} {s : Sm} {pl : Option (List Nat)} {m : Nat}
theorem Stop.chg {told : List Int} {steps : List D} {M : List Addr} (h : Stop K H G I lim told steps e) (c : Chg M H H') : Stop K H' G I lim told steps e := by
  obtain ⟨x, d, h1, h2, h3, h4, h5, h6⟩ := h
  exact ⟨x, d, h1, h2, h3, h4, h5, h6.chg c⟩
theorem InW.chg (h : InW K Hs H G I lim A n own tg rest e pl m) (c : Chg [] H H') : InW K Hs H' G I lim A n own tg rest e pl m := by
  obtain ⟨sh, told, steps, used, res, kept, L, r⟩ := h
  exact ⟨sh, told, steps, used, res, kept, L.chg c, r⟩
theorem InT.chg (h : InT K Hs H G I lim A n own tg rest e p s m) (c : Chg [] H H') : InT K Hs H' G I lim A n own tg rest e p s m := by
  obtain ⟨sh, told, steps, used, res, kept, L, r⟩ := h
  exact ⟨sh, told, steps, used, res, kept, L.chg c, r⟩
theorem isOut_mk {sh : Sto} {kept : Sto} {told : List Int} {steps : List D} {used : Nat} : isOut (mkC sh n (some p) kept tg rest told steps used) = false := rfl
theorem At.runs {sh : Sto} {kept : Sto} {told : List Int} {steps : List D} {used : Nat} (h : At G I lim (mkC sh n (some p) kept tg rest told steps used)) : Runs G I lim (mkC sh n (some p) kept tg rest told steps used) := by
  unfold At at h
  rw [norm_in isOut_mk] at h
  exact h
/-- the run is at its limit -/
theorem InW.stop {sh : Sto} {kept : Sto} {told : List Int} {steps : List D} {used : Nat} (h : At G I lim (mkC sh n (some p) kept tg rest told steps used)) (z : lim ≤ steps.length) {e' : V} (he : DatAt K H (.tup [.str (Str.ofString "running")]) e') : Stop K H G I lim told steps e' := by
  refine ⟨_, _, h.runs, ?_, rfl, rfl, rfl, he⟩
  unfold live
  rw [show decide ((mkC sh n (some p) kept tg rest told steps used).steps.length < lim) = false from decide_eq_false (by show ¬ steps.length < lim; omega), Bool.and_false]
theorem At.tick (S : SC K Hs G I lim A n own pr rest) {sh : Sto} {kept : Sto} {told : List Int} {steps : List D} {used : Nat} (h : At G I lim (mkC sh n (some p) kept tg rest told steps used)) (z : steps.length < lim) (hs : stmtAt pr.body p = some s) :
    let steps' := steps ++ [.tup [.str n, .str (pathT p), .tup ((varsOf G n).map fun m => .int (look G sh kept m))]]
    steps'.length ≤ 301 ∧ told.length < steps'.length ∧ CfOk G (mkC sh n (some p) kept tg rest told steps' used) ∧ At G I lim (exec G I (mkC sh n (some p) kept tg rest told steps' used) ⟨n, some p, kept, tg⟩ rest p s) := by
  intro steps'
  have hr := h.runs
  have ok := (hr.ok S.W S.hi).1
  have hl := S.hl
  have ht : told.length ≤ steps.length := ok.told
  refine ⟨by show (steps ++ [_]).length ≤ 301; simp; omega, by show told.length < (steps ++ [_]).length; simp; omega, ok.keepS _, ?_⟩
  have hm := hr.more (by unfold live; rw [show decide ((mkC sh n (some p) kept tg rest told steps used).steps.length < lim) = true from decide_eq_true (by exact z)]; rfl)
  rw [step_eq (f := ⟨n, some p, kept, tg⟩) (r := rest) rfl rfl S.hp hs] at hm
  exact hm
theorem Stop.of {c : Cf} {d : D} (h : At G I lim c) (he : c.ending = some d) (hd : DatAt K H d e) : Stop K H G I lim c.told c.steps e := by
  unfold At at h
  have ho : isOut c = false := by unfold isOut; rw [he]; rfl
  rw [norm_in ho] at h
  refine ⟨c, d, h, ?_, rfl, rfl, ?_, hd⟩
  · unfold live; rw [he]; rfl
  · unfold fin; rw [if_neg (by rw [he]; simp)]; exact he
theorem entry_next {B b : List Sm} {q : List Nat} {k : Nat} (e : q.length % 2 = 0) (h : blockAt B q = some b) : nextOf B (q ++ [k]) = entryB B q b (k + 1) := nextOf_app e h
/-- a frame at its exit is left -/
theorem At.out {sh : Sto} {kept : Sto} {told : List Int} {steps : List D} {used : Nat} (h : At G I lim (mkC sh n none kept tg rest told steps used)) : At G I lim (leave G 0 (mkC sh n none kept tg rest told steps used)) := by
  unfold At at h ⊢
  rw [norm_out rfl] at h
  exact h
theorem Post.mono {nx : Option (List Nat)} {m' : Nat} {w : Str} (h : Post K Hs H G I lim A n own tg rest e nx m w) (z : m' ≤ m) : Post K Hs H G I lim A n own tg rest e nx m' w := by
  rcases h with ⟨a, sh, told, steps, used, res, kept, L, r, b⟩ | ⟨a, sh, told, steps, used, res, kept, L, r, b⟩ | h
  · exact .inl ⟨a, sh, told, steps, used, res, kept, L, r, Nat.le_trans z b⟩
  · exact .inr (.inl ⟨a, sh, told, steps, used, res, kept, L, r, Nat.le_trans z b⟩)
  · exact .inr (.inr h)
end
end Cc
set_option maxRecDepth 100000
set_option maxHeartbeats 4000000
/-! the law: plain_run -/
namespace Cc
open PySem PySem.Spec PyProof.Rows L2
theorem leave_mk {G : Pg} {r : Int} {sh : Sto} {n : Str} {pl : Option (List Nat)} {kept : Sto} {tg : Option Str} {rest : List Fr} {told : List Int} {steps : List D} {used : Nat} : leave G r (mkC sh n pl kept tg rest told steps used) = leave G r (mkC sh n none kept tg rest told steps used) := by
  cases rest with
  | nil => rfl
  | cons g t => cases tg <;> rfl
theorem adv_mk {G : Pg} {sh : Sto} {n : Str} {pr : Pr} {p : List Nat} {kept : Sto} {tg : Option Str} {rest : List Fr} {told : List Int} {steps : List D} {used : Nat} (hp : procOf G n = some pr) : adv G (mkC sh n (some p) kept tg rest told steps used) = mkC sh n (nextOf pr.body p) kept tg rest told steps used := by
  unfold adv mkC nextF
  simp only [bodyOf_eq hp]
theorem store_mk {G : Pg} {sh : Sto} {n m : Str} {v : Int} {pl : Option (List Nat)} {kept : Sto} {tg : Option Str} {rest : List Fr} {told : List Int} {steps : List D} {used : Nat} : store G (mkC sh n pl kept tg rest told steps used) ⟨n, pl, kept, tg⟩ rest m v = mkC (stSh G m v sh) n pl (stKe G m v kept) tg rest told steps used := by
  unfold store stSh stKe mkC
  split <;> rfl
def isPl : Sm → Bool
  | .set _ _ => true
  | .tell _ => true
  | .ret _ => true
  | _ => false
theorem LO.chgS {K : PySem.W.Frag} {Hs H H' : Hp} {G : Pg} {I : List Int} {lim : Nat} {A : LA} {n : Str} {own : Addr} {sh : Sto} {told : List Int} {steps : List D} {used opn : Nat} {res : Int} {e e' : V} {kept : Sto} {s : Sm} {v : V} (h : DatAt K H s.d v) (c : Chg (LM A own) H H') : DatAt K H' s.d v := h.chg c
theorem end_nn {K : PySem.W.Frag} {H : Hp} {l : List D} {e : V} (h : DatAt K H (.tup l) e) : e ≠ .non := by
  intro z
  obtain ⟨a, xs, e2, _⟩ := DatAt.tup_inv h
  rw [z] at e2; cases e2
theorem scs62 : FnScope ["_law_world", "_law_name", "_law_statement_here", "_law_place", "_law_own", "_law_value_here", "_law_told"] ["_law_world", "_law_name", "_law_statement_here", "_law_place", "_law_own"] (defScope (dst 62)) := ⟨rfl, rfl, rfl, by decide +kernel, rfl, by decide +kernel, by decide +kernel⟩
def sp62 (K : PySem.W.Frag) : Sp := fun vs H Q _ => ∃ (Hs : Hp) (G : Pg) (I : List Int) (lim : Nat) (A : LA) (n : Str) (own : Addr) (tg : Option Str) (rest : List Fr) (e : V) (p : List Nat) (s : Sm) (pr : Pr) (v : V) (m : Nat), vs = [.ref A.wd, .str n, v, .str (pathT p), .ref own] ∧ SC K Hs G I lim A n own pr rest ∧ InT K Hs H G I lim A n own tg rest e p s m ∧ stmtAt pr.body p = some s ∧ DatAt K H s.d v ∧ isPl s = true ∧
  ∀ w H', Chg (LM A own) H H' → Post K Hs H' G I lim A n own tg rest e (nextOf pr.body p) m w → Q (.str w) H'
section
variable {P : Program} {w : World} {K : PySem.W.Frag} {mg : Str → Option Value} {base : Heap} {a : Nat → Addr} {fd : Nat → FuncData}
theorem ok62 (T : Tx P K mg base a fd) : FnOk P w K mg base CX0 20 (a 62) (fd 62) ["_law_world", "_law_name", "_law_statement_here", "_law_place", "_law_own"] (sp62 K) := by
  refine T.D62.fn.ok scs62 (fun vs H Q E h => ?_) (fun cdv A outer s H vs Q E hr h => ⟨_, (pss_cons (ps_set (i := 5) scs62.nd rfl (Or.inl rfl) (pe_call (ok50 T 8) (hr.mono (by first | exact Nat.le_refl _ | decide | omega)) rfl T.D50.mg T.D50.kp T.D50.bd .nil pass0 (pa_cons (pe_call (ok53 T) (hr.mono (by first | exact Nat.le_refl _ | decide | omega)) rfl T.D53.mg T.D53.kp T.D53.bd .nil pass0 (pa_cons (pv 0) (pa_cons (pv 4) pa_nil))) (pa_cons (pe_ix (ixTK (K := K) rfl) (pv 2) (pe_op op_sub (pe_callB call_len_seq (by rfl) T.n_len PyProof.Rows.Boot.«len» (pa_cons (pv 2) pa_nil)) pe_int) (fun _ _ => rfl)) pa_nil))))
      (pss_cons (ps_if (pt_val (pe_callB isiS (by rfl) T.n_isinstance PyProof.Rows.Boot.«isinstance» (pa_cons (pv 5) (pa_cons (pe_bltn (v := .ty "str") (by rfl) T.n_str PyProof.Rows.Boot.«str» rfl) pa_nil)))) (pss_one (ps_ret (pe_call (ok56 T) (hr.mono (by first | exact Nat.le_refl _ | decide | omega)) rfl T.D56.mg T.D56.kp T.D56.bd .nil pass0 (pa_cons (pv 0) (pa_cons (pv 1) (pa_cons (pv 3) (pa_cons (pv 5) pa_nil))))))) pss_nil)
      (pss_cons (ps_if (pt_cmpR op_eq (pe_ix (ixTK (K := K) rfl) (pv 2) pe_int (fun _ _ => rfl)) pe_str (nomark _)) (pss_cons (ps_dput (hu_of hr) (pv 0) pe_str (pv 5) rfl)
      (pss_one (ps_ret pe_str))) pss_nil)
      (pss_cons (ps_if (pt_cmpR op_eq (pe_ix (ixTK (K := K) rfl) (pv 2) pe_int (fun _ _ => rfl)) pe_str (nomark _)) (pss_cons (ps_set (i := 6) scs62.nd rfl (Or.inl rfl) (pe_dget (hu_of hr) (pv 0) pe_str (fun _ _ => rfl)))
      (pss_one (ps_expr (pe_bm PySem.F.plainAttrs_list PySem.F.slot_list_append PySem.F.type_list_append mt_append (pv 6) (pa_cons (pv 5) pa_nil))))) (pss_one (ps_expr (pe_call (ok54 T) (hr.mono (by first | exact Nat.le_refl _ | decide | omega)) rfl T.D54.mg T.D54.kp T.D54.bd .nil pass0 (pa_cons (pv 0) (pa_cons (pv 4) (pa_cons (pe_ix (ixTK (K := K) rfl) (pv 2) pe_int (fun _ _ => rfl)) (pa_cons (pv 5) pa_nil))))))))
      (pss_one (ps_ret pe_str)))))), ?_⟩)
  · obtain ⟨Hs, G, I, lim, A, n, own, tg, rest, e, p, s, pr, v, m, rfl, _⟩ := h
    rfl
  · obtain ⟨Hs, G, I, lim, A, n, own, tg, rest, e, p, s, pr, v, m, rfl, S, ⟨sh, told, steps, used, res, kept, L, hz, ht, ok, at_⟩, hs, hd, hpl, q⟩ := h
    have hok := S.W.okS S.hp hs
    have hlk := ok.look (f := ⟨n, some p, kept, tg⟩) (r := rest) rfl
    walk_at "a11"
    refine ⟨Hs, G, I, lim, A, n, own, sh, told, steps, used, _, res, e, kept, rfl, L, fun d H1 c1 hk => ?_⟩
    have L1 := L.chg c1
    have hd1 := hd.chg c1
    have bad : ∀ k, exec G I (mkC sh n (some p) kept tg rest told steps used) ⟨n, some p, kept, tg⟩ rest p s = fail (mkC sh n (some p) kept tg rest told steps used) ⟨n, some p, kept, tg⟩ k → ∀ H2, Chg [] H1 H2 →
        sp56 K [.ref A.wd, .str n, .str (pathT p), .str k] H2 Q E0 := fun k hk H2 c2 => by
      refine ⟨Hs, G, I, lim, A, n, own, sh, told, steps, used, _, res, e, kept, n, pathT p, k, rfl, L1.chg c2, fun H3 e3 c3 L3 d3 => ?_⟩
      rw [hk] at at_
      exact q "stop" _ ((c1.trans c2).of0.trans c3) (.inr (.inr ⟨rfl, _, sh, told, steps, used, res, kept, e3, L3, Stop.of at_ rfl d3⟩))
    cases s with
    | set mm ex =>
      obtain ⟨tp, xs, rfl, h0, g⟩ := DatAt.tup_inv hd1
      obtain ⟨x0, r, rfl, h1, g⟩ := g.cons_inv
      obtain ⟨x1, r, rfl, h2, g⟩ := g.cons_inv
      obtain ⟨x2, r, rfl, h3, g⟩ := g.cons_inv
      cases g.nil_inv
      cases dat_str_inv h1
      cases dat_str_inv h2
      walk_at "a11"
      refine ⟨_, .inr h0, ?_⟩
      refine ixT h0 (v := x2) rfl ?_
      refine ⟨d, _, _, _, ex, rfl, hk, h3, hok.2.1, hok.2.2, hlk, fun H2 c2 => ?_⟩
      have h02 := c2.sqT h0
      cases hev : ev (look G sh kept) ex with
      | error k =>
        simp only [resV]
        walk_at "a11"
        exact bad k (by simp only [exec]; rw [show look G (mkC sh n (some p) kept tg rest told steps used).sh kept = look G sh kept from rfl, hev]) _ c2
      | ok i =>
        simp only [resV]
        have hex : exec G I (mkC sh n (some p) kept tg rest told steps used) ⟨n, some p, kept, tg⟩ rest p (.set mm ex) = adv G (store G (mkC sh n (some p) kept tg rest told steps used) ⟨n, some p, kept, tg⟩ rest mm i) := by
          simp only [exec]; rw [show look G (mkC sh n (some p) kept tg rest told steps used).sh kept = look G sh kept from rfl, hev]
        rw [hex] at at_
        have Lb := L1.chg c2
        walk_at "a11"
        refine ⟨Hs, G, I, lim, A, n, own, sh, told, steps, used, _, res, e, kept, mm, i, rfl, Lb, hok.1, fun H3 c3 L3 => ?_⟩
        rw [store_mk, adv_mk S.hp] at at_
        walk_at "a11"
        exact q "" _ ((c1.trans c2).of0.trans c3) (.inl ⟨rfl, _, _, _, _, _, _, L3, at_, hz.2.1⟩)
    | ask n => cases hpl
    | tell ex =>
      obtain ⟨tp, xs, rfl, h0, g⟩ := DatAt.tup_inv hd1
      obtain ⟨x0, r, rfl, h1, g⟩ := g.cons_inv
      obtain ⟨x1, r, rfl, h2, g⟩ := g.cons_inv
      cases g.nil_inv
      cases dat_str_inv h1
      walk_at "a11"
      refine ⟨_, .inr h0, ?_⟩
      refine ixT h0 (v := x1) rfl ?_
      refine ⟨d, _, _, _, ex, rfl, hk, h2, hok.1, hok.2, hlk, fun H2 c2 => ?_⟩
      have h02 := c2.sqT h0
      cases hev : ev (look G sh kept) ex with
      | error k =>
        simp only [resV]
        walk_at "a11"
        exact bad k (by simp only [exec]; rw [show look G (mkC sh n (some p) kept tg rest told steps used).sh kept = look G sh kept from rfl, hev]) _ c2
      | ok i =>
        simp only [resV]
        have hex : exec G I (mkC sh n (some p) kept tg rest told steps used) ⟨n, some p, kept, tg⟩ rest p (.tell ex) = adv G { mkC sh n (some p) kept tg rest told steps used with told := told ++ [i] } := by
          simp only [exec]; rw [show look G (mkC sh n (some p) kept tg rest told steps used).sh kept = look G sh kept from rfl, hev]; rfl
        rw [hex] at at_
        have Lb := L1.chg c2
        walk_at "a11"
        have at2 : At G I lim (adv G (mkC sh n (some p) kept tg rest (told ++ [i]) steps used)) := at_
        rw [adv_mk S.hp] at at2
        refine dgI Lb.L.wd rfl ?_
        refine ⟨.inl ⟨rfl, _, SqL.of Lb.L.td⟩, _, rfl, _, Lb.L.td, ?_, ?_⟩
        · rw [List.length_map]; exact sz' (by omega)
        · have cp : Chg (LM A own) H2 (upd H2 A.td (.lst (told.map V.int ++ [.int i]))) := (Chg.put (L := [A.td]) Lb.L.td trivial (by simp)).mono (fun b hb => by rw [List.mem_singleton.mp hb]; simp [LM, lmut])
          obtain ⟨kw, hkw, rkw⟩ := Lb.o
          have hno : own ≠ A.td := fun z => L.om (by rw [z]; simp [lmut])
          exact q "" _ ((c1.trans c2).of0.trans cp) (.inl ⟨rfl, _, _, _, _, _, _, ⟨L.F, Lb.L.tell L.F i, ⟨kw, by rw [upd_ne hno]; exact hkw, rkw⟩, L.of, L.om, L.pr, L.wf⟩, at2, hz.2.1⟩)
    | chk cb => cases hpl
    | need cb => cases hpl
    | ret ex =>
      obtain ⟨tp, xs, rfl, h0, g⟩ := DatAt.tup_inv hd1
      obtain ⟨x0, r, rfl, h1, g⟩ := g.cons_inv
      obtain ⟨x1, r, rfl, h2, g⟩ := g.cons_inv
      cases g.nil_inv
      cases dat_str_inv h1
      walk_at "a11"
      refine ⟨_, .inr h0, ?_⟩
      refine ixT h0 (v := x1) rfl ?_
      refine ⟨d, _, _, _, ex, rfl, hk, h2, hok.1, hok.2, hlk, fun H2 c2 => ?_⟩
      have h02 := c2.sqT h0
      cases hev : ev (look G sh kept) ex with
      | error k =>
        simp only [resV]
        walk_at "a11"
        exact bad k (by simp only [exec]; rw [show look G (mkC sh n (some p) kept tg rest told steps used).sh kept = look G sh kept from rfl, hev]) _ c2
      | ok i =>
        simp only [resV]
        have hex : exec G I (mkC sh n (some p) kept tg rest told steps used) ⟨n, some p, kept, tg⟩ rest p (.ret ex) = leave G i (mkC sh n (some p) kept tg rest told steps used) := by
          simp only [exec]; rw [show look G (mkC sh n (some p) kept tg rest told steps used).sh kept = look G sh kept from rfl, hev]
        rw [hex] at at_
        have Lb := L1.chg c2
        walk_at "a11"
        rw [leave_mk] at at_
        refine dpI Lb.L.wd (by exact (sz' (by decide) : 11 < sizeLine)) ?_
        exact q "return" _ ((c1.trans c2).of0.trans Lb.endd) (.inr (.inl ⟨rfl, _, _, _, _, _, _, Lb.setW used _ i e, at_, hz.2.1⟩))
    | ite cb x y => cases hpl
    | whl cb x => cases hpl
    | call pn es t => cases hpl
end
end Cc
set_option maxRecDepth 100000
set_option maxHeartbeats 400000
/-! Blocks and their places; the tick. -/
namespace Cc
open PySem PySem.Spec PyProof.Rows L2
theorem afterB_in {B : List Sm} {p : List Nat} {s : Sm} {i : Nat} (hs : stmtAt B p = some s) : afterB B (p ++ [i]) = if isW (some s) = true then some p else nextOf B p := by
  unfold afterB
  rw [if_neg (by simp), List.dropLast_concat, hs]
theorem blockPlace_entry {B b : List Sm} {p : List Nat} {s : Sm} {i : Nat} (hs : stmtAt B p = some s) (hb : (blocksOf s)[i]? = some b) : blockPlace B p s i = entryB B (p ++ [i]) b 0 := by
  unfold blockPlace entryB
  rw [hb, Option.getD_some, afterB_in hs, List.append_assoc]
  rfl
theorem blockAt_sub1 {B b : List Sm} {p : List Nat} {s : Sm} {i : Nat} (hs : stmtAt B p = some s) (hb : (blocksOf s)[i]? = some b) : blockAt B (p ++ [i]) = some b ∧ (p ++ [i]).length % 2 = 0 := by
  obtain ⟨o, _⟩ := stmtAt_inv hs
  obtain ⟨q, k, rfl, eq⟩ := path_split o
  refine ⟨?_, by rw [List.length_append, List.length_singleton]; omega⟩
  rw [List.append_assoc]
  show blockAt B (q ++ [k, i]) = _
  rw [blockAt_in eq hs, hb]
theorem stU {G : Pg} {c : Cf} {f : Fr} {r : List Fr} {n : Str} {v : Int} : (store G c f r n v).used = c.used := by unfold store; split <;> rfl
theorem advU {G : Pg} {c : Cf} : (adv G c).used = c.used := by unfold adv; split <;> rfl
theorem leaveU {G : Pg} {c : Cf} {v : Int} : (leave G v c).used = c.used := by
  unfold leave
  split
  · rfl
  · rfl
  · rw [advU]
    split
    · rfl
    · exact stU
theorem normU {G : Pg} {c : Cf} : (norm G c).used = c.used := by
  induction hn : c.fs.length using Nat.strongRecOn generalizing c with
  | _ n ih =>
    by_cases ho : isOut c = true
    · rw [norm_out ho, ih _ (by rw [← hn]; exact leave_len G 0 c (isOut_fs ho)) rfl, leaveU]
    · rw [norm_in (by simpa using ho)]
theorem execU {G : Pg} {I : List Int} {c : Cf} {f : Fr} {rest : List Fr} {p : List Nat} {s : Sm} (h : c.used ≤ I.length) : (exec G I c f rest p s).used ≤ I.length := by
  cases s with
  | set n e => simp only [exec]; split <;> simp [fail, advU, stU, h]
  | ask n =>
    simp only [exec]
    split
    · exact h
    · rw [advU]; show c.used + 1 ≤ _; omega
  | tell e => simp only [exec]; split <;> simp [fail, advU, h]
  | chk b => simp only [exec]; split <;> (try split) <;> simp [fail, advU, h]
  | need b => simp only [exec]; split <;> (try split) <;> simp [fail, advU, h]
  | ret e => simp only [exec]; split <;> simp [fail, leaveU, h]
  | ite b x y => simp only [exec]; split <;> simp [fail, goto, h]
  | whl b x => simp only [exec]; split <;> (try split) <;> simp [fail, goto, advU, h]
  | call q es t => simp only [exec]; split <;> (try split) <;> simp [fail, h]
theorem Runs.used {G : Pg} {I : List Int} {lim : Nat} {c : Cf} (h : Runs G I lim c) : c.used ≤ I.length := by
  induction h with
  | start => unfold init; rw [normU]; exact Nat.zero_le _
  | @more c h l ih =>
    unfold step
    split
    · exact ih
    · split
      · exact ih
      · split
        · exact ih
        · rw [normU]
          refine execU ?_
          unfold kept
          split <;> exact ih
theorem goto_mk {sh : Sto} {n : Str} {pl pl' : Option (List Nat)} {kept : Sto} {tg : Option Str} {rest : List Fr} {told : List Int} {steps : List D} {used : Nat} : goto (mkC sh n pl kept tg rest told steps used) ⟨n, pl, kept, tg⟩ rest pl' = mkC sh n pl' kept tg rest told steps used := rfl
theorem tick_use {K : PySem.W.Frag} {Hs H : Hp} {G : Pg} {I : List Int} {lim : Nat} {A : LA} {n : Str} {own : Addr} {pr : Pr} {tg : Option Str} {rest : List Fr} {e : V} {p : List Nat} {s : Sm} {m : Nat} {Q : VK} {E : XK} (S : SC K Hs G I lim A n own pr rest) (R : InW K Hs H G I lim A n own tg rest e (some p) m) (hs : stmtAt pr.body p = some s)
    (q1 : ∀ H', Chg (LM A own) H H' → (∃ op, StopW K Hs H' G I lim A n own op) → Q (.bl false) H') (q2 : ∀ H', Chg (LM A own) H H' → InT K Hs H' G I lim A n own tg rest e p s (m + 1) → Q (.bl true) H') : sp55 K [.ref A.wd, .str n, .str (pathT p), .ref own] H Q E := by
  obtain ⟨sh, told, steps, used, res, kept, L, r, z⟩ := R
  have hl := S.hl
  have hlen : steps.length ≤ lim := (r.runs.len S.W S.hi)
  refine ⟨Hs, G, I, lim, A, n, own, sh, told, steps, used, _, res, e, kept, pathT p, rfl, L, S.W.b, by omega, fun hz H' e' c L' d => ?_, fun hz H' c L' => ?_⟩
  · exact q1 H' c ⟨_, sh, told, steps, used, res, kept, e', L', InW.stop r hz d⟩
  · obtain ⟨h1, h2, h3, h4⟩ := r.tick S hz hs
    exact q2 H' c ⟨sh, told, _, used, res, kept, L', ⟨h1, by rw [List.length_append, List.length_singleton]; omega, r.runs.used⟩, h2, h3, h4⟩
end Cc
set_option maxRecDepth 100000
set_option maxHeartbeats 4000000
/-! the law: block_run, branch_run -/
namespace Cc
open PySem PySem.Spec PyProof.Rows L2
theorem scs57 : FnScope ["_law_world", "_law_name", "_law_block_here", "_law_start", "_law_own", "_law_k", "_law_signal"] ["_law_world", "_law_name", "_law_block_here", "_law_start", "_law_own"] (defScope (dst 57)) := ⟨rfl, rfl, rfl, by decide +kernel, rfl, by decide +kernel, by decide +kernel⟩
def sp57 (K : PySem.W.Frag) (N : Nat) : Sp := fun vs H Q _ => ∃ (Hs : Hp) (G : Pg) (I : List Int) (lim : Nat) (A : LA) (n : Str) (own : Addr) (tg : Option Str) (rest : List Fr) (e : V) (pr : Pr) (v : V) (m : Nat) (q : List Nat) (b : List Sm) (st : Addr), vs = [.ref A.wd, .str n, v, .ref st, .ref own] ∧ SC K Hs G I lim A n own pr rest ∧ InW K Hs H G I lim A n own tg rest e (entryB pr.body q b 0) m ∧ blockAt pr.body q = some b ∧ q.length % 2 = 0 ∧ DatAt K H (.tup (smsD b)) v ∧ SqT K H st (q.map fun i => V.int (i : Nat)) ∧ (12 - rest.length) * 3 + depB b < N ∧
  ∀ w H', Chg (LM A own) H H' → Post K Hs H' G I lim A n own tg rest e (afterB pr.body q) m w → Q (.str w) H'
def sp61 (K : PySem.W.Frag) (N : Nat) : Sp := fun vs H Q _ => ∃ (Hs : Hp) (G : Pg) (I : List Int) (lim : Nat) (A : LA) (n : Str) (own : Addr) (tg : Option Str) (rest : List Fr) (e : V) (pr : Pr) (v : V) (m : Nat) (p : List Nat) (s : Sm) (st : Addr), vs = [.ref A.wd, .str n, v, .ref st, .ref own] ∧ SC K Hs G I lim A n own pr rest ∧ InW K Hs H G I lim A n own tg rest e (some p) m ∧ stmtAt pr.body p = some s ∧ DatAt K H s.d v ∧ SqT K H st (p.map fun i => V.int (i : Nat)) ∧ (12 - rest.length) * 3 < N + 1 ∧ (∀ b ∈ blocksOf s, (12 - rest.length) * 3 + depB b < N) ∧
  ∀ w H', Chg (LM A own) H H' → Post K Hs H' G I lim A n own tg rest e (nextOf pr.body p) m w → Q (.str w) H'
section
variable {P : Program} {w : World} {K : PySem.W.Frag} {mg : Str → Option Value} {base : Heap} {a : Nat → Addr} {fd : Nat → FuncData}
theorem ok57s (T : Tx P K mg base a fd) (N : Nat) (G61 : FnOk P w K mg base CX0 (4 * N + 33) (a 61) (fd 61) ["_law_world", "_law_name", "_law_statement_here", "_law_path", "_law_own"] (sp61 K N)) : FnOk P w K mg base CX0 (4 * N + 34) (a 57) (fd 57) ["_law_world", "_law_name", "_law_block_here", "_law_start", "_law_own"] (sp57 K (N + 1)) := by
  refine T.D57.fn.ok scs57 (fun vs H Q E h => ?_) (fun cdv A outer s H vs Q E hr h => ⟨_, (pss_cons (ps_for PassesOwn.never rfl (pi_range1 (by rfl) T.n_range (pa_cons (pe_callB call_len_seq (by rfl) T.n_len PyProof.Rows.Boot.«len» (pa_cons (pv 2) pa_nil)) pa_nil)) (pg_name (i := 5) scs57.nd rfl (Or.inl rfl)) (pss_cons (ps_set (i := 6) scs57.nd rfl (Or.inl rfl) (pe_call G61 (hr.mono (by first | exact Nat.le_refl _ | decide | omega)) rfl T.D61.mg T.D61.kp T.D61.bd .nil pass0 (pa_cons (pv 0) (pa_cons (pv 1) (pa_cons (pe_ix (ixTK (K := K) rfl) (pv 2) (pv 5) (fun _ _ => rfl)) (pa_cons (pe_op (catK (K := K) rfl) (pv 3) (pe_tup (pa_cons (pv 5) pa_nil))) (pa_cons (pv 4) pa_nil)))))))
      (pss_one (ps_if (pt_cmpR op_ne (pv 6) pe_str (nomark _)) (pss_one (ps_ret (pv 6))) pss_nil))))
      (pss_one (ps_ret pe_str))), ?_⟩)
  · obtain ⟨Hs, G, I, lim, A, n, own, tg, rest, e, pr, v, m, q, b, st, rfl, _⟩ := h
    rfl
  · obtain ⟨Hs, G, I, lim, A, n, own, tg, rest, e, pr, v, m, q, b, st, rfl, S, R, hb, hq, hd, hst, hm, k⟩ := h
    obtain ⟨tp, xs, rfl, h0, hds⟩ := DatAt.tup_inv hd
    have hlen := hds.len
    rw [smsD_eq, List.length_map] at hlen
    walk_at "a11"
    refine ⟨xs, .inr h0, by omega, by have := (S.W.b.pr pr (proc_mem S.hp)).all; have h1 := (blockAt_all q hb).1; have h2 := len_allB b; omega, ?_⟩
    refine forR (n := xs.length) (fun k σ H2 => (∃ o5 o6, σ = [some (V.ref A.wd), some (V.str n), some (V.ref tp), some (V.ref st), some (V.ref own), o5, o6]) ∧ Chg (LM A own) H H2 ∧ InW K Hs H2 G I lim A n own tg rest e (entryB pr.body q b k) m) ⟨⟨_, _, rfl⟩, Chg.refl, R⟩ ?_ ?_
    · rintro i σ H2 hi ⟨⟨o5, o6, rfl⟩, c2, R2⟩
      have hib : i < b.length := by omega
      have hbi : b[i]? = some b[i] := List.getElem?_eq_getElem hib
      obtain ⟨vi, hvi, hdi⟩ := hds.get (i := i) (d := b[i].d) (by rw [smsD_eq, List.getElem?_map, hbi]; rfl)
      have hs : stmtAt pr.body (q ++ [i]) = some b[i] := by rw [stmtAt_app hq hb, hbi]
      unfold entryB at R2
      rw [if_pos hib] at R2
      walk_at "a13"
      refine ixT (c2.sqT h0) (v := vi) (by rw [atI_nat]; exact hvi) ?_
      walk_at "a11"
      have c3 : Chg [] H2 (upd H2 pp (.tup [.int i])) := Chg.new hpp
      have zq : q.length ≤ 100 := by have := (stmt_bound hs (S.W.b.pr pr (proc_mem S.hp)).all (S.W.b.pr pr (proc_mem S.hp)).dep).2.1; rw [List.length_append, List.length_singleton] at this; omega
      refine catA (c3.sqT (c2.sqT hst)) (SqT.of upd_same) (sz (by rw [List.length_map, List.length_singleton]; omega)) (fun p4 H4 c4 h4 => ?_)
      have c34 := c3.trans c4
      have dm := depB_mem (List.mem_of_getElem? hbi)
      refine ⟨Hs, G, I, lim, A, n, own, tg, rest, e, pr, vi, m, q ++ [i], b[i], p4, rfl, S, R2.chg c34, hs, (hdi.chg c2).chg c34, by rw [List.map_append]; exact h4, by omega, fun b2 hb2 => by have := dep_blocks hb2; omega, fun w H5 c5 po => ?_⟩
      have c25 := (c2.trans c34.of0).trans c5
      walk_at "a11"
      rcases po with ⟨rfl, r⟩ | ⟨rfl, r⟩ | ⟨rfl, r⟩
      · rw [if_neg (by decide)]
        rw [entry_next hq hb] at r
        exact ⟨c25, r⟩
      · rw [if_pos (by decide)]
        exact k _ _ c25 (.inr (.inl ⟨rfl, r⟩))
      · rw [if_pos (by decide)]
        exact k _ _ c25 (.inr (.inr ⟨rfl, r⟩))
    · rintro σ H2 ⟨⟨o5, o6, rfl⟩, c2, R2⟩
      unfold entryB at R2
      rw [if_neg (by omega)] at R2
      walk_at "a11"
      exact k "" _ c2 (.inl ⟨rfl, R2⟩)
end
theorem scs58 : FnScope ["_law_world", "_law_name", "_law_statement_here", "_law_path", "_law_own", "_law_place", "_law_turn", "_law_truth_here", "_law_index", "_law_signal", "_law_number_here"] ["_law_world", "_law_name", "_law_statement_here", "_law_path", "_law_own"] (defScope (dst 58)) := ⟨rfl, rfl, rfl, by decide +kernel, rfl, by decide +kernel, by decide +kernel⟩
def sp58 (K : PySem.W.Frag) (N : Nat) : Sp := fun vs H Q _ => ∃ (Hs : Hp) (G : Pg) (I : List Int) (lim : Nat) (A : LA) (n : Str) (own : Addr) (tg : Option Str) (rest : List Fr) (e : V) (pr : Pr) (v : V) (m : Nat) (p : List Nat) (s : Sm) (st : Addr), vs = [.ref A.wd, .str n, v, .ref st, .ref own] ∧ SC K Hs G I lim A n own pr rest ∧ InW K Hs H G I lim A n own tg rest e (some p) m ∧ stmtAt pr.body p = some s ∧ isBr s = true ∧ DatAt K H s.d v ∧ SqT K H st (p.map fun i => V.int (i : Nat)) ∧ (∀ b ∈ blocksOf s, (12 - rest.length) * 3 + depB b < N) ∧
  ∀ w H', Chg (LM A own) H H' → Post K Hs H' G I lim A n own tg rest e (nextOf pr.body p) m w → Q (.str w) H'
section
variable {P : Program} {w : World} {K : PySem.W.Frag} {mg : Str → Option Value} {base : Heap} {a : Nat → Addr} {fd : Nat → FuncData}
theorem ok58s (T : Tx P K mg base a fd) (N : Nat) (G57 : FnOk P w K mg base CX0 (4 * N + 30) (a 57) (fd 57) ["_law_world", "_law_name", "_law_block_here", "_law_start", "_law_own"] (sp57 K N)) : FnOk P w K mg base CX0 (4 * N + 31) (a 58) (fd 58) ["_law_world", "_law_name", "_law_statement_here", "_law_path", "_law_own"] (sp58 K N) := by
  refine T.D58.fn.ok scs58 (fun vs H Q E h => ?_) (fun cdv A outer s H vs Q E hr h => ⟨_, (pss_cons (ps_set (i := 5) scs58.nd rfl (Or.inl rfl) (pe_join pe_str (pe_lc (own := [("_law_number_here", 10)]) (g := gName 10) (tt := tYes) (by rfl) scs58.nd (pi_tup (pv 3)) (blkOk_by (own := [("_law_number_here", 10)]) (N := ["_law_world", "_law_name", "_law_statement_here", "_law_path", "_law_own", "_law_place", "_law_turn", "_law_truth_here", "_law_index", "_law_signal", "_law_number_here"]) (sc := (defScope (dst 58))) (by decide +kernel)) (fun _ _ _ _ _ => (pg_name (i := 10) scs58.nd rfl (Or.inl rfl))) (fun _ _ _ _ _ => pts_nil) (fun _ _ _ _ _ => (pe_callTy call_str_int (by rfl) T.n_str PyProof.Rows.Boot.«str» (pa_cons (pv 10) pa_nil))))))
      (pss_cons (ps_for PassesOwn.never rfl (pi_range1 (by rfl) T.n_range (pa_cons (pe_op op_add (pe_dget (hu_of hr) (pv 0) pe_str (fun _ _ => rfl)) pe_int) pa_nil)) (pg_name (i := 6) scs58.nd rfl (Or.inl rfl)) (pss_cons (ps_if (pt_not (pt_val (pe_call (ok55 T) (hr.mono (by first | exact Nat.le_refl _ | decide | omega)) rfl T.D55.mg T.D55.kp T.D55.bd .nil pass0 (pa_cons (pv 0) (pa_cons (pv 1) (pa_cons (pv 5) (pa_cons (pv 4) pa_nil))))))) (pss_one (ps_ret pe_str)) pss_nil)
      (pss_cons (ps_set (i := 7) scs58.nd rfl (Or.inl rfl) (pe_call (ok52 T 8) (hr.mono (by first | exact Nat.le_refl _ | decide | omega)) rfl T.D52.mg T.D52.kp T.D52.bd .nil pass0 (pa_cons (pe_call (ok53 T) (hr.mono (by first | exact Nat.le_refl _ | decide | omega)) rfl T.D53.mg T.D53.kp T.D53.bd .nil pass0 (pa_cons (pv 0) (pa_cons (pv 4) pa_nil))) (pa_cons (pe_ix (ixTK (K := K) rfl) (pv 2) pe_int (fun _ _ => rfl)) pa_nil))))
      (pss_cons (ps_if (pt_val (pe_callB isiS (by rfl) T.n_isinstance PyProof.Rows.Boot.«isinstance» (pa_cons (pv 7) (pa_cons (pe_bltn (v := .ty "str") (by rfl) T.n_str PyProof.Rows.Boot.«str» rfl) pa_nil)))) (pss_one (ps_ret (pe_call (ok56 T) (hr.mono (by first | exact Nat.le_refl _ | decide | omega)) rfl T.D56.mg T.D56.kp T.D56.bd .nil pass0 (pa_cons (pv 0) (pa_cons (pv 1) (pa_cons (pv 5) (pa_cons (pv 7) pa_nil))))))) pss_nil)
      (pss_cons (ps_if (pt_cmpR op_eq (pe_ix (ixTK (K := K) rfl) (pv 2) pe_int (fun _ _ => rfl)) pe_str (nomark _)) (pss_cons (ps_set (i := 8) scs58.nd rfl (Or.inl rfl) (pe_callTy call_int1 (by rfl) T.n_int PyProof.Rows.Boot.«int» (pa_cons (pe_not (pv 7)) pa_nil)))
      (pss_one (ps_ret (pe_call G57 (hr.mono (by first | exact Nat.le_refl _ | decide | omega)) rfl T.D57.mg T.D57.kp T.D57.bd .nil pass0 (pa_cons (pv 0) (pa_cons (pv 1) (pa_cons (pe_ix (ixTK (K := K) rfl) (pv 2) (pe_op op_add pe_int (pv 8)) (fun _ _ => rfl)) (pa_cons (pe_op (catK (K := K) rfl) (pv 3) (pe_tup (pa_cons (pv 8) pa_nil))) (pa_cons (pv 4) pa_nil))))))))) pss_nil)
      (pss_cons (ps_if (pt_not (pt_val (pv 7))) (pss_one (ps_ret pe_str)) pss_nil)
      (pss_cons (ps_set (i := 9) scs58.nd rfl (Or.inl rfl) (pe_call G57 (hr.mono (by first | exact Nat.le_refl _ | decide | omega)) rfl T.D57.mg T.D57.kp T.D57.bd .nil pass0 (pa_cons (pv 0) (pa_cons (pv 1) (pa_cons (pe_ix (ixTK (K := K) rfl) (pv 2) pe_int (fun _ _ => rfl)) (pa_cons (pe_op (catK (K := K) rfl) (pv 3) (pe_tup (pa_cons pe_int pa_nil))) (pa_cons (pv 4) pa_nil)))))))
      (pss_one (ps_if (pt_cmpR op_ne (pv 9) pe_str (nomark _)) (pss_one (ps_ret (pv 9))) pss_nil)))))))))
      (pss_one (ps_ret pe_str)))), ?_⟩)
  · obtain ⟨Hs, G, I, lim, A, n, own, tg, rest, e, pr, v, m, p, s, st, rfl, _⟩ := h
    rfl
  · obtain ⟨Hs, G, I, lim, A, n, own, tg, rest, e, pr, v, m, p, s, st, rfl, S, R, hs, hbr, hd, hst, hm, k⟩ := h
    have hpb := stmt_pthB hs (S.W.b.pr pr (proc_mem S.hp)).all (S.W.b.pr pr (proc_mem S.hp)).dep
    walk_at "a11"
    refine ⟨⟨_, hst⟩, lcT hst (fun i acc H => acc = (p.take i).map (fun n => V.str (numT n))) (by rw [List.take_zero]; rfl) (fun i acc L H H' _ z => z) (fun i acc H z => by
      rw [z, List.length_map, List.length_take]; have := hpb.len; exact sz' (by omega)) ?_ ?_⟩
    · intro i x H2 acc N' N2 hx c w k1 k2
      obtain ⟨mm, hm2, rfl⟩ := ints_at hx
      walk_at "a11"
      refine ⟨log_small (hpb.lt mm (List.mem_of_getElem? hm2)), k1 _ _ Chg.refl ?_⟩
      rw [w, take_succ hm2, List.map_append]; rfl
    intro D H2 acc hD c2 hacc w
    rw [List.length_map, List.take_length] at w
    subst w
    walk_at "a11"
    have W0 := R.chg c2
    obtain ⟨sh0, told0, steps0, used0, res0, kept0, Lz, rz⟩ := id W0
    refine ⟨p.map numT, .inl (SqL.of (by rw [List.map_map]; exact hacc)), sum_len hpb, ?_⟩
    refine dgI Lz.L.wd rfl ⟨_, rfl, by omega, by have := S.hl; omega, ?_⟩
    refine forR (n := lim + 2) (fun k σ H3 => (∃ o6 o7 o8 o9 o10, σ = [some (V.ref A.wd), some (V.str n), some v, some (V.ref st), some (V.ref own), some (V.str (pathT p)), o6, o7, o8, o9, o10]) ∧ Chg (LM A own) H H3 ∧ InW K Hs H3 G I lim A n own tg rest e (some p) (m + k) ∧ (0 < k → isW (some s) = true)) ⟨⟨_, _, _, _, _, rfl⟩, c2.of0, by exact W0, fun z => absurd z (Nat.lt_irrefl _)⟩ ?_ ?_
    · rintro i σ H3 hi ⟨⟨o6, o7, o8, o9, o10, rfl⟩, c3, R3, hw⟩
      have hok := S.W.okS S.hp hs
      walk_at "a11"
      refine tick_use S R3 hs (fun H4 c4 st4 => ?_) (fun H4 c4 T4 => ?_)
      · walk_at "a11"
        exact k "stop" _ (c3.trans c4) (.inr (.inr ⟨rfl, st4⟩))
      obtain ⟨sh, told, steps, used, res, kept, L4, hz, ht, ok, at_⟩ := T4
      have hlk := ok.look (f := ⟨n, some p, kept, tg⟩) (r := rest) rfl
      walk_at "a11"
      refine ⟨Hs, G, I, lim, A, n, own, sh, told, steps, used, _, res, e, kept, rfl, L4, fun d H5 c5 hk => ?_⟩
      have L5 := L4.chg c5
      have c35 := (c3.trans c4).trans c5.of0
      have hd5 := hd.chg c35
      have bad : ∀ kd, exec G I (mkC sh n (some p) kept tg rest told steps used) ⟨n, some p, kept, tg⟩ rest p s = fail (mkC sh n (some p) kept tg rest told steps used) ⟨n, some p, kept, tg⟩ kd → ∀ H6, Chg [] H5 H6 →
          sp56 K [.ref A.wd, .str n, .str (pathT p), .str kd] H6 Q E0 := fun kd hkd H6 c6 => by
        refine ⟨Hs, G, I, lim, A, n, own, sh, told, steps, used, _, res, e, kept, n, pathT p, kd, rfl, L5.chg c6, fun H7 e7 c7 L7 d7 => ?_⟩
        rw [hkd] at at_
        exact k "stop" _ ((c35.trans c6.of0).trans c7) (.inr (.inr ⟨rfl, _, sh, told, steps, used, res, kept, e7, L7, Stop.of at_ rfl d7⟩))
      cases s with
      | set n e => cases hbr
      | ask n => cases hbr
      | tell e => cases hbr
      | chk cb => cases hbr
      | need cb => cases hbr
      | ret e => cases hbr
      | ite cb x y =>
        obtain ⟨tp, xs, rfl, h0, g⟩ := DatAt.tup_inv hd5
        obtain ⟨x0, r, rfl, h1, g⟩ := g.cons_inv
        obtain ⟨x1, r, rfl, h2, g⟩ := g.cons_inv
        obtain ⟨x2, r, rfl, h3, g⟩ := g.cons_inv
        obtain ⟨x3, r, rfl, h4, g⟩ := g.cons_inv
        cases g.nil_inv
        cases dat_str_inv h1
        walk_at "a11"
        refine ⟨d, _, _, _, cb, rfl, hk, h2, hok.1, hok.2, hlk, fun H6 c6 => ?_⟩
        have h06 := c6.sqT h0
        have L6 := L5.chg c6
        have c36 := c35.trans c6.of0
        cases hev : hold (look G sh kept) cb with
        | error kd =>
          simp only [resB]
          walk_at "a11"
          exact bad kd (by simp only [exec]; rw [show look G (mkC sh n (some p) kept tg rest told steps used).sh kept = look G sh kept from rfl, hev]) _ c6
        | ok t =>
          simp only [resB]
          cases t with
          | true =>
            have hex : exec G I (mkC sh n (some p) kept tg rest told steps used) ⟨n, some p, kept, tg⟩ rest p (.ite cb x y) = mkC sh n (entryB pr.body (p ++ [0]) x 0) kept tg rest told steps used := by
              simp only [exec]; rw [show look G (mkC sh n (some p) kept tg rest told steps used).sh kept = look G sh kept from rfl, hev, ← blockPlace_entry (i := 0) hs rfl, ← bodyOf_eq S.hp]; rfl
            rw [hex] at at_
            obtain ⟨hb1, hb2⟩ := blockAt_sub1 (i := 0) (b := x) hs rfl
            walk_at "a11"
            have c7 : Chg [] H6 (upd H6 pp (.tup [.int (0 : Nat)])) := Chg.new hpp
            refine catA (c7.sqT (c36.sqT hst)) (SqT.of upd_same) (sz (by have := hpb.len; rw [List.length_map, List.length_singleton]; omega)) (fun p8 H8 c8 h8 => ?_)
            have c78 := c7.trans c8
            have L8 := L6.chg c78
            refine ⟨Hs, G, I, lim, A, n, own, tg, rest, e, pr, x2, m + i + 1, p ++ [0], x, p8, rfl, S, ⟨sh, told, steps, used, res, kept, L8, at_, hz.2.1⟩, hb1, hb2, (h3.chg c6).chg c78, by rw [List.map_append]; exact h8, hm x (by simp [blocksOf]), fun w H9 c9 po => ?_⟩
            have c39 := (c36.trans c78.of0).trans c9
            rw [afterB_in hs] at po
            rw [if_neg (by simp [isW])] at po
            walk_at "a11"
            exact k w _ c39 (po.mono (by omega))
          | false =>
            have hex : exec G I (mkC sh n (some p) kept tg rest told steps used) ⟨n, some p, kept, tg⟩ rest p (.ite cb x y) = mkC sh n (entryB pr.body (p ++ [1]) y 0) kept tg rest told steps used := by
              simp only [exec]; rw [show look G (mkC sh n (some p) kept tg rest told steps used).sh kept = look G sh kept from rfl, hev, ← blockPlace_entry (i := 1) hs rfl, ← bodyOf_eq S.hp]; rfl
            rw [hex] at at_
            obtain ⟨hb1, hb2⟩ := blockAt_sub1 (i := 1) (b := y) hs rfl
            walk_at "a11"
            have c7 : Chg [] H6 (upd H6 pp (.tup [.int (1 : Nat)])) := Chg.new hpp
            refine catA (c7.sqT (c36.sqT hst)) (SqT.of upd_same) (sz (by have := hpb.len; rw [List.length_map, List.length_singleton]; omega)) (fun p8 H8 c8 h8 => ?_)
            have c78 := c7.trans c8
            have L8 := L6.chg c78
            refine ⟨Hs, G, I, lim, A, n, own, tg, rest, e, pr, x3, m + i + 1, p ++ [1], y, p8, rfl, S, ⟨sh, told, steps, used, res, kept, L8, at_, hz.2.1⟩, hb1, hb2, (h4.chg c6).chg c78, by rw [List.map_append]; exact h8, hm y (by simp [blocksOf]), fun w H9 c9 po => ?_⟩
            have c39 := (c36.trans c78.of0).trans c9
            rw [afterB_in hs] at po
            rw [if_neg (by simp [isW])] at po
            walk_at "a11"
            exact k w _ c39 (po.mono (by omega))
      | whl cb x =>
        obtain ⟨tp, xs, rfl, h0, g⟩ := DatAt.tup_inv hd5
        obtain ⟨x0, r, rfl, h1, g⟩ := g.cons_inv
        obtain ⟨x1, r, rfl, h2, g⟩ := g.cons_inv
        obtain ⟨x2, r, rfl, h3, g⟩ := g.cons_inv
        cases g.nil_inv
        cases dat_str_inv h1
        walk_at "a11"
        refine ⟨d, _, _, _, cb, rfl, hk, h2, hok.1, hok.2, hlk, fun H6 c6 => ?_⟩
        have h06 := c6.sqT h0
        have L6 := L5.chg c6
        have c36 := c35.trans c6.of0
        cases hev : hold (look G sh kept) cb with
        | error kd =>
          simp only [resB]
          walk_at "a11"
          exact bad kd (by simp only [exec]; rw [show look G (mkC sh n (some p) kept tg rest told steps used).sh kept = look G sh kept from rfl, hev]) _ c6
        | ok t =>
          simp only [resB]
          cases t with
          | true =>
            have hex : exec G I (mkC sh n (some p) kept tg rest told steps used) ⟨n, some p, kept, tg⟩ rest p (.whl cb x) = mkC sh n (entryB pr.body (p ++ [0]) x 0) kept tg rest told steps used := by
              simp only [exec]; rw [show look G (mkC sh n (some p) kept tg rest told steps used).sh kept = look G sh kept from rfl, hev, ← blockPlace_entry (i := 0) hs rfl, ← bodyOf_eq S.hp]; rfl
            rw [hex] at at_
            obtain ⟨hb1, hb2⟩ := blockAt_sub1 (i := 0) (b := x) hs rfl
            walk_at "a11"
            have c7 : Chg [] H6 (upd H6 pp (.tup [.int (0 : Nat)])) := Chg.new hpp
            refine catA (c7.sqT (c36.sqT hst)) (SqT.of upd_same) (sz (by have := hpb.len; rw [List.length_map, List.length_singleton]; omega)) (fun p8 H8 c8 h8 => ?_)
            have c78 := c7.trans c8
            have L8 := L6.chg c78
            refine ⟨Hs, G, I, lim, A, n, own, tg, rest, e, pr, x2, m + i + 1, p ++ [0], x, p8, rfl, S, ⟨sh, told, steps, used, res, kept, L8, at_, hz.2.1⟩, hb1, hb2, (h3.chg c6).chg c78, by rw [List.map_append]; exact h8, hm x (by simp [blocksOf]), fun w H9 c9 po => ?_⟩
            have c39 := (c36.trans c78.of0).trans c9
            rw [afterB_in hs] at po
            rw [if_pos (by simp [isW])] at po
            walk_at "a11"
            rcases po with ⟨rfl, r⟩ | ⟨rfl, r⟩ | ⟨rfl, r⟩
            · rw [if_neg (by decide)]
              exact ⟨c39, r, fun _ => rfl⟩
            · rw [if_pos (by decide)]
              exact k _ _ c39 ((show Post K Hs _ G I lim A n own tg rest e none (m + i + 1) _ from .inr (.inl ⟨rfl, r⟩)).mono (by omega) |> fun z => z.elim (fun q => absurd q.1 (by decide)) .inr)
            · rw [if_pos (by decide)]
              exact k _ _ c39 (.inr (.inr ⟨rfl, r⟩))
          | false =>
            have hex : exec G I (mkC sh n (some p) kept tg rest told steps used) ⟨n, some p, kept, tg⟩ rest p (.whl cb x) = mkC sh n (nextOf pr.body p) kept tg rest told steps used := by
              simp only [exec]; rw [show look G (mkC sh n (some p) kept tg rest told steps used).sh kept = look G sh kept from rfl, hev, ← adv_mk S.hp]; rfl
            rw [hex] at at_
            walk_at "a11"
            exact k "" _ c36 (.inl ⟨rfl, sh, told, steps, used, res, kept, L6, at_, by omega⟩)
      | call pn es t => cases hbr
    · rintro σ H3 ⟨⟨o6, o7, o8, o9, o10, rfl⟩, c3, ⟨sh, told, steps, used, res, kept, L3, at_, hz⟩, hw⟩
      have hl2 : steps.length ≤ lim := at_.runs.len S.W S.hi
      omega
end
end Cc
set_option maxRecDepth 100000
set_option maxHeartbeats 4000000
/-! the law: statement_run -/
namespace Cc
open PySem PySem.Spec PyProof.Rows L2
theorem scs61 : FnScope ["_law_world", "_law_name", "_law_statement_here", "_law_path", "_law_own", "_law_word", "_law_place", "_law_truth_here", "_law_number_here"] ["_law_world", "_law_name", "_law_statement_here", "_law_path", "_law_own"] (defScope (dst 61)) := ⟨rfl, rfl, rfl, by decide +kernel, rfl, by decide +kernel, by decide +kernel⟩
def isCall : Sm → Bool
  | .call _ _ _ => true
  | _ => false
def sp59 (K : PySem.W.Frag) (N : Nat) : Sp := fun vs H Q _ => ∃ (Hs : Hp) (G : Pg) (I : List Int) (lim : Nat) (A : LA) (n : Str) (own : Addr) (tg : Option Str) (rest : List Fr) (e : V) (pr : Pr) (v : V) (m : Nat) (p : List Nat) (s : Sm), vs = [.ref A.wd, .str n, v, .str (pathT p), .ref own] ∧ SC K Hs G I lim A n own pr rest ∧ InT K Hs H G I lim A n own tg rest e p s m ∧ stmtAt pr.body p = some s ∧ isCall s = true ∧ DatAt K H s.d v ∧ (12 - rest.length) * 3 < N + 1 ∧
  ∀ w H', Chg (LM A own) H H' → Post K Hs H' G I lim A n own tg rest e (nextOf pr.body p) m w → Q (.str w) H'
section
variable {P : Program} {w : World} {K : PySem.W.Frag} {mg : Str → Option Value} {base : Heap} {a : Nat → Addr} {fd : Nat → FuncData}
theorem ok61s (T : Tx P K mg base a fd) (N : Nat) (G58 : FnOk P w K mg base CX0 (4 * N + 31) (a 58) (fd 58) ["_law_world", "_law_name", "_law_statement_here", "_law_path", "_law_own"] (sp58 K N)) (G59 : FnOk P w K mg base CX0 (4 * N + 32) (a 59) (fd 59) ["_law_world", "_law_name", "_law_statement_here", "_law_place", "_law_own"] (sp59 K N)) : FnOk P w K mg base CX0 (4 * N + 33) (a 61) (fd 61) ["_law_world", "_law_name", "_law_statement_here", "_law_path", "_law_own"] (sp61 K N) := by
  refine T.D61.fn.ok scs61 (fun vs H Q E h => ?_) (fun cdv A outer s H vs Q E hr h => ⟨_, (pss_cons (ps_set (i := 5) scs61.nd rfl (Or.inl rfl) (pe_ix (ixTK (K := K) rfl) (pv 2) pe_int (fun _ _ => rfl)))
      (pss_cons (ps_if (pt_cmpR (inK (K := K) rfl) (pv 5) (pe_tup (pa_cons pe_str (pa_cons pe_str pa_nil))) (by rfl)) (pss_one (ps_ret (pe_call G58 (hr.mono (by first | exact Nat.le_refl _ | decide | omega)) rfl T.D58.mg T.D58.kp T.D58.bd .nil pass0 (pa_cons (pv 0) (pa_cons (pv 1) (pa_cons (pv 2) (pa_cons (pv 3) (pa_cons (pv 4) pa_nil)))))))) pss_nil)
      (pss_cons (ps_set (i := 6) scs61.nd rfl (Or.inl rfl) (pe_join pe_str (pe_lc (own := [("_law_number_here", 8)]) (g := gName 8) (tt := tYes) (by rfl) scs61.nd (pi_tup (pv 3)) (blkOk_by (own := [("_law_number_here", 8)]) (N := ["_law_world", "_law_name", "_law_statement_here", "_law_path", "_law_own", "_law_word", "_law_place", "_law_truth_here", "_law_number_here"]) (sc := (defScope (dst 61))) (by decide +kernel)) (fun _ _ _ _ _ => (pg_name (i := 8) scs61.nd rfl (Or.inl rfl))) (fun _ _ _ _ _ => pts_nil) (fun _ _ _ _ _ => (pe_callTy call_str_int (by rfl) T.n_str PyProof.Rows.Boot.«str» (pa_cons (pv 8) pa_nil))))))
      (pss_cons (ps_if (pt_not (pt_val (pe_call (ok55 T) (hr.mono (by first | exact Nat.le_refl _ | decide | omega)) rfl T.D55.mg T.D55.kp T.D55.bd .nil pass0 (pa_cons (pv 0) (pa_cons (pv 1) (pa_cons (pv 6) (pa_cons (pv 4) pa_nil))))))) (pss_one (ps_ret pe_str)) pss_nil)
      (pss_cons (ps_if (pt_cmpR op_eq (pv 5) pe_str (nomark _)) (pss_one (ps_ret (pe_call G59 (hr.mono (by first | exact Nat.le_refl _ | decide | omega)) rfl T.D59.mg T.D59.kp T.D59.bd .nil pass0 (pa_cons (pv 0) (pa_cons (pv 1) (pa_cons (pv 2) (pa_cons (pv 6) (pa_cons (pv 4) pa_nil)))))))) pss_nil)
      (pss_cons (ps_if (pt_cmpR op_eq (pv 5) pe_str (nomark _)) (pss_cons (ps_if (pt_cmpR op_eq (pe_dget (hu_of hr) (pv 0) pe_str (fun _ _ => rfl)) (pe_callB call_len_seq (by rfl) T.n_len PyProof.Rows.Boot.«len» (pa_cons (pe_dget (hu_of hr) (pv 0) pe_str (fun _ _ => rfl)) pa_nil)) (nomark _)) (pss_cons (ps_dput (hu_of hr) (pv 0) pe_str (pe_tup (pa_cons pe_str pa_nil)) rfl)
      (pss_one (ps_ret pe_str))) pss_nil)
      (pss_cons (ps_expr (pe_call (ok54 T) (hr.mono (by first | exact Nat.le_refl _ | decide | omega)) rfl T.D54.mg T.D54.kp T.D54.bd .nil pass0 (pa_cons (pv 0) (pa_cons (pv 4) (pa_cons (pe_ix (ixTK (K := K) rfl) (pv 2) pe_int (fun _ _ => rfl)) (pa_cons (pe_ix (ixTK (K := K) rfl) (pe_dget (hu_of hr) (pv 0) pe_str (fun _ _ => rfl)) (pe_dget (hu_of hr) (pv 0) pe_str (fun _ _ => rfl)) (fun _ _ => rfl)) pa_nil))))))
      (pss_cons (ps_dput (hu_of hr) (pv 0) pe_str (pe_op op_add (pe_dget (hu_of hr) (pv 0) pe_str (fun _ _ => rfl)) pe_int) rfl)
      (pss_one (ps_ret pe_str))))) pss_nil)
      (pss_cons (ps_if (pt_cmpR (inK (K := K) rfl) (pv 5) (pe_tup (pa_cons pe_str (pa_cons pe_str pa_nil))) (by rfl)) (pss_cons (ps_set (i := 7) scs61.nd rfl (Or.inl rfl) (pe_call (ok52 T 8) (hr.mono (by first | exact Nat.le_refl _ | decide | omega)) rfl T.D52.mg T.D52.kp T.D52.bd .nil pass0 (pa_cons (pe_call (ok53 T) (hr.mono (by first | exact Nat.le_refl _ | decide | omega)) rfl T.D53.mg T.D53.kp T.D53.bd .nil pass0 (pa_cons (pv 0) (pa_cons (pv 4) pa_nil))) (pa_cons (pe_ix (ixTK (K := K) rfl) (pv 2) pe_int (fun _ _ => rfl)) pa_nil))))
      (pss_cons (ps_if (pt_val (pe_callB isiS (by rfl) T.n_isinstance PyProof.Rows.Boot.«isinstance» (pa_cons (pv 7) (pa_cons (pe_bltn (v := .ty "str") (by rfl) T.n_str PyProof.Rows.Boot.«str» rfl) pa_nil)))) (pss_one (ps_ret (pe_call (ok56 T) (hr.mono (by first | exact Nat.le_refl _ | decide | omega)) rfl T.D56.mg T.D56.kp T.D56.bd .nil pass0 (pa_cons (pv 0) (pa_cons (pv 1) (pa_cons (pv 6) (pa_cons (pv 7) pa_nil))))))) pss_nil)
      (pss_cons (ps_if (PW.pt (pw_and (pt_not (pt_val (pv 7))) (pw_and1 (pt_cmpR op_eq (pv 5) pe_str (nomark _))))) (pss_one (ps_ret (pe_call (ok56 T) (hr.mono (by first | exact Nat.le_refl _ | decide | omega)) rfl T.D56.mg T.D56.kp T.D56.bd .nil pass0 (pa_cons (pv 0) (pa_cons (pv 1) (pa_cons (pv 6) (pa_cons pe_str pa_nil))))))) pss_nil)
      (pss_cons (ps_if (pt_not (pt_val (pv 7))) (pss_one (ps_dput (hu_of hr) (pv 0) pe_str (pe_tup (pa_cons pe_str pa_nil)) rfl)) pss_nil)
      (pss_one (ps_ret (pe_ifExp (pt_val (pv 7)) pe_str pe_str))))))) pss_nil)
      (pss_one (ps_ret (pe_call (ok62 T) (hr.mono (by first | exact Nat.le_refl _ | decide | omega)) rfl T.D62.mg T.D62.kp T.D62.bd .nil pass0 (pa_cons (pv 0) (pa_cons (pv 1) (pa_cons (pv 2) (pa_cons (pv 6) (pa_cons (pv 4) pa_nil))))))))))))))), ?_⟩)
  · obtain ⟨Hs, G, I, lim, A, n, own, tg, rest, e, pr, v, m, p, s, st, rfl, _⟩ := h
    rfl
  · obtain ⟨Hs, G, I, lim, A, n, own, tg, rest, e, pr, v, m, p, s, st, rfl, S, R, hs, hd, hst, hN, hm, k⟩ := h
    have hpb := stmt_pthB hs (S.W.b.pr pr (proc_mem S.hp)).all (S.W.b.pr pr (proc_mem S.hp)).dep
    have hok := S.W.okS S.hp hs
    cases s with
    | set mm ex =>
      obtain ⟨tp, xs, rfl, h0, g⟩ := DatAt.tup_inv hd
      obtain ⟨x0, r, rfl, h1, g⟩ := g.cons_inv
      obtain ⟨x1, r, rfl, h2, g⟩ := g.cons_inv
      obtain ⟨x2, r, rfl, h3, g⟩ := g.cons_inv
      cases g.nil_inv
      cases dat_str_inv h1
      walk_at "a10"
      have c1 := Chg.new (L := []) (o := .tup [V.str (Str.ofString "if"), V.str (Str.ofString "while")]) hpp
      have hst1 := c1.sqT hst
      refine ⟨⟨_, hst1⟩, lcT hst1 (fun i acc H => acc = (p.take i).map (fun n => V.str (numT n))) (by rw [List.take_zero]; rfl) (fun i acc L H H' _ z => z) (fun i acc H z => by
        rw [z, List.length_map, List.length_take]; have := hpb.len; exact sz' (by omega)) ?_ ?_⟩
      · intro i x H2 acc N' N2 hx c w k1 k2
        obtain ⟨m2, hm2, rfl⟩ := ints_at hx
        walk_at "a11"
        refine ⟨log_small (hpb.lt m2 (List.mem_of_getElem? hm2)), k1 _ _ Chg.refl ?_⟩
        rw [w, take_succ hm2, List.map_append]; rfl
      intro D H2 acc hD c2 hacc w
      rw [List.length_map, List.take_length] at w
      subst w
      have c12 := c1.trans c2
      walk_at "a11"
      refine ⟨p.map numT, .inl (SqL.of (by rw [List.map_map]; exact hacc)), sum_len hpb, ?_⟩
      refine tick_use S (R.chg c12) hs (fun H4 c4 st4 => ?_) (fun H4 c4 T4 => ?_)
      · walk_at "a11"
        exact k "stop" _ (c12.of0.trans c4) (.inr (.inr ⟨rfl, st4⟩))
      have c14 := c12.of0.trans c4
      have h04 := c14.sqT h0
      have hd4 := hd.chg c14
      walk_at "a10"
      have c5 := Chg.new (L := []) (o := .tup [V.str (Str.ofString "check"), V.str (Str.ofString "need")]) hpp
      exact ⟨Hs, G, I, lim, A, n, own, tg, rest, e, p, _, pr, _, m + 1, rfl, S, T4.chg c5, hs, hd4.chg c5, rfl, fun w H' c po => k w H' ((c14.trans c5.of0).trans c) (po.mono (by omega))⟩
    | ask mm =>
      obtain ⟨tp, xs, rfl, h0, g⟩ := DatAt.tup_inv hd
      obtain ⟨x0, r, rfl, h1, g⟩ := g.cons_inv
      obtain ⟨x1, r, rfl, h2, g⟩ := g.cons_inv
      cases g.nil_inv
      cases dat_str_inv h1
      walk_at "a10"
      have c1 := Chg.new (L := []) (o := .tup [V.str (Str.ofString "if"), V.str (Str.ofString "while")]) hpp
      have hst1 := c1.sqT hst
      refine ⟨⟨_, hst1⟩, lcT hst1 (fun i acc H => acc = (p.take i).map (fun n => V.str (numT n))) (by rw [List.take_zero]; rfl) (fun i acc L H H' _ z => z) (fun i acc H z => by
        rw [z, List.length_map, List.length_take]; have := hpb.len; exact sz' (by omega)) ?_ ?_⟩
      · intro i x H2 acc N' N2 hx c w k1 k2
        obtain ⟨m2, hm2, rfl⟩ := ints_at hx
        walk_at "a11"
        refine ⟨log_small (hpb.lt m2 (List.mem_of_getElem? hm2)), k1 _ _ Chg.refl ?_⟩
        rw [w, take_succ hm2, List.map_append]; rfl
      intro D H2 acc hD c2 hacc w
      rw [List.length_map, List.take_length] at w
      subst w
      have c12 := c1.trans c2
      walk_at "a11"
      refine ⟨p.map numT, .inl (SqL.of (by rw [List.map_map]; exact hacc)), sum_len hpb, ?_⟩
      refine tick_use S (R.chg c12) hs (fun H4 c4 st4 => ?_) (fun H4 c4 T4 => ?_)
      · walk_at "a11"
        exact k "stop" _ (c12.of0.trans c4) (.inr (.inr ⟨rfl, st4⟩))
      have c14 := c12.of0.trans c4
      have h04 := c14.sqT h0
      have hd4 := hd.chg c14
      obtain ⟨sh, told, steps, used, res, kept, L4, hz, ht, ok, at_⟩ := T4
      walk_at "a11"
      refine dgI L4.L.wd rfl ?_
      refine dgI L4.L.wd rfl ?_
      have hin := L4.L.c0.sqT L4.F.inp
      refine ⟨_, rfl, _, .inr hin, rfl, ?_⟩
      rw [List.length_map]
      by_cases hu : used = I.length
      · rw [if_pos (by show V.int (used : Int) = _; rw [hu])]
        have hex : exec G I (mkC sh n (some p) kept tg rest told steps used) ⟨n, some p, kept, tg⟩ rest p (.ask mm) = { mkC sh n (some p) kept tg rest told steps used with ending := some (.tup [.str "starved"]) } := by
          simp only [exec]; rw [if_pos (by show I.length ≤ used; omega)]
        rw [hex] at at_
        refine ⟨by decide, fun p7 hp7 => ?_⟩
        have c8 := Chg.new (L := []) (o := .tup [V.str (Str.ofString "starved")]) hp7
        have L7 := L4.chg c8
        refine dpI L7.L.wd (by exact (sz' (by decide) : 11 < sizeLine)) ?_
        exact k "stop" _ ((c14.trans c8.of0).trans L7.endd) (.inr (.inr ⟨rfl, _, sh, told, steps, used, res, kept, .ref p7, L7.setW used _ res (.ref p7), Stop.of at_ rfl ((dat_tup (K := K) (l := [.str (Str.ofString "starved")]) (SqT.of upd_same) (dats_cons dat_str dats_nil)).chg L7.endd)⟩))
      · rw [if_neg (by intro z; exact hu (Int.ofNat.inj (V.int.inj z)))]
        have hlt : used < I.length := by omega
        have hex : exec G I (mkC sh n (some p) kept tg rest told steps used) ⟨n, some p, kept, tg⟩ rest p (.ask mm) = mkC (stSh G mm (I.getD used 0) sh) n (nextOf pr.body p) (stKe G mm (I.getD used 0) kept) tg rest told steps (used + 1) := by
          simp only [exec]; rw [if_neg (by show ¬ I.length ≤ used; omega), ← adv_mk S.hp]
          show adv G { store G (mkC sh n (some p) kept tg rest told steps used) ⟨n, some p, kept, tg⟩ rest mm (I.getD used 0) with used := used + 1 } = _
          rw [store_mk]; rfl
        rw [hex] at at_
        cases dat_str_inv h2
        refine ixT h04 (v := .str mm) rfl ?_
        refine dgI L4.L.wd rfl (dgI L4.L.wd rfl (ixT hin (v := .int (I.getD used 0)) (atI_nat (by rw [List.getElem?_map, List.getD_eq_getElem?_getD, List.getElem?_eq_getElem hlt]; rfl)) ?_))
        refine ⟨Hs, G, I, lim, A, n, own, sh, told, steps, used, _, res, e, kept, mm, _, rfl, L4, hok, fun H5 c5 L5 => ?_⟩
        walk_at "a11"
        refine dgI L5.L.wd rfl ⟨_, rfl, dpI L5.L.wd (by exact (sz' (by decide) : 11 < sizeLine)) ?_⟩
        exact k "" _ ((c14.trans c5).trans L5.endd) (.inl ⟨rfl, _, told, steps, used + 1, res, _, L5.setW (used + 1) _ res e, at_, by omega⟩)
    | tell ex =>
      obtain ⟨tp, xs, rfl, h0, g⟩ := DatAt.tup_inv hd
      obtain ⟨x0, r, rfl, h1, g⟩ := g.cons_inv
      obtain ⟨x1, r, rfl, h2, g⟩ := g.cons_inv
      cases g.nil_inv
      cases dat_str_inv h1
      walk_at "a10"
      have c1 := Chg.new (L := []) (o := .tup [V.str (Str.ofString "if"), V.str (Str.ofString "while")]) hpp
      have hst1 := c1.sqT hst
      refine ⟨⟨_, hst1⟩, lcT hst1 (fun i acc H => acc = (p.take i).map (fun n => V.str (numT n))) (by rw [List.take_zero]; rfl) (fun i acc L H H' _ z => z) (fun i acc H z => by
        rw [z, List.length_map, List.length_take]; have := hpb.len; exact sz' (by omega)) ?_ ?_⟩
      · intro i x H2 acc N' N2 hx c w k1 k2
        obtain ⟨m2, hm2, rfl⟩ := ints_at hx
        walk_at "a11"
        refine ⟨log_small (hpb.lt m2 (List.mem_of_getElem? hm2)), k1 _ _ Chg.refl ?_⟩
        rw [w, take_succ hm2, List.map_append]; rfl
      intro D H2 acc hD c2 hacc w
      rw [List.length_map, List.take_length] at w
      subst w
      have c12 := c1.trans c2
      walk_at "a11"
      refine ⟨p.map numT, .inl (SqL.of (by rw [List.map_map]; exact hacc)), sum_len hpb, ?_⟩
      refine tick_use S (R.chg c12) hs (fun H4 c4 st4 => ?_) (fun H4 c4 T4 => ?_)
      · walk_at "a11"
        exact k "stop" _ (c12.of0.trans c4) (.inr (.inr ⟨rfl, st4⟩))
      have c14 := c12.of0.trans c4
      have h04 := c14.sqT h0
      have hd4 := hd.chg c14
      walk_at "a10"
      have c5 := Chg.new (L := []) (o := .tup [V.str (Str.ofString "check"), V.str (Str.ofString "need")]) hpp
      exact ⟨Hs, G, I, lim, A, n, own, tg, rest, e, p, _, pr, _, m + 1, rfl, S, T4.chg c5, hs, hd4.chg c5, rfl, fun w H' c po => k w H' ((c14.trans c5.of0).trans c) (po.mono (by omega))⟩
    | chk cb =>
      obtain ⟨tp, xs, rfl, h0, g⟩ := DatAt.tup_inv hd
      obtain ⟨x0, r, rfl, h1, g⟩ := g.cons_inv
      obtain ⟨x1, r, rfl, h2, g⟩ := g.cons_inv
      cases g.nil_inv
      cases dat_str_inv h1
      walk_at "a10"
      have c1 := Chg.new (L := []) (o := .tup [V.str (Str.ofString "if"), V.str (Str.ofString "while")]) hpp
      have hst1 := c1.sqT hst
      refine ⟨⟨_, hst1⟩, lcT hst1 (fun i acc H => acc = (p.take i).map (fun n => V.str (numT n))) (by rw [List.take_zero]; rfl) (fun i acc L H H' _ z => z) (fun i acc H z => by
        rw [z, List.length_map, List.length_take]; have := hpb.len; exact sz' (by omega)) ?_ ?_⟩
      · intro i x H2 acc N' N2 hx c w k1 k2
        obtain ⟨m2, hm2, rfl⟩ := ints_at hx
        walk_at "a11"
        refine ⟨log_small (hpb.lt m2 (List.mem_of_getElem? hm2)), k1 _ _ Chg.refl ?_⟩
        rw [w, take_succ hm2, List.map_append]; rfl
      intro D H2 acc hD c2 hacc w
      rw [List.length_map, List.take_length] at w
      subst w
      have c12 := c1.trans c2
      walk_at "a11"
      refine ⟨p.map numT, .inl (SqL.of (by rw [List.map_map]; exact hacc)), sum_len hpb, ?_⟩
      refine tick_use S (R.chg c12) hs (fun H4 c4 st4 => ?_) (fun H4 c4 T4 => ?_)
      · walk_at "a11"
        exact k "stop" _ (c12.of0.trans c4) (.inr (.inr ⟨rfl, st4⟩))
      have c14 := c12.of0.trans c4
      have h04 := c14.sqT h0
      have hd4 := hd.chg c14
      walk_at "a10"
      have c5 := Chg.new (L := []) (o := .tup [V.str (Str.ofString "check"), V.str (Str.ofString "need")]) hpp
      obtain ⟨sh, told, steps, used, res, kept, L4, hz, ht, ok, at_⟩ := T4.chg c5
      have hlk := ok.look (f := ⟨n, some p, kept, tg⟩) (r := rest) rfl
      have h05 := c5.sqT h04
      have c15 := c14.trans c5.of0
      refine ⟨Hs, G, I, lim, A, n, own, sh, told, steps, used, _, res, e, kept, rfl, L4, fun d H5 c6 hk => ?_⟩
      have c16 := c15.trans c6.of0
      have L5 := L4.chg c6
      have h06 := c6.sqT h05
      walk_at "a11"
      refine ⟨d, _, _, _, cb, rfl, hk, h2.chg c16, hok.1, hok.2, hlk, fun H6 c7 => ?_⟩
      have c17 := c16.trans c7.of0
      have L6 := L5.chg c7
      have h07 := c7.sqT h06
      cases hev : hold (look G sh kept) cb with
      | error kd =>
        simp only [resB]
        have hex : exec G I (mkC sh n (some p) kept tg rest told steps used) ⟨n, some p, kept, tg⟩ rest p (.chk cb) = fail (mkC sh n (some p) kept tg rest told steps used) ⟨n, some p, kept, tg⟩ kd := by
          simp only [exec]; rw [show look G (mkC sh n (some p) kept tg rest told steps used).sh kept = look G sh kept from rfl, hev]
        rw [hex] at at_
        walk_at "a11"
        refine ⟨Hs, G, I, lim, A, n, own, sh, told, steps, used, _, res, e, kept, n, pathT p, kd, rfl, L6, fun H7 e7 c8 L7 d7 => ?_⟩
        exact k "stop" _ (c17.trans c8) (.inr (.inr ⟨rfl, _, sh, told, steps, used, res, kept, e7, L7, Stop.of at_ rfl d7⟩))
      | ok t =>
        simp only [resB]
        cases t with
        | true =>
          have hex : exec G I (mkC sh n (some p) kept tg rest told steps used) ⟨n, some p, kept, tg⟩ rest p (.chk cb) = mkC sh n (nextOf pr.body p) kept tg rest told steps used := by
            simp only [exec]; rw [show look G (mkC sh n (some p) kept tg rest told steps used).sh kept = look G sh kept from rfl, hev, ← adv_mk S.hp]; rfl
          rw [hex] at at_
          walk_at "a11"
          exact k "" _ c17 (.inl ⟨rfl, sh, told, steps, used, res, kept, L6, at_, by omega⟩)
        | false =>
          have hex : exec G I (mkC sh n (some p) kept tg rest told steps used) ⟨n, some p, kept, tg⟩ rest p (.chk cb) = fail (mkC sh n (some p) kept tg rest told steps used) ⟨n, some p, kept, tg⟩ "check" := by
            simp only [exec]; rw [show look G (mkC sh n (some p) kept tg rest told steps used).sh kept = look G sh kept from rfl, hev]; rfl
          rw [hex] at at_
          walk_at "a11"
          refine ⟨Hs, G, I, lim, A, n, own, sh, told, steps, used, _, res, e, kept, n, pathT p, _, rfl, L6, fun H7 e7 c8 L7 d7 => ?_⟩
          exact k "stop" _ (c17.trans c8) (.inr (.inr ⟨rfl, _, sh, told, steps, used, res, kept, e7, L7, Stop.of at_ rfl d7⟩))
    | need cb =>
      obtain ⟨tp, xs, rfl, h0, g⟩ := DatAt.tup_inv hd
      obtain ⟨x0, r, rfl, h1, g⟩ := g.cons_inv
      obtain ⟨x1, r, rfl, h2, g⟩ := g.cons_inv
      cases g.nil_inv
      cases dat_str_inv h1
      walk_at "a10"
      have c1 := Chg.new (L := []) (o := .tup [V.str (Str.ofString "if"), V.str (Str.ofString "while")]) hpp
      have hst1 := c1.sqT hst
      refine ⟨⟨_, hst1⟩, lcT hst1 (fun i acc H => acc = (p.take i).map (fun n => V.str (numT n))) (by rw [List.take_zero]; rfl) (fun i acc L H H' _ z => z) (fun i acc H z => by
        rw [z, List.length_map, List.length_take]; have := hpb.len; exact sz' (by omega)) ?_ ?_⟩
      · intro i x H2 acc N' N2 hx c w k1 k2
        obtain ⟨m2, hm2, rfl⟩ := ints_at hx
        walk_at "a11"
        refine ⟨log_small (hpb.lt m2 (List.mem_of_getElem? hm2)), k1 _ _ Chg.refl ?_⟩
        rw [w, take_succ hm2, List.map_append]; rfl
      intro D H2 acc hD c2 hacc w
      rw [List.length_map, List.take_length] at w
      subst w
      have c12 := c1.trans c2
      walk_at "a11"
      refine ⟨p.map numT, .inl (SqL.of (by rw [List.map_map]; exact hacc)), sum_len hpb, ?_⟩
      refine tick_use S (R.chg c12) hs (fun H4 c4 st4 => ?_) (fun H4 c4 T4 => ?_)
      · walk_at "a11"
        exact k "stop" _ (c12.of0.trans c4) (.inr (.inr ⟨rfl, st4⟩))
      have c14 := c12.of0.trans c4
      have h04 := c14.sqT h0
      have hd4 := hd.chg c14
      walk_at "a10"
      have c5 := Chg.new (L := []) (o := .tup [V.str (Str.ofString "check"), V.str (Str.ofString "need")]) hpp
      obtain ⟨sh, told, steps, used, res, kept, L4, hz, ht, ok, at_⟩ := T4.chg c5
      have hlk := ok.look (f := ⟨n, some p, kept, tg⟩) (r := rest) rfl
      have h05 := c5.sqT h04
      have c15 := c14.trans c5.of0
      refine ⟨Hs, G, I, lim, A, n, own, sh, told, steps, used, _, res, e, kept, rfl, L4, fun d H5 c6 hk => ?_⟩
      have c16 := c15.trans c6.of0
      have L5 := L4.chg c6
      have h06 := c6.sqT h05
      walk_at "a11"
      refine ⟨d, _, _, _, cb, rfl, hk, h2.chg c16, hok.1, hok.2, hlk, fun H6 c7 => ?_⟩
      have c17 := c16.trans c7.of0
      have L6 := L5.chg c7
      have h07 := c7.sqT h06
      cases hev : hold (look G sh kept) cb with
      | error kd =>
        simp only [resB]
        have hex : exec G I (mkC sh n (some p) kept tg rest told steps used) ⟨n, some p, kept, tg⟩ rest p (.need cb) = fail (mkC sh n (some p) kept tg rest told steps used) ⟨n, some p, kept, tg⟩ kd := by
          simp only [exec]; rw [show look G (mkC sh n (some p) kept tg rest told steps used).sh kept = look G sh kept from rfl, hev]
        rw [hex] at at_
        walk_at "a11"
        refine ⟨Hs, G, I, lim, A, n, own, sh, told, steps, used, _, res, e, kept, n, pathT p, kd, rfl, L6, fun H7 e7 c8 L7 d7 => ?_⟩
        exact k "stop" _ (c17.trans c8) (.inr (.inr ⟨rfl, _, sh, told, steps, used, res, kept, e7, L7, Stop.of at_ rfl d7⟩))
      | ok t =>
        simp only [resB]
        cases t with
        | true =>
          have hex : exec G I (mkC sh n (some p) kept tg rest told steps used) ⟨n, some p, kept, tg⟩ rest p (.need cb) = mkC sh n (nextOf pr.body p) kept tg rest told steps used := by
            simp only [exec]; rw [show look G (mkC sh n (some p) kept tg rest told steps used).sh kept = look G sh kept from rfl, hev, ← adv_mk S.hp]; rfl
          rw [hex] at at_
          walk_at "a11"
          exact k "" _ c17 (.inl ⟨rfl, sh, told, steps, used, res, kept, L6, at_, by omega⟩)
        | false =>
          have hex : exec G I (mkC sh n (some p) kept tg rest told steps used) ⟨n, some p, kept, tg⟩ rest p (.need cb) = { mkC sh n (some p) kept tg rest told steps used with ending := some (.tup [.str "halted"]) } := by
            simp only [exec]; rw [show look G (mkC sh n (some p) kept tg rest told steps used).sh kept = look G sh kept from rfl, hev]; rfl
          rw [hex] at at_
          walk_at "a11"
          have c8 := Chg.new (L := []) (o := .tup [V.str (Str.ofString "halted")]) hpp
          have L7 := L6.chg c8
          refine dpI L7.L.wd (by exact (sz' (by decide) : 11 < sizeLine)) ?_
          walk_at "a11"
          exact k "stop" _ ((c17.trans c8.of0).trans L7.endd) (.inr (.inr ⟨rfl, _, sh, told, steps, used, res, kept, .ref pp, L7.setW used _ res (.ref pp), Stop.of at_ rfl ((dat_tup (K := K) (l := [.str (Str.ofString "halted")]) (SqT.of upd_same) (dats_cons dat_str dats_nil)).chg L7.endd)⟩))
    | ret ex =>
      obtain ⟨tp, xs, rfl, h0, g⟩ := DatAt.tup_inv hd
      obtain ⟨x0, r, rfl, h1, g⟩ := g.cons_inv
      obtain ⟨x1, r, rfl, h2, g⟩ := g.cons_inv
      cases g.nil_inv
      cases dat_str_inv h1
      walk_at "a10"
      have c1 := Chg.new (L := []) (o := .tup [V.str (Str.ofString "if"), V.str (Str.ofString "while")]) hpp
      have hst1 := c1.sqT hst
      refine ⟨⟨_, hst1⟩, lcT hst1 (fun i acc H => acc = (p.take i).map (fun n => V.str (numT n))) (by rw [List.take_zero]; rfl) (fun i acc L H H' _ z => z) (fun i acc H z => by
        rw [z, List.length_map, List.length_take]; have := hpb.len; exact sz' (by omega)) ?_ ?_⟩
      · intro i x H2 acc N' N2 hx c w k1 k2
        obtain ⟨m2, hm2, rfl⟩ := ints_at hx
        walk_at "a11"
        refine ⟨log_small (hpb.lt m2 (List.mem_of_getElem? hm2)), k1 _ _ Chg.refl ?_⟩
        rw [w, take_succ hm2, List.map_append]; rfl
      intro D H2 acc hD c2 hacc w
      rw [List.length_map, List.take_length] at w
      subst w
      have c12 := c1.trans c2
      walk_at "a11"
      refine ⟨p.map numT, .inl (SqL.of (by rw [List.map_map]; exact hacc)), sum_len hpb, ?_⟩
      refine tick_use S (R.chg c12) hs (fun H4 c4 st4 => ?_) (fun H4 c4 T4 => ?_)
      · walk_at "a11"
        exact k "stop" _ (c12.of0.trans c4) (.inr (.inr ⟨rfl, st4⟩))
      have c14 := c12.of0.trans c4
      have h04 := c14.sqT h0
      have hd4 := hd.chg c14
      walk_at "a10"
      have c5 := Chg.new (L := []) (o := .tup [V.str (Str.ofString "check"), V.str (Str.ofString "need")]) hpp
      exact ⟨Hs, G, I, lim, A, n, own, tg, rest, e, p, _, pr, _, m + 1, rfl, S, T4.chg c5, hs, hd4.chg c5, rfl, fun w H' c po => k w H' ((c14.trans c5.of0).trans c) (po.mono (by omega))⟩
    | ite cb x y =>
      obtain ⟨tp, xs, rfl, h0, g⟩ := DatAt.tup_inv hd
      obtain ⟨x0, r, rfl, h1, g⟩ := g.cons_inv
      obtain ⟨x1, r, rfl, h2, g⟩ := g.cons_inv
      obtain ⟨x2, r, rfl, h3, g⟩ := g.cons_inv
      obtain ⟨x3, r, rfl, h4, g⟩ := g.cons_inv
      cases g.nil_inv
      cases dat_str_inv h1
      walk_at "a10"
      have c1 := Chg.new (L := []) (o := .tup [V.str (Str.ofString "if"), V.str (Str.ofString "while")]) hpp
      exact ⟨Hs, G, I, lim, A, n, own, tg, rest, e, pr, _, m, p, _, st, rfl, S, R.chg c1, hs, rfl, hd.chg c1, c1.sqT hst, hm, fun w H' c po => k w H' (c1.of0.trans c) po⟩
    | whl cb x =>
      obtain ⟨tp, xs, rfl, h0, g⟩ := DatAt.tup_inv hd
      obtain ⟨x0, r, rfl, h1, g⟩ := g.cons_inv
      obtain ⟨x1, r, rfl, h2, g⟩ := g.cons_inv
      obtain ⟨x2, r, rfl, h3, g⟩ := g.cons_inv
      cases g.nil_inv
      cases dat_str_inv h1
      walk_at "a10"
      have c1 := Chg.new (L := []) (o := .tup [V.str (Str.ofString "if"), V.str (Str.ofString "while")]) hpp
      exact ⟨Hs, G, I, lim, A, n, own, tg, rest, e, pr, _, m, p, _, st, rfl, S, R.chg c1, hs, rfl, hd.chg c1, c1.sqT hst, hm, fun w H' c po => k w H' (c1.of0.trans c) po⟩
    | call pn es t =>
      obtain ⟨tp, xs, rfl, h0, g⟩ := DatAt.tup_inv hd
      obtain ⟨x0, r, rfl, h1, g⟩ := g.cons_inv
      obtain ⟨x1, r, rfl, h2, g⟩ := g.cons_inv
      obtain ⟨x2, r, rfl, h3, g⟩ := g.cons_inv
      obtain ⟨x3, r, rfl, h4, g⟩ := g.cons_inv
      cases g.nil_inv
      cases dat_str_inv h1
      walk_at "a10"
      have c1 := Chg.new (L := []) (o := .tup [V.str (Str.ofString "if"), V.str (Str.ofString "while")]) hpp
      have hst1 := c1.sqT hst
      refine ⟨⟨_, hst1⟩, lcT hst1 (fun i acc H => acc = (p.take i).map (fun n => V.str (numT n))) (by rw [List.take_zero]; rfl) (fun i acc L H H' _ z => z) (fun i acc H z => by
        rw [z, List.length_map, List.length_take]; have := hpb.len; exact sz' (by omega)) ?_ ?_⟩
      · intro i x H2 acc N' N2 hx c w k1 k2
        obtain ⟨m2, hm2, rfl⟩ := ints_at hx
        walk_at "a11"
        refine ⟨log_small (hpb.lt m2 (List.mem_of_getElem? hm2)), k1 _ _ Chg.refl ?_⟩
        rw [w, take_succ hm2, List.map_append]; rfl
      intro D H2 acc hD c2 hacc w
      rw [List.length_map, List.take_length] at w
      subst w
      have c12 := c1.trans c2
      walk_at "a11"
      refine ⟨p.map numT, .inl (SqL.of (by rw [List.map_map]; exact hacc)), sum_len hpb, ?_⟩
      refine tick_use S (R.chg c12) hs (fun H4 c4 st4 => ?_) (fun H4 c4 T4 => ?_)
      · walk_at "a11"
        exact k "stop" _ (c12.of0.trans c4) (.inr (.inr ⟨rfl, st4⟩))
      have c14 := c12.of0.trans c4
      have h04 := c14.sqT h0
      have hd4 := hd.chg c14
      walk_at "a11"
      exact ⟨Hs, G, I, lim, A, n, own, tg, rest, e, pr, _, m + 1, p, _, rfl, S, T4, hs, rfl, hd4, hN, fun w H' c po => k w H' (c14.trans c) (po.mono (by omega))⟩
end
end Cc
set_option maxRecDepth 100000
set_option maxHeartbeats 4000000
/-! the law: call_run, procedure_run -/
namespace Cc
open PySem PySem.Spec PyProof.Rows L2
theorem Chg.drop {M : List Addr} {H H' : Hp} {p : Addr} (c : Chg (p :: M) H H') (n : H p = none) : Chg M H H' := ⟨fun b o e m nb => c.keep b o e m (fun z => (List.mem_cons.mp z).elim (fun q => by rw [q, n] at e; cases e) nb), c.tups, c.frzs, c.tabs, c.dom⟩
theorem mergeK_keys : ∀ (more kvs : List (Key × V)), (kvs.map (·.1)).Nodup → ((mergeK kvs more).map (·.1)).Nodup
  | [], kvs, h => h
  | p :: r, kvs, h => mergeK_keys r (putK kvs p.1 p.2) (putK_keys h)
theorem zero_keys : ∀ (l : List Str) (kvs : List (Key × V)), (kvs.map (·.1)).Nodup → ((l.foldl (fun acc n => putK acc (Sum.inr n) (V.int 0)) kvs).map (·.1)).Nodup
  | [], kvs, h => h
  | x :: r, kvs, h => zero_keys r _ (putK_keys h)
theorem scs60 : FnScope ["_law_world", "_law_name", "_law_values", "_law_procedure_here", "_law_own", "_law_one", "_law_k", "_law_signal", "_law_row"] ["_law_world", "_law_name", "_law_values"] (defScope (dst 60)) := ⟨rfl, rfl, rfl, by decide +kernel, rfl, by decide +kernel, by decide +kernel⟩
/-- what the world is between the procedures -/
structure SP (K : PySem.W.Frag) (Hs : Hp) (G : Pg) (I : List Int) (lim : Nat) (A : LA) (pn : Str) (pr : Pr) (rest : List Fr) : Prop where
  F : LFix K Hs G I A
  hp : procOf G pn = some pr
  W : WF G
  hi : ∀ i ∈ I, Sml i
  hl : lim ≤ 300
  hr : rest.length ≤ 11
def PostP (K : PySem.W.Frag) (Hs H : Hp) (G : Pg) (I : List Int) (lim : Nat) (A : LA) (pn : Str) (tg : Option Str) (rest : List Fr) (e : V) (m : Nat) (w : Str) : Prop :=
  (w = "" ∧ ∃ sh told steps used res kept, LX K Hs H G lim A sh told steps used rest.length res e ∧ At G I lim (leave G res (mkC sh pn none kept tg rest told steps used)) ∧ m ≤ steps.length) ∨ (w = "stop" ∧ ∃ sh told steps used opn res e', LX K Hs H G lim A sh told steps used opn res e' ∧ Stop K H G I lim told steps e')
def sp60 (K : PySem.W.Frag) (N : Nat) : Sp := fun vs H Q _ => ∃ (Hs : Hp) (G : Pg) (I : List Int) (lim : Nat) (A : LA) (pn : Str) (pr : Pr) (tg : Option Str) (rest : List Fr) (e : V) (m : Nat) (vl : Addr) (vals : List Int) (sh : Sto) (told : List Int) (steps : List D) (used : Nat) (res : Int), vs = [.ref A.wd, .str pn, .ref vl] ∧ SP K Hs G I lim A pn pr rest ∧ LX K Hs H G lim A sh told steps used rest.length res e ∧ At G I lim ⟨sh, frameOf G pn vals tg :: rest, told, steps, used, none⟩ ∧ m ≤ steps.length ∧ SqL K H vl (vals.map V.int) ∧ Hs vl = none ∧ vl ∉ lmut A ∧ vals.length = pr.params.length ∧ (12 - rest.length) * 3 + depB pr.body < N ∧
  ∀ w H', Chg (lmut A) H H' → PostP K Hs H' G I lim A pn tg rest e m w → Q (.str w) H'
section
variable {P : Program} {w : World} {K : PySem.W.Frag} {mg : Str → Option Value} {base : Heap} {a : Nat → Addr} {fd : Nat → FuncData}
theorem ok60s (T : Tx P K mg base a fd) (N : Nat) (G57 : FnOk P w K mg base CX0 (4 * N + 30) (a 57) (fd 57) ["_law_world", "_law_name", "_law_block_here", "_law_start", "_law_own"] (sp57 K N)) : FnOk P w K mg base CX0 (4 * N + 31) (a 60) (fd 60) ["_law_world", "_law_name", "_law_values"] (sp60 K N) := by
  refine T.D60.fn.ok scs60 (fun vs H Q E h => ?_) (fun cdv A outer s H vs Q E hr h => ⟨_, (pss_cons (ps_set (i := 3) scs60.nd rfl (Or.inl rfl) (pe_ix (ixLK (K := K) rfl) (pe_lc (own := [("_law_row", 8)]) (g := gName 8) (by rfl) scs60.nd (pi_tup (pe_dget (hu_of hr) (pv 0) pe_str (fun _ _ => rfl))) (blkOk_by (own := [("_law_row", 8)]) (N := ["_law_world", "_law_name", "_law_values", "_law_procedure_here", "_law_own", "_law_one", "_law_k", "_law_signal", "_law_row"]) (sc := (defScope (dst 60))) (by decide +kernel)) (fun _ _ _ _ _ => (pg_name (i := 8) scs60.nd rfl (Or.inl rfl))) (fun _ _ _ _ _ => (pts_one (pt_cmpR op_eq (pe_ix (ixTK (K := K) rfl) (pv 8) pe_int (fun _ _ => rfl)) (pv 1) (nomark _)))) (fun _ _ _ _ _ => (pv 8))) pe_int (fun _ _ => rfl)))
      (pss_cons (ps_set (i := 4) scs60.nd rfl (Or.inl rfl) pe_dnewK)
      (pss_cons (ps_for PassesOwn.never rfl (pi_list (pe_slice sl_list (pe_dget (hu_of hr) (pe_dget (hu_of hr) (pv 0) pe_str (fun _ _ => rfl)) (pv 1) (fun _ _ => rfl)) (po_some (pe_callB call_lenD (by rfl) T.n_len PyProof.Rows.Boot.«len» (pa_cons (pe_dget (hu_of hr) (pv 0) pe_str (fun _ _ => rfl)) pa_nil))) po_none)) (pg_name (i := 5) scs60.nd rfl (Or.inl rfl)) (pss_one (ps_dput (hu_of hr) (pv 4) (pv 5) pe_int rfl)))
      (pss_cons (ps_for PassesOwn.never rfl (pi_range1 (by rfl) T.n_range (pa_cons (pe_callB call_len_seq (by rfl) T.n_len PyProof.Rows.Boot.«len» (pa_cons (pv 2) pa_nil)) pa_nil)) (pg_name (i := 6) scs60.nd rfl (Or.inl rfl)) (pss_one (ps_dput (hu_of hr) (pv 4) (pe_ix (ixTK (K := K) rfl) (pe_ix (ixTK (K := K) rfl) (pv 3) pe_int (fun _ _ => rfl)) (pv 6) (fun _ _ => rfl)) (pe_ix (ixLK (K := K) rfl) (pv 2) (pv 6) (fun _ _ => rfl)) rfl)))
      (pss_cons (ps_dput (hu_of hr) (pv 0) pe_str (pe_op op_add (pe_dget (hu_of hr) (pv 0) pe_str (fun _ _ => rfl)) pe_int) rfl)
      (pss_cons (ps_dput (hu_of hr) (pv 0) pe_str pe_int rfl)
      (pss_cons (ps_set (i := 7) scs60.nd rfl (Or.inl rfl) (pe_call G57 (hr.mono (by first | exact Nat.le_refl _ | decide | omega)) rfl T.D57.mg T.D57.kp T.D57.bd .nil pass0 (pa_cons (pv 0) (pa_cons (pv 1) (pa_cons (pe_ix (ixTK (K := K) rfl) (pv 3) pe_int (fun _ _ => rfl)) (pa_cons (pe_tup pa_nil) (pa_cons (pv 4) pa_nil)))))))
      (pss_cons (ps_dput (hu_of hr) (pv 0) pe_str (pe_op op_sub (pe_dget (hu_of hr) (pv 0) pe_str (fun _ _ => rfl)) pe_int) rfl)
      (pss_cons (ps_if (pt_cmpR op_eq (pv 7) pe_str (nomark _)) (pss_one (ps_dput (hu_of hr) (pv 0) pe_str pe_int rfl)) pss_nil)
      (pss_one (ps_ret (pe_ifExp (pt_cmpR op_eq (pv 7) pe_str (nomark _)) pe_str pe_str)))))))))))), ?_⟩)
  · obtain ⟨Hs, G, I, lim, A, pn, pr, tg, rest, e, m, vl, vals, sh, told, steps, used, res, rfl, _⟩ := h
    rfl
  · obtain ⟨Hs, G, I, lim, A, pn, pr, tg, rest, e, m, vl, vals, sh, told, steps, used, res, rfl, S, L, at_, hz, hvl, hvs, hvm, hlen, hN, k⟩ := h
    walk_at "a11"
    refine dgI L.wd rfl ?_
    obtain ⟨c, xs, hpv, hcs, hds⟩ := S.F.pv
    have hcs1 := L.c0.sqT hcs
    refine ⟨c, hpv, ⟨_, hcs1⟩, lcT hcs1 (fun i acc H => acc.length ≤ (G.procs.take i).length ∧ match (G.procs.take i).find? fun p => decide (p.name = pn) with
      | none => acc = []
      | some pq => ∃ x r, acc = x :: r ∧ DatAt K Hs pq.d x) ⟨Nat.le_refl _, rfl⟩ (fun i acc L H H' hc z => ⟨z.1, ?_⟩) (fun i acc H z => ?_) ?_ ?_⟩
    · have z2 := z.2
      cases hf : (G.procs.take i).find? fun p => decide (p.name = pn) with
      | none => rw [hf] at z2; exact z2
      | some pq =>
        rw [hf] at z2
        obtain ⟨x, r, h1, h2⟩ := z2
        exact ⟨x, r, h1, h2⟩
    · have h5 := z.1
      have h6 := S.W.few
      rw [List.length_take] at h5
      exact sz' (by omega)
    · intro i x H2 acc N' N2 hx c2 w k1 k2
      obtain ⟨pq, hpq, hdq⟩ := procs_at hds hx
      have hd2 := (hdq.chg L.c0).chg c2
      obtain ⟨p4, b4, c4', xs4, rfl, h40, h41, h42, g4⟩ := pr_at hd2
      have w1 := w.1
      have w2 := w.2
      walk_at "a11"
      by_cases hn : pq.name = pn
      · rw [if_pos hn]
        refine k1 _ _ Chg.refl ⟨by rw [take_succ hpq, List.length_append, List.length_append]; exact Nat.add_le_add_right w1 1, ?_⟩
        rw [take_succ hpq, List.find?_append]
        cases hf : (G.procs.take i).find? fun p => decide (p.name = pn) with
        | none =>
          rw [hf] at w2
          rw [w2, Option.none_or, List.find?_cons, decide_eq_true hn]
          exact ⟨_, _, rfl, hdq⟩
        | some pz =>
          rw [hf] at w2
          obtain ⟨x, r, h1, h2⟩ := w2
          rw [h1]
          exact ⟨x, _, rfl, h2⟩
      · rw [if_neg hn]
        refine k2 _ Chg.refl ⟨by rw [take_succ hpq, List.length_append]; exact Nat.le_trans w1 (Nat.le_add_right _ _), ?_⟩
        rw [take_succ hpq, List.find?_append]
        cases hf : (G.procs.take i).find? fun p => decide (p.name = pn) with
        | none =>
          rw [hf] at w2
          rw [Option.none_or, List.find?_cons, decide_eq_false hn]
          exact w2
        | some pz =>
          rw [hf] at w2
          exact w2
    intro D H2 acc hD c2 hacc w
    have hlx := hds.len
    rw [List.length_map] at hlx
    rw [hlx, List.take_length] at w
    have w2 := w.2
    rw [show (G.procs.find? fun p => decide (p.name = pn)) = some pr from S.hp] at w2
    obtain ⟨x, r, rfl, hdx⟩ := w2
    refine ixL (SqL.of hacc) (v := x) (show atI (x :: r) ((0 : Nat) : Int) = some x from atI_nat rfl) ?_
    intro own hown
    have L2' := L.chg c2
    have c3 : Chg [] H2 (upd H2 own (.dK [])) := Chg.new hown
    have L3 := L2'.chg c3
    refine dgI L3.wd rfl ?_
    obtain ⟨okvs, hod, hord⟩ := S.F.od
    obtain ⟨t, ht, hts⟩ := hord pr (proc_mem S.hp)
    rw [proc_name S.hp] at ht hts
    refine dgI (L3.c0.get hod) ht ?_
    have hts3 := L3.c0.sqL hts
    obtain ⟨kv, hkv, rkv, rkn⟩ := L3.sh
    refine dgI L3.wd rfl ?_
    have hcut : cutV ((varsOf G pn).map V.str) (some (kv.length : Int)) none = (locOf G pn).map V.str := by
      have hd : ((varsOf G pn).map V.str).drop G.shared.length = (locOf G pn).map V.str := by
        unfold varsOf
        rw [List.map_append, List.drop_left' (by rw [List.length_map])]
      unfold cutV
      rw [HT.sIx_none, HT.sIx_nat, rkn, Nat.min_eq_left (by unfold varsOf; rw [List.length_map, List.length_append]; omega), List.take_of_length_le (by rw [List.length_drop]; omega), hd]
    refine ⟨_, rfl, kv, hkv, _, _, rfl, hts3, fun sl hsl => ?_⟩
    rw [hcut]
    have hoH : H own = none := c2.back hown
    have c4 : Chg [] H (upd (upd H2 own (.dK [])) sl (.lst ((locOf G pn).map V.str))) := (c2.trans c3).thenNew hsl
    have hso : sl ≠ own := fun z => by rw [z, upd_same] at hsl; cases hsl
    have hsH : H sl = none := (c2.trans c3).back hsl
    have hzl := len_loc S.W.b S.hp
    refine ⟨sl, rfl, ⟨_, SqL.of upd_same⟩, forL (xs := (locOf G pn).map V.str) (fun i σ H5 => (∃ o5, σ = [some (.ref A.wd), some (.str pn), some (.ref vl), some x, some (.ref own), o5, none, none, none]) ∧ Chg [] H H5 ∧ H5 sl = some (.lst ((locOf G pn).map V.str)) ∧ H5 own = some (.dK (((locOf G pn).take i).foldl (fun acc n => putK acc (Sum.inr n) (V.int 0)) []))) ⟨⟨_, rfl⟩, c4, upd_same, by rw [upd_ne (Ne.symm hso), upd_same]; rfl⟩ (fun i σ H5 _ z => SqL.of z.2.2.1) ?_ ?_⟩
    · rintro i y σ H5 hy ⟨⟨o5, rfl⟩, c5, hsl5, how5⟩
      obtain ⟨nm, hnm, rfl⟩ := strs_at hy
      walk_at "a11"
      have hz0 := zero_len ((locOf G pn).take i) []
      rw [List.length_take, List.length_nil] at hz0
      refine dpI how5 (sz' (Nat.le_trans hz0 (by omega))) ⟨c5.own hoH, by rw [upd_ne hso]; exact hsl5, ?_⟩
      rw [upd_same, take_succ hnm, List.foldl_append]; rfl
    rintro σ H5 ⟨⟨o5, rfl⟩, c5, hsl5, how5⟩
    rw [List.length_map, List.take_length] at how5
    obtain ⟨xp, xb, xc, xxs, rfl, hx0, hx1, hx2, hxg⟩ := pr_at hdx
    walk_at "a11"
    refine ⟨_, .inl (c5.sqL hvl), by omega, ?_, ?_⟩
    · have := (S.W.b.pr pr (proc_mem S.hp)).par
      rw [List.length_map]; omega
    refine forR (n := (vals.map V.int).length) (fun i σ H6 => (∃ o6, σ = [some (.ref A.wd), some (.str pn), some (.ref vl), some (.ref xp), some (.ref own), o5, o6, none, none]) ∧ Chg [] H H6 ∧ H6 own = some (.dK (mergeK ((locOf G pn).foldl (fun acc n => putK acc (Sum.inr n) (V.int 0)) []) (((pr.params.map Sum.inr).zip (vals.map V.int)).take i)))) ⟨⟨_, rfl⟩, c5, how5⟩ ?_ ?_
    · rintro i σ H6 hi ⟨⟨o6, rfl⟩, c6, how6⟩
      walk_at "a13"
      have hip : i < pr.params.length := by rw [List.length_map] at hi; omega
      have hiv : i < vals.length := by rw [List.length_map] at hi; exact hi
      have h6 := L.c0.trans c6
      have hz9 := length_mergeK (((pr.params.map Sum.inr).zip (vals.map V.int)).take i : List (Key × V)) ((locOf G pn).foldl (fun acc n => putK acc (Sum.inr n) (V.int 0)) [])
      have hz8 := zero_len (locOf G pn) []
      have hz7 := (S.W.b.pr pr (proc_mem S.hp)).par
      rw [List.length_take, List.length_zip, List.length_map, List.length_map] at hz9
      rw [List.length_nil] at hz8
      refine ixL (c6.sqL hvl) (v := .int vals[i]) (atI_nat (by rw [List.getElem?_map, List.getElem?_eq_getElem hiv]; rfl)) ?_
      refine ixT (h6.sqT hx0) (v := .ref xb) rfl ?_
      refine ixT (h6.sqT hx1) (v := .str pr.params[i]) (atI_nat (by rw [List.getElem?_map, List.getElem?_eq_getElem hip]; rfl)) ?_
      refine dpI how6 (sz' (Nat.le_trans hz9 (Nat.le_trans (Nat.add_le_add_right hz8 _) (by omega)))) ⟨c6.own hoH, ?_⟩
      rw [upd_same, take_succ (x := (Sum.inr pr.params[i], V.int vals[i])) (by rw [List.getElem?_zip_eq_some]; exact ⟨by rw [List.getElem?_map, List.getElem?_eq_getElem hip]; rfl, by rw [List.getElem?_map, List.getElem?_eq_getElem hiv]; rfl⟩)]
      unfold mergeK
      rw [List.foldl_append]; rfl
    rintro σ H6 ⟨⟨o6, rfl⟩, c6, how6⟩
    rw [List.take_of_length_le (by rw [List.length_zip, List.length_map, List.length_map]; omega)] at how6
    have own6 : Own (mergeK ((locOf G pn).foldl (fun acc n => putK acc (Sum.inr n) (V.int 0)) []) ((pr.params.map Sum.inr).zip (vals.map V.int))) (locOf G pn) (bindK pr.params vals zeroK) := by
      have hz9 := length_mergeK ((pr.params.map Sum.inr).zip (vals.map V.int) : List (Key × V)) ((locOf G pn).foldl (fun acc n => putK acc (Sum.inr n) (V.int 0)) [])
      have hz8 := zero_len (locOf G pn) []
      have hz7 := (S.W.b.pr pr (proc_mem S.hp)).par
      rw [List.length_zip, List.length_map, List.length_map] at hz9
      rw [List.length_nil] at hz8
      refine ⟨⟨Nat.le_trans hz9 (Nat.le_trans (Nat.add_le_add_right hz8 _) (by omega)), fun nm => ?_⟩, mergeK_keys _ _ (zero_keys _ _ List.nodup_nil)⟩
      refine rep_bind pr.params vals _ (locOf G pn) zeroK (fun m hm => par_loc (by rw [proc_params S.hp]; exact hm)) (fun m => ?_) nm
      rw [rep_zero]
      by_cases e : m ∈ locOf G pn
      · rw [if_pos e, if_pos e]; rfl
      · rw [if_neg e, if_neg e]; rfl
    have L6 := L.chg c6
    have hom : own ∉ lmut A := by
      obtain ⟨sv, hsv, _⟩ := L.sd
      obtain ⟨kv', hkv', _⟩ := L.sh
      simp only [lmut, List.mem_cons, List.not_mem_nil, or_false, not_or]
      exact ⟨Ne.symm (ne_of_none L.wd hoH), Ne.symm (ne_of_none L.td hoH), Ne.symm (ne_of_none hsv hoH), Ne.symm (ne_of_none hkv' hoH)⟩
    have how : own ≠ A.wd := fun z => hom (by rw [z]; simp [lmut])
    have L7 := L6.setW S.F used (rest.length + 1) res e
    have L8 := L7.setW S.F used (rest.length + 1) 0 e
    walk_at "a11"
    refine dgI L6.wd rfl ⟨_, rfl, dpI L6.wd (by exact (sz' (by decide) : 11 < sizeLine)) ?_⟩
    refine dpI L7.wd (by exact (sz' (by decide) : 11 < sizeLine)) ?_
    refine ixT (L8.c0.sqT hx0) (v := .ref xc) rfl ⟨by decide, fun p9 hp9 => ?_⟩
    have c9 : Chg [] (upd (upd H6 A.wd (.dK (wL A used lim (rest.length + 1) res e))) A.wd (.dK (wL A used lim (rest.length + 1) 0 e))) (upd (upd (upd H6 A.wd (.dK (wL A used lim (rest.length + 1) res e))) A.wd (.dK (wL A used lim (rest.length + 1) 0 e))) p9 (.tup [])) := Chg.new hp9
    have L9 := L8.chg c9
    have SS : SC K Hs G I lim A pn own pr rest := ⟨S.F, L.c0.back hoH, hom, S.hp, S.W, S.hi, S.hl, S.hr⟩
    have LO9 : LO K Hs _ G I lim A pn own sh told steps used (rest.length + 1) 0 e (bindK pr.params vals zeroK) := ⟨S.F, L9, ⟨_, c9.get (by rw [upd_ne how, upd_ne how]; exact how6), own6⟩, SS.of, hom, ⟨pr, S.hp⟩, S.W⟩
    have hfr : frameOf G pn vals tg = ⟨pn, entryB pr.body [] pr.body 0, bindK pr.params vals zeroK, tg⟩ := by
      unfold frameOf firstPlace entryB afterB
      rw [bodyOf_eq S.hp, proc_params S.hp]; rfl
    rw [hfr] at at_
    refine ⟨Hs, G, I, lim, A, pn, own, tg, rest, e, pr, _, m, [], pr.body, p9, rfl, SS, ⟨sh, told, steps, used, 0, _, LO9, at_, hz⟩, rfl, rfl, dat_tup (L9.c0.sqT hx2) (hxg.chg L9.c0), SqT.of upd_same, hN, fun w2 H10 c10 po => ?_⟩
    have cH : Chg (lmut A) H H10 := by
      have w1 : Chg (LM A own) H6 (upd H6 A.wd (.dK (wL A used lim (rest.length + 1) res e))) := (Chg.put (L := [A.wd]) L6.wd trivial (by simp)).mono (fun b hb => by rw [List.mem_singleton.mp hb]; simp [LM, lmut])
      have w2 : Chg (LM A own) _ (upd (upd H6 A.wd (.dK (wL A used lim (rest.length + 1) res e))) A.wd (.dK (wL A used lim (rest.length + 1) 0 e))) := (Chg.put (L := [A.wd]) L7.wd trivial (by simp)).mono (fun b hb => by rw [List.mem_singleton.mp hb]; simp [LM, lmut])
      exact ((((c6.of0.trans w1).trans w2).trans c9.of0).trans c10 : Chg (own :: lmut A) H H10).drop hoH
    have put1 : ∀ {Hx : Hp} {x y : HO}, Hx A.wd = some x → Plain x → Chg (lmut A) Hx (upd Hx A.wd y) := fun h pl => (Chg.put (L := [A.wd]) h pl (by simp)).mono (fun b hb => by rw [List.mem_singleton.mp hb]; simp [lmut])
    have hsub : ((rest.length : Int) + 1) - 1 = (rest.length : Int) := by omega
    rcases po with ⟨rfl, sh', told', steps', used', res', kept', La, r, hm⟩ | ⟨rfl, sh', told', steps', used', res', kept', La, r⟩ | ⟨rfl, op, sh', told', steps', used', res', kept', e', La, st⟩
    · have Lb := La.L.setW S.F used' rest.length res' e
      have Lc := Lb.setW S.F used' rest.length 0 e
      refine dgI La.L.wd rfl ⟨_, rfl, dpI La.L.wd (by exact (sz' (by decide) : 11 < sizeLine)) ?_⟩
      have r2 := At.out r
      rw [hsub]
      refine ⟨rfl, ?_⟩
      rw [if_pos rfl]
      refine dpI Lb.wd (by exact (sz' (by decide) : 11 < sizeLine)) ⟨rfl, ?_⟩
      rw [if_neg (by decide)]
      exact k "" _ ((cH.trans (put1 La.L.wd trivial)).trans (put1 Lb.wd trivial)) (.inl ⟨rfl, sh', told', steps', used', 0, kept', Lc, r2, hm⟩)
    · obtain ⟨r, hm⟩ := r
      have Lb := La.L.setW S.F used' rest.length res' e
      refine dgI La.L.wd rfl ⟨_, rfl, dpI La.L.wd (by exact (sz' (by decide) : 11 < sizeLine)) ?_⟩
      rw [hsub]
      refine ⟨rfl, ?_⟩
      rw [if_neg (by decide)]
      refine ⟨rfl, ?_⟩
      rw [if_neg (by decide)]
      exact k "" _ (cH.trans (put1 La.L.wd trivial)) (.inl ⟨rfl, sh', told', steps', used', res', kept', Lb, r, hm⟩)
    · have Lb := La.L.setW S.F used' (op - 1) res' e'
      refine dgI La.L.wd rfl ⟨_, rfl, dpI La.L.wd (by exact (sz' (by decide) : 11 < sizeLine)) ?_⟩
      refine ⟨rfl, ?_⟩
      rw [if_neg (by decide)]
      refine ⟨rfl, ?_⟩
      rw [if_pos rfl]
      exact k "stop" _ (cH.trans (put1 La.L.wd trivial)) (.inr ⟨rfl, sh', told', steps', used', op - 1, res', e', Lb, st.chg (put1 La.L.wd trivial)⟩)
end
end Cc
set_option maxRecDepth 100000
set_option maxHeartbeats 4000000
/-! the law: call_run -/
namespace Cc
open PySem PySem.Spec PyProof.Rows L2
theorem scs59 : FnScope ["_law_world", "_law_name", "_law_statement_here", "_law_place", "_law_own", "_law_values", "_law_expression_here", "_law_value_here", "_law_signal"] ["_law_world", "_law_name", "_law_statement_here", "_law_place", "_law_own"] (defScope (dst 59)) := ⟨rfl, rfl, rfl, by decide +kernel, rfl, by decide +kernel, by decide +kernel⟩
section
variable {P : Program} {w : World} {K : PySem.W.Frag} {mg : Str → Option Value} {base : Heap} {a : Nat → Addr} {fd : Nat → FuncData}
theorem ok59s (T : Tx P K mg base a fd) (N : Nat) (G60 : FnOk P w K mg base CX0 (4 * N + 31) (a 60) (fd 60) ["_law_world", "_law_name", "_law_values"] (sp60 K N)) : FnOk P w K mg base CX0 (4 * N + 32) (a 59) (fd 59) ["_law_world", "_law_name", "_law_statement_here", "_law_place", "_law_own"] (sp59 K N) := by
  refine T.D59.fn.ok scs59 (fun vs H Q E h => ?_) (fun cdv A outer s H vs Q E hr h => ⟨_, (pss_cons (ps_set (i := 5) scs59.nd rfl (Or.inl rfl) (pe_lst pa_nil))
      (pss_cons (ps_for PassesOwn.never rfl (pi_tup (pe_ix (ixTK (K := K) rfl) (pv 2) pe_int (fun _ _ => rfl))) (pg_name (i := 6) scs59.nd rfl (Or.inl rfl)) (pss_cons (ps_set (i := 7) scs59.nd rfl (Or.inl rfl) (pe_call (ok50 T 8) (hr.mono (by first | exact Nat.le_refl _ | decide | omega)) rfl T.D50.mg T.D50.kp T.D50.bd .nil pass0 (pa_cons (pe_call (ok53 T) (hr.mono (by first | exact Nat.le_refl _ | decide | omega)) rfl T.D53.mg T.D53.kp T.D53.bd .nil pass0 (pa_cons (pv 0) (pa_cons (pv 4) pa_nil))) (pa_cons (pv 6) pa_nil))))
      (pss_cons (ps_if (pt_val (pe_callB isiS (by rfl) T.n_isinstance PyProof.Rows.Boot.«isinstance» (pa_cons (pv 7) (pa_cons (pe_bltn (v := .ty "str") (by rfl) T.n_str PyProof.Rows.Boot.«str» rfl) pa_nil)))) (pss_one (ps_ret (pe_call (ok56 T) (hr.mono (by first | exact Nat.le_refl _ | decide | omega)) rfl T.D56.mg T.D56.kp T.D56.bd .nil pass0 (pa_cons (pv 0) (pa_cons (pv 1) (pa_cons (pv 3) (pa_cons (pv 7) pa_nil))))))) pss_nil)
      (pss_one (ps_expr (pe_bm PySem.F.plainAttrs_list PySem.F.slot_list_append PySem.F.type_list_append mt_append (pv 5) (pa_cons (pv 7) pa_nil)))))))
      (pss_cons (ps_if (pt_cmpR op_eq (pe_dget (hu_of hr) (pv 0) pe_str (fun _ _ => rfl)) pe_int (nomark _)) (pss_cons (ps_dput (hu_of hr) (pv 0) pe_str (pe_tup (pa_cons pe_str pa_nil)) rfl)
      (pss_one (ps_ret pe_str))) pss_nil)
      (pss_cons (ps_set (i := 8) scs59.nd rfl (Or.inl rfl) (pe_call G60 (hr.mono (by first | exact Nat.le_refl _ | decide | omega)) rfl T.D60.mg T.D60.kp T.D60.bd .nil pass0 (pa_cons (pv 0) (pa_cons (pe_ix (ixTK (K := K) rfl) (pv 2) pe_int (fun _ _ => rfl)) (pa_cons (pv 5) pa_nil)))))
      (pss_cons (ps_if (PW.pt (pw_and (pt_cmpR op_eq (pv 8) pe_str (nomark _)) (pw_and1 (pt_cmpR op_notN (pe_ix (ixTK (K := K) rfl) (pv 2) pe_int (fun _ _ => rfl)) pe_non (nomark _))))) (pss_one (ps_expr (pe_call (ok54 T) (hr.mono (by first | exact Nat.le_refl _ | decide | omega)) rfl T.D54.mg T.D54.kp T.D54.bd .nil pass0 (pa_cons (pv 0) (pa_cons (pv 4) (pa_cons (pe_ix (ixTK (K := K) rfl) (pv 2) pe_int (fun _ _ => rfl)) (pa_cons (pe_dget (hu_of hr) (pv 0) pe_str (fun _ _ => rfl)) pa_nil))))))) pss_nil)
      (pss_one (ps_ret (pv 8)))))))), ?_⟩)
  · obtain ⟨Hs, G, I, lim, A, n, own, tg, rest, e, pr, v, m, p, s, rfl, _⟩ := h
    rfl
  · obtain ⟨Hs, G, I, lim, A, n, own, tg, rest, e, pr, v, m, p, s, rfl, S, ⟨sh, told, steps, used, res, kept, L, hz, ht, ok, at_⟩, hs, hc, hd, hN, k⟩ := h
    have hok := S.W.okS S.hp hs
    have hlk := ok.look (f := ⟨n, some p, kept, tg⟩) (r := rest) rfl
    cases s with
    | call pn es t =>
      obtain ⟨tp, xs, rfl, h0, g⟩ := DatAt.tup_inv hd
      obtain ⟨x0, r, rfl, h1, g⟩ := g.cons_inv
      obtain ⟨x1, r, rfl, h2, g⟩ := g.cons_inv
      obtain ⟨x2, r, rfl, h3, g⟩ := g.cons_inv
      obtain ⟨x3, r, rfl, h4, g⟩ := g.cons_inv
      cases g.nil_inv
      cases dat_str_inv h1
      cases dat_str_inv h2
      obtain ⟨ep, exs, rfl, hep, hes⟩ := DatAt.tup_inv h3
      obtain ⟨⟨pq, hpq, hpl⟩, hev, htv⟩ := hok
      have hel := hes.len
      rw [List.length_map] at hel
      walk_at "a11"
      have c1 : Chg [] H (upd H pp (.lst [])) := Chg.new hpp
      refine ⟨⟨_, c1.sqT hep⟩, forT (xs := exs) (fun i σ H2 => (∃ o6 o7, σ = [some (.ref A.wd), some (.str n), some (.ref tp), some (.str (pathT p)), some (.ref own), some (.ref pp), o6, o7, none]) ∧ Chg [] H H2 ∧ ∃ vs, evs (look G sh kept) (es.take i) = .ok vs ∧ H2 pp = some (.lst (vs.map V.int))) ⟨⟨_, _, rfl⟩, c1, [], by rw [List.take_zero]; rfl, upd_same⟩ (fun i σ H2 _ z => z.2.1.sqT hep) ?_ ?_⟩
      · rintro i x σ H2 hx ⟨⟨o6, o7, rfl⟩, c2, vs, hvs, hpp2⟩
        have hi : i < es.length := by
          rcases Nat.lt_or_ge i exs.length with z | z
          · omega
          · rw [List.getElem?_eq_none z] at hx; cases hx
        have hei : es[i]? = some es[i] := List.getElem?_eq_getElem hi
        obtain ⟨xv, hxv, hdx⟩ := hes.get (i := i) (d := es[i].d) (by rw [List.getElem?_map, hei]; rfl)
        rw [hx] at hxv
        cases hxv
        walk_at "a11"
        refine ⟨Hs, G, I, lim, A, n, own, sh, told, steps, used, _, res, e, kept, rfl, L.chg c2, fun d H3 c3 hk => ?_⟩
        have c23 := c2.trans c3
        have hoe := hev es[i] (List.getElem_mem hi)
        walk_at "a11"
        refine ⟨d, _, _, _, es[i], rfl, hk, hdx.chg c23, hoe.1, hoe.2, hlk, fun H4 c4 => ?_⟩
        have c24 := c23.trans c4
        cases hevi : ev (look G sh kept) es[i] with
        | error kd =>
          simp only [resV]
          walk_at "a11"
          have hall : evs (look G sh kept) es = .error kd := by
            have z := evs_err (r := es.drop (i + 1)) hvs hevi
            rw [List.getElem_cons_drop, List.take_append_drop] at z
            exact z
          have hex : exec G I (mkC sh n (some p) kept tg rest told steps used) ⟨n, some p, kept, tg⟩ rest p (.call pn es t) = fail (mkC sh n (some p) kept tg rest told steps used) ⟨n, some p, kept, tg⟩ kd := by
            simp only [exec]; rw [show look G (mkC sh n (some p) kept tg rest told steps used).sh kept = look G sh kept from rfl, hall]
          rw [hex] at at_
          refine ⟨Hs, G, I, lim, A, n, own, sh, told, steps, used, _, res, e, kept, n, pathT p, kd, rfl, L.chg c24, fun H5 e5 c5 L5 d5 => ?_⟩
          exact k "stop" _ (c24.of0.trans c5) (.inr (.inr ⟨rfl, _, sh, told, steps, used, res, kept, e5, L5, Stop.of at_ rfl d5⟩))
        | ok iv =>
          simp only [resV]
          walk_at "a11"
          have hpp4 := (c3.trans c4).get hpp2
          have hvl := (evs_sml (V := varsOf G n) hlk (fun x hx => (hev x (List.mem_of_mem_take hx)).1) hvs).2
          have hpar := (S.W.b.pr pq (proc_mem hpq)).par
          refine ⟨.inl ⟨rfl, _, SqL.of hpp4⟩, _, hpp4, by rw [List.length_map, hvl, List.length_take]; exact sz' (by omega), c24.own hpp, vs ++ [iv], ?_, by rw [upd_same, List.map_append]; rfl⟩
          rw [take_succ hei]
          exact evs_snoc hvs hevi
      rintro σ H2 ⟨⟨o6, o7, rfl⟩, c2, vs, hvs, hpp2⟩
      walk_at "a11"
      rw [List.take_of_length_le (by omega)] at hvs
      have Lb := L.chg c2
      have hvl := evs_sml (V := varsOf G n) hlk (fun x hx => (hev x hx).1) hvs
      refine dgI Lb.L.wd rfl ⟨rfl, ?_⟩
      by_cases h12 : rest.length = 11
      · rw [if_pos (by show V.int ((rest.length : Int) + 1) = V.int 12; rw [h12]; rfl)]
        have hex : exec G I (mkC sh n (some p) kept tg rest told steps used) ⟨n, some p, kept, tg⟩ rest p (.call pn es t) = { mkC sh n (some p) kept tg rest told steps used with ending := some (.tup [.str "deep"]) } := by
          simp only [exec]; rw [show look G (mkC sh n (some p) kept tg rest told steps used).sh kept = look G sh kept from rfl, hvs]
          exact if_pos (by show 12 ≤ rest.length + 1; omega)
        rw [hex] at at_
        refine ⟨by decide, fun p7 hp7 => ?_⟩
        have c8 := Chg.new (L := []) (o := .tup [V.str (Str.ofString "deep")]) hp7
        have L7 := Lb.chg c8
        refine dpI L7.L.wd (by exact (sz' (by decide) : 11 < sizeLine)) ?_
        exact k "stop" _ ((c2.of0.trans c8.of0).trans L7.endd) (.inr (.inr ⟨rfl, _, sh, told, steps, used, res, kept, .ref p7, L7.setW used _ res (.ref p7), Stop.of at_ rfl ((dat_tup (K := K) (l := [.str (Str.ofString "deep")]) (SqT.of upd_same) (dats_cons dat_str dats_nil)).chg L7.endd)⟩))
      · rw [if_neg (by intro z; have z : (rest.length : Int) + 1 = 12 := V.int.inj z; omega)]
        have hex : exec G I (mkC sh n (some p) kept tg rest told steps used) ⟨n, some p, kept, tg⟩ rest p (.call pn es t) = ⟨sh, frameOf G pn vs t :: ⟨n, some p, kept, tg⟩ :: rest, told, steps, used, none⟩ := by
          simp only [exec]; rw [show look G (mkC sh n (some p) kept tg rest told steps used).sh kept = look G sh kept from rfl, hvs]
          exact if_neg (by show ¬ 12 ≤ rest.length + 1; have := S.hr; omega)
        rw [hex] at at_
        have hppm : pp ∉ lmut A := by
          obtain ⟨sv, hsv, _⟩ := L.L.sd
          obtain ⟨kv', hkv', _⟩ := L.L.sh
          simp only [lmut, List.mem_cons, List.not_mem_nil, or_false, not_or]
          exact ⟨Ne.symm (ne_of_none L.L.wd hpp), Ne.symm (ne_of_none L.L.td hpp), Ne.symm (ne_of_none hsv hpp), Ne.symm (ne_of_none hkv' hpp)⟩
        have hdq := S.W.d3 pq (proc_mem hpq)
        refine ixT (c2.sqT h0) (v := .str pn) rfl ?_
        refine ⟨Hs, G, I, lim, A, pn, pq, t, ⟨n, some p, kept, tg⟩ :: rest, e, m, pp, vs, sh, told, steps, used, res, rfl, ⟨S.F, hpq, S.W, S.hi, S.hl, by have := S.hr; show rest.length + 1 ≤ 11; omega⟩, Lb.L, at_, hz.2.1, SqL.of hpp2, L.L.c0.back hpp, hppm, by rw [hvl.2, hpl], by have := S.hr; show (12 - (rest.length + 1)) * 3 + _ < N; omega, fun w2 H5 c5 po => ?_⟩
        rcases po with ⟨rfl, sh', told', steps', used', res', kept', Lx, r, hm⟩ | ⟨rfl, sh', told', steps', used', op, res', e', Lx, st⟩
        · have LO5 : LO K Hs H5 G I lim A n own sh' told' steps' used' (rest.length + 1) res' e kept := by
            obtain ⟨kw, hkw, rkw⟩ := Lb.o
            exact ⟨S.F, Lx, ⟨kw, c5.keep _ _ hkw trivial L.om, rkw⟩, S.of, S.om, ⟨pr, S.hp⟩, S.W⟩
          have h45 := c5.sqT (c2.sqT h0)
          have c05 : Chg (LM A own) H H5 := c2.of0.trans (c5.mono fun b hb => List.mem_cons_of_mem _ hb)
          cases t with
          | none =>
            have r2 : At G I lim (adv G (mkC sh' n (some p) kept tg rest told' steps' used')) := r
            rw [adv_mk S.hp] at r2
            cases h4
            walk_at "a11"
            exact k "" _ c05 (.inl ⟨rfl, sh', told', steps', used', res', kept, LO5, r2, hm⟩)
          | some tt =>
            have r2 : At G I lim (adv G (store G (mkC sh' n (some p) kept tg rest told' steps' used') ⟨n, some p, kept, tg⟩ rest tt res')) := by
              have z : leave G res' (mkC sh' pn none kept' (some tt) (⟨n, some p, kept, tg⟩ :: rest) told' steps' used') = adv G (store G (mkC sh' n (some p) kept tg rest told' steps' used') ⟨n, some p, kept, tg⟩ rest tt res') := by
                rw [leave_some rfl rfl]
                unfold store mkC
                split <;> rfl
              rw [z] at r; exact r
            rw [store_mk, adv_mk S.hp] at r2
            cases h4
            walk_at "a11"
            refine dgI LO5.L.wd rfl ?_
            refine ⟨Hs, G, I, lim, A, n, own, sh', told', steps', used', _, res', e, kept, tt, res', rfl, LO5, htv tt rfl, fun H6 c6 L6 => ?_⟩
            exact k "" _ (c05.trans c6) (.inl ⟨rfl, _, _, _, _, _, _, L6, r2, hm⟩)
        · walk_at "a11"
          obtain ⟨kw, hkw, rkw⟩ := Lb.o
          exact k "stop" _ (c2.of0.trans (c5.mono fun b hb => List.mem_cons_of_mem _ hb)) (.inr (.inr ⟨rfl, op, sh', told', steps', used', res', kept, e', ⟨S.F, Lx, ⟨kw, c5.keep _ _ hkw trivial L.om, rkw⟩, S.of, S.om, ⟨pr, S.hp⟩, S.W⟩, st⟩))
    | _ => cases hc
end
end Cc
set_option maxRecDepth 100000
set_option maxHeartbeats 400000
/-! The law's functions call each other. -/
namespace Cc
open PySem PySem.Spec PyProof.Rows L2
section
variable {P : Program} {w : World} {K : PySem.W.Frag} {mg : Str → Option Value} {base : Heap} {a : Nat → Addr} {fd : Nat → FuncData}
theorem ok57 (T : Tx P K mg base a fd) : ∀ N : Nat, FnOk P w K mg base CX0 (4 * N + 30) (a 57) (fd 57) ["_law_world", "_law_name", "_law_block_here", "_law_start", "_law_own"] (sp57 K N)
  | 0 => (FnOk.never (ps := ["_law_world", "_law_name", "_law_block_here", "_law_start", "_law_own"])).imp fun vs H Q E h => by
    obtain ⟨Hs, G, I, lim, A, n, own, tg, rest, e, pr, v, m, q, b, st, _, _, _, _, _, _, _, z, _⟩ := h
    exact absurd z (Nat.not_lt_zero _)
  | N + 1 => ok57s T N (ok61s T N (ok58s T N (ok57 T N)) (ok59s T N (ok60s T N (ok57 T N))))
end
end Cc
set_option maxRecDepth 100000
set_option maxHeartbeats 4000000
/-! the law: blocks, all, targets, locals -/
namespace Cc
open PySem PySem.Spec PyProof.Rows L2
theorem scs44 : FnScope ["_law_statement_here"] ["_law_statement_here"] (defScope (dst 44)) := ⟨rfl, rfl, rfl, by decide +kernel, rfl, by decide +kernel, by decide +kernel⟩
def sp44 (K : PySem.W.Frag) : Sp := fun vs H Q _ => ∃ (v : V) (s : Sm), vs = [v] ∧ DatAt K H s.d v ∧ ∀ b xs H', Chg [] H H' → SqL K H' b xs → DatsAt K H' ((blocksOf s).map fun l => D.tup (smsD l)) xs → Q (.ref b) H'
section
variable {P : Program} {w : World} {K : PySem.W.Frag} {mg : Str → Option Value} {base : Heap} {a : Nat → Addr} {fd : Nat → FuncData}
theorem ok44 (T : Tx P K mg base a fd) : FnOk P w K mg base CX0 1 (a 44) (fd 44) ["_law_statement_here"] (sp44 K) := by
  refine T.D44.fn.ok scs44 (fun vs H Q E h => ?_) (fun cdv A outer s H vs Q E hr h => ⟨_, (pss_cons (ps_if (pt_cmpR op_eq (pe_ix (ixTK (K := K) rfl) (pv 0) pe_int (fun _ _ => rfl)) pe_str (nomark _)) (pss_one (ps_ret (pe_lst (pa_cons (pe_ix (ixTK (K := K) rfl) (pv 0) pe_int (fun _ _ => rfl)) (pa_cons (pe_ix (ixTK (K := K) rfl) (pv 0) pe_int (fun _ _ => rfl)) pa_nil))))) pss_nil)
      (pss_cons (ps_if (pt_cmpR op_eq (pe_ix (ixTK (K := K) rfl) (pv 0) pe_int (fun _ _ => rfl)) pe_str (nomark _)) (pss_one (ps_ret (pe_lst (pa_cons (pe_ix (ixTK (K := K) rfl) (pv 0) pe_int (fun _ _ => rfl)) pa_nil)))) pss_nil)
      (pss_one (ps_ret (pe_lst pa_nil))))), ?_⟩)
  · obtain ⟨v, s, rfl, _⟩ := h
    rfl
  · obtain ⟨v, s, rfl, hs, q⟩ := h
    cases s with
    | set n e =>
      obtain ⟨p, xs, rfl, h0, g⟩ := DatAt.tup_inv hs
      obtain ⟨x0, r, rfl, h1, g⟩ := g.cons_inv
      obtain ⟨x1, r, rfl, h2, g⟩ := g.cons_inv
      obtain ⟨x2, r, rfl, h3, g⟩ := g.cons_inv
      cases g.nil_inv
      cases dat_str_inv h1
      walk_at "a11"
      exact q _ _ _ (Chg.new hpp) (SqL.of upd_same) (dats_nil.chg (Chg.new (L := []) hpp))
    | ask n =>
      obtain ⟨p, xs, rfl, h0, g⟩ := DatAt.tup_inv hs
      obtain ⟨x0, r, rfl, h1, g⟩ := g.cons_inv
      obtain ⟨x1, r, rfl, h2, g⟩ := g.cons_inv
      cases g.nil_inv
      cases dat_str_inv h1
      walk_at "a11"
      exact q _ _ _ (Chg.new hpp) (SqL.of upd_same) (dats_nil.chg (Chg.new (L := []) hpp))
    | tell e =>
      obtain ⟨p, xs, rfl, h0, g⟩ := DatAt.tup_inv hs
      obtain ⟨x0, r, rfl, h1, g⟩ := g.cons_inv
      obtain ⟨x1, r, rfl, h2, g⟩ := g.cons_inv
      cases g.nil_inv
      cases dat_str_inv h1
      walk_at "a11"
      exact q _ _ _ (Chg.new hpp) (SqL.of upd_same) (dats_nil.chg (Chg.new (L := []) hpp))
    | chk c =>
      obtain ⟨p, xs, rfl, h0, g⟩ := DatAt.tup_inv hs
      obtain ⟨x0, r, rfl, h1, g⟩ := g.cons_inv
      obtain ⟨x1, r, rfl, h2, g⟩ := g.cons_inv
      cases g.nil_inv
      cases dat_str_inv h1
      walk_at "a11"
      exact q _ _ _ (Chg.new hpp) (SqL.of upd_same) (dats_nil.chg (Chg.new (L := []) hpp))
    | need c =>
      obtain ⟨p, xs, rfl, h0, g⟩ := DatAt.tup_inv hs
      obtain ⟨x0, r, rfl, h1, g⟩ := g.cons_inv
      obtain ⟨x1, r, rfl, h2, g⟩ := g.cons_inv
      cases g.nil_inv
      cases dat_str_inv h1
      walk_at "a11"
      exact q _ _ _ (Chg.new hpp) (SqL.of upd_same) (dats_nil.chg (Chg.new (L := []) hpp))
    | ret e =>
      obtain ⟨p, xs, rfl, h0, g⟩ := DatAt.tup_inv hs
      obtain ⟨x0, r, rfl, h1, g⟩ := g.cons_inv
      obtain ⟨x1, r, rfl, h2, g⟩ := g.cons_inv
      cases g.nil_inv
      cases dat_str_inv h1
      walk_at "a11"
      exact q _ _ _ (Chg.new hpp) (SqL.of upd_same) (dats_nil.chg (Chg.new (L := []) hpp))
    | ite c x y =>
      obtain ⟨p, xs, rfl, h0, g⟩ := DatAt.tup_inv hs
      obtain ⟨x0, r, rfl, h1, g⟩ := g.cons_inv
      obtain ⟨x1, r, rfl, h2, g⟩ := g.cons_inv
      obtain ⟨x2, r, rfl, h3, g⟩ := g.cons_inv
      obtain ⟨x3, r, rfl, h4, g⟩ := g.cons_inv
      cases g.nil_inv
      cases dat_str_inv h1
      walk_at "a11"
      exact q _ _ _ (Chg.new hpp) (SqL.of upd_same) ((dats_cons h3 (dats_cons h4 dats_nil)).chg (Chg.new (L := []) hpp))
    | whl c x =>
      obtain ⟨p, xs, rfl, h0, g⟩ := DatAt.tup_inv hs
      obtain ⟨x0, r, rfl, h1, g⟩ := g.cons_inv
      obtain ⟨x1, r, rfl, h2, g⟩ := g.cons_inv
      obtain ⟨x2, r, rfl, h3, g⟩ := g.cons_inv
      cases g.nil_inv
      cases dat_str_inv h1
      walk_at "a11"
      exact q _ _ _ (Chg.new hpp) (SqL.of upd_same) ((dats_cons h3 dats_nil).chg (Chg.new (L := []) hpp))
    | call pn es t =>
      obtain ⟨p, xs, rfl, h0, g⟩ := DatAt.tup_inv hs
      obtain ⟨x0, r, rfl, h1, g⟩ := g.cons_inv
      obtain ⟨x1, r, rfl, h2, g⟩ := g.cons_inv
      obtain ⟨x2, r, rfl, h3, g⟩ := g.cons_inv
      obtain ⟨x3, r, rfl, h4, g⟩ := g.cons_inv
      cases g.nil_inv
      cases dat_str_inv h1
      walk_at "a11"
      exact q _ _ _ (Chg.new hpp) (SqL.of upd_same) (dats_nil.chg (Chg.new (L := []) hpp))
end
theorem scs46 : FnScope ["_law_statement_here"] ["_law_statement_here"] (defScope (dst 46)) := ⟨rfl, rfl, rfl, by decide +kernel, rfl, by decide +kernel, by decide +kernel⟩
def sp46 (K : PySem.W.Frag) : Sp := fun vs H Q _ => ∃ (v : V) (s : Sm), vs = [v] ∧ DatAt K H s.d v ∧ ∀ b H', Chg [] H H' → H' b = some (.lst ((tgt s).toList.map V.str)) → Q (.ref b) H'
section
variable {P : Program} {w : World} {K : PySem.W.Frag} {mg : Str → Option Value} {base : Heap} {a : Nat → Addr} {fd : Nat → FuncData}
theorem ok46 (T : Tx P K mg base a fd) : FnOk P w K mg base CX0 1 (a 46) (fd 46) ["_law_statement_here"] (sp46 K) := by
  refine T.D46.fn.ok scs46 (fun vs H Q E h => ?_) (fun cdv A outer s H vs Q E hr h => ⟨_, (pss_cons (ps_if (pt_cmpR (inK (K := K) rfl) (pe_ix (ixTK (K := K) rfl) (pv 0) pe_int (fun _ _ => rfl)) (pe_tup (pa_cons pe_str (pa_cons pe_str pa_nil))) (by rfl)) (pss_one (ps_ret (pe_lst (pa_cons (pe_ix (ixTK (K := K) rfl) (pv 0) pe_int (fun _ _ => rfl)) pa_nil)))) pss_nil)
      (pss_cons (ps_if (PW.pt (pw_and (pt_cmpR op_eq (pe_ix (ixTK (K := K) rfl) (pv 0) pe_int (fun _ _ => rfl)) pe_str (nomark _)) (pw_and1 (pt_cmpR op_notN (pe_ix (ixTK (K := K) rfl) (pv 0) pe_int (fun _ _ => rfl)) pe_non (nomark _))))) (pss_one (ps_ret (pe_lst (pa_cons (pe_ix (ixTK (K := K) rfl) (pv 0) pe_int (fun _ _ => rfl)) pa_nil)))) pss_nil)
      (pss_one (ps_ret (pe_lst pa_nil))))), ?_⟩)
  · obtain ⟨v, s, rfl, _⟩ := h
    rfl
  · obtain ⟨v, s, rfl, hs, q⟩ := h
    cases s with
    | set n e =>
      obtain ⟨p, xs, rfl, h0, g⟩ := DatAt.tup_inv hs
      obtain ⟨x0, r, rfl, h1, g⟩ := g.cons_inv
      obtain ⟨x1, r, rfl, h2, g⟩ := g.cons_inv
      obtain ⟨x2, r, rfl, h3, g⟩ := g.cons_inv
      cases g.nil_inv
      cases dat_str_inv h1
      cases dat_str_inv h2
      walk_at "a10"
      exact q _ _ (Chg.thenNew (Chg.new (L := []) (by assumption)) hpp) upd_same
    | ask n =>
      obtain ⟨p, xs, rfl, h0, g⟩ := DatAt.tup_inv hs
      obtain ⟨x0, r, rfl, h1, g⟩ := g.cons_inv
      obtain ⟨x1, r, rfl, h2, g⟩ := g.cons_inv
      cases g.nil_inv
      cases dat_str_inv h1
      cases dat_str_inv h2
      walk_at "a10"
      exact q _ _ (Chg.thenNew (Chg.new (L := []) (by assumption)) hpp) upd_same
    | tell e =>
      obtain ⟨p, xs, rfl, h0, g⟩ := DatAt.tup_inv hs
      obtain ⟨x0, r, rfl, h1, g⟩ := g.cons_inv
      obtain ⟨x1, r, rfl, h2, g⟩ := g.cons_inv
      cases g.nil_inv
      cases dat_str_inv h1
      skip
      walk_at "a10"
      exact q _ _ (Chg.thenNew (Chg.new (L := []) (by assumption)) hpp) upd_same
    | chk c =>
      obtain ⟨p, xs, rfl, h0, g⟩ := DatAt.tup_inv hs
      obtain ⟨x0, r, rfl, h1, g⟩ := g.cons_inv
      obtain ⟨x1, r, rfl, h2, g⟩ := g.cons_inv
      cases g.nil_inv
      cases dat_str_inv h1
      skip
      walk_at "a10"
      exact q _ _ (Chg.thenNew (Chg.new (L := []) (by assumption)) hpp) upd_same
    | need c =>
      obtain ⟨p, xs, rfl, h0, g⟩ := DatAt.tup_inv hs
      obtain ⟨x0, r, rfl, h1, g⟩ := g.cons_inv
      obtain ⟨x1, r, rfl, h2, g⟩ := g.cons_inv
      cases g.nil_inv
      cases dat_str_inv h1
      skip
      walk_at "a10"
      exact q _ _ (Chg.thenNew (Chg.new (L := []) (by assumption)) hpp) upd_same
    | ret e =>
      obtain ⟨p, xs, rfl, h0, g⟩ := DatAt.tup_inv hs
      obtain ⟨x0, r, rfl, h1, g⟩ := g.cons_inv
      obtain ⟨x1, r, rfl, h2, g⟩ := g.cons_inv
      cases g.nil_inv
      cases dat_str_inv h1
      skip
      walk_at "a10"
      exact q _ _ (Chg.thenNew (Chg.new (L := []) (by assumption)) hpp) upd_same
    | ite c x y =>
      obtain ⟨p, xs, rfl, h0, g⟩ := DatAt.tup_inv hs
      obtain ⟨x0, r, rfl, h1, g⟩ := g.cons_inv
      obtain ⟨x1, r, rfl, h2, g⟩ := g.cons_inv
      obtain ⟨x2, r, rfl, h3, g⟩ := g.cons_inv
      obtain ⟨x3, r, rfl, h4, g⟩ := g.cons_inv
      cases g.nil_inv
      cases dat_str_inv h1
      skip
      walk_at "a10"
      exact q _ _ (Chg.thenNew (Chg.new (L := []) (by assumption)) hpp) upd_same
    | whl c x =>
      obtain ⟨p, xs, rfl, h0, g⟩ := DatAt.tup_inv hs
      obtain ⟨x0, r, rfl, h1, g⟩ := g.cons_inv
      obtain ⟨x1, r, rfl, h2, g⟩ := g.cons_inv
      obtain ⟨x2, r, rfl, h3, g⟩ := g.cons_inv
      cases g.nil_inv
      cases dat_str_inv h1
      skip
      walk_at "a10"
      exact q _ _ (Chg.thenNew (Chg.new (L := []) (by assumption)) hpp) upd_same
    | call pn es t =>
      obtain ⟨p, xs, rfl, h0, g⟩ := DatAt.tup_inv hs
      obtain ⟨x0, r, rfl, h1, g⟩ := g.cons_inv
      obtain ⟨x1, r, rfl, h2, g⟩ := g.cons_inv
      obtain ⟨x2, r, rfl, h3, g⟩ := g.cons_inv
      obtain ⟨x3, r, rfl, h4, g⟩ := g.cons_inv
      cases g.nil_inv
      cases dat_str_inv h1
      cases t with
      | none =>
        cases dat_opt h4
        walk_at "a14"
        exact q _ _ (Chg.thenNew (Chg.new (L := []) (by assumption)) hpp) upd_same
      | some t =>
        cases dat_opt h4
        walk_at "a14"
        exact q _ _ (Chg.thenNew (Chg.new (L := []) (by assumption)) hpp) upd_same
end
end Cc
set_option maxRecDepth 100000
set_option maxHeartbeats 4000000
/-! the law: all, locals -/
namespace Cc
open PySem PySem.Spec PyProof.Rows L2
theorem scs45 : FnScope ["_law_block_here", "_law_found", "_law_statement_here", "_law_inner"] ["_law_block_here"] (defScope (dst 45)) := ⟨rfl, rfl, rfl, by decide +kernel, rfl, by decide +kernel, by decide +kernel⟩
def sp45 (K : PySem.W.Frag) (n : Nat) : Sp := fun vs H Q _ => ∃ (v : V) (b : List Sm), vs = [v] ∧ DatAt K H (.tup (smsD b)) v ∧ depB b < n ∧ (allB b).length ≤ 10000 ∧ ∀ l ys H', Chg [] H H' → H' l = some (.lst ys) → DatsAt K H' ((allB b).map Sm.d) ys → Q (.ref l) H'
section
variable {P : Program} {w : World} {K : PySem.W.Frag} {mg : Str → Option Value} {base : Heap} {a : Nat → Addr} {fd : Nat → FuncData}
theorem ok45s (T : Tx P K mg base a fd) (n : Nat) (G45 : FnOk P w K mg base CX0 (n + 1) (a 45) (fd 45) ["_law_block_here"] (sp45 K n)) : FnOk P w K mg base CX0 (n + 2) (a 45) (fd 45) ["_law_block_here"] (sp45 K (n + 1)) := by
  refine T.D45.fn.ok scs45 (fun vs H Q E h => ?_) (fun cdv A outer s H vs Q E hr h => ⟨_, (pss_cons (ps_set (i := 1) scs45.nd rfl (Or.inl rfl) (pe_lst pa_nil))
      (pss_cons (ps_for PassesOwn.never rfl (pi_tup (pv 0)) (pg_name (i := 2) scs45.nd rfl (Or.inl rfl)) (pss_cons (ps_expr (pe_bm PySem.F.plainAttrs_list PySem.F.slot_list_append PySem.F.type_list_append mt_append (pv 1) (pa_cons (pv 2) pa_nil)))
      (pss_one (ps_for PassesOwn.never rfl (pi_list (pe_call (ok44 T) (hr.mono (by first | exact Nat.le_refl _ | decide | omega)) rfl T.D44.mg T.D44.kp T.D44.bd .nil pass0 (pa_cons (pv 2) pa_nil))) (pg_name (i := 3) scs45.nd rfl (Or.inl rfl)) (pss_one (ps_set (i := 1) scs45.nd rfl (Or.inl rfl) (pe_op op_cat (pv 1) (pe_call G45 (hr.mono (by first | exact Nat.le_refl _ | decide | omega)) rfl T.D45.mg T.D45.kp T.D45.bd .nil pass0 (pa_cons (pv 3) pa_nil)))))))))
      (pss_one (ps_ret (pv 1))))), ?_⟩)
  · obtain ⟨v, b, rfl, _⟩ := h
    rfl
  · obtain ⟨v, b, rfl, hb, hdep, hsz, q⟩ := h
    obtain ⟨p, xs, rfl, h0, g⟩ := DatAt.tup_inv hb
    rw [smsD_eq] at g
    walk_at "a11"
    refine ⟨⟨_, Chg.sqT (Chg.new (L := []) hpp) h0⟩, ?_⟩
    have pre : ∀ i, (allB (b.take i)).length ≤ 10000 := fun i => by
      have e := allB_append (b.take i) (b.drop i)
      rw [List.take_append_drop] at e
      have e2 := congrArg List.length e
      rw [List.length_append] at e2
      omega
    refine forT (xs := xs) (fun i σ H' => ∃ r o1 o2 acc, σ = [some (.ref p), some (.ref r), o1, o2] ∧ H r = none ∧ Chg [] H H' ∧ H' r = some (.lst acc) ∧ DatsAt K H' ((allB (b.take i)).map Sm.d) acc) ⟨_, _, _, [], rfl, hpp, Chg.new hpp, upd_same, by rw [List.take_zero, allB]; exact dats_nil⟩ (fun i σ H' _ z => by obtain ⟨r, o1, o2, acc, _, _, c, _⟩ := z; exact c.sqT h0) ?_ ?_
    · rintro i x σ H' hx ⟨r, o1, o2, acc, rfl, hr0, c, hacc, hda⟩
      obtain ⟨d, hd, hdx⟩ := g.at hx
      rw [List.getElem?_map] at hd
      cases hpi : b[i]? with
      | none => rw [hpi] at hd; cases hd
      | some s =>
        rw [hpi] at hd
        cases hd
        have htk : allB (b.take (i + 1)) = allB (b.take i) ++ s :: allI s := by rw [take_succ hpi, allB_append, allB_one]
        have hbnd := pre (i + 1)
        rw [htk, List.length_append, List.length_cons] at hbnd
        have hal : acc.length = (allB (b.take i)).length := by rw [hda.len, List.length_map]
        walk_at "w15"
        refine ⟨.inl ⟨rfl, _, SqL.of hacc⟩, _, hacc, sz' (by omega), ?_⟩
        have c1 : Chg [] H (upd H' r (.lst (acc ++ [x]))) := chg_lst hr0 c hacc trivial
        have cr : Chg [r] H' (upd H' r (.lst (acc ++ [x]))) := Chg.put hacc trivial (by simp)
        have hds := hdx.chg c1
        refine ⟨_, _, rfl, hds, fun q0 qs H1 c2 hq hqs => ?_⟩
        have hcur : H1 r = some (.lst (acc ++ [x])) := c2.get upd_same
        walk_at "w15"
        refine ⟨⟨_, hq⟩, forL (xs := qs) (fun j σ H2 => ∃ r2 o2 acc, σ = [some (.ref p), some (.ref r2), some x, o2] ∧ H r2 = none ∧ Chg [] H H2 ∧ Chg [] H1 H2 ∧ H2 r2 = some (.lst acc) ∧ DatsAt K H2 ((allB (b.take i) ++ s :: ((blocksOf s).take j).flatMap allB).map Sm.d) acc)
          ⟨_, _, _, rfl, hr0, c1.trans c2, Chg.refl, hcur, ?_⟩ (fun j σ H2 _ z => by obtain ⟨r2, o2, acc, _, _, _, c, _⟩ := z; exact c.sqL hq) ?_ ?_⟩
        · rw [List.take_zero, List.flatMap_nil, List.map_append, List.map_cons, List.map_nil]
          exact DatsAt.append (hda.chg (cr.trans c2.of0)) (dats_cons (hds.chg c2) dats_nil)
        · rintro j y σ H2 hy ⟨r2, o2, acc2, rfl, hr2, c3, c12, hacc2, hda2⟩
          obtain ⟨d2, hd2, hdy0⟩ := hqs.at hy
          have hdy := hdy0.chg c12
          rw [List.getElem?_map] at hd2
          cases hbj : (blocksOf s)[j]? with
          | none => rw [hbj] at hd2; cases hd2
          | some bj =>
            rw [hbj] at hd2
            cases hd2
            have hmem : bj ∈ blocksOf s := List.mem_of_getElem? hbj
            have hsm : s ∈ b := List.mem_of_getElem? hpi
            have hdj : depB bj < n := by
              have z1 := dep_blocks hmem
              have z2 := depB_mem hsm
              omega
            have htj : ((blocksOf s).take (j + 1)).flatMap allB = ((blocksOf s).take j).flatMap allB ++ allB bj := by
              rw [take_succ hbj, List.flatMap_append]; simp
            have hIs : (((blocksOf s).take j).flatMap allB ++ allB bj).length ≤ (allI s).length := by
              rw [← htj, allI_eq]
              have e := congrArg List.length (congrArg (fun l => l.flatMap allB) (List.take_append_drop (j + 1) (blocksOf s)))
              rw [List.flatMap_append, List.length_append] at e
              omega
            rw [List.length_append] at hIs
            have hal2 : acc2.length = (allB (b.take i)).length + (((blocksOf s).take j).flatMap allB).length + 1 := by
              rw [hda2.len, List.length_map, List.length_append, List.length_cons]; omega
            walk_at "w15"
            refine ⟨_, _, rfl, hdy, hdj, by omega, fun l ys H3 c4 hl3 hys => ?_⟩
            have hl3' : ys.length = (allB bj).length := by rw [hys.len, List.length_map]
            refine ⟨_, _, _, _, rfl, rfl, c4.get hacc2, hl3, sz (by omega), fun p3 hp3 => ?_⟩
            have c5 : Chg [] H3 (upd H3 p3 (.lst (acc2 ++ ys))) := Chg.new hp3
            walk_at "w15"
            refine ⟨(c3.trans c4).back hp3, (c3.trans c4).trans c5, (c12.trans c4).trans c5, _, upd_same, ?_⟩
            rw [htj, ← List.cons_append, ← List.append_assoc, List.map_append]
            exact DatsAt.append (hda2.chg (c4.trans c5)) (hys.chg c5)
        · rintro σ H2 ⟨r2, o2, acc2, rfl, hr2, c3, c12, hacc2, hda2⟩
          have hlq : qs.length = (blocksOf s).length := by rw [hqs.len, List.length_map]
          rw [hlq, List.take_length, ← allI_eq, ← htk] at hda2
          exact ⟨_, ⟨_, _, rfl⟩, hr2, c3, _, hacc2, hda2⟩
    · rintro σ H' ⟨r, o1, o2, acc, rfl, hr0, c, hacc, hda⟩
      have hlb : xs.length = b.length := by rw [g.len, List.length_map]
      rw [hlb, List.take_length] at hda
      walk_at "w15"
      exact q _ _ _ c hacc hda
theorem ok45 (T : Tx P K mg base a fd) : ∀ n : Nat, FnOk P w K mg base CX0 (n + 1) (a 45) (fd 45) ["_law_block_here"] (sp45 K n)
  | 0 => (FnOk.never (ps := ["_law_block_here"])).imp fun vs H Q E h => by
    obtain ⟨v, b, _, _, z, _⟩ := h
    exact absurd z (Nat.not_lt_zero _)
  | n + 1 => ok45s T n (ok45 T n)
end
end Cc
set_option maxRecDepth 100000
set_option maxHeartbeats 4000000
/-! the law: locals -/
namespace Cc
open PySem PySem.Spec PyProof.Rows L2
theorem not_lts {x y : Str} : ¬ lts y x ↔ x.cps.toList ≤ y.cps.toList := List.not_lt
theorem ge_of : ∀ {l : List Str}, sortedS l = true → l.Pairwise (fun x y => ¬ lts y x)
  | [], _ => List.Pairwise.nil
  | [x], _ => List.pairwise_singleton _ _
  | x :: y :: r, h => by
    have h : (!ltCps y.cps.toList x.cps.toList && risingS y r) = true := h
    rw [Bool.and_eq_true] at h
    have hy : ¬ lts y x := fun z => by
      rw [ltCps_iff.mpr z] at h
      exact absurd h.1 (by simp)
    have ih := ge_of (l := y :: r) h.2
    refine List.pairwise_cons.mpr ⟨fun z hz => ?_, ih⟩
    rcases List.mem_cons.mp hz with e | hz
    · rw [e]; exact hy
    · exact not_lts.mpr (List.le_trans (not_lts.mp hy) (not_lts.mp ((List.pairwise_cons.mp ih).1 z hz)))
/-- each name once, none of sh -/
def onceF (sh : List Str) (acc : List Str) (y : Str) : List Str := if y ∉ acc ∧ y ∉ sh then acc ++ [y] else acc
theorem once_fold (sh : List Str) : ∀ (l acc : List Str), Asc acc → (∀ a ∈ acc, ∀ y ∈ l, ¬ lts y a) → l.Pairwise (fun x y => ¬ lts y x) →
    Asc (l.foldl (onceF sh) acc) ∧ ∀ k, k ∈ l.foldl (onceF sh) acc ↔ k ∈ acc ∨ (k ∈ l ∧ k ∉ sh)
  | [], acc, a, _, _ => ⟨a, fun k => by simp⟩
  | x :: r, acc, a, h, p => by
    obtain ⟨p1, p2⟩ := List.pairwise_cons.mp p
    rw [List.foldl_cons]
    by_cases e : x ∉ acc ∧ x ∉ sh
    · have ee : onceF sh acc x = acc ++ [x] := by unfold onceF; rw [if_pos e]
      rw [ee]
      have ih := once_fold sh r (acc ++ [x]) ?_ ?_ p2
      · refine ⟨ih.1, fun k => ?_⟩
        rw [ih.2, List.mem_append, List.mem_singleton, List.mem_cons]
        constructor
        · rintro ((h | h) | h)
          · exact .inl h
          · subst h; exact .inr ⟨.inl rfl, e.2⟩
          · exact .inr ⟨.inr h.1, h.2⟩
        · rintro (h | ⟨h | h, h2⟩)
          · exact .inl (.inl h)
          · exact .inl (.inr h)
          · exact .inr ⟨h, h2⟩
      · refine List.pairwise_append.mpr ⟨a, List.pairwise_singleton _ _, fun u hu v hv => ?_⟩
        rw [List.mem_singleton] at hv
        subst hv
        exact lts_tot (h u hu v (by simp)) (fun z => e.1 (by rw [z]; exact hu))
      · intro u hu y hy
        rcases List.mem_append.mp hu with hu | hu
        · exact h u hu y (List.mem_cons_of_mem _ hy)
        · rw [List.mem_singleton] at hu
          subst hu
          exact p1 y hy
    · have ee : onceF sh acc x = acc := by unfold onceF; rw [if_neg e]
      rw [ee]
      have ih := once_fold sh r acc a (fun u hu y hy => h u hu y (List.mem_cons_of_mem _ hy)) p2
      refine ⟨ih.1, fun k => ?_⟩
      rw [ih.2, List.mem_cons]
      constructor
      · rintro (h | h)
        · exact .inl h
        · exact .inr ⟨.inr h.1, h.2⟩
      · rintro (h | ⟨h | h, h2⟩)
        · exact .inl h
        · subst h
          by_cases z : k ∈ acc
          · exact .inl z
          · exact absurd ⟨z, h2⟩ e
        · exact .inr ⟨h, h2⟩
theorem once_len (sh : List Str) : ∀ (l acc : List Str), (l.foldl (onceF sh) acc).length ≤ acc.length + l.length
  | [], acc => by simp
  | x :: r, acc => by
    rw [List.foldl_cons]
    have ih := once_len sh r (onceF sh acc x)
    have h2 : (onceF sh acc x).length ≤ acc.length + 1 := by
      unfold onceF
      split
      · simp
      · omega
    rw [List.length_cons]
    omega
theorem once_is {sh ps : List Str} {b : List Sm} {ys : List Str} (hp : ys.Perm (ps ++ (allB b).filterMap tgt)) (hs : sortedS ys = true) (np : ∀ p ∈ ps, p ∉ sh) : ys.foldl (onceF sh) [] = localsOf sh ps b := by
  obtain ⟨h1, h2⟩ := once_fold sh ys [] List.Pairwise.nil (fun a z => nomatch z) (ge_of hs)
  unfold localsOf targets
  refine asc_one h1 (asc_sortU _) fun k => ?_
  rw [h2, mem_sortU, hp.mem_iff, List.mem_append, List.mem_append, List.mem_filter, decide_eq_true_eq]
  constructor
  · rintro (h | ⟨h | h, h3⟩)
    · exact absurd h (by simp)
    · exact .inr h
    · exact .inl ⟨h, h3⟩
  · rintro (⟨h, h3⟩ | h)
    · exact .inr ⟨.inr h, h3⟩
    · exact .inr ⟨.inl h, np k h⟩
section
variable {K : PySem.W.Frag} {H : Hp} {Q : VK} {t : Str} {l : List Str} {p : Addr}
theorem flat_strs {l : List Str} : (l.map V.str).all flatV = true := by simp [flatV]
theorem nin_yes (h : SqL K H p (l.map V.str) ∨ SqT K H p (l.map V.str)) (e : t ∉ l) (q : Q (.bl true) H) : rIn K true (.str t) (.ref p) H Q :=
  ⟨p, _, rfl, h, rfl, flat_strs, by rw [inV_strs, decide_eq_false e]; exact q⟩
theorem nin_no (h : SqL K H p (l.map V.str) ∨ SqT K H p (l.map V.str)) (e : t ∈ l) (q : Q (.bl false) H) : rIn K true (.str t) (.ref p) H Q :=
  ⟨p, _, rfl, h, rfl, flat_strs, by rw [inV_strs, decide_eq_true e]; exact q⟩
end
theorem scs47 : FnScope ["_law_shared", "_law_procedure_here", "_law_found", "_law_statement_here", "_law_rows", "_law_name"] ["_law_shared", "_law_procedure_here"] (defScope (dst 47)) := ⟨rfl, rfl, rfl, by decide +kernel, rfl, by decide +kernel, by decide +kernel⟩
def sp47 (K : PySem.W.Frag) : Sp := fun vs H Q _ => ∃ (v : V) (sa : Addr) (sh : List Str) (pr : Pr), vs = [.ref sa, v] ∧ SqT K H sa (sh.map V.str) ∧ DatAt K H pr.d v ∧ PrB pr ∧ (∀ p ∈ pr.params, p ∉ sh) ∧ ∀ l H', Chg [] H H' → H' l = some (.lst ((localsOf sh pr.params pr.body).map V.str)) → Q (.ref l) H'
section
variable {P : Program} {w : World} {K : PySem.W.Frag} {mg : Str → Option Value} {base : Heap} {a : Nat → Addr} {fd : Nat → FuncData}
theorem ok47 (T : Tx P K mg base a fd) : FnOk P w K mg base CX0 12 (a 47) (fd 47) ["_law_shared", "_law_procedure_here"] (sp47 K) := by
  refine T.D47.fn.ok scs47 (fun vs H Q E h => ?_) (fun cdv A outer s H vs Q E hr h => ⟨_, (pss_cons (ps_set (i := 2) scs47.nd rfl (Or.inl rfl) (pe_callTy call_list_of (by rfl) T.n_list PyProof.Rows.Boot.«list» (pa_cons (pe_ix (ixTK (K := K) rfl) (pv 1) pe_int (fun _ _ => rfl)) pa_nil)))
      (pss_cons (ps_for PassesOwn.never rfl (pi_list (pe_call (ok45 T 8) (hr.mono (by first | exact Nat.le_refl _ | decide | omega)) rfl T.D45.mg T.D45.kp T.D45.bd .nil pass0 (pa_cons (pe_ix (ixTK (K := K) rfl) (pv 1) pe_int (fun _ _ => rfl)) pa_nil))) (pg_name (i := 3) scs47.nd rfl (Or.inl rfl)) (pss_one (ps_set (i := 2) scs47.nd rfl (Or.inl rfl) (pe_op op_cat (pv 2) (pe_call (ok46 T) (hr.mono (by first | exact Nat.le_refl _ | decide | omega)) rfl T.D46.mg T.D46.kp T.D46.bd .nil pass0 (pa_cons (pv 3) pa_nil))))))
      (pss_cons (ps_set (i := 4) scs47.nd rfl (Or.inl rfl) (pe_lst pa_nil))
      (pss_cons (ps_for PassesOwn.never rfl (pi_list (pe_callB cr_sortedS (by rfl) T.n_sorted PyProof.Rows.Boot.«sorted» (pa_cons (pv 2) pa_nil))) (pg_name (i := 5) scs47.nd rfl (Or.inl rfl)) (pss_one (ps_if (PW.pt (pw_and (pt_cmpR (ninK (K := K) rfl) (pv 5) (pv 4) (by rfl)) (pw_and1 (pt_cmpR (ninK (K := K) rfl) (pv 5) (pv 0) (by rfl))))) (pss_one (ps_expr (pe_bm PySem.F.plainAttrs_list PySem.F.slot_list_append PySem.F.type_list_append mt_append (pv 4) (pa_cons (pv 5) pa_nil)))) pss_nil)))
      (pss_one (ps_ret (pv 4))))))), ?_⟩)
  · obtain ⟨v, sa, sh, pr, rfl, _⟩ := h
    rfl
  · obtain ⟨v, sa, sh, pr, rfl, hsa, hpr, B, np, q⟩ := h
    obtain ⟨p, b, c, xs, rfl, h0, h1, h2, g⟩ := pr_at hpr
    have hB1 := B.all
    have hB2 := B.par
    walk_at "a11"
    refine ⟨_, .inr h1, fun l1 hl1 => ?_⟩
    have c1 : Chg [] H (upd H l1 (.lst (pr.params.map V.str))) := Chg.new hl1
    refine ixT (c1.sqT h0) (v := .ref c) rfl ?_
    refine ⟨_, _, rfl, dat_tup (c1.sqT h2) (g.chg c1), B.dep, by omega, fun l ys H2 c2 hl hys => ?_⟩
    have c12 := c1.trans c2
    have hyl : ys.length = (allB pr.body).length := by rw [hys.len, List.length_map]
    walk_at "w15"
    refine ⟨⟨_, SqL.of hl⟩, forL (xs := ys) (fun i σ H3 => ∃ r o3, σ = [some (.ref sa), some (.ref p), some (.ref r), o3, none, none] ∧ Chg [] H2 H3 ∧ H3 r = some (.lst ((pr.params ++ ((allB pr.body).take i).filterMap tgt).map V.str)))
      ⟨_, _, rfl, Chg.refl, by rw [List.take_zero, List.filterMap_nil, List.append_nil]; exact c2.get upd_same⟩ (fun i σ H3 _ z => by obtain ⟨r, o3, _, c, _⟩ := z; exact SqL.of (c.get hl)) ?_ ?_⟩
    · rintro i x σ H3 hx ⟨r, o3, rfl, c3, hr⟩
      obtain ⟨d, hd, hdx⟩ := hys.at hx
      rw [List.getElem?_map] at hd
      cases hpi : (allB pr.body)[i]? with
      | none => rw [hpi] at hd; cases hd
      | some s =>
        rw [hpi] at hd
        cases hd
        walk_at "w15"
        refine ⟨_, _, rfl, hdx.chg c3, fun t4 H4 c4 ht4 => ?_⟩
        refine ⟨_, _, _, _, rfl, rfl, c4.get hr, ht4, ?_, fun p5 hp5 => ?_⟩
        · rw [List.length_map, List.length_append, List.length_map]
          have z1 := List.length_filterMap_le tgt ((allB pr.body).take i)
          rw [List.length_take] at z1
          have z2 : (tgt s).toList.length ≤ 1 := by cases tgt s <;> simp
          exact sz (by omega)
        · walk_at "w15"
          refine ⟨(c3.trans c4).thenNew hp5, ?_⟩
          rw [upd_same, take_succ hpi, List.filterMap_append, ← List.map_append, List.append_assoc]
          cases ht : tgt s <;> simp [ht]
    · rintro σ H3 ⟨r, o3, rfl, c3, hr⟩
      rw [hyl, List.take_length] at hr
      walk_at "w15"
      refine ⟨by decide, fun r4 hr4 => ?_⟩
      have c4 : Chg [] H3 (upd H3 r4 (.lst [])) := Chg.new hr4
      have c14 := (c12.trans c3).trans c4
      have z1 := List.length_filterMap_le tgt (allB pr.body)
      refine ⟨_, _, rfl, SqL.of (c4.get hr), by rw [List.length_append]; omega, fun zs p5 hperm hsrt hp5 => ?_⟩
      have c5 : Chg [] _ (upd (upd H3 r4 (.lst [])) p5 (.lst (zs.map V.str))) := Chg.new hp5
      have hne : r4 ≠ p5 := fun z => by rw [← z, upd_same] at hp5; cases hp5
      have hzl : zs.length ≤ 60 := by rw [hperm.length_eq, List.length_append]; omega
      walk_at "w15"
      refine ⟨⟨_, SqL.of upd_same⟩, forL (xs := zs.map V.str) (fun i σ H6 => ∃ o5, σ = [some (.ref sa), some (.ref p), some (.ref r), o3, some (.ref r4), o5] ∧ Chg [] H H6 ∧ H6 p5 = some (.lst (zs.map V.str)) ∧ H6 r4 = some (.lst (((zs.take i).foldl (onceF sh) []).map V.str)))
        ⟨_, rfl, c14.trans c5, upd_same, by rw [upd_ne hne, upd_same, List.take_zero]; rfl⟩ (fun i σ H6 _ z => by obtain ⟨o5, _, _, h, _⟩ := z; exact SqL.of h) ?_ ?_⟩
      · rintro i x σ H6 hx ⟨o5, rfl, c6, hp6, hr6⟩
        rw [List.getElem?_map] at hx
        cases hzi : zs[i]? with
        | none => rw [hzi] at hx; cases hx
        | some z =>
          rw [hzi] at hx
          cases hx
          have hsucc : (zs.take (i + 1)).foldl (onceF sh) [] = onceF sh ((zs.take i).foldl (onceF sh) []) z := by rw [take_succ hzi, List.foldl_append]; rfl
          have hr40 : H r4 = none := (c12.trans c3).back hr4
          have hlen := once_len sh (zs.take i) []
          rw [List.length_take, List.length_nil] at hlen
          walk_at "w15"
          by_cases e1 : z ∈ (zs.take i).foldl (onceF sh) []
          · refine nin_no (.inl (SqL.of hr6)) e1 ?_
            walk_at "w15"
            refine ⟨c6, hp6, ?_⟩
            rw [hsucc, onceF, if_neg (fun w => w.1 e1)]; exact hr6
          · refine nin_yes (.inl (SqL.of hr6)) e1 ?_
            walk_at "w15"
            by_cases e2 : z ∈ sh
            · refine nin_no (.inr (c6.sqT hsa)) e2 ?_
              walk_at "w15"
              refine ⟨c6, hp6, ?_⟩
              rw [hsucc, onceF, if_neg (fun w => w.2 e2)]; exact hr6
            · refine nin_yes (.inr (c6.sqT hsa)) e2 ?_
              walk_at "w15"
              refine ⟨.inl ⟨rfl, _, SqL.of hr6⟩, _, hr6, by rw [List.length_map]; exact sz' (by omega), c6.own hr40, by rw [upd_ne (Ne.symm hne)]; exact hp6, ?_⟩
              rw [upd_same, hsucc, onceF, if_pos ⟨e1, e2⟩, List.map_append]; rfl
      · rintro σ H6 ⟨o5, rfl, c6, hp6, hr6⟩
        rw [List.length_map, List.take_length, once_is hperm hsrt np] at hr6
        walk_at "w15"
        exact q _ _ c6 hr6
end
end Cc
set_option maxRecDepth 100000
set_option maxHeartbeats 4000000
/-! the law: same -/
namespace Cc
open PySem PySem.Spec PyProof.Rows L2
mutual
def dDep : D → Nat
  | .tup l => 1 + dDeps l
  | _ => 0
def dDeps : List D → Nat
  | [] => 0
  | d :: l => max (dDep d) (dDeps l)
end
mutual
def dMax : D → Nat
  | .tup l => max l.length (dMaxs l)
  | _ => 0
def dMaxs : List D → Nat
  | [] => 0
  | d :: l => max (dMax d) (dMaxs l)
end
theorem dMaxs_mem : ∀ {l : List D} {d : D}, d ∈ l → dMax d ≤ dMaxs l
  | x :: r, d, h => by
    rw [dMaxs]
    rcases List.mem_cons.mp h with e | h
    · rw [e]; exact Nat.le_max_left _ _
    · exact Nat.le_trans (dMaxs_mem h) (Nat.le_max_right _ _)
theorem dMaxs_le : ∀ {l : List D} {n : Nat}, (∀ d ∈ l, dMax d ≤ n) → dMaxs l ≤ n
  | [], n, _ => by rw [dMaxs]; exact Nat.zero_le _
  | x :: r, n, h => by
    rw [dMaxs]
    exact Nat.max_le.mpr ⟨h x (by simp), dMaxs_le fun d hd => h d (List.mem_cons_of_mem _ hd)⟩
theorem dDeps_mem : ∀ {l : List D} {d : D}, d ∈ l → dDep d ≤ dDeps l
  | x :: r, d, h => by
    rw [dDeps]
    rcases List.mem_cons.mp h with e | h
    · rw [e]; exact Nat.le_max_left _ _
    · exact Nat.le_trans (dDeps_mem h) (Nat.le_max_right _ _)
theorem dDeps_le : ∀ {l : List D} {n : Nat}, (∀ d ∈ l, dDep d ≤ n) → dDeps l ≤ n
  | [], n, _ => by rw [dDeps]; exact Nat.zero_le _
  | x :: r, n, h => by
    rw [dDeps]
    exact Nat.max_le.mpr ⟨h x (by simp), dDeps_le fun d hd => h d (List.mem_cons_of_mem _ hd)⟩
section
variable {K : PySem.W.Frag} {H : Hp} {Q : VK}
theorem isiW {x : V} {t n : String} {b : Bool} (h : TyX K H x (.type t)) (k : kitB t n = some b) (q : Q (.bl b) H) : rIsi K [x, .ty n] H Q := ⟨x, _, .type t, .type n, b, rfl, .ty _, h, kit_ty k, q⟩
theorem tyT {a : Addr} {xs : List V} (h : SqT K H a xs) : TyX K H (.ref a) (.type "tuple") := by
  rcases h with (h | ⟨o, h⟩) | ⟨o, its, n, h, c, _⟩
  · exact .base (.tup h)
  · exact .fTuple h
  · exact .kTuple h c
theorem tyI {i : Int} : TyX K H (.int i) (.type "int") := .base (.int i)
theorem tyS {i : Str} : TyX K H (.str i) (.type "str") := .base (.str i)
end
theorem scs34 : FnScope ["_law_actual", "_law_due", "_law_k"] ["_law_actual", "_law_due"] (defScope (dst 34)) := ⟨rfl, rfl, rfl, by decide +kernel, rfl, by decide +kernel, by decide +kernel⟩
def sp34 (K : PySem.W.Frag) (n : Nat) : Sp := fun vs H Q _ => ∃ (x y : V) (d : D), vs = [x, y] ∧ DatAt K H d x ∧ DatAt K H d y ∧ dDep d < n ∧ dMax d ≤ 1000 ∧ ∀ H', Chg [] H H' → Q (.bl true) H'
section
variable {P : Program} {w : World} {K : PySem.W.Frag} {mg : Str → Option Value} {base : Heap} {a : Nat → Addr} {fd : Nat → FuncData}
theorem ok34s (T : Tx P K mg base a fd) (n : Nat) (G34 : FnOk P w K mg base CX0 (n + 1) (a 34) (fd 34) ["_law_actual", "_law_due"] (sp34 K n)) : FnOk P w K mg base CX0 (n + 2) (a 34) (fd 34) ["_law_actual", "_law_due"] (sp34 K (n + 1)) := by
  refine T.D34.fn.ok scs34 (fun vs H Q E h => ?_) (fun cdv A outer s H vs Q E hr h => ⟨_, (pss_cons (ps_if (pt_cmpR op_isN (pv 1) pe_non (nomark _)) (pss_one (ps_ret (pe_cmpR op_isN (pv 0) pe_non (nomark _)))) pss_nil)
      (pss_cons (ps_if (pt_val (pe_callB call_isi (by rfl) T.n_isinstance PyProof.Rows.Boot.«isinstance» (pa_cons (pv 1) (pa_cons (pe_bltn (v := .ty "tuple") (by rfl) T.n_tuple PyProof.Rows.Boot.«tuple» rfl) pa_nil)))) (pss_cons (ps_if (PW.pt (pw_or (pt_not (pt_val (pe_callB call_isi (by rfl) T.n_isinstance PyProof.Rows.Boot.«isinstance» (pa_cons (pv 0) (pa_cons (pe_bltn (v := .ty "tuple") (by rfl) T.n_tuple PyProof.Rows.Boot.«tuple» rfl) pa_nil))))) (pw_or1 (pt_cmpR op_ne (pe_callB call_len_seq (by rfl) T.n_len PyProof.Rows.Boot.«len» (pa_cons (pv 0) pa_nil)) (pe_callB call_len_seq (by rfl) T.n_len PyProof.Rows.Boot.«len» (pa_cons (pv 1) pa_nil)) (nomark _))))) (pss_one (ps_ret pe_bl)) pss_nil)
      (pss_cons (ps_for PassesOwn.never rfl (pi_range1 (by rfl) T.n_range (pa_cons (pe_callB call_len_seq (by rfl) T.n_len PyProof.Rows.Boot.«len» (pa_cons (pv 1) pa_nil)) pa_nil)) (pg_name (i := 2) scs34.nd rfl (Or.inl rfl)) (pss_one (ps_if (pt_not (pt_val (pe_call G34 (hr.mono (by first | exact Nat.le_refl _ | decide | omega)) rfl T.D34.mg T.D34.kp T.D34.bd .nil pass0 (pa_cons (pe_ix (ixTK (K := K) rfl) (pv 0) (pv 2) (fun _ _ => rfl)) (pa_cons (pe_ix (ixTK (K := K) rfl) (pv 1) (pv 2) (fun _ _ => rfl)) pa_nil))))) (pss_one (ps_ret pe_bl)) pss_nil)))
      (pss_one (ps_ret pe_bl)))) pss_nil)
      (pss_cons (ps_if (pt_val (pe_callB call_isi (by rfl) T.n_isinstance PyProof.Rows.Boot.«isinstance» (pa_cons (pv 1) (pa_cons (pe_bltn (v := .ty "bool") (by rfl) T.n_bool PyProof.Rows.Boot.«bool» rfl) pa_nil)))) (pss_one (ps_ret (pe_and (pe_callB call_isi (by rfl) T.n_isinstance PyProof.Rows.Boot.«isinstance» (pa_cons (pv 0) (pa_cons (pe_bltn (v := .ty "bool") (by rfl) T.n_bool PyProof.Rows.Boot.«bool» rfl) pa_nil))) (pe_one (pe_cmpR op_eq (pv 0) (pv 1) (nomark _)))))) pss_nil)
      (pss_cons (ps_if (pt_val (pe_callB call_isi (by rfl) T.n_isinstance PyProof.Rows.Boot.«isinstance» (pa_cons (pv 1) (pa_cons (pe_bltn (v := .ty "int") (by rfl) T.n_int PyProof.Rows.Boot.«int» rfl) pa_nil)))) (pss_one (ps_ret (pe_and (pe_callB call_isi (by rfl) T.n_isinstance PyProof.Rows.Boot.«isinstance» (pa_cons (pv 0) (pa_cons (pe_bltn (v := .ty "int") (by rfl) T.n_int PyProof.Rows.Boot.«int» rfl) pa_nil))) (pe_and (pe_not (pe_callB call_isi (by rfl) T.n_isinstance PyProof.Rows.Boot.«isinstance» (pa_cons (pv 0) (pa_cons (pe_bltn (v := .ty "bool") (by rfl) T.n_bool PyProof.Rows.Boot.«bool» rfl) pa_nil)))) (pe_one (pe_cmpR op_eq (pv 0) (pv 1) (nomark _))))))) pss_nil)
      (pss_one (ps_ret (pe_and (pe_callB call_isi (by rfl) T.n_isinstance PyProof.Rows.Boot.«isinstance» (pa_cons (pv 0) (pa_cons (pe_bltn (v := .ty "str") (by rfl) T.n_str PyProof.Rows.Boot.«str» rfl) pa_nil))) (pe_one (pe_cmpR op_eq (pv 0) (pv 1) (nomark _)))))))))), ?_⟩)
  · obtain ⟨x, y, d, rfl, _⟩ := h
    rfl
  · obtain ⟨x, y, d, rfl, hx, hy, hd, hm, q⟩ := h
    cases d with
    | non =>
      cases dat_non_inv hx
      cases dat_non_inv hy
      walk_at "w15"
      exact q _ Chg.refl
    | int i =>
      cases dat_int_inv hx
      cases dat_int_inv hy
      walk_at "w15"
      refine isiW (b := false) tyI (by decide +kernel) ?_
      walk_at "w15"
      refine isiW (b := false) tyI (by decide +kernel) ?_
      walk_at "w15"
      refine isiW (b := true) tyI (by decide +kernel) ?_
      walk_at "w15"
      refine isiW (b := true) tyI (by decide +kernel) ?_
      walk_at "w15"
      refine isiW (b := false) tyI (by decide +kernel) ?_
      walk_at "w15"
      exact q _ Chg.refl
    | str i =>
      cases dat_str_inv hx
      cases dat_str_inv hy
      walk_at "w15"
      refine isiW (b := false) tyS (by decide +kernel) ?_
      walk_at "w15"
      refine isiW (b := false) tyS (by decide +kernel) ?_
      walk_at "w15"
      refine isiW (b := false) tyS (by decide +kernel) ?_
      walk_at "w15"
      refine isiW (b := true) tyS (by decide +kernel) ?_
      walk_at "w15"
      exact q _ Chg.refl
    | tup l =>
      obtain ⟨ax, xs, rfl, sx, gx⟩ := DatAt.tup_inv hx
      obtain ⟨ay, ys, rfl, sy, gy⟩ := DatAt.tup_inv hy
      rw [dDep] at hd
      have lx := gx.len
      have ly := gy.len
      walk_at "w15"
      refine isiW (b := true) (tyT sy) (by decide +kernel) ?_
      walk_at "w15"
      refine isiW (b := true) (tyT sx) (by decide +kernel) ?_
      walk_at "w15"
      rw [dMax] at hm
      have hm1 := Nat.le_trans (Nat.le_max_left _ _) hm
      refine ⟨xs, .inr sx, ys, .inr sy, ?_⟩
      rw [lx, ly, decide_eq_true (rfl : ((l.length : Nat) : Int) = ((l.length : Nat) : Int))]
      walk_at "w15"
      refine ⟨ys, .inr sy, by omega, by rw [ly]; have : ((1000 : Nat) : Int) < 2 ^ 62 := by decide
                                        omega, forR (n := _) (fun i σ H1 => (∃ o, σ = [some (.ref ax), some (.ref ay), o]) ∧ Chg [] H H1) ⟨⟨_, rfl⟩, Chg.refl⟩ ?_ ?_⟩
      · rintro i σ H1 hi ⟨⟨o, rfl⟩, c⟩
        have hil : i < l.length := by omega
        have hix : i < xs.length := by omega
        have hiy : i < ys.length := by omega
        walk_at "w16"
        refine ixT (c.sqT sx) (v := xs[i]) (atI_nat (List.getElem?_eq_getElem hix)) ?_
        refine ixT (c.sqT sy) (v := ys[i]) (atI_nat (List.getElem?_eq_getElem hiy)) ?_
        obtain ⟨d1, e1, g1⟩ := gx.at (List.getElem?_eq_getElem hix)
        obtain ⟨d2, e2, g2⟩ := gy.at (List.getElem?_eq_getElem hiy)
        rw [e1] at e2
        cases e2
        have hmem : d1 ∈ l := List.mem_of_getElem? e1
        have z1 := dDeps_mem hmem
        have z2 := dMaxs_mem hmem
        have z3 := Nat.le_trans (Nat.le_max_right l.length (dMaxs l)) hm
        refine ⟨_, _, d1, rfl, g1.chg c, g2.chg c, by omega, by omega, fun H2 c2 => ?_⟩
        walk_at "w15"
        exact c.trans c2
      · rintro σ H1 ⟨⟨o, rfl⟩, c⟩
        walk_at "w15"
        exact q _ c
theorem ok34 (T : Tx P K mg base a fd) : ∀ n : Nat, FnOk P w K mg base CX0 (n + 1) (a 34) (fd 34) ["_law_actual", "_law_due"] (sp34 K n)
  | 0 => (FnOk.never (ps := ["_law_actual", "_law_due"])).imp fun vs H Q E h => by
    obtain ⟨x, y, d, _, _, _, z, _⟩ := h
    exact absurd z (Nat.not_lt_zero _)
  | n + 1 => ok34s T n (ok34 T n)
end
end Cc
set_option maxRecDepth 100000
set_option maxHeartbeats 400000
/-! The law's generator: what it keeps. -/
namespace Cc
open PySem PySem.Spec PyProof.Rows L2
def KSeq (K : PySem.W.Frag) (a : Addr) (xs : List V) : Prop := ∃ (o : Obj) (its : Array Value) (n : Nat), K.lookup a = some o ∧ o.cls = .type "list" ∧ o.dict = none ∧ o.data = .seq its n ∧ its.size ≤ sizeLine ∧ Vals xs its.toList
structure GX (K : PySem.W.Frag) (H : Hp) (st sc : Addr) (ns : List Int) (k : Int) : Prop where
  cells : ∃ s0 s1 s2 : Int, H st = some (.lst [.int s0, .int s1, .int s2, .int k]) ∧ 0 ≤ s0 ∧ 0 ≤ s1 ∧ 0 ≤ s2 ∧ s2 < 2147483647
  scr : SqL K H sc (ns.map V.int)
  ne : sc ≠ st ∨ KSeq K sc (ns.map V.int)
section
variable {K : PySem.W.Frag} {H H' : Hp} {st sc : Addr} {ns : List Int} {k : Int} {M : List Addr}
theorem GX.chg (g : GX K H st sc ns k) (c : Chg [] H H') : GX K H' st sc ns k := by
  obtain ⟨s0, s1, s2, h, r⟩ := g.cells
  exact ⟨⟨s0, s1, s2, c.get h, r⟩, c.sqL g.scr, g.ne⟩
theorem GX.keep (g : GX K H st sc ns k) (c : Chg [st] H H') : SqL K H' sc (ns.map V.int) := by
  rcases g.ne with n | n
  · exact c.sqL' g.scr (by simpa using n)
  · exact .inr n
/-- the script and a new list -/
theorem GX.first (h : SqL K H sc (ns.map V.int)) (n : H st = none) : st ≠ sc ∨ KSeq K sc (ns.map V.int) := by
  rcases h with (h | ⟨o, h⟩) | h
  · exact .inl (Ne.symm (ne_of_none h n))
  · exact .inl (Ne.symm (ne_of_none h n))
  · exact .inr h
theorem GX.new (g : GX K H st sc ns k) {p : Addr} (h : H p = none) : p ≠ st := by
  obtain ⟨s0, s1, s2, h2, r⟩ := g.cells
  exact Ne.symm (ne_of_none h2 h)
end
section
variable {K : PySem.W.Frag} {H H' H1 : Hp} {st sc : Addr} {ns : List Int} {k k1 : Int} {D : Addr}
/-- a change of a thing that came after H1 -/
theorem GX.own (G1 : GX K H1 st sc ns k1) (hD : H1 D = none) (G : GX K H st sc ns k) (c : Chg [D] H H') (cc : Chg [st] H1 H') : GX K H' st sc ns k := by
  obtain ⟨s0, s1, s2, h, r⟩ := G.cells
  exact ⟨⟨s0, s1, s2, c.keep _ _ h trivial (by simpa using Ne.symm (G1.new hD)), r⟩, G1.keep cc, G1.ne⟩
theorem GX.setK (G : GX K H st sc ns k) (k' : Int) : ∃ s0 s1 s2 : Int, H st = some (.lst [.int s0, .int s1, .int s2, .int k]) ∧ GX K (upd H st (.lst [.int s0, .int s1, .int s2, .int k'])) st sc ns k' ∧ Chg [st] H (upd H st (.lst [.int s0, .int s1, .int s2, .int k'])) := by
  obtain ⟨s0, s1, s2, h, r⟩ := G.cells
  have c : Chg [st] H (upd H st (.lst [.int s0, .int s1, .int s2, .int k'])) := Chg.put h trivial (by simp)
  exact ⟨s0, s1, s2, h, ⟨⟨s0, s1, s2, upd_same, r⟩, G.keep c, G.ne⟩, c⟩
end
/-- a comprehension over a range, whose items may change what stands at M -/
theorem lcR {g : TG} {tt : TT} {te : TE} {vs : List Nat} {σ : L2.St} {H1 : Hp} {Q : VK} {lo : Int} {n : Nat} {M : List Addr} (hM : ∀ m ∈ M, ∃ o, H1 m = some o) (S : Nat → List V → Hp → Prop) (h0 : S 0 [] H1)
    (hS : ∀ i acc H H' D, H1 D = none → Chg M H1 H' → Chg [D] H H' → S i acc H → S i acc H') (hz : ∀ i acc H, S i acc H → acc.length < sizeLine)
    (hs : ∀ i H acc (N' : V → Hp → Prop) (N : Hp → Prop), i < n → Chg M H1 H → S i acc H → (∀ y H4, Chg M H H4 → S (i + 1) (acc ++ [y]) H4 → N' y H4) →
      g (.int (lo + i)) (wipe σ vs) H fun σ2 H2 => wipe σ2 vs = wipe σ vs ∧ tt σ2 H2 fun b H3 => if b = true then te σ2 H3 N' else N H3)
    (hd : ∀ D H acc, H1 D = none → Chg M H1 H → H D = some (.lst acc) → S n acc H → Q (.ref D) H) : lcB g tt te vs σ (Itr lo n) H1 Q := by
  intro D hD
  have hDM : D ∉ M := fun z => by obtain ⟨o, e⟩ := hM D z; rw [hD] at e; cases e
  refine ⟨fun i m H => m = n - i ∧ i ≤ n ∧ ∃ acc, Chg M H1 H ∧ H D = some (.lst acc) ∧ S i acc H, ⟨n, by simp, Nat.zero_le _, [], Chg.new hD, upd_same, hS _ _ _ _ D hD (Chg.new hD) (Chg.new hD) h0⟩, ?_⟩
  rintro i m H ⟨rfl, hi, acc, c, e, w⟩
  by_cases hlt : i < n
  · refine .inr ⟨hlt, fun H' => ∃ acc, Chg M H1 H' ∧ H' D = some (.lst acc) ∧ S (i + 1) acc H', fun H' p' => ⟨n - (i + 1), by omega, rfl, hlt, p'⟩, fun x H' y => ?_⟩
    obtain ⟨rfl, rfl⟩ := y
    refine hs i H' acc _ _ hlt c w (fun y H4 c4 w4 => ⟨acc, c4.keep _ _ e trivial hDM, hz _ _ _ w, acc ++ [y], (c.trans c4).own hD, upd_same, ?_⟩)
    exact hS _ _ _ _ D hD ((c.trans c4).own hD) (Chg.put (c4.keep _ _ e trivial hDM) trivial (by simp)) w4
  · have q : i = n := by omega
    subst q
    exact .inl ⟨Nat.le_refl _, hd D H acc hD c e w⟩
/-- the names and the procedures of a world -/
def rowD (r : Str × Nat) : D := .tup [.str r.1, .int r.2]
def NX (K : PySem.W.Frag) (H : Hp) (st nl : Addr) (names : List Str) : Prop := SqL K H nl (names.map V.str) ∧ nl ≠ st ∧ names.length ≤ 20
def PX (K : PySem.W.Frag) (H : Hp) (st pl : Addr) (R : List (Str × Nat)) : Prop := (∃ ps, SqL K H pl ps ∧ DatsAt K H (R.map rowD) ps) ∧ pl ≠ st ∧ R ≠ [] ∧ R.length ≤ 5 ∧ ∀ r ∈ R, r.2 ≤ 2
def WX (K : PySem.W.Frag) (H : Hp) (st wd : Addr) (names : List Str) (R : List (Str × Nat)) : Prop := ∃ nl pl, SqT K H wd [.ref nl, .ref pl] ∧ NX K H st nl names ∧ PX K H st pl R
section
variable {K : PySem.W.Frag} {H H' : Hp} {st nl pl wd : Addr} {names : List Str} {R : List (Str × Nat)}
theorem NX.chg (g : NX K H st nl names) (c : Chg [st] H H') : NX K H' st nl names := ⟨c.sqL' g.1 (by simpa using g.2.1), g.2⟩
theorem PX.chg (g : PX K H st pl R) (c : Chg [st] H H') : PX K H' st pl R := by
  obtain ⟨⟨ps, h1, h2⟩, r⟩ := g
  exact ⟨⟨ps, c.sqL' h1 (by simpa using r.1), h2.chg c⟩, r⟩
theorem WX.chg (g : WX K H st wd names R) (c : Chg [st] H H') : WX K H' st wd names R := by
  obtain ⟨nl, pl, h1, h2, h3⟩ := g
  exact ⟨nl, pl, c.sqT h1, h2.chg c, h3.chg c⟩
end
/-- a statement as the generator makes it -/
def okS0 (R : List (Str × Nat)) (V : List Str) : Sm → Prop
  | .set n e => n ∈ V ∧ okEx V e
  | .ask n => n ∈ V
  | .tell e => okEx V e
  | .ret e => okEx V e
  | .chk c => okCd V c
  | .need c => okCd V c
  | .ite c _ _ => okCd V c
  | .whl c _ => okCd V c
  | .call q es t => (q, es.length) ∈ R ∧ (∀ e ∈ es, okEx V e) ∧ ∀ n, t = some n → n ∈ V
def okB0 (R : List (Str × Nat)) (V : List Str) (b : List Sm) : Prop := ∀ s ∈ allB b, okS0 R V s
theorem okB0_nil {R : List (Str × Nat)} {V : List Str} : okB0 R V [] := fun s h => by rw [allB] at h; simp at h
theorem okB0_app {R : List (Str × Nat)} {V : List Str} {b c : List Sm} (h : okB0 R V b) (g : okB0 R V c) : okB0 R V (b ++ c) := fun s hs => by
  rw [allB_append] at hs
  rcases List.mem_append.mp hs with hs | hs
  · exact h s hs
  · exact g s hs
/-- a statement and all within it -/
def okT0 (R : List (Str × Nat)) (V : List Str) (s : Sm) : Prop := okS0 R V s ∧ ∀ t ∈ allI s, okS0 R V t
theorem okB0_one {R : List (Str × Nat)} {V : List Str} {s : Sm} (h : okT0 R V s) : okB0 R V [s] := fun t ht => by
  rw [allB_one] at ht
  rcases List.mem_cons.mp ht with e | ht
  · rw [e]; exact h.1
  · exact h.2 t ht
theorem depB_app : ∀ (x y : List Sm), depB (x ++ y) = max (depB x) (depB y)
  | [], y => by rw [List.nil_append, depB, Nat.zero_max]
  | s :: r, y => by rw [List.cons_append, depB, depB, depB_app r y, Nat.max_assoc]
theorem depB_one (s : Sm) : depB [s] = depS s := by rw [depB, depB, Nat.max_zero]
theorem okE_mono {V W : List Str} (h : ∀ n ∈ V, n ∈ W) : ∀ {e : Ex}, okE V e → okE W e
  | .num i, g => by rw [okE] at g ⊢; exact g
  | .nm n, g => by rw [okE] at g ⊢; exact h n g
  | .op s l r, g => by
    rw [okE] at g ⊢
    exact ⟨g.1, okE_mono h g.2.1, okE_mono h g.2.2⟩
theorem okC_mono {V W : List Str} (h : ∀ n ∈ V, n ∈ W) : ∀ {c : Cd}, okC V c → okC W c
  | .cmp _ l r, g => by rw [okC] at g ⊢; exact ⟨okE_mono h g.1, okE_mono h g.2.1, g.2.2⟩
  | .neg c, g => by rw [okC] at g ⊢; exact okC_mono h g
  | .bin _ l r, g => by rw [okC] at g ⊢; exact ⟨okC_mono h g.1, okC_mono h g.2⟩
theorem okS_of {G : Pg} {R : List (Str × Nat)} {V W : List Str} (h : ∀ n ∈ V, n ∈ W) (hR : ∀ q c, (q, c) ∈ R → ∃ pq, procOf G q = some pq ∧ c = pq.params.length) {s : Sm} (g : okS0 R V s) : okS G W s := by
  cases s with
  | set n e => exact ⟨h n g.1, okE_mono h g.2.1, g.2.2⟩
  | ask n => exact h n g
  | tell e => exact ⟨okE_mono h g.1, g.2⟩
  | ret e => exact ⟨okE_mono h g.1, g.2⟩
  | chk c => exact ⟨okC_mono h g.1, g.2⟩
  | need c => exact ⟨okC_mono h g.1, g.2⟩
  | ite c a b => exact ⟨okC_mono h g.1, g.2⟩
  | whl c b => exact ⟨okC_mono h g.1, g.2⟩
  | call q es t => exact ⟨hR q _ g.1, fun e he => ⟨okE_mono h (g.2.1 e he).1, (g.2.1 e he).2⟩, fun n hn => h n (g.2.2 n hn)⟩
end Cc
set_option maxRecDepth 100000
set_option maxHeartbeats 4000000
/-! the law: next -/
namespace Cc
open PySem PySem.Spec PyProof.Rows L2
theorem scs33 : FnScope ["_law_state", "_law_script", "_law_many", "_law_answer", "_law_cell"] ["_law_state", "_law_script", "_law_many"] (defScope (dst 33)) := ⟨rfl, rfl, rfl, by decide +kernel, rfl, by decide +kernel, by decide +kernel⟩
def sp33 (K : PySem.W.Frag) : Sp := fun vs H Q _ => ∃ (st sc : Addr) (ns : List Int) (k m : Int), vs = [.ref st, .ref sc, .int m] ∧ GX K H st sc ns k ∧ 1 ≤ m ∧ m ≤ 30000 ∧ ∀ r H', GX K H' st sc ns k → Chg [st] H H' → 0 ≤ r → r < m → Q (.int r) H'
theorem fmod_lt {a m : Int} (h : 1 ≤ m) : 0 ≤ a.fmod m ∧ a.fmod m < m := by
  rw [Int.fmod_eq_emod_of_nonneg a (by omega)]
  exact ⟨Int.emod_nonneg a (by omega), Int.emod_lt_of_pos a (by omega)⟩
theorem fdiv_nn {a m : Int} (h : 1 ≤ m) (g : 0 ≤ a) : 0 ≤ a.fdiv m := by
  rw [Int.fdiv_eq_ediv_of_nonneg a (by omega)]
  exact Int.ediv_nonneg g (by omega)
/-- an item of a list just made -/
theorem ixN1 {K : PySem.W.Frag} {H : Hp} {a : Addr} {xs : List V} {i : Int} {Q : VK} (h : SqL K H a xs) (h0 : 0 ≤ i) (h1 : i < xs.length) (q : ∀ v, v ∈ xs → xs[i.toNat]? = some v → Q v H) : rIxL K (.ref a) (.int i) H Q := by
  have hl : i.toNat < xs.length := by omega
  refine ixL h (v := xs[i.toNat]) ?_ (q _ (List.getElem_mem hl) (List.getElem?_eq_getElem hl))
  have e : atI xs ((i.toNat : Nat) : Int) = some xs[i.toNat] := atI_nat (List.getElem?_eq_getElem hl)
  rw [show ((i.toNat : Nat) : Int) = i by omega] at e
  exact e
section
variable {P : Program} {w : World} {K : PySem.W.Frag} {mg : Str → Option Value} {base : Heap} {a : Nat → Addr} {fd : Nat → FuncData}
theorem ok33 (T : Tx P K mg base a fd) : FnOk P w K mg base CX0 1 (a 33) (fd 33) ["_law_state", "_law_script", "_law_many"] (sp33 K) := by
  refine T.D33.fn.ok scs33 (fun vs H Q E h => ?_) (fun cdv A outer s H vs Q E hr h => ⟨_, (pss_cons (ps_if (pt_cmpR op_gt (pe_ix (ixLK (K := K) rfl) (pv 0) pe_int (fun _ _ => rfl)) pe_int (nomark _)) (pss_cons (ps_set (i := 3) scs33.nd rfl (Or.inl rfl) (pe_op op_modN (pe_callTy call_int1 (by rfl) T.n_int PyProof.Rows.Boot.«int» (pa_cons (pe_ix (ixLK (K := K) rfl) (pv 0) pe_int (fun _ _ => rfl)) pa_nil)) (pv 2)))
      (pss_cons (ps_asg (pe_op op_fdivN (pe_callTy call_int1 (by rfl) T.n_int PyProof.Rows.Boot.«int» (pa_cons (pe_ix (ixLK (K := K) rfl) (pv 0) pe_int (fun _ _ => rfl)) pa_nil)) (pv 2)) (pg_sub (pv 0) pe_int set_list))
      (pss_one (ps_ret (pv 3))))) pss_nil)
      (pss_cons (ps_set (i := 4) scs33.nd rfl (Or.inl rfl) pe_int)
      (pss_cons (ps_if (pt_cmpR op_lt (pe_ix (ixLK (K := K) rfl) (pv 0) pe_int (fun _ _ => rfl)) (pe_callB call_len_seq (by rfl) T.n_len PyProof.Rows.Boot.«len» (pa_cons (pv 1) pa_nil)) (nomark _)) (pss_one (ps_set (i := 4) scs33.nd rfl (Or.inl rfl) (pe_callB call_abs (by rfl) T.n_abs PyProof.Rows.Boot.«abs» (pa_cons (pe_callTy call_int1 (by rfl) T.n_int PyProof.Rows.Boot.«int» (pa_cons (pe_ix (ixLK (K := K) rfl) (pv 1) (pe_ix (ixLK (K := K) rfl) (pv 0) pe_int (fun _ _ => rfl)) (fun _ _ => rfl)) pa_nil)) pa_nil)))) pss_nil)
      (pss_cons (ps_asg (pe_op op_add (pe_ix (ixLK (K := K) rfl) (pv 0) pe_int (fun _ _ => rfl)) pe_int) (pg_sub (pv 0) pe_int set_list))
      (pss_cons (ps_if (pt_cmpR op_ge (pv 4) (pe_op op_pow pe_int pe_int) (nomark _)) (pss_cons (ps_asg (pe_op op_fdivN (pv 4) (pv 2)) (pg_sub (pv 0) pe_int set_list))
      (pss_one (ps_ret (pe_op op_modN (pe_callTy call_int1 (by rfl) T.n_int PyProof.Rows.Boot.«int» (pa_cons (pv 4) pa_nil)) (pv 2))))) pss_nil)
      (pss_cons (ps_asg (pe_op op_modN (pe_callTy call_int1 (by rfl) T.n_int PyProof.Rows.Boot.«int» (pa_cons (pe_op op_add (pe_op op_add (pe_op op_mul (pe_ix (ixLK (K := K) rfl) (pv 0) pe_int (fun _ _ => rfl)) pe_int) (pe_op op_mul (pv 4) pe_int)) pe_int) pa_nil)) pe_int) (pg_sub (pv 0) pe_int set_list))
      (pss_one (ps_ret (pe_op op_modN (pe_callTy call_int1 (by rfl) T.n_int PyProof.Rows.Boot.«int» (pa_cons (pe_op op_add (pe_op op_fdivN (pe_ix (ixLK (K := K) rfl) (pv 0) pe_int (fun _ _ => rfl)) pe_int) (pe_op op_fdivN (pe_op op_mul (pe_ix (ixLK (K := K) rfl) (pv 0) pe_int (fun _ _ => rfl)) (pe_ix (ixLK (K := K) rfl) (pv 0) pe_int (fun _ _ => rfl))) pe_int)) pa_nil)) (pv 2)))))))))), ?_⟩)
  · obtain ⟨st, sc, ns, k, m, rfl, _⟩ := h
    rfl
  · obtain ⟨st, sc, ns, k, m, rfl, G, h1, h2, q⟩ := h
    obtain ⟨s0, s1, s2, hst, p0, p1, p2, p3⟩ := G.cells
    have put : ∀ (a0 a1 a2 : Int) (H1 : Hp), GX K H1 st sc ns k → Chg [st] H H1 → 0 ≤ a0 → 0 ≤ a1 → 0 ≤ a2 → a2 < 2147483647 → GX K (upd H1 st (.lst [.int a0, .int a1, .int a2, .int k])) st sc ns k ∧ Chg [st] H (upd H1 st (.lst [.int a0, .int a1, .int a2, .int k])) := fun a0 a1 a2 H1 G1 c1 z0 z1 z2 z3 => by
      obtain ⟨_, _, _, h, _⟩ := G1.cells
      have c : Chg [st] H1 (upd H1 st (.lst [.int a0, .int a1, .int a2, .int k])) := Chg.put h trivial (by simp)
      exact ⟨⟨⟨a0, a1, a2, upd_same, z0, z1, z2, z3⟩, G1.keep c, G1.ne⟩, c1.trans c⟩
    try walk_at "w15"
    refine ixL (SqL.of hst) rfl ?_
    try walk_at "w15"
    by_cases h : 0 < s1
    · rw [if_pos h]
      refine ixL (SqL.of hst) rfl (.inl ⟨_, rfl, by omega, ixL (SqL.of hst) rfl (.inl ⟨_, rfl, ⟨by omega, by omega⟩, _, hst, 1, rfl, ?_⟩)⟩)
      obtain ⟨G2, c2⟩ := put s0 (s1.fdiv m) s2 H G Chg.refl p0 (fdiv_nn h1 p1) p2 p3
      exact q _ _ G2 c2 (fmod_lt h1).1 (fmod_lt h1).2
    · rw [if_neg h]
      refine ixL (SqL.of hst) rfl ⟨ns.map V.int, .inl G.scr, s0, rfl, ?_⟩
      rw [List.length_map]
      by_cases hl : s0 < ((ns.length : Nat) : Int)
      · rw [if_pos hl]
        have hs0 : s0.toNat < ns.length := by omega
        refine ixL (SqL.of hst) rfl (ixN1 G.scr p0 (by rw [List.length_map]; exact hl) fun v hv hv2 => ?_)
        rw [List.getElem?_map, List.getElem?_eq_getElem hs0] at hv2
        cases hv2
        refine .inl ⟨_, rfl, ?_⟩
        generalize hcell : (if ns[s0.toNat] < 0 then -ns[s0.toNat] else ns[s0.toNat]) = cell
        have hc0 : 0 ≤ cell := by rw [← hcell]; split <;> omega
        refine ixL (SqL.of hst) rfl ⟨_, rfl, _, hst, 0, rfl, ?_⟩
        obtain ⟨G2, c2⟩ := put (s0 + 1) s1 s2 H G Chg.refl (by omega) p1 p2 p3
        have hst2 : (upd H st (.lst [.int (s0 + 1), .int s1, .int s2, .int k])) st = some (.lst [.int (s0 + 1), .int s1, .int s2, .int k]) := upd_same
        rw [show [V.int s0, V.int s1, V.int s2, V.int k].set 0 (V.int (s0 + 1)) = [V.int (s0 + 1), V.int s1, V.int s2, V.int k] from rfl]
        refine ⟨by unfold CPow; decide, ?_⟩
        by_cases hb : (10 : Int) ^ Int.toNat 18 ≤ cell
        · rw [if_pos hb]
          obtain ⟨G3, c3⟩ := put (s0 + 1) (Int.fdiv cell m) s2 _ G2 c2 (by omega) (fdiv_nn h1 hc0) p2 p3
          exact ⟨⟨by omega, by omega⟩, _, hst2, 1, rfl, by omega, q _ _ G3 c3 (fmod_lt h1).1 (fmod_lt h1).2⟩
        · rw [if_neg hb]
          refine ixL (SqL.of hst2) rfl ⟨_, rfl, .inr (by decide), .inr (by decide), by decide, _, hst2, 2, rfl, ?_⟩
          obtain ⟨z1, z2⟩ := fmod_lt (a := s2 * 48271 + cell * 69621 + 12345) (m := 2147483647) (by decide)
          obtain ⟨G3, c3⟩ := put (s0 + 1) s1 ((s2 * 48271 + cell * 69621 + 12345).fmod 2147483647) _ G2 c2 (by omega) p1 z1 z2
          rw [show [V.int (s0 + 1), V.int s1, V.int s2, V.int k].set 2 (V.int ((s2 * 48271 + cell * 69621 + 12345).fmod 2147483647)) = [V.int (s0 + 1), V.int s1, V.int ((s2 * 48271 + cell * 69621 + 12345).fmod 2147483647), V.int k] from rfl]
          generalize hz : (s2 * 48271 + cell * 69621 + 12345).fmod 2147483647 = z at z1 z2 G3 c3 ⊢
          exact ixL (SqL.of upd_same) rfl ⟨_, rfl, by unfold CDivN; decide, ixL (SqL.of upd_same) rfl (ixL (SqL.of upd_same) rfl ⟨_, rfl, _, rfl, .inl (by omega), by unfold CDivN; decide, by omega, q _ _ G3 c3 (fmod_lt h1).1 (fmod_lt h1).2⟩)⟩
      · rw [if_neg hl]
        have hc0 : (0 : Int) ≤ 0 := by decide
        refine ixL (SqL.of hst) rfl ⟨_, rfl, _, hst, 0, rfl, ?_⟩
        obtain ⟨G2, c2⟩ := put (s0 + 1) s1 s2 H G Chg.refl (by omega) p1 p2 p3
        have hst2 : (upd H st (.lst [.int (s0 + 1), .int s1, .int s2, .int k])) st = some (.lst [.int (s0 + 1), .int s1, .int s2, .int k]) := upd_same
        rw [show [V.int s0, V.int s1, V.int s2, V.int k].set 0 (V.int (s0 + 1)) = [V.int (s0 + 1), V.int s1, V.int s2, V.int k] from rfl]
        refine ⟨by unfold CPow; decide, ?_⟩
        by_cases hb : (10 : Int) ^ Int.toNat 18 ≤ 0
        · rw [if_pos hb]
          obtain ⟨G3, c3⟩ := put (s0 + 1) (Int.fdiv 0 m) s2 _ G2 c2 (by omega) (fdiv_nn h1 hc0) p2 p3
          exact ⟨⟨by omega, by omega⟩, _, hst2, 1, rfl, by omega, q _ _ G3 c3 (fmod_lt h1).1 (fmod_lt h1).2⟩
        · rw [if_neg hb]
          refine ixL (SqL.of hst2) rfl ⟨_, rfl, .inr (by decide), .inr (by decide), by decide, _, hst2, 2, rfl, ?_⟩
          obtain ⟨z1, z2⟩ := fmod_lt (a := s2 * 48271 + 0 * 69621 + 12345) (m := 2147483647) (by decide)
          obtain ⟨G3, c3⟩ := put (s0 + 1) s1 ((s2 * 48271 + 0 * 69621 + 12345).fmod 2147483647) _ G2 c2 (by omega) p1 z1 z2
          rw [show [V.int (s0 + 1), V.int s1, V.int s2, V.int k].set 2 (V.int ((s2 * 48271 + 0 * 69621 + 12345).fmod 2147483647)) = [V.int (s0 + 1), V.int s1, V.int ((s2 * 48271 + 0 * 69621 + 12345).fmod 2147483647), V.int k] from rfl]
          generalize hz : (s2 * 48271 + 0 * 69621 + 12345).fmod 2147483647 = z at z1 z2 G3 c3 ⊢
          exact ixL (SqL.of upd_same) rfl ⟨_, rfl, by unfold CDivN; decide, ixL (SqL.of upd_same) rfl (ixL (SqL.of upd_same) rfl ⟨_, rfl, _, rfl, .inl (by omega), by unfold CDivN; decide, by omega, q _ _ G3 c3 (fmod_lt h1).1 (fmod_lt h1).2⟩)⟩
end
end Cc
set_option maxRecDepth 100000
set_option maxHeartbeats 4000000
/-! the law: number, expression, comparison, condition -/
namespace Cc
open PySem PySem.Spec PyProof.Rows L2
theorem scs35 : FnScope ["_law_state", "_law_script", "_law_choice"] ["_law_state", "_law_script"] (defScope (dst 35)) := ⟨rfl, rfl, rfl, by decide +kernel, rfl, by decide +kernel, by decide +kernel⟩
def sp35 (K : PySem.W.Frag) : Sp := fun vs H Q _ => ∃ (st sc : Addr) (ns : List Int) (k : Int), vs = [.ref st, .ref sc] ∧ GX K H st sc ns k ∧ ∀ r H', GX K H' st sc ns k → Chg [st] H H' → Sml r → Q (.int r) H'
section
variable {P : Program} {w : World} {K : PySem.W.Frag} {mg : Str → Option Value} {base : Heap} {a : Nat → Addr} {fd : Nat → FuncData}
theorem ok35 (T : Tx P K mg base a fd) : FnOk P w K mg base CX0 2 (a 35) (fd 35) ["_law_state", "_law_script"] (sp35 K) := by
  refine T.D35.fn.ok scs35 (fun vs H Q E h => ?_) (fun cdv A outer s H vs Q E hr h => ⟨_, (pss_cons (ps_set (i := 2) scs35.nd rfl (Or.inl rfl) (pe_call (ok33 T) (hr.mono (by first | exact Nat.le_refl _ | decide | omega)) rfl T.D33.mg T.D33.kp T.D33.bd .nil pass0 (pa_cons (pv 0) (pa_cons (pv 1) (pa_cons pe_int pa_nil)))))
      (pss_cons (ps_if (pt_cmpR op_lt (pv 2) pe_int (nomark _)) (pss_one (ps_ret (pe_op op_sub (pe_call (ok33 T) (hr.mono (by first | exact Nat.le_refl _ | decide | omega)) rfl T.D33.mg T.D33.kp T.D33.bd .nil pass0 (pa_cons (pv 0) (pa_cons (pv 1) (pa_cons pe_int pa_nil)))) pe_int))) pss_nil)
      (pss_cons (ps_if (pt_cmpR op_eq (pv 2) pe_int (nomark _)) (pss_one (ps_ret (pe_ix (ixLK (K := K) rfl) (pe_lst (pa_cons pe_int (pa_cons pe_int (pa_cons pe_int (pa_cons pe_int (pa_cons pe_int pa_nil)))))) (pe_call (ok33 T) (hr.mono (by first | exact Nat.le_refl _ | decide | omega)) rfl T.D33.mg T.D33.kp T.D33.bd .nil pass0 (pa_cons (pv 0) (pa_cons (pv 1) (pa_cons pe_int pa_nil)))) (fun _ _ => rfl)))) pss_nil)
      (pss_cons (ps_if (pt_cmpR op_eq (pv 2) pe_int (nomark _)) (pss_one (ps_ret (pe_op op_sub pe_int (pe_call (ok33 T) (hr.mono (by first | exact Nat.le_refl _ | decide | omega)) rfl T.D33.mg T.D33.kp T.D33.bd .nil pass0 (pa_cons (pv 0) (pa_cons (pv 1) (pa_cons pe_int pa_nil))))))) pss_nil)
      (pss_one (ps_ret (pe_ix (ixLK (K := K) rfl) (pe_lst (pa_cons pe_int (pa_cons (pe_un un_neg pe_int) (pa_cons pe_int (pa_cons pe_int (pa_cons (pe_un un_neg pe_int) (pa_cons pe_int pa_nil))))))) (pe_call (ok33 T) (hr.mono (by first | exact Nat.le_refl _ | decide | omega)) rfl T.D33.mg T.D33.kp T.D33.bd .nil pass0 (pa_cons (pv 0) (pa_cons (pv 1) (pa_cons pe_int pa_nil)))) (fun _ _ => rfl)))))))), ?_⟩)
  · obtain ⟨st, sc, ns, k, rfl, _⟩ := h
    rfl
  · obtain ⟨st, sc, ns, k, rfl, G, q⟩ := h
    try walk_at "w15"
    refine ⟨st, sc, ns, k, 8, rfl, G, by decide, by decide, fun r1 H1 G1 c1 z1 z2 => ?_⟩
    try walk_at "w15"
    by_cases h5 : r1 < 5
    · rw [if_pos h5]
      refine ⟨st, sc, ns, k, 12, rfl, G1, by decide, by decide, fun r2 H2 G2 c2 y1 y2 => ?_⟩
      try walk_at "w15"
      exact q _ _ G2 (c1.trans c2) (by unfold Sml; omega)
    · rw [if_neg h5]
      by_cases h6 : r1 = 5
      · rw [if_pos h6]
        refine ⟨by decide, fun p hp => ?_⟩
        have cp : Chg [] H1 (upd H1 p (.lst [.int 0, .int 1, .int 2, .int 10, .int 100])) := Chg.new hp
        refine ⟨st, sc, ns, k, 5, rfl, G1.chg cp, by decide, by decide, fun r2 H2 G2 c2 y1 y2 => ?_⟩
        refine ixN1 (c2.sqL' (SqL.of upd_same) (by simpa using G1.new hp)) y1 (by simpa using y2) fun v hv _ => ?_
        simp only [List.mem_cons, List.not_mem_nil, or_false] at hv
        try walk_at "w15"
        rcases hv with rfl | rfl | rfl | rfl | rfl <;> exact q _ _ G2 ((c1.trans cp.of0).trans c2) (by unfold Sml; omega)
      · rw [if_neg h6]
        by_cases h7 : r1 = 6
        · rw [if_pos h7]
          refine ⟨st, sc, ns, k, 20001, rfl, G1, by decide, by decide, fun r2 H2 G2 c2 y1 y2 => ?_⟩
          try walk_at "w15"
          exact q _ _ G2 (c1.trans c2) (by unfold Sml; omega)
        · rw [if_neg h7]
          refine ⟨by decide, fun p hp => ?_⟩
          have cp : Chg [] H1 (upd H1 p (.lst [.int 10000, .int (-10000), .int 9999, .int 101, .int (-1), .int 7])) := Chg.new hp
          refine ⟨st, sc, ns, k, 6, rfl, G1.chg cp, by decide, by decide, fun r2 H2 G2 c2 y1 y2 => ?_⟩
          refine ixN1 (c2.sqL' (SqL.of upd_same) (by simpa using G1.new hp)) y1 (by simpa using y2) fun v hv _ => ?_
          simp only [List.mem_cons, List.not_mem_nil, or_false] at hv
          try walk_at "w15"
          rcases hv with rfl | rfl | rfl | rfl | rfl | rfl <;> exact q _ _ G2 ((c1.trans cp.of0).trans c2) (by unfold Sml; omega)
end
theorem scs36 : FnScope ["_law_state", "_law_script", "_law_names", "_law_depth", "_law_choice", "_law_sign", "_law_left"] ["_law_state", "_law_script", "_law_names", "_law_depth"] (defScope (dst 36)) := ⟨rfl, rfl, rfl, by decide +kernel, rfl, by decide +kernel, by decide +kernel⟩
def sp36 (K : PySem.W.Frag) (n : Nat) : Sp := fun vs H Q _ => ∃ (st sc nl : Addr) (ns : List Int) (k : Int) (names : List Str) (d : Nat), vs = [.ref st, .ref sc, .ref nl, .int d] ∧ GX K H st sc ns k ∧ NX K H st nl names ∧ d < n ∧ ∀ e v H', GX K H' st sc ns k → Chg [st] H H' → okE names e → exDep e ≤ d → DatAt K H' e.d v → Q v H'
section
variable {P : Program} {w : World} {K : PySem.W.Frag} {mg : Str → Option Value} {base : Heap} {a : Nat → Addr} {fd : Nat → FuncData}
theorem ok36s (T : Tx P K mg base a fd) (n : Nat) (G36 : FnOk P w K mg base CX0 (n + 3) (a 36) (fd 36) ["_law_state", "_law_script", "_law_names", "_law_depth"] (sp36 K n)) : FnOk P w K mg base CX0 (n + 4) (a 36) (fd 36) ["_law_state", "_law_script", "_law_names", "_law_depth"] (sp36 K (n + 1)) := by
  refine T.D36.fn.ok scs36 (fun vs H Q E h => ?_) (fun cdv A outer s H vs Q E hr h => ⟨_, (pss_cons (ps_set (i := 4) scs36.nd rfl (Or.inl rfl) (pe_call (ok33 T) (hr.mono (by first | exact Nat.le_refl _ | decide | omega)) rfl T.D33.mg T.D33.kp T.D33.bd .nil pass0 (pa_cons (pv 0) (pa_cons (pv 1) (pa_cons pe_int pa_nil)))))
      (pss_cons (ps_if (PW.pt (pw_and (pt_cmpR op_gt (pv 3) pe_int (nomark _)) (pw_and1 (pt_cmpR op_lt (pv 4) pe_int (nomark _))))) (pss_cons (ps_set (i := 5) scs36.nd rfl (Or.inl rfl) (pe_ix (ixLK (K := K) rfl) (pe_lst (pa_cons pe_str (pa_cons pe_str (pa_cons pe_str (pa_cons pe_str (pa_cons pe_str (pa_cons pe_str (pa_cons pe_str pa_nil)))))))) (pe_call (ok33 T) (hr.mono (by first | exact Nat.le_refl _ | decide | omega)) rfl T.D33.mg T.D33.kp T.D33.bd .nil pass0 (pa_cons (pv 0) (pa_cons (pv 1) (pa_cons pe_int pa_nil)))) (fun _ _ => rfl)))
      (pss_cons (ps_set (i := 6) scs36.nd rfl (Or.inl rfl) (pe_call G36 (hr.mono (by first | exact Nat.le_refl _ | decide | omega)) rfl T.D36.mg T.D36.kp T.D36.bd .nil pass0 (pa_cons (pv 0) (pa_cons (pv 1) (pa_cons (pv 2) (pa_cons (pe_op op_sub (pv 3) pe_int) pa_nil))))))
      (pss_one (ps_ret (pe_tup (pa_cons pe_str (pa_cons (pv 5) (pa_cons (pv 6) (pa_cons (pe_call G36 (hr.mono (by first | exact Nat.le_refl _ | decide | omega)) rfl T.D36.mg T.D36.kp T.D36.bd .nil pass0 (pa_cons (pv 0) (pa_cons (pv 1) (pa_cons (pv 2) (pa_cons (pe_op op_sub (pv 3) pe_int) pa_nil))))) pa_nil))))))))) pss_nil)
      (pss_cons (ps_if (PW.pt (pw_and (pt_cmpR op_gt (pe_callB call_len_seq (by rfl) T.n_len PyProof.Rows.Boot.«len» (pa_cons (pv 2) pa_nil)) pe_int (nomark _)) (pw_and1 (pt_cmpR op_lt (pv 4) pe_int (nomark _))))) (pss_one (ps_ret (pe_tup (pa_cons pe_str (pa_cons (pe_ix (ixLK (K := K) rfl) (pv 2) (pe_call (ok33 T) (hr.mono (by first | exact Nat.le_refl _ | decide | omega)) rfl T.D33.mg T.D33.kp T.D33.bd .nil pass0 (pa_cons (pv 0) (pa_cons (pv 1) (pa_cons (pe_callB call_len_seq (by rfl) T.n_len PyProof.Rows.Boot.«len» (pa_cons (pv 2) pa_nil)) pa_nil)))) (fun _ _ => rfl)) pa_nil))))) pss_nil)
      (pss_one (ps_ret (pe_tup (pa_cons pe_str (pa_cons (pe_call (ok35 T) (hr.mono (by first | exact Nat.le_refl _ | decide | omega)) rfl T.D35.mg T.D35.kp T.D35.bd .nil pass0 (pa_cons (pv 0) (pa_cons (pv 1) pa_nil))) pa_nil)))))))), ?_⟩)
  · obtain ⟨st, sc, nl, ns, k, names, d, rfl, _⟩ := h
    rfl
  · obtain ⟨st, sc, nl, ns, k, names, d, rfl, G, N, hd, q⟩ := h
    try walk_at "w15"
    refine ⟨st, sc, ns, k, 6, rfl, G, by decide, by decide, fun r1 H1 G1 c1 z1 z2 => ?_⟩
    have N1 := N.chg c1
    try walk_at "w15"
    by_cases h0 : (0 : Int) < (d : Int)
    · rw [if_pos h0]
      by_cases h3 : r1 < 3
      · rw [if_pos h3]
        refine ⟨by decide, fun p hp => ?_⟩
        have cp : Chg [] H1 (upd H1 p (.lst [.str "+", .str "-", .str "*", .str "/", .str "mod", .str "+", .str "-"])) := Chg.new hp
        refine ⟨st, sc, ns, k, 7, rfl, G1.chg cp, by decide, by decide, fun r2 H2 G2 c2 y1 y2 => ?_⟩
        refine ixN1 (c2.sqL' (SqL.of upd_same) (by simpa using G1.new hp)) y1 (by simpa using y2) fun v hv _ => ?_
        have hsg : ∃ sg : Str, v = .str sg ∧ (sg = "+" ∨ sg = "-" ∨ sg = "*" ∨ sg = "/" ∨ sg = "mod") := by
          simp only [List.mem_cons, List.not_mem_nil, or_false] at hv
          rcases hv with rfl | rfl | rfl | rfl | rfl | rfl | rfl
          · exact ⟨_, rfl, .inl rfl⟩
          · exact ⟨_, rfl, .inr (.inl rfl)⟩
          · exact ⟨_, rfl, .inr (.inr (.inl rfl))⟩
          · exact ⟨_, rfl, .inr (.inr (.inr (.inl rfl)))⟩
          · exact ⟨_, rfl, .inr (.inr (.inr (.inr rfl)))⟩
          · exact ⟨_, rfl, .inl rfl⟩
          · exact ⟨_, rfl, .inr (.inl rfl)⟩
        obtain ⟨sg, rfl, hsg⟩ := hsg
        have N2 := (N1.chg cp.of0).chg c2
        have hd1 : (d : Int) - 1 = ((d - 1 : Nat) : Int) := by omega
        refine ⟨st, sc, nl, ns, k, names, d - 1, by rw [hd1], G2, N2, by omega, fun e3 v3 H3 G3 c3 o3 p3 a3 => ?_⟩
        refine ⟨st, sc, nl, ns, k, names, d - 1, by rw [hd1], G3, N2.chg c3, by omega, fun e4 v4 H4 G4 c4 o4 p4 a4 => ?_⟩
        refine ⟨by decide, fun p5 hp5 => ?_⟩
        have cp5 : Chg [] H4 (upd H4 p5 (.tup [.str "op", .str sg, v3, v4])) := Chg.new hp5
        refine q (.op sg e3 e4) _ _ (G4.chg cp5) (((((c1.trans cp.of0).trans c2).trans c3).trans c4).trans cp5.of0) (by rw [okE]; exact ⟨hsg, o3, o4⟩) (by rw [exDep]; omega) ?_
        rw [Ex.d]
        exact dat_tup (SqT.of upd_same) (dats_cons dat_str (dats_cons dat_str (dats_cons ((a3.chg c4).chg cp5) (dats_cons (a4.chg cp5) dats_nil))))
      · rw [if_neg h3]
        refine ⟨_, .inl N1.1, ?_⟩
        rw [List.length_map]
        by_cases hn : (0 : Int) < ((names.length : Nat) : Int)
        · rw [if_pos hn]
          by_cases h5 : r1 < 5
          · rw [if_pos h5]
            refine ⟨_, .inl N1.1, st, sc, ns, k, _, rfl, G1, by rw [List.length_map]; omega, by rw [List.length_map]; have := N.2.2; omega, fun r2 H2 G2 c2 y1 y2 => ?_⟩
            refine ixN1 (N1.chg c2).1 y1 y2 fun v hv _ => ?_
            obtain ⟨nm, hnm, rfl⟩ := List.mem_map.mp hv
            try walk_at "w15"
            refine ⟨by decide, fun p hp => ?_⟩
            have cp : Chg [] H2 (upd H2 p (.tup [.str "name", .str nm])) := Chg.new hp
            refine q (.nm nm) _ _ (G2.chg cp) ((c1.trans c2).trans cp.of0) (by rw [okE]; exact hnm) (by simp [exDep]) ?_
            rw [Ex.d]
            exact dat_tup (SqT.of upd_same) (dats_cons dat_str (dats_cons dat_str dats_nil))
          · rw [if_neg h5]
            refine ⟨st, sc, ns, k, rfl, G1, fun r2 H2 G2 c2 y1 => ?_⟩
            try walk_at "w15"
            refine ⟨by decide, fun p hp => ?_⟩
            have cp : Chg [] H2 (upd H2 p (.tup [.str "number", .int r2])) := Chg.new hp
            refine q (.num r2) _ _ (G2.chg cp) ((c1.trans c2).trans cp.of0) (by rw [okE]; exact y1) (by simp [exDep]) ?_
            rw [Ex.d]
            exact dat_tup (SqT.of upd_same) (dats_cons dat_str (dats_cons dat_int dats_nil))
        · rw [if_neg hn]
          refine ⟨st, sc, ns, k, rfl, G1, fun r2 H2 G2 c2 y1 => ?_⟩
          try walk_at "w15"
          refine ⟨by decide, fun p hp => ?_⟩
          have cp : Chg [] H2 (upd H2 p (.tup [.str "number", .int r2])) := Chg.new hp
          refine q (.num r2) _ _ (G2.chg cp) ((c1.trans c2).trans cp.of0) (by rw [okE]; exact y1) (by simp [exDep]) ?_
          rw [Ex.d]
          exact dat_tup (SqT.of upd_same) (dats_cons dat_str (dats_cons dat_int dats_nil))
    · rw [if_neg h0]
      refine ⟨_, .inl N1.1, ?_⟩
      rw [List.length_map]
      by_cases hn : (0 : Int) < ((names.length : Nat) : Int)
      · rw [if_pos hn]
        by_cases h5 : r1 < 5
        · rw [if_pos h5]
          refine ⟨_, .inl N1.1, st, sc, ns, k, _, rfl, G1, by rw [List.length_map]; omega, by rw [List.length_map]; have := N.2.2; omega, fun r2 H2 G2 c2 y1 y2 => ?_⟩
          refine ixN1 (N1.chg c2).1 y1 y2 fun v hv _ => ?_
          obtain ⟨nm, hnm, rfl⟩ := List.mem_map.mp hv
          try walk_at "w15"
          refine ⟨by decide, fun p hp => ?_⟩
          have cp : Chg [] H2 (upd H2 p (.tup [.str "name", .str nm])) := Chg.new hp
          refine q (.nm nm) _ _ (G2.chg cp) ((c1.trans c2).trans cp.of0) (by rw [okE]; exact hnm) (by simp [exDep]) ?_
          rw [Ex.d]
          exact dat_tup (SqT.of upd_same) (dats_cons dat_str (dats_cons dat_str dats_nil))
        · rw [if_neg h5]
          refine ⟨st, sc, ns, k, rfl, G1, fun r2 H2 G2 c2 y1 => ?_⟩
          try walk_at "w15"
          refine ⟨by decide, fun p hp => ?_⟩
          have cp : Chg [] H2 (upd H2 p (.tup [.str "number", .int r2])) := Chg.new hp
          refine q (.num r2) _ _ (G2.chg cp) ((c1.trans c2).trans cp.of0) (by rw [okE]; exact y1) (by simp [exDep]) ?_
          rw [Ex.d]
          exact dat_tup (SqT.of upd_same) (dats_cons dat_str (dats_cons dat_int dats_nil))
      · rw [if_neg hn]
        refine ⟨st, sc, ns, k, rfl, G1, fun r2 H2 G2 c2 y1 => ?_⟩
        try walk_at "w15"
        refine ⟨by decide, fun p hp => ?_⟩
        have cp : Chg [] H2 (upd H2 p (.tup [.str "number", .int r2])) := Chg.new hp
        refine q (.num r2) _ _ (G2.chg cp) ((c1.trans c2).trans cp.of0) (by rw [okE]; exact y1) (by simp [exDep]) ?_
        rw [Ex.d]
        exact dat_tup (SqT.of upd_same) (dats_cons dat_str (dats_cons dat_int dats_nil))
theorem ok36 (T : Tx P K mg base a fd) : ∀ n : Nat, FnOk P w K mg base CX0 (n + 3) (a 36) (fd 36) ["_law_state", "_law_script", "_law_names", "_law_depth"] (sp36 K n)
  | 0 => (FnOk.never (ps := ["_law_state", "_law_script", "_law_names", "_law_depth"])).imp fun vs H Q E h => by
    obtain ⟨st, sc, nl, ns, k, names, d, _, _, _, z, _⟩ := h
    exact absurd z (Nat.not_lt_zero _)
  | n + 1 => ok36s T n (ok36 T n)
end
end Cc
set_option maxRecDepth 100000
set_option maxHeartbeats 4000000
/-! the law: comparison, condition -/
namespace Cc
open PySem PySem.Spec PyProof.Rows L2
theorem scs37 : FnScope ["_law_state", "_law_script", "_law_names", "_law_relation", "_law_left", "_law_made"] ["_law_state", "_law_script", "_law_names"] (defScope (dst 37)) := ⟨rfl, rfl, rfl, by decide +kernel, rfl, by decide +kernel, by decide +kernel⟩
def sp37 (K : PySem.W.Frag) : Sp := fun vs H Q _ => ∃ (st sc nl : Addr) (ns : List Int) (k : Int) (names : List Str), vs = [.ref st, .ref sc, .ref nl] ∧ GX K H st sc ns k ∧ NX K H st nl names ∧ ∀ c v H', GX K H' st sc ns k → Chg [st] H H' → okC names c → cdDep c ≤ 1 → DatAt K H' c.d v → Q v H'
section
variable {P : Program} {w : World} {K : PySem.W.Frag} {mg : Str → Option Value} {base : Heap} {a : Nat → Addr} {fd : Nat → FuncData}
theorem ok37 (T : Tx P K mg base a fd) : FnOk P w K mg base CX0 7 (a 37) (fd 37) ["_law_state", "_law_script", "_law_names"] (sp37 K) := by
  refine T.D37.fn.ok scs37 (fun vs H Q E h => ?_) (fun cdv A outer s H vs Q E hr h => ⟨_, (pss_cons (ps_set (i := 3) scs37.nd rfl (Or.inl rfl) (pe_ix (ixLK (K := K) rfl) (pe_lst (pa_cons pe_str (pa_cons pe_str (pa_cons pe_str (pa_cons pe_str pa_nil))))) (pe_call (ok33 T) (hr.mono (by first | exact Nat.le_refl _ | decide | omega)) rfl T.D33.mg T.D33.kp T.D33.bd .nil pass0 (pa_cons (pv 0) (pa_cons (pv 1) (pa_cons pe_int pa_nil)))) (fun _ _ => rfl)))
      (pss_cons (ps_set (i := 4) scs37.nd rfl (Or.inl rfl) (pe_call (ok36 T 3) (hr.mono (by first | exact Nat.le_refl _ | decide | omega)) rfl T.D36.mg T.D36.kp T.D36.bd .nil pass0 (pa_cons (pv 0) (pa_cons (pv 1) (pa_cons (pv 2) (pa_cons pe_int pa_nil))))))
      (pss_cons (ps_set (i := 5) scs37.nd rfl (Or.inl rfl) (pe_tup (pa_cons pe_str (pa_cons (pv 3) (pa_cons (pv 4) (pa_cons (pe_call (ok36 T 3) (hr.mono (by first | exact Nat.le_refl _ | decide | omega)) rfl T.D36.mg T.D36.kp T.D36.bd .nil pass0 (pa_cons (pv 0) (pa_cons (pv 1) (pa_cons (pv 2) (pa_cons pe_int pa_nil))))) pa_nil))))))
      (pss_cons (ps_if (pt_cmpR op_eq (pe_call (ok33 T) (hr.mono (by first | exact Nat.le_refl _ | decide | omega)) rfl T.D33.mg T.D33.kp T.D33.bd .nil pass0 (pa_cons (pv 0) (pa_cons (pv 1) (pa_cons pe_int pa_nil)))) pe_int (nomark _)) (pss_one (ps_ret (pe_tup (pa_cons pe_str (pa_cons (pv 5) pa_nil))))) pss_nil)
      (pss_one (ps_ret (pv 5))))))), ?_⟩)
  · obtain ⟨st, sc, nl, ns, k, names, rfl, _⟩ := h
    rfl
  · obtain ⟨st, sc, nl, ns, k, names, rfl, G, N, q⟩ := h
    try walk_at "w15"
    refine ⟨by decide, fun p hp => ?_⟩
    have cp : Chg [] H (upd H p (.lst [.str "<", .str "<=", .str "==", .str "!="])) := Chg.new hp
    refine ⟨st, sc, ns, k, 4, rfl, G.chg cp, by decide, by decide, fun r1 H1 G1 c1 z1 z2 => ?_⟩
    refine ixN1 (c1.sqL' (SqL.of upd_same) (by simpa using G.new hp)) z1 (by simpa using z2) fun v hv _ => ?_
    have hrel : ∃ rl : Str, v = .str rl := by
      simp only [List.mem_cons, List.not_mem_nil, or_false] at hv
      rcases hv with rfl | rfl | rfl | rfl <;> exact ⟨_, rfl⟩
    obtain ⟨rl, rfl⟩ := hrel
    have N1 := (N.chg cp.of0).chg c1
    try walk_at "w15"
    refine ⟨st, sc, nl, ns, k, names, 1, rfl, G1, N1, by decide, fun e2 v2 H2 G2 c2 o2 p2 a2 => ?_⟩
    try walk_at "w15"
    refine ⟨st, sc, nl, ns, k, names, 1, rfl, G2, N1.chg c2, by decide, fun e3 v3 H3 G3 c3 o3 p3 a3 => ?_⟩
    try walk_at "w15"
    refine ⟨by decide, fun p4 hp4 => ?_⟩
    have c4 : Chg [] H3 (upd H3 p4 (.tup [.str "compare", .str rl, v2, v3])) := Chg.new hp4
    have ok : okC names (.cmp rl e2 e3) := by rw [okC]; exact ⟨o2, o3, by omega, by omega⟩
    have hd4 : DatAt K (upd H3 p4 (.tup [.str "compare", .str rl, v2, v3])) (Cd.cmp rl e2 e3).d (.ref p4) := by
      rw [Cd.d]
      exact dat_tup (SqT.of upd_same) (dats_cons dat_str (dats_cons dat_str (dats_cons ((a2.chg c3).chg c4) (dats_cons (a3.chg c4) dats_nil))))
    have cc := ((((cp.of0 (L := [st])).trans c1).trans c2).trans c3).trans c4.of0
    refine ⟨st, sc, ns, k, 6, rfl, G3.chg c4, by decide, by decide, fun r5 H5 G5 c5 y1 y2 => ?_⟩
    try walk_at "w15"
    by_cases h0 : r5 = 0
    · rw [if_pos h0]
      refine ⟨by decide, fun p6 hp6 => ?_⟩
      have c6 : Chg [] H5 (upd H5 p6 (.tup [.str "not", .ref p4])) := Chg.new hp6
      refine q (.neg (.cmp rl e2 e3)) _ _ (G5.chg c6) ((cc.trans c5).trans c6.of0) (by rw [okC]; exact ok) (by simp [cdDep]) ?_
      rw [Cd.d]
      exact dat_tup (SqT.of upd_same) (dats_cons dat_str (dats_cons ((hd4.chg c5).chg c6) dats_nil))
    · rw [if_neg h0]
      exact q _ _ _ G5 (cc.trans c5) ok (by simp [cdDep]) (hd4.chg c5)
end
theorem scs38 : FnScope ["_law_state", "_law_script", "_law_names", "_law_choice", "_law_left", "_law_made"] ["_law_state", "_law_script", "_law_names"] (defScope (dst 38)) := ⟨rfl, rfl, rfl, by decide +kernel, rfl, by decide +kernel, by decide +kernel⟩
def sp38 (K : PySem.W.Frag) : Sp := fun vs H Q _ => ∃ (st sc nl : Addr) (ns : List Int) (k : Int) (names : List Str), vs = [.ref st, .ref sc, .ref nl] ∧ GX K H st sc ns k ∧ NX K H st nl names ∧ ∀ c v H', GX K H' st sc ns k → Chg [st] H H' → okCd names c → DatAt K H' c.d v → Q v H'
section
variable {P : Program} {w : World} {K : PySem.W.Frag} {mg : Str → Option Value} {base : Heap} {a : Nat → Addr} {fd : Nat → FuncData}
theorem ok38 (T : Tx P K mg base a fd) : FnOk P w K mg base CX0 8 (a 38) (fd 38) ["_law_state", "_law_script", "_law_names"] (sp38 K) := by
  refine T.D38.fn.ok scs38 (fun vs H Q E h => ?_) (fun cdv A outer s H vs Q E hr h => ⟨_, (pss_cons (ps_set (i := 3) scs38.nd rfl (Or.inl rfl) (pe_call (ok33 T) (hr.mono (by first | exact Nat.le_refl _ | decide | omega)) rfl T.D33.mg T.D33.kp T.D33.bd .nil pass0 (pa_cons (pv 0) (pa_cons (pv 1) (pa_cons pe_int pa_nil)))))
      (pss_cons (ps_if (pt_cmpR op_lt (pv 3) pe_int (nomark _)) (pss_one (ps_ret (pe_call (ok37 T) (hr.mono (by first | exact Nat.le_refl _ | decide | omega)) rfl T.D37.mg T.D37.kp T.D37.bd .nil pass0 (pa_cons (pv 0) (pa_cons (pv 1) (pa_cons (pv 2) pa_nil)))))) pss_nil)
      (pss_cons (ps_set (i := 4) scs38.nd rfl (Or.inl rfl) (pe_call (ok37 T) (hr.mono (by first | exact Nat.le_refl _ | decide | omega)) rfl T.D37.mg T.D37.kp T.D37.bd .nil pass0 (pa_cons (pv 0) (pa_cons (pv 1) (pa_cons (pv 2) pa_nil)))))
      (pss_cons (ps_set (i := 5) scs38.nd rfl (Or.inl rfl) (pe_tup (pa_cons (pe_ix (ixLK (K := K) rfl) (pe_lst (pa_cons pe_str (pa_cons pe_str pa_nil))) (pe_op op_sub (pv 3) pe_int) (fun _ _ => rfl)) (pa_cons (pv 4) (pa_cons (pe_call (ok37 T) (hr.mono (by first | exact Nat.le_refl _ | decide | omega)) rfl T.D37.mg T.D37.kp T.D37.bd .nil pass0 (pa_cons (pv 0) (pa_cons (pv 1) (pa_cons (pv 2) pa_nil)))) pa_nil)))))
      (pss_cons (ps_if (pt_cmpR op_eq (pe_call (ok33 T) (hr.mono (by first | exact Nat.le_refl _ | decide | omega)) rfl T.D33.mg T.D33.kp T.D33.bd .nil pass0 (pa_cons (pv 0) (pa_cons (pv 1) (pa_cons pe_int pa_nil)))) pe_int (nomark _)) (pss_one (ps_ret (pe_tup (pa_cons pe_str (pa_cons (pv 5) pa_nil))))) pss_nil)
      (pss_one (ps_ret (pv 5)))))))), ?_⟩)
  · obtain ⟨st, sc, nl, ns, k, names, rfl, _⟩ := h
    rfl
  · obtain ⟨st, sc, nl, ns, k, names, rfl, G, N, q⟩ := h
    try walk_at "w15"
    refine ⟨st, sc, ns, k, 6, rfl, G, by decide, by decide, fun r1 H1 G1 c1 z1 z2 => ?_⟩
    have N1 := N.chg c1
    try walk_at "w15"
    by_cases h4 : r1 < 4
    · rw [if_pos h4]
      refine ⟨st, sc, nl, ns, k, names, rfl, G1, N1, fun c v H2 G2 c2 o p d => ?_⟩
      exact q c v _ G2 (c1.trans c2) ⟨o, by omega⟩ d
    · rw [if_neg h4]
      refine ⟨st, sc, nl, ns, k, names, rfl, G1, N1, fun e2 v2 H2 G2 c2 o2 p2 a2 => ?_⟩
      have N2 := N1.chg c2
      try walk_at "w15"
      refine ⟨by decide, fun p hp => ?_⟩
      have cp : Chg [] H2 (upd H2 p (.lst [.str "and", .str "or"])) := Chg.new hp
      refine ixN1 (SqL.of upd_same) (show 0 ≤ r1 - 4 by omega) (by simp; omega) fun v hv hv2 => ?_
      have hw : ∃ b : Bool, v = .str (wAnd b) := by
        simp only [List.mem_cons, List.not_mem_nil, or_false] at hv
        rcases hv with rfl | rfl
        · exact ⟨true, rfl⟩
        · exact ⟨false, rfl⟩
      obtain ⟨b, rfl⟩ := hw
      try walk_at "w15"
      refine ⟨st, sc, nl, ns, k, names, rfl, G2.chg cp, N2.chg cp.of0, fun e3 v3 H3 G3 c3 o3 p3 a3 => ?_⟩
      try walk_at "w15"
      refine ⟨by decide, fun p4 hp4 => ?_⟩
      have c4 : Chg [] H3 (upd H3 p4 (.tup [.str (wAnd b), v2, v3])) := Chg.new hp4
      have ok : okC names (.bin b e2 e3) := by rw [okC]; exact ⟨o2, o3⟩
      have hd4 : DatAt K (upd H3 p4 (.tup [.str (wAnd b), v2, v3])) (Cd.bin b e2 e3).d (.ref p4) := by
        rw [Cd.d]
        exact dat_tup (SqT.of upd_same) (dats_cons dat_str (dats_cons (((a2.chg cp).chg c3).chg c4) (dats_cons (a3.chg c4) dats_nil)))
      have cc := (((c1.trans c2).trans cp.of0).trans c3).trans c4.of0
      refine ⟨st, sc, ns, k, 3, rfl, G3.chg c4, by decide, by decide, fun r5 H5 G5 c5 y1 y2 => ?_⟩
      try walk_at "w15"
      by_cases h0 : r5 = 0
      · rw [if_pos h0]
        refine ⟨by decide, fun p6 hp6 => ?_⟩
        have c6 : Chg [] H5 (upd H5 p6 (.tup [.str "not", .ref p4])) := Chg.new hp6
        refine q (.neg (.bin b e2 e3)) _ _ (G5.chg c6) ((cc.trans c5).trans c6.of0) ⟨by rw [okC]; exact ok, by simp only [cdDep]; omega⟩ ?_
        rw [Cd.d]
        exact dat_tup (SqT.of upd_same) (dats_cons dat_str (dats_cons ((hd4.chg c5).chg c6) dats_nil))
      · rw [if_neg h0]
        exact q _ _ _ G5 (cc.trans c5) ⟨ok, by simp only [cdDep]; omega⟩ (hd4.chg c5)
end
end Cc
set_option maxRecDepth 100000
set_option maxHeartbeats 4000000
/-! the law: counting, block -/
namespace Cc
open PySem PySem.Spec PyProof.Rows L2
theorem allI_set {n : Str} {e : Ex} : allI (.set n e) = [] := by simp [allI]
theorem depS_set {n : Str} {e : Ex} : depS (.set n e) = 0 := by simp [depS]
def sp41 (K : PySem.W.Frag) (n : Nat) : Sp := fun vs H Q _ => ∃ (st sc wd : Addr) (ns : List Int) (k : Int) (names : List Str) (R : List (Str × Nat)) (d : Nat), vs = [.ref st, .ref sc, .ref wd, .int d] ∧ GX K H st sc ns k ∧ WX K H st wd names R ∧ d < n ∧ -1 ≤ k ∧ k ≤ 100 ∧ ∀ b v k' H', GX K H' st sc ns k' → Chg [st] H H' → -1 ≤ k' → ((allB b).length : Int) ≤ k - k' → okB0 R names b → depB b ≤ d → DatAt K H' (.tup (smsD b)) v → Q v H'
def sp40 (K : PySem.W.Frag) (n : Nat) : Sp := fun vs H Q _ => ∃ (st sc wd : Addr) (ns : List Int) (k : Int) (names : List Str) (R : List (Str × Nat)) (d : Nat), vs = [.ref st, .ref sc, .ref wd, .int d] ∧ GX K H st sc ns k ∧ WX K H st wd names R ∧ d < n ∧ 0 ≤ k ∧ k ≤ 100 ∧ ∀ s v k' H', GX K H' st sc ns k' → Chg [st] H H' → -1 ≤ k' → ((allI s).length : Int) ≤ k - k' → okT0 R names s → depS s ≤ d → DatAt K H' s.d v → Q v H'
def sp39 (K : PySem.W.Frag) (n : Nat) : Sp := fun vs H Q _ => ∃ (st sc wd : Addr) (ns : List Int) (k : Int) (names : List Str) (R : List (Str × Nat)) (d : Nat), vs = [.ref st, .ref sc, .ref wd, .int d] ∧ GX K H st sc ns k ∧ WX K H st wd names R ∧ d < n ∧ 0 ≤ k ∧ k ≤ 100 ∧ names ≠ [] ∧ 1 ≤ d ∧ ∀ s v k' H', GX K H' st sc ns k' → Chg [st] H H' → -1 ≤ k' → ((allI s).length : Int) ≤ k - k' → okT0 R names s → depS s ≤ d → DatAt K H' s.d v → Q v H'
theorem scs39 : FnScope ["_law_state", "_law_script", "_law_world", "_law_depth", "_law_names", "_law_procedures", "_law_name", "_law_block_here", "_law_more", "_law_bound"] ["_law_state", "_law_script", "_law_world", "_law_depth"] (defScope (dst 39)) := ⟨rfl, rfl, rfl, by decide +kernel, rfl, by decide +kernel, by decide +kernel⟩
section
variable {P : Program} {w : World} {K : PySem.W.Frag} {mg : Str → Option Value} {base : Heap} {a : Nat → Addr} {fd : Nat → FuncData}
theorem ok39s (T : Tx P K mg base a fd) (n : Nat) (G41 : FnOk P w K mg base CX0 (3 * n + 8) (a 41) (fd 41) ["_law_state", "_law_script", "_law_world", "_law_depth"] (sp41 K n)) : FnOk P w K mg base CX0 (3 * n + 9) (a 39) (fd 39) ["_law_state", "_law_script", "_law_world", "_law_depth"] (sp39 K (n + 1)) := by
  refine T.D39.fn.ok scs39 (fun vs H Q E h => ?_) (fun cdv A outer s H vs Q E hr h => ⟨_, (pss_cons (ps_asg (pv 2) (pg_tup (by rfl) (pgs_cons (pg_name (i := 4) scs39.nd rfl (Or.inl rfl)) (pgs_cons (pg_name (i := 5) scs39.nd rfl (Or.inl rfl)) pgs_nil))))
      (pss_cons (ps_set (i := 6) scs39.nd rfl (Or.inl rfl) (pe_ix (ixLK (K := K) rfl) (pv 4) (pe_call (ok33 T) (hr.mono (by first | exact Nat.le_refl _ | decide | omega)) rfl T.D33.mg T.D33.kp T.D33.bd .nil pass0 (pa_cons (pv 0) (pa_cons (pv 1) (pa_cons (pe_callB call_len_seq (by rfl) T.n_len PyProof.Rows.Boot.«len» (pa_cons (pv 4) pa_nil)) pa_nil)))) (fun _ _ => rfl)))
      (pss_cons (ps_asg (pe_op op_sub (pe_ix (ixLK (K := K) rfl) (pv 0) pe_int (fun _ _ => rfl)) pe_int) (pg_sub (pv 0) pe_int set_list))
      (pss_cons (ps_set (i := 7) scs39.nd rfl (Or.inl rfl) (pe_call G41 (hr.mono (by first | exact Nat.le_refl _ | decide | omega)) rfl T.D41.mg T.D41.kp T.D41.bd .nil pass0 (pa_cons (pv 0) (pa_cons (pv 1) (pa_cons (pv 2) (pa_cons (pe_op op_sub (pv 3) pe_int) pa_nil))))))
      (pss_cons (ps_set (i := 8) scs39.nd rfl (Or.inl rfl) (pe_tup (pa_cons pe_str (pa_cons (pv 6) (pa_cons (pe_tup (pa_cons pe_str (pa_cons pe_str (pa_cons (pe_tup (pa_cons pe_str (pa_cons (pv 6) pa_nil))) (pa_cons (pe_tup (pa_cons pe_str (pa_cons (pe_op op_add pe_int (pe_call (ok33 T) (hr.mono (by first | exact Nat.le_refl _ | decide | omega)) rfl T.D33.mg T.D33.kp T.D33.bd .nil pass0 (pa_cons (pv 0) (pa_cons (pv 1) (pa_cons pe_int pa_nil))))) pa_nil))) pa_nil))))) pa_nil)))))
      (pss_cons (ps_set (i := 9) scs39.nd rfl (Or.inl rfl) (pe_tup (pa_cons pe_str (pa_cons (pe_op op_add pe_int (pe_call (ok33 T) (hr.mono (by first | exact Nat.le_refl _ | decide | omega)) rfl T.D33.mg T.D33.kp T.D33.bd .nil pass0 (pa_cons (pv 0) (pa_cons (pv 1) (pa_cons pe_int pa_nil))))) pa_nil))))
      (pss_one (ps_ret (pe_tup (pa_cons pe_str (pa_cons (pe_tup (pa_cons pe_str (pa_cons (pe_ix (ixLK (K := K) rfl) (pe_lst (pa_cons pe_str (pa_cons pe_str (pa_cons pe_str pa_nil)))) (pe_call (ok33 T) (hr.mono (by first | exact Nat.le_refl _ | decide | omega)) rfl T.D33.mg T.D33.kp T.D33.bd .nil pass0 (pa_cons (pv 0) (pa_cons (pv 1) (pa_cons pe_int pa_nil)))) (fun _ _ => rfl)) (pa_cons (pe_tup (pa_cons pe_str (pa_cons (pv 6) pa_nil))) (pa_cons (pv 9) pa_nil))))) (pa_cons (pe_op (catK (K := K) rfl) (pv 7) (pe_tup (pa_cons (pv 8) pa_nil))) pa_nil)))))))))))), ?_⟩)
  · obtain ⟨st, sc, wd, ns, k, names, R, d, rfl, _⟩ := h
    rfl
  · obtain ⟨st, sc, wd, ns, k, names, R, d, rfl, G, W, hd, k0, k1, hne, hd1, q⟩ := h
    obtain ⟨nl, pl, hw, N, PX⟩ := id W
    try walk_at "w15"
    refine ⟨_, hw, rfl, _, _, rfl, _, _, rfl, rfl, nl, rfl, _, .inl N.1, st, sc, ns, k, _, rfl, G, ?_, ?_, fun r1 H1 G1 c1 z1 z2 => ?_⟩
    · rw [List.length_map]; have := List.length_pos_iff.mpr hne; omega
    · rw [List.length_map]; have := N.2.2; omega
    refine ixN1 (N.chg c1).1 z1 z2 fun v hv _ => ?_
    obtain ⟨nm, hnm, rfl⟩ := List.mem_map.mp hv
    obtain ⟨s0, s1, s2, hst, G2, c2⟩ := G1.setK (k - 1)
    refine ixL (SqL.of hst) rfl ⟨_, rfl, _, hst, 3, rfl, ?_⟩
    have c12 := c1.trans c2
    have hd1' : (d : Int) - 1 = ((d - 1 : Nat) : Int) := by omega
    refine ⟨st, sc, wd, ns, k - 1, names, R, d - 1, by rw [hd1'], G2, W.chg c12, by omega, by omega, by omega, fun b vb k3 H3 G3 c3 q1 q2 q3 q4 q5 => ?_⟩
    have c13 := c12.trans c3
    try walk_at "w15"
    refine ⟨by decide, fun p4 hp4 => ?_⟩
    have c4 : Chg [] H3 (upd H3 p4 (.tup [.str "name", .str nm])) := Chg.new hp4
    have e4 : DatAt K (upd H3 p4 (.tup [.str "name", .str nm])) (Ex.nm nm).d (.ref p4) := by
      rw [Ex.d]; exact dat_tup (SqT.of upd_same) (dats_cons dat_str (dats_cons dat_str dats_nil))
    refine ⟨st, sc, ns, k3, 3, rfl, G3.chg c4, by decide, by decide, fun r5 H5 G5 c5 y1 y2 => ⟨_, rfl, by decide, fun p6 hp6 => ?_⟩⟩
    have c6 : Chg [] H5 (upd H5 p6 (.tup [.str "number", .int (1 + r5)])) := Chg.new hp6
    have e6 : DatAt K (upd H5 p6 (.tup [.str "number", .int (1 + r5)])) (Ex.num (1 + r5)).d (.ref p6) := by
      rw [Ex.d]; exact dat_tup (SqT.of upd_same) (dats_cons dat_str (dats_cons dat_int dats_nil))
    refine ⟨by decide, fun p7 hp7 => ?_⟩
    have c7 : Chg [] _ (upd (upd H5 p6 (.tup [.str "number", .int (1 + r5)])) p7 (.tup [.str "op", .str "+", .ref p4, .ref p6])) := Chg.new hp7
    have e7 : DatAt K (upd (upd H5 p6 (.tup [.str "number", .int (1 + r5)])) p7 (.tup [.str "op", .str "+", .ref p4, .ref p6])) (Ex.op "+" (Ex.nm nm) (Ex.num (1 + r5))).d (.ref p7) := by
      rw [Ex.d]; exact dat_tup (SqT.of upd_same) (dats_cons dat_str (dats_cons dat_str (dats_cons (((e4.chg c5).chg c6).chg c7) (dats_cons (e6.chg c7) dats_nil))))
    refine ⟨by decide, fun p8 hp8 => ?_⟩
    generalize hH7 : upd (upd H5 p6 (.tup [.str "number", .int (1 + r5)])) p7 (.tup [.str "op", .str "+", .ref p4, .ref p6]) = H7 at *
    have c8 : Chg [] H7 (upd H7 p8 (.tup [.str "set", .str nm, .ref p7])) := Chg.new hp8
    have e8 : DatAt K (upd H7 p8 (.tup [.str "set", .str nm, .ref p7])) (Sm.set nm (Ex.op "+" (Ex.nm nm) (Ex.num (1 + r5)))).d (.ref p8) := by
      rw [Sm.d]; exact dat_tup (SqT.of upd_same) (dats_cons dat_str (dats_cons dat_str (dats_cons (e7.chg c8) dats_nil)))
    have G8 := ((G5.chg c6).chg c7).chg c8
    have d8 : Chg [st] H3 (upd H7 p8 (.tup [.str "set", .str nm, .ref p7])) := (((c4.of0.trans c5).trans c6.of0).trans c7.of0).trans c8.of0
    try walk_at "w15"
    refine ⟨st, sc, ns, k3, 12, rfl, G8, by decide, by decide, fun r9 H9 G9 c9 x1 x2 => ⟨_, rfl, by decide, fun p10 hp10 => ?_⟩⟩
    have c10 : Chg [] H9 (upd H9 p10 (.tup [.str "number", .int (1 + r9)])) := Chg.new hp10
    have e10 : DatAt K (upd H9 p10 (.tup [.str "number", .int (1 + r9)])) (Ex.num (1 + r9)).d (.ref p10) := by
      rw [Ex.d]; exact dat_tup (SqT.of upd_same) (dats_cons dat_str (dats_cons dat_int dats_nil))
    generalize hH10 : upd H9 p10 (.tup [.str "number", .int (1 + r9)]) = H10 at *
    have d10 : Chg [st] H3 H10 := (d8.trans c9).trans c10.of0
    refine ⟨by decide, fun p11 hp11 => ?_⟩
    have c11 : Chg [] H10 (upd H10 p11 (.lst [.str "<", .str "<=", .str "!="])) := Chg.new hp11
    have G10 := G9.chg c10
    refine ⟨st, sc, ns, k3, 3, rfl, G10.chg c11, by decide, by decide, fun r12 H12 G12 c12' u1 u2 => ?_⟩
    refine ixN1 (c12'.sqL' (SqL.of upd_same) (by simpa using G10.new hp11)) u1 (by simpa using u2) fun v hv _ => ?_
    have hrel : ∃ rl : Str, v = .str rl := by
      simp only [List.mem_cons, List.not_mem_nil, or_false] at hv
      rcases hv with rfl | rfl | rfl <;> exact ⟨_, rfl⟩
    obtain ⟨rl, rfl⟩ := hrel
    refine ⟨by decide, fun p13 hp13 => ?_⟩
    have c13' : Chg [] H12 (upd H12 p13 (.tup [.str "name", .str nm])) := Chg.new hp13
    have e13 : DatAt K (upd H12 p13 (.tup [.str "name", .str nm])) (Ex.nm nm).d (.ref p13) := by
      rw [Ex.d]; exact dat_tup (SqT.of upd_same) (dats_cons dat_str (dats_cons dat_str dats_nil))
    generalize hH13 : upd H12 p13 (.tup [.str "name", .str nm]) = H13 at *
    have d13 : Chg [st] H10 H13 := (c11.of0.trans c12').trans c13'.of0
    refine ⟨by decide, fun p14 hp14 => ?_⟩
    have c14 : Chg [] H13 (upd H13 p14 (.tup [.str "compare", .str rl, .ref p13, .ref p10])) := Chg.new hp14
    have e14 : DatAt K (upd H13 p14 (.tup [.str "compare", .str rl, .ref p13, .ref p10])) (Cd.cmp rl (Ex.nm nm) (Ex.num (1 + r9))).d (.ref p14) := by
      rw [Cd.d]; exact dat_tup (SqT.of upd_same) (dats_cons dat_str (dats_cons dat_str (dats_cons (e13.chg c14) (dats_cons ((e10.chg d13).chg c14) dats_nil))))
    generalize hH14 : upd H13 p14 (.tup [.str "compare", .str rl, .ref p13, .ref p10]) = H14 at *
    have d14 : Chg [st] H3 H14 := (d10.trans d13).trans c14.of0
    refine ⟨by decide, fun p15 hp15 => ?_⟩
    obtain ⟨ab, xb, rfl, sb, gb⟩ := DatAt.tup_inv q5
    have c15 : Chg [] H14 (upd H14 p15 (.tup [.ref p8])) := Chg.new hp15
    have d15 : Chg [st] H3 (upd H14 p15 (.tup [.ref p8])) := d14.trans c15.of0
    have d8' : Chg [st] _ H14 := ((c9.trans c10.of0).trans d13).trans c14.of0
    have lb := len_allB b
    have lx := gb.len
    rw [smsD_eq, List.length_map] at lx
    refine catA (d15.sqT sb) (SqT.of upd_same) (by rw [List.length_singleton]; exact sz (by omega)) fun p16 H16 c16 s16 => ?_
    refine ⟨by decide, fun p17 hp17 => ?_⟩
    have c17 : Chg [] H16 (upd H16 p17 (.tup [.str "while", .ref p14, .ref p16])) := Chg.new hp17
    have sok : okS0 R names (Sm.set nm (Ex.op "+" (Ex.nm nm) (Ex.num (1 + r5)))) := by
      refine ⟨hnm, ?_, by simp [exDep]⟩
      rw [okE, okE, okE]
      exact ⟨.inl rfl, hnm, by unfold Sml; omega⟩
    refine q (.whl (.cmp rl (.nm nm) (.num (1 + r9))) (b ++ [.set nm (Ex.op "+" (Ex.nm nm) (Ex.num (1 + r5)))])) _ k3 _ ((((((G12.chg c13').chg c14).chg c15).chg c16).chg c17)) (((c13.trans d15).trans c16.of0).trans c17.of0) q1 ?_ ⟨?_, ?_⟩ ?_ ?_
    · rw [allI, allB_append, allB_one, allI_set, List.length_append, List.length_singleton]; omega
    · refine ⟨?_, by simp [cdDep]⟩
      rw [okC, okE, okE]
      exact ⟨hnm, by unfold Sml; omega, by simp [exDep], by simp [exDep]⟩
    · rw [allI]
      exact okB0_app q3 (okB0_one ⟨sok, fun t ht => by rw [allI_set] at ht; simp at ht⟩)
    · rw [depS, depB_app, depB_one, depS_set]; omega
    · rw [Sm.d]
      refine dat_tup (SqT.of upd_same) (dats_cons dat_str (dats_cons (((e14.chg c15).chg c16).chg c17) (dats_cons (dat_tup (c17.sqT s16) ?_) dats_nil)))
      rw [smsD_eq, List.map_append]
      rw [smsD_eq] at gb
      exact DatsAt.append (((gb.chg d15).chg c16).chg c17) (dats_cons ((((e8.chg d8').chg c15).chg c16).chg c17) dats_nil)
end
theorem scs41 : FnScope ["_law_state", "_law_script", "_law_world", "_law_depth", "_law_block_here", "_law_k"] ["_law_state", "_law_script", "_law_world", "_law_depth"] (defScope (dst 41)) := ⟨rfl, rfl, rfl, by decide +kernel, rfl, by decide +kernel, by decide +kernel⟩
section
variable {P : Program} {w : World} {K : PySem.W.Frag} {mg : Str → Option Value} {base : Heap} {a : Nat → Addr} {fd : Nat → FuncData}
theorem ok41s (T : Tx P K mg base a fd) (n : Nat) (G40 : FnOk P w K mg base CX0 (3 * n + 10) (a 40) (fd 40) ["_law_state", "_law_script", "_law_world", "_law_depth"] (sp40 K (n + 1))) : FnOk P w K mg base CX0 (3 * n + 11) (a 41) (fd 41) ["_law_state", "_law_script", "_law_world", "_law_depth"] (sp41 K (n + 1)) := by
  refine T.D41.fn.ok scs41 (fun vs H Q E h => ?_) (fun cdv A outer s H vs Q E hr h => ⟨_, (pss_cons (ps_set (i := 4) scs41.nd rfl (Or.inl rfl) (pe_lst pa_nil))
      (pss_cons (ps_for PassesOwn.never rfl (pi_range1 (by rfl) T.n_range (pa_cons (pe_call (ok33 T) (hr.mono (by first | exact Nat.le_refl _ | decide | omega)) rfl T.D33.mg T.D33.kp T.D33.bd .nil pass0 (pa_cons (pv 0) (pa_cons (pv 1) (pa_cons pe_int pa_nil)))) pa_nil)) (pg_name (i := 5) scs41.nd rfl (Or.inl rfl)) (pss_one (ps_if (pt_cmpR op_gt (pe_ix (ixLK (K := K) rfl) (pv 0) pe_int (fun _ _ => rfl)) pe_int (nomark _)) (pss_cons (ps_asg (pe_op op_sub (pe_ix (ixLK (K := K) rfl) (pv 0) pe_int (fun _ _ => rfl)) pe_int) (pg_sub (pv 0) pe_int set_list))
      (pss_one (ps_expr (pe_bm PySem.F.plainAttrs_list PySem.F.slot_list_append PySem.F.type_list_append mt_append (pv 4) (pa_cons (pe_call G40 (hr.mono (by first | exact Nat.le_refl _ | decide | omega)) rfl T.D40.mg T.D40.kp T.D40.bd .nil pass0 (pa_cons (pv 0) (pa_cons (pv 1) (pa_cons (pv 2) (pa_cons (pv 3) pa_nil))))) pa_nil))))) pss_nil)))
      (pss_one (ps_ret (pe_callTy call_tuple_of (by rfl) T.n_tuple PyProof.Rows.Boot.«tuple» (pa_cons (pv 4) pa_nil)))))), ?_⟩)
  · obtain ⟨st, sc, wd, ns, k, names, R, d, rfl, _⟩ := h
    rfl
  · obtain ⟨st, sc, wd, ns, k, names, R, d, rfl, G, W, hd, k0, k1, q⟩ := h
    try walk_at "w15"
    refine ⟨by decide, fun l hl => ?_⟩
    have cl : Chg [] H (upd H l (.lst [])) := Chg.new hl
    have hne : l ≠ st := G.new hl
    refine ⟨st, sc, ns, k, 4, rfl, G.chg cl, by decide, by decide, fun r1 H1 G1 c1 z1 z2 => ?_⟩
    have c01 : Chg [st] H H1 := cl.of0.trans c1
    refine ⟨r1, rfl, by omega, by omega, forR (n := _) (fun i σ H2 => ∃ o acc k' b, σ = [some (.ref st), some (.ref sc), some (.ref wd), some (.int d), some (.ref l), o] ∧ GX K H2 st sc ns k' ∧ Chg [st] H H2 ∧ H2 l = some (.lst acc) ∧ DatsAt K H2 (smsD b) acc ∧ -1 ≤ k' ∧ ((allB b).length : Int) ≤ k - k' ∧ okB0 R names b ∧ depB b ≤ d)
      ⟨_, [], k, [], rfl, G1, c01, c1.keep _ _ upd_same trivial (by simpa using hne), by rw [smsD]; exact dats_nil, k0, by rw [allB]; simp, okB0_nil, by rw [depB]; exact Nat.zero_le _⟩ ?_ ?_⟩
    · rintro i σ H2 hi ⟨o, acc, k', b, rfl, G2, c2, hacc, hda, q1, q2, q3, q4⟩
      try walk_at "w16"
      obtain ⟨s0, s1, s2, hst, G3, c3⟩ := G2.setK (k' - 1)
      refine ixL (SqL.of hst) rfl ?_
      try walk_at "w15"
      by_cases hk : 0 < k'
      · rw [if_pos hk]
        refine ixL (SqL.of hst) rfl ⟨_, rfl, _, hst, 3, rfl, ?_⟩
        have c03 := c2.trans c3
        have hacc3 := c3.keep _ _ hacc trivial (by simpa using hne)
        have hlen : acc.length = b.length := by rw [hda.len, smsD_eq, List.length_map]
        have lb := len_allB b
        refine ⟨.inl ⟨rfl, _, SqL.of hacc3⟩, st, sc, wd, ns, k' - 1, names, R, d, rfl, G3, W.chg c03, by omega, by omega, by omega, fun s v k4 H4 G4 c4 w1 w2 w3 w4 w5 => ?_⟩
        have hacc4 := c4.keep _ _ hacc3 trivial (by simpa using hne)
        refine ⟨_, hacc4, sz' (by omega), ?_⟩
        have c5 : Chg [l] H4 (upd H4 l (.lst (acc ++ [v]))) := Chg.put hacc4 trivial (by simp)
        have c05 : Chg [st] H (upd H4 l (.lst (acc ++ [v]))) := (c03.trans c4).own hl
        have fin : ∃ b', DatsAt K (upd H4 l (.lst (acc ++ [v]))) (smsD b') (acc ++ [v]) ∧ ((allB b').length : Int) ≤ k - k4 ∧ okB0 R names b' ∧ depB b' ≤ d := by
          refine ⟨b ++ [s], ?_, ?_, okB0_app q3 (okB0_one w3), by rw [depB_app, depB_one]; omega⟩
          · rw [smsD_eq, List.map_append, ← smsD_eq]
            exact DatsAt.append (((hda.chg c3).chg c4).chg c5) (dats_cons (w5.chg c5) dats_nil)
          · rw [allB_append, allB_one, List.length_append, List.length_cons]; omega
        obtain ⟨b', f1, f2, f3, f4⟩ := fin
        try walk_at "w15"
        exact ⟨_, k4, G.own hl G4 c5 c05, c05, upd_same, b', f1, w1, f2, f3, f4⟩
      · rw [if_neg hk]
        exact ⟨_, k', G2, c2, hacc, b, hda, q1, q2, q3, q4⟩
    · rintro σ H2 ⟨o, acc, k', b, rfl, G2, c2, hacc, hda, q1, q2, q3, q4⟩
      try walk_at "w15"
      refine ⟨_, .inl ⟨SqL.of hacc, fun p hp => ?_⟩⟩
      have cp : Chg [] H2 (upd H2 p (.tup acc)) := Chg.new hp
      exact q b _ k' _ (G2.chg cp) (c2.trans cp.of0) q1 q2 q3 q4 (dat_tup (SqT.of upd_same) (hda.chg cp))
end
end Cc
set_option maxRecDepth 100000
set_option maxHeartbeats 4000000
/-! the law: statement -/
namespace Cc
open PySem PySem.Spec PyProof.Rows L2
theorem ite2C {p q X C : Prop} [Decidable p] [Decidable q] (hX : p → q → C → X) (hC : C) : if p then (if q then X else C) else C := by
  by_cases hp : p
  · rw [if_pos hp]
    by_cases hq : q
    · rw [if_pos hq]; exact hX hp hq hC
    · rw [if_neg hq]; exact hC
  · rw [if_neg hp]; exact hC
theorem scs40 : FnScope ["_law_state", "_law_script", "_law_world", "_law_depth", "_law_names", "_law_procedures", "_law_choice", "_law_condition_here", "_law_first", "_law_name", "_law_count", "_law_values", "_law_target", "_law_k"] ["_law_state", "_law_script", "_law_world", "_law_depth"] (defScope (dst 40)) := ⟨rfl, rfl, rfl, by decide +kernel, rfl, by decide +kernel, by decide +kernel⟩
section
variable {P : Program} {w : World} {K : PySem.W.Frag} {mg : Str → Option Value} {base : Heap} {a : Nat → Addr} {fd : Nat → FuncData}
theorem ok40s (T : Tx P K mg base a fd) (n : Nat) (G41 : FnOk P w K mg base CX0 (3 * n + 8) (a 41) (fd 41) ["_law_state", "_law_script", "_law_world", "_law_depth"] (sp41 K n)) (G39 : FnOk P w K mg base CX0 (3 * n + 9) (a 39) (fd 39) ["_law_state", "_law_script", "_law_world", "_law_depth"] (sp39 K (n + 1))) : FnOk P w K mg base CX0 (3 * n + 10) (a 40) (fd 40) ["_law_state", "_law_script", "_law_world", "_law_depth"] (sp40 K (n + 1)) := by
  refine T.D40.fn.ok scs40 (fun vs H Q E h => ?_) (fun cdv A outer s H vs Q E hr h => ⟨_, (pss_cons (ps_asg (pv 2) (pg_tup (by rfl) (pgs_cons (pg_name (i := 4) scs40.nd rfl (Or.inr rfl)) (pgs_cons (pg_name (i := 5) scs40.nd rfl (Or.inl rfl)) pgs_nil))))
      (pss_cons (ps_set (i := 6) scs40.nd rfl (Or.inl rfl) (pe_call (ok33 T) (hr.mono (by first | exact Nat.le_refl _ | decide | omega)) rfl T.D33.mg T.D33.kp T.D33.bd .nil pass0 (pa_cons (pv 0) (pa_cons (pv 1) (pa_cons pe_int pa_nil)))))
      (pss_cons (ps_if (PW.pt (pw_and (pt_cmpR op_lt (pv 6) pe_int (nomark _)) (pw_and1 (pt_cmpR op_gt (pv 3) pe_int (nomark _))))) (pss_cons (ps_set (i := 7) scs40.nd rfl (Or.inl rfl) (pe_call (ok38 T) (hr.mono (by first | exact Nat.le_refl _ | decide | omega)) rfl T.D38.mg T.D38.kp T.D38.bd .nil pass0 (pa_cons (pv 0) (pa_cons (pv 1) (pa_cons (pv 4) pa_nil)))))
      (pss_cons (ps_set (i := 8) scs40.nd rfl (Or.inl rfl) (pe_call G41 (hr.mono (by first | exact Nat.le_refl _ | decide | omega)) rfl T.D41.mg T.D41.kp T.D41.bd .nil pass0 (pa_cons (pv 0) (pa_cons (pv 1) (pa_cons (pv 2) (pa_cons (pe_op op_sub (pv 3) pe_int) pa_nil))))))
      (pss_one (ps_ret (pe_tup (pa_cons pe_str (pa_cons (pv 7) (pa_cons (pv 8) (pa_cons (pe_call G41 (hr.mono (by first | exact Nat.le_refl _ | decide | omega)) rfl T.D41.mg T.D41.kp T.D41.bd .nil pass0 (pa_cons (pv 0) (pa_cons (pv 1) (pa_cons (pv 2) (pa_cons (pe_op op_sub (pv 3) pe_int) pa_nil))))) pa_nil))))))))) pss_nil)
      (pss_cons (ps_if (PW.pt (pw_and (pt_cmpR op_eq (pv 6) pe_int (nomark _)) (pw_and1 (pt_cmpR op_gt (pv 3) pe_int (nomark _))))) (pss_cons (ps_set (i := 7) scs40.nd rfl (Or.inl rfl) (pe_call (ok38 T) (hr.mono (by first | exact Nat.le_refl _ | decide | omega)) rfl T.D38.mg T.D38.kp T.D38.bd .nil pass0 (pa_cons (pv 0) (pa_cons (pv 1) (pa_cons (pv 4) pa_nil)))))
      (pss_one (ps_ret (pe_tup (pa_cons pe_str (pa_cons (pv 7) (pa_cons (pe_call G41 (hr.mono (by first | exact Nat.le_refl _ | decide | omega)) rfl T.D41.mg T.D41.kp T.D41.bd .nil pass0 (pa_cons (pv 0) (pa_cons (pv 1) (pa_cons (pv 2) (pa_cons (pe_op op_sub (pv 3) pe_int) pa_nil))))) pa_nil))))))) pss_nil)
      (pss_cons (ps_if (PW.pt (pw_and (pt_cmpR op_lt (pv 6) pe_int (nomark _)) (pw_and (pt_cmpR op_gt (pv 3) pe_int (nomark _)) (pw_and1 (pt_cmpR op_gt (pe_callB call_len_seq (by rfl) T.n_len PyProof.Rows.Boot.«len» (pa_cons (pv 4) pa_nil)) pe_int (nomark _)))))) (pss_one (ps_ret (pe_call G39 (hr.mono (by first | exact Nat.le_refl _ | decide | omega)) rfl T.D39.mg T.D39.kp T.D39.bd .nil pass0 (pa_cons (pv 0) (pa_cons (pv 1) (pa_cons (pv 2) (pa_cons (pv 3) pa_nil))))))) pss_nil)
      (pss_cons (ps_if (pt_cmpR op_lt (pv 6) pe_int (nomark _)) (pss_cons (ps_asg (pe_ix (ixLK (K := K) rfl) (pv 5) (pe_call (ok33 T) (hr.mono (by first | exact Nat.le_refl _ | decide | omega)) rfl T.D33.mg T.D33.kp T.D33.bd .nil pass0 (pa_cons (pv 0) (pa_cons (pv 1) (pa_cons (pe_callB call_len_seq (by rfl) T.n_len PyProof.Rows.Boot.«len» (pa_cons (pv 5) pa_nil)) pa_nil)))) (fun _ _ => rfl)) (pg_tup (by rfl) (pgs_cons (pg_name (i := 9) scs40.nd rfl (Or.inl rfl)) (pgs_cons (pg_name (i := 10) scs40.nd rfl (Or.inl rfl)) pgs_nil))))
      (pss_cons (ps_set (i := 11) scs40.nd rfl (Or.inl rfl) (pe_callTy call_tuple_of (by rfl) T.n_tuple PyProof.Rows.Boot.«tuple» (pa_cons (pe_lc (own := [("_law_k", 13)]) (g := gName 13) (tt := tYes) (by rfl) scs40.nd (pi_range1 (by rfl) T.n_range (pa_cons (pv 10) pa_nil)) (blkOk_by (own := [("_law_k", 13)]) (N := ["_law_state", "_law_script", "_law_world", "_law_depth", "_law_names", "_law_procedures", "_law_choice", "_law_condition_here", "_law_first", "_law_name", "_law_count", "_law_values", "_law_target", "_law_k"]) (sc := (defScope (dst 40))) (by decide +kernel)) (fun _ _ _ _ _ => (pg_name (i := 13) scs40.nd rfl (Or.inl rfl))) (fun _ _ _ _ _ => pts_nil) (fun _ _ _ _ _ => (pe_call (ok36 T 3) (hr.mono (by first | exact Nat.le_refl _ | decide | omega)) rfl T.D36.mg T.D36.kp T.D36.bd .nil pass0 (pa_cons (pv 0) (pa_cons (pv 1) (pa_cons (pv 4) (pa_cons pe_int pa_nil))))))) pa_nil)))
      (pss_cons (ps_set (i := 12) scs40.nd rfl (Or.inl rfl) pe_non)
      (pss_cons (ps_if (PW.pt (pw_and (pt_cmpR op_gt (pe_callB call_len_seq (by rfl) T.n_len PyProof.Rows.Boot.«len» (pa_cons (pv 4) pa_nil)) pe_int (nomark _)) (pw_and1 (pt_cmpR op_eq (pe_call (ok33 T) (hr.mono (by first | exact Nat.le_refl _ | decide | omega)) rfl T.D33.mg T.D33.kp T.D33.bd .nil pass0 (pa_cons (pv 0) (pa_cons (pv 1) (pa_cons pe_int pa_nil)))) pe_int (nomark _))))) (pss_one (ps_set (i := 12) scs40.nd rfl (Or.inl rfl) (pe_ix (ixLK (K := K) rfl) (pv 4) (pe_call (ok33 T) (hr.mono (by first | exact Nat.le_refl _ | decide | omega)) rfl T.D33.mg T.D33.kp T.D33.bd .nil pass0 (pa_cons (pv 0) (pa_cons (pv 1) (pa_cons (pe_callB call_len_seq (by rfl) T.n_len PyProof.Rows.Boot.«len» (pa_cons (pv 4) pa_nil)) pa_nil)))) (fun _ _ => rfl)))) pss_nil)
      (pss_one (ps_ret (pe_tup (pa_cons pe_str (pa_cons (pv 9) (pa_cons (pv 11) (pa_cons (pv 12) pa_nil))))))))))) pss_nil)
      (pss_cons (ps_if (pt_cmpR op_eq (pv 6) pe_int (nomark _)) (pss_one (ps_ret (pe_tup (pa_cons pe_str (pa_cons (pe_call (ok36 T 3) (hr.mono (by first | exact Nat.le_refl _ | decide | omega)) rfl T.D36.mg T.D36.kp T.D36.bd .nil pass0 (pa_cons (pv 0) (pa_cons (pv 1) (pa_cons (pv 4) (pa_cons pe_int pa_nil))))) pa_nil))))) pss_nil)
      (pss_cons (ps_if (pt_cmpR op_eq (pv 6) pe_int (nomark _)) (pss_one (ps_ret (pe_tup (pa_cons pe_str (pa_cons (pe_call (ok38 T) (hr.mono (by first | exact Nat.le_refl _ | decide | omega)) rfl T.D38.mg T.D38.kp T.D38.bd .nil pass0 (pa_cons (pv 0) (pa_cons (pv 1) (pa_cons (pv 4) pa_nil)))) pa_nil))))) pss_nil)
      (pss_cons (ps_if (pt_cmpR op_eq (pv 6) pe_int (nomark _)) (pss_one (ps_ret (pe_tup (pa_cons pe_str (pa_cons (pe_call (ok38 T) (hr.mono (by first | exact Nat.le_refl _ | decide | omega)) rfl T.D38.mg T.D38.kp T.D38.bd .nil pass0 (pa_cons (pv 0) (pa_cons (pv 1) (pa_cons (pv 4) pa_nil)))) pa_nil))))) pss_nil)
      (pss_cons (ps_if (PW.pt (pw_and (pt_cmpR op_eq (pv 6) pe_int (nomark _)) (pw_and1 (pt_cmpR op_eq (pe_call (ok33 T) (hr.mono (by first | exact Nat.le_refl _ | decide | omega)) rfl T.D33.mg T.D33.kp T.D33.bd .nil pass0 (pa_cons (pv 0) (pa_cons (pv 1) (pa_cons pe_int pa_nil)))) pe_int (nomark _))))) (pss_one (ps_ret (pe_tup (pa_cons pe_str (pa_cons (pe_call (ok36 T 3) (hr.mono (by first | exact Nat.le_refl _ | decide | omega)) rfl T.D36.mg T.D36.kp T.D36.bd .nil pass0 (pa_cons (pv 0) (pa_cons (pv 1) (pa_cons (pv 4) (pa_cons pe_int pa_nil))))) pa_nil))))) pss_nil)
      (pss_cons (ps_if (pt_cmpR op_eq (pe_callB call_len_seq (by rfl) T.n_len PyProof.Rows.Boot.«len» (pa_cons (pv 4) pa_nil)) pe_int (nomark _)) (pss_one (ps_ret (pe_tup (pa_cons pe_str (pa_cons (pe_call (ok36 T 3) (hr.mono (by first | exact Nat.le_refl _ | decide | omega)) rfl T.D36.mg T.D36.kp T.D36.bd .nil pass0 (pa_cons (pv 0) (pa_cons (pv 1) (pa_cons (pv 4) (pa_cons pe_int pa_nil))))) pa_nil))))) pss_nil)
      (pss_cons (ps_set (i := 9) scs40.nd rfl (Or.inl rfl) (pe_ix (ixLK (K := K) rfl) (pv 4) (pe_call (ok33 T) (hr.mono (by first | exact Nat.le_refl _ | decide | omega)) rfl T.D33.mg T.D33.kp T.D33.bd .nil pass0 (pa_cons (pv 0) (pa_cons (pv 1) (pa_cons (pe_callB call_len_seq (by rfl) T.n_len PyProof.Rows.Boot.«len» (pa_cons (pv 4) pa_nil)) pa_nil)))) (fun _ _ => rfl)))
      (pss_cons (ps_if (pt_cmpR op_eq (pv 6) pe_int (nomark _)) (pss_one (ps_ret (pe_tup (pa_cons pe_str (pa_cons (pv 9) pa_nil))))) pss_nil)
      (pss_one (ps_ret (pe_tup (pa_cons pe_str (pa_cons (pv 9) (pa_cons (pe_call (ok36 T 3) (hr.mono (by first | exact Nat.le_refl _ | decide | omega)) rfl T.D36.mg T.D36.kp T.D36.bd .nil pass0 (pa_cons (pv 0) (pa_cons (pv 1) (pa_cons (pv 4) (pa_cons pe_int pa_nil))))) pa_nil))))))))))))))))))), ?_⟩)
  · obtain ⟨st, sc, wd, ns, k, names, R, d, rfl, _⟩ := h
    rfl
  · obtain ⟨st, sc, wd, ns, k, names, R, d, rfl, G, W, hd, k0, k1, q⟩ := h
    obtain ⟨nl, pl, hw, N, P0⟩ := id W
    try walk_at "w15"
    refine ⟨_, hw, rfl, _, _, rfl, _, _, rfl, rfl, st, sc, ns, k, 16, rfl, G, by decide, by decide, fun r H1 G1 c1 z1 z2 => ?_⟩
    have N1 := N.chg c1
    have P1 := P0.chg c1
    have W1 := W.chg c1
    have leaf : ∀ s v H', GX K H' st sc ns k → Chg [st] H H' → okS0 R names s → allI s = [] → depS s = 0 → DatAt K H' s.d v → Q v H' := fun s v H' g c o a e t =>
      q s v k H' g c (by omega) (by rw [a]; simp) ⟨o, fun t ht => by rw [a] at ht; cases ht⟩ (by omega) t
    try walk_at "w15"
    refine ite2C (fun h1 h2 _ => ?_) ?_
    · refine ⟨st, sc, nl, ns, k, names, rfl, G1, N1, fun e2 v2 H2 G2 c2 o2 a2 => ?_⟩
      have hd1' : (d : Int) - 1 = ((d - 1 : Nat) : Int) := by omega
      try walk_at "w15"
      refine ⟨st, sc, wd, ns, k, names, R, d - 1, by rw [hd1'], G2, W1.chg c2, by omega, by omega, by omega, fun b3 v3 k3 H3 G3 c3 q31 q32 q33 q34 q35 => ?_⟩
      try walk_at "w15"
      refine ⟨st, sc, wd, ns, k3, names, R, d - 1, by rw [hd1'], G3, (W1.chg c2).chg c3, by omega, by omega, by omega, fun b4 v4 k4 H4 G4 c4 q41 q42 q43 q44 q45 => ?_⟩
      try walk_at "w15"
      refine ⟨by decide, fun p hp => ?_⟩
      have cp : Chg [] H4 (upd H4 p (.tup [.str "if", v2, v3, v4])) := Chg.new hp
      refine q (.ite e2 b3 b4) _ k4 _ (G4.chg cp) ((((c1.trans c2).trans c3).trans c4).trans cp.of0) q41 (by rw [allI, List.length_append]; omega) ⟨o2, fun t ht => ?_⟩ (by rw [depS]; omega) ?_
      · rw [allI] at ht
        rcases List.mem_append.mp ht with ht | ht
        · exact q33 t ht
        · exact q43 t ht
      · rw [Sm.d]
        exact dat_tup (SqT.of upd_same) (dats_cons dat_str (dats_cons (((a2.chg c3).chg c4).chg cp) (dats_cons ((q35.chg c4).chg cp) (dats_cons (q45.chg cp) dats_nil))))
    refine ite2C (fun h3 h4 _ => ?_) ?_
    · refine ⟨st, sc, nl, ns, k, names, rfl, G1, N1, fun e2 v2 H2 G2 c2 o2 a2 => ?_⟩
      have hd1' : (d : Int) - 1 = ((d - 1 : Nat) : Int) := by omega
      try walk_at "w15"
      refine ⟨st, sc, wd, ns, k, names, R, d - 1, by rw [hd1'], G2, W1.chg c2, by omega, by omega, by omega, fun b3 v3 k3 H3 G3 c3 q31 q32 q33 q34 q35 => ?_⟩
      try walk_at "w15"
      refine ⟨by decide, fun p hp => ?_⟩
      have cp : Chg [] H3 (upd H3 p (.tup [.str "while", v2, v3])) := Chg.new hp
      refine q (.whl e2 b3) _ k3 _ (G3.chg cp) (((c1.trans c2).trans c3).trans cp.of0) q31 (by rw [allI]; omega) ⟨o2, fun t ht => ?_⟩ (by rw [depS]; omega) ?_
      · rw [allI] at ht
        exact q33 t ht
      · rw [Sm.d]
        exact dat_tup (SqT.of upd_same) (dats_cons dat_str (dats_cons ((a2.chg c3).chg cp) (dats_cons (q35.chg cp) dats_nil)))
    refine ite2C (fun h5 h6 hC => ?_) ?_
    · refine ⟨_, .inl N1.1, ?_⟩
      rw [List.length_map]
      by_cases hn : (0 : Int) < ((names.length : Nat) : Int)
      · rw [if_pos hn]
        refine ⟨st, sc, wd, ns, k, names, R, d, rfl, G1, W1, by omega, by omega, by omega, by intro z; rw [z] at hn; simp at hn, by omega, fun s v k' H2 G2 c2 q1 q2 q3 q4 q5 => ?_⟩
        exact q s v k' H2 G2 (c1.trans c2) q1 q2 q3 q4 q5
      · rw [if_neg hn]
        exact hC
    by_cases h8 : r < 8
    · rw [if_pos h8]
      obtain ⟨⟨ps, hps, hds⟩, hplne, hRne, hRl, hR2⟩ := P1
      have hpl : ps.length = R.length := by rw [hds.len, List.length_map]
      have hRp := List.length_pos_iff.mpr hRne
      refine ⟨ps, .inl hps, st, sc, ns, k, _, rfl, G1, by omega, by omega, fun r2 H2 G2 c2 y1 y2 => ?_⟩
      have N2 := N1.chg c2
      refine ixN1 (c2.sqL' hps (by simpa using hplne)) y1 y2 fun v hv hv2 => ?_
      obtain ⟨dd, hd1, hd2⟩ := hds.at hv2
      rw [List.getElem?_map] at hd1
      cases hri : R[r2.toNat]? with
      | none => rw [hri] at hd1; cases hd1
      | some row =>
      rw [hri] at hd1
      cases hd1
      have hrow : row ∈ R := List.mem_of_getElem? hri
      have hrow2 := hR2 row hrow
      unfold rowD at hd2
      obtain ⟨pp, xs, rfl, s0, g⟩ := DatAt.tup_inv hd2
      obtain ⟨x0, r0, rfl, t1, g⟩ := g.cons_inv
      obtain ⟨x1, r0, rfl, t2, g⟩ := g.cons_inv
      cases g.nil_inv
      cases dat_str_inv t1
      cases dat_int_inv t2
      refine ⟨pp, rfl, _, c2.sqT s0, rfl, _, _, rfl, _, _, rfl, rfl, (row.2 : Int), rfl, by omega, by omega, lcR (M := [st]) (fun m hm => ?_) (fun i acc H => i ≤ 2 ∧ acc.length = i ∧ GX K H st sc ns k ∧ ∃ es : List Ex, es.length = i ∧ DatsAt K H (es.map Ex.d) acc ∧ ∀ e ∈ es, okEx names e) ⟨by decide, rfl, G2, [], rfl, dats_nil, fun e z => nomatch z⟩ (fun i acc H H' D hD cc c w => ?_) (fun i acc H w => ?_) (fun i H3 acc N' Nn hi c3 w k1 => ?_) fun D H3 acc hD c3 hacc w => ?_⟩
      · obtain ⟨_, _, _, z, _⟩ := G2.cells
        rw [List.mem_singleton.mp hm]
        exact ⟨_, z⟩
      · obtain ⟨w1, w2, w3, es, w4, w5, w6⟩ := w
        exact ⟨w1, w2, GX.own G2 hD w3 c cc, es, w4, w5.chg c, w6⟩
      · exact sz' (by have := w.1; have := w.2.1; omega)
      · obtain ⟨w1, w2, w3, es, w4, w5, w6⟩ := w
        try walk_at "w15"
        refine ⟨st, sc, nl, ns, k, names, 1, rfl, w3, N2.chg c3, by decide, fun e4 v4 H4 G4 c4 o4 p4 a4 => ?_⟩
        try walk_at "w15"
        refine k1 _ _ c4 ⟨by omega, by rw [List.length_append, w2]; rfl, G4, es ++ [e4], by rw [List.length_append, w4]; rfl, ?_, fun e he => ?_⟩
        · rw [List.map_append]
          exact DatsAt.append (w5.chg c4) (dats_cons a4 dats_nil)
        · rcases List.mem_append.mp he with he | he
          · exact w6 e he
          · rw [List.mem_singleton.mp he]; exact ⟨o4, by omega⟩
      · obtain ⟨w1, w2, w3, es, w4, w5, w6⟩ := w
        have N3 := N2.chg c3
        have w4' : es.length = row.2 := by omega
        have hR : (row.1, es.length) ∈ R := by rw [w4']; exact hrow
        try walk_at "w15"
        refine ⟨_, .inl ⟨SqL.of hacc, fun l hl => ?_⟩⟩
        have cl : Chg [] H3 (upd H3 l (.tup acc)) := Chg.new hl
        have dl : DatAt K (upd H3 l (.tup acc)) (.tup (es.map Ex.d)) (.ref l) := dat_tup (SqT.of upd_same) (w5.chg cl)
        have Gl := w3.chg cl
        have Nl := N3.chg cl.of0
        have cz := ((c1.trans c2).trans c3).trans cl.of0
        generalize hHl : upd H3 l (.tup acc) = Hl at *
        refine ⟨_, .inl Nl.1, ?_⟩
        rw [List.length_map]
        by_cases hn : (0 : Int) < ((names.length : Nat) : Int)
        · rw [if_pos hn]
          refine ⟨st, sc, ns, k, 2, rfl, Gl, by decide, by decide, fun r7 H7 G7 c7 x1 x2 => ?_⟩
          have N7 := Nl.chg c7
          try walk_at "w15"
          by_cases h0 : r7 = 0
          · rw [if_pos h0]
            refine ⟨_, .inl N7.1, st, sc, ns, k, _, rfl, G7, by rw [List.length_map]; omega, by rw [List.length_map]; have := N.2.2; omega, fun r8 H8 G8 c8 u1 u2 => ?_⟩
            refine ixN1 (N7.chg c8).1 u1 u2 fun v hv _ => ?_
            obtain ⟨nm, hnm, rfl⟩ := List.mem_map.mp hv
            try walk_at "w15"
            refine ⟨by decide, fun p hp => ?_⟩
            have cp : Chg [] H8 (upd H8 p (.tup [.str "call", .str row.1, .ref l, .str nm])) := Chg.new hp
            exact leaf (.call row.1 es (some nm)) _ _ (G8.chg cp) (((cz.trans c7).trans c8).trans cp.of0) ⟨hR, w6, fun n hn => by cases hn; exact hnm⟩ (by simp [allI]) (by simp [depS]) (by rw [Sm.d]; exact dat_tup (SqT.of upd_same) (dats_cons dat_str (dats_cons dat_str (dats_cons (((dl.chg c7).chg c8).chg cp) (dats_cons dat_str dats_nil)))))
          · rw [if_neg h0]
            refine ⟨by decide, fun p hp => ?_⟩
            have cp : Chg [] H7 (upd H7 p (.tup [.str "call", .str row.1, .ref l, .non])) := Chg.new hp
            exact leaf (.call row.1 es none) _ _ (G7.chg cp) ((cz.trans c7).trans cp.of0) ⟨hR, w6, fun n hn => by cases hn⟩ (by simp [allI]) (by simp [depS]) (by rw [Sm.d]; exact dat_tup (SqT.of upd_same) (dats_cons dat_str (dats_cons dat_str (dats_cons ((dl.chg c7).chg cp) (dats_cons dat_non dats_nil)))))
        · rw [if_neg hn]
          refine ⟨by decide, fun p hp => ?_⟩
          have cp : Chg [] Hl (upd Hl p (.tup [.str "call", .str row.1, .ref l, .non])) := Chg.new hp
          exact leaf (.call row.1 es none) _ _ (Gl.chg cp) (cz.trans cp.of0) ⟨hR, w6, fun n hn => by cases hn⟩ (by simp [allI]) (by simp [depS]) (by rw [Sm.d]; exact dat_tup (SqT.of upd_same) (dats_cons dat_str (dats_cons dat_str (dats_cons (dl.chg cp) (dats_cons dat_non dats_nil)))))
    rw [if_neg h8]
    by_cases h8 : r = 8
    · rw [if_pos h8]
      refine ⟨st, sc, nl, ns, k, names, 2, rfl, G1, N1, by decide, fun e2 v2 H2 G2 c2 o2 p2 a2 => ?_⟩
      try walk_at "w15"
      refine ⟨by decide, fun p hp => ?_⟩
      have cp : Chg [] H2 (upd H2 p (.tup [.str "tell", v2])) := Chg.new hp
      exact leaf (.tell e2) _ _ (G2.chg cp) ((c1.trans c2).trans cp.of0) ⟨o2, by omega⟩ (by simp [allI]) (by simp [depS]) (by rw [Sm.d]; exact dat_tup (SqT.of upd_same) (dats_cons dat_str (dats_cons (a2.chg cp) dats_nil)))
    rw [if_neg h8]
    by_cases h9 : r = 9
    · rw [if_pos h9]
      refine ⟨st, sc, nl, ns, k, names, rfl, G1, N1, fun e2 v2 H2 G2 c2 o2 a2 => ?_⟩
      try walk_at "w15"
      refine ⟨by decide, fun p hp => ?_⟩
      have cp : Chg [] H2 (upd H2 p (.tup [.str "check", v2])) := Chg.new hp
      exact leaf (.chk e2) _ _ (G2.chg cp) ((c1.trans c2).trans cp.of0) o2 (by simp [allI]) (by simp [depS]) (by rw [Sm.d]; exact dat_tup (SqT.of upd_same) (dats_cons dat_str (dats_cons (a2.chg cp) dats_nil)))
    rw [if_neg h9]
    by_cases h10 : r = 10
    · rw [if_pos h10]
      refine ⟨st, sc, nl, ns, k, names, rfl, G1, N1, fun e2 v2 H2 G2 c2 o2 a2 => ?_⟩
      try walk_at "w15"
      refine ⟨by decide, fun p hp => ?_⟩
      have cp : Chg [] H2 (upd H2 p (.tup [.str "need", v2])) := Chg.new hp
      exact leaf (.need e2) _ _ (G2.chg cp) ((c1.trans c2).trans cp.of0) o2 (by simp [allI]) (by simp [depS]) (by rw [Sm.d]; exact dat_tup (SqT.of upd_same) (dats_cons dat_str (dats_cons (a2.chg cp) dats_nil)))
    rw [if_neg h10]
    by_cases h11 : r = 11
    · rw [if_pos h11]
      refine ⟨st, sc, ns, k, 2, rfl, G1, by decide, by decide, fun r6 H6 G6 c6 x1 x2 => ?_⟩
      have N6 := N1.chg c6
      try walk_at "w15"
      by_cases h0 : r6 = 0
      · rw [if_pos h0]
        refine ⟨st, sc, nl, ns, k, names, 2, rfl, G6, N6, by decide, fun e2 v2 H2 G2 c2 o2 p2 a2 => ?_⟩
        try walk_at "w15"
        refine ⟨by decide, fun p hp => ?_⟩
        have cp : Chg [] H2 (upd H2 p (.tup [.str "return", v2])) := Chg.new hp
        exact leaf (.ret e2) _ _ (G2.chg cp) (((c1.trans c6).trans c2).trans cp.of0) ⟨o2, by omega⟩ (by simp [allI]) (by simp [depS]) (by rw [Sm.d]; exact dat_tup (SqT.of upd_same) (dats_cons dat_str (dats_cons (a2.chg cp) dats_nil)))
      · rw [if_neg h0]
        refine ⟨_, .inl N6.1, ?_⟩
        rw [List.length_map]
        by_cases hn : ((names.length : Nat) : Int) = 0
        · rw [if_pos hn]
          refine ⟨st, sc, nl, ns, k, names, 2, rfl, G6, N6, by decide, fun e2 v2 H2 G2 c2 o2 p2 a2 => ?_⟩
          try walk_at "w15"
          refine ⟨by decide, fun p hp => ?_⟩
          have cp : Chg [] H2 (upd H2 p (.tup [.str "tell", v2])) := Chg.new hp
          exact leaf (.tell e2) _ _ (G2.chg cp) (((c1.trans c6).trans c2).trans cp.of0) ⟨o2, by omega⟩ (by simp [allI]) (by simp [depS]) (by rw [Sm.d]; exact dat_tup (SqT.of upd_same) (dats_cons dat_str (dats_cons (a2.chg cp) dats_nil)))
        · rw [if_neg hn]
          refine ⟨_, .inl N6.1, st, sc, ns, k, _, rfl, G6, by rw [List.length_map]; omega, by rw [List.length_map]; have := N.2.2; omega, fun r5 H5 G5 c5 y1 y2 => ?_⟩
          refine ixN1 (N6.chg c5).1 y1 y2 fun v hv _ => ?_
          obtain ⟨nm, hnm, rfl⟩ := List.mem_map.mp hv
          try walk_at "w15"
          by_cases h12 : r = 12
          · rw [if_pos h12]
            refine ⟨by decide, fun p hp => ?_⟩
            have cp : Chg [] H5 (upd H5 p (.tup [.str "ask", .str nm])) := Chg.new hp
            exact leaf (.ask nm) _ _ (G5.chg cp) (((c1.trans c6).trans c5).trans cp.of0) hnm (by simp [allI]) (by simp [depS]) (by rw [Sm.d]; exact dat_tup (SqT.of upd_same) (dats_cons dat_str (dats_cons dat_str dats_nil)))
          · rw [if_neg h12]
            refine ⟨st, sc, nl, ns, k, names, 2, rfl, G5, N6.chg c5, by decide, fun e2 v2 H2 G2 c2 o2 p2 a2 => ?_⟩
            try walk_at "w15"
            refine ⟨by decide, fun p hp => ?_⟩
            have cp : Chg [] H2 (upd H2 p (.tup [.str "set", .str nm, v2])) := Chg.new hp
            exact leaf (.set nm e2) _ _ (G2.chg cp) ((((c1.trans c6).trans c5).trans c2).trans cp.of0) ⟨hnm, o2, by omega⟩ (by simp [allI]) (by simp [depS]) (by rw [Sm.d]; exact dat_tup (SqT.of upd_same) (dats_cons dat_str (dats_cons dat_str (dats_cons (a2.chg cp) dats_nil))))
    rw [if_neg h11]
    refine ⟨_, .inl N1.1, ?_⟩
    rw [List.length_map]
    by_cases hn : ((names.length : Nat) : Int) = 0
    · rw [if_pos hn]
      refine ⟨st, sc, nl, ns, k, names, 2, rfl, G1, N1, by decide, fun e2 v2 H2 G2 c2 o2 p2 a2 => ?_⟩
      try walk_at "w15"
      refine ⟨by decide, fun p hp => ?_⟩
      have cp : Chg [] H2 (upd H2 p (.tup [.str "tell", v2])) := Chg.new hp
      exact leaf (.tell e2) _ _ (G2.chg cp) ((c1.trans c2).trans cp.of0) ⟨o2, by omega⟩ (by simp [allI]) (by simp [depS]) (by rw [Sm.d]; exact dat_tup (SqT.of upd_same) (dats_cons dat_str (dats_cons (a2.chg cp) dats_nil)))
    · rw [if_neg hn]
      refine ⟨_, .inl N1.1, st, sc, ns, k, _, rfl, G1, by rw [List.length_map]; omega, by rw [List.length_map]; have := N.2.2; omega, fun r5 H5 G5 c5 y1 y2 => ?_⟩
      refine ixN1 (N1.chg c5).1 y1 y2 fun v hv _ => ?_
      obtain ⟨nm, hnm, rfl⟩ := List.mem_map.mp hv
      try walk_at "w15"
      by_cases h12 : r = 12
      · rw [if_pos h12]
        refine ⟨by decide, fun p hp => ?_⟩
        have cp : Chg [] H5 (upd H5 p (.tup [.str "ask", .str nm])) := Chg.new hp
        exact leaf (.ask nm) _ _ (G5.chg cp) ((c1.trans c5).trans cp.of0) hnm (by simp [allI]) (by simp [depS]) (by rw [Sm.d]; exact dat_tup (SqT.of upd_same) (dats_cons dat_str (dats_cons dat_str dats_nil)))
      · rw [if_neg h12]
        refine ⟨st, sc, nl, ns, k, names, 2, rfl, G5, N1.chg c5, by decide, fun e2 v2 H2 G2 c2 o2 p2 a2 => ?_⟩
        try walk_at "w15"
        refine ⟨by decide, fun p hp => ?_⟩
        have cp : Chg [] H2 (upd H2 p (.tup [.str "set", .str nm, v2])) := Chg.new hp
        exact leaf (.set nm e2) _ _ (G2.chg cp) (((c1.trans c5).trans c2).trans cp.of0) ⟨hnm, o2, by omega⟩ (by simp [allI]) (by simp [depS]) (by rw [Sm.d]; exact dat_tup (SqT.of upd_same) (dats_cons dat_str (dats_cons dat_str (dats_cons (a2.chg cp) dats_nil))))
end
end Cc
set_option maxRecDepth 100000
set_option maxHeartbeats 4000000
/-! the law: block for all depths, procedure -/
namespace Cc
open PySem PySem.Spec PyProof.Rows L2
section
variable {P : Program} {w : World} {K : PySem.W.Frag} {mg : Str → Option Value} {base : Heap} {a : Nat → Addr} {fd : Nat → FuncData}
theorem ok41 (T : Tx P K mg base a fd) : ∀ n : Nat, FnOk P w K mg base CX0 (3 * n + 8) (a 41) (fd 41) ["_law_state", "_law_script", "_law_world", "_law_depth"] (sp41 K n)
  | 0 => (FnOk.never (ps := ["_law_state", "_law_script", "_law_world", "_law_depth"])).imp fun vs H Q E h => by
    obtain ⟨st, sc, wd, ns, k, names, R, d, _, _, _, z, _⟩ := h
    exact absurd z (Nat.not_lt_zero _)
  | n + 1 => ok41s T n (ok40s T n (ok41 T n) (ok39s T n (ok41 T n)))
end
section
variable {K : PySem.W.Frag} {H : Hp} {a : Addr} {xs : List V} {r : Int} {Q : VK}
theorem cut_to (h : 0 ≤ r) : cutV xs none (some r) = xs.take r.toNat := by
  unfold cutV
  rw [show r = ((r.toNat : Nat) : Int) by omega, HT.sIx_none, HT.sIx_nat, List.drop_zero, Nat.sub_zero, Int.toNat_natCast]
  rcases Nat.le_total r.toNat xs.length with z | z
  · rw [Nat.min_eq_left z]
  · rw [Nat.min_eq_right z, List.take_length, List.take_of_length_le z]
theorem cut_from (h : 0 ≤ r) : cutV xs (some r) none = xs.drop r.toNat := by
  unfold cutV
  rw [show r = ((r.toNat : Nat) : Int) by omega, HT.sIx_none, HT.sIx_nat, Int.toNat_natCast]
  rcases Nat.le_total r.toNat xs.length with z | z
  · rw [Nat.min_eq_left z, List.take_of_length_le (by rw [List.length_drop]; omega)]
  · rw [Nat.min_eq_right z, List.drop_length, List.drop_of_length_le z, List.take_nil]
theorem slTo (s : SqL K H a xs) (h : 0 ≤ r) (q : ∀ p, H p = none → Q (.ref p) (upd H p (.lst (xs.take r.toNat)))) : rSlL K (.ref a) none (some r) H Q := ⟨a, xs, rfl, s, by rw [cut_to h]; exact q⟩
theorem slFrom (s : SqL K H a xs) (h : 0 ≤ r) (q : ∀ p, H p = none → Q (.ref p) (upd H p (.lst (xs.drop r.toNat)))) : rSlL K (.ref a) (some r) none H Q := ⟨a, xs, rfl, s, by rw [cut_from h]; exact q⟩
end
/-- statements without blocks -/
def Simp (R : List (Str × Nat)) (V : List Str) (b : List Sm) : Prop := ∀ s ∈ b, okS0 R V s ∧ allI s = [] ∧ depS s = 0
theorem Simp.all {R : List (Str × Nat)} {V : List Str} : ∀ {b : List Sm}, Simp R V b → allB b = b
  | [], _ => by rw [allB]
  | s :: r, h => by rw [allB, (h s (by simp)).2.1, List.nil_append, Simp.all fun t ht => h t (List.mem_cons_of_mem _ ht)]
theorem Simp.dep {R : List (Str × Nat)} {V : List Str} : ∀ {b : List Sm}, Simp R V b → depB b = 0
  | [], _ => by rw [depB]
  | s :: r, h => by rw [depB, (h s (by simp)).2.2, Simp.dep fun t ht => h t (List.mem_cons_of_mem _ ht)]; rfl
theorem Simp.ok {R : List (Str × Nat)} {V : List Str} {b : List Sm} (h : Simp R V b) : okB0 R V b := fun s hs => by
  rw [h.all] at hs
  exact (h s hs).1
theorem Simp.app {R : List (Str × Nat)} {V : List Str} {b : List Sm} {s : Sm} (h : Simp R V b) (o : okS0 R V s) (a : allI s = []) (d : depS s = 0) : Simp R V (b ++ [s]) := fun t ht => by
  rcases List.mem_append.mp ht with ht | ht
  · exact h t ht
  · rw [List.mem_singleton.mp ht]; exact ⟨o, a, d⟩
def GoodPr (shared : List Str) (R : List (Str × Nat)) (r : Str × List Str) (pr : Pr) : Prop := pr.name = r.1 ∧ pr.params = r.2 ∧ depB pr.body < 3 ∧ (allB pr.body).length ≤ 24 ∧ ∃ own : List Str, (∀ x ∈ own, x ∈ targets pr.body) ∧ okB0 R (shared ++ r.2 ++ own) pr.body
def ownsL : List Str := ["x", "y", "n1"]
def procD (r : Str × List Str) : D := .tup [.str r.1, .tup (r.2.map D.str)]
theorem scs42 : FnScope ["_law_state", "_law_script", "_law_shared", "_law_row", "_law_procedures", "_law_own", "_law_world", "_law_first", "_law_last", "_law_name", "_law_made", "_law_block_here"] ["_law_state", "_law_script", "_law_shared", "_law_row", "_law_procedures"] (defScope (dst 42)) := ⟨rfl, rfl, rfl, by decide +kernel, rfl, by decide +kernel, by decide +kernel⟩
def sp42 (K : PySem.W.Frag) : Sp := fun vs H Q _ => ∃ (st sc sh pl : Addr) (rw : V) (ns : List Int) (k : Int) (shared : List Str) (r : Str × List Str) (R : List (Str × Nat)), vs = [.ref st, .ref sc, .ref sh, rw, .ref pl] ∧ GX K H st sc ns k ∧ SqL K H sh (shared.map V.str) ∧ sh ≠ st ∧ shared.length ≤ 3 ∧ r.2.length ≤ 2 ∧ DatAt K H (procD r) rw ∧ PX K H st pl R ∧ -1 ≤ k ∧ k ≤ 20 ∧
  ∀ pr v k' H', GX K H' st sc ns k' → Chg [st] H H' → -1 ≤ k' → k' ≤ k → GoodPr shared R r pr → DatAt K H' pr.d v → Q v H'
section
variable {P : Program} {w : World} {K : PySem.W.Frag} {mg : Str → Option Value} {base : Heap} {a : Nat → Addr} {fd : Nat → FuncData}
theorem ok42 (T : Tx P K mg base a fd) : FnOk P w K mg base CX0 18 (a 42) (fd 42) ["_law_state", "_law_script", "_law_shared", "_law_row", "_law_procedures"] (sp42 K) := by
  refine T.D42.fn.ok scs42 (fun vs H Q E h => ?_) (fun cdv A outer s H vs Q E hr h => ⟨_, (pss_cons (ps_set (i := 5) scs42.nd rfl (Or.inl rfl) (pe_slice sl_list (pe_lst (pa_cons pe_str (pa_cons pe_str (pa_cons pe_str pa_nil)))) po_none (po_some (pe_call (ok33 T) (hr.mono (by first | exact Nat.le_refl _ | decide | omega)) rfl T.D33.mg T.D33.kp T.D33.bd .nil pass0 (pa_cons (pv 0) (pa_cons (pv 1) (pa_cons pe_int pa_nil)))))))
      (pss_cons (ps_set (i := 6) scs42.nd rfl (Or.inl rfl) (pe_tup (pa_cons (pe_op op_cat (pe_op op_cat (pe_callTy call_list_of (by rfl) T.n_list PyProof.Rows.Boot.«list» (pa_cons (pv 2) pa_nil)) (pe_callTy call_list_of (by rfl) T.n_list PyProof.Rows.Boot.«list» (pa_cons (pe_ix (ixTK (K := K) rfl) (pv 3) pe_int (fun _ _ => rfl)) pa_nil))) (pv 5)) (pa_cons (pv 4) pa_nil))))
      (pss_cons (ps_set (i := 7) scs42.nd rfl (Or.inl rfl) (pe_lst pa_nil))
      (pss_cons (ps_set (i := 8) scs42.nd rfl (Or.inl rfl) (pe_lst pa_nil))
      (pss_cons (ps_for PassesOwn.never rfl (pi_list (pv 5)) (pg_name (i := 9) scs42.nd rfl (Or.inl rfl)) (pss_cons (ps_set (i := 10) scs42.nd rfl (Or.inl rfl) (pe_tup (pa_cons pe_str (pa_cons (pv 9) (pa_cons (pe_tup (pa_cons pe_str (pa_cons (pe_call (ok35 T) (hr.mono (by first | exact Nat.le_refl _ | decide | omega)) rfl T.D35.mg T.D35.kp T.D35.bd .nil pass0 (pa_cons (pv 0) (pa_cons (pv 1) pa_nil))) pa_nil))) pa_nil)))))
      (pss_cons (ps_if (pt_cmpR op_eq (pe_call (ok33 T) (hr.mono (by first | exact Nat.le_refl _ | decide | omega)) rfl T.D33.mg T.D33.kp T.D33.bd .nil pass0 (pa_cons (pv 0) (pa_cons (pv 1) (pa_cons pe_int pa_nil)))) pe_int (nomark _)) (pss_one (ps_set (i := 10) scs42.nd rfl (Or.inl rfl) (pe_tup (pa_cons pe_str (pa_cons (pv 9) pa_nil))))) pss_nil)
      (pss_one (ps_if (pt_cmpR op_gt (pe_call (ok33 T) (hr.mono (by first | exact Nat.le_refl _ | decide | omega)) rfl T.D33.mg T.D33.kp T.D33.bd .nil pass0 (pa_cons (pv 0) (pa_cons (pv 1) (pa_cons pe_int pa_nil)))) pe_int (nomark _)) (pss_one (ps_expr (pe_bm PySem.F.plainAttrs_list PySem.F.slot_list_append PySem.F.type_list_append mt_append (pv 7) (pa_cons (pv 10) pa_nil)))) (pss_one (ps_expr (pe_bm PySem.F.plainAttrs_list PySem.F.slot_list_append PySem.F.type_list_append mt_append (pv 8) (pa_cons (pv 10) pa_nil)))))))))
      (pss_cons (ps_set (i := 11) scs42.nd rfl (Or.inl rfl) (pe_call (ok41 T 3) (hr.mono (by first | exact Nat.le_refl _ | decide | omega)) rfl T.D41.mg T.D41.kp T.D41.bd .nil pass0 (pa_cons (pv 0) (pa_cons (pv 1) (pa_cons (pv 6) (pa_cons pe_int pa_nil))))))
      (pss_cons (ps_if (pt_cmpR op_eq (pe_ix (ixTK (K := K) rfl) (pv 3) pe_int (fun _ _ => rfl)) pe_str (nomark _)) (pss_one (ps_set (i := 11) scs42.nd rfl (Or.inl rfl) (pe_op (catK (K := K) rfl) (pe_op (catK (K := K) rfl) (pv 11) (pe_call (ok41 T 3) (hr.mono (by first | exact Nat.le_refl _ | decide | omega)) rfl T.D41.mg T.D41.kp T.D41.bd .nil pass0 (pa_cons (pv 0) (pa_cons (pv 1) (pa_cons (pv 6) (pa_cons pe_int pa_nil)))))) (pe_call (ok41 T 3) (hr.mono (by first | exact Nat.le_refl _ | decide | omega)) rfl T.D41.mg T.D41.kp T.D41.bd .nil pass0 (pa_cons (pv 0) (pa_cons (pv 1) (pa_cons (pv 6) (pa_cons pe_int pa_nil)))))))) pss_nil)
      (pss_one (ps_ret (pe_tup (pa_cons (pe_ix (ixTK (K := K) rfl) (pv 3) pe_int (fun _ _ => rfl)) (pa_cons (pe_ix (ixTK (K := K) rfl) (pv 3) pe_int (fun _ _ => rfl)) (pa_cons (pe_op (catK (K := K) rfl) (pe_op (catK (K := K) rfl) (pe_callTy call_tuple_of (by rfl) T.n_tuple PyProof.Rows.Boot.«tuple» (pa_cons (pv 7) pa_nil)) (pv 11)) (pe_callTy call_tuple_of (by rfl) T.n_tuple PyProof.Rows.Boot.«tuple» (pa_cons (pv 8) pa_nil))) pa_nil))))))))))))), ?_⟩)
  · obtain ⟨st, sc, sh, pl, rw, ns, k, shared, r, R, rfl, _⟩ := h
    rfl
  · obtain ⟨st, sc, sh, pl, rw, ns, k, shared, r, R, rfl, G, hsh, hshne, hshl, hr2, hrw, PX0, k0, k1, q⟩ := h
    unfold procD at hrw
    obtain ⟨rp, xs, rfl, sr, g⟩ := DatAt.tup_inv hrw
    obtain ⟨x0, r0, rfl, t1, g⟩ := g.cons_inv
    obtain ⟨x1, r0, rfl, t2, g⟩ := g.cons_inv
    cases g.nil_inv
    cases dat_str_inv t1
    obtain ⟨pa, rfl, sp⟩ := dat_names t2
    try walk_at "w15"
    refine ⟨by decide, fun p1 hp1 => ?_⟩
    have cp1 : Chg [] H (upd H p1 (.lst [.str "x", .str "y", .str "n1"])) := Chg.new hp1
    refine ⟨st, sc, ns, k, 4, rfl, G.chg cp1, by decide, by decide, fun r1 H1 G1 c1 z1 z2 => ?_⟩
    try walk_at "w15"
    refine slTo (c1.sqL' (SqL.of upd_same) (by simpa using G.new hp1)) z1 fun p2 hp2 => ?_
    have hown : [V.str "x", V.str "y", V.str "n1"].take r1.toNat = (ownsL.take r1.toNat).map V.str := by rw [List.map_take]; rfl
    rw [hown]
    have hol : (ownsL.take r1.toNat).length ≤ 3 := by rw [List.length_take]; exact Nat.min_le_right _ _
    generalize (ownsL.take r1.toNat) = own at hol ⊢
    have hp2st : p2 ≠ st := G1.new hp2
    have c2 : Chg [st] H (upd H1 p2 (.lst (own.map V.str))) := (cp1.of0.trans c1).thenNew hp2
    have G2 := G1.chg (Chg.new (L := []) (o := .lst (own.map V.str)) hp2)
    have o2 : (upd H1 p2 (.lst (own.map V.str))) p2 = some (.lst (own.map V.str)) := upd_same
    generalize hH2 : upd H1 p2 (.lst (own.map V.str)) = H2 at *
    clear hH2 hown
    refine ⟨_, .inl (c2.sqL' hsh (by simpa using hshne)), fun p3 hp3 => ?_⟩
    have c3 : Chg [] H2 (upd H2 p3 (.lst (shared.map V.str))) := Chg.new hp3
    refine ixT ((c2.trans c3.of0).sqT sr) (v := .ref pa) rfl ?_
    refine ⟨pa, rfl, _, .inr ((c2.trans c3.of0).sqT sp), fun p4 hp4 => ?_⟩
    have c4 : Chg [] _ (upd (upd H2 p3 (.lst (shared.map V.str))) p4 (.lst (r.2.map V.str))) := Chg.new hp4
    refine ⟨_, _, _, _, rfl, rfl, c4.get upd_same, upd_same, by rw [List.length_map, List.length_map]; exact sz (by omega), fun p5 hp5 => ?_⟩
    have c5 : Chg [] _ (upd (upd (upd H2 p3 (.lst (shared.map V.str))) p4 (.lst (r.2.map V.str))) p5 (.lst (shared.map V.str ++ r.2.map V.str))) := Chg.new hp5
    have c25 : Chg [] H2 (upd (upd (upd H2 p3 (.lst (shared.map V.str))) p4 (.lst (r.2.map V.str))) p5 (.lst (shared.map V.str ++ r.2.map V.str))) := (c3.trans c4).trans c5
    have o5 : (upd (upd (upd H2 p3 (.lst (shared.map V.str))) p4 (.lst (r.2.map V.str))) p5 (.lst (shared.map V.str ++ r.2.map V.str))) p5 = some (.lst (shared.map V.str ++ r.2.map V.str)) := upd_same
    generalize hH5 : (upd (upd (upd H2 p3 (.lst (shared.map V.str))) p4 (.lst (r.2.map V.str))) p5 (.lst (shared.map V.str ++ r.2.map V.str))) = H5 at *
    clear hH5 c3 c4 c5
    refine ⟨_, _, _, _, rfl, rfl, o5, c25.get o2, by rw [List.length_append, List.length_map, List.length_map, List.length_map]; exact sz (by omega), fun p6 hp6 => ?_⟩
    rw [← List.map_append, ← List.map_append]
    generalize hnames : shared ++ r.2 ++ own = names
    have hnl : names.length ≤ 8 := by rw [← hnames, List.length_append, List.length_append]; omega
    have c6 : Chg [] H5 (upd H5 p6 (.lst (names.map V.str))) := Chg.new hp6
    have o6 : (upd H5 p6 (.lst (names.map V.str))) p6 = some (.lst (names.map V.str)) := upd_same
    have G6 := (G2.chg c25).chg c6
    have n6 := (G2.chg c25).new hp6
    have d6 : Chg [st] H (upd H5 p6 (.lst (names.map V.str))) := (c2.trans c25.of0).trans c6.of0
    have o26 := c6.get (c25.get o2)
    generalize hH6 : upd H5 p6 (.lst (names.map V.str)) = H6 at *
    clear hH6
    refine ⟨by decide, fun p7 hp7 => ?_⟩
    have c7 : Chg [] H6 (upd H6 p7 (.tup [.ref p6, .ref pl])) := Chg.new hp7
    have d7 : Chg [st] H (upd H6 p7 (.tup [.ref p6, .ref pl])) := d6.trans c7.of0
    have W7 : WX K (upd H6 p7 (.tup [.ref p6, .ref pl])) st p7 names R := ⟨p6, pl, SqT.of upd_same, ⟨SqL.of (c7.get o6), n6, by omega⟩, PX0.chg d7⟩
    have G7 := G6.chg c7
    have o27 := c7.get o26
    generalize hH7 : upd H6 p7 (.tup [.ref p6, .ref pl]) = H7 at *
    clear hH7
    refine ⟨by decide, fun fl hfl => ⟨by decide, fun ll hll => ?_⟩⟩
    have c8 : Chg [] H7 (upd H7 fl (.lst [])) := Chg.new hfl
    have c9 : Chg [] _ (upd (upd H7 fl (.lst [])) ll (.lst [])) := Chg.new hll
    have hflne : fl ≠ ll := fun z => by rw [← z, upd_same] at hll; cases hll
    have hll7 : H7 ll = none := c8.back hll
    have c79 := c8.trans c9
    have hst1 : fl ≠ st := G7.new hfl
    have hst2 : ll ≠ st := G7.new hll7
    have G9 := G7.chg c79
    refine ⟨p2, rfl, ⟨_, SqL.of (c79.get o27)⟩, forL (xs := own.map V.str) (fun i σ H' => ∃ o1 o2 a1 a2 f l, σ = [some (.ref st), some (.ref sc), some (.ref sh), some (.ref rp), some (.ref pl), some (.ref p2), some (.ref p7), some (.ref fl), some (.ref ll), o1, o2, none] ∧ GX K H' st sc ns k ∧ Chg [st] H7 H' ∧ H' fl = some (.lst a1) ∧ H' ll = some (.lst a2) ∧ DatsAt K H' (smsD f) a1 ∧ DatsAt K H' (smsD l) a2 ∧ Simp R names f ∧ Simp R names l ∧ f.length + l.length = i ∧ ∀ x ∈ own.take i, x ∈ (f ++ l).filterMap tgt)
      ⟨_, _, [], [], [], [], rfl, G9, c79.of0, c9.get upd_same, upd_same, by rw [smsD]; exact dats_nil, by rw [smsD]; exact dats_nil, (fun _ z => nomatch z), (fun _ z => nomatch z), rfl, by simp⟩ (fun i σ H' _ z => by
        obtain ⟨o1, o2, a1, a2, f, l, _, _, c, _⟩ := z
        exact SqL.of (c.keep _ _ o27 trivial (by simpa using hp2st))) ?_ ?_⟩
    · rintro i x σ H' hx ⟨o1, o2, a1, a2, f, l, rfl, GL, c, hfl', hll', hfd, hld, hsf, hsl, hfl2, htg⟩
      obtain ⟨nm, hnm, rfl⟩ := strs_at hx
      have hnn : nm ∈ names := by rw [← hnames]; exact List.mem_append_right _ (List.mem_of_getElem? hnm)
      have hil : i < own.length := (List.getElem?_eq_some_iff.mp hnm).1
      try walk_at "w15"
      refine ⟨st, sc, ns, k, rfl, GL, fun r5 H5 G5 c5 w5 => ?_⟩
      try walk_at "w15"
      refine ⟨by decide, fun q1 hq1 => ?_⟩
      have d1 : Chg [] H5 (upd H5 q1 (.tup [.str "number", .int r5])) := Chg.new hq1
      have e1 : DatAt K (upd H5 q1 (.tup [.str "number", .int r5])) (Ex.num r5).d (.ref q1) := by
        rw [Ex.d]; exact dat_tup (SqT.of upd_same) (dats_cons dat_str (dats_cons dat_int dats_nil))
      refine ⟨by decide, fun q2 hq2 => ?_⟩
      have d2 : Chg [] _ (upd (upd H5 q1 (.tup [.str "number", .int r5])) q2 (.tup [.str "set", .str nm, .ref q1])) := Chg.new hq2
      have e2 : DatAt K (upd (upd H5 q1 (.tup [.str "number", .int r5])) q2 (.tup [.str "set", .str nm, .ref q1])) (Sm.set nm (.num r5)).d (.ref q2) := by
        rw [Sm.d]; exact dat_tup (SqT.of upd_same) (dats_cons dat_str (dats_cons dat_str (dats_cons (e1.chg d2) dats_nil)))
      have g2 := (G5.chg d1).chg d2
      have dd2 := (c5.trans d1.of0).trans d2.of0
      generalize hHq : upd (upd H5 q1 (.tup [.str "number", .int r5])) q2 (.tup [.str "set", .str nm, .ref q1]) = Hq at *
      clear hHq
      have okset : okS0 R names (.set nm (.num r5)) := ⟨hnn, by rw [okE]; exact w5, by simp [exDep]⟩
      refine ⟨st, sc, ns, k, 3, rfl, g2, by decide, by decide, fun r6 H6' G6' c6' y1 y2 => ?_⟩
      try walk_at "w15"
      by_cases h0 : r6 = 0
      · rw [if_pos h0]
        refine ⟨by decide, fun q3 hq3 => ?_⟩
        have d3 : Chg [] H6' (upd H6' q3 (.tup [.str "ask", .str nm])) := Chg.new hq3
        have e3 : DatAt K (upd H6' q3 (.tup [.str "ask", .str nm])) (Sm.ask nm).d (.ref q3) := by
          rw [Sm.d]; exact dat_tup (SqT.of upd_same) (dats_cons dat_str (dats_cons dat_str dats_nil))
        have okask : okS0 R names (.ask nm) := hnn
        refine ⟨st, sc, ns, k, 3, rfl, (G6'.chg d3), by decide, by decide, fun r8 H8 G8 c8 y1 y2 => ?_⟩
        have cc8 := ((dd2.trans c6').trans d3.of0).trans c8
        have fe1 := cc8.keep _ _ hfl' trivial (by simpa using hst1)
        have fe2 := cc8.keep _ _ hll' trivial (by simpa using hst2)
        have aF := hfd.chg cc8
        have aL := hld.chg cc8
        have aS := e3.chg c8
        have z1 : a1.length = f.length := by rw [hfd.len, smsD_eq, List.length_map]
        have z2 : a2.length = l.length := by rw [hld.len, smsD_eq, List.length_map]
        try walk_at "w15"
        by_cases h9 : 0 < r8
        · rw [if_pos h9]
          have c10 : Chg [fl] H8 (upd H8 fl (.lst (a1 ++ [V.ref q3]))) := Chg.put fe1 trivial (by simp)
          have c10' := (c.trans cc8).own hfl (o := .lst (a1 ++ [V.ref q3]))
          refine ⟨.inl ⟨rfl, _, SqL.of fe1⟩, _, fe1, sz' (by omega), ?_⟩
          refine ⟨GX.own G7 hfl G8 c10 c10', c10', _, upd_same, _, by rw [upd_ne (Ne.symm hflne)]; exact fe2, f ++ [.ask nm], ?_, l, aL.chg c10, hsf.app okask (by simp [allI]) (by simp [depS]), hsl, ?_, fun x hx => ?_⟩
          · rw [smsD_eq, List.map_append, ← smsD_eq]
            exact DatsAt.append (aF.chg c10) (dats_cons (aS.chg c10) dats_nil)
          · rw [List.length_append, List.length_singleton]; omega
          · rw [take_succ hnm] at hx
            rw [List.filterMap_append, List.filterMap_append]
            rcases List.mem_append.mp hx with hx | hx
            · have := htg x hx
              rw [List.filterMap_append] at this
              rcases List.mem_append.mp this with w | w
              · exact List.mem_append_left _ (List.mem_append_left _ w)
              · exact List.mem_append_right _ w
            · rw [List.mem_singleton.mp hx]
              exact List.mem_append_left _ (List.mem_append_right _ (by simp [tgt]))
        · rw [if_neg h9]
          have c10 : Chg [ll] H8 (upd H8 ll (.lst (a2 ++ [V.ref q3]))) := Chg.put fe2 trivial (by simp)
          have c10' := (c.trans cc8).own hll7 (o := .lst (a2 ++ [V.ref q3]))
          refine ⟨.inl ⟨rfl, _, SqL.of fe2⟩, _, fe2, sz' (by omega), ?_⟩
          refine ⟨GX.own G7 hll7 G8 c10 c10', c10', _, by rw [upd_ne hflne]; exact fe1, _, upd_same, f, aF.chg c10, l ++ [.ask nm], ?_, hsf, hsl.app okask (by simp [allI]) (by simp [depS]), ?_, fun x hx => ?_⟩
          · rw [smsD_eq, List.map_append, ← smsD_eq]
            exact DatsAt.append (aL.chg c10) (dats_cons (aS.chg c10) dats_nil)
          · rw [List.length_append, List.length_singleton]; omega
          · rw [take_succ hnm] at hx
            rw [← List.append_assoc, List.filterMap_append]
            rcases List.mem_append.mp hx with hx | hx
            · exact List.mem_append_left _ (htg x hx)
            · rw [List.mem_singleton.mp hx]
              exact List.mem_append_right _ (by simp [tgt])
      · rw [if_neg h0]
        refine ⟨st, sc, ns, k, 3, rfl, G6', by decide, by decide, fun r8 H8 G8 c8 y1 y2 => ?_⟩
        have cc8 := (dd2.trans c6').trans c8
        have fe1 := cc8.keep _ _ hfl' trivial (by simpa using hst1)
        have fe2 := cc8.keep _ _ hll' trivial (by simpa using hst2)
        have aF := hfd.chg cc8
        have aL := hld.chg cc8
        have aS := (e2.chg c6').chg c8
        have z1 : a1.length = f.length := by rw [hfd.len, smsD_eq, List.length_map]
        have z2 : a2.length = l.length := by rw [hld.len, smsD_eq, List.length_map]
        try walk_at "w15"
        by_cases h9 : 0 < r8
        · rw [if_pos h9]
          have c10 : Chg [fl] H8 (upd H8 fl (.lst (a1 ++ [V.ref q2]))) := Chg.put fe1 trivial (by simp)
          have c10' := (c.trans cc8).own hfl (o := .lst (a1 ++ [V.ref q2]))
          refine ⟨.inl ⟨rfl, _, SqL.of fe1⟩, _, fe1, sz' (by omega), ?_⟩
          refine ⟨GX.own G7 hfl G8 c10 c10', c10', _, upd_same, _, by rw [upd_ne (Ne.symm hflne)]; exact fe2, f ++ [.set nm (.num r5)], ?_, l, aL.chg c10, hsf.app okset (by simp [allI]) (by simp [depS]), hsl, ?_, fun x hx => ?_⟩
          · rw [smsD_eq, List.map_append, ← smsD_eq]
            exact DatsAt.append (aF.chg c10) (dats_cons (aS.chg c10) dats_nil)
          · rw [List.length_append, List.length_singleton]; omega
          · rw [take_succ hnm] at hx
            rw [List.filterMap_append, List.filterMap_append]
            rcases List.mem_append.mp hx with hx | hx
            · have := htg x hx
              rw [List.filterMap_append] at this
              rcases List.mem_append.mp this with w | w
              · exact List.mem_append_left _ (List.mem_append_left _ w)
              · exact List.mem_append_right _ w
            · rw [List.mem_singleton.mp hx]
              exact List.mem_append_left _ (List.mem_append_right _ (by simp [tgt]))
        · rw [if_neg h9]
          have c10 : Chg [ll] H8 (upd H8 ll (.lst (a2 ++ [V.ref q2]))) := Chg.put fe2 trivial (by simp)
          have c10' := (c.trans cc8).own hll7 (o := .lst (a2 ++ [V.ref q2]))
          refine ⟨.inl ⟨rfl, _, SqL.of fe2⟩, _, fe2, sz' (by omega), ?_⟩
          refine ⟨GX.own G7 hll7 G8 c10 c10', c10', _, by rw [upd_ne hflne]; exact fe1, _, upd_same, f, aF.chg c10, l ++ [.set nm (.num r5)], ?_, hsf, hsl.app okset (by simp [allI]) (by simp [depS]), ?_, fun x hx => ?_⟩
          · rw [smsD_eq, List.map_append, ← smsD_eq]
            exact DatsAt.append (aL.chg c10) (dats_cons (aS.chg c10) dats_nil)
          · rw [List.length_append, List.length_singleton]; omega
          · rw [take_succ hnm] at hx
            rw [← List.append_assoc, List.filterMap_append]
            rcases List.mem_append.mp hx with hx | hx
            · exact List.mem_append_left _ (htg x hx)
            · rw [List.mem_singleton.mp hx]
              exact List.mem_append_right _ (by simp [tgt])
    · rintro σ H' ⟨o1, o2, a1, a2, f, l, rfl, GL, c, hfl', hll', hfd, hld, hsf, hsl, hfl2, htg⟩
      rw [List.length_map] at hfl2 htg
      rw [List.take_length] at htg
      try walk_at "w15"
      have Wc := W7.chg c
      refine ⟨st, sc, p7, ns, k, names, R, 2, rfl, GL, Wc, by decide, k0, by omega, fun b v8 k8 H8 G8 c8 q81 q82 q83 q84 q85 => ?_⟩
      obtain ⟨ab, xb, rfl, sb, gb⟩ := DatAt.tup_inv q85
      have lb := len_allB b
      have lxb := gb.len
      rw [smsD_eq, List.length_map] at lxb
      refine ixT ((d7.trans (c.trans c8)).sqT sr) (v := .str r.1) rfl ?_
      try walk_at "w15"
      by_cases hm : r.1 = "main"
      · rw [if_pos hm]
        refine ⟨st, sc, p7, ns, k8, names, R, 2, rfl, G8, Wc.chg c8, by decide, q81, by omega, fun b2 v9 k9 H9 G9' c9' q91 q92 q93 q94 q95 => ?_⟩
        obtain ⟨ab2, xb2, rfl, sb2, gb2⟩ := DatAt.tup_inv q95
        have lb2 := len_allB b2
        have lxb2 := gb2.len
        rw [smsD_eq, List.length_map] at lxb2
        refine catA (c9'.sqT sb) sb2 (by exact sz (by omega)) fun p20 H20 c20 s20 => ?_
        refine ⟨st, sc, p7, ns, k9, names, R, 1, rfl, G9'.chg c20, (Wc.chg (c8.trans c9')).chg c20.of0, by decide, q91, by omega, fun b3 v21 k21 H21 G21 c21 q211 q212 q213 q214 q215 => ?_⟩
        obtain ⟨ab3, xb3, rfl, sb3, gb3⟩ := DatAt.tup_inv q215
        have lb3 := len_allB b3
        have lxb3 := gb3.len
        rw [smsD_eq, List.length_map] at lxb3
        refine catA (c21.sqT s20) sb3 (by rw [List.length_append]; exact sz (by omega)) fun pz Hz cz22 sz8 => ?_
        have gz := G21.chg cz22
        have cq : Chg [st] H' Hz := (((c8.trans c9').trans c20.of0).trans c21).trans cz22.of0
        have gys : DatsAt K Hz (smsD (b ++ b2 ++ b3)) (xb ++ xb2 ++ xb3) := by
          rw [smsD_eq, List.map_append, List.map_append, ← smsD_eq, ← smsD_eq, ← smsD_eq]
          exact DatsAt.append (DatsAt.append ((((gb.chg c9').chg c20).chg c21).chg cz22) (((gb2.chg c20).chg c21).chg cz22)) (gb3.chg cz22)
        have hall : ((allB (b ++ b2 ++ b3)).length : Int) ≤ k - k21 := by
          rw [allB_append, allB_append, List.length_append, List.length_append]; omega
        have qz3 : okB0 R names (b ++ b2 ++ b3) := okB0_app (okB0_app q83 q93) q213
        have hdp : depB (b ++ b2 ++ b3) ≤ 2 := by rw [depB_app, depB_app]; omega
        generalize hB : b ++ b2 ++ b3 = BB at *
        generalize xb ++ xb2 ++ xb3 = ys at *
        have qz1 := q211
        generalize k21 = kz at *
        try walk_at "w15"
        have zl := len_allB BB
        have zf : a1.length = f.length := by rw [hfd.len, smsD_eq, List.length_map]
        have zll : a2.length = l.length := by rw [hld.len, smsD_eq, List.length_map]
        have zy := gys.len
        rw [smsD_eq, List.length_map] at zy
        have cHz := d7.trans (c.trans cq)
        refine ixT (cHz.sqT sr) (v := .str r.1) rfl (ixT (cHz.sqT sr) (v := .ref pa) rfl ?_)
        refine ⟨_, .inl ⟨SqL.of (cq.keep _ _ hfl' trivial (by simpa using hst1)), fun u1 hu1 => ?_⟩⟩
        have cu1 := Chg.new (L := []) (o := .tup a1) hu1
        refine catA (SqT.of upd_same) (cu1.sqT sz8) (by exact sz (by omega)) fun p10 H10 c10 s10 => ?_
        have cu2 := cu1.trans c10
        refine ⟨_, .inl ⟨SqL.of (cu2.get (cq.keep _ _ hll' trivial (by simpa using hst2))), fun u2 hu2 => ?_⟩⟩
        have cu3 := Chg.new (L := []) (o := .tup a2) hu2
        refine catA (cu3.sqT s10) (SqT.of upd_same) (by rw [List.length_append]; exact sz (by omega)) fun p11 H11 c11 s11 => ?_
        have cu4 := (cu2.trans cu3).trans c11
        refine ⟨by decide, fun p12 hp12 => ?_⟩
        have cu5 := cu4.trans (Chg.new (L := []) (o := .tup [.str r.1, .ref pa, .ref p11]) hp12)
        refine q ⟨r.1, r.2, f ++ BB ++ l⟩ _ kz _ (gz.chg cu5) (cHz.trans cu5.of0) qz1 (by omega) ⟨rfl, rfl, ?_, ?_, own, fun x hx => ?_, ?_⟩ ?_
        · show depB (f ++ BB ++ l) < 3
          rw [depB_app, depB_app, hsf.dep, hsl.dep]; omega
        · show (allB (f ++ BB ++ l)).length ≤ 24
          rw [allB_append, allB_append, hsf.all, hsl.all, List.length_append, List.length_append]; omega
        · show x ∈ (allB (f ++ BB ++ l)).filterMap tgt
          rw [allB_append, allB_append, hsf.all, hsl.all, List.filterMap_append, List.filterMap_append]
          have w := htg x hx
          rw [List.filterMap_append] at w
          rcases List.mem_append.mp w with w | w
          · exact List.mem_append_left _ (List.mem_append_left _ w)
          · exact List.mem_append_right _ w
        · rw [hnames]
          exact okB0_app (okB0_app hsf.ok qz3) hsl.ok
        · unfold Pr.d
          refine dat_tup (SqT.of upd_same) (dats_cons dat_str (dats_cons ((t2.chg cHz).chg cu5) (dats_cons (dat_tup ((Chg.new (L := []) (o := .tup [.str r.1, .ref pa, .ref p11]) hp12).sqT s11) ?_) dats_nil)))
          show DatsAt K _ (smsD (f ++ BB ++ l)) _
          rw [smsD_eq, List.map_append, List.map_append, ← smsD_eq, ← smsD_eq, ← smsD_eq]
          exact DatsAt.append (DatsAt.append ((hfd.chg cq).chg cu5) (gys.chg cu5)) ((hld.chg cq).chg cu5)
      · rw [if_neg hm]
        have hdp : depB b ≤ 2 := q84
        have gz := G8
        have cq := c8
        have gys := gb
        have sz8 := sb
        have qz1 := q81
        have qz3 := q83
        generalize k8 = kz at *
        have zl := len_allB b
        have zf : a1.length = f.length := by rw [hfd.len, smsD_eq, List.length_map]
        have zll : a2.length = l.length := by rw [hld.len, smsD_eq, List.length_map]
        have zy := gys.len
        rw [smsD_eq, List.length_map] at zy
        have cHz := d7.trans (c.trans cq)
        refine ixT (cHz.sqT sr) (v := .str r.1) rfl (ixT (cHz.sqT sr) (v := .ref pa) rfl ?_)
        refine ⟨_, .inl ⟨SqL.of (cq.keep _ _ hfl' trivial (by simpa using hst1)), fun u1 hu1 => ?_⟩⟩
        have cu1 := Chg.new (L := []) (o := .tup a1) hu1
        refine catA (SqT.of upd_same) (cu1.sqT sz8) (by exact sz (by omega)) fun p10 H10 c10 s10 => ?_
        have cu2 := cu1.trans c10
        refine ⟨_, .inl ⟨SqL.of (cu2.get (cq.keep _ _ hll' trivial (by simpa using hst2))), fun u2 hu2 => ?_⟩⟩
        have cu3 := Chg.new (L := []) (o := .tup a2) hu2
        refine catA (cu3.sqT s10) (SqT.of upd_same) (by rw [List.length_append]; exact sz (by omega)) fun p11 H11 c11 s11 => ?_
        have cu4 := (cu2.trans cu3).trans c11
        refine ⟨by decide, fun p12 hp12 => ?_⟩
        have cu5 := cu4.trans (Chg.new (L := []) (o := .tup [.str r.1, .ref pa, .ref p11]) hp12)
        refine q ⟨r.1, r.2, f ++ b ++ l⟩ _ kz _ (gz.chg cu5) (cHz.trans cu5.of0) qz1 (by omega) ⟨rfl, rfl, ?_, ?_, own, fun x hx => ?_, ?_⟩ ?_
        · show depB (f ++ b ++ l) < 3
          rw [depB_app, depB_app, hsf.dep, hsl.dep]; omega
        · show (allB (f ++ b ++ l)).length ≤ 24
          rw [allB_append, allB_append, hsf.all, hsl.all, List.length_append, List.length_append]; omega
        · show x ∈ (allB (f ++ b ++ l)).filterMap tgt
          rw [allB_append, allB_append, hsf.all, hsl.all, List.filterMap_append, List.filterMap_append]
          have w := htg x hx
          rw [List.filterMap_append] at w
          rcases List.mem_append.mp w with w | w
          · exact List.mem_append_left _ (List.mem_append_left _ w)
          · exact List.mem_append_right _ w
        · rw [hnames]
          exact okB0_app (okB0_app hsf.ok qz3) hsl.ok
        · unfold Pr.d
          refine dat_tup (SqT.of upd_same) (dats_cons dat_str (dats_cons ((t2.chg cHz).chg cu5) (dats_cons (dat_tup ((Chg.new (L := []) (o := .tup [.str r.1, .ref pa, .ref p11]) hp12).sqT s11) ?_) dats_nil)))
          show DatsAt K _ (smsD (f ++ b ++ l)) _
          rw [smsD_eq, List.map_append, List.map_append, ← smsD_eq, ← smsD_eq, ← smsD_eq]
          exact DatsAt.append (DatsAt.append ((hfd.chg cq).chg cu5) (gys.chg cu5)) ((hld.chg cq).chg cu5)
end
end Cc
set_option maxRecDepth 100000
set_option maxHeartbeats 400000
/-! The generated program is well formed. -/
namespace Cc
open PySem PySem.Spec PyProof.Rows L2
structure GoodPg (G : Pg) : Prop where
  wf : WF G
  nd : G.shared.Nodup
  np : ∀ pr ∈ G.procs, ∀ p ∈ pr.params, p ∉ G.shared
structure RowsOk (shared : List Str) (L : List (Str × List Str)) : Prop where
  nd : (L.map Prod.fst).Nodup
  few : L.length ≤ 4
  main : (("main", []) : Str × List Str) ∈ L
  par : ∀ r ∈ L, r.2.length ≤ 2 ∧ r.2.Nodup ∧ ∀ p ∈ r.2, p ∉ shared
  shn : shared.Nodup
  shl : shared.length ≤ 3
def rowR (r : Str × List Str) : Str × Nat := (r.1, r.2.length)
theorem nodup_inj {α β : Type} {f : α → β} : ∀ {L : List α}, (L.map f).Nodup → ∀ {a b : α}, a ∈ L → b ∈ L → f a = f b → a = b
  | x :: r, h, a, b, ha, hb, e => by
    rw [List.map_cons, List.nodup_cons] at h
    rcases List.mem_cons.mp ha with ea | ha
    · rcases List.mem_cons.mp hb with eb | hb
      · rw [ea, eb]
      · exact absurd (List.mem_map.mpr ⟨b, hb, by rw [← e, ea]⟩) h.1
    · rcases List.mem_cons.mp hb with eb | hb
      · exact absurd (List.mem_map.mpr ⟨a, ha, by rw [e, eb]⟩) h.1
      · exact nodup_inj h.2 ha hb e
theorem good_pg {shared : List Str} {L : List (Str × List Str)} {f : Str × List Str → Pr} (h : RowsOk shared L) (hf : ∀ r ∈ L, GoodPr shared (L.map rowR) r (f r)) : GoodPg ⟨shared, L.map f⟩ := by
  have names : (L.map f).map (·.name) = L.map Prod.fst := by
    rw [List.map_map]
    exact List.map_congr_left fun r hr => (hf r hr).1
  have nd : ((L.map f).map (·.name)).Nodup := by rw [names]; exact h.nd
  have find : ∀ r ∈ L, procOf ⟨shared, L.map f⟩ r.1 = some (f r) := fun r hr => by
    unfold procOf
    have hm : f r ∈ L.map f := List.mem_map.mpr ⟨r, hr, rfl⟩
    cases hfd : (L.map f).find? fun p => decide (p.name = r.1) with
    | none =>
      have := List.find?_eq_none.mp hfd (f r) hm
      rw [(hf r hr).1] at this
      exact absurd (decide_eq_true rfl) this
    | some p =>
      have e1 := List.mem_of_find?_eq_some hfd
      have z := List.find?_some hfd
      have e2 : p.name = r.1 := of_decide_eq_true z
      exact congrArg some (nodup_inj nd e1 hm (e2.trans (hf r hr).1.symm))
  have prs : ∀ pr ∈ L.map f, ∃ r ∈ L, pr = f r := fun pr hp => by
    obtain ⟨r, hr, e⟩ := List.mem_map.mp hp
    exact ⟨r, hr, e.symm⟩
  have npm : ∀ pr ∈ L.map f, ∀ p ∈ pr.params, p ∉ shared := fun pr hp p hpp => by
    obtain ⟨r, hr, rfl⟩ := prs pr hp
    rw [(hf r hr).2.1] at hpp
    exact (h.par r hr).2.2 p hpp
  refine ⟨⟨⟨by have := h.shl; show shared.length ≤ 5; omega, fun pr hp => ?_⟩, fun pr hp s hs => ?_, nd, ?_, fun pr hp => ?_, fun pr hp => ?_, ⟨f ("main", []), find _ h.main, (hf _ h.main).2.1⟩⟩, h.shn, npm⟩
  · obtain ⟨r, hr, rfl⟩ := prs pr hp
    obtain ⟨g1, g2, g3, g4, _⟩ := hf r hr
    refine ⟨by omega, by omega, ?_⟩
    rw [g2]
    have := (h.par r hr).1
    omega
  · obtain ⟨r, hr, rfl⟩ := prs pr hp
    obtain ⟨g1, g2, g3, g4, own, g5, g6⟩ := hf r hr
    refine okS_of (fun n hn => ?_) (fun q c hq => ?_) (g6 s hs)
    · rw [g1]
      unfold varsOf locOf
      rw [bodyOf, paramsOf, find r hr]
      show n ∈ shared ++ localsOf shared (f r).params (f r).body
      unfold localsOf
      rw [List.mem_append, mem_sortU, List.mem_append, List.mem_filter, g2]
      by_cases hs : n ∈ shared
      · exact .inl hs
      · refine .inr ?_
        rcases List.mem_append.mp hn with hn | hn
        · rcases List.mem_append.mp hn with hn | hn
          · exact absurd hn hs
          · exact .inr hn
        · exact .inl ⟨g5 n hn, decide_eq_true hs⟩
    · obtain ⟨r2, hr2, e⟩ := List.mem_map.mp hq
      cases e
      exact ⟨f r2, find r2 hr2, by rw [(hf r2 hr2).2.1]⟩
  · show (L.map f).length ≤ 5
    rw [List.length_map]
    have := h.few
    omega
  · obtain ⟨r, hr, rfl⟩ := prs pr hp
    exact (hf r hr).2.2.1
  · obtain ⟨r, hr, rfl⟩ := prs pr hp
    rw [(hf r hr).2.1]
    exact (h.par r hr).2.1
def baseRows : List (Str × List Str) := [("step", ["a"]), ("twice", ["a", "b"]), ("walk", [])]
def rowsL (m p : Nat) : List (Str × List Str) := (baseRows.take m).take p ++ ([("main", [])] : List (Str × List Str)) ++ (baseRows.take m).drop p
def baseSh (i : Nat) : List Str := if i = 0 then ["g", "h", "total"] else ["result", "g", "b2"]
theorem rows_a1 : ∀ m < 4, ∀ p < 5, ((rowsL m p).map Prod.fst).Nodup := by decide +kernel
theorem rows_a2 : ∀ m < 4, ∀ p < 5, (rowsL m p).length ≤ 4 := by decide +kernel
theorem rows_a3 : ∀ m < 4, ∀ p < 5, (("main", []) : Str × List Str) ∈ rowsL m p := by decide +kernel
theorem rows_a4 : ∀ m < 4, ∀ p < 5, ∀ r ∈ rowsL m p, r.2.length ≤ 2 := by decide +kernel
theorem rows_a5 : ∀ m < 4, ∀ p < 5, ∀ r ∈ rowsL m p, r.2.Nodup := by decide +kernel
theorem rows_a6 : ∀ m < 4, ∀ p < 5, ∀ r ∈ rowsL m p, ∀ x ∈ r.2, x = "a" ∨ x = "b" := by decide +kernel
theorem sh_a : ∀ i < 2, ∀ m < 4, ((baseSh i).take m).Nodup ∧ ((baseSh i).take m).length ≤ 3 ∧ ("a" : Str) ∉ (baseSh i).take m ∧ ("b" : Str) ∉ (baseSh i).take m := by decide +kernel
theorem rows_ok {i s m p : Nat} (hi : i < 2) (hs : s < 4) (hm : m < 4) (hp : p < 5) : RowsOk ((baseSh i).take s) (rowsL m p) := by
  have h1 := rows_a1 m hm p hp
  have h2 := rows_a2 m hm p hp
  have h3 := rows_a3 m hm p hp
  obtain ⟨g1, g2, g3, g4⟩ := sh_a i hi s hs
  refine ⟨h1, h2, h3, fun r hr => ⟨rows_a4 m hm p hp r hr, rows_a5 m hm p hp r hr, fun x hx => ?_⟩, g1, g2⟩
  rcases rows_a6 m hm p hp r hr x hx with e | e
  · rw [e]; exact g3
  · rw [e]; exact g4
end Cc
set_option maxRecDepth 100000
set_option maxHeartbeats 4000000
/-! the law: inputs, program -/
namespace Cc
open PySem PySem.Spec PyProof.Rows L2
theorem scs48 : FnScope ["_law_state", "_law_script", "_law_rows", "_law_k"] ["_law_state", "_law_script"] (defScope (dst 48)) := ⟨rfl, rfl, rfl, by decide +kernel, rfl, by decide +kernel, by decide +kernel⟩
def sp48 (K : PySem.W.Frag) : Sp := fun vs H Q _ => ∃ (st sc : Addr) (ns : List Int) (k : Int), vs = [.ref st, .ref sc] ∧ GX K H st sc ns k ∧ ∀ (I : List Int) p H', GX K H' st sc ns k → Chg [st] H H' → (∀ i ∈ I, Sml i) → I.length ≤ 60 → SqT K H' p (I.map V.int) → Q (.ref p) H'
section
variable {P : Program} {w : World} {K : PySem.W.Frag} {mg : Str → Option Value} {base : Heap} {a : Nat → Addr} {fd : Nat → FuncData}
theorem ok48 (T : Tx P K mg base a fd) : FnOk P w K mg base CX0 3 (a 48) (fd 48) ["_law_state", "_law_script"] (sp48 K) := by
  refine T.D48.fn.ok scs48 (fun vs H Q E h => ?_) (fun cdv A outer s H vs Q E hr h => ⟨_, (pss_cons (ps_set (i := 2) scs48.nd rfl (Or.inl rfl) (pe_lst pa_nil))
      (pss_cons (ps_for PassesOwn.never rfl (pi_range1 (by rfl) T.n_range (pa_cons (pe_call (ok33 T) (hr.mono (by first | exact Nat.le_refl _ | decide | omega)) rfl T.D33.mg T.D33.kp T.D33.bd .nil pass0 (pa_cons (pv 0) (pa_cons (pv 1) (pa_cons (pe_ix (ixLK (K := K) rfl) (pe_lst (pa_cons pe_int (pa_cons pe_int (pa_cons pe_int pa_nil)))) (pe_call (ok33 T) (hr.mono (by first | exact Nat.le_refl _ | decide | omega)) rfl T.D33.mg T.D33.kp T.D33.bd .nil pass0 (pa_cons (pv 0) (pa_cons (pv 1) (pa_cons pe_int pa_nil)))) (fun _ _ => rfl)) pa_nil)))) pa_nil)) (pg_name (i := 3) scs48.nd rfl (Or.inl rfl)) (pss_one (ps_expr (pe_bm PySem.F.plainAttrs_list PySem.F.slot_list_append PySem.F.type_list_append mt_append (pv 2) (pa_cons (pe_call (ok35 T) (hr.mono (by first | exact Nat.le_refl _ | decide | omega)) rfl T.D35.mg T.D35.kp T.D35.bd .nil pass0 (pa_cons (pv 0) (pa_cons (pv 1) pa_nil))) pa_nil)))))
      (pss_one (ps_ret (pe_callTy call_tuple_of (by rfl) T.n_tuple PyProof.Rows.Boot.«tuple» (pa_cons (pv 2) pa_nil)))))), ?_⟩)
  · obtain ⟨st, sc, ns, k, rfl, _⟩ := h
    rfl
  · obtain ⟨st, sc, ns, k, rfl, G, q⟩ := h
    try walk_at "w15"
    refine ⟨by decide, fun l hl => ?_⟩
    have cl : Chg [] H (upd H l (.lst [])) := Chg.new hl
    have hls : l ≠ st := G.new hl
    refine ⟨by decide, fun p hp => ?_⟩
    have cp : Chg [] _ (upd (upd H l (.lst [])) p (.lst [.int 4, .int 9, .int 61])) := Chg.new hp
    refine ⟨st, sc, ns, k, 3, rfl, (G.chg cl).chg cp, by decide, by decide, fun r1 H1 G1 c1 z1 z2 => ?_⟩
    refine ixN1 (c1.sqL' (SqL.of upd_same) (by simpa using (G.chg cl).new hp)) z1 (by simpa using z2) fun v hv _ => ?_
    have hm : ∃ m : Int, v = .int m ∧ 1 ≤ m ∧ m ≤ 61 := by
      simp only [List.mem_cons, List.not_mem_nil, or_false] at hv
      rcases hv with rfl | rfl | rfl <;> exact ⟨_, rfl, by decide, by decide⟩
    obtain ⟨m, rfl, m1, m2⟩ := hm
    refine ⟨st, sc, ns, k, m, rfl, G1, m1, by omega, fun r2 H2 G2 c2 y1 y2 => ?_⟩
    have c02 : Chg [st] H H2 := ((cl.trans cp).of0.trans c1).trans c2
    have l2 : H2 l = some (.lst []) := (c1.trans c2).keep _ _ (cp.get upd_same) trivial (by simpa using hls)
    refine ⟨r2, rfl, by omega, by omega, forR (n := _) (fun i σ H3 => ∃ o I, σ = [some (.ref st), some (.ref sc), some (.ref l), o] ∧ GX K H3 st sc ns k ∧ Chg [st] H H3 ∧ H3 l = some (.lst (I.map V.int)) ∧ I.length = i ∧ ∀ x ∈ I, Sml x) ⟨_, [], rfl, G2, c02, l2, rfl, fun _ z => nomatch z⟩ ?_ ?_⟩
    · rintro i σ H3 hi ⟨o, I, rfl, G3, c3, hI, il, is⟩
      try walk_at "w15"
      refine ⟨.inl ⟨rfl, _, SqL.of hI⟩, st, sc, ns, k, rfl, G3, fun r4 H4 G4 c4 w4 => ?_⟩
      have h4 := c4.keep _ _ hI trivial (by simpa using hls)
      refine ⟨_, h4, by rw [List.length_map]; exact sz' (by omega), ?_⟩
      have c5 : Chg [l] H4 (upd H4 l (.lst (I.map V.int ++ [.int r4]))) := Chg.put h4 trivial (by simp)
      have c05 := (c3.trans c4).own hl (o := .lst (I.map V.int ++ [.int r4]))
      try walk_at "w15"
      refine ⟨GX.own G hl G4 c5 c05, c05, I ++ [r4], by rw [upd_same, List.map_append]; rfl, by rw [List.length_append, il]; rfl, fun x hx => ?_⟩
      rcases List.mem_append.mp hx with hx | hx
      · exact is x hx
      · rw [List.mem_singleton.mp hx]; exact w4
    · rintro σ H3 ⟨o, I, rfl, G3, c3, hI, il, is⟩
      try walk_at "w15"
      refine ⟨_, .inl ⟨SqL.of hI, fun p5 hp5 => ?_⟩⟩
      have c5 := Chg.new (L := []) (o := .tup (I.map V.int)) hp5
      exact q I p5 _ (G3.chg c5) (c3.trans c5.of0) is (by omega) (SqT.of upd_same)
end
theorem lenK {X : Cx} {K : PySem.W.Frag} (h : X.K = K) : CallR X (.builtin "len") (fun xs H Q => ∃ p ys, xs = [.ref p] ∧ (SqL K H p ys ∨ SqT K H p ys) ∧ Q (.int (ys.length : Nat)) H) := by subst h; exact call_len_seq
theorem DatsAt.take {K : PySem.W.Frag} {H : Hp} : ∀ {l : List D} {xs : List V} (n : Nat), DatsAt K H l xs → DatsAt K H (l.take n) (xs.take n)
  | l, xs, 0, h => by rw [List.take_zero, List.take_zero]; exact dats_nil
  | [], xs, n + 1, h => by cases h.nil_inv; exact dats_nil
  | d :: l, xs, n + 1, h => by
    obtain ⟨x, r, rfl, p, q⟩ := h.cons_inv
    rw [List.take_succ_cons, List.take_succ_cons]
    exact dats_cons p (DatsAt.take n q)
theorem DatsAt.drop {K : PySem.W.Frag} {H : Hp} : ∀ {l : List D} {xs : List V} (n : Nat), DatsAt K H l xs → DatsAt K H (l.drop n) (xs.drop n)
  | l, xs, 0, h => by rw [List.drop_zero, List.drop_zero]; exact h
  | [], xs, n + 1, h => by cases h.nil_inv; exact dats_nil
  | d :: l, xs, n + 1, h => by
    obtain ⟨x, r, rfl, p, q⟩ := h.cons_inv
    rw [List.drop_succ_cons, List.drop_succ_cons]
    exact DatsAt.drop n q
def notMain (r : Str × List Str) : Bool := decide (r.1 ≠ "main")
theorem Chg.at1 {H : Hp} {p : Addr} {o : HO} (h : H p = none) : Chg [] H (upd H p o) ∧ upd H p o p = some o := ⟨Chg.new h, upd_same⟩
theorem dat_row {K : PySem.W.Frag} {H : Hp} {p q : Addr} {n : Str} {l : List Str} (h : SqT K H p [.str n, .ref q]) (g : SqT K H q (l.map V.str)) : DatAt K H (procD (n, l)) (.ref p) := by
  unfold procD
  exact dat_tup h (dats_cons dat_str (dats_cons (dat_tup g (dats_strs _)) dats_nil))
theorem scs43 : FnScope ["_law_state", "_law_script", "_law_shared", "_law_rows", "_law_place", "_law_procedures", "_law_row", "_law_found"] ["_law_state", "_law_script"] (defScope (dst 43)) := ⟨rfl, rfl, rfl, by decide +kernel, rfl, by decide +kernel, by decide +kernel⟩
def sp43 (K : PySem.W.Frag) : Sp := fun vs H Q _ => ∃ (st sc : Addr) (ns : List Int) (k : Int), vs = [.ref st, .ref sc] ∧ GX K H st sc ns k ∧ ∀ G v k' H', GoodPg G → GX K H' st sc ns k' → Chg [st] H H' → DatAt K H' G.d v → Q v H'
section
variable {P : Program} {w : World} {K : PySem.W.Frag} {mg : Str → Option Value} {base : Heap} {a : Nat → Addr} {fd : Nat → FuncData}
theorem ok43 (T : Tx P K mg base a fd) : FnOk P w K mg base CX0 19 (a 43) (fd 43) ["_law_state", "_law_script"] (sp43 K) := by
  refine T.D43.fn.ok scs43 (fun vs H Q E h => ?_) (fun cdv A outer s H vs Q E hr h => ⟨_, (pss_cons (ps_set (i := 2) scs43.nd rfl (Or.inl rfl) (pe_slice sl_list (pe_ix (ixLK (K := K) rfl) (pe_lst (pa_cons (pe_lst (pa_cons pe_str (pa_cons pe_str (pa_cons pe_str pa_nil)))) (pa_cons (pe_lst (pa_cons pe_str (pa_cons pe_str (pa_cons pe_str pa_nil)))) pa_nil))) (pe_op op_fdivN (pe_call (ok33 T) (hr.mono (by first | exact Nat.le_refl _ | decide | omega)) rfl T.D33.mg T.D33.kp T.D33.bd .nil pass0 (pa_cons (pv 0) (pa_cons (pv 1) (pa_cons pe_int pa_nil)))) pe_int) (fun _ _ => rfl)) po_none (po_some (pe_call (ok33 T) (hr.mono (by first | exact Nat.le_refl _ | decide | omega)) rfl T.D33.mg T.D33.kp T.D33.bd .nil pass0 (pa_cons (pv 0) (pa_cons (pv 1) (pa_cons pe_int pa_nil)))))))
      (pss_cons (ps_set (i := 3) scs43.nd rfl (Or.inl rfl) (pe_slice sl_list (pe_lst (pa_cons (pe_tup (pa_cons pe_str (pa_cons (pe_tup (pa_cons pe_str pa_nil)) pa_nil))) (pa_cons (pe_tup (pa_cons pe_str (pa_cons (pe_tup (pa_cons pe_str (pa_cons pe_str pa_nil))) pa_nil))) (pa_cons (pe_tup (pa_cons pe_str (pa_cons (pe_tup pa_nil) pa_nil))) pa_nil)))) po_none (po_some (pe_call (ok33 T) (hr.mono (by first | exact Nat.le_refl _ | decide | omega)) rfl T.D33.mg T.D33.kp T.D33.bd .nil pass0 (pa_cons (pv 0) (pa_cons (pv 1) (pa_cons pe_int pa_nil)))))))
      (pss_cons (ps_set (i := 4) scs43.nd rfl (Or.inl rfl) (pe_call (ok33 T) (hr.mono (by first | exact Nat.le_refl _ | decide | omega)) rfl T.D33.mg T.D33.kp T.D33.bd .nil pass0 (pa_cons (pv 0) (pa_cons (pv 1) (pa_cons (pe_op op_add (pe_callB call_len_seq (by rfl) T.n_len PyProof.Rows.Boot.«len» (pa_cons (pv 3) pa_nil)) pe_int) pa_nil)))))
      (pss_cons (ps_set (i := 3) scs43.nd rfl (Or.inl rfl) (pe_op op_cat (pe_op op_cat (pe_slice sl_list (pv 3) po_none (po_some (pv 4))) (pe_lst (pa_cons (pe_tup (pa_cons pe_str (pa_cons (pe_tup pa_nil) pa_nil))) pa_nil))) (pe_slice sl_list (pv 3) (po_some (pv 4)) po_none)))
      (pss_cons (ps_setLc (i := 5) (own := [("_law_row", 6)]) (g := gName 6) (tt := tYes) (by rfl) scs43.nd rfl rfl (sw_true rfl rfl rfl (by decide +kernel)) (pi_list (pv 3)) (blkOk_by (own := [("_law_row", 6)]) (N := ["_law_state", "_law_script", "_law_shared", "_law_rows", "_law_place", "_law_procedures", "_law_row", "_law_found"]) (sc := (defScope (dst 43))) (by decide +kernel)) (fun _ _ _ _ _ => (pg_name (i := 6) scs43.nd rfl (Or.inl rfl))) (fun _ _ _ _ _ => pts_nil) (fun _ _ _ _ _ => (pe_tup (pa_cons (pe_ix (ixTK (K := K) rfl) (pv 6) pe_int (fun _ _ => rfl)) (pa_cons (pe_callB (lenK (K := K) rfl) (by rfl) T.n_len PyProof.Rows.Boot.«len» (pa_cons (pe_ix (ixTK (K := K) rfl) (pv 6) pe_int (fun _ _ => rfl)) pa_nil)) pa_nil)))))
      (pss_cons (ps_asg pe_int (pg_sub (pv 0) pe_int set_list))
      (pss_cons (ps_set (i := 7) scs43.nd rfl (Or.inr rfl) pe_dnewK)
      (pss_cons (ps_for PassesOwn.never rfl (pi_list (pe_op op_cat (pe_lst (pa_cons (pe_tup (pa_cons pe_str (pa_cons (pe_tup pa_nil) pa_nil))) pa_nil)) (pe_lc (own := [("_law_row", 6)]) (g := gName 6) (by rfl) scs43.nd (pi_list (pv 3)) (blkOk_by (own := [("_law_row", 6)]) (N := ["_law_state", "_law_script", "_law_shared", "_law_rows", "_law_place", "_law_procedures", "_law_row", "_law_found"]) (sc := (defScope (dst 43))) (by decide +kernel)) (fun _ _ _ _ _ => (pg_name (i := 6) scs43.nd rfl (Or.inl rfl))) (fun _ _ _ _ _ => (pts_one (pt_cmpR op_ne (pe_ix (ixTK (K := K) rfl) (pv 6) pe_int (fun _ _ => rfl)) pe_str (nomark _)))) (fun _ _ _ _ _ => (pv 6))))) (pg_name (i := 6) scs43.nd rfl (Or.inl rfl)) (pss_one (ps_dput (hu_of hr) (pv 7) (pe_ix (ixTK (K := K) rfl) (pv 6) pe_int (fun _ _ => rfl)) (pe_call (ok42 T) (hr.mono (by first | exact Nat.le_refl _ | decide | omega)) rfl T.D42.mg T.D42.kp T.D42.bd .nil pass0 (pa_cons (pv 0) (pa_cons (pv 1) (pa_cons (pv 2) (pa_cons (pv 6) (pa_cons (pv 5) pa_nil)))))) rfl)))
      (pss_one (ps_ret (pe_tup (pa_cons (pe_callTy call_tuple_of (by rfl) T.n_tuple PyProof.Rows.Boot.«tuple» (pa_cons (pv 2) pa_nil)) (pa_cons (pe_callTy call_tuple_of (by rfl) T.n_tuple PyProof.Rows.Boot.«tuple» (pa_cons (pe_lc (own := [("_law_row", 6)]) (g := gName 6) (tt := tYes) (by rfl) scs43.nd (pi_list (pv 3)) (blkOk_by (own := [("_law_row", 6)]) (N := ["_law_state", "_law_script", "_law_shared", "_law_rows", "_law_place", "_law_procedures", "_law_row", "_law_found"]) (sc := (defScope (dst 43))) (by decide +kernel)) (fun _ _ _ _ _ => (pg_name (i := 6) scs43.nd rfl (Or.inl rfl))) (fun _ _ _ _ _ => pts_nil) (fun _ _ _ _ _ => (pe_dget (hu_of hr) (pv 7) (pe_ix (ixTK (K := K) rfl) (pv 6) pe_int (fun _ _ => rfl)) (fun _ _ => rfl)))) pa_nil)) pa_nil))))))))))))), ?_⟩)
  · obtain ⟨st, sc, ns, k, rfl, _⟩ := h
    rfl
  · obtain ⟨st, sc, ns, k, rfl, G, q⟩ := h
    try walk_at "w15"
    refine ⟨by decide, fun p1 hp1 => ⟨by decide, fun p2 hp2 => ⟨by decide, fun p3 hp3 => ?_⟩⟩⟩
    have a1 := Chg.new (L := []) (o := .lst [.str "g", .str "h", .str "total"]) hp1
    have a2 := Chg.new (L := []) (o := .lst [.str "result", .str "g", .str "b2"]) hp2
    have a3 := Chg.new (L := []) (o := .lst [.ref p1, .ref p2]) hp3
    have c3 := (a1.trans a2).trans a3
    refine ⟨st, sc, ns, k, 4, rfl, G.chg c3, by decide, by decide, fun r1 H4 G4 c4 z1 z2 => ⟨_, rfl, by unfold CDivN; decide, ?_⟩⟩
    have c04 : Chg [st] H H4 := c3.of0.trans c4
    have n1 : p1 ≠ st := G.new hp1
    have n2 : p2 ≠ st := (G.chg a1).new hp2
    have n3 : p3 ≠ st := (G.chg (a1.trans a2)).new hp3
    have e1 : SqL K H4 p1 ((baseSh 0).map V.str) := SqL.of (c4.keep _ _ ((a2.trans a3).get upd_same) trivial (by simpa using n1))
    have e2 : SqL K H4 p2 ((baseSh 1).map V.str) := SqL.of (c4.keep _ _ (a3.get upd_same) trivial (by simpa using n2))
    have e3 : SqL K H4 p3 [.ref p1, .ref p2] := SqL.of (c4.keep _ _ upd_same trivial (by simpa using n3))
    have hsel : ∃ (j : Nat) (x : Addr), atI [V.ref p1, V.ref p2] (r1.fdiv 3) = some (V.ref x) ∧ j < 2 ∧ x ≠ st ∧ SqL K H4 x ((baseSh j).map V.str) := by
      have : r1 = 0 ∨ r1 = 1 ∨ r1 = 2 ∨ r1 = 3 := by omega
      rcases this with rfl | rfl | rfl | rfl
      · exact ⟨0, p1, rfl, by decide, n1, e1⟩
      · exact ⟨0, p1, rfl, by decide, n1, e1⟩
      · exact ⟨0, p1, rfl, by decide, n1, e1⟩
      · exact ⟨1, p2, rfl, by decide, n2, e2⟩
    obtain ⟨j, x, hx, hj, hxs, ex⟩ := hsel
    refine ixL e3 hx ?_
    refine ⟨st, sc, ns, k, 4, rfl, G4, by decide, by decide, fun r5 H5 G5 c5 y1 y2 => ⟨_, rfl, ?_⟩⟩
    refine slTo (c5.sqL' ex (by simpa using hxs)) y1 fun p6 hp6 => ?_
    rw [← List.map_take]
    have hr5 : r5.toNat < 4 := by omega
    have c06 : Chg [st] H (upd H5 p6 (.lst (((baseSh j).take r5.toNat).map V.str))) := (c04.trans c5).thenNew hp6
    have b0 := Chg.new (L := []) (o := .lst (((baseSh j).take r5.toNat).map V.str)) hp6
    have G6 := G5.chg b0
    have n6 : p6 ≠ st := G5.new hp6
    have e6 : (upd H5 p6 (.lst (((baseSh j).take r5.toNat).map V.str))) p6 = some (.lst (((baseSh j).take r5.toNat).map V.str)) := upd_same
    generalize hH6 : upd H5 p6 (.lst (((baseSh j).take r5.toNat).map V.str)) = H6 at *
    clear hH6 b0
    have hshl : ((baseSh j).take r5.toNat).length ≤ 3 := (rows_ok (m := 0) (p := 0) hj hr5 (by decide) (by decide)).shl
    refine ⟨by decide, fun q1 hq1 => ⟨by decide, fun q2 hq2 => ⟨by decide, fun q3 hq3 => ⟨by decide, fun q4 hq4 => ⟨by decide, fun q5 hq5 => ⟨by decide, fun q6 hq6 => ⟨by decide, fun q7 hq7 => ?_⟩⟩⟩⟩⟩⟩⟩
    have b1 := Chg.new (L := []) (o := .tup [.str "a"]) hq1
    have b2 := Chg.new (L := []) (o := .tup [.str "step", .ref q1]) hq2
    have b3 := Chg.new (L := []) (o := .tup [.str "a", .str "b"]) hq3
    have b4 := Chg.new (L := []) (o := .tup [.str "twice", .ref q3]) hq4
    have b5 := Chg.new (L := []) (o := .tup []) hq5
    have b6 := Chg.new (L := []) (o := .tup [.str "walk", .ref q5]) hq6
    obtain ⟨b7, e7⟩ := Chg.at1 (o := .lst [.ref q2, .ref q4, .ref q6]) hq7
    have b67 := b6.trans b7
    have b57 := b5.trans b67
    have b47 := b4.trans b57
    have b37 := b3.trans b47
    have b27 := b2.trans b37
    have b17 := b1.trans b27
    have dq : DatsAt K _ (baseRows.map procD) [V.ref q2, V.ref q4, V.ref q6] := dats_cons (dat_row (n := "step") (l := ["a"]) (b37.sqT (SqT.of upd_same)) (b27.sqT (SqT.of upd_same))) (dats_cons (dat_row (n := "twice") (l := ["a", "b"]) (b57.sqT (SqT.of upd_same)) (b47.sqT (SqT.of upd_same))) (dats_cons (dat_row (n := "walk") (l := []) (b7.sqT (SqT.of upd_same)) (b67.sqT (SqT.of upd_same))) dats_nil))
    have G7 := G6.chg b17
    have n7 : q7 ≠ st := (G6.chg (((((b1.trans b2).trans b3).trans b4).trans b5).trans b6)).new hq7
    refine ⟨st, sc, ns, k, 4, rfl, G7, by decide, by decide, fun r8 H8 G8 c8 y1 y2 => ⟨_, rfl, ?_⟩⟩
    have c68 : Chg [st] H6 H8 := b17.of0.trans c8
    have d8 := dq.chg c8
    have hr8 : r8.toNat < 4 := by omega
    refine slTo (SqL.of (c8.keep _ _ e7 trivial (by simpa using n7))) y1 fun p9 hp9 => ?_
    generalize hxs0 : [V.ref q2, V.ref q4, V.ref q6] = xs0 at d8 ⊢
    clear hxs0 b1 b2 b3 b4 b5 b6 b7 b67 b57 b47 b37 b27 b17 dq e7 G7 n7 c8
    have d9 := DatsAt.take r8.toNat d8
    obtain ⟨b9, e9⟩ := Chg.at1 (o := .lst (xs0.take r8.toNat)) hp9
    have G9 := G8.chg b9
    have n9 := G8.new hp9
    have hl9 : (xs0.take r8.toNat).length ≤ 3 := by rw [List.length_take]; omega
    refine ⟨_, rfl, _, .inl (SqL.of e9), st, sc, ns, k, _, rfl, G9, by omega, by omega, fun r10 H10 G10 c10 y3 y4 => ?_⟩
    have hr10 : r10.toNat < 5 := by omega
    have c610 : Chg [st] H6 H10 := c68.trans (b9.of0.trans c10)
    have d10 := (d9.chg b9).chg c10
    have e10 : H10 p9 = some (.lst (xs0.take r8.toNat)) := c10.keep _ _ e9 trivial (by simpa using n9)
    refine ⟨_, rfl, slTo (SqL.of e10) y3 fun p11 hp11 => ?_⟩
    clear b9 e9 G9 hp9 c10 d9 G8 hq1 hq2 hq3 hq4 hq5 hq6 hq7
    generalize hxs1 : xs0.take r8.toNat = xs1 at *
    have d11 := DatsAt.take r10.toNat d10
    have d11' := DatsAt.drop r10.toNat d10
    obtain ⟨b11, e11⟩ := Chg.at1 (o := .lst (xs1.take r10.toNat)) hp11
    have hl10 := d10.len
    rw [List.length_take, List.length_map] at hl10
    have hbl : baseRows.length = 3 := rfl
    refine ⟨by decide, fun p12 hp12 => ⟨by decide, fun p13 hp13 => ⟨by decide, fun p14 hp14 => ?_⟩⟩⟩
    obtain ⟨b12, e12⟩ := Chg.at1 (o := .tup []) hp12
    obtain ⟨b13, e13⟩ := Chg.at1 (o := .tup [.str "main", .ref p12]) hp13
    obtain ⟨b14, e14⟩ := Chg.at1 (o := .lst [.ref p13]) hp14
    have b124 := (b12.trans b13).trans b14
    refine ⟨_, _, _, _, rfl, rfl, b124.get e11, e14, by rw [List.length_take, List.length_singleton]; exact sz (by omega), fun p15 hp15 => ?_⟩
    obtain ⟨b15, e15⟩ := Chg.at1 (o := .lst (xs1.take r10.toNat ++ [.ref p13])) hp15
    have b11' := b11.trans (b124.trans b15)
    refine ⟨_, rfl, slFrom (SqL.of (b11'.get e10)) y3 fun p16 hp16 => ?_⟩
    obtain ⟨b16, e16⟩ := Chg.at1 (o := .lst (xs1.drop r10.toNat)) hp16
    refine ⟨_, _, _, _, rfl, rfl, b16.get e15, e16, by rw [List.length_append, List.length_take, List.length_singleton, List.length_drop]; exact sz (by omega), fun p17 hp17 => ?_⟩
    obtain ⟨b17, e17⟩ := Chg.at1 (o := .lst (xs1.take r10.toNat ++ [.ref p13] ++ xs1.drop r10.toNat)) hp17
    have bb := b11'.trans (b16.trans b17)
    have dmain : DatAt K _ (procD ("main", [])) (.ref p13) := dat_row (l := []) (((b14.trans b15).trans (b16.trans b17)).sqT (SqT.of e13)) ((((b13.trans b14).trans b15).trans (b16.trans b17)).sqT (SqT.of e12))
    have drows := DatsAt.append (DatsAt.append (d11.chg bb) (dats_cons dmain dats_nil)) (d11'.chg bb)
    have hrw : (List.take r10.toNat (List.take r8.toNat (List.map procD baseRows)) ++ [procD ("main", [])] ++ List.drop r10.toNat (List.take r8.toNat (List.map procD baseRows))) = (rowsL r8.toNat r10.toNat).map procD := by
      unfold rowsL
      rw [List.map_append, List.map_append, List.map_take, List.map_take, List.map_drop, List.map_take]
      rfl
    rw [hrw] at drows
    have G17 := G10.chg bb
    have n17 : p17 ≠ st := (G10.chg (b11'.trans b16)).new hp17
    have c617 := c610.trans bb.of0
    have hL := rows_ok hj hr5 hr8 hr10
    generalize hLL : rowsL r8.toNat r10.toNat = L at drows hL
    generalize hxs2 : xs1.take r10.toNat ++ [V.ref p13] ++ xs1.drop r10.toNat = xs2 at *
    clear hLL hxs2 dmain bb b16 b11' b15 b124 b14 b13 b12 b11 d11 d11' e11 e12 e13 e14 e15 e16 d10 e10 c610 c68
    have hl2 := drows.len
    rw [List.length_map] at hl2
    have hLf := hL.few
    refine ⟨p17, rfl, ⟨_, SqL.of e17⟩, lcL (SqL.of e17) (fun i acc H => i ≤ xs2.length ∧ acc.length = i ∧ DatsAt K H ((L.take i).map fun r => rowD (rowR r)) acc) ⟨Nat.zero_le _, rfl, dats_nil⟩ (fun i acc M H H' c w => ⟨w.1, w.2.1, w.2.2.chg c⟩) (fun i acc H w => ?_) (fun i x H18 acc N' Nn hx c18 w k1 _ => ?_) fun D H18 acc hD c18 hacc w => ?_⟩
    · exact sz' (by have := w.1; have := w.2.1; omega)
    · obtain ⟨w1, w2, w3⟩ := w
      obtain ⟨dd, hd1, hd2⟩ := drows.at hx
      rw [List.getElem?_map] at hd1
      cases hri : L[i]? with
      | none => rw [hri] at hd1; cases hd1
      | some row =>
        rw [hri] at hd1
        cases hd1
        unfold procD at hd2
        obtain ⟨pp, ys, rfl, s0, g⟩ := DatAt.tup_inv hd2
        obtain ⟨x0, r0, rfl, t1, g⟩ := g.cons_inv
        obtain ⟨x1, r0, rfl, t2, g⟩ := g.cons_inv
        cases g.nil_inv
        cases dat_str_inv t1
        obtain ⟨pa, rfl, sp⟩ := dat_names t2
        try walk_at "w15"
        refine ixT (c18.sqT s0) (v := .str row.1) rfl (ixT (c18.sqT s0) (v := .ref pa) rfl ?_)
        refine ⟨_, rfl, _, .inr (c18.sqT sp), ?_⟩
        try walk_at "w15"
        refine ⟨by decide, fun p19 hp19 => ?_⟩
        have b19 := Chg.new (L := []) (o := .tup [V.str row.1, .int ((row.2.map V.str).length : Nat)]) hp19
        have hil : i < xs2.length := (List.getElem?_eq_some_iff.mp hx).1
        refine k1 _ _ b19 ⟨hil, by rw [List.length_append, w2]; rfl, ?_⟩
        rw [take_succ hri, List.map_append]
        refine DatsAt.append (w3.chg b19) (dats_cons ?_ dats_nil)
        unfold rowD rowR
        refine dat_tup (SqT.of upd_same) (dats_cons dat_str (dats_cons ?_ dats_nil))
        rw [List.length_map]; exact dat_int
    · obtain ⟨w1, w2, w3⟩ := w
      rw [hl2, List.take_length] at w3
      try walk_at "w15"
      obtain ⟨s0, s1, s2, hst, G19, c19⟩ := (G17.chg c18).setK 20
      have nD : D ≠ st := G17.new hD
      have eD := c19.keep _ _ hacc trivial (by simpa using nD)
      have c1719 : Chg [st] _ _ := c18.of0.trans c19
      have e1719 := c1719.keep _ _ e17 trivial (by simpa using n17)
      have drows19 := drows.chg c1719
      have c619 := c617.trans c1719
      have c619' := c06.trans c619
      have P19 : PX K _ st D (L.map rowR) := ⟨⟨acc, SqL.of eD, by rw [List.map_map]; exact w3.chg c19⟩, nD, fun z => by
        rw [List.map_eq_nil_iff.mp z] at hL
        have := hL.main
        simp at this, by rw [List.length_map]; omega, fun r hr => by
        obtain ⟨r', hr', e⟩ := List.mem_map.mp hr
        rw [← e]
        exact (hL.par r' hr').1⟩
      refine ⟨_, hst, 3, rfl, ?_⟩
      rw [show [V.int s0, V.int s1, V.int s2, V.int k].set 3 (V.int 20) = [V.int s0, V.int s1, V.int s2, V.int 20] from rfl]
      generalize hH19 : upd H18 st (.lst [.int s0, .int s1, .int s2, .int 20]) = H19 at *
      clear hH19 c19 c18 c1719 w3 hacc
      refine fun fo hfo => ⟨by decide, fun p21 hp21 => ⟨by decide, fun p22 hp22 => ⟨by decide, fun p23 hp23 => ?_⟩⟩⟩
      obtain ⟨b20, e20⟩ := Chg.at1 (o := .dK []) hfo
      obtain ⟨b21, e21⟩ := Chg.at1 (o := .tup []) hp21
      obtain ⟨b22, e22⟩ := Chg.at1 (o := .tup [.str "main", .ref p21]) hp22
      obtain ⟨b23, e23⟩ := Chg.at1 (o := .lst [.ref p22]) hp23
      have nfo : fo ≠ st := G19.new hfo
      have b2023 := ((b20.trans b21).trans b22).trans b23
      have ef23 := ((b21.trans b22).trans b23).get e20
      have dmain := dat_row (K := K) (n := "main") (l := []) (b23.sqT (SqT.of e22)) ((b22.trans b23).sqT (SqT.of e21))
      have er23 := b2023.get e1719
      have dr23 := drows19.chg b2023
      refine ⟨⟨_, SqL.of er23⟩, lcL (SqL.of er23) (fun i acc H => i ≤ xs2.length ∧ acc.length ≤ i ∧ DatsAt K H (((L.take i).filter notMain).map procD) acc) ⟨Nat.zero_le _, Nat.le_refl _, dats_nil⟩ (fun i acc M H H' c w => ⟨w.1, w.2.1, w.2.2.chg c⟩) (fun i acc H w => ?_) (fun i x H24 acc N' Nn hx c24 w k1 k2 => ?_) fun D2 H24 acc2 hD2 c24 hacc2 w => ?_⟩
      · exact sz' (by have := w.1; have := w.2.1; omega)
      · obtain ⟨w1, w2, w3⟩ := w
        have hil : i < xs2.length := (List.getElem?_eq_some_iff.mp hx).1
        obtain ⟨dd, hd1, hd2⟩ := dr23.at hx
        rw [List.getElem?_map] at hd1
        cases hri : L[i]? with
        | none => rw [hri] at hd1; cases hd1
        | some row =>
          rw [hri] at hd1
          cases hd1
          have hd3 := hd2
          unfold procD at hd2
          obtain ⟨pp, ys, rfl, s0, g⟩ := DatAt.tup_inv hd2
          obtain ⟨x0, r0, rfl, t1, g⟩ := g.cons_inv
          obtain ⟨x1, r0, rfl, t2, g⟩ := g.cons_inv
          cases g.nil_inv
          cases dat_str_inv t1
          rw [take_succ hri, List.filter_append] at k1 k2
          try walk_at "w15"
          refine ixT (c24.sqT s0) (v := .str row.1) rfl ?_
          try walk_at "w15"
          have hle : acc.length ≤ i + 1 := by omega
          by_cases hm : row.1 = "main"
          · have hf : notMain row = false := decide_eq_false (fun z => z hm)
            simp only [hm, ne_eq, not_true_eq_false, decide_false, Bool.false_eq_true, if_false]
            refine k2 _ Chg.refl ⟨hil, hle, ?_⟩
            rw [List.filter_cons, hf, List.filter_nil]
            simp only [Bool.false_eq_true, if_false, List.append_nil]
            exact w3
          · have hf : notMain row = true := decide_eq_true hm
            simp only [hm, ne_eq, not_false_eq_true, decide_true, if_true]
            refine k1 _ _ Chg.refl ⟨hil, by rw [List.length_append, List.length_singleton]; omega, ?_⟩
            rw [List.filter_cons, hf, List.filter_nil]
            simp only [if_true]
            rw [List.map_append]
            exact DatsAt.append w3 (dats_cons (hd3.chg c24) dats_nil)
      obtain ⟨w1, w2, w3⟩ := w
      rw [hl2, List.take_length] at w3
      try walk_at "w15"
      refine ⟨_, _, _, _, rfl, rfl, c24.get e23, hacc2, by rw [List.length_singleton]; exact sz (by omega), fun p25 hp25 => ?_⟩
      obtain ⟨b25, e25⟩ := Chg.at1 (o := .lst ([V.ref p22] ++ acc2)) hp25
      have ord := DatsAt.append (dats_cons ((dmain.chg c24).chg b25) dats_nil) (w3.chg b25)
      have hO : ∀ r, r ∈ (("main", []) : Str × List Str) :: L.filter notMain ↔ r ∈ L := fun r => by
        rw [List.mem_cons, List.mem_filter]
        constructor
        · rintro (h | h)
          · rw [h]; exact hL.main
          · exact h.1
        · intro h
          by_cases hm : r.1 = "main"
          · exact .inl (nodup_inj hL.nd h hL.main hm)
          · exact .inr ⟨h, decide_eq_true hm⟩
      have hcons : [procD ("main", [])] ++ (L.filter notMain).map procD = ((("main", []) : Str × List Str) :: L.filter notMain).map procD := rfl
      rw [hcons] at ord
      have hOl : ((("main", []) : Str × List Str) :: L.filter notMain).length ≤ 5 := by rw [List.length_cons]; have := List.length_filter_le notMain L; omega
      generalize hOO : ((("main", []) : Str × List Str) :: L.filter notMain) = O at ord hO hOl
      have hfo25 := (c24.trans b25).get ef23
      have npo : p25 ≠ fo := fun z => by
        have := c24.get ef23
        rw [← z, hp25] at this
        cases this
      have bA := (b2023.trans c24).trans b25
      have nps : p25 ≠ st := (G19.chg (b2023.trans c24)).new hp25
      generalize hys : [V.ref p22] ++ acc2 = ys at *
      try walk_at "w15"
      refine ⟨⟨_, SqL.of e25⟩, ?_⟩
      generalize hH25 : upd H24 p25 (HO.lst ys) = H25 at *
      clear hH25 hys hcons hOO w3 dmain hacc2 b25 c24
      have hyl := ord.len
      rw [List.length_map] at hyl
      have hyl2 : ys.length ≤ 5 := by omega
      have shok : ∀ H', Chg [st] H19 H' → SqL K H' p6 (((baseSh j).take r5.toNat).map V.str) := fun H' c => c.sqL' (c619.sqL' (SqL.of e6) (by simpa using n6)) (by simpa using n6)
      generalize hsh : (baseSh j).take r5.toNat = sh at *
      refine forL (xs := ys) (fun i σ H' => ∃ o k' kvs, σ = [some (.ref st), some (.ref sc), some (.ref p6), some (.ref p17), some (.int r10), some (.ref D), o, some (.ref fo)] ∧ GX K H' st sc ns k' ∧ -1 ≤ k' ∧ k' ≤ 20 ∧ Chg [st] H19 H' ∧ Chg [st, fo] H25 H' ∧ H' fo = some (.dK kvs) ∧ kvs.length ≤ i ∧ ∀ r ∈ O.take i, ∃ pr v, valV kvs (Sum.inr r.1) = some v ∧ DatAt K H' pr.d v ∧ GoodPr sh (L.map rowR) r pr)
        ⟨none, 20, [], rfl, G19.chg bA, by decide, by decide, bA.of0, Chg.refl, hfo25, Nat.le_refl _, fun r hr => by rw [List.take_zero] at hr; cases hr⟩ (fun i σ H' _ z => by
          obtain ⟨o, k', kvs, _, _, _, _, _, c, _⟩ := z
          exact SqL.of (c.keep _ _ e25 trivial (by simp only [List.mem_cons, List.not_mem_nil, or_false, not_or]; exact ⟨nps, npo⟩))) ?_ ?_
      · rintro i x H26 H' hx' ⟨o, k', kvs, rfl, GL, kl1, kl2, cA, cB, hfd, hkl, hall⟩
        obtain ⟨dd, hd1, hd2⟩ := ord.at hx'
        rw [List.getElem?_map] at hd1
        cases hri : O[i]? with
        | none => rw [hri] at hd1; cases hd1
        | some row =>
          rw [hri] at hd1
          cases hd1
          have hrL : row ∈ L := (hO row).mp (List.mem_of_getElem? hri)
          have hil : i < ys.length := (List.getElem?_eq_some_iff.mp hx').1
          have hd3 := hd2.chg cB
          have hd4 := hd3
          unfold procD at hd4
          obtain ⟨pp, zs, rfl, s0', g⟩ := DatAt.tup_inv hd4
          obtain ⟨x0, r0, rfl, t1, g⟩ := g.cons_inv
          obtain ⟨x1, r0, rfl, t2, g⟩ := g.cons_inv
          cases g.nil_inv
          cases dat_str_inv t1
          try walk_at "w15"
          refine ⟨st, sc, p6, D, _, ns, k', sh, row, L.map rowR, rfl, GL, shok _ cA, n6, hshl, (hL.par row hrL).1, hd3, P19.chg cA, kl1, kl2, fun pr v k2 H2 G2 c2 q1 q2 good dat => ?_⟩
          try walk_at "w15"
          refine ixT (c2.sqT s0') (v := .str row.1) rfl ?_
          have hf2 := c2.keep _ _ hfd trivial (by simpa using nfo)
          refine dpI hf2 (sz' (by omega)) ?_
          have cp : Chg [fo] H2 (upd H2 fo (.dK (putK kvs (Sum.inr row.1) v))) := Chg.put hf2 trivial (by simp)
          have cA2 : Chg [st] H19 (upd H2 fo (.dK (putK kvs (Sum.inr row.1) v))) := (cA.trans c2).own hfo
          have cB2 : Chg [st, fo] H25 (upd H2 fo (.dK (putK kvs (Sum.inr row.1) v))) := (cB.trans (c2.mono (by simp))).trans (cp.mono (by simp))
          have hlen : (putK kvs (Sum.inr row.1) v).length ≤ kvs.length + 1 := by
            unfold putK
            split
            · rw [List.length_map]; omega
            · rw [List.length_append]; exact Nat.le_refl _
          have fin : ∀ r ∈ O.take (i + 1), ∃ pr' v', valV (putK kvs (Sum.inr row.1) v) (Sum.inr r.1) = some v' ∧ DatAt K (upd H2 fo (.dK (putK kvs (Sum.inr row.1) v))) pr'.d v' ∧ GoodPr sh (L.map rowR) r pr' := fun r hr => by
            rw [valV_put]
            by_cases e : r.1 = row.1
            · have hrr : r = row := nodup_inj hL.nd ((hO r).mp (List.mem_of_mem_take hr)) hrL e
              refine ⟨pr, v, ?_, dat.chg cp, by rw [hrr]; exact good⟩
              rw [e, if_pos rfl]
            · rw [take_succ hri] at hr
              rcases List.mem_append.mp hr with hr | hr
              · obtain ⟨pr', v', g1, g2, g3⟩ := hall r hr
                exact ⟨pr', v', by rw [if_neg (fun z => e (Sum.inr.inj z))]; exact g1, (g2.chg c2).chg cp, g3⟩
              · exact absurd (by rw [List.mem_singleton.mp hr]) e
          try walk_at "w15"
          exact ⟨k2, GX.own G19 hfo G2 cp cA2, q1, by omega, cA2, cB2, _, upd_same, by omega, fin⟩
      · rintro σ H' ⟨o, k', kvs, rfl, GL, kl1, kl2, cA, cB, hfd, hkl, hall⟩
        rw [hyl, List.take_length] at hall
        have hch : ∀ r : Str × List Str, ∃ pv : Pr × V, r ∈ L → valV kvs (Sum.inr r.1) = some pv.2 ∧ DatAt K H' pv.1.d pv.2 ∧ GoodPr sh (L.map rowR) r pv.1 := fun r => by
          by_cases hr : r ∈ L
          · obtain ⟨pr, v, h1, h2, h3⟩ := hall r ((hO r).mpr hr)
            exact ⟨(pr, v), fun _ => ⟨h1, h2, h3⟩⟩
          · exact ⟨(⟨"", [], []⟩, .non), fun z => absurd z hr⟩
        obtain ⟨f, hf⟩ := Classical.axiomOfChoice hch
        have good := good_pg (f := fun r => (f r).1) hL fun r hr => (hf r hr).2.2
        have e17' := cA.keep _ _ e1719 trivial (by simpa using n17)
        have dr' := drows19.chg cA
        try walk_at "w15"
        refine ⟨_, .inl ⟨shok _ cA, fun l hl => ?_⟩⟩
        obtain ⟨b27, e27⟩ := Chg.at1 (o := .tup (sh.map V.str)) hl
        refine ⟨⟨_, SqL.of (b27.get e17')⟩, lcL (SqL.of (b27.get e17')) (fun i acc H => i ≤ xs2.length ∧ acc = (L.take i).map fun r => (f r).2) ⟨Nat.zero_le _, rfl⟩ (fun i acc M H H' c w => w) (fun i acc H w => by rw [w.2, List.length_map, List.length_take]; exact sz' (by have := w.1; omega)) (fun i x H28 acc N' Nn hx c28 w k1 k2 => ?_) fun D2 H28 acc hD2 c28 hacc2 w => ?_⟩
        · obtain ⟨w1, rfl⟩ := w
          have hil : i < xs2.length := (List.getElem?_eq_some_iff.mp hx).1
          obtain ⟨dd, hd1, hd2⟩ := dr'.at hx
          rw [List.getElem?_map] at hd1
          cases hri : L[i]? with
          | none => rw [hri] at hd1; cases hd1
          | some row =>
            rw [hri] at hd1
            cases hd1
            unfold procD at hd2
            obtain ⟨pp, zs, rfl, s0', g⟩ := DatAt.tup_inv hd2
            obtain ⟨x0, r0, rfl, t1, g⟩ := g.cons_inv
            obtain ⟨x1, r0, rfl, t2, g⟩ := g.cons_inv
            cases g.nil_inv
            cases dat_str_inv t1
            try walk_at "w15"
            refine ixT ((b27.trans c28).sqT s0') (v := .str row.1) rfl ?_
            refine dgI ((b27.trans c28).get hfd) (hf row (List.mem_of_getElem? hri)).1 ?_
            refine k1 _ _ Chg.refl ⟨hil, ?_⟩
            rw [take_succ hri, List.map_append]
            rfl
        · rw [hl2, List.take_length] at w
          obtain ⟨_, rfl⟩ := w
          try walk_at "w15"
          refine ⟨_, .inl ⟨SqL.of hacc2, fun l2 hl2' => ⟨by decide, fun p29 hp29 => ?_⟩⟩⟩
          obtain ⟨b28, e28⟩ := Chg.at1 (o := .tup (L.map fun r => (f r).2)) hl2'
          obtain ⟨b29, e29⟩ := Chg.at1 (o := .tup [.ref l, .ref l2]) hp29
          have cz := ((b27.trans c28).trans b28).trans b29
          refine q ⟨sh, L.map fun r => (f r).1⟩ _ k' _ good (GL.chg cz) ((c619'.trans cA).trans cz.of0) ?_
          unfold Pg.d
          refine dat_tup (SqT.of e29) (dats_cons (dat_tup (((c28.trans b28).trans b29).sqT (SqT.of e27)) (dats_strs _)) (dats_cons (dat_tup (b29.sqT (SqT.of e28)) ?_) dats_nil))
          refine DatsAt.of (by rw [List.length_map, List.length_map, List.length_map]) fun i d v h1 h2 => ?_
          rw [List.getElem?_map] at h1 h2
          rw [List.getElem?_map] at h1
          cases hri : L[i]? with
          | none => rw [hri] at h1; cases h1
          | some row =>
            rw [hri] at h1 h2
            cases h1
            cases h2
            exact (hf row (List.mem_of_getElem? hri)).2.1.chg cz
end
end Cc
set_option maxRecDepth 100000
set_option maxHeartbeats 4000000
/-! the law: run -/
namespace Cc
open PySem PySem.Spec PyProof.Rows L2
theorem scs63 : FnScope ["_law_program_here", "_law_inputs_here", "_law_limit", "_law_order", "_law_procedure_here", "_law_world", "_law_shared", "_law_name"] ["_law_program_here", "_law_inputs_here", "_law_limit"] (defScope (dst 63)) := ⟨rfl, rfl, rfl, by decide +kernel, rfl, by decide +kernel, by decide +kernel⟩
def sp63 (K : PySem.W.Frag) : Sp := fun vs H Q _ => ∃ (v : V) (iv : Addr) (G : Pg) (I : List Int) (lim : Nat), vs = [v, .ref iv, .int lim] ∧ GoodPg G ∧ (∀ i ∈ I, Sml i) ∧ lim ≤ 300 ∧ DatAt K H G.d v ∧ SqT K H iv (I.map V.int) ∧
  ∀ c p H' ev tp sp, Chg [] H H' → Runs G I lim c → live lim c = false → SqT K H' p [ev, .ref tp, .ref sp] → (∃ d, (fin c).ending = some d ∧ DatAt K H' d ev) → SqT K H' tp (c.told.map V.int) → DatAt K H' (.tup c.steps) (.ref sp) → Q (.ref p) H'
def w0 (shd : Addr) (pv : V) (od sd td iv : Addr) : List (Key × V) := [(Sum.inr "shared", .ref shd), (Sum.inr "procedures", pv), (Sum.inr "order", .ref od), (Sum.inr "steps", .ref sd), (Sum.inr "told", .ref td), (Sum.inr "inputs", .ref iv)]
def w1 (lim : Nat) (e : V) : List (Key × V) := [(Sum.inr "used", .int 0), (Sum.inr "limit", .int lim), (Sum.inr "open", .int 0), (Sum.inr "result", .int 0), (Sum.inr "ending", e)]
theorem zero_eq : ∀ (l : List Str) (kvs : List (Key × V)), l.Nodup → (∀ x ∈ l, valV kvs (Sum.inr x) = none) → (l.foldl (fun acc n => putK acc (Sum.inr n) (V.int 0)) kvs).length = kvs.length + l.length
  | [], kvs, _, _ => rfl
  | x :: r, kvs, nd, h => by
    rw [List.nodup_cons] at nd
    have e1 : (putK kvs (Sum.inr x) (V.int 0)).length = kvs.length + 1 := by
      unfold putK
      rw [valV_any, if_neg (by rw [h x (by simp)]; simp), List.length_append]; rfl
    rw [List.foldl_cons, zero_eq r _ nd.2 fun y hy => by
      rw [valV_put, if_neg (fun z => nd.1 (by rw [← Sum.inr.inj z]; exact hy))]
      exact h y (List.mem_cons_of_mem _ hy), e1, List.length_cons]
    omega
theorem SqL.other {K : PySem.W.Frag} {H H' : Hp} {t od : Addr} {xs : List V} {kvs : List (Key × V)} (h : SqL K H t xs) (e : H od = some (.dK kvs)) (c : Chg [od] H H') : SqL K H' t xs := by
  rcases h with (h | ⟨o, h⟩) | h
  · exact .inl (.inl (c.keep _ _ h trivial (by
      intro z
      rw [List.mem_singleton.mp z, e] at h
      cases h)))
  · exact .inl (.inr ⟨o, c.frzs _ _ _ h⟩)
  · exact .inr h
theorem proc_find {G : Pg} (nd : (G.procs.map (·.name)).Nodup) {pr : Pr} (h : pr ∈ G.procs) : procOf G pr.name = some pr := by
  unfold procOf
  cases hfd : G.procs.find? fun p => decide (p.name = pr.name) with
  | none =>
    have := List.find?_eq_none.mp hfd pr h
    exact absurd (decide_eq_true rfl) this
  | some p =>
    have e1 := List.mem_of_find?_eq_some hfd
    have z := List.find?_some hfd
    have e2 : p.name = pr.name := of_decide_eq_true z
    exact congrArg some (nodup_inj nd e1 h e2)
theorem vars_find {G : Pg} {pr : Pr} (h : procOf G pr.name = some pr) : varsOf G pr.name = G.shared ++ localsOf G.shared pr.params pr.body := by
  unfold varsOf locOf
  rw [bodyOf_eq h, proc_params h]
section
variable {P : Program} {w : World} {K : PySem.W.Frag} {mg : Str → Option Value} {base : Heap} {a : Nat → Addr} {fd : Nat → FuncData}
theorem ok63 (T : Tx P K mg base a fd) : FnOk P w K mg base CX0 188 (a 63) (fd 63) ["_law_program_here", "_law_inputs_here", "_law_limit"] (sp63 K) := by
  refine T.D63.fn.ok scs63 (fun vs H Q E h => ?_) (fun cdv A outer s H vs Q E hr h => ⟨_, (pss_cons (ps_set (i := 3) scs63.nd rfl (Or.inl rfl) pe_dnewK)
      (pss_cons (ps_for PassesOwn.never rfl (pi_tup (pe_ix (ixTK (K := K) rfl) (pv 0) pe_int (fun _ _ => rfl))) (pg_name (i := 4) scs63.nd rfl (Or.inl rfl)) (pss_one (ps_dput (hu_of hr) (pv 3) (pe_ix (ixTK (K := K) rfl) (pv 4) pe_int (fun _ _ => rfl)) (pe_op op_cat (pe_callTy call_list_of (by rfl) T.n_list PyProof.Rows.Boot.«list» (pa_cons (pe_ix (ixTK (K := K) rfl) (pv 0) pe_int (fun _ _ => rfl)) pa_nil)) (pe_call (ok47 T) (hr.mono (by first | exact Nat.le_refl _ | decide | omega)) rfl T.D47.mg T.D47.kp T.D47.bd .nil pass0 (pa_cons (pe_ix (ixTK (K := K) rfl) (pv 0) pe_int (fun _ _ => rfl)) (pa_cons (pv 4) pa_nil)))) rfl)))
      (pss_cons (ps_set (i := 5) scs63.nd rfl (Or.inl rfl) (pe_disp (pps_cons pe_str pe_dnewK (pps_cons pe_str (pe_ix (ixTK (K := K) rfl) (pv 0) pe_int (fun _ _ => rfl)) (pps_cons pe_str (pv 3) (pps_cons pe_str (pe_lst pa_nil) (pps_cons pe_str (pe_lst pa_nil) (pps_cons pe_str (pv 1) pps_nil)))))) (by rfl) (by rfl) (fun z => by cases z) (by decide)))
      (pss_cons (ps_set (i := 6) scs63.nd rfl (Or.inl rfl) (pe_dget (hu_of hr) (pv 5) pe_str (fun _ _ => rfl)))
      (pss_cons (ps_for PassesOwn.never rfl (pi_tup (pe_ix (ixTK (K := K) rfl) (pv 0) pe_int (fun _ _ => rfl))) (pg_name (i := 7) scs63.nd rfl (Or.inl rfl)) (pss_one (ps_dput (hu_of hr) (pv 6) (pv 7) pe_int rfl)))
      (pss_cons (ps_expr (pe_bm PySem.F.plainAttrs_dict PySem.F.slot_dict_update type_du CgZ.mt_update (pv 5) (pa_cons (pe_disp (pps_cons pe_str pe_int (pps_cons pe_str (pv 2) (pps_cons pe_str pe_int (pps_cons pe_str pe_int (pps_cons pe_str (pe_tup (pa_cons pe_str pa_nil)) pps_nil))))) (by rfl) (by rfl) (fun z => by cases z) (by decide)) pa_nil)))
      (pss_cons (ps_expr (pe_call (ok60s T 39 (ok57 T 39)) (hr.mono (by first | exact Nat.le_refl _ | decide | omega)) rfl T.D60.mg T.D60.kp T.D60.bd .nil pass0 (pa_cons (pv 5) (pa_cons pe_str (pa_cons (pe_lst pa_nil) pa_nil)))))
      (pss_one (ps_ret (pe_tup (pa_cons (pe_dget (hu_of hr) (pv 5) pe_str (fun _ _ => rfl)) (pa_cons (pe_callTy call_tuple_of (by rfl) T.n_tuple PyProof.Rows.Boot.«tuple» (pa_cons (pe_dget (hu_of hr) (pv 5) pe_str (fun _ _ => rfl)) pa_nil)) (pa_cons (pe_callTy call_tuple_of (by rfl) T.n_tuple PyProof.Rows.Boot.«tuple» (pa_cons (pe_dget (hu_of hr) (pv 5) pe_str (fun _ _ => rfl)) pa_nil)) pa_nil))))))))))))), ?_⟩)
  · obtain ⟨v, iv, G, I, lim, rfl, _⟩ := h
    rfl
  · obtain ⟨v, iv, G, I, lim, rfl, GG, hi, hl, hG, hI, q⟩ := h
    obtain ⟨pp, pb, pc, xs, rfl, h0, h1, h2, g⟩ := pg_at hG
    have W := GG.wf
    try walk_at "w15"
    intro od hod
    obtain ⟨b1, e1⟩ := Chg.at1 (o := .dK []) hod
    refine ixT (b1.sqT h0) (v := .ref pc) rfl ⟨pc, rfl, ⟨_, b1.sqT h2⟩, ?_⟩
    refine forT (xs := xs) (fun i σ H' => ∃ o okvs, σ = [some (.ref pp), some (.ref iv), some (.int lim), some (.ref od), o, none, none, none] ∧ Chg [] H H' ∧ H' od = some (.dK okvs) ∧ okvs.length ≤ i ∧ ∀ pr ∈ G.procs.take i, ∃ t, valV okvs (Sum.inr pr.name) = some (.ref t) ∧ SqL K H' t ((varsOf G pr.name).map V.str))
      ⟨none, [], rfl, b1, e1, Nat.le_refl _, fun r hr => by rw [List.take_zero] at hr; cases hr⟩ (fun i σ H' _ z => by obtain ⟨o, okvs, _, c, _⟩ := z; exact c.sqT h2) ?_ ?_
    · rintro i x σ H' hx ⟨o, okvs, rfl, c, hod', hl', hall⟩
      obtain ⟨d, hd, hdx⟩ := g.at hx
      rw [List.getElem?_map] at hd
      cases hpi : G.procs[i]? with
      | none => rw [hpi] at hd; cases hd
      | some pr =>
        rw [hpi] at hd
        cases hd
        have hpm : pr ∈ G.procs := List.mem_of_getElem? hpi
        obtain ⟨p', b', c', xs', rfl, k0, k1, k2, k3⟩ := pr_at hdx
        have hsh := W.b.sh
        have hpl := len_loc W.b (proc_find W.nd hpm)
        unfold locOf at hpl
        rw [bodyOf_eq (proc_find W.nd hpm), proc_params (proc_find W.nd hpm)] at hpl
        have hil : i < G.procs.length := (List.getElem?_eq_some_iff.mp hpi).1
        have hfew := W.few
        try walk_at "w15"
        refine ixT (c.sqT h0) (v := .ref pb) rfl ⟨pb, rfl, _, .inr (c.sqT h1), fun l1 hl1 => ?_⟩
        obtain ⟨b2, e2⟩ := Chg.at1 (o := .lst (G.shared.map V.str)) hl1
        have c2 := c.trans b2
        refine ixT (c2.sqT h0) (v := .ref pb) rfl ?_
        refine ⟨_, pb, G.shared, pr, rfl, c2.sqT h1, hdx.chg c2, W.b.pr pr hpm, GG.np pr hpm, fun l2 H3 c3 e3 => ?_⟩
        refine ⟨_, _, _, _, rfl, rfl, c3.get e2, e3, by rw [List.length_map, List.length_map]; exact sz (by omega), fun l4 hl4 => ?_⟩
        obtain ⟨b4, e4⟩ := Chg.at1 (o := .lst (G.shared.map V.str ++ (localsOf G.shared pr.params pr.body).map V.str)) hl4
        have c4 := (c2.trans c3).trans b4
        have c14 := (b2.trans c3).trans b4
        refine ixT (c4.sqT k0) (v := .str pr.name) rfl ?_
        have ho4 := c14.get hod'
        have ne4 : l4 ≠ od := fun z => by
          have := (b2.trans c3).get hod'
          rw [← z, hl4] at this
          cases this
        refine dpI ho4 (sz' (by omega)) ?_
        generalize hH4 : upd H3 l4 (HO.lst (G.shared.map V.str ++ (localsOf G.shared pr.params pr.body).map V.str)) = H4 at *
        have cp : Chg [od] H4 (upd H4 od (.dK (putK okvs (Sum.inr pr.name) (.ref l4)))) := Chg.put ho4 trivial (by simp)
        have hlen : (putK okvs (Sum.inr pr.name) (V.ref l4)).length ≤ okvs.length + 1 := by
          unfold putK
          split
          · rw [List.length_map]; omega
          · rw [List.length_append]; exact Nat.le_refl _
        try walk_at "w15"
        refine ⟨c4.own hod, _, upd_same, by omega, fun pr' hp' => ?_⟩
        rw [valV_put]
        by_cases e : pr'.name = pr.name
        · have hpp : pr' = pr := nodup_inj W.nd (List.mem_of_mem_take hp') hpm e
          rw [hpp, if_pos rfl]
          refine ⟨l4, rfl, ?_⟩
          rw [vars_find (proc_find W.nd hpm), List.map_append]
          exact SqL.of (by rw [upd_ne ne4]; exact e4)
        · rw [take_succ hpi] at hp'
          rcases List.mem_append.mp hp' with hp' | hp'
          · obtain ⟨t, t1, t2⟩ := hall pr' hp'
            exact ⟨t, by rw [if_neg (fun z => e (Sum.inr.inj z))]; exact t1, SqL.other (c14.sqL t2) ho4 cp⟩
          · exact absurd (by rw [List.mem_singleton.mp hp']) e
    · rintro σ Hs ⟨o, okvs, rfl, c, hod', hl', hall⟩
      have hxl := g.len
      rw [List.length_map] at hxl
      rw [hxl, List.take_length] at hall
      try walk_at "w17"
      intro wd hwd shd hshd
      obtain ⟨b5, e5⟩ := Chg.at1 (o := .dK []) hwd
      obtain ⟨b6, e6⟩ := Chg.at1 (o := .dK []) hshd
      refine ixT ((c.trans (b5.trans b6)).sqT h0) (v := .ref pc) rfl ⟨by decide, fun sd hsd => ⟨by decide, fun td htd => ?_⟩⟩
      obtain ⟨b7, e7⟩ := Chg.at1 (o := .lst []) hsd
      obtain ⟨b8, e8⟩ := Chg.at1 (o := .lst []) htd
      have ewd := ((b6.trans b7).trans b8).get e5
      have eshd := (b7.trans b8).get e6
      have esd := b8.get e7
      have b58 := ((b5.trans b6).trans b7).trans b8
      have hshd' := b5.back hshd
      have hsd' := (b5.trans b6).back hsd
      have htd' := ((b5.trans b6).trans b7).back htd
      have n1 : wd ≠ td := ne_of_none ((b6.trans b7).get e5) htd
      have n2 : wd ≠ sd := ne_of_none (b6.get e5) hsd
      have n3 : wd ≠ shd := ne_of_none e5 hshd
      have n4 : td ≠ sd := Ne.symm (ne_of_none e7 htd)
      have n5 : td ≠ shd := Ne.symm (ne_of_none (b7.get e6) htd)
      have n6 : sd ≠ shd := Ne.symm (ne_of_none e6 hsd)
      have F : LFix K Hs G I ⟨wd, shd, sd, td, .ref pc, iv, od⟩ := by
        refine ⟨?_, fun b hb => ?_, ⟨okvs, hod', hall⟩, ⟨pc, xs, rfl, c.sqT h2, g.chg c⟩, c.sqT hI, GG.np⟩
        · simp only [lmut, List.nodup_cons, List.mem_cons, List.not_mem_nil, or_false, not_or, not_false_eq_true, List.nodup_nil, and_true]
          exact ⟨⟨n1, n2, n3⟩, ⟨n4, n5⟩, n6⟩
        · simp only [lmut, List.mem_cons, List.not_mem_nil, or_false] at hb
          rcases hb with rfl | rfl | rfl | rfl
          · exact hwd
          · exact htd'
          · exact hsd'
          · exact hshd'
      refine ⟨ewd, w0 shd (.ref pc) od sd td iv, rfl, by exact (by decide : 6 ≤ 15), ?_⟩
      rw [show mergeK [] (w0 shd (.ref pc) od sd td iv) = w0 shd (.ref pc) od sd td iv from rfl]
      generalize hH8 : upd (upd (upd (upd Hs wd (HO.dK [])) shd (HO.dK [])) sd (HO.lst [])) td (HO.lst []) = H8 at *
      have c9 : Chg [] Hs (upd H8 wd (.dK (w0 shd (.ref pc) od sd td iv))) := b58.own hwd
      refine dgI upd_same rfl ?_
      refine ixT ((c.trans c9).sqT h0) (v := .ref pb) rfl ⟨pb, rfl, ⟨_, (c.trans c9).sqT h1⟩, ?_⟩
      refine forT (xs := G.shared.map V.str) (fun i σ H' => ∃ o7, σ = [some (.ref pp), some (.ref iv), some (.int lim), some (.ref od), o, some (.ref wd), some (.ref shd), o7] ∧ Chg [] Hs H' ∧ H' wd = some (.dK (w0 shd (.ref pc) od sd td iv)) ∧ H' sd = some (.lst []) ∧ H' td = some (.lst []) ∧ H' shd = some (.dK ((G.shared.take i).foldl (fun acc n => putK acc (Sum.inr n) (V.int 0)) [])))
        ⟨_, rfl, c9, upd_same, by rw [upd_ne (Ne.symm n2)]; exact esd, by rw [upd_ne (Ne.symm n1)]; exact e8, by rw [upd_ne (Ne.symm n3)]; exact eshd⟩ (fun i σ H' _ z => by obtain ⟨o7, _, c', _⟩ := z; exact (c.trans c').sqT h1) ?_ ?_
      · rintro i x σ H' hx ⟨o7, rfl, c', f1, f2, f3, f4⟩
        obtain ⟨nm, hnm, rfl⟩ := strs_at hx
        have hz0 := zero_len (G.shared.take i) []
        rw [List.length_take, List.length_nil] at hz0
        have hsh := W.b.sh
        try walk_at "w15"
        refine dpI f4 (sz' (Nat.le_trans hz0 (by omega))) ?_
        refine ⟨c'.own hshd', by rw [upd_ne n3]; exact f1, by rw [upd_ne n6]; exact f2, by rw [upd_ne n5]; exact f3, ?_⟩
        rw [upd_same, take_succ hnm, List.foldl_append]; rfl
      · rintro σ H9 ⟨o7, rfl, c', f1, f2, f3, f4⟩
        rw [List.length_map, List.take_length] at f4
        try walk_at "w17"
        refine ⟨.inr (.inr (.inl ⟨rfl, .inl ⟨_, f1⟩⟩)), fun d2 hd2 => ⟨by decide, fun et het => ?_⟩⟩
        obtain ⟨b10, e10⟩ := Chg.at1 (o := .dK []) hd2
        obtain ⟨b11, e11⟩ := Chg.at1 (o := .tup [.str "done"]) het
        have nwd : wd ≠ d2 := ne_of_none f1 hd2
        have net : et ≠ d2 := Ne.symm (ne_of_none e10 het)
        have cX : Chg [] Hs (upd (upd (upd H9 d2 (.dK [])) et (.tup [.str "done"])) d2 (.dK (mergeK [] (w1 lim (.ref et))))) := ((c'.trans b10).trans b11).own (c'.back hd2)
        have k1 : ∀ x o, H9 x = some o → (upd (upd (upd H9 d2 (.dK [])) et (.tup [.str "done"])) d2 (.dK (mergeK [] (w1 lim (.ref et))))) x = some o := fun x o e => by
          rw [upd_ne (ne_of_none e hd2), upd_ne (ne_of_none e (b10.back het)), upd_ne (ne_of_none e hd2)]
          exact e
        have ket : (upd (upd (upd H9 d2 (.dK [])) et (.tup [.str "done"])) d2 (.dK (mergeK [] (w1 lim (.ref et))))) et = some (.tup [.str "done"]) := by
          rw [upd_ne net]; exact e11
        refine ⟨b11.get e10, w1 lim (.ref et), rfl, by exact (by decide : 5 ≤ 15), w0 shd (.ref pc) od sd td iv, k1 _ _ f1, _, .inl upd_same, nwd, by exact (by decide : 6 + 5 ≤ sizeLine), by decide, fun vl hvl => ?_⟩
        rw [show mergeK (w0 shd (.ref pc) od sd td iv) (mergeK [] (w1 lim (.ref et))) = wL ⟨wd, shd, sd, td, .ref pc, iv, od⟩ ((0 : Nat) : Int) lim ((0 : Nat) : Int) 0 (.ref et) from rfl] at hvl ⊢
        generalize hHX : upd (upd (upd H9 d2 (.dK [])) et (.tup [.str "done"])) d2 (.dK (mergeK [] (w1 lim (.ref et)))) = HX at *
        have cY := cX.own hwd (o := .dK (wL ⟨wd, shd, sd, td, .ref pc, iv, od⟩ ((0 : Nat) : Int) lim ((0 : Nat) : Int) 0 (.ref et)))
        obtain ⟨b13, e13⟩ := Chg.at1 (o := .lst []) hvl
        have cZ := cY.trans b13
        have k2 : ∀ x o, H9 x = some o → x ≠ wd → NT o → (upd (upd HX wd (.dK (wL ⟨wd, shd, sd, td, .ref pc, iv, od⟩ ((0 : Nat) : Int) lim ((0 : Nat) : Int) 0 (.ref et)))) vl (.lst [])) x = some o := fun x o e n t => b13.get (by rw [upd_ne n]; exact k1 x o e) t
        have nwe : et ≠ wd := Ne.symm (ne_of_none (b10.get f1) het)
        have ket2 : (upd (upd HX wd (.dK (wL ⟨wd, shd, sd, td, .ref pc, iv, od⟩ ((0 : Nat) : Int) lim ((0 : Nat) : Int) 0 (.ref et)))) vl (.lst [])) et = some (.tup [.str "done"]) := b13.get (by rw [upd_ne nwe]; exact ket)
        obtain ⟨pr, hpr, hpar⟩ := W.main
        have SPx : SP K Hs G I lim ⟨wd, shd, sd, td, .ref pc, iv, od⟩ "main" pr [] := ⟨F, hpr, W, hi, hl, by decide⟩
        have LX0 : LX K Hs (upd (upd HX wd (.dK (wL ⟨wd, shd, sd, td, .ref pc, iv, od⟩ ((0 : Nat) : Int) lim ((0 : Nat) : Int) 0 (.ref et)))) vl (.lst [])) G lim ⟨wd, shd, sd, td, .ref pc, iv, od⟩ zeroK [] [] 0 ((0 : Nat) : Int) 0 (.ref et) := by
          refine ⟨b13.get upd_same, k2 _ _ f3 (Ne.symm n1) trivial, ⟨[], k2 _ _ f2 (Ne.symm n2) trivial, dats_nil⟩, ⟨_, k2 _ _ f4 (Ne.symm n3) trivial, ⟨?_, fun nm => ?_⟩, ?_⟩, cZ⟩
          · have hz0 := zero_len G.shared []
            have hsh := W.b.sh
            rw [List.length_nil] at hz0
            exact Nat.le_trans hz0 (by omega)
          · rw [rep_zero]
            by_cases e : nm ∈ G.shared
            · rw [if_pos e, if_pos e]; rfl
            · rw [if_neg e, if_neg e]; rfl
          · rw [zero_eq _ _ GG.nd (fun x _ => rfl), List.length_nil, Nat.zero_add]
        have hmem : ∀ x ∈ lmut ⟨wd, shd, sd, td, .ref pc, iv, od⟩, vl ≠ x := fun x hx => by
          simp only [lmut, List.mem_cons, List.not_mem_nil, or_false] at hx
          rcases hx with rfl | rfl | rfl | rfl
          · exact fun z => by rw [z, upd_same] at hvl; cases hvl
          · exact Ne.symm (ne_of_none (by rw [upd_ne (Ne.symm n1)]; exact k1 _ _ f3) hvl)
          · exact Ne.symm (ne_of_none (by rw [upd_ne (Ne.symm n2)]; exact k1 _ _ f2) hvl)
          · exact Ne.symm (ne_of_none (by rw [upd_ne (Ne.symm n3)]; exact k1 _ _ f4) hvl)
        refine ⟨Hs, G, I, lim, ⟨wd, shd, sd, td, .ref pc, iv, od⟩, "main", pr, none, [], .ref et, 0, vl, [], zeroK, [], [], 0, 0, rfl, SPx, LX0, Runs.start, Nat.zero_le _, SqL.of e13, cY.back hvl, fun z => hmem vl z rfl, by rw [hpar]; rfl, by have := W.d3 pr (proc_mem hpr); show (12 - 0) * 3 + depB pr.body < 39; omega, fun w2 H14 c14 po => ?_⟩
        have fn : ∃ sh' told' steps' used' opn res' e', LX K Hs H14 G lim ⟨wd, shd, sd, td, .ref pc, iv, od⟩ sh' told' steps' used' opn res' e' ∧ Stop K H14 G I lim told' steps' e' := by
          rcases po with ⟨rfl, sh', told', steps', used', res', kept', L, at2, _⟩ | ⟨rfl, sh', told', steps', used', opn, res', e', L, st⟩
          · refine ⟨sh', told', steps', used', _, res', _, L, ?_⟩
            have z := Stop.of (K := K) (H := H14) (e := .ref et) at2 (d := .tup [.str "done"]) rfl (dat_tup (SqT.of (c14.tups _ _ ket2)) (dats_cons dat_str dats_nil))
            exact z
          · exact ⟨sh', told', steps', used', opn, res', e', L, st⟩
        obtain ⟨sh', told', steps', used', opn, res', e', L, cc, dd, hr2, hlv, rfl, rfl, hfe, hfd⟩ := fn
        obtain ⟨sv, hsv, dsv⟩ := L.sd
        try walk_at "w15"
        refine dgI L.wd rfl (dgI L.wd rfl ?_)
        refine ⟨_, rfl, _, .inl ⟨SqL.of L.td, fun tp htp => ?_⟩⟩
        obtain ⟨b15, e15⟩ := Chg.at1 (o := .tup (cc.told.map V.int)) htp
        refine dgI (b15.get L.wd) rfl ?_
        refine ⟨_, rfl, _, .inl ⟨SqL.of (b15.get hsv), fun sp hsp => ⟨by decide, fun p hp => ?_⟩⟩⟩
        obtain ⟨b16, e16⟩ := Chg.at1 (o := .tup sv) hsp
        obtain ⟨b17, e17⟩ := Chg.at1 (o := .tup [e', .ref tp, .ref sp]) hp
        have b57 := (b15.trans b16).trans b17
        have cHs : Chg [wd, td, sd, shd] Hs H14 := cZ.of0.trans c14
        have cH0 : Chg [] Hs H14 := (((cHs.drop hwd).drop htd').drop hsd').drop hshd'
        exact q cc p _ e' tp sp ((c.trans cH0).trans b57) hr2 hlv (SqT.of e17) ⟨dd, hfe, hfd.chg b57⟩ ((b16.trans b17).sqT (SqT.of e15)) (dat_tup (b17.sqT (SqT.of e16)) (dsv.chg b57))
end
end Cc
set_option maxRecDepth 100000
set_option maxHeartbeats 400000
/-! What a run tells is small. -/
namespace Cc
open PySem PySem.Spec PyProof.Rows L2
def EndB (e : Option D) : Prop := ∀ d, e = some d → dDep d ≤ 2 ∧ dMax d ≤ 10
theorem endB_tup {l : List D} (h : dDeps l ≤ 1) (g : dMaxs l ≤ 10) (z : l.length ≤ 10) : EndB (some (.tup l)) := fun d e => by
  cases e
  rw [dDep, dMax]
  exact ⟨by omega, Nat.max_le.mpr ⟨z, g⟩⟩
theorem deps_flat : ∀ {l : List D}, (∀ d ∈ l, dDep d = 0 ∧ dMax d = 0) → dDeps l = 0 ∧ dMaxs l = 0
  | [], _ => by rw [dDeps, dMaxs]; exact ⟨rfl, rfl⟩
  | d :: r, h => by
    obtain ⟨h1, h2⟩ := h d (by simp)
    obtain ⟨i1, i2⟩ := deps_flat (l := r) fun x hx => h x (List.mem_cons_of_mem _ hx)
    rw [dDeps, dMaxs, h1, h2, i1, i2]
    exact ⟨rfl, rfl⟩
theorem str_flat {s : Str} : dDep (.str s) = 0 ∧ dMax (.str s) = 0 := by simp [dDep, dMax]
theorem int_flat {s : Int} : dDep (.int s) = 0 ∧ dMax (.int s) = 0 := by simp [dDep, dMax]
theorem ints_flat (l : List Int) : dDeps (l.map D.int) = 0 ∧ dMaxs (l.map D.int) = 0 := deps_flat fun d hd => by
  obtain ⟨i, _, rfl⟩ := List.mem_map.mp hd
  exact int_flat
theorem endB_one (s : Str) : EndB (some (.tup [.str s])) := by
  obtain ⟨h, g⟩ := deps_flat (l := [.str s]) fun d hd => by rw [List.mem_singleton.mp hd]; exact str_flat
  exact endB_tup (by omega) (by omega) (by simp)
theorem endB_fail (f : Fr) (k : Str) : EndB (some (failD f k)) := by
  unfold failD
  obtain ⟨h, g⟩ := deps_flat (l := [.str "failed", .str f.name, .str (placeT f.place), .str k]) fun d hd => by
    simp only [List.mem_cons, List.not_mem_nil, or_false] at hd
    rcases hd with rfl | rfl | rfl | rfl <;> exact str_flat
  exact endB_tup (by omega) (by omega) (by simp)
theorem endB_none : EndB none := fun d e => by cases e
section
variable {G : Pg} {I : List Int} {lim : Nat}
theorem stoE {c : Cf} {f : Fr} {r : List Fr} {n : Str} {v : Int} : (store G c f r n v).ending = c.ending := by unfold store; split <;> rfl
theorem advE {c : Cf} : (adv G c).ending = c.ending := by unfold adv; split <;> rfl
theorem leaE {c : Cf} {v : Int} (h : EndB c.ending) : EndB (leave G v c).ending := by
  unfold leave
  split
  · exact h
  · exact endB_one _
  · rw [advE]
    split
    · exact h
    · rw [stoE]; exact h
theorem norE {c : Cf} (h : EndB c.ending) : EndB (norm G c).ending := by
  induction hn : c.fs.length using Nat.strongRecOn generalizing c with
  | _ n ih =>
    by_cases ho : isOut c = true
    · rw [norm_out ho]
      exact ih _ (by rw [← hn]; exact leave_len G 0 c (isOut_fs ho)) (leaE h) rfl
    · rw [norm_in (by simpa using ho)]; exact h
theorem exeE {c : Cf} {f : Fr} {rest : List Fr} {p : List Nat} {s : Sm} (h : EndB c.ending) : EndB (exec G I c f rest p s).ending := by
  have hf : ∀ k, EndB (fail c f k).ending := fun k => endB_fail f k
  cases s with
  | set n e =>
    simp only [exec]
    split
    · exact hf _
    · rw [advE, stoE]; exact h
  | ask n =>
    simp only [exec]
    split
    · exact endB_one _
    · rw [advE]
      show EndB (store G c f rest n (I.getD c.used 0)).ending
      rw [stoE]; exact h
  | tell e =>
    simp only [exec]
    split
    · exact hf _
    · rw [advE]; exact h
  | chk b =>
    simp only [exec]
    split
    · exact hf _
    · split
      · rw [advE]; exact h
      · exact hf _
  | need b =>
    simp only [exec]
    split
    · exact hf _
    · split
      · rw [advE]; exact h
      · exact endB_one _
  | ret e =>
    simp only [exec]
    split
    · exact hf _
    · exact leaE h
  | ite b x y =>
    simp only [exec]
    split
    · exact hf _
    · exact h
  | whl b x =>
    simp only [exec]
    split
    · exact hf _
    · split
      · exact h
      · rw [advE]; exact h
  | call q es t =>
    simp only [exec]
    split
    · exact hf _
    · split
      · exact endB_one _
      · exact h
theorem kepE {c : Cf} : (kept G c).ending = c.ending := by unfold kept; split <;> rfl
theorem stpE {c : Cf} (h : EndB c.ending) : EndB (step G I c).ending := by
  unfold step
  split
  · exact h
  · split
    · exact h
    · split
      · exact h
      · exact norE (exeE (by rw [kepE]; exact h))
theorem Runs.endB {c : Cf} (h : Runs G I lim c) : EndB c.ending := by
  induction h with
  | start => unfold init; exact norE endB_none
  | more h l ih => exact stpE ih
theorem fin_endB {c : Cf} (h : Runs G I lim c) : EndB (fin c).ending := by
  unfold fin
  split
  · exact endB_one _
  · exact h.endB
theorem vars_len (B : PgB G) (n : Str) : (varsOf G n).length ≤ 70 := by
  unfold varsOf
  rw [List.length_append]
  have h1 := B.sh
  cases hp : procOf G n with
  | some p =>
    have := len_loc B hp
    omega
  | none =>
    have e : locOf G n = [] := by
      unfold locOf
      rw [bodyOf, paramsOf, hp]
      show localsOf G.shared [] [] = []
      unfold localsOf targets
      rw [allB]; rfl
    rw [e, List.length_nil]; omega
def StB (l : List D) : Prop := ∀ d ∈ l, dDep d ≤ 2 ∧ dMax d ≤ 100
theorem stepD_small (B : PgB G) (c : Cf) (f : Fr) : dDep (stepD G c f) ≤ 2 ∧ dMax (stepD G c f) ≤ 100 := by
  have hv := vars_len B f.name
  unfold stepD
  have hi : ((varsOf G f.name).map fun n => D.int (look G c.sh f.kept n)) = ((varsOf G f.name).map fun n => look G c.sh f.kept n).map D.int := by rw [List.map_map]; rfl
  rw [hi]
  obtain ⟨h1, h2⟩ := ints_flat ((varsOf G f.name).map fun n => look G c.sh f.kept n)
  have hl : (((varsOf G f.name).map fun n => look G c.sh f.kept n).map D.int).length ≤ 70 := by rw [List.length_map, List.length_map]; exact hv
  generalize (((varsOf G f.name).map fun n => look G c.sh f.kept n).map D.int) = l at *
  simp only [dDep, dDeps, dMax, dMaxs, h1, h2, List.length_cons, List.length_nil]
  omega
theorem kept_stB {c : Cf} (B : PgB G) (h : StB c.steps) : StB (kept G c).steps := by
  unfold kept
  split
  · exact h
  · intro d hd
    rcases List.mem_append.mp hd with hd | hd
    · exact h d hd
    · rw [List.mem_singleton.mp hd]; exact stepD_small B _ _
theorem Runs.stB {c : Cf} (B : PgB G) (h : Runs G I lim c) : StB c.steps := by
  induction h with
  | start => rw [init_steps]; intro d hd; cases hd
  | more h l ih =>
    unfold step
    split
    · exact ih
    · split
      · exact ih
      · split
        · exact ih
        · rw [norm_steps, exec_steps]; exact kept_stB B ih
theorem steps_small (W : WF G) (hi : ∀ i ∈ I, Sml i) (hl : lim ≤ 300) {c : Cf} (h : Runs G I lim c) : dDep (.tup c.steps) < 5 ∧ dMax (.tup c.steps) ≤ 1000 := by
  have h1 := h.len W hi
  have h2 := h.stB W.b
  rw [dDep, dMax]
  have z1 := dDeps_le (l := c.steps) (n := 2) fun d hd => (h2 d hd).1
  have z2 := dMaxs_le (l := c.steps) (n := 100) fun d hd => (h2 d hd).2
  refine ⟨by omega, Nat.max_le.mpr ⟨by omega, by omega⟩⟩
theorem told_small (W : WF G) (hi : ∀ i ∈ I, Sml i) (hl : lim ≤ 300) {c : Cf} (h : Runs G I lim c) {d : D} (hd : (fin c).ending = some d) : dDep (.tup [d, .tup (c.told.map D.int)]) < 5 ∧ dMax (.tup [d, .tup (c.told.map D.int)]) ≤ 1000 := by
  have h1 := h.len W hi
  have h2 := (h.ok W hi).1.told
  obtain ⟨e1, e2⟩ := fin_endB h d hd
  obtain ⟨i1, i2⟩ := ints_flat c.told
  have hl2 : (c.told.map D.int).length ≤ 300 := by rw [List.length_map]; omega
  generalize c.told.map D.int = l at *
  simp only [dDep, dDeps, dMax, dMaxs, i1, i2, List.length_cons, List.length_nil]
  omega
end
end Cc
set_option maxRecDepth 100000
set_option maxHeartbeats 4000000
/-! the law -/
namespace Cc
open PySem PySem.Spec PyProof.Rows L2
theorem scs64 : FnScope ["_law_script", "_law_state", "_law_k", "_law_program_here", "_law_j", "_law_inputs_here", "_law_limit", "_law_ending", "_law_told", "_law_steps"] ["_law_script"] (defScope (dst 64)) := ⟨rfl, rfl, rfl, by decide +kernel, rfl, by decide +kernel, by decide +kernel⟩
def sp64 (K : PySem.W.Frag) (a : Nat → Addr) : Sp := fun vs H Q _ => ∃ (sc : Addr) (ns : List Int), vs = [.ref sc] ∧ SqL K H sc (ns.map V.int) ∧ GxR.TabG H (a 1501) ∧ GxR.TabG H (a 1601) ∧ ∀ H', Q (.bl true) H'
section
variable {P : Program} {w : World} {K : PySem.W.Frag} {mg : Str → Option Value} {base : Heap} {a : Nat → Addr} {fd : Nat → FuncData}
theorem ok64 (T : Tx P K mg base a fd) : FnOk P w K mg base CX0 189 (a 64) (fd 64) ["_law_script"] (sp64 K a) := by
  refine T.D64.fn.ok scs64 (fun vs H Q E h => ?_) (fun cdv A outer s H vs Q E hr h => ⟨_, (pss_cons (ps_set (i := 1) scs64.nd rfl (Or.inl rfl) (pe_lst (pa_cons pe_int (pa_cons pe_int (pa_cons pe_int (pa_cons pe_int pa_nil))))))
      (pss_cons (ps_for PassesOwn.never rfl (pi_range1 (by rfl) T.n_range (pa_cons pe_int pa_nil)) (pg_name (i := 2) scs64.nd rfl (Or.inl rfl)) (pss_cons (ps_set (i := 3) scs64.nd rfl (Or.inl rfl) (pe_call (ok43 T) (hr.mono (by first | exact Nat.le_refl _ | decide | omega)) rfl T.D43.mg T.D43.kp T.D43.bd .nil pass0 (pa_cons (pv 1) (pa_cons (pv 0) pa_nil))))
      (pss_one (ps_for PassesOwn.never rfl (pi_range1 (by rfl) T.n_range (pa_cons pe_int pa_nil)) (pg_name (i := 4) scs64.nd rfl (Or.inl rfl)) (pss_cons (ps_set (i := 5) scs64.nd rfl (Or.inl rfl) (pe_call (ok48 T) (hr.mono (by first | exact Nat.le_refl _ | decide | omega)) rfl T.D48.mg T.D48.kp T.D48.bd .nil pass0 (pa_cons (pv 1) (pa_cons (pv 0) pa_nil))))
      (pss_cons (ps_set (i := 6) scs64.nd rfl (Or.inl rfl) (pe_call (ok33 T) (hr.mono (by first | exact Nat.le_refl _ | decide | omega)) rfl T.D33.mg T.D33.kp T.D33.bd .nil pass0 (pa_cons (pv 1) (pa_cons (pv 0) (pa_cons (pe_ix (ixLK (K := K) rfl) (pe_lst (pa_cons pe_int (pa_cons pe_int (pa_cons pe_int pa_nil)))) (pe_call (ok33 T) (hr.mono (by first | exact Nat.le_refl _ | decide | omega)) rfl T.D33.mg T.D33.kp T.D33.bd .nil pass0 (pa_cons (pv 1) (pa_cons (pv 0) (pa_cons pe_int pa_nil)))) (fun _ _ => rfl)) pa_nil)))))
      (pss_cons (ps_asg (pe_call (ok63 T) (hr.mono (by first | exact Nat.le_refl _ | decide | omega)) rfl T.D63.mg T.D63.kp T.D63.bd .nil pass0 (pa_cons (pv 3) (pa_cons (pv 5) (pa_cons (pv 6) pa_nil)))) (pg_tup (by rfl) (pgs_cons (pg_name (i := 7) scs64.nd rfl (Or.inl rfl)) (pgs_cons (pg_name (i := 8) scs64.nd rfl (Or.inl rfl)) (pgs_cons (pg_name (i := 9) scs64.nd rfl (Or.inl rfl)) pgs_nil)))))
      (pss_cons (ps_if (pt_not (pt_val (pe_call (ok34 T 5) (hr.mono (by first | exact Nat.le_refl _ | decide | omega)) rfl T.D34.mg T.D34.kp T.D34.bd .nil pass0 (pa_cons (pe_call (ok30 T) (hr.mono (by first | exact Nat.le_refl _ | decide | omega)) rfl T.D30.mg T.D30.kp T.D30.bd .nil pass0 (pa_cons (pv 3) (pa_cons (pv 5) (pa_cons (pv 6) pa_nil)))) (pa_cons (pe_tup (pa_cons (pv 7) (pa_cons (pv 8) pa_nil))) pa_nil))))) (pss_one (ps_ret pe_bl)) pss_nil)
      (pss_one (ps_if (pt_not (pt_val (pe_call (ok34 T 5) (hr.mono (by first | exact Nat.le_refl _ | decide | omega)) rfl T.D34.mg T.D34.kp T.D34.bd .nil pass0 (pa_cons (pe_call (ok31 T) (hr.mono (by first | exact Nat.le_refl _ | decide | omega)) rfl T.D31.mg T.D31.kp T.D31.bd .nil pass0 (pa_cons (pv 3) (pa_cons (pv 5) (pa_cons (pv 6) pa_nil)))) (pa_cons (pv 9) pa_nil))))) (pss_one (ps_ret pe_bl)) pss_nil))))))))))
      (pss_one (ps_ret pe_bl)))), ?_⟩)
  · obtain ⟨sc, ns, rfl, _⟩ := h
    rfl
  · obtain ⟨sc, ns, rfl, hsc, t15, t16, q⟩ := h
    try walk_at "w15"
    refine ⟨by decide, fun st hst => ?_⟩
    obtain ⟨b1, e1⟩ := Chg.at1 (o := .lst [.int 0, .int 0, .int 1, .int 0]) hst
    have G1 : GX K _ st sc ns 0 := ⟨⟨0, 0, 1, e1, by decide, by decide, by decide, by decide⟩, b1.sqL hsc, by
      rcases GX.first hsc hst with z | z
      · exact .inl (Ne.symm z)
      · exact .inr z⟩
    have tb : ∀ {L : List Addr} {H1 H2 : Hp}, Chg L H1 H2 → GxR.TabG H1 (a 1501) ∧ GxR.TabG H1 (a 1601) → GxR.TabG H2 (a 1501) ∧ GxR.TabG H2 (a 1601) := fun c t => ⟨c.tabs _ t.1, c.tabs _ t.2⟩
    have t1 := tb b1 ⟨t15, t16⟩
    refine ⟨by decide, by decide, forR (n := _) (fun i σ H1 => ∃ o2 o3 o4 o5 o6 o7 o8 o9 k, σ = [some (.ref sc), some (.ref st), o2, o3, o4, o5, o6, o7, o8, o9] ∧ GX K H1 st sc ns k ∧ GxR.TabG H1 (a 1501) ∧ GxR.TabG H1 (a 1601)) ⟨_, _, _, _, _, _, _, _, 0, rfl, G1, t1.1, t1.2⟩ ?_ ?_⟩
    · rintro i σ H1 hi ⟨o2, o3, o4, o5, o6, o7, o8, o9, k, rfl, G2, t2⟩
      try walk_at "w15"
      refine ⟨st, sc, ns, k, rfl, G2, fun G v k2 H2 good G3 c2 dG => ?_⟩
      have t3 := tb c2 t2
      try walk_at "w15"
      refine ⟨by decide, by decide, forR (n := _) (fun i' σ H1 => ∃ o4 o5 o6 o7 o8 o9 k, σ = [some (.ref sc), some (.ref st), some (.int (0 + (i : Int))), some v, o4, o5, o6, o7, o8, o9] ∧ GX K H1 st sc ns k ∧ DatAt K H1 G.d v ∧ GxR.TabG H1 (a 1501) ∧ GxR.TabG H1 (a 1601)) ?_ ?_ ?_⟩
      · exact ⟨_, _, _, _, _, _, k2, rfl, G3, dG, t3⟩
      · rintro j σ H3 hj ⟨o4, o5, o6, o7, o8, o9, k3, rfl, G4, dG3, t4⟩
        try walk_at "w15"
        refine ⟨st, sc, ns, k3, rfl, G4, fun I iv H4 G5 c4 hI hIl sI => ?_⟩
        have t5 := tb c4 t4
        have dG4 := dG3.chg c4
        try walk_at "w15"
        refine ⟨by decide, fun p5 hp5 => ?_⟩
        obtain ⟨b5, e5⟩ := Chg.at1 (o := .lst [.int 4, .int 60, .int 301]) hp5
        have n5 : p5 ≠ st := G5.new hp5
        refine ⟨st, sc, ns, k3, 3, rfl, G5.chg b5, by decide, by decide, fun r6 H6 G6 c6 z1 z2 => ?_⟩
        refine ixN1 (c6.sqL' (SqL.of e5) (by simpa using n5)) z1 (by simpa using z2) fun x hx _ => ?_
        have hm : ∃ m : Int, x = .int m ∧ 1 ≤ m ∧ m ≤ 301 := by
          simp only [List.mem_cons, List.not_mem_nil, or_false] at hx
          rcases hx with rfl | rfl | rfl <;> exact ⟨_, rfl, by decide, by decide⟩
        obtain ⟨m, rfl, m1, m2⟩ := hm
        refine ⟨st, sc, ns, k3, m, rfl, G6, m1, by omega, fun r7 H7 G7 c7 y1 y2 => ?_⟩
        have c47 : Chg [st] H4 H7 := (b5.of0.trans c6).trans c7
        have t7 := tb c47 t5
        have dG7 := dG4.chg c47
        have sI7 := c47.sqT sI
        obtain ⟨lim, rfl⟩ : ∃ lim : Nat, r7 = (lim : Int) := ⟨r7.toNat, by omega⟩
        have hlim : lim ≤ 300 := by omega
        try walk_at "w15"
        refine ⟨v, iv, G, I, lim, rfl, good, hI, hlim, dG7, sI7, fun c8 p8 H8 ev tp sp cc8 hr8 hl8 s8 hend htold hsteps => ?_⟩
        obtain ⟨d, hd1, hd2⟩ := hend
        try walk_at "w15"
        refine ⟨_, s8, rfl, _, _, rfl, _, _, rfl, _, _, rfl, rfl, ?_⟩
        have t8 := tb cc8 t7
        refine ⟨v, iv, G, I, lim, rfl, good.wf, hI, hlim, dG7.chg cc8, cc8.sqT sI7, t8.1, t8.2, fun c9 p9 H9 ev9 tp9 cc9 hr9 hl9 s9 hend9 htold9 => ?_⟩
        cases hr8.one hr9 hl8 hl9
        obtain ⟨d9, hd91, hd92⟩ := hend9
        rw [hd1] at hd91
        cases hd91
        have t9 := tb cc9 t8
        try walk_at "w15"
        refine ⟨by decide, fun p10 hp10 => ?_⟩
        obtain ⟨b10, e10⟩ := Chg.at1 (o := .tup [ev, .ref tp]) hp10
        obtain ⟨q1, q2⟩ := told_small good.wf hI hlim hr8 hd1
        have due : DatAt K _ (.tup [d, .tup (c8.told.map D.int)]) (.ref p10) := dat_tup (SqT.of e10) (dats_cons ((hd2.chg cc9).chg b10) (dats_cons (dat_tup ((cc9.trans b10).sqT htold) (dats_ints _)) dats_nil))
        have act : DatAt K _ (.tup [d, .tup (c8.told.map D.int)]) (.ref p9) := (dat_tup s9 (dats_cons hd92 (dats_cons (dat_tup htold9 (dats_ints _)) dats_nil))).chg b10
        refine ⟨_, _, _, rfl, act, due, q1, q2, fun H11 c11 => ?_⟩
        have c811 : Chg [] H8 H11 := (cc9.trans b10).trans c11
        have t11 := tb (b10.trans c11) t9
        have dG11 := (dG7.chg cc8).chg c811
        have sI11 := c811.sqT (cc8.sqT sI7)
        try walk_at "w15"
        refine ⟨v, iv, G, I, lim, rfl, good.wf, hI, hlim, dG11, sI11, t11.1, t11.2, fun c12 p12 H12 cc12 hr12 hl12 hst12 => ?_⟩
        cases hr8.one hr12 hl8 hl12
        obtain ⟨q3, q4⟩ := steps_small good.wf hI hlim hr8
        refine ⟨_, _, _, rfl, hst12, (hsteps.chg c811).chg cc12, q3, q4, fun H13 c13 => ?_⟩
        have c813 := (c811.trans cc12).trans c13
        have t13 := tb (cc12.trans c13) t11
        try walk_at "w15"
        exact ⟨⟨_, G7.chg (cc8.trans c813)⟩, (dG7.chg cc8).chg c813, t13.1, t13.2⟩
      · rintro σ H3 ⟨o4, o5, o6, o7, o8, o9, k3, rfl, G4, dG3, t4⟩
        exact ⟨⟨_, _, _, _, _, _, _, _, rfl⟩, ⟨_, G4⟩, t4⟩
    · rintro σ H1 ⟨o2, o3, o4, o5, o6, o7, o8, o9, k, rfl, G2, t2⟩
      try walk_at "w15"
      exact q _
end
end Cc
set_option maxRecDepth 100000
set_option maxHeartbeats 4000000
/-! What the head says, as facts of the text. -/
namespace Cc
open PySem PySem.Spec PyProof.Rows L2
theorem fun_of {K : PySem.W.Frag} {x q : Str} {st : Stmt} {f : Addr} {fd : FuncData} (F : FunD K x q (defArgs st) (defBody st) (defScope st) [] [] f fd) : Fun K x q st f fd := by
  obtain ⟨oc, od, dV, kV, doc, pm, an, cdv, ct, osl, h1, lk, hcd, hD, hK⟩ := F.ex
  rcases hD with ⟨_, rfl⟩ | ⟨e, _⟩
  · exact ⟨⟨oc, od, kV, doc, pm, an, cdv, ct, osl, h1, lk, hcd⟩, F.kp⟩
  · exact absurd rfl e
theorem fd_of {K : PySem.W.Frag} {x q : Str} {pa : Arguments} {bo : List Stmt} {sc : Scope} {f : Addr} {fd : FuncData} (F : FunD K x q pa bo sc [] [] f fd) : ∃ oc od osl, K.lookup f = some ⟨oc, od, .func fd, osl⟩ := by
  obtain ⟨oc, od, dV, kV, doc, pm, an, cdv, ct, osl, h1, lk, _⟩ := F.ex
  exact ⟨oc, od, osl, lk⟩
theorem says_fd {K : PySem.W.Frag} (c : He.SaysD faL fnL K) (i n : Nat) {d : He.DefD} (h : fnL[i]? = some d) (hd : d.dfl = []) (hk : d.kwd = []) (ha : aOf K n = He.fAd K d.at_) : FunD K d.name d.qual d.params d.body d.scope [] [] (aOf K n) (fdOf K n) := by
  obtain ⟨fd, F⟩ := c.def_ i h
  unfold He.DefD.dvs He.DefD.kws at F
  rw [hd, hk] at F
  have F : FunD K d.name d.qual d.params d.body d.scope [] [] (He.fAd K d.at_) fd := F
  obtain ⟨oc, od, osl, lk⟩ := fd_of F
  have e : fdOf K n = fd := by
    unfold fdOf
    rw [ha, lk]
  rw [e, ha]
  exact F
theorem func_of {K : PySem.W.Frag} {x q : Str} {st : Stmt} {p : Str × Option Str} {fd : FuncData} (F : FunD K x q (defArgs st) (defBody st) (defScope st) [] [] (He.fAd K p) fd) : FunC K x q st (He.fAd K p) fd (He.codeOf K p) := by
  obtain ⟨oc, od, dV, kV, doc, pm, an, cdv, ct, osl, h1, lk, hcd, hD, hK⟩ := F.ex
  rcases hD with ⟨_, rfl⟩ | ⟨e, _⟩
  · obtain ⟨c, rfl⟩ := He.codeIn_ref hcd
    have e : He.codeOf K p = c := He.codeOf_eq lk (by rw [h1])
    rw [e]
    exact ⟨oc, od, kV, doc, pm, an, ct, osl, h1, lk, hcd⟩
  · exact absurd rfl e
theorem cls_of {K : PySem.W.Frag} {C : Addr} (h : clsFB K C = true) : ∃ nm q N bs bm sn sub ab col dd k0 k1 k2 k3 k5, K.lookup C = some (excClassObj nm q C N bs bm true sn sub ab col dd k0 k1 k2 k3 k5 "ValueError.__new__") ∧ PySem.HandSPX.refsVE bm = true ∧ PySem.W.alongIn K "__init__" ((Value.ref C :: bm).dropWhile (· != .ref C) |>.drop 1) = some (some (.builtin "ValueError.__init__")) := by
  unfold clsFB at h
  split at h
  · rename_i dd cd sl ho
    split at h
    · rename_i C' bm k0 k1 k2 k3 n k5 hm hs
      simp only [Bool.and_eq_true, beq_iff_eq, Bool.not_eq_true'] at h
      obtain ⟨⟨⟨⟨⟨rfl, rfl⟩, hdel⟩, hdc⟩, hr⟩, hal⟩ := h
      obtain ⟨nm, bs, mro, ns, qn, hd, sn, sub, ab, col, del⟩ := cd
      dsimp only at hm hdel hdc
      subst hm hdel hdc
      have hsl : sl = #[k0, k1, k2, k3, some (.builtin "ValueError.__new__"), k5] := by
        obtain ⟨l⟩ := sl
        simp only at hs
        rw [hs]
      subst hsl
      exact ⟨nm, qn, ns, bs, bm, sn, sub, ab, col, dd, k0, k1, k2, k3, k5, ho, hr, He.eqO_ok hal⟩
    · cases h
  · cases h
theorem fn_of_B {K : PySem.W.Frag} {C f : Addr} {main : Str} (h : fnFB K C f main = true) (z : fnZ K f = zVal) : ∃ (oc : Value) (od : Option Addr) (doc pm : Value) (an : Option Addr) (cda : Addr) (ct : Value) (osl : Array (Option Value)) (cc : Addr) (ccl : Value) (cdd : Option Addr) (vs : Array Value) (ccs : Array (Option Value)) (file : Str) (tf : Tok) (cl : Value) (cld : Option Addr) (csl : Array (Option Value)),
    K.lookup f = some ⟨oc, od, .func (PySem.W.ksFn "__init__" "Failure.__init__" (defArgs (mst 24 0)) (defBody (mst 24 0)) (defScope (mst 24 0)) .none .none doc pm an (.ref cda) ct cc), osl⟩ ∧ PySem.W.codeIn K (.ref cda) "Failure.__init__" = true ∧
    K.lookup cda = some ⟨ccl, cdd, .fields vs, ccs⟩ ∧ vs[2]? = some (.str file tf) ∧ (main == file) = true ∧ K.lookup cc = some ⟨cl, cld, .cell (some (.ref C)), csl⟩ := by
  unfold fnZ zVal at z
  unfold fnFB at h
  cases q : K.lookup f with
  | none => rw [q] at h; cases h
  | some o =>
    obtain ⟨oc, od, dt, osl⟩ := o
    rw [q] at h z
    cases dt with
    | func fd =>
      obtain ⟨n1, n2, n3, n4, n5, n6, n7, n8, n9, doc, pm, an, cdv, ct, n15⟩ := fd
      simp only [Option.some.injEq, Prod.mk.injEq] at z
      obtain ⟨h1, h2, h3, h4, h5, h6, h7, h8, h9, h10⟩ := z
      subst h1 h2 h3 h4 h5 h6 h8 h9 h10
      obtain ⟨c1, h⟩ := He.ba h
      obtain ⟨c2, c3⟩ := He.ba h
      dsimp only at c1 c2 c3
      cases cdv with
      | ref cda =>
        dsimp only at c2
        cases q2 : K.lookup cda with
        | none => rw [q2] at c2; cases c2
        | some o2 =>
          obtain ⟨ccl, cdd, dt2, ccs⟩ := o2
          rw [q2] at c2
          cases dt2 with
          | fields vs =>
            dsimp only at c2
            split at c2
            · rename_i file tf hv
              match n7, h7 with
              | [(y, cc)], h7 =>
                dsimp only at c3
                have hy : y = "__class__" := (List.cons.inj h7).1
                subst hy
                cases q3 : K.lookup cc with
                | none => rw [q3] at c3; cases c3
                | some o3 =>
                  obtain ⟨cl, cld, dt3, csl⟩ := o3
                  rw [q3] at c3
                  cases dt3 with
                  | cell v =>
                    cases v with
                    | some v =>
                      cases v with
                      | ref C' =>
                        have e : C' = C := beq_iff_eq.mp c3
                        subst e
                        exact ⟨oc, od, doc, pm, an, cda, ct, osl, cc, ccl, cdd, vs, ccs, file, tf, cl, cld, csl, rfl, c1, q2, hv, c2, q3⟩
                      | _ => cases c3
                    | none => cases c3
                  | _ => cases c3
            · cases c2
          | _ => cases c2
      | _ => cases c2
    | _ => cases h
end Cc
set_option maxRecDepth 100000
set_option maxHeartbeats 4000000
/-! The text's facts. -/
namespace Cc
open PySem PySem.Spec PyProof.Rows L2
abbrev ProgC : Program := (PySem.Challenge.rw_carryclaim_k11_whole_runs).prog
theorem defF_of {K : PySem.W.Frag} {mg : Str → Option Value} {nm : Str} {st : Stmt} {ps : List Str} {f : Addr} {fd : FuncData} (F : FunD K nm nm (defArgs st) (defBody st) (defScope st) [] [] f fd) (g : mg nm = some (.ref f)) (b : Binds K fd ps []) : DefF K mg nm st ps f fd := ⟨fun_of F, g, F.kp, b⟩
theorem fail_of {w : World} {h : Heap} {K : PySem.W.Frag} {base : Heap} {mg : Str → Option Value} (c : SaysY w h K) (X : K.In base) (G : base.Ns mainGlobals mg) : CgF.FailTxt ProgC K mg (aOf K 24) (aOf K 2400) := by
  have cd : He.SaysD faL fnL K := c.x.t.d
  obtain ⟨c1, c2⟩ := He.ba c.x.more
  obtain ⟨c2, c3⟩ := He.ba c2
  simp only [l1B, List.all_cons, List.all_nil, id, Bool.and_eq_true, and_true, decide_eq_true_eq] at c3
  obtain ⟨s1, s2, s3, s4, s5, s6, s7, s8, s9, s10, s11, s12, s13, s14⟩ := c3
  exact { gC := He.glo_ok X G (cd.fact 55 (f := .glo "Failure") rfl), gs := He.free_ok X G (cd.fact 71 (f := .free "super") rfl), cls := cls_of c1, sa := He.eqO_ok s1, ga := He.eqO_ok s2, gg := He.eqO_ok s3, noN := He.eqO_ok s4, iC := He.eqO_ok s5, tC := s6, kC := s7, exC := s8, exV := s9, mrC := s10, tyC := s11, hdC := s12, te := s13, tp := He.eqO_ok s14, fn := fn_of_B c2 c.z, top := by kernel_rfl }
theorem tx_of {w : World} {h : Heap} {K : PySem.W.Frag} {base : Heap} {mg : Str → Option Value} (c : SaysY w h K) (X : K.In base) (G : base.Ns mainGlobals mg) (TB : ∀ p ∈ [He.cT K ("is_plain", none), He.cT K ("statement_at", none)], LamX.TabB base mg p.1 p.2) : Tx ProgC K mg base (aOf K) (fdOf K) := by
  have cd : He.SaysD faL fnL K := c.x.t.d
  have b1 := TB _ List.mem_cons_self
  have b2 := TB _ (List.mem_cons_of_mem _ List.mem_cons_self)
  exact {
    D1 := defF_of (says_fd cd 0 1 (d := fd1) rfl rfl rfl rfl) (He.glo_ok X G (cd.fact 0 (f := .glo "procedure_of") rfl)) ((says_fd cd 0 1 (d := fd1) rfl rfl rfl rfl).bindsN fun _ _ _ _ _ _ us hl => match us, hl with | [_, _], _ => rfl),
    D2 := defF_of (says_fd cd 1 2 (d := fd2) rfl rfl rfl rfl) (He.glo_ok X G (cd.fact 1 (f := .glo "blocks_of") rfl)) ((says_fd cd 1 2 (d := fd2) rfl rfl rfl rfl).bindsN fun _ _ _ _ _ _ us hl => match us, hl with | [_], _ => rfl),
    D3 := defF_of (says_fd cd 2 3 (d := fd3) rfl rfl rfl rfl) (He.glo_ok X G (cd.fact 2 (f := .glo "all_statements") rfl)) ((says_fd cd 2 3 (d := fd3) rfl rfl rfl rfl).bindsN fun _ _ _ _ _ _ us hl => match us, hl with | [_], _ => rfl),
    D4 := defF_of (says_fd cd 3 4 (d := fd4) rfl rfl rfl rfl) (He.glo_ok X G (cd.fact 3 (f := .glo "target_of") rfl)) ((says_fd cd 3 4 (d := fd4) rfl rfl rfl rfl).bindsN fun _ _ _ _ _ _ us hl => match us, hl with | [_], _ => rfl),
    D5 := defF_of (says_fd cd 4 5 (d := fd5) rfl rfl rfl rfl) (He.glo_ok X G (cd.fact 4 (f := .glo "parameters") rfl)) ((says_fd cd 4 5 (d := fd5) rfl rfl rfl rfl).bindsN fun _ _ _ _ _ _ us hl => match us, hl with | [_, _], _ => rfl),
    D6 := defF_of (says_fd cd 5 6 (d := fd6) rfl rfl rfl rfl) (He.glo_ok X G (cd.fact 5 (f := .glo "local_names") rfl)) ((says_fd cd 5 6 (d := fd6) rfl rfl rfl rfl).bindsN fun _ _ _ _ _ _ us hl => match us, hl with | [_, _], _ => rfl),
    D7 := defF_of (says_fd cd 6 7 (d := fd7) rfl rfl rfl rfl) (He.glo_ok X G (cd.fact 6 (f := .glo "locals_of") rfl)) ((says_fd cd 6 7 (d := fd7) rfl rfl rfl rfl).bindsN fun _ _ _ _ _ _ us hl => match us, hl with | [_, _, _], _ => rfl),
    D8 := defF_of (says_fd cd 7 8 (d := fd8) rfl rfl rfl rfl) (He.glo_ok X G (cd.fact 7 (f := .glo "variables") rfl)) ((says_fd cd 7 8 (d := fd8) rfl rfl rfl rfl).bindsN fun _ _ _ _ _ _ us hl => match us, hl with | [_, _], _ => rfl),
    D11 := defF_of (says_fd cd 8 11 (d := fd11) rfl rfl rfl rfl) (He.glo_ok X G (cd.fact 8 (f := .glo "path_text") rfl)) ((says_fd cd 8 11 (d := fd11) rfl rfl rfl rfl).bindsN fun _ _ _ _ _ _ us hl => match us, hl with | [_], _ => rfl),
    D12 := defF_of (says_fd cd 9 12 (d := fd12) rfl rfl rfl rfl) (He.glo_ok X G (cd.fact 9 (f := .glo "path_of") rfl)) ((says_fd cd 9 12 (d := fd12) rfl rfl rfl rfl).bindsN fun _ _ _ _ _ _ us hl => match us, hl with | [_], _ => rfl),
    D13 := defF_of (says_fd cd 10 13 (d := fd13) rfl rfl rfl rfl) (He.glo_ok X G (cd.fact 10 (f := .glo "block_at") rfl)) ((says_fd cd 10 13 (d := fd13) rfl rfl rfl rfl).bindsN fun _ _ _ _ _ _ us hl => match us, hl with | [_, _, _], _ => rfl),
    D14 := defF_of (says_fd cd 11 14 (d := fd14) rfl rfl rfl rfl) (He.glo_ok X G (cd.fact 11 (f := .glo "statement_by_path") rfl)) ((says_fd cd 11 14 (d := fd14) rfl rfl rfl rfl).bindsN fun _ _ _ _ _ _ us hl => match us, hl with | [_, _, _], _ => rfl),
    D15 := defF_of (says_fd cd 12 15 (d := fd15) rfl rfl rfl rfl) (He.glo_ok X G (cd.fact 12 (f := .glo "is_plain") rfl)) ((says_fd cd 12 15 (d := fd15) rfl rfl rfl rfl).bindsN fun _ _ _ _ _ _ us hl => match us, hl with | [_], _ => rfl),
    D16 := defF_of (says_fd cd 13 16 (d := fd16) rfl rfl rfl rfl) (He.glo_ok X G (cd.fact 13 (f := .glo "statement_at") rfl)) ((says_fd cd 13 16 (d := fd16) rfl rfl rfl rfl).bindsN fun _ _ _ _ _ _ us hl => match us, hl with | [_, _, _], _ => rfl),
    D17 := defF_of (says_fd cd 14 17 (d := fd17) rfl rfl rfl rfl) (He.glo_ok X G (cd.fact 14 (f := .glo "first_place") rfl)) ((says_fd cd 14 17 (d := fd17) rfl rfl rfl rfl).bindsN fun _ _ _ _ _ _ us hl => match us, hl with | [_, _], _ => rfl),
    D18 := defF_of (says_fd cd 15 18 (d := fd18) rfl rfl rfl rfl) (He.glo_ok X G (cd.fact 15 (f := .glo "next_place") rfl)) ((says_fd cd 15 18 (d := fd18) rfl rfl rfl rfl).bindsN fun _ _ _ _ _ _ us hl => match us, hl with | [_, _, _], _ => rfl),
    D19 := defF_of (says_fd cd 16 19 (d := fd19) rfl rfl rfl rfl) (He.glo_ok X G (cd.fact 16 (f := .glo "next_of_path") rfl)) ((says_fd cd 16 19 (d := fd19) rfl rfl rfl rfl).bindsN fun _ _ _ _ _ _ us hl => match us, hl with | [_, _, _], _ => rfl),
    D20 := defF_of (says_fd cd 17 20 (d := fd20) rfl rfl rfl rfl) (He.glo_ok X G (cd.fact 17 (f := .glo "block_place") rfl)) ((says_fd cd 17 20 (d := fd20) rfl rfl rfl rfl).bindsN fun _ _ _ _ _ _ us hl => match us, hl with | [_, _, _, _], _ => rfl),
    D27 := defF_of (says_fd cd 18 27 (d := fd27) rfl rfl rfl rfl) (He.glo_ok X G (cd.fact 18 (f := .glo "operate") rfl)) ((says_fd cd 18 27 (d := fd27) rfl rfl rfl rfl).bindsN fun _ _ _ _ _ _ us hl => match us, hl with | [_, _, _], _ => rfl),
    D28 := defF_of (says_fd cd 19 28 (d := fd28) rfl rfl rfl rfl) (He.glo_ok X G (cd.fact 19 (f := .glo "compare") rfl)) ((says_fd cd 19 28 (d := fd28) rfl rfl rfl rfl).bindsN fun _ _ _ _ _ _ us hl => match us, hl with | [_, _, _], _ => rfl),
    D29 := defF_of (says_fd cd 20 29 (d := fd29) rfl rfl rfl rfl) (He.glo_ok X G (cd.fact 20 (f := .glo "full_run") rfl)) ((says_fd cd 20 29 (d := fd29) rfl rfl rfl rfl).bindsN fun _ _ _ _ _ _ us hl => match us, hl with | [_, _, _], _ => rfl),
    D30 := defF_of (says_fd cd 21 30 (d := fd30) rfl rfl rfl rfl) (He.glo_ok X G (cd.fact 21 (f := .glo "run") rfl)) ((says_fd cd 21 30 (d := fd30) rfl rfl rfl rfl).bindsN fun _ _ _ _ _ _ us hl => match us, hl with | [_, _, _], _ => rfl),
    D31 := defF_of (says_fd cd 22 31 (d := fd31) rfl rfl rfl rfl) (He.glo_ok X G (cd.fact 22 (f := .glo "trace") rfl)) ((says_fd cd 22 31 (d := fd31) rfl rfl rfl rfl).bindsN fun _ _ _ _ _ _ us hl => match us, hl with | [_, _, _], _ => rfl),
    D33 := defF_of (says_fd cd 23 33 (d := fd33) rfl rfl rfl rfl) (He.glo_ok X G (cd.fact 23 (f := .glo "_law_next") rfl)) ((says_fd cd 23 33 (d := fd33) rfl rfl rfl rfl).bindsN fun _ _ _ _ _ _ us hl => match us, hl with | [_, _, _], _ => rfl),
    D34 := defF_of (says_fd cd 24 34 (d := fd34) rfl rfl rfl rfl) (He.glo_ok X G (cd.fact 24 (f := .glo "_law_same") rfl)) ((says_fd cd 24 34 (d := fd34) rfl rfl rfl rfl).bindsN fun _ _ _ _ _ _ us hl => match us, hl with | [_, _], _ => rfl),
    D35 := defF_of (says_fd cd 25 35 (d := fd35) rfl rfl rfl rfl) (He.glo_ok X G (cd.fact 25 (f := .glo "_law_number") rfl)) ((says_fd cd 25 35 (d := fd35) rfl rfl rfl rfl).bindsN fun _ _ _ _ _ _ us hl => match us, hl with | [_, _], _ => rfl),
    D36 := defF_of (says_fd cd 26 36 (d := fd36) rfl rfl rfl rfl) (He.glo_ok X G (cd.fact 26 (f := .glo "_law_expression") rfl)) ((says_fd cd 26 36 (d := fd36) rfl rfl rfl rfl).bindsN fun _ _ _ _ _ _ us hl => match us, hl with | [_, _, _, _], _ => rfl),
    D37 := defF_of (says_fd cd 27 37 (d := fd37) rfl rfl rfl rfl) (He.glo_ok X G (cd.fact 27 (f := .glo "_law_comparison") rfl)) ((says_fd cd 27 37 (d := fd37) rfl rfl rfl rfl).bindsN fun _ _ _ _ _ _ us hl => match us, hl with | [_, _, _], _ => rfl),
    D38 := defF_of (says_fd cd 28 38 (d := fd38) rfl rfl rfl rfl) (He.glo_ok X G (cd.fact 28 (f := .glo "_law_condition") rfl)) ((says_fd cd 28 38 (d := fd38) rfl rfl rfl rfl).bindsN fun _ _ _ _ _ _ us hl => match us, hl with | [_, _, _], _ => rfl),
    D39 := defF_of (says_fd cd 29 39 (d := fd39) rfl rfl rfl rfl) (He.glo_ok X G (cd.fact 29 (f := .glo "_law_counting") rfl)) ((says_fd cd 29 39 (d := fd39) rfl rfl rfl rfl).bindsN fun _ _ _ _ _ _ us hl => match us, hl with | [_, _, _, _], _ => rfl),
    D40 := defF_of (says_fd cd 30 40 (d := fd40) rfl rfl rfl rfl) (He.glo_ok X G (cd.fact 30 (f := .glo "_law_statement") rfl)) ((says_fd cd 30 40 (d := fd40) rfl rfl rfl rfl).bindsN fun _ _ _ _ _ _ us hl => match us, hl with | [_, _, _, _], _ => rfl),
    D41 := defF_of (says_fd cd 31 41 (d := fd41) rfl rfl rfl rfl) (He.glo_ok X G (cd.fact 31 (f := .glo "_law_block") rfl)) ((says_fd cd 31 41 (d := fd41) rfl rfl rfl rfl).bindsN fun _ _ _ _ _ _ us hl => match us, hl with | [_, _, _, _], _ => rfl),
    D42 := defF_of (says_fd cd 32 42 (d := fd42) rfl rfl rfl rfl) (He.glo_ok X G (cd.fact 32 (f := .glo "_law_procedure") rfl)) ((says_fd cd 32 42 (d := fd42) rfl rfl rfl rfl).bindsN fun _ _ _ _ _ _ us hl => match us, hl with | [_, _, _, _, _], _ => rfl),
    D43 := defF_of (says_fd cd 33 43 (d := fd43) rfl rfl rfl rfl) (He.glo_ok X G (cd.fact 33 (f := .glo "_law_program") rfl)) ((says_fd cd 33 43 (d := fd43) rfl rfl rfl rfl).bindsN fun _ _ _ _ _ _ us hl => match us, hl with | [_, _], _ => rfl),
    D44 := defF_of (says_fd cd 34 44 (d := fd44) rfl rfl rfl rfl) (He.glo_ok X G (cd.fact 34 (f := .glo "_law_blocks") rfl)) ((says_fd cd 34 44 (d := fd44) rfl rfl rfl rfl).bindsN fun _ _ _ _ _ _ us hl => match us, hl with | [_], _ => rfl),
    D45 := defF_of (says_fd cd 35 45 (d := fd45) rfl rfl rfl rfl) (He.glo_ok X G (cd.fact 35 (f := .glo "_law_all") rfl)) ((says_fd cd 35 45 (d := fd45) rfl rfl rfl rfl).bindsN fun _ _ _ _ _ _ us hl => match us, hl with | [_], _ => rfl),
    D46 := defF_of (says_fd cd 36 46 (d := fd46) rfl rfl rfl rfl) (He.glo_ok X G (cd.fact 36 (f := .glo "_law_targets") rfl)) ((says_fd cd 36 46 (d := fd46) rfl rfl rfl rfl).bindsN fun _ _ _ _ _ _ us hl => match us, hl with | [_], _ => rfl),
    D47 := defF_of (says_fd cd 37 47 (d := fd47) rfl rfl rfl rfl) (He.glo_ok X G (cd.fact 37 (f := .glo "_law_locals") rfl)) ((says_fd cd 37 47 (d := fd47) rfl rfl rfl rfl).bindsN fun _ _ _ _ _ _ us hl => match us, hl with | [_, _], _ => rfl),
    D48 := defF_of (says_fd cd 38 48 (d := fd48) rfl rfl rfl rfl) (He.glo_ok X G (cd.fact 38 (f := .glo "_law_inputs") rfl)) ((says_fd cd 38 48 (d := fd48) rfl rfl rfl rfl).bindsN fun _ _ _ _ _ _ us hl => match us, hl with | [_, _], _ => rfl),
    D49 := defF_of (says_fd cd 39 49 (d := fd49) rfl rfl rfl rfl) (He.glo_ok X G (cd.fact 39 (f := .glo "_law_operate") rfl)) ((says_fd cd 39 49 (d := fd49) rfl rfl rfl rfl).bindsN fun _ _ _ _ _ _ us hl => match us, hl with | [_, _, _], _ => rfl),
    D50 := defF_of (says_fd cd 40 50 (d := fd50) rfl rfl rfl rfl) (He.glo_ok X G (cd.fact 40 (f := .glo "_law_value") rfl)) ((says_fd cd 40 50 (d := fd50) rfl rfl rfl rfl).bindsN fun _ _ _ _ _ _ us hl => match us, hl with | [_, _], _ => rfl),
    D51 := defF_of (says_fd cd 41 51 (d := fd51) rfl rfl rfl rfl) (He.glo_ok X G (cd.fact 41 (f := .glo "_law_compare") rfl)) ((says_fd cd 41 51 (d := fd51) rfl rfl rfl rfl).bindsN fun _ _ _ _ _ _ us hl => match us, hl with | [_, _, _], _ => rfl),
    D52 := defF_of (says_fd cd 42 52 (d := fd52) rfl rfl rfl rfl) (He.glo_ok X G (cd.fact 42 (f := .glo "_law_truth") rfl)) ((says_fd cd 42 52 (d := fd52) rfl rfl rfl rfl).bindsN fun _ _ _ _ _ _ us hl => match us, hl with | [_, _], _ => rfl),
    D53 := defF_of (says_fd cd 43 53 (d := fd53) rfl rfl rfl rfl) (He.glo_ok X G (cd.fact 43 (f := .glo "_law_known") rfl)) ((says_fd cd 43 53 (d := fd53) rfl rfl rfl rfl).bindsN fun _ _ _ _ _ _ us hl => match us, hl with | [_, _], _ => rfl),
    D54 := defF_of (says_fd cd 44 54 (d := fd54) rfl rfl rfl rfl) (He.glo_ok X G (cd.fact 44 (f := .glo "_law_store") rfl)) ((says_fd cd 44 54 (d := fd54) rfl rfl rfl rfl).bindsN fun _ _ _ _ _ _ us hl => match us, hl with | [_, _, _, _], _ => rfl),
    D55 := defF_of (says_fd cd 45 55 (d := fd55) rfl rfl rfl rfl) (He.glo_ok X G (cd.fact 45 (f := .glo "_law_tick") rfl)) ((says_fd cd 45 55 (d := fd55) rfl rfl rfl rfl).bindsN fun _ _ _ _ _ _ us hl => match us, hl with | [_, _, _, _], _ => rfl),
    D56 := defF_of (says_fd cd 46 56 (d := fd56) rfl rfl rfl rfl) (He.glo_ok X G (cd.fact 46 (f := .glo "_law_fails") rfl)) ((says_fd cd 46 56 (d := fd56) rfl rfl rfl rfl).bindsN fun _ _ _ _ _ _ us hl => match us, hl with | [_, _, _, _], _ => rfl),
    D57 := defF_of (says_fd cd 47 57 (d := fd57) rfl rfl rfl rfl) (He.glo_ok X G (cd.fact 47 (f := .glo "_law_block_run") rfl)) ((says_fd cd 47 57 (d := fd57) rfl rfl rfl rfl).bindsN fun _ _ _ _ _ _ us hl => match us, hl with | [_, _, _, _, _], _ => rfl),
    D58 := defF_of (says_fd cd 48 58 (d := fd58) rfl rfl rfl rfl) (He.glo_ok X G (cd.fact 48 (f := .glo "_law_branch_run") rfl)) ((says_fd cd 48 58 (d := fd58) rfl rfl rfl rfl).bindsN fun _ _ _ _ _ _ us hl => match us, hl with | [_, _, _, _, _], _ => rfl),
    D59 := defF_of (says_fd cd 49 59 (d := fd59) rfl rfl rfl rfl) (He.glo_ok X G (cd.fact 49 (f := .glo "_law_call_run") rfl)) ((says_fd cd 49 59 (d := fd59) rfl rfl rfl rfl).bindsN fun _ _ _ _ _ _ us hl => match us, hl with | [_, _, _, _, _], _ => rfl),
    D60 := defF_of (says_fd cd 50 60 (d := fd60) rfl rfl rfl rfl) (He.glo_ok X G (cd.fact 50 (f := .glo "_law_procedure_run") rfl)) ((says_fd cd 50 60 (d := fd60) rfl rfl rfl rfl).bindsN fun _ _ _ _ _ _ us hl => match us, hl with | [_, _, _], _ => rfl),
    D61 := defF_of (says_fd cd 51 61 (d := fd61) rfl rfl rfl rfl) (He.glo_ok X G (cd.fact 51 (f := .glo "_law_statement_run") rfl)) ((says_fd cd 51 61 (d := fd61) rfl rfl rfl rfl).bindsN fun _ _ _ _ _ _ us hl => match us, hl with | [_, _, _, _, _], _ => rfl),
    D62 := defF_of (says_fd cd 52 62 (d := fd62) rfl rfl rfl rfl) (He.glo_ok X G (cd.fact 52 (f := .glo "_law_plain_run") rfl)) ((says_fd cd 52 62 (d := fd62) rfl rfl rfl rfl).bindsN fun _ _ _ _ _ _ us hl => match us, hl with | [_, _, _, _, _], _ => rfl),
    D63 := defF_of (says_fd cd 53 63 (d := fd63) rfl rfl rfl rfl) (He.glo_ok X G (cd.fact 53 (f := .glo "_law_run") rfl)) ((says_fd cd 53 63 (d := fd63) rfl rfl rfl rfl).bindsN fun _ _ _ _ _ _ us hl => match us, hl with | [_, _, _], _ => rfl),
    D64 := defF_of (says_fd cd 54 64 (d := fd64) rfl rfl rfl rfl) (He.glo_ok X G (cd.fact 54 (f := .glo "law") rfl)) ((says_fd cd 54 64 (d := fd64) rfl rfl rfl rfl).bindsN fun _ _ _ _ _ _ us hl => match us, hl with | [_], _ => rfl),
    C15 := func_of (p := ("is_plain", none)) (says_fd cd 12 15 (d := fd15) rfl rfl rfl rfl),
    C16 := func_of (p := ("statement_at", none)) (says_fd cd 13 16 (d := fd16) rfl rfl rfl rfl),
    B15 := ⟨b1.code, b1.bm, b1.gP⟩,
    B16 := ⟨b2.code, b2.bm, b2.gP⟩,
    n_len := He.free_ok X G (cd.fact 58 (f := .free "len") rfl),
    n_int := He.free_ok X G (cd.fact 59 (f := .free "int") rfl),
    n_abs := He.free_ok X G (cd.fact 60 (f := .free "abs") rfl),
    n_str := He.free_ok X G (cd.fact 61 (f := .free "str") rfl),
    n_tuple := He.free_ok X G (cd.fact 62 (f := .free "tuple") rfl),
    n_list := He.free_ok X G (cd.fact 63 (f := .free "list") rfl),
    n_dict := He.free_ok X G (cd.fact 64 (f := .free "dict") rfl),
    n_zip := He.free_ok X G (cd.fact 65 (f := .free "zip") rfl),
    n_sorted := He.free_ok X G (cd.fact 66 (f := .free "sorted") rfl),
    n_isinstance := He.free_ok X G (cd.fact 67 (f := .free "isinstance") rfl),
    n_range := He.free_ok X G (cd.fact 68 (f := .free "range") rfl),
    n_all := He.free_ok X G (cd.fact 69 (f := .free "all") rfl),
    n_bool := He.free_ok X G (cd.fact 70 (f := .free "bool") rfl),
    n_super := He.free_ok X G (cd.fact 71 (f := .free "super") rfl),
    cDIGITS := He.str_ok X G (cd.fact 72 (f := .str "DIGITS" "0123456789") rfl),
    cLARGEST := He.int_ok X G (cd.fact 73 (f := .int "LARGEST" 10000) rfl),
    cMOST_CALLS := He.int_ok X G (cd.fact 74 (f := .int "MOST_CALLS" 12) rfl),
    fail := fail_of c X G,
    gFrame := He.glo_ok X G (cd.fact 56 (f := .glo "Frame") rfl),
    mkFrame := He.mkr_ok (cd.fact 75 (f := .mkr "Frame") rfl),
    clFrame := He.cls_ok (cd.fact 76 (f := .cls "Frame") rfl),
    F2500 := fun_of (says_fd cd 55 2500 (d := fd2500) rfl rfl rfl rfl),
    b2500 := ((says_fd cd 55 2500 (d := fd2500) rfl rfl rfl rfl).bindsN fun _ _ _ _ _ _ us hl => match us, hl with | [_, _, _, _, _], _ => rfl),
    gRun := He.glo_ok X G (cd.fact 57 (f := .glo "Run") rfl),
    mkRun := He.mkr_ok (cd.fact 77 (f := .mkr "Run") rfl),
    clRun := He.cls_ok (cd.fact 78 (f := .cls "Run") rfl),
    F2600 := fun_of (says_fd cd 56 2600 (d := fd2600) rfl rfl rfl rfl),
    b2600 := ((says_fd cd 56 2600 (d := fd2600) rfl rfl rfl rfl).bindsN fun _ _ _ _ _ _ us hl => match us, hl with | [_, _, _], _ => rfl),
    F2601 := fun_of (says_fd cd 57 2601 (d := fd2601) rfl rfl rfl rfl),
    b2601 := ((says_fd cd 57 2601 (d := fd2601) rfl rfl rfl rfl).bindsN fun _ _ _ _ _ _ us hl => match us, hl with | [_, _, _, _], _ => rfl),
    M1 := He.meth_ok (cd.fact 79 (f := .meth "Run" "frame") rfl),
    bM1 := ((says_fd cd 57 2601 (d := fd2601) rfl rfl rfl rfl).bindsN fun _ _ _ _ _ _ us hl => match us, hl with | [_, _, _, _], _ => rfl),
    F2602 := fun_of (says_fd cd 58 2602 (d := fd2602) rfl rfl rfl rfl),
    b2602 := ((says_fd cd 58 2602 (d := fd2602) rfl rfl rfl rfl).bindsN fun _ _ _ _ _ _ us hl => match us, hl with | [_, _], _ => rfl),
    M2 := He.meth_ok (cd.fact 80 (f := .meth "Run" "value") rfl),
    bM2 := ((says_fd cd 58 2602 (d := fd2602) rfl rfl rfl rfl).bindsN fun _ _ _ _ _ _ us hl => match us, hl with | [_, _], _ => rfl),
    F2603 := fun_of (says_fd cd 59 2603 (d := fd2603) rfl rfl rfl rfl),
    b2603 := ((says_fd cd 59 2603 (d := fd2603) rfl rfl rfl rfl).bindsN fun _ _ _ _ _ _ us hl => match us, hl with | [_, _, _], _ => rfl),
    M3 := He.meth_ok (cd.fact 81 (f := .meth "Run" "store") rfl),
    bM3 := ((says_fd cd 59 2603 (d := fd2603) rfl rfl rfl rfl).bindsN fun _ _ _ _ _ _ us hl => match us, hl with | [_, _, _], _ => rfl),
    F2604 := fun_of (says_fd cd 60 2604 (d := fd2604) rfl rfl rfl rfl),
    b2604 := ((says_fd cd 60 2604 (d := fd2604) rfl rfl rfl rfl).bindsN fun _ _ _ _ _ _ us hl => match us, hl with | [_], _ => rfl),
    M4 := He.meth_ok (cd.fact 82 (f := .meth "Run" "keep_step") rfl),
    bM4 := ((says_fd cd 60 2604 (d := fd2604) rfl rfl rfl rfl).bindsN fun _ _ _ _ _ _ us hl => match us, hl with | [_], _ => rfl),
    F2605 := fun_of (says_fd cd 61 2605 (d := fd2605) rfl rfl rfl rfl),
    b2605 := ((says_fd cd 61 2605 (d := fd2605) rfl rfl rfl rfl).bindsN fun _ _ _ _ _ _ us hl => match us, hl with | [_, _], _ => rfl),
    M5 := He.meth_ok (cd.fact 83 (f := .meth "Run" "leave") rfl),
    bM5 := ((says_fd cd 61 2605 (d := fd2605) rfl rfl rfl rfl).bindsN fun _ _ _ _ _ _ us hl => match us, hl with | [_, _], _ => rfl),
    F2606 := fun_of (says_fd cd 62 2606 (d := fd2606) rfl rfl rfl rfl),
    b2606 := ((says_fd cd 62 2606 (d := fd2606) rfl rfl rfl rfl).bindsN fun _ _ _ _ _ _ us hl => match us, hl with | [_], _ => rfl),
    M6 := He.meth_ok (cd.fact 84 (f := .meth "Run" "leave_ended") rfl),
    bM6 := ((says_fd cd 62 2606 (d := fd2606) rfl rfl rfl rfl).bindsN fun _ _ _ _ _ _ us hl => match us, hl with | [_], _ => rfl),
    F2607 := fun_of (says_fd cd 63 2607 (d := fd2607) rfl rfl rfl rfl),
    b2607 := ((says_fd cd 63 2607 (d := fd2607) rfl rfl rfl rfl).bindsN fun _ _ _ _ _ _ us hl => match us, hl with | [_], _ => rfl),
    M7 := He.meth_ok (cd.fact 85 (f := .meth "Run" "step") rfl),
    bM7 := ((says_fd cd 63 2607 (d := fd2607) rfl rfl rfl rfl).bindsN fun _ _ _ _ _ _ us hl => match us, hl with | [_], _ => rfl),
    F2608 := fun_of (says_fd cd 64 2608 (d := fd2608) rfl rfl rfl rfl),
    b2608 := ((says_fd cd 64 2608 (d := fd2608) rfl rfl rfl rfl).bindsN fun _ _ _ _ _ _ us hl => match us, hl with | [_, _, _], _ => rfl),
    M8 := He.meth_ok (cd.fact 86 (f := .meth "Run" "execute") rfl),
    bM8 := ((says_fd cd 64 2608 (d := fd2608) rfl rfl rfl rfl).bindsN fun _ _ _ _ _ _ us hl => match us, hl with | [_, _, _], _ => rfl),
    F2609 := fun_of (says_fd cd 65 2609 (d := fd2609) rfl rfl rfl rfl),
    b2609 := ((says_fd cd 65 2609 (d := fd2609) rfl rfl rfl rfl).bindsN fun _ _ _ _ _ _ us hl => match us, hl with | [_, _, _], _ => rfl),
    M9 := He.meth_ok (cd.fact 87 (f := .meth "Run" "simple") rfl),
    bM9 := ((says_fd cd 65 2609 (d := fd2609) rfl rfl rfl rfl).bindsN fun _ _ _ _ _ _ us hl => match us, hl with | [_, _, _], _ => rfl),
    F2610 := fun_of (says_fd cd 66 2610 (d := fd2610) rfl rfl rfl rfl),
    b2610 := ((says_fd cd 66 2610 (d := fd2610) rfl rfl rfl rfl).bindsN fun _ _ _ _ _ _ us hl => match us, hl with | [_, _, _], _ => rfl),
    M10 := He.meth_ok (cd.fact 88 (f := .meth "Run" "branch") rfl),
    bM10 := ((says_fd cd 66 2610 (d := fd2610) rfl rfl rfl rfl).bindsN fun _ _ _ _ _ _ us hl => match us, hl with | [_, _, _], _ => rfl),
    F2611 := fun_of (says_fd cd 67 2611 (d := fd2611) rfl rfl rfl rfl),
    b2611 := ((says_fd cd 67 2611 (d := fd2611) rfl rfl rfl rfl).bindsN fun _ _ _ _ _ _ us hl => match us, hl with | [_, _], _ => rfl),
    M11 := He.meth_ok (cd.fact 89 (f := .meth "Run" "call") rfl),
    bM11 := ((says_fd cd 67 2611 (d := fd2611) rfl rfl rfl rfl).bindsN fun _ _ _ _ _ _ us hl => match us, hl with | [_, _], _ => rfl),
    F2612 := fun_of (says_fd cd 68 2612 (d := fd2612) rfl rfl rfl rfl),
    b2612 := ((says_fd cd 68 2612 (d := fd2612) rfl rfl rfl rfl).bindsN fun _ _ _ _ _ _ us hl => match us, hl with | [_, _], _ => rfl),
    M12 := He.meth_ok (cd.fact 90 (f := .meth "Run" "result") rfl),
    bM12 := ((says_fd cd 68 2612 (d := fd2612) rfl rfl rfl rfl).bindsN fun _ _ _ _ _ _ us hl => match us, hl with | [_, _], _ => rfl),
    F2613 := fun_of (says_fd cd 69 2613 (d := fd2613) rfl rfl rfl rfl),
    b2613 := ((says_fd cd 69 2613 (d := fd2613) rfl rfl rfl rfl).bindsN fun _ _ _ _ _ _ us hl => match us, hl with | [_, _], _ => rfl),
    M13 := He.meth_ok (cd.fact 91 (f := .meth "Run" "holds") rfl),
    bM13 := ((says_fd cd 69 2613 (d := fd2613) rfl rfl rfl rfl).bindsN fun _ _ _ _ _ _ us hl => match us, hl with | [_, _], _ => rfl),
    nf_name := He.noat_ok (cd.fact 92 (f := .noat "Frame" "name") rfl),
    nf_place := He.noat_ok (cd.fact 93 (f := .noat "Frame" "place") rfl),
    nf_kept := He.noat_ok (cd.fact 94 (f := .noat "Frame" "kept") rfl),
    nf_target := He.noat_ok (cd.fact 95 (f := .noat "Frame" "target") rfl),
    nr_program := He.noat_ok (cd.fact 96 (f := .noat "Run" "program") rfl),
    nr_inputs := He.noat_ok (cd.fact 97 (f := .noat "Run" "inputs") rfl),
    nr_names := He.noat_ok (cd.fact 98 (f := .noat "Run" "names") rfl),
    nr_used := He.noat_ok (cd.fact 99 (f := .noat "Run" "used") rfl),
    nr_told := He.noat_ok (cd.fact 100 (f := .noat "Run" "told") rfl),
    nr_steps := He.noat_ok (cd.fact 101 (f := .noat "Run" "steps") rfl),
    nr_shared := He.noat_ok (cd.fact 102 (f := .noat "Run" "shared") rfl),
    nr_frames := He.noat_ok (cd.fact 103 (f := .noat "Run" "frames") rfl),
    nr_ending := He.noat_ok (cd.fact 104 (f := .noat "Run" "ending") rfl) }
end Cc
set_option maxRecDepth 100000
set_option maxHeartbeats 0
/-! The law's call, the end. -/
namespace Cc
open PySem PySem.Spec PyProof.Rows L2
theorem law_at (w : World) (mg : Str → Option Value) (fa : Addr) (h : Heap) (Y : hookY.says w h) (G : h.Ns mainGlobals mg) (hm : mg ("law" : Str) = some (.ref fa)) : ∃ K : PySem.W.Frag, K.In h ∧ LamX.LawAtS PySem.Challenge.rw_carryclaim_k11_whole_runs w K CX0 189 63 "_law_script" mg fa h := by
  obtain ⟨K, X, c⟩ := Y
  have cd : He.SaysD faL fnL K := c.x.t.d
  have e := hm.symm.trans (He.glo_ok X G (cd.fact 54 (f := .glo "law") rfl))
  cases e
  refine ⟨K, X, fdOf K 64, [He.cT K ("is_plain", none), He.cT K ("statement_at", none)], sp64 K (aOf K), fun p hp => ?_, fun p hp => ?_, fun p hp => ?_, fun s u => ?_, fun H a ns hl _ ht hs => ?_, fun base Xb Gb TB => ok64 (tx_of c Xb Gb TB)⟩
  · simp only [List.mem_cons, List.not_mem_nil, or_false] at hp
    rcases hp with rfl | rfl
    · exact c.x.empty ("is_plain", none) (by simp [tfL])
    · exact c.x.empty ("statement_at", none) (by simp [tfL])
  · simp only [List.mem_cons, List.not_mem_nil, or_false] at hp
    rcases hp with rfl | rfl
    · exact c.x.out ("is_plain", none) (by simp [tfL])
    · exact c.x.out ("statement_at", none) (by simp [tfL])
  · simp only [List.mem_cons, List.not_mem_nil, or_false] at hp
    rcases hp with rfl | rfl
    · exact PySem.W.codeHd_of_K X (c.x.hd ("is_plain", none) (by simp [tfL]))
    · exact PySem.W.codeHd_of_K X (c.x.hd ("statement_at", none) (by simp [tfL]))
  · exact FunD.bindsA (ps := ["_law_script"]) (says_fd cd 54 64 (d := fd64) rfl rfl rfl rfl) (fun _ _ _ _ _ _ us hl => match us, hl with | [_], _ => rfl) s [u] rfl
  · exact ⟨a, ns, rfl, hs, ⟨#[], ht _ List.mem_cons_self, trivial⟩, ⟨#[], ht _ (List.mem_cons_of_mem _ List.mem_cons_self), trivial⟩, fun _ => rfl⟩
end Cc
open PySem PySem.W PySem.Calls PyProof.Rows
theorem PySem.Challenge.cw_carryclaim_k11_whole_runs_holds : PySem.Challenge.rw_carryclaim_k11_whole_runs.Holds := by
  w_on; o_law
  refine HandSHeadRun.head_any (r := Cc.RowC) (q := view Cc.RowC.prog [64]) (H := Cc.hookY) (ob := Cc.obC) (M := 6000) (loose := Cc.looseL) (d := HandSHeadRun.topDef Cc.RowC.prog 64) (kwd := []) Cc.obC_eq
    (by kernel_rfl) (fun s => by kernel_rfl) Cc.headRun (by kernel_rfl) (by kernel_rfl) (by kernel_rfl) (by rfl) (by first | assumption | decide +kernel) (by decide +kernel) ⟨rfl, rfl, rfl, rfl, rfl, by decide +kernel⟩ ?hw ?hc
  case hw => w_witness2
  case hc =>
    refine LamX.walk_ofTsE (l := PySem.Challenge.rw_carryclaim_k11_whole_runs) (n := 63) (k := 189) (x := "_law_script") (CX := fun _ => L2.CX0) rfl (by decide) (by kernel_rfl) ⟨rfl, by decide, by decide⟩ ?F (fun _ _ _ _ _ z => z)
    intro w mg fa h Y G hmg0
    have hmg : mg ("law" : PySem.Str) = some (.ref fa) := by
      have e : (HandSHeadRun.topDef Cc.RowC.prog 64).name = ("law" : PySem.Str) := by kernel_rfl
      rw [← e]
      exact hmg0
    exact Cc.law_at w mg fa h Y G hmg
