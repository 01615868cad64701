/- What functions of the program return, each for every input that its theorem names. -/
import Derived.Test.YtagdholenfkeaaaA3
import Derived.Test.YtagdholenfkeaaaProg
import Derived.IntWalk
set_option linter.unusedVariables false
set_option linter.unusedSimpArgs false
/- The program's types as the ghost operations ask for them. -/
namespace Go.Proofs.Ytagdholenfkeaaa
open Go.Gh
set_option maxRecDepth 100000
theorem ti_1 : ti Try.prog 1 = some ⟨.func #[] #[] false, 1, 8, [.p .nilfn], false⟩ := by kernel_rfl
theorem ti_3 : ti Try.prog 3 = some ⟨.int .i64, 1, 8, [.p (.int .i64 0)], false⟩ := by kernel_rfl
theorem ti_4 : ti Try.prog 4 = some ⟨.bool, 1, 1, [.p (.bool false)], false⟩ := by kernel_rfl
theorem ti_5 : ti Try.prog 5 = some ⟨.int .u8, 1, 1, [.p (.int .u8 0)], false⟩ := by kernel_rfl
theorem ti_9 : ti Try.prog 9 = some ⟨.string, 1, 16, [.p (.str [])], false⟩ := by kernel_rfl
theorem ti_20 : ti Try.prog 20 = some ⟨.interface #[], 1, 16, [.p .niliface], false⟩ := by kernel_rfl
theorem ti_22 : ti Try.prog 22 = some ⟨.slice 50, 1, 24, [.nils], false⟩ := by kernel_rfl
theorem ti_23 : ti Try.prog 23 = some ⟨.slice 52, 1, 24, [.nils], false⟩ := by kernel_rfl
theorem ti_25 : ti Try.prog 25 = some ⟨.struct #[{ name := "Plates", type := 3, offset := 0, embedded := false, tag := "", pkgPath := "", byteOffset := 0 }, { name := "Persons", type := 3, offset := 1, embedded := false, tag := "", pkgPath := "", byteOffset := 8 }, { name := "Knows", type := 22, offset := 2, embedded := false, tag := "", pkgPath := "", byteOffset := 16 }, { name := "Records", type := 23, offset := 3, embedded := false, tag := "", pkgPath := "", byteOffset := 40 }, { name := "Missing", type := 3, offset := 4, embedded := false, tag := "", pkgPath := "", byteOffset := 64 }], 5, 72, [.p (.int .i64 0), .p (.int .i64 0), .nils, .nils, .p (.int .i64 0)], true⟩ := by kernel_rfl
theorem ti_28 : ti Try.prog 28 = some ⟨.int .i64, 1, 8, [.p (.int .i64 0)], false⟩ := by kernel_rfl
theorem ti_32 : ti Try.prog 32 = some ⟨.slice 3, 1, 24, [.nils], false⟩ := by kernel_rfl
theorem ti_41 : ti Try.prog 41 = some ⟨.slice 55, 1, 24, [.nils], false⟩ := by kernel_rfl
theorem ti_44 : ti Try.prog 44 = some ⟨.func #[3] #[3] false, 1, 8, [.p .nilfn], false⟩ := by kernel_rfl
theorem ti_47 : ti Try.prog 47 = some ⟨.slice 5, 1, 24, [.nils], false⟩ := by kernel_rfl
theorem ti_49 : ti Try.prog 49 = some ⟨.map 50 4, 1, 8, [.p .nilmap], false⟩ := by kernel_rfl
theorem ti_50 : ti Try.prog 50 = some ⟨.array 2 3, 2, 16, [.p (.int .i64 0), .p (.int .i64 0)], true⟩ := by kernel_rfl
theorem ti_52 : ti Try.prog 52 = some ⟨.struct #[{ name := "Plate", type := 3, offset := 0, embedded := false, tag := "", pkgPath := "", byteOffset := 0 }, { name := "From", type := 3, offset := 1, embedded := false, tag := "", pkgPath := "", byteOffset := 8 }, { name := "To", type := 3, offset := 2, embedded := false, tag := "", pkgPath := "", byteOffset := 16 }], 3, 24, [.p (.int .i64 0), .p (.int .i64 0), .p (.int .i64 0)], true⟩ := by kernel_rfl
theorem ti_55 : ti Try.prog 55 = some ⟨.int .u16, 1, 2, [.p (.int .u16 0)], false⟩ := by kernel_rfl
theorem ti_57 : ti Try.prog 57 = some ⟨.func #[3] #[4] false, 1, 8, [.p .nilfn], false⟩ := by kernel_rfl
theorem ti_61 : ti Try.prog 61 = some ⟨.pointer 28, 1, 8, [.p .nilptr], false⟩ := by kernel_rfl
theorem ti_62 : ti Try.prog 62 = some ⟨.pointer 68, 1, 8, [.p .nilptr], false⟩ := by kernel_rfl
theorem ti_65 : ti Try.prog 65 = some ⟨.pointer 126, 1, 8, [.p .nilptr], false⟩ := by kernel_rfl
theorem ti_66 : ti Try.prog 66 = some ⟨.map 118 32, 1, 8, [.p .nilmap], false⟩ := by kernel_rfl
theorem ti_68 : ti Try.prog 68 = some ⟨.struct #[{ name := "Chain", type := 25, offset := 0, embedded := true, tag := "", pkgPath := "", byteOffset := 0 }, { name := "apart", type := 65, offset := 5, embedded := false, tag := "", pkgPath := "zoneworks/chain", byteOffset := 72 }, { name := "ways", type := 66, offset := 6, embedded := false, tag := "", pkgPath := "zoneworks/chain", byteOffset := 80 }], 7, 88, [.p (.int .i64 0), .p (.int .i64 0), .nils, .nils, .p (.int .i64 0), .p .nilptr, .p .nilmap], true⟩ := by kernel_rfl
theorem ti_69 : ti Try.prog 69 = some ⟨.func #[62] #[4] false, 1, 8, [.p .nilfn], false⟩ := by kernel_rfl
theorem ti_70 : ti Try.prog 70 = some ⟨.int .i64, 1, 8, [.p (.int .i64 0)], false⟩ := by kernel_rfl
theorem ti_74 : ti Try.prog 74 = some ⟨.func #[115] #[] false, 1, 8, [.p .nilfn], false⟩ := by kernel_rfl
theorem ti_75 : ti Try.prog 75 = some ⟨.func #[115] #[] false, 1, 8, [.p .nilfn], false⟩ := by kernel_rfl
theorem ti_77 : ti Try.prog 77 = some ⟨.int .u64, 1, 8, [.p (.int .u64 0)], false⟩ := by kernel_rfl
theorem ti_78 : ti Try.prog 78 = some ⟨.int .u64, 1, 8, [.p (.int .u64 0)], false⟩ := by kernel_rfl
theorem ti_81 : ti Try.prog 81 = some ⟨.func #[70, 70] #[3] false, 1, 8, [.p .nilfn], false⟩ := by kernel_rfl
theorem ti_89 : ti Try.prog 89 = some ⟨.int .u64, 1, 8, [.p (.int .u64 0)], false⟩ := by kernel_rfl
theorem ti_92 : ti Try.prog 92 = some ⟨.slice 100, 1, 24, [.nils], false⟩ := by kernel_rfl
theorem ti_96 : ti Try.prog 96 = some ⟨.func #[70] #[4] false, 1, 8, [.p .nilfn], false⟩ := by kernel_rfl
theorem ti_100 : ti Try.prog 100 = some ⟨.interface #[("zoneworks/chain.by", 101), ("zoneworks/chain.least", 102)], 1, 16, [.p .niliface], false⟩ := by kernel_rfl
theorem ti_101 : ti Try.prog 101 = some ⟨.func #[65, 70] #[3] false, 1, 8, [.p .nilfn], false⟩ := by kernel_rfl
theorem ti_102 : ti Try.prog 102 = some ⟨.func #[65] #[3] false, 1, 8, [.p .nilfn], false⟩ := by kernel_rfl
theorem ti_103 : ti Try.prog 103 = some ⟨.func #[100] #[4] false, 1, 8, [.p .nilfn], false⟩ := by kernel_rfl
theorem ti_105 : ti Try.prog 105 = some ⟨.struct #[{ name := "surely", type := 96, offset := 0, embedded := false, tag := "", pkgPath := "zoneworks/chain", byteOffset := 0 }, { name := "can", type := 96, offset := 1, embedded := false, tag := "", pkgPath := "zoneworks/chain", byteOffset := 8 }], 2, 16, [.p .nilfn, .p .nilfn], true⟩ := by kernel_rfl
theorem ti_108 : ti Try.prog 108 = some ⟨.array 8 50, 16, 128, [.p (.int .i64 0), .p (.int .i64 0), .p (.int .i64 0), .p (.int .i64 0), .p (.int .i64 0), .p (.int .i64 0), .p (.int .i64 0), .p (.int .i64 0), .p (.int .i64 0), .p (.int .i64 0), .p (.int .i64 0), .p (.int .i64 0), .p (.int .i64 0), .p (.int .i64 0), .p (.int .i64 0), .p (.int .i64 0)], true⟩ := by kernel_rfl
theorem ti_113 : ti Try.prog 113 = some ⟨.struct #[{ name := "e", type := 28, offset := 0, embedded := false, tag := "", pkgPath := "zoneworks/chain", byteOffset := 0 }], 1, 8, [.p (.int .i64 0)], true⟩ := by kernel_rfl
theorem ti_115 : ti Try.prog 115 = some ⟨.func #[3, 52] #[4] false, 1, 8, [.p .nilfn], false⟩ := by kernel_rfl
theorem ti_116 : ti Try.prog 116 = some ⟨.array 8 3, 8, 64, [.p (.int .i64 0), .p (.int .i64 0), .p (.int .i64 0), .p (.int .i64 0), .p (.int .i64 0), .p (.int .i64 0), .p (.int .i64 0), .p (.int .i64 0)], true⟩ := by kernel_rfl
theorem ti_117 : ti Try.prog 117 = some ⟨.func #[70] #[32] false, 1, 8, [.p .nilfn], false⟩ := by kernel_rfl
theorem ti_118 : ti Try.prog 118 = some ⟨.array 2 70, 2, 16, [.p (.int .i64 0), .p (.int .i64 0)], true⟩ := by kernel_rfl
theorem ti_122 : ti Try.prog 122 = some ⟨.struct #[{ name := "from", type := 70, offset := 0, embedded := false, tag := "", pkgPath := "zoneworks/chain", byteOffset := 0 }, { name := "to", type := 70, offset := 1, embedded := false, tag := "", pkgPath := "zoneworks/chain", byteOffset := 8 }], 2, 16, [.p (.int .i64 0), .p (.int .i64 0)], true⟩ := by kernel_rfl
theorem ti_124 : ti Try.prog 124 = some ⟨.struct #[{ name := "from", type := 70, offset := 0, embedded := false, tag := "", pkgPath := "zoneworks/chain", byteOffset := 0 }], 1, 8, [.p (.int .i64 0)], true⟩ := by kernel_rfl
theorem ti_126 : ti Try.prog 126 = some ⟨.array 8 116, 64, 512, [.p (.int .i64 0), .p (.int .i64 0), .p (.int .i64 0), .p (.int .i64 0), .p (.int .i64 0), .p (.int .i64 0), .p (.int .i64 0), .p (.int .i64 0), .p (.int .i64 0), .p (.int .i64 0), .p (.int .i64 0), .p (.int .i64 0), .p (.int .i64 0), .p (.int .i64 0), .p (.int .i64 0), .p (.int .i64 0), .p (.int .i64 0), .p (.int .i64 0), .p (.int .i64 0), .p (.int .i64 0), .p (.int .i64 0), .p (.int .i64 0), .p (.int .i64 0), .p (.int .i64 0), .p (.int .i64 0), .p (.int .i64 0), .p (.int .i64 0), .p (.int .i64 0), .p (.int .i64 0), .p (.int .i64 0), .p (.int .i64 0), .p (.int .i64 0), .p (.int .i64 0), .p (.int .i64 0), .p (.int .i64 0), .p (.int .i64 0), .p (.int .i64 0), .p (.int .i64 0), .p (.int .i64 0), .p (.int .i64 0), .p (.int .i64 0), .p (.int .i64 0), .p (.int .i64 0), .p (.int .i64 0), .p (.int .i64 0), .p (.int .i64 0), .p (.int .i64 0), .p (.int .i64 0), .p (.int .i64 0), .p (.int .i64 0), .p (.int .i64 0), .p (.int .i64 0), .p (.int .i64 0), .p (.int .i64 0), .p (.int .i64 0), .p (.int .i64 0), .p (.int .i64 0), .p (.int .i64 0), .p (.int .i64 0), .p (.int .i64 0), .p (.int .i64 0), .p (.int .i64 0), .p (.int .i64 0), .p (.int .i64 0)], true⟩ := by kernel_rfl
theorem ti_128 : ti Try.prog 128 = some ⟨.slice 70, 1, 24, [.nils], false⟩ := by kernel_rfl
theorem ti_132 : ti Try.prog 132 = some ⟨.func #[50] #[4] false, 1, 8, [.p .nilfn], false⟩ := by kernel_rfl
theorem ti_133 : ti Try.prog 133 = some ⟨.func #[52] #[4] false, 1, 8, [.p .nilfn], false⟩ := by kernel_rfl
theorem ti_138 : ti Try.prog 138 = some ⟨.int .u32, 1, 4, [.p (.int .u32 0)], false⟩ := by kernel_rfl
theorem ti_140 : ti Try.prog 140 = some ⟨.int .u64, 1, 8, [.p (.int .u64 0)], false⟩ := by kernel_rfl
end Go.Proofs.Ytagdholenfkeaaa

/- The rules of written-out states at the program's types: what an operation does is worked out at once. -/
namespace Go.Proofs.Ytagdholenfkeaaa
open Go.Gh
set_option maxRecDepth 100000
/-- What is told of a truth. -/
structure hB (p q : Prop) : Prop where
  h : p → q := by (intro h; (try simp only [decide_eq_true_eq, decide_eq_false_iff_not, Int.not_lt, Int.not_le, Bool.not_eq_eq_eq_not, Bool.not_true, Bool.not_false, Bool.and_eq_true, Bool.and_eq_false_iff, Bool.or_eq_true, Bool.or_eq_false_iff] at h); exact h)
structure eA1 {α : Type} (a b : α) : Prop where
  h : a = b := by (simp only [gsem, gev, ofV, mkFr_cons, mkFr_nil, mkHp_cons, mkHp_nil, upd, yes, lift, gbinAt, gnilEq, gbin, gint, gshift, arith, gpick, gload, gstore, splice, gbox, gfill, placesL, gbuildSlice, gfieldAddr, gfield, gelem, gindexAddr, gindex, gbound, gslice, glen, gsource, gappend, gmin, gminL, gmax, gmaxL, mapGet, mapPut, zeroG, orZero, glookup, gmapUpdate, gconvert, gtypeAssert, gextract, isConst, gnilCheck, gunOp, gmakeSlice, intOf, mkAgg, mkFn, mkIface, mkTuple, allP, G.cells, good, goods, allOne, G.one, P.one, allP_p, allOne_p, goods_p, toPs_p, all_int, take_all, isAggD, isIfaceD, toP, toPs, P.size, P.cells, List.map_cons, List.map_nil, List.take_succ_cons, List.take_zero, List.drop_succ_cons, List.drop_zero, List.take_nil, List.drop_nil, List.cons_append, List.nil_append, List.append_nil, List.length_cons, List.length_nil, List.getElem?_cons_zero, List.getElem?_cons_succ, List.getElem?_nil, List.set_cons_zero, List.set_cons_succ, List.flatMap_cons, List.flatMap_nil, List.getElem?_toArray, List.getElem?_map, List.length_map, Option.map_some, Option.map_none, Nat.mul_one, List.length_set, set_map_p, set_map_int, Nat.reduceEqDiff, Nat.reduceAdd, Nat.reduceMul, Nat.reduceSub, Nat.reduceLeDiff, Nat.add_zero, Nat.zero_add, Int.toNat_natCast, Int.reduceToNat, reduceIte, reduceCtorEq, eq_self, if_true, if_false, and_true, true_and, true_or, or_true, or_false, false_or, Bool.false_eq_true, ne_eq, not_true_eq_false, not_false_eq_true, cond_true, cond_false, Bool.and_true, Bool.true_and, Bool.and_false, Bool.false_and, Bool.or_true, Bool.true_or, Bool.or_false, Bool.false_or, Bool.not_true, Bool.not_false, ti_1, ti_3, ti_4, ti_5, ti_9, ti_20, ti_22, ti_23, ti_25, ti_28, ti_32, ti_41, ti_44, ti_47, ti_49, ti_50, ti_52, ti_55, ti_57, ti_61, ti_62, ti_65, ti_66, ti_68, ti_69, ti_70, ti_74, ti_75, ti_77, ti_78, ti_81, ti_89, ti_92, ti_96, ti_100, ti_101, ti_102, ti_103, ti_105, ti_108, ti_113, ti_115, ti_116, ti_117, ti_118, ti_122, ti_124, ti_126, ti_128, ti_132, ti_133, ti_138, ti_140, *] <;> rfl)
structure eA2 {α : Type} (a b : α) : Prop where
  h : a = b := by (simp only [reach, frIds, dfIds, gdIdl, obIdl, hpIds, restrictL, dedupL, pickL, subB, G.idl, G.idls, idls_p, List.nil_append, List.append_nil, List.cons_append, mkHp_cons, mkHp_nil, Nat.reduceEqDiff, reduceIte, List.mem_cons, List.not_mem_nil, or_false, or_true, true_or, false_or, List.filter_cons, List.filter_nil, ne_eq, not_true_eq_false, not_false_eq_true, decide_true, decide_false, Bool.false_eq_true, List.all_cons, List.all_nil, Bool.and_true] <;> rfl)
structure eA3 {α : Type} (a b : α) : Prop where
  h : a = b := by (simp only [frIds, dfIds, gdIdl, obIdl, hpIds, restrictL, dedupL, pickL, subB, G.idl, G.idls, idls_p, List.nil_append, List.append_nil, List.cons_append, mkHp_cons, mkHp_nil, Nat.reduceEqDiff, reduceIte, List.mem_cons, List.not_mem_nil, or_false, or_true, true_or, false_or, List.filter_cons, List.filter_nil, ne_eq, not_true_eq_false, not_false_eq_true, decide_true, decide_false, Bool.false_eq_true, List.all_cons, List.all_nil, Bool.and_true] <;> rfl)
structure eA4 {α : Type} (a b : α) : Prop where
  h : a = b := by (simp only [gcallee, gev, mkFr_cons, Nat.reduceEqDiff, reduceIte, List.map_cons, List.map_nil, List.cons_append, List.nil_append, List.append_nil, toP, toPs, toPs_p, ofV, rhp, mkHp_cons, mkHp_nil, List.mem_cons, List.not_mem_nil, or_false, and_true, true_and] <;> rfl)
structure eA5 {α : Type} (a b : α) : Prop where
  h : a = b := by (simp only [opIds, Op.operands, gev, mkFr_cons, Nat.reduceEqDiff, reduceIte, List.flatMap_cons, List.flatMap_nil, List.map_cons, List.map_nil, G.idl, G.idls, idls_p, List.append_nil, List.nil_append, List.cons_append, ofV, Call.operands, List.append_toArray, Array.toList_append, Option.toArray_none, Option.toArray_some] <;> rfl)
structure eA6 {α : Type} (a b : α) : Prop where
  h : a = b := by (simp only [cvts, cvt, gev, mkFr_cons, Nat.reduceEqDiff, reduceIte, List.map_cons, List.map_nil, List.cons_append, List.nil_append, List.append_nil, toP, toPs, toPs_p, ofV, rhp, mkHp_cons, mkHp_nil, List.mem_cons, List.not_mem_nil, or_false, and_true, true_and] <;> rfl)
structure eA7 {α : Type} (a b : α) : Prop where
  h : a = b := by (simp only [rhp, List.mem_cons, List.not_mem_nil, gsem, gev, ofV, mkFr_cons, mkFr_nil, mkHp_cons, mkHp_nil, upd, yes, lift, gbinAt, gnilEq, gbin, gint, gshift, arith, gpick, gload, gstore, splice, gbox, gfill, placesL, gbuildSlice, gfieldAddr, gfield, gelem, gindexAddr, gindex, gbound, gslice, glen, gsource, gappend, gmin, gminL, gmax, gmaxL, mapGet, mapPut, zeroG, orZero, glookup, gmapUpdate, gconvert, gtypeAssert, gextract, isConst, gnilCheck, gunOp, gmakeSlice, intOf, mkAgg, mkFn, mkIface, mkTuple, allP, G.cells, good, goods, allOne, G.one, P.one, allP_p, allOne_p, goods_p, toPs_p, all_int, take_all, isAggD, isIfaceD, toP, toPs, P.size, P.cells, List.map_cons, List.map_nil, List.take_succ_cons, List.take_zero, List.drop_succ_cons, List.drop_zero, List.take_nil, List.drop_nil, List.cons_append, List.nil_append, List.append_nil, List.length_cons, List.length_nil, List.getElem?_cons_zero, List.getElem?_cons_succ, List.getElem?_nil, List.set_cons_zero, List.set_cons_succ, List.flatMap_cons, List.flatMap_nil, List.getElem?_toArray, List.getElem?_map, List.length_map, Option.map_some, Option.map_none, Nat.mul_one, List.length_set, set_map_p, set_map_int, Nat.reduceEqDiff, Nat.reduceAdd, Nat.reduceMul, Nat.reduceSub, Nat.reduceLeDiff, Nat.add_zero, Nat.zero_add, Int.toNat_natCast, Int.reduceToNat, reduceIte, reduceCtorEq, eq_self, if_true, if_false, and_true, true_and, true_or, or_true, or_false, false_or, Bool.false_eq_true, ne_eq, not_true_eq_false, not_false_eq_true, cond_true, cond_false, Bool.and_true, Bool.true_and, Bool.and_false, Bool.false_and, Bool.or_true, Bool.true_or, Bool.or_false, Bool.false_or, Bool.not_true, Bool.not_false, ti_1, ti_3, ti_4, ti_5, ti_9, ti_20, ti_22, ti_23, ti_25, ti_28, ti_32, ti_41, ti_44, ti_47, ti_49, ti_50, ti_52, ti_55, ti_57, ti_61, ti_62, ti_65, ti_66, ti_68, ti_69, ti_70, ti_74, ti_75, ti_77, ti_78, ti_81, ti_89, ti_92, ti_96, ti_100, ti_101, ti_102, ti_103, ti_105, ti_108, ti_113, ti_115, ti_116, ti_117, ti_118, ti_122, ti_124, ti_126, ti_128, ti_132, ti_133, ti_138, ti_140, *] <;> rfl)
structure eA8 {α : Type} (a b : α) : Prop where
  h : a = b := by (simp only [cvtsM, cvtM, Option.map_some, Option.map_none, G.rens, G.ren, rens_p, Gh.look, Nat.reduceAdd, Nat.zero_add, List.take_succ_cons, List.take_zero, List.drop_succ_cons, List.drop_zero, gev, mkFr_cons, Nat.reduceEqDiff, reduceIte, List.map_cons, List.map_nil, List.cons_append, List.nil_append, List.append_nil, toP, toPs, toPs_p, ofV, rhp, mkHp_cons, mkHp_nil, List.mem_cons, List.not_mem_nil, or_false, and_true, true_and] <;> rfl)
structure eA9 {α : Type} (a b : α) : Prop where
  h : a = b := by (simp only [gev, mkFr_cons, Nat.reduceEqDiff, reduceIte, List.map_cons, List.map_nil, List.cons_append, List.nil_append, List.append_nil, toP, toPs, toPs_p, ofV, rhp, mkHp_cons, mkHp_nil, List.mem_cons, List.not_mem_nil, or_false, and_true, true_and] <;> rfl)
structure eA10 {α : Type} (a b : α) : Prop where
  h : a = b := by (simp only [gresult, gresL, gres1, tup_nil, tup_one, tup_two, gsem, gev, ofV, mkFr_cons, mkFr_nil, mkHp_cons, mkHp_nil, upd, yes, lift, gbinAt, gnilEq, gbin, gint, gshift, arith, gpick, gload, gstore, splice, gbox, gfill, placesL, gbuildSlice, gfieldAddr, gfield, gelem, gindexAddr, gindex, gbound, gslice, glen, gsource, gappend, gmin, gminL, gmax, gmaxL, mapGet, mapPut, zeroG, orZero, glookup, gmapUpdate, gconvert, gtypeAssert, gextract, isConst, gnilCheck, gunOp, gmakeSlice, intOf, mkAgg, mkFn, mkIface, mkTuple, allP, G.cells, good, goods, allOne, G.one, P.one, allP_p, allOne_p, goods_p, toPs_p, all_int, take_all, isAggD, isIfaceD, toP, toPs, P.size, P.cells, List.map_cons, List.map_nil, List.take_succ_cons, List.take_zero, List.drop_succ_cons, List.drop_zero, List.take_nil, List.drop_nil, List.cons_append, List.nil_append, List.append_nil, List.length_cons, List.length_nil, List.getElem?_cons_zero, List.getElem?_cons_succ, List.getElem?_nil, List.set_cons_zero, List.set_cons_succ, List.flatMap_cons, List.flatMap_nil, List.getElem?_toArray, List.getElem?_map, List.length_map, Option.map_some, Option.map_none, Nat.mul_one, List.length_set, set_map_p, set_map_int, Nat.reduceEqDiff, Nat.reduceAdd, Nat.reduceMul, Nat.reduceSub, Nat.reduceLeDiff, Nat.add_zero, Nat.zero_add, Int.toNat_natCast, Int.reduceToNat, reduceIte, reduceCtorEq, eq_self, if_true, if_false, and_true, true_and, true_or, or_true, or_false, false_or, Bool.false_eq_true, ne_eq, not_true_eq_false, not_false_eq_true, cond_true, cond_false, Bool.and_true, Bool.true_and, Bool.and_false, Bool.false_and, Bool.or_true, Bool.true_or, Bool.or_false, Bool.false_or, Bool.not_true, Bool.not_false, ti_1, ti_3, ti_4, ti_5, ti_9, ti_20, ti_22, ti_23, ti_25, ti_28, ti_32, ti_41, ti_44, ti_47, ti_49, ti_50, ti_52, ti_55, ti_57, ti_61, ti_62, ti_65, ti_66, ti_68, ti_69, ti_70, ti_74, ti_75, ti_77, ti_78, ti_81, ti_89, ti_92, ti_96, ti_100, ti_101, ti_102, ti_103, ti_105, ti_108, ti_113, ti_115, ti_116, ti_117, ti_118, ti_122, ti_124, ti_126, ti_128, ti_132, ti_133, ti_138, ti_140] <;> rfl)
structure eA11 {α : Type} (a b : α) : Prop where
  h : a = b := by (simp only [cvS, cvSs, toP, toPs, toPs_p, mkFr_cons, mkFr_nil, mkHp_cons, mkHp_nil, Nat.reduceEqDiff, reduceIte, List.take_succ_cons, List.take_zero, List.drop_succ_cons, List.drop_zero, List.take_nil, List.drop_nil, List.length_cons, List.length_nil, Nat.reduceAdd, Nat.add_zero, Nat.zero_add, List.map_cons, List.map_nil, List.cons_append, List.nil_append, List.append_nil, and_true, true_and] <;> rfl)
structure eA12 {α : Type} (a b : α) : Prop where
  h : a = b := by (simp only [gdefer, gev, mkFr_cons, Nat.reduceEqDiff, reduceIte, List.map_cons, List.map_nil, List.cons_append, List.nil_append, List.append_nil, toP, toPs, toPs_p, ofV, rhp, mkHp_cons, mkHp_nil, List.mem_cons, List.not_mem_nil, or_false, and_true, true_and] <;> rfl)
structure eA13 {α : Type} (a b : α) : Prop where
  h : a = b := by (simp only [grange, gev, mkFr_cons, Nat.reduceEqDiff, reduceIte, List.map_cons, List.map_nil, List.cons_append, List.nil_append, List.append_nil, toP, toPs, toPs_p, ofV, rhp, mkHp_cons, mkHp_nil, List.mem_cons, List.not_mem_nil, or_false, and_true, true_and] <;> rfl)
structure eA14 {α : Type} (a b : α) : Prop where
  h : a = b := by (simp only [List.map_cons, List.map_nil, frIds, dfIds, gdIdl, obIdl, hpIds, restrictL, dedupL, pickL, subB, G.idl, G.idls, idls_p, List.nil_append, List.append_nil, List.cons_append, mkHp_cons, mkHp_nil, Nat.reduceEqDiff, reduceIte, List.mem_cons, List.not_mem_nil, or_false, or_true, true_or, false_or, List.filter_cons, List.filter_nil, ne_eq, not_true_eq_false, not_false_eq_true, decide_true, decide_false, Bool.false_eq_true, List.all_cons, List.all_nil, Bool.and_true] <;> rfl)
structure eA15 {α : Type} (a b : α) : Prop where
  h : a = b := by (simp only [cvts, cvt, Gh.look, G.rens, G.ren, gev, mkFr_cons, Nat.reduceEqDiff, reduceIte, List.map_cons, List.map_nil, List.cons_append, List.nil_append, List.append_nil, toP, toPs, toPs_p, ofV, rhp, mkHp_cons, mkHp_nil, List.mem_cons, List.not_mem_nil, or_false, and_true, true_and] <;> rfl)
variable {E : Env Try.prog} {C : Cx E} {r : Option Nat} {ops : Array Oper} {Q : GE → Sg E → Prop} {rest lst : List Oper} {l l' : List (Nat × G)} {m : List (Nat × Ob)} {A : E.α} {df : List GD}
variable {t : Nat} {op : Op} {ty : TypeId} {pos : String} {af : Array Edge} {c : Prop} {g : G} {ob : Ob} {i j : Nat} {gd : Option (Nat × Bool)} {b x : Bool} {cd : Code} {J : List Nat}

/-- A value. -/
theorem v0 (hg : gsem Try.prog false 99999 (gev (mkFr l)) (mkHp m) op = some (c, ⟨g, none⟩) := by exact eA1.h {}) (hd : mkHp m 99999 = .none := by (simp only [mkHp_cons, mkHp_nil, Nat.reduceEqDiff, reduceIte])) (ht : t < C.N := by omega)
    (k : gops C r ops Q rest (sg ((t, g) :: l) m A df)) (hc : c := by first | exact True.intro | simp) : gops C r ops Q (⟨some t, op, ty, pos, af, none⟩ :: rest) (sg l m A df) := go_v (gwant_plain rfl) hg hd ht hc k
/-- A value, with a condition that is left to prove. -/
theorem v1 (hg : gsem Try.prog false 99999 (gev (mkFr l)) (mkHp m) op = some (c, ⟨g, none⟩) := by exact eA1.h {}) (hd : mkHp m 99999 = .none := by (simp only [mkHp_cons, mkHp_nil, Nat.reduceEqDiff, reduceIte])) (ht : t < C.N := by omega)
    (hc : c) (k : gops C r ops Q rest (sg ((t, g) :: l) m A df)) : gops C r ops Q (⟨some t, op, ty, pos, af, none⟩ :: rest) (sg l m A df) := go_v (gwant_plain rfl) hg hd ht hc k
/-- A value under a guard. -/
theorem w0 {b' : Bool} (hj : (ops[j]?).bind (·.dst) = some i := by rfl) (hx : mkFr l i = .p (.bool b') := by (simp only [mkFr_cons, Nat.reduceEqDiff, reduceIte] <;> rfl)) (hb : (b' == b) = true := by rfl)
    (hg : gsem Try.prog false 99999 (gev (mkFr l)) (mkHp m) op = some (c, ⟨g, none⟩) := by exact eA1.h {}) (hd : mkHp m 99999 = .none := by (simp only [mkHp_cons, mkHp_nil, Nat.reduceEqDiff, reduceIte])) (ht : t < C.N := by omega)
    (k : gops C r ops Q rest (sg ((t, g) :: l) m A df)) (hc : c := by first | exact True.intro | simp) : gops C r ops Q (⟨some t, op, ty, pos, af, some (j, b)⟩ :: rest) (sg l m A df) := go_v ((gwant_at rfl hj hx).trans (by rw [hb])) hg hd ht hc k
theorem w1 {b' : Bool} (hj : (ops[j]?).bind (·.dst) = some i := by rfl) (hx : mkFr l i = .p (.bool b') := by (simp only [mkFr_cons, Nat.reduceEqDiff, reduceIte] <;> rfl)) (hb : (b' == b) = true := by rfl)
    (hg : gsem Try.prog false 99999 (gev (mkFr l)) (mkHp m) op = some (c, ⟨g, none⟩) := by exact eA1.h {}) (hd : mkHp m 99999 = .none := by (simp only [mkHp_cons, mkHp_nil, Nat.reduceEqDiff, reduceIte])) (ht : t < C.N := by omega)
    (hc : c) (k : gops C r ops Q rest (sg ((t, g) :: l) m A df)) : gops C r ops Q (⟨some t, op, ty, pos, af, some (j, b)⟩ :: rest) (sg l m A df) := go_v ((gwant_at rfl hj hx).trans (by rw [hb])) hg hd ht hc k
/-- Left out. -/
theorem x0 {b' : Bool} (hj : (ops[j]?).bind (·.dst) = some i := by rfl) (hx : mkFr l i = .p (.bool b') := by (simp only [mkFr_cons, Nat.reduceEqDiff, reduceIte] <;> rfl)) (hb : (b' == b) = false := by rfl) (ht : t < C.N := by omega)
    (k : gops C r ops Q rest (sg ((t, .p (.tuple [])) :: l) m A df)) : gops C r ops Q (⟨some t, op, ty, pos, af, some (j, b)⟩ :: rest) (sg l m A df) := go_x ((gwant_at rfl hj hx).trans (by rw [hb])) ht k
theorem x1 (hj : (ops[j]?).bind (·.dst) = some i := by rfl) (hx : mkFr l i = .p (.tuple []) := by (simp only [mkFr_cons, Nat.reduceEqDiff, reduceIte] <;> rfl)) (ht : t < C.N := by omega)
    (k : gops C r ops Q rest (sg ((t, .p (.tuple [])) :: l) m A df)) : gops C r ops Q (⟨some t, op, ty, pos, af, some (j, b)⟩ :: rest) (sg l m A df) := go_x (gwant_un rfl hj hx) ht k
/-- The guard is not known: both. -/
theorem b0 {b' : Bool} (hj : (ops[j]?).bind (·.dst) = some i := by rfl) (hx : mkFr l i = .p (.bool b') := by (simp only [mkFr_cons, Nat.reduceEqDiff, reduceIte] <;> rfl))
    (k1 : b' = true → gops C r ops Q (⟨some t, op, ty, pos, af, some (j, b)⟩ :: rest) (sg ((i, .p (.bool true)) :: l) m A df)) (k0 : b' = false → gops C r ops Q (⟨some t, op, ty, pos, af, some (j, b)⟩ :: rest) (sg ((i, .p (.bool false)) :: l) m A df)) :
    gops C r ops Q (⟨some t, op, ty, pos, af, some (j, b)⟩ :: rest) (sg l m A df) := go_b i hx k1 k0
/-- A register's truth is known. -/
theorem rb (t : Nat) (b : Bool) {x : Bool} (hx : mkFr l t = .p (.bool x) := by (simp only [mkFr_cons, Nat.reduceEqDiff, reduceIte] <;> rfl)) (h : x = b) (k : gops C r ops Q lst (sg ((t, .p (.bool b)) :: l) m A df)) : gops C r ops Q lst (sg l m A df) := by
  subst h
  rwa [sg, mkFr_again hx] at k
theorem nil0 (k : Q .normal (sg l m A df)) : gops C r ops Q [] (sg l m A df) := gops_nil k
theorem cT {o : Operand} {y z : Code} (hb : gev (mkFr l) o = .p (.bool true) := by (simp only [gev, mkFr_cons, Nat.reduceEqDiff, reduceIte] <;> rfl)) (k : gwp C r y Q (sg l m A df)) : gwp C r (.cond o y z) Q (sg l m A df) := gc_condT hb k
theorem cF {o : Operand} {y z : Code} (hb : gev (mkFr l) o = .p (.bool false) := by (simp only [gev, mkFr_cons, Nat.reduceEqDiff, reduceIte] <;> rfl)) (k : gwp C r z Q (sg l m A df)) : gwp C r (.cond o y z) Q (sg l m A df) := gc_condF hb k
theorem cB {o : Operand} {y z : Code} (hb : gev (mkFr l) o = .p (.bool b) := by (simp only [gev, mkFr_cons, Nat.reduceEqDiff, reduceIte] <;> rfl)) (k1 : b = true → gwp C r y Q (sg l m A df)) (k0 : b = false → gwp C r z Q (sg l m A df)) : gwp C r (.cond o y z) Q (sg l m A df) := gc_cond hb k1 k0
theorem cl (vs : List Nat) {m' : List (Nat × Ob)} {I : List Nat} (hl : (vs.map fun v => (v, mkFr l v)) = l' := by (simp only [List.map_cons, List.map_nil, mkFr_cons, mkFr_nil, Nat.reduceEqDiff, reduceIte] <;> rfl)) (hI : reach l' m df = I := by exact eA2.h {}) (hm : restrictL I m = m' := by exact eA3.h {})
    (h1 : subB (frIds l') I = true := by exact eA3.h {}) (h2 : subB (dfIds df) I = true := by exact eA3.h {}) (h3 : subB (hpIds m I) I = true := by exact eA3.h {})
    (k : gwp C r cd Q (sg l' m' A df)) : gwp C r cd Q (sg l m A df) := gc_clean2 vs hl hm h1 h2 h3 k

/-! Calls -/
section
variable {f : FuncId} {gs : List G} {args : List P} {v : P} {pargs : List G}
theorem pc0 {cc : Call} (spec : PSpec Try.prog f args (.ok v)) (hent : Enters Try.prog f) (hg : gcallee Try.prog (mkFr l) cc = some (f, gs) := by exact eA4.h {})
    (hJ : G.idls gs = J := by exact eA5.h {}) (hcv : cvts (rhp (mkHp m) J) gs = (c, args.map .p) := by exact eA6.h {}) (ht : t < C.N := by omega) (k : gops C r ops Q rest (sg ((t, .p v) :: l) m A df)) (hc : c := by simp) :
    gops C r ops Q (⟨some t, .call cc, ty, pos, af, none⟩ :: rest) (sg l m A df) := gops_eff (eff_pcall rfl (gwant_plain rfl) hg hent hcv hc spec (fun t' e => by cases e; exact ht)) k
theorem pcw {b' : Bool} {cc : Call} (spec : PSpec Try.prog f args (.ok v)) (hent : Enters Try.prog f) (hj : (ops[j]?).bind (·.dst) = some i := by rfl) (hx : mkFr l i = .p (.bool b') := by (simp only [mkFr_cons, Nat.reduceEqDiff, reduceIte] <;> rfl)) (hb : (b' == b) = true := by rfl)
    (hg : gcallee Try.prog (mkFr l) cc = some (f, gs) := by exact eA4.h {})
    (hJ : G.idls gs = J := by exact eA5.h {}) (hcv : cvts (rhp (mkHp m) J) gs = (c, args.map .p) := by exact eA6.h {}) (ht : t < C.N := by omega) (k : gops C r ops Q rest (sg ((t, .p v) :: l) m A df)) (hc : c := by simp) :
    gops C r ops Q (⟨some t, .call cc, ty, pos, af, some (j, b)⟩ :: rest) (sg l m A df) := gops_eff (eff_pcall rfl ((gwant_at rfl hj hx).trans (by rw [hb])) hg hent hcv hc spec (fun t' e => by cases e; exact ht)) k
/-- A call that panics. -/
theorem pp0 {cc : Call} (spec : PSpec Try.prog f args (.panic v)) (hent : Enters Try.prog f) (hg : gcallee Try.prog (mkFr l) cc = some (f, gs) := by exact eA4.h {})
    (hJ : G.idls gs = J := by exact eA5.h {}) (hcv : cvts (rhp (mkHp m) J) gs = (c, args.map .p) := by exact eA6.h {}) (ht : t < C.N := by omega) (k : Q (.panic v) (sg l m A df)) (hc : c := by simp) :
    gops C r ops Q (⟨some t, .call cc, ty, pos, af, none⟩ :: rest) (sg l m A df) := gops_n (effN_pcall rfl (gwant_plain rfl) hg hent hcv hc spec (fun t' e => by cases e; exact ht) (fun v e => by cases e) (fun v' e => by cases e; exact k))
end
theorem pn0 {o : Operand} {tt : TypeId} {v : P} (hv : gev (mkFr l) o = .p (.iface tt v) := by (simp only [gev, mkFr_cons, Nat.reduceEqDiff, reduceIte] <;> rfl)) (k : Q (.panic (.iface tt v)) (sg l m A df)) {dst : Option Nat} : gops C r ops Q (⟨dst, .panic o, ty, pos, af, none⟩ :: rest) (sg l m A df) :=
  gops_n (effN_panic rfl (gwant_plain rfl) hv k)

/-! Regions in any order -/
section
variable {lo : Nat} {σ0 : Sg E} {ids ids' : List (List Nat × List Nat)} {I : List Nat} {f : FuncId} {gs : List G} {args : List P} {v : P}
theorem eff_v {o : Oper} (hw : gwant ops (mkFr l) o = some true) (hg : gsem Try.prog false 99999 (gev (mkFr l)) (rhp (mkHp m) I) o.op = some (c, ⟨g, none⟩)) (hc : c) (hd : mkHp m 99999 = .none) (ht : ∀ t, o.dst = some t → t < C.N) : Eff C r ops o (sg l m A df) (99999 :: I) g [] :=
  eff_op (d := 99999) (out := ⟨g, none⟩) hw hg hc hd (by have := C.limOk; omega) (fun p e => by cases e) ht
theorem d0 (n : Nat) (hn : ids.length = n := by rfl) (ho : ops[lo + n]? = some ⟨some t, op, ty, pos, af, none⟩ := by rfl) (hI : opIds (gev (mkFr l)) op = I := by exact eA5.h {})
    (hg : gsem Try.prog false 99999 (gev (mkFr l)) (rhp (mkHp m) I) op = some (c, ⟨g, none⟩) := by exact eA7.h {}) (hd : mkHp m 99999 = .none := by (simp only [mkHp_cons, mkHp_nil, Nat.reduceEqDiff, reduceIte])) (ht : t < C.N := by omega)
    (hids : ids ++ [(99999 :: I, [])] = ids' := by (simp only [List.cons_append, List.nil_append] <;> rfl)) (k : segK C r ops (GPost C Q) lo σ0 ids' (sg ((t, g) :: l) m A df)) (hc : c := by first | exact True.intro | simp) : segK C r ops (GPost C Q) lo σ0 ids (sg l m A df) :=
  segK.step (pi := []) hn ho (eff_v (gwant_plain rfl) hg hc hd (fun t' e => by cases e; exact ht)) rfl (by rw [hids]; exact k)
theorem d1 (n : Nat) (hn : ids.length = n := by rfl) (ho : ops[lo + n]? = some ⟨some t, op, ty, pos, af, none⟩ := by rfl) (hI : opIds (gev (mkFr l)) op = I := by exact eA5.h {})
    (hg : gsem Try.prog false 99999 (gev (mkFr l)) (rhp (mkHp m) I) op = some (c, ⟨g, none⟩) := by exact eA7.h {}) (hd : mkHp m 99999 = .none := by (simp only [mkHp_cons, mkHp_nil, Nat.reduceEqDiff, reduceIte])) (ht : t < C.N := by omega)
    (hids : ids ++ [(99999 :: I, [])] = ids' := by (simp only [List.cons_append, List.nil_append] <;> rfl)) (hc : c) (k : segK C r ops (GPost C Q) lo σ0 ids' (sg ((t, g) :: l) m A df)) : segK C r ops (GPost C Q) lo σ0 ids (sg l m A df) :=
  segK.step (pi := []) hn ho (eff_v (gwant_plain rfl) hg hc hd (fun t' e => by cases e; exact ht)) rfl (by rw [hids]; exact k)
theorem dw0 (n : Nat) {b' : Bool} (hn : ids.length = n := by rfl) (ho : ops[lo + n]? = some ⟨some t, op, ty, pos, af, some (j, b)⟩ := by rfl) (hj : (ops[j]?).bind (·.dst) = some i := by rfl) (hx : mkFr l i = .p (.bool b') := by (simp only [mkFr_cons, Nat.reduceEqDiff, reduceIte] <;> rfl)) (hb : (b' == b) = true := by rfl)
    (hI : opIds (gev (mkFr l)) op = I := by exact eA5.h {})
    (hg : gsem Try.prog false 99999 (gev (mkFr l)) (rhp (mkHp m) I) op = some (c, ⟨g, none⟩) := by exact eA7.h {}) (hd : mkHp m 99999 = .none := by (simp only [mkHp_cons, mkHp_nil, Nat.reduceEqDiff, reduceIte])) (ht : t < C.N := by omega)
    (hids : ids ++ [(99999 :: I, [])] = ids' := by (simp only [List.cons_append, List.nil_append] <;> rfl)) (k : segK C r ops (GPost C Q) lo σ0 ids' (sg ((t, g) :: l) m A df)) (hc : c := by first | exact True.intro | simp) : segK C r ops (GPost C Q) lo σ0 ids (sg l m A df) :=
  segK.step (pi := []) hn ho (eff_v ((gwant_at rfl hj hx).trans (by rw [hb])) hg hc hd (fun t' e => by cases e; exact ht)) rfl (by rw [hids]; exact k)
theorem dw1 (n : Nat) {b' : Bool} (hn : ids.length = n := by rfl) (ho : ops[lo + n]? = some ⟨some t, op, ty, pos, af, some (j, b)⟩ := by rfl) (hj : (ops[j]?).bind (·.dst) = some i := by rfl) (hx : mkFr l i = .p (.bool b') := by (simp only [mkFr_cons, Nat.reduceEqDiff, reduceIte] <;> rfl)) (hb : (b' == b) = true := by rfl)
    (hI : opIds (gev (mkFr l)) op = I := by exact eA5.h {})
    (hg : gsem Try.prog false 99999 (gev (mkFr l)) (rhp (mkHp m) I) op = some (c, ⟨g, none⟩) := by exact eA7.h {}) (hd : mkHp m 99999 = .none := by (simp only [mkHp_cons, mkHp_nil, Nat.reduceEqDiff, reduceIte])) (ht : t < C.N := by omega)
    (hids : ids ++ [(99999 :: I, [])] = ids' := by (simp only [List.cons_append, List.nil_append] <;> rfl)) (hc : c) (k : segK C r ops (GPost C Q) lo σ0 ids' (sg ((t, g) :: l) m A df)) : segK C r ops (GPost C Q) lo σ0 ids (sg l m A df) :=
  segK.step (pi := []) hn ho (eff_v ((gwant_at rfl hj hx).trans (by rw [hb])) hg hc hd (fun t' e => by cases e; exact ht)) rfl (by rw [hids]; exact k)
theorem dx0 (n : Nat) {b' : Bool} (hn : ids.length = n := by rfl) (ho : ops[lo + n]? = some ⟨some t, op, ty, pos, af, some (j, b)⟩ := by rfl) (hj : (ops[j]?).bind (·.dst) = some i := by rfl) (hx : mkFr l i = .p (.bool b') := by (simp only [mkFr_cons, Nat.reduceEqDiff, reduceIte] <;> rfl)) (hb : (b' == b) = false := by rfl) (ht : t < C.N := by omega)
    (hids : ids ++ [([], [])] = ids' := by (simp only [List.cons_append, List.nil_append] <;> rfl)) (k : segK C r ops (GPost C Q) lo σ0 ids' (sg ((t, .p (.tuple [])) :: l) m A df)) : segK C r ops (GPost C Q) lo σ0 ids (sg l m A df) :=
  segK.step (pi := []) hn ho (eff_skip ((gwant_at rfl hj hx).trans (by rw [hb])) (fun t' e => by cases e; exact ht)) rfl (by rw [hids]; exact k)
theorem dx1 (n : Nat) (hn : ids.length = n := by rfl) (ho : ops[lo + n]? = some ⟨some t, op, ty, pos, af, some (j, b)⟩ := by rfl) (hj : (ops[j]?).bind (·.dst) = some i := by rfl) (hx : mkFr l i = .p (.tuple []) := by (simp only [mkFr_cons, Nat.reduceEqDiff, reduceIte] <;> rfl)) (ht : t < C.N := by omega)
    (hids : ids ++ [([], [])] = ids' := by (simp only [List.cons_append, List.nil_append] <;> rfl)) (k : segK C r ops (GPost C Q) lo σ0 ids' (sg ((t, .p (.tuple [])) :: l) m A df)) : segK C r ops (GPost C Q) lo σ0 ids (sg l m A df) :=
  segK.step (pi := []) hn ho (eff_skip (gwant_un rfl hj hx) (fun t' e => by cases e; exact ht)) rfl (by rw [hids]; exact k)
theorem db0 (n : Nat) {x : Bool} (i : Nat) (hx : mkFr l i = .p (.bool x) := by (simp only [mkFr_cons, Nat.reduceEqDiff, reduceIte] <;> rfl)) (k1 : x = true → segK C r ops (GPost C Q) lo σ0 ids (sg ((i, .p (.bool true)) :: l) m A df)) (k0 : x = false → segK C r ops (GPost C Q) lo σ0 ids (sg ((i, .p (.bool false)) :: l) m A df)) :
    segK C r ops (GPost C Q) lo σ0 ids (sg l m A df) := by
  cases x
  · have := k0 rfl
    rwa [sg, mkFr_again hx] at this
  · have := k1 rfl
    rwa [sg, mkFr_again hx] at this
theorem dpc0 (n : Nat) {cc : Call} (spec : PSpec Try.prog f args (.ok v)) (hent : Enters Try.prog f) (hn : ids.length = n := by rfl) (ho : ops[lo + n]? = some ⟨some t, .call cc, ty, pos, af, none⟩ := by rfl) (hg : gcallee Try.prog (mkFr l) cc = some (f, gs) := by exact eA4.h {})
    (hJ : G.idls gs = J := by exact eA5.h {}) (hcv : cvts (rhp (mkHp m) J) gs = (c, args.map .p) := by exact eA6.h {}) (ht : t < C.N := by omega)
    (hids : ids ++ [(J, [])] = ids' := by (simp only [List.cons_append, List.nil_append] <;> rfl)) (k : segK C r ops (GPost C Q) lo σ0 ids' (sg ((t, .p v) :: l) m A df)) (hc : c := by simp) : segK C r ops (GPost C Q) lo σ0 ids (sg l m A df) :=
  segK.step (pi := []) hn ho (eff_pcall rfl (gwant_plain rfl) hg hent hcv hc spec (fun t' e => by cases e; exact ht)) rfl (by rw [hids]; exact k)
theorem dpcw (n : Nat) {b' : Bool} {cc : Call} (spec : PSpec Try.prog f args (.ok v)) (hent : Enters Try.prog f) (hn : ids.length = n := by rfl) (ho : ops[lo + n]? = some ⟨some t, .call cc, ty, pos, af, some (j, b)⟩ := by rfl)
    (hj : (ops[j]?).bind (·.dst) = some i := by rfl) (hx : mkFr l i = .p (.bool b') := by (simp only [mkFr_cons, Nat.reduceEqDiff, reduceIte] <;> rfl)) (hb : (b' == b) = true := by rfl) (hg : gcallee Try.prog (mkFr l) cc = some (f, gs) := by exact eA4.h {})
    (hJ : G.idls gs = J := by exact eA5.h {}) (hcv : cvts (rhp (mkHp m) J) gs = (c, args.map .p) := by exact eA6.h {}) (ht : t < C.N := by omega)
    (hids : ids ++ [(J, [])] = ids' := by (simp only [List.cons_append, List.nil_append] <;> rfl)) (k : segK C r ops (GPost C Q) lo σ0 ids' (sg ((t, .p v) :: l) m A df)) (hc : c := by simp) : segK C r ops (GPost C Q) lo σ0 ids (sg l m A df) :=
  segK.step (pi := []) hn ho (eff_pcall rfl ((gwant_at rfl hj hx).trans (by rw [hb])) hg hent hcv hc spec (fun t' e => by cases e; exact ht)) rfl (by rw [hids]; exact k)
theorem dz (n : Nat) (tab : List Nat) (hn : ids.length = n := by rfl) (hsz : lo + n ≤ ops.size := by exact Nat.le_of_ble_eq_true rfl) (hw : waitsB tab ops.toList 0 = true := by kernel_rfl) (hc : cutB tab lo n ops.size = true := by kernel_rfl) (hf : freeB tab ops.toList lo ids = true := by kernel_rfl)
    (h : gany C r ops (GPost C Q) (lo + n) (sg l m A df)) : segK C r ops (GPost C Q) lo σ0 ids (sg l m A df) := segK.stop tab hn hsz hw hc hf h
theorem de (n : Nat) (hn : ops.size = n := by rfl) (h : Q .normal (sg l m A df)) : gany C r ops (GPost C Q) n (sg l m A df) := gany_end hn h
end
theorem rd {idn : Nat} {σ : Sg E} (h : segK C r ops (GPost C Q) 0 σ [] σ) : gwp C r (.region idn ops true) Q σ := gwp_regionD (by kernel_rfl) (segK.start h)

/-! Objects -/
theorem n1 (d : Nat) (mu : Bool) (hg : gsem Try.prog mu d (gev (mkFr l)) (mkHp m) op = some (c, ⟨g, some (i, ob)⟩) := by exact eA1.h {}) (hd : mkHp m d = .none := by (simp only [mkHp_cons, mkHp_nil, Nat.reduceEqDiff, reduceIte])) (hd2 : C.lim ≤ d := by omega) (ht : t < C.N := by omega)
    (hc : c) (k : gops C r ops Q rest (sg ((t, g) :: l) ((i, ob) :: m) A df)) : gops C r ops Q (⟨some t, op, ty, pos, af, none⟩ :: rest) (sg l m A df) := go_n d mu (gwant_plain rfl) hg hd hd2 ht hc k
theorem nw (d : Nat) (mu : Bool) {b' : Bool} {i' : Nat} (hj : (ops[j]?).bind (·.dst) = some i' := by rfl) (hx : mkFr l i' = .p (.bool b') := by (simp only [mkFr_cons, Nat.reduceEqDiff, reduceIte] <;> rfl)) (hb : (b' == b) = true := by rfl) (hg : gsem Try.prog mu d (gev (mkFr l)) (mkHp m) op = some (c, ⟨g, some (i, ob)⟩) := by exact eA1.h {}) (hd : mkHp m d = .none := by (simp only [mkHp_cons, mkHp_nil, Nat.reduceEqDiff, reduceIte])) (hd2 : C.lim ≤ d := by omega) (ht : t < C.N := by omega)
    (hc : c) (k : gops C r ops Q rest (sg ((t, g) :: l) ((i, ob) :: m) A df)) : gops C r ops Q (⟨some t, op, ty, pos, af, some (j, b)⟩ :: rest) (sg l m A df) := go_n d mu ((gwant_at rfl hj hx).trans (by rw [hb])) hg hd hd2 ht hc k
theorem s1 (hg : gsem Try.prog false 99999 (gev (mkFr l)) (mkHp m) op = some (c, ⟨g, some (i, ob)⟩) := by exact eA1.h {}) (hd : mkHp m 99999 = .none := by (simp only [mkHp_cons, mkHp_nil, Nat.reduceEqDiff, reduceIte]))
    (hc : c) (k : gops C r ops Q rest (sg l ((i, ob) :: m) A df)) : gops C r ops Q (⟨none, op, ty, pos, af, none⟩ :: rest) (sg l m A df) := go_s (gwant_plain rfl) hg hd hc k
theorem sw {b' : Bool} {i' : Nat} (hj : (ops[j]?).bind (·.dst) = some i' := by rfl) (hx : mkFr l i' = .p (.bool b') := by (simp only [mkFr_cons, Nat.reduceEqDiff, reduceIte] <;> rfl)) (hb : (b' == b) = true := by rfl) (hg : gsem Try.prog false 99999 (gev (mkFr l)) (mkHp m) op = some (c, ⟨g, some (i, ob)⟩) := by exact eA1.h {}) (hd : mkHp m 99999 = .none := by (simp only [mkHp_cons, mkHp_nil, Nat.reduceEqDiff, reduceIte]))
    (hc : c) (k : gops C r ops Q rest (sg l ((i, ob) :: m) A df)) : gops C r ops Q (⟨none, op, ty, pos, af, some (j, b)⟩ :: rest) (sg l m A df) := go_s ((gwant_at rfl hj hx).trans (by rw [hb])) hg hd hc k
/-! Objects, in any order -/
section
variable {lo : Nat} {σ0 : Sg E} {ids ids' : List (List Nat × List Nat)} {I : List Nat}
theorem dn1 (n : Nat) (d : Nat) (mu : Bool) (hn : ids.length = n := by rfl) (ho : ops[lo + n]? = some ⟨some t, op, ty, pos, af, none⟩ := by rfl) (hI : opIds (gev (mkFr l)) op = I := by exact eA5.h {})
    (hg : gsem Try.prog mu d (gev (mkFr l)) (rhp (mkHp m) I) op = some (c, ⟨g, some (i, ob)⟩) := by exact eA7.h {}) (hd : mkHp m d = .none := by (simp only [mkHp_cons, mkHp_nil, Nat.reduceEqDiff, reduceIte])) (hd2 : C.lim ≤ d := by omega) (ht : t < C.N := by omega) 
    (hi : i ∈ d :: I := by simp) (hids : ids ++ [(d :: I, [i])] = ids' := by (simp only [List.cons_append, List.nil_append] <;> rfl)) (hc : c) (k : segK C r ops (GPost C Q) lo σ0 ids' (sg ((t, g) :: l) ((i, ob) :: m) A df)) : segK C r ops (GPost C Q) lo σ0 ids (sg l m A df) :=
  segK.step (pi := [i]) hn ho (eff_op (d := d) (out := ⟨g, some (i, ob)⟩) (gwant_plain rfl) hg hc hd hd2 (fun p e => by cases e; exact hi) (fun t' e => by cases e; exact ht)) rfl (by rw [hids]; exact k)
theorem dnw (n : Nat) (d : Nat) (mu : Bool) {b' : Bool} {i' : Nat} (hn : ids.length = n := by rfl) (ho : ops[lo + n]? = some ⟨some t, op, ty, pos, af, some (j, b)⟩ := by rfl) (hj : (ops[j]?).bind (·.dst) = some i' := by rfl) (hx : mkFr l i' = .p (.bool b') := by (simp only [mkFr_cons, Nat.reduceEqDiff, reduceIte] <;> rfl)) (hb : (b' == b) = true := by rfl) (hI : opIds (gev (mkFr l)) op = I := by exact eA5.h {})
    (hg : gsem Try.prog mu d (gev (mkFr l)) (rhp (mkHp m) I) op = some (c, ⟨g, some (i, ob)⟩) := by exact eA7.h {}) (hd : mkHp m d = .none := by (simp only [mkHp_cons, mkHp_nil, Nat.reduceEqDiff, reduceIte])) (hd2 : C.lim ≤ d := by omega) (ht : t < C.N := by omega) 
    (hi : i ∈ d :: I := by simp) (hids : ids ++ [(d :: I, [i])] = ids' := by (simp only [List.cons_append, List.nil_append] <;> rfl)) (hc : c) (k : segK C r ops (GPost C Q) lo σ0 ids' (sg ((t, g) :: l) ((i, ob) :: m) A df)) : segK C r ops (GPost C Q) lo σ0 ids (sg l m A df) :=
  segK.step (pi := [i]) hn ho (eff_op (d := d) (out := ⟨g, some (i, ob)⟩) ((gwant_at rfl hj hx).trans (by rw [hb])) hg hc hd hd2 (fun p e => by cases e; exact hi) (fun t' e => by cases e; exact ht)) rfl (by rw [hids]; exact k)
theorem ds1 (n : Nat) (hn : ids.length = n := by rfl) (ho : ops[lo + n]? = some ⟨none, op, ty, pos, af, none⟩ := by rfl) (hI : opIds (gev (mkFr l)) op = I := by exact eA5.h {})
    (hg : gsem Try.prog false 99999 (gev (mkFr l)) (rhp (mkHp m) I) op = some (c, ⟨g, some (i, ob)⟩) := by exact eA7.h {}) (hd : mkHp m 99999 = .none := by (simp only [mkHp_cons, mkHp_nil, Nat.reduceEqDiff, reduceIte])) 
    (hi : i ∈ 99999 :: I := by simp) (hids : ids ++ [(99999 :: I, [i])] = ids' := by (simp only [List.cons_append, List.nil_append] <;> rfl)) (hc : c) (k : segK C r ops (GPost C Q) lo σ0 ids' (sg l ((i, ob) :: m) A df)) : segK C r ops (GPost C Q) lo σ0 ids (sg l m A df) :=
  segK.step (pi := [i]) hn ho (eff_op (d := 99999) (out := ⟨g, some (i, ob)⟩) (gwant_plain rfl) hg hc hd (by have := C.limOk; omega) (fun p e => by cases e; exact hi) (fun t' e => by cases e)) rfl (by rw [hids]; exact k)
theorem dsw (n : Nat) {b' : Bool} {i' : Nat} (hn : ids.length = n := by rfl) (ho : ops[lo + n]? = some ⟨none, op, ty, pos, af, some (j, b)⟩ := by rfl) (hj : (ops[j]?).bind (·.dst) = some i' := by rfl) (hx : mkFr l i' = .p (.bool b') := by (simp only [mkFr_cons, Nat.reduceEqDiff, reduceIte] <;> rfl)) (hb : (b' == b) = true := by rfl) (hI : opIds (gev (mkFr l)) op = I := by exact eA5.h {})
    (hg : gsem Try.prog false 99999 (gev (mkFr l)) (rhp (mkHp m) I) op = some (c, ⟨g, some (i, ob)⟩) := by exact eA7.h {}) (hd : mkHp m 99999 = .none := by (simp only [mkHp_cons, mkHp_nil, Nat.reduceEqDiff, reduceIte])) 
    (hi : i ∈ 99999 :: I := by simp) (hids : ids ++ [(99999 :: I, [i])] = ids' := by (simp only [List.cons_append, List.nil_append] <;> rfl)) (hc : c) (k : segK C r ops (GPost C Q) lo σ0 ids' (sg l ((i, ob) :: m) A df)) : segK C r ops (GPost C Q) lo σ0 ids (sg l m A df) :=
  segK.step (pi := [i]) hn ho (eff_op (d := 99999) (out := ⟨g, some (i, ob)⟩) ((gwant_at rfl hj hx).trans (by rw [hb])) hg hc hd (by have := C.limOk; omega) (fun p e => by cases e; exact hi) (fun t' e => by cases e)) rfl (by rw [hids]; exact k)
end
/-! Calls that hand objects on -/
section
variable {lo : Nat} {σ0 : Sg E} {ids ids' : List (List Nat × List Nat)} {f : FuncId} {gs : List G}
theorem oc0 (L : List (Nat × Nat)) (J : List Nat) (ks : List Nat) (ad : Option (Nat × Ob)) {cc : Call} {gargs : List G} {mc mr m2 ps : List (Nat × Ob)} {g2 : G} (spec : Gh.Spec E f gargs (mkHp mc) A fun x => x = .ok g (mkHp mr) A) (hent : Enters Try.prog f) (hg : gcallee Try.prog (mkFr l) cc = some (f, gs) := by exact eA4.h {})
    (ha : AdoptOk C.lim (mkHp m) L ad := by (first | exact True.intro | (refine ⟨by (simp only [mkHp_cons, mkHp_nil, Nat.reduceEqDiff, reduceIte]), by omega, ⟨_, _, _, rfl⟩, by simp⟩))) (hcv : cvtsM (rhp (mkHp m) J) (ad.map (·.1)) ks gs = some (c, G.rens (Gh.look L) gargs) := by exact eA8.h {}) (hc : c := by simp)
    (n1 : (L.map (·.1)).Nodup := by decide) (n2 : (L.map (·.2)).Nodup := by decide) (n3 : (mc.map (·.1)).Nodup := by simp) (hp1 : pairsP L (adoptH (mkHp m) ad) mc := by (simp only [pairsP, adoptH, Gh.look, Ob.ren, G.rens, G.ren, rens_p, upd, mkHp_cons, mkHp_nil, Nat.reduceEqDiff, reduceIte] <;> simp)) (hp2 : newP C.lim (adoptH (mkHp m) ad) mc L := by (simp [newP, adoptH, upd, mkHp_cons, mkHp_nil] <;> omega))
    (hdis : ∀ d ob, ad = some (d, ob) → d ∉ J := by (intro d ob e; simp at e <;> simp [← e.1])) (hk : keysP L mr := by simp [keysP, Gh.look]) (hs : stayP mr mc := by simp [stayP, mkHp_cons, mkHp_nil]) (ht : t < C.N := by omega) (hgr : g.ren (Gh.look L) = g2 := by (simp only [G.ren, G.rens, Gh.look, Nat.reduceEqDiff, reduceIte] <;> rfl)) (hps : putsOf L (mkHp mr) = ps := by (simp only [putsOf, List.map_cons, List.map_nil, mkHp_cons, mkHp_nil, Nat.reduceEqDiff, reduceIte, Ob.ren, G.ren, G.rens, rens_p, Gh.look] <;> rfl))
    (hm2 : ps.reverse ++ m = m2 := by (simp only [List.reverse_cons, List.reverse_nil, List.nil_append, List.cons_append] <;> rfl)) (k : gops C r ops Q rest (sg ((t, g2) :: l) m2 A df)) : gops C r ops Q (⟨some t, .call cc, ty, pos, af, none⟩ :: rest) (sg l m A df) :=
  gops_eff (eff_call2 rfl (gwant_plain rfl) hg hent ha hcv hc (pairs_mk n1 n2 n3 hp1 hp2) hdis spec (pairsB_mk hk hs) (fun t' e => by cases e; exact ht)) (by rw [hgr, hps]; show gops C r ops Q rest (⟨upd (mkFr l) t g2, putsH (mkHp m) ps, A, df⟩ : Sg E); rw [putsH_mk, hm2]; exact k)
theorem doc0 (n : Nat) (L : List (Nat × Nat)) (J : List Nat) (ks : List Nat) (ad : Option (Nat × Ob)) {cc : Call} {gargs : List G} {mc mr m2 ps : List (Nat × Ob)} {g2 : G} (spec : Gh.Spec E f gargs (mkHp mc) A fun x => x = .ok g (mkHp mr) A) (hent : Enters Try.prog f) (hn : ids.length = n := by rfl) (ho : ops[lo + n]? = some ⟨some t, .call cc, ty, pos, af, none⟩ := by rfl) (hg : gcallee Try.prog (mkFr l) cc = some (f, gs) := by exact eA4.h {})
    (ha : AdoptOk C.lim (mkHp m) L ad := by (first | exact True.intro | (refine ⟨by (simp only [mkHp_cons, mkHp_nil, Nat.reduceEqDiff, reduceIte]), by omega, ⟨_, _, _, rfl⟩, by simp⟩))) (hcv : cvtsM (rhp (mkHp m) J) (ad.map (·.1)) ks gs = some (c, G.rens (Gh.look L) gargs) := by exact eA8.h {}) (hc : c := by simp)
    (n1 : (L.map (·.1)).Nodup := by decide) (n2 : (L.map (·.2)).Nodup := by decide) (n3 : (mc.map (·.1)).Nodup := by simp) (hp1 : pairsP L (adoptH (mkHp m) ad) mc := by (simp only [pairsP, adoptH, Gh.look, Ob.ren, G.rens, G.ren, rens_p, upd, mkHp_cons, mkHp_nil, Nat.reduceEqDiff, reduceIte] <;> simp)) (hp2 : newP C.lim (adoptH (mkHp m) ad) mc L := by (simp [newP, adoptH, upd, mkHp_cons, mkHp_nil] <;> omega))
    (hdis : ∀ d ob, ad = some (d, ob) → d ∉ J := by (intro d ob e; simp at e <;> simp [← e.1])) (hk : keysP L mr := by simp [keysP, Gh.look]) (hs : stayP mr mc := by simp [stayP, mkHp_cons, mkHp_nil]) (ht : t < C.N := by omega) (hgr : g.ren (Gh.look L) = g2 := by (simp only [G.ren, G.rens, Gh.look, Nat.reduceEqDiff, reduceIte] <;> rfl)) (hps : putsOf L (mkHp mr) = ps := by (simp only [putsOf, List.map_cons, List.map_nil, mkHp_cons, mkHp_nil, Nat.reduceEqDiff, reduceIte, Ob.ren, G.ren, G.rens, rens_p, Gh.look] <;> rfl))
    (hm2 : ps.reverse ++ m = m2 := by (simp only [List.reverse_cons, List.reverse_nil, List.nil_append, List.cons_append] <;> rfl)) (hids : ids ++ [(L.map (·.2) ++ J, ps.map (·.1))] = ids' := by (simp only [List.cons_append, List.nil_append, List.map_cons, List.map_nil] <;> rfl)) (k : segK C r ops (GPost C Q) lo σ0 ids' (sg ((t, g2) :: l) m2 A df)) : segK C r ops (GPost C Q) lo σ0 ids (sg l m A df) :=
  segK.step (pi := ps.map (·.1)) hn ho (eff_call2 rfl (gwant_plain rfl) hg hent ha hcv hc (pairs_mk n1 n2 n3 hp1 hp2) hdis spec (pairsB_mk hk hs) (fun t' e => by cases e; exact ht)) (by rw [hps]) (by rw [hids, hgr, hps]; show segK C r ops (GPost C Q) lo σ0 ids' (⟨upd (mkFr l) t g2, putsH (mkHp m) ps, A, df⟩ : Sg E); rw [putsH_mk, hm2]; exact k)
theorem ocw (L : List (Nat × Nat)) (J : List Nat) (ks : List Nat) (ad : Option (Nat × Ob)) {b' : Bool} {i' : Nat} {cc : Call} {gargs : List G} {mc mr m2 ps : List (Nat × Ob)} {g2 : G} (spec : Gh.Spec E f gargs (mkHp mc) A fun x => x = .ok g (mkHp mr) A) (hent : Enters Try.prog f) (hj : (ops[j]?).bind (·.dst) = some i' := by rfl) (hx : mkFr l i' = .p (.bool b') := by (simp only [mkFr_cons, Nat.reduceEqDiff, reduceIte] <;> rfl)) (hb : (b' == b) = true := by rfl) (hg : gcallee Try.prog (mkFr l) cc = some (f, gs) := by exact eA4.h {})
    (ha : AdoptOk C.lim (mkHp m) L ad := by (first | exact True.intro | (refine ⟨by (simp only [mkHp_cons, mkHp_nil, Nat.reduceEqDiff, reduceIte]), by omega, ⟨_, _, _, rfl⟩, by simp⟩))) (hcv : cvtsM (rhp (mkHp m) J) (ad.map (·.1)) ks gs = some (c, G.rens (Gh.look L) gargs) := by exact eA8.h {}) (hc : c := by simp)
    (n1 : (L.map (·.1)).Nodup := by decide) (n2 : (L.map (·.2)).Nodup := by decide) (n3 : (mc.map (·.1)).Nodup := by simp) (hp1 : pairsP L (adoptH (mkHp m) ad) mc := by (simp only [pairsP, adoptH, Gh.look, Ob.ren, G.rens, G.ren, rens_p, upd, mkHp_cons, mkHp_nil, Nat.reduceEqDiff, reduceIte] <;> simp)) (hp2 : newP C.lim (adoptH (mkHp m) ad) mc L := by (simp [newP, adoptH, upd, mkHp_cons, mkHp_nil] <;> omega))
    (hdis : ∀ d ob, ad = some (d, ob) → d ∉ J := by (intro d ob e; simp at e <;> simp [← e.1])) (hk : keysP L mr := by simp [keysP, Gh.look]) (hs : stayP mr mc := by simp [stayP, mkHp_cons, mkHp_nil]) (ht : t < C.N := by omega) (hgr : g.ren (Gh.look L) = g2 := by (simp only [G.ren, G.rens, Gh.look, Nat.reduceEqDiff, reduceIte] <;> rfl)) (hps : putsOf L (mkHp mr) = ps := by (simp only [putsOf, List.map_cons, List.map_nil, mkHp_cons, mkHp_nil, Nat.reduceEqDiff, reduceIte, Ob.ren, G.ren, G.rens, rens_p, Gh.look] <;> rfl))
    (hm2 : ps.reverse ++ m = m2 := by (simp only [List.reverse_cons, List.reverse_nil, List.nil_append, List.cons_append] <;> rfl)) (k : gops C r ops Q rest (sg ((t, g2) :: l) m2 A df)) : gops C r ops Q (⟨some t, .call cc, ty, pos, af, some (j, b)⟩ :: rest) (sg l m A df) :=
  gops_eff (eff_call2 rfl ((gwant_at rfl hj hx).trans (by rw [hb])) hg hent ha hcv hc (pairs_mk n1 n2 n3 hp1 hp2) hdis spec (pairsB_mk hk hs) (fun t' e => by cases e; exact ht)) (by rw [hgr, hps]; show gops C r ops Q rest (⟨upd (mkFr l) t g2, putsH (mkHp m) ps, A, df⟩ : Sg E); rw [putsH_mk, hm2]; exact k)
theorem docw (n : Nat) (L : List (Nat × Nat)) (J : List Nat) (ks : List Nat) (ad : Option (Nat × Ob)) {b' : Bool} {i' : Nat} {cc : Call} {gargs : List G} {mc mr m2 ps : List (Nat × Ob)} {g2 : G} (spec : Gh.Spec E f gargs (mkHp mc) A fun x => x = .ok g (mkHp mr) A) (hent : Enters Try.prog f) (hj : (ops[j]?).bind (·.dst) = some i' := by rfl) (hx : mkFr l i' = .p (.bool b') := by (simp only [mkFr_cons, Nat.reduceEqDiff, reduceIte] <;> rfl)) (hb : (b' == b) = true := by rfl) (hn : ids.length = n := by rfl) (ho : ops[lo + n]? = some ⟨some t, .call cc, ty, pos, af, some (j, b)⟩ := by rfl) (hg : gcallee Try.prog (mkFr l) cc = some (f, gs) := by exact eA4.h {})
    (ha : AdoptOk C.lim (mkHp m) L ad := by (first | exact True.intro | (refine ⟨by (simp only [mkHp_cons, mkHp_nil, Nat.reduceEqDiff, reduceIte]), by omega, ⟨_, _, _, rfl⟩, by simp⟩))) (hcv : cvtsM (rhp (mkHp m) J) (ad.map (·.1)) ks gs = some (c, G.rens (Gh.look L) gargs) := by exact eA8.h {}) (hc : c := by simp)
    (n1 : (L.map (·.1)).Nodup := by decide) (n2 : (L.map (·.2)).Nodup := by decide) (n3 : (mc.map (·.1)).Nodup := by simp) (hp1 : pairsP L (adoptH (mkHp m) ad) mc := by (simp only [pairsP, adoptH, Gh.look, Ob.ren, G.rens, G.ren, rens_p, upd, mkHp_cons, mkHp_nil, Nat.reduceEqDiff, reduceIte] <;> simp)) (hp2 : newP C.lim (adoptH (mkHp m) ad) mc L := by (simp [newP, adoptH, upd, mkHp_cons, mkHp_nil] <;> omega))
    (hdis : ∀ d ob, ad = some (d, ob) → d ∉ J := by (intro d ob e; simp at e <;> simp [← e.1])) (hk : keysP L mr := by simp [keysP, Gh.look]) (hs : stayP mr mc := by simp [stayP, mkHp_cons, mkHp_nil]) (ht : t < C.N := by omega) (hgr : g.ren (Gh.look L) = g2 := by (simp only [G.ren, G.rens, Gh.look, Nat.reduceEqDiff, reduceIte] <;> rfl)) (hps : putsOf L (mkHp mr) = ps := by (simp only [putsOf, List.map_cons, List.map_nil, mkHp_cons, mkHp_nil, Nat.reduceEqDiff, reduceIte, Ob.ren, G.ren, G.rens, rens_p, Gh.look] <;> rfl))
    (hm2 : ps.reverse ++ m = m2 := by (simp only [List.reverse_cons, List.reverse_nil, List.nil_append, List.cons_append] <;> rfl)) (hids : ids ++ [(L.map (·.2) ++ J, ps.map (·.1))] = ids' := by (simp only [List.cons_append, List.nil_append, List.map_cons, List.map_nil] <;> rfl)) (k : segK C r ops (GPost C Q) lo σ0 ids' (sg ((t, g2) :: l) m2 A df)) : segK C r ops (GPost C Q) lo σ0 ids (sg l m A df) :=
  segK.step (pi := ps.map (·.1)) hn ho (eff_call2 rfl ((gwant_at rfl hj hx).trans (by rw [hb])) hg hent ha hcv hc (pairs_mk n1 n2 n3 hp1 hp2) hdis spec (pairsB_mk hk hs) (fun t' e => by cases e; exact ht)) (by rw [hps]) (by rw [hids, hgr, hps]; show segK C r ops (GPost C Q) lo σ0 ids' (⟨upd (mkFr l) t g2, putsH (mkHp m) ps, A, df⟩ : Sg E); rw [putsH_mk, hm2]; exact k)
end
section
variable {f : FuncId} {gs : List G}
theorem on0 {X : Type} (L : List (Nat × Nat)) (J : List Nat) (ks : List Nat) (ad : Option (Nat × Ob)) {cc : Call} {gargs : List G} {mc : List (Nat × Ob)} {F : X → Prop} {gv g2 : X → G} {mr m2 ps : X → List (Nat × Ob)} {ga : X → E.α} (spec : Gh.Spec E f gargs (mkHp mc) A fun y => ∃ x, F x ∧ y = .ok (gv x) (mkHp (mr x)) (ga x)) (hent : Enters Try.prog f) (hg : gcallee Try.prog (mkFr l) cc = some (f, gs) := by exact eA4.h {})
    (ha : AdoptOk C.lim (mkHp m) L ad := by (first | exact True.intro | (refine ⟨by (simp only [mkHp_cons, mkHp_nil, Nat.reduceEqDiff, reduceIte]), by omega, ⟨_, _, _, rfl⟩, by simp⟩))) (hcv : cvtsM (rhp (mkHp m) J) (ad.map (·.1)) ks gs = some (c, G.rens (Gh.look L) gargs) := by exact eA8.h {}) (hc : c := by simp)
    (n1 : (L.map (·.1)).Nodup := by decide) (n2 : (L.map (·.2)).Nodup := by decide) (n3 : (mc.map (·.1)).Nodup := by simp) (hp1 : pairsP L (adoptH (mkHp m) ad) mc := by (simp only [pairsP, adoptH, Gh.look, Ob.ren, G.rens, G.ren, rens_p, upd, mkHp_cons, mkHp_nil, Nat.reduceEqDiff, reduceIte] <;> simp)) (hp2 : newP C.lim (adoptH (mkHp m) ad) mc L := by (simp [newP, adoptH, upd, mkHp_cons, mkHp_nil] <;> omega))
    (hdis : ∀ d ob, ad = some (d, ob) → d ∉ J := by (intro d ob e; simp at e <;> simp [← e.1])) (hk : ∀ x, keysP L (mr x) := by (intro x; simp [keysP, Gh.look])) (hs : ∀ x, stayP (mr x) mc := by (intro x; simp [stayP, mkHp_cons, mkHp_nil])) (ht : t < C.N := by omega) (hgr : ∀ x, (gv x).ren (Gh.look L) = g2 x := by (intro x; simp only [G.ren, G.rens, Gh.look, Nat.reduceEqDiff, reduceIte] <;> rfl)) (hps : ∀ x, putsOf L (mkHp (mr x)) = ps x := by (intro x; simp only [putsOf, List.map_cons, List.map_nil, mkHp_cons, mkHp_nil, Nat.reduceEqDiff, reduceIte, Ob.ren, G.ren, G.rens, rens_p, Gh.look] <;> rfl))
    (hm2 : ∀ x, (ps x).reverse ++ m = m2 x := by (intro x; simp only [List.reverse_cons, List.reverse_nil, List.nil_append, List.cons_append] <;> rfl)) (k : ∀ x, F x → gops C r ops Q rest (sg ((t, g2 x) :: l) (m2 x) (ga x) df)) : gops C r ops Q (⟨some t, .call cc, ty, pos, af, none⟩ :: rest) (sg l m A df) :=
  go_calln spec hent (gwant_plain rfl) hg ha hcv hc (pairs_mk n1 n2 n3 hp1 hp2) hdis (fun x _ => pairsB_mk (hk x) (hs x)) ht fun x hx => by rw [hgr, hps]; show gops C r ops Q rest (⟨upd (mkFr l) t (g2 x), putsH (mkHp m) (ps x), ga x, df⟩ : Sg E); rw [putsH_mk, hm2]; exact k x hx
theorem onw {X : Type} (L : List (Nat × Nat)) (J : List Nat) (ks : List Nat) (ad : Option (Nat × Ob)) {b' : Bool} {i' : Nat} {cc : Call} {gargs : List G} {mc : List (Nat × Ob)} {F : X → Prop} {gv g2 : X → G} {mr m2 ps : X → List (Nat × Ob)} {ga : X → E.α} (spec : Gh.Spec E f gargs (mkHp mc) A fun y => ∃ x, F x ∧ y = .ok (gv x) (mkHp (mr x)) (ga x)) (hent : Enters Try.prog f) (hj : (ops[j]?).bind (·.dst) = some i' := by rfl) (hx : mkFr l i' = .p (.bool b') := by (simp only [mkFr_cons, Nat.reduceEqDiff, reduceIte] <;> rfl)) (hb : (b' == b) = true := by rfl) (hg : gcallee Try.prog (mkFr l) cc = some (f, gs) := by exact eA4.h {})
    (ha : AdoptOk C.lim (mkHp m) L ad := by (first | exact True.intro | (refine ⟨by (simp only [mkHp_cons, mkHp_nil, Nat.reduceEqDiff, reduceIte]), by omega, ⟨_, _, _, rfl⟩, by simp⟩))) (hcv : cvtsM (rhp (mkHp m) J) (ad.map (·.1)) ks gs = some (c, G.rens (Gh.look L) gargs) := by exact eA8.h {}) (hc : c := by simp)
    (n1 : (L.map (·.1)).Nodup := by decide) (n2 : (L.map (·.2)).Nodup := by decide) (n3 : (mc.map (·.1)).Nodup := by simp) (hp1 : pairsP L (adoptH (mkHp m) ad) mc := by (simp only [pairsP, adoptH, Gh.look, Ob.ren, G.rens, G.ren, rens_p, upd, mkHp_cons, mkHp_nil, Nat.reduceEqDiff, reduceIte] <;> simp)) (hp2 : newP C.lim (adoptH (mkHp m) ad) mc L := by (simp [newP, adoptH, upd, mkHp_cons, mkHp_nil] <;> omega))
    (hdis : ∀ d ob, ad = some (d, ob) → d ∉ J := by (intro d ob e; simp at e <;> simp [← e.1])) (hk : ∀ x, keysP L (mr x) := by (intro x; simp [keysP, Gh.look])) (hs : ∀ x, stayP (mr x) mc := by (intro x; simp [stayP, mkHp_cons, mkHp_nil])) (ht : t < C.N := by omega) (hgr : ∀ x, (gv x).ren (Gh.look L) = g2 x := by (intro x; simp only [G.ren, G.rens, Gh.look, Nat.reduceEqDiff, reduceIte] <;> rfl)) (hps : ∀ x, putsOf L (mkHp (mr x)) = ps x := by (intro x; simp only [putsOf, List.map_cons, List.map_nil, mkHp_cons, mkHp_nil, Nat.reduceEqDiff, reduceIte, Ob.ren, G.ren, G.rens, rens_p, Gh.look] <;> rfl))
    (hm2 : ∀ x, (ps x).reverse ++ m = m2 x := by (intro x; simp only [List.reverse_cons, List.reverse_nil, List.nil_append, List.cons_append] <;> rfl)) (k : ∀ x, F x → gops C r ops Q rest (sg ((t, g2 x) :: l) (m2 x) (ga x) df)) : gops C r ops Q (⟨some t, .call cc, ty, pos, af, some (j, b)⟩ :: rest) (sg l m A df) :=
  go_calln spec hent ((gwant_at rfl hj hx).trans (by rw [hb])) hg ha hcv hc (pairs_mk n1 n2 n3 hp1 hp2) hdis (fun x _ => pairsB_mk (hk x) (hs x)) ht fun x hx => by rw [hgr, hps]; show gops C r ops Q rest (⟨upd (mkFr l) t (g2 x), putsH (mkHp m) (ps x), ga x, df⟩ : Sg E); rw [putsH_mk, hm2]; exact k x hx
theorem don0 {X : Type} (n : Nat) (tab : List Nat) (L : List (Nat × Nat)) (J : List Nat) (ks : List Nat) (ad : Option (Nat × Ob)) {cc : Call} {gargs : List G} {mc : List (Nat × Ob)} {F : X → Prop} {gv g2 : X → G} {mr m2 ps : X → List (Nat × Ob)} {ga : X → E.α} (spec : Gh.Spec E f gargs (mkHp mc) A fun y => ∃ x, F x ∧ y = .ok (gv x) (mkHp (mr x)) (ga x)) (hent : Enters Try.prog f) (ho : ops[n]? = some ⟨some t, .call cc, ty, pos, af, none⟩ := by rfl) (hwt : waitsB tab ops.toList 0 = true := by kernel_rfl) (hct : cutB tab n 1 ops.size = true := by kernel_rfl) (hg : gcallee Try.prog (mkFr l) cc = some (f, gs) := by exact eA4.h {})
    (ha : AdoptOk C.lim (mkHp m) L ad := by (first | exact True.intro | (refine ⟨by (simp only [mkHp_cons, mkHp_nil, Nat.reduceEqDiff, reduceIte]), by omega, ⟨_, _, _, rfl⟩, by simp⟩))) (hcv : cvtsM (rhp (mkHp m) J) (ad.map (·.1)) ks gs = some (c, G.rens (Gh.look L) gargs) := by exact eA8.h {}) (hc : c := by simp)
    (n1 : (L.map (·.1)).Nodup := by decide) (n2 : (L.map (·.2)).Nodup := by decide) (n3 : (mc.map (·.1)).Nodup := by simp) (hp1 : pairsP L (adoptH (mkHp m) ad) mc := by (simp only [pairsP, adoptH, Gh.look, Ob.ren, G.rens, G.ren, rens_p, upd, mkHp_cons, mkHp_nil, Nat.reduceEqDiff, reduceIte] <;> simp)) (hp2 : newP C.lim (adoptH (mkHp m) ad) mc L := by (simp [newP, adoptH, upd, mkHp_cons, mkHp_nil] <;> omega))
    (hdis : ∀ d ob, ad = some (d, ob) → d ∉ J := by (intro d ob e; simp at e <;> simp [← e.1])) (hk : ∀ x, keysP L (mr x) := by (intro x; simp [keysP, Gh.look])) (hs : ∀ x, stayP (mr x) mc := by (intro x; simp [stayP, mkHp_cons, mkHp_nil])) (ht : t < C.N := by omega) (hgr : ∀ x, (gv x).ren (Gh.look L) = g2 x := by (intro x; simp only [G.ren, G.rens, Gh.look, Nat.reduceEqDiff, reduceIte] <;> rfl)) (hps : ∀ x, putsOf L (mkHp (mr x)) = ps x := by (intro x; simp only [putsOf, List.map_cons, List.map_nil, mkHp_cons, mkHp_nil, Nat.reduceEqDiff, reduceIte, Ob.ren, G.ren, G.rens, rens_p, Gh.look] <;> rfl))
    (hm2 : ∀ x, (ps x).reverse ++ m = m2 x := by (intro x; simp only [List.reverse_cons, List.reverse_nil, List.nil_append, List.cons_append] <;> rfl)) (k : ∀ x, F x → gany C r ops (GPost C Q) (n + 1) (sg ((t, g2 x) :: l) (m2 x) (ga x) df)) : gany C r ops (GPost C Q) n (sg l m A df) :=
  gany_go tab ho hwt hct fun K hK => effN_calln2 spec hent (gwant_plain rfl) hg ha hcv hc (pairs_mk n1 n2 n3 hp1 hp2) hdis (fun x _ => pairsB_mk (hk x) (hs x)) ht fun x hx => by rw [hgr, hps]; show K (⟨upd (mkFr l) t (g2 x), putsH (mkHp m) (ps x), ga x, df⟩ : Sg E); rw [putsH_mk, hm2]; exact hK _ (k x hx)
theorem donw {X : Type} (n : Nat) (tab : List Nat) (L : List (Nat × Nat)) (J : List Nat) (ks : List Nat) (ad : Option (Nat × Ob)) {b' : Bool} {i' : Nat} {cc : Call} {gargs : List G} {mc : List (Nat × Ob)} {F : X → Prop} {gv g2 : X → G} {mr m2 ps : X → List (Nat × Ob)} {ga : X → E.α} (spec : Gh.Spec E f gargs (mkHp mc) A fun y => ∃ x, F x ∧ y = .ok (gv x) (mkHp (mr x)) (ga x)) (hent : Enters Try.prog f) (ho : ops[n]? = some ⟨some t, .call cc, ty, pos, af, some (j, b)⟩ := by rfl) (hwt : waitsB tab ops.toList 0 = true := by kernel_rfl) (hct : cutB tab n 1 ops.size = true := by kernel_rfl) (hj : (ops[j]?).bind (·.dst) = some i' := by rfl) (hx : mkFr l i' = .p (.bool b') := by (simp only [mkFr_cons, Nat.reduceEqDiff, reduceIte] <;> rfl)) (hb : (b' == b) = true := by rfl) (hg : gcallee Try.prog (mkFr l) cc = some (f, gs) := by exact eA4.h {})
    (ha : AdoptOk C.lim (mkHp m) L ad := by (first | exact True.intro | (refine ⟨by (simp only [mkHp_cons, mkHp_nil, Nat.reduceEqDiff, reduceIte]), by omega, ⟨_, _, _, rfl⟩, by simp⟩))) (hcv : cvtsM (rhp (mkHp m) J) (ad.map (·.1)) ks gs = some (c, G.rens (Gh.look L) gargs) := by exact eA8.h {}) (hc : c := by simp)
    (n1 : (L.map (·.1)).Nodup := by decide) (n2 : (L.map (·.2)).Nodup := by decide) (n3 : (mc.map (·.1)).Nodup := by simp) (hp1 : pairsP L (adoptH (mkHp m) ad) mc := by (simp only [pairsP, adoptH, Gh.look, Ob.ren, G.rens, G.ren, rens_p, upd, mkHp_cons, mkHp_nil, Nat.reduceEqDiff, reduceIte] <;> simp)) (hp2 : newP C.lim (adoptH (mkHp m) ad) mc L := by (simp [newP, adoptH, upd, mkHp_cons, mkHp_nil] <;> omega))
    (hdis : ∀ d ob, ad = some (d, ob) → d ∉ J := by (intro d ob e; simp at e <;> simp [← e.1])) (hk : ∀ x, keysP L (mr x) := by (intro x; simp [keysP, Gh.look])) (hs : ∀ x, stayP (mr x) mc := by (intro x; simp [stayP, mkHp_cons, mkHp_nil])) (ht : t < C.N := by omega) (hgr : ∀ x, (gv x).ren (Gh.look L) = g2 x := by (intro x; simp only [G.ren, G.rens, Gh.look, Nat.reduceEqDiff, reduceIte] <;> rfl)) (hps : ∀ x, putsOf L (mkHp (mr x)) = ps x := by (intro x; simp only [putsOf, List.map_cons, List.map_nil, mkHp_cons, mkHp_nil, Nat.reduceEqDiff, reduceIte, Ob.ren, G.ren, G.rens, rens_p, Gh.look] <;> rfl))
    (hm2 : ∀ x, (ps x).reverse ++ m = m2 x := by (intro x; simp only [List.reverse_cons, List.reverse_nil, List.nil_append, List.cons_append] <;> rfl)) (k : ∀ x, F x → gany C r ops (GPost C Q) (n + 1) (sg ((t, g2 x) :: l) (m2 x) (ga x) df)) : gany C r ops (GPost C Q) n (sg l m A df) :=
  gany_go tab ho hwt hct fun K hK => effN_calln2 spec hent ((gwant_at rfl hj hx).trans (by rw [hb])) hg ha hcv hc (pairs_mk n1 n2 n3 hp1 hp2) hdis (fun x _ => pairsB_mk (hk x) (hs x)) ht fun x hx => by rw [hgr, hps]; show K (⟨upd (mkFr l) t (g2 x), putsH (mkHp m) (ps x), ga x, df⟩ : Sg E); rw [putsH_mk, hm2]; exact hK _ (k x hx)
theorem dst {n : Nat} (h : segK C r ops (GPost C Q) n (sg l m A df : Sg E) [] (sg l m A df)) : gany C r ops (GPost C Q) n (sg l m A df) := segK.start h
theorem dy0 (n : Nat) (tab : List Nat) {cl : Call} {gs : List G} {xs : List P} {x : Operand} (ho : ops[n]? = some ⟨some t, .call cl, ty, pos, af, none⟩ := by rfl) (hwt : waitsB tab ops.toList 0 = true := by kernel_rfl) (hct : cutB tab n 1 ops.size = true := by kernel_rfl) (hx : cl.callee = .value x := by rfl) (hy : gev (mkFr l) x = .abs := by (simp only [gev, mkFr_cons, Nat.reduceEqDiff, reduceIte] <;> rfl)) (hgs : cl.args.toList.map (gev (mkFr l)) = gs := by exact eA9.h {})
    (hJ : G.idls gs = J := by exact eA5.h {}) (hcv : cvts (rhp (mkHp m) J) gs = (c, xs.map .p) := by exact eA6.h {}) (hcan : E.Can A xs) (hc : c := by simp) (ht : t < C.N := by omega)
    (k : ∀ b A', E.Y A xs (.b b) A' → gany C r ops (GPost C Q) (n + 1) (sg ((t, .p (.bool b)) :: l) m A' df)) (kp : ∀ p A', E.Y A xs (.p p) A' → Q (.panic p) (sg l m A' df)) : gany C r ops (GPost C Q) n (sg l m A df) :=
  gany_go tab ho hwt hct fun K hK => effN_yield2 hx (gwant_plain rfl) hy hgs hcv hc hcan ht (fun b A' h => hK _ (k b A' h)) kp
theorem dyw (n : Nat) (tab : List Nat) {cl : Call} {gs : List G} {xs : List P} {x : Operand} {b' : Bool} {i' : Nat} (ho : ops[n]? = some ⟨some t, .call cl, ty, pos, af, some (j, b)⟩ := by rfl) (hwt : waitsB tab ops.toList 0 = true := by kernel_rfl) (hct : cutB tab n 1 ops.size = true := by kernel_rfl) (hx : cl.callee = .value x := by rfl) (hj : (ops[j]?).bind (·.dst) = some i' := by rfl) (hx2 : mkFr l i' = .p (.bool b') := by (simp only [mkFr_cons, Nat.reduceEqDiff, reduceIte] <;> rfl)) (hb : (b' == b) = true := by rfl) (hy : gev (mkFr l) x = .abs := by (simp only [gev, mkFr_cons, Nat.reduceEqDiff, reduceIte] <;> rfl)) (hgs : cl.args.toList.map (gev (mkFr l)) = gs := by exact eA9.h {})
    (hJ : G.idls gs = J := by exact eA5.h {}) (hcv : cvts (rhp (mkHp m) J) gs = (c, xs.map .p) := by exact eA6.h {}) (hcan : E.Can A xs) (hc : c := by simp) (ht : t < C.N := by omega)
    (k : ∀ b A', E.Y A xs (.b b) A' → gany C r ops (GPost C Q) (n + 1) (sg ((t, .p (.bool b)) :: l) m A' df)) (kp : ∀ p A', E.Y A xs (.p p) A' → Q (.panic p) (sg l m A' df)) : gany C r ops (GPost C Q) n (sg l m A df) :=
  gany_go tab ho hwt hct fun K hK => effN_yield2 hx ((gwant_at rfl hj hx2).trans (by rw [hb])) hy hgs hcv hc hcan ht (fun b A' h => hK _ (k b A' h)) kp
theorem op0 (L : List (Nat × Nat)) (J : List Nat) (ks : List Nat) (ad : Option (Nat × Ob)) {cc : Call} {gargs : List G} {mc mr m2 ps : List (Nat × Ob)} {v : P} (spec : Gh.Spec E f gargs (mkHp mc) A fun y => y = .panic v (mkHp mr) A) (hent : Enters Try.prog f) (hg : gcallee Try.prog (mkFr l) cc = some (f, gs) := by exact eA4.h {})
    (ha : AdoptOk C.lim (mkHp m) L ad := by (first | exact True.intro | (refine ⟨by (simp only [mkHp_cons, mkHp_nil, Nat.reduceEqDiff, reduceIte]), by omega, ⟨_, _, _, rfl⟩, by simp⟩))) (hcv : cvtsM (rhp (mkHp m) J) (ad.map (·.1)) ks gs = some (c, G.rens (Gh.look L) gargs) := by exact eA8.h {}) (hc : c := by simp)
    (n1 : (L.map (·.1)).Nodup := by decide) (n2 : (L.map (·.2)).Nodup := by decide) (n3 : (mc.map (·.1)).Nodup := by simp) (hp1 : pairsP L (adoptH (mkHp m) ad) mc := by (simp only [pairsP, adoptH, Gh.look, Ob.ren, G.rens, G.ren, rens_p, upd, mkHp_cons, mkHp_nil, Nat.reduceEqDiff, reduceIte] <;> simp)) (hp2 : newP C.lim (adoptH (mkHp m) ad) mc L := by (simp [newP, adoptH, upd, mkHp_cons, mkHp_nil] <;> omega))
    (hdis : ∀ d ob, ad = some (d, ob) → d ∉ J := by (intro d ob e; simp at e <;> simp [← e.1])) (hk : keysP L mr := by simp [keysP, Gh.look]) (hs : stayP mr mc := by simp [stayP, mkHp_cons, mkHp_nil]) (ht : t < C.N := by omega) (hps : putsOf L (mkHp mr) = ps := by (simp only [putsOf, List.map_cons, List.map_nil, mkHp_cons, mkHp_nil, Nat.reduceEqDiff, reduceIte, Ob.ren, G.ren, G.rens, rens_p, Gh.look] <;> rfl))
    (hm2 : ps.reverse ++ m = m2 := by (simp only [List.reverse_cons, List.reverse_nil, List.nil_append, List.cons_append] <;> rfl)) (k : Q (.panic v) (sg l m2 A df)) : gops C r ops Q (⟨some t, .call cc, ty, pos, af, none⟩ :: rest) (sg l m A df) :=
  go_callp spec hent (gwant_plain rfl) hg ha hcv hc (pairs_mk n1 n2 n3 hp1 hp2) hdis (pairsB_mk hk hs) ht (by rw [hps]; show Q (.panic v) (⟨mkFr l, putsH (mkHp m) ps, A, df⟩ : Sg E); rw [putsH_mk, hm2]; exact k)
theorem opw (L : List (Nat × Nat)) (J : List Nat) (ks : List Nat) (ad : Option (Nat × Ob)) {b' : Bool} {i' : Nat} {cc : Call} {gargs : List G} {mc mr m2 ps : List (Nat × Ob)} {v : P} (spec : Gh.Spec E f gargs (mkHp mc) A fun y => y = .panic v (mkHp mr) A) (hent : Enters Try.prog f) (hj : (ops[j]?).bind (·.dst) = some i' := by rfl) (hx : mkFr l i' = .p (.bool b') := by (simp only [mkFr_cons, Nat.reduceEqDiff, reduceIte] <;> rfl)) (hb : (b' == b) = true := by rfl) (hg : gcallee Try.prog (mkFr l) cc = some (f, gs) := by exact eA4.h {})
    (ha : AdoptOk C.lim (mkHp m) L ad := by (first | exact True.intro | (refine ⟨by (simp only [mkHp_cons, mkHp_nil, Nat.reduceEqDiff, reduceIte]), by omega, ⟨_, _, _, rfl⟩, by simp⟩))) (hcv : cvtsM (rhp (mkHp m) J) (ad.map (·.1)) ks gs = some (c, G.rens (Gh.look L) gargs) := by exact eA8.h {}) (hc : c := by simp)
    (n1 : (L.map (·.1)).Nodup := by decide) (n2 : (L.map (·.2)).Nodup := by decide) (n3 : (mc.map (·.1)).Nodup := by simp) (hp1 : pairsP L (adoptH (mkHp m) ad) mc := by (simp only [pairsP, adoptH, Gh.look, Ob.ren, G.rens, G.ren, rens_p, upd, mkHp_cons, mkHp_nil, Nat.reduceEqDiff, reduceIte] <;> simp)) (hp2 : newP C.lim (adoptH (mkHp m) ad) mc L := by (simp [newP, adoptH, upd, mkHp_cons, mkHp_nil] <;> omega))
    (hdis : ∀ d ob, ad = some (d, ob) → d ∉ J := by (intro d ob e; simp at e <;> simp [← e.1])) (hk : keysP L mr := by simp [keysP, Gh.look]) (hs : stayP mr mc := by simp [stayP, mkHp_cons, mkHp_nil]) (ht : t < C.N := by omega) (hps : putsOf L (mkHp mr) = ps := by (simp only [putsOf, List.map_cons, List.map_nil, mkHp_cons, mkHp_nil, Nat.reduceEqDiff, reduceIte, Ob.ren, G.ren, G.rens, rens_p, Gh.look] <;> rfl))
    (hm2 : ps.reverse ++ m = m2 := by (simp only [List.reverse_cons, List.reverse_nil, List.nil_append, List.cons_append] <;> rfl)) (k : Q (.panic v) (sg l m2 A df)) : gops C r ops Q (⟨some t, .call cc, ty, pos, af, some (j, b)⟩ :: rest) (sg l m A df) :=
  go_callp spec hent ((gwant_at rfl hj hx).trans (by rw [hb])) hg ha hcv hc (pairs_mk n1 n2 n3 hp1 hp2) hdis (pairsB_mk hk hs) ht (by rw [hps]; show Q (.panic v) (⟨mkFr l, putsH (mkHp m) ps, A, df⟩ : Sg E); rw [putsH_mk, hm2]; exact k)
end
theorem fh (I : List Nat) {fn : Func} {R : GRes E → Prop} {d : Prop} {m' : List (Nat × Ob)} {x1 : ResultVar} (hrs : fn.results.toList = [x1] := by rfl) (hg : gresult Try.prog (mkHp m) (mkFr l) [x1] = some (d, g) := by exact eA10.h {}) (hd : d := by simp)
    (hm : restrictL I m = m' := by exact eA3.h {}) (h1 : subB g.idl I = true := by exact eA3.h {}) (h3 : subB (hpIds m I) I = true := by exact eA3.h {}) (hne : ∀ i ∈ I, mkHp m i ≠ .none := by simp [mkHp_cons, mkHp_nil]) (hR : R (.ok g (mkHp m') A)) : Fin Try.prog fn R (sg l m A []) :=
  fin_h (by rw [hrs]; exact hg) hd hm h1 h3 hne hR
theorem fh2 (I : List Nat) {fn : Func} {R : GRes E → Prop} {d : Prop} {m' : List (Nat × Ob)} {x1 x2 : ResultVar} (hrs : fn.results.toList = [x1, x2] := by rfl) (hg : gresult Try.prog (mkHp m) (mkFr l) [x1, x2] = some (d, g) := by exact eA10.h {}) (hd : d := by simp)
    (hm : restrictL I m = m' := by exact eA3.h {}) (h1 : subB g.idl I = true := by exact eA3.h {}) (h3 : subB (hpIds m I) I = true := by exact eA3.h {}) (hne : ∀ i ∈ I, mkHp m i ≠ .none := by simp [mkHp_cons, mkHp_nil]) (hR : R (.ok g (mkHp m') A)) : Fin Try.prog fn R (sg l m A []) :=
  fin_h (by rw [hrs]; exact hg) hd hm h1 h3 hne hR
theorem fh0 (I : List Nat) {fn : Func} {R : GRes E → Prop} {d : Prop} {m' : List (Nat × Ob)}  (hrs : fn.results.toList = [] := by rfl) (hg : gresult Try.prog (mkHp m) (mkFr l) [] = some (d, g) := by exact eA10.h {}) (hd : d := by simp)
    (hm : restrictL I m = m' := by exact eA3.h {}) (h1 : subB g.idl I = true := by exact eA3.h {}) (h3 : subB (hpIds m I) I = true := by exact eA3.h {}) (hne : ∀ i ∈ I, mkHp m i ≠ .none := by simp [mkHp_cons, mkHp_nil]) (hR : R (.ok g (mkHp m') A)) : Fin Try.prog fn R (sg l m A []) :=
  fin_h (by rw [hrs]; exact hg) hd hm h1 h3 hne hR
/-! The end -/
theorem fp {fn : Func} {R : GRes E → Prop} {d d' : Prop} {v : P} {x1 : ResultVar} (hrs : fn.results.toList = [x1] := by rfl) (hg : gresult Try.prog (mkHp m) (mkFr l) [x1] = some (d, g) := by exact eA10.h {})
    (hp : toP (mkHp m) g = some (d', v) := by (simp only [toP, toPs, mkHp_cons, mkHp_nil, Nat.reduceEqDiff, reduceIte, and_true, true_and] <;> rfl)) (hR : R (.ok (.p v) (mkHp []) A)) (hd : d := by simp) (hd' : d' := by simp) : Fin Try.prog fn R (sg l m A []) := fin_p (by rw [hrs]; exact hg) hd hp hd' hR
theorem fp2 {fn : Func} {R : GRes E → Prop} {d d' : Prop} {v : P} {x1 x2 : ResultVar} (hrs : fn.results.toList = [x1, x2] := by rfl) (hg : gresult Try.prog (mkHp m) (mkFr l) [x1, x2] = some (d, g) := by exact eA10.h {})
    (hp : toP (mkHp m) g = some (d', v) := by (simp only [toP, toPs, mkHp_cons, mkHp_nil, Nat.reduceEqDiff, reduceIte, and_true, true_and] <;> rfl)) (hR : R (.ok (.p v) (mkHp []) A)) (hd : d := by simp) (hd' : d' := by simp) : Fin Try.prog fn R (sg l m A []) := fin_p (by rw [hrs]; exact hg) hd hp hd' hR
theorem fp0 {fn : Func} {R : GRes E → Prop} {d d' : Prop} {v : P}  (hrs : fn.results.toList = [] := by rfl) (hg : gresult Try.prog (mkHp m) (mkFr l) [] = some (d, g) := by exact eA10.h {})
    (hp : toP (mkHp m) g = some (d', v) := by (simp only [toP, toPs, mkHp_cons, mkHp_nil, Nat.reduceEqDiff, reduceIte, and_true, true_and] <;> rfl)) (hR : R (.ok (.p v) (mkHp []) A)) (hd : d := by simp) (hd' : d' := by simp) : Fin Try.prog fn R (sg l m A []) := fin_p (by rw [hrs]; exact hg) hd hp hd' hR
theorem lend (vs : List Nat) {m' : List (Nat × Ob)} {n n' : Nat} {IV : Nat → Sg E → Prop} {I : List Nat} (hl : (vs.map fun v => (v, mkFr l v)) = l' := by (simp only [List.map_cons, List.map_nil, mkFr_cons, mkFr_nil, Nat.reduceEqDiff, reduceIte] <;> rfl)) (hI : reach l' m df = I := by exact eA2.h {}) (hm : restrictL I m = m' := by exact eA3.h {})
    (h1 : subB (frIds l') I = true := by exact eA3.h {}) (h2 : subB (dfIds df) I = true := by exact eA3.h {}) (h3 : subB (hpIds m I) I = true := by exact eA3.h {}) (h : n' < n) (hV : IV n' (sg l' m' A df)) :
    gthen (fun σ' => ∃ n' σ'', n' < n ∧ Le C σ' σ'' ∧ IV n' σ'') Q .normal (sg l m A df : Sg E) := ⟨n', _, h, le_clean2 vs hl hm h1 h2 h3, hV⟩
theorem lbeg (vs : List Nat) {m' : List (Nat × Ob)} {IV : Nat → Sg E → Prop} {I : List Nat} (hl : (vs.map fun v => (v, mkFr l v)) = l' := by (simp only [List.map_cons, List.map_nil, mkFr_cons, mkFr_nil, Nat.reduceEqDiff, reduceIte] <;> rfl)) (hI : reach l' m df = I := by exact eA2.h {}) (hm : restrictL I m = m' := by exact eA3.h {})
    (h1 : subB (frIds l') I = true := by exact eA3.h {}) (h2 : subB (dfIds df) I = true := by exact eA3.h {}) (h3 : subB (hpIds m I) I = true := by exact eA3.h {}) (hV : ∃ n, IV n (sg l' m' A df)) :
    ∃ n σ'', Le C (sg l m A df : Sg E) σ'' ∧ IV n σ'' := by
  obtain ⟨n, hV⟩ := hV
  exact ⟨n, _, le_clean2 vs hl hm h1 h2 h3, hV⟩
/-! Freezing, reading otherwise -/
theorem fz (id n : Nat) (ss : List Sp) {cs cs1 cs2 : List G} {fz : Nat} (ho : mkHp m id = .cells cs fz := by (simp only [mkHp_cons, mkHp_nil, Nat.reduceEqDiff, reduceIte] <;> rfl)) (hcv : cvSs (mkHp m) ss (cs.take n) = some (c, cs1) := by exact eA11.h {}) (he : cs1 ++ cs.drop n = cs2 := by exact eA11.h {}) (hn : fz ≤ n := by omega) (hn2 : n ≤ cs.length := by simp)
    (hc : c := by simp [allOne, G.one, P.one]) (h1 : allOne cs1 = true := by simp [allOne, G.one, P.one]) (k : gwp C r cd Q (sg l ((id, .cells cs2 n) :: m) A df)) : gwp C r cd Q (sg l m A df) := gc_freeze id n ss ho hcv he hn hn2 hc h1 k
theorem cv (t : Nat) (s : Sp) (hcv : cvS (mkHp m) s (mkFr l t) = some (c, g) := by exact eA11.h {}) (hc : c := by simp [allOne, G.one, P.one]) (k : gwp C r cd Q (sg ((t, g) :: l) m A df)) : gwp C r cd Q (sg l m A df) := gc_conv t s hcv hc k
theorem ofz (id n : Nat) (ss : List Sp) {cs cs1 cs2 : List G} {fz : Nat} (ho : mkHp m id = .cells cs fz := by (simp only [mkHp_cons, mkHp_nil, Nat.reduceEqDiff, reduceIte] <;> rfl)) (hcv : cvSs (mkHp m) ss (cs.take n) = some (c, cs1) := by exact eA11.h {}) (he : cs1 ++ cs.drop n = cs2 := by exact eA11.h {}) (hn : fz ≤ n := by omega) (hn2 : n ≤ cs.length := by simp)
    (hc : c := by simp [allOne, G.one, P.one]) (h1 : allOne cs1 = true := by simp [allOne, G.one, P.one]) (k : gops C r ops Q lst (sg l ((id, .cells cs2 n) :: m) A df)) : gops C r ops Q lst (sg l m A df) := go_freeze id n ss ho hcv he hn hn2 hc h1 k
theorem ocv (t : Nat) (s : Sp) (hcv : cvS (mkHp m) s (mkFr l t) = some (c, g) := by exact eA11.h {}) (hc : c := by simp [allOne, G.one, P.one]) (k : gops C r ops Q lst (sg ((t, g) :: l) m A df)) : gops C r ops Q lst (sg l m A df) := go_conv t s hcv hc k
/-! Deferred calls, yields -/
theorem df0 {cl : Call} {d : GD} (hd : gdefer (mkFr l) cl = some d := by exact eA12.h {}) (k : gops C none ops Q rest (sg l m A (d :: df))) : gops C none ops Q (⟨none, .defer cl, ty, pos, af, none⟩ :: rest) (sg l m A df) := go_defer hd k
theorem y0 {cl : Call} {gs : List G} {xs : List P} {x : Operand} (hx : cl.callee = .value x := by rfl) (hy : gev (mkFr l) x = .abs := by (simp only [gev, mkFr_cons, Nat.reduceEqDiff, reduceIte] <;> rfl)) (hgs : cl.args.toList.map (gev (mkFr l)) = gs := by exact eA9.h {})
    (hJ : G.idls gs = J := by exact eA5.h {}) (hcv : cvts (rhp (mkHp m) J) gs = (c, xs.map .p) := by exact eA6.h {}) (hcan : E.Can A xs) (hc : c := by simp) (ht : t < C.N := by omega)
    (k : ∀ b A', E.Y A xs (.b b) A' → gops C r ops Q rest (sg ((t, .p (.bool b)) :: l) m A' df)) (kp : ∀ p A', E.Y A xs (.p p) A' → Q (.panic p) (sg l m A' df)) : gops C r ops Q (⟨some t, .call cl, ty, pos, af, none⟩ :: rest) (sg l m A df) := go_yield hx hy hgs hcv hc hcan ht k kp
/-! Loops over functions -/
theorem rf {Z : Type} {ps : Array Nat} {o : Operand} {assign body : Code} {f : FuncId} {ga gb aa ab : List G} {ca cb : Prop} (lim d : Nat) (psl : List Nat) (I : Nat → Z → E.α → Prop) (mI : Z → List (Nat × Ob)) (K : GE → Z → E.α → Prop) (mK : GE → Z → List (Nat × Ob)) (ka kb : List Sp)
    {xs : List (List P)} (it : IterSpec Try.prog f (aa ++ (.abs :: ab)) xs) (hent : Enters Try.prog f) (hg : grange (mkFr l) o = some (f, ga, gb) := by exact eA13.h {}) (hca : cvSs (mkHp m) ka ga = some (ca, aa) := by exact eA11.h {}) (hcb : cvSs (mkHp m) kb gb = some (cb, ab) := by exact eA11.h {})
    (hia : imm.imms aa = true := by simp [imm, imm.imms]) (hib : imm.imms ab = true := by simp [imm, imm.imms]) (h1 : ca := by simp [allOne, G.one, P.one]) (h2 : cb := by simp [allOne, G.one, P.one]) (hps : ps.toList = psl := by rfl) (hlim : C.lim ≤ lim := by omega) (hlim2 : lim ≤ 90000 := by omega) (hpn : ∀ p ∈ psl, p < C.N := by (simp <;> omega)) (hlen : ∀ x ∈ xs, x.length = psl.length := by simp) (hd : C.lim ≤ d := by omega)
    (wI : ∀ k z A, I k z A → WfAt l df lim d (mI z) := by (intro k z A hI; first | exact hI.elim | (constructor <;> simp [neAll, frIds, dfIds, gdIdl, G.idl, G.idls, ltAll, mkHp_cons, mkHp_nil]))) (wK : ∀ e z A, K e z A → WfAt l df lim d (mK e z) := by (intro k z A hI; first | exact hI.elim | (constructor <;> simp [neAll, frIds, dfIds, gdIdl, G.idl, G.idls, ltAll, mkHp_cons, mkHp_nil]))) (h0 : ∃ z, I 0 z A ∧ mI z = m)
    (round : ∀ k z A' x, I k z A' → xs[k]? = some x → ∀ (lp : Nat) (bs : List (Nat × Obj)) (C1 : Cx (E.guard bs)), C1.N = C.N → C1.lim = lim →
      gwp C1 (some lp) assign (fun e σ => e = .normal ∧ ∀ (bs : List (Nat × Obj)) (C2 : Cx (E.guard bs)), C2.N = C.N → C2.lim = lim → (∃ r0, (lp, Obj.loop r0) ∈ bs) → gwp C2 (some lp) body (fun e σ => match e with
        | .normal => ∃ σ3 z, Le C2 σ σ3 ∧ σ3.h = mkHp (mI z) ∧ I (k + 1) z σ3.A
        | .panic _ => False
        | e => ∃ σ3 z, Le C2 σ σ3 ∧ σ3.h = mkHp (mK e z) ∧ K e z σ3.A) ⟨σ.fr, σ.h, σ.A, σ.df⟩) ⟨parFr (mkFr l) psl x, mkHp (mI z), A', []⟩)
    (hK : ∀ e z A', K e z A' → Q e (sg l ((d, .mark) :: mK e z) A' (.mark d :: df))) (hI : ∀ z A', I xs.length z A' → Q .normal (sg l ((d, .mark) :: mI z) A' (.mark d :: df))) :
    gwp C none (.rangeFunc o ps assign body) Q (sg l m A df) := gc_range lim d psl xs I mI K mK ka kb it hent hg hca hcb hia hib h1 h2 hps hlim hlim2 hpn hlen hd wI wK h0 round hK hI
/-- Objects that are left, others let go. -/
theorem lc {m' : List (Nat × Ob)} (IL : List Nat) (hm : restrictL IL m = m' := by exact eA3.h {}) (h2 : subB (dfIds df) IL = true := by exact eA3.h {}) (h3 : subB (hpIds m IL) IL = true := by exact eA3.h {}) : Le C (sg l m A df : Sg E) (sg [] m' A df) := le_clean2 [] rfl hm rfl h2 h3
/-- The end of a round. -/
theorem rend {Z : Type} {m' : List (Nat × Ob)} {IV : Z → E.α → Prop} {mI : Z → List (Nat × Ob)} (IL : List Nat) (z : Z) (hm : restrictL IL m = m' := by exact eA3.h {})
    (h2 : subB (dfIds df) IL = true := by exact eA3.h {}) (h3 : subB (hpIds m IL) IL = true := by exact eA3.h {}) (hz : m' = mI z := by rfl) (h : IV z A) : ∃ σ3 z, Le C (sg l m A df) σ3 ∧ σ3.h = mkHp (mI z) ∧ IV z σ3.A :=
  ⟨sg [] m' A df, z, le_clean2 [] rfl hm rfl h2 h3, by rw [hz], h⟩
theorem wf1x {args : List G} {id : Nat} (h : G.mens id args = true) (h1 : subB (G.idls args) (m.map (·.1)) = true := by exact eA14.h {}) (h2 : ∀ i ∈ m.map (·.1), mkHp m i ≠ .none := by simp [mkHp_cons, mkHp_nil]) : mkHp m id ≠ .none := wf1_of h1 h2 h
theorem wf2x {j id : Nat} (h : (mkHp m j).men id = true) (h1 : subB (hpIds m (m.map (·.1))) (m.map (·.1)) = true := by exact eA14.h {}) (h2 : ∀ i ∈ m.map (·.1), mkHp m i ≠ .none := by simp [mkHp_cons, mkHp_nil]) : mkHp m id ≠ .none := wf2_of h1 h2 h
theorem fph (I : List Nat) {fn : Func} {R : GRes E → Prop} {v : P} {m' : List (Nat × Ob)} (hm : restrictL I m = m' := by exact eA3.h {}) (h3 : subB (hpIds m I) I = true := by exact eA3.h {}) (hne : ∀ i ∈ I, mkHp m i ≠ .none := by simp [mkHp_cons, mkHp_nil]) (hR : R (.panic v (mkHp m') A)) : FinQ Try.prog fn R (.panic v) (sg l m A []) := fin_panic_h I hm h3 hR hne
/-! Leaving -/
theorem om {fn : Func} {R : GRes E → Prop} {md : Option P} {d : Nat} {ds : List GD} (h1 : mkHp m d = .mark := by (simp only [mkHp_cons, Nat.reduceEqDiff, reduceIte])) (h2 : d ∉ frIds l := by simp [frIds, G.idl, G.idls]) (h3 : d ∉ hpIds m (m.map (·.1)) := by simp [hpIds, obIdl, G.idl, G.idls, mkHp_cons, mkHp_nil]) (h4 : d ∉ dfIds ds := by simp [dfIds, gdIdl, G.idl, G.idls])
    (h : GOut Try.prog fn R ds md (mkFr l) (mkHp ((d, .none) :: m)) A) : GOut Try.prog fn R (.mark d :: ds) md (mkFr l) (mkHp m) A := out_mark h1 h2 h3 h4 h
theorem ocall {fn : Func} {R : GRes E → Prop} {md : Option P} {f : FuncId} {args caps gargs : List G} {ds : List GD} (J : List Nat) (L : List (Nat × Nat)) {mc mr ps m2 : List (Nat × Ob)} (spec : DSpec E f gargs (mkHp mc) A md fun y => y = .ok g (mkHp mr) A) (hent : Enters Try.prog f)
    (hcv : cvts (rhp (mkHp m) J) (args ++ caps) = (c, G.rens (Gh.look L) gargs) := by exact eA15.h {}) (hc : c := by simp) (n1 : (L.map (·.1)).Nodup := by decide) (n2 : (L.map (·.2)).Nodup := by decide) (n3 : (mc.map (·.1)).Nodup := by simp) (hp1 : pairsP L (mkHp m) mc := by (simp only [pairsP, Gh.look, Ob.ren, G.rens, G.ren, rens_p, upd, mkHp_cons, mkHp_nil, Nat.reduceEqDiff, reduceIte] <;> simp)) (hp2 : newP 100 (mkHp m) mc L := by (simp [newP, upd, mkHp_cons, mkHp_nil]))
    (hk : keysP L mr := by simp [keysP, Gh.look]) (hs : stayP mr mc := by simp [stayP, mkHp_cons, mkHp_nil]) (hps : putsOf L (mkHp mr) = ps := by (simp only [putsOf, List.map_cons, List.map_nil, mkHp_cons, mkHp_nil, Nat.reduceEqDiff, reduceIte, Ob.ren, G.ren, G.rens, rens_p, Gh.look] <;> rfl)) (hm : ps.reverse ++ m = m2 := by (simp only [List.reverse_cons, List.reverse_nil, List.nil_append, List.cons_append] <;> rfl))
    (h : GOut Try.prog fn R ds none (mkFr l) (mkHp m2) A) : GOut Try.prog fn R (.call f args caps :: ds) md (mkFr l) (mkHp m) A := out_call spec hent hcv hc (pairs_mk n1 n2 n3 hp1 hp2) (pairsB_mk hk hs) hps hm h
end Go.Proofs.Ytagdholenfkeaaa

/- Shortest distances by three loops: what they are. No program in sight. -/
namespace Go.Proofs.Ytagdholenfkeaaa
def NEV : Int := 1048576
abbrev Mx := Nat → Nat → Int
/-- One turn of the outermost loop. -/
def ph (m : Nat) (f : Mx) : Mx := fun i k => min (f i k) (f i m + f m k)
def phs (f : Mx) : Nat → Mx
  | 0 => f
  | m + 1 => ph m (phs f m)
structure MOk (f : Mx) : Prop where
  nn : ∀ i k, 0 ≤ f i k
  le : ∀ i k, f i k ≤ NEV
  zz : ∀ i, f i i = 0
theorem MOk.turn {f : Mx} (h : MOk f) (m : Nat) : MOk (ph m f) where
  nn := fun i k => by have := h.nn i k; have := h.nn i m; have := h.nn m k; simp only [ph]; omega
  le := fun i k => by have := h.le i k; simp only [ph]; omega
  zz := fun i => by have := h.zz i; have := h.nn i m; have := h.nn m i; simp only [ph]; omega
theorem MOk.turns {f : Mx} (h : MOk f) : ∀ m, MOk (phs f m)
  | 0 => h
  | m + 1 => (h.turns m).turn m
theorem MOk.row {f : Mx} (h : MOk f) (m k : Nat) : ph m f m k = f m k := by
  have := h.zz m; simp only [ph]; omega
theorem MOk.col {f : Mx} (h : MOk f) (m i : Nat) : ph m f i m = f i m := by
  have := h.zz m; simp only [ph]; omega
theorem MOk.tri {f : Mx} (h : MOk f) : ∀ m y, y < m → ∀ i k, phs f m i k ≤ phs f m i y + phs f m y k
  | 0, _, hy, _, _ => by omega
  | m + 1, y, hy, i, k => by
    have H := h.turns m
    have n1 := H.nn i m; have n2 := H.nn m k; have n3 := H.nn y m; have n4 := H.nn m y; have z := H.zz m
    by_cases e : y = m
    · subst e
      simp only [phs, ph]; omega
    · have T := h.tri m y (by omega)
      have t1 := T i k; have t2 := T i m; have t3 := T m k
      simp only [phs, ph]; omega
theorem phs_le {f : Mx} : ∀ m i k, phs f m i k ≤ f i k
  | 0, _, _ => Int.le_refl _
  | m + 1, i, k => by have := phs_le (f := f) m i k; simp only [phs, ph]; omega
/-- Walks. -/
def Wk (e : Nat → Nat → Bool) : Nat → Nat → Nat → Prop
  | 0, i, k => i = k
  | n + 1, i, k => ∃ j, e i j = true ∧ Wk e n j k
theorem Wk.trans {e : Nat → Nat → Bool} : ∀ {n m i j k}, Wk e n i j → Wk e m j k → Wk e (n + m) i k
  | 0, m, i, j, k, h, g => by have : i = j := h; subst this; simpa using g
  | n + 1, m, i, j, k, ⟨x, hx, h⟩, g => by
    rw [show n + 1 + m = (n + m) + 1 by omega]
    exact ⟨x, hx, Wk.trans h g⟩
theorem Wk.snoc {e : Nat → Nat → Bool} {n i j k} (h : Wk e n i j) (g : e j k = true) : Wk e (n + 1) i k := h.trans ⟨k, g, rfl⟩
/-- Where a walk leads to is an end of a pair. -/
theorem Wk.end_lt {e : Nat → Nat → Bool} {P : Nat} (he : ∀ a b, e a b = true → a < P ∧ b < P) : ∀ {n i k}, Wk e n i k → i < P → k < P
  | 0, i, k, h, hi => by have : i = k := h; omega
  | n + 1, i, k, ⟨j, hj, h⟩, _ => h.end_lt he (he i j hj).2
/-- The beginning of the loops. -/
def ini (e : Nat → Nat → Bool) : Mx := fun i k => if i = k then 0 else if e i k = true then 1 else NEV
theorem ini_ok (e : Nat → Nat → Bool) : MOk (ini e) where
  nn := fun i k => by simp only [ini, NEV]; split <;> (try split) <;> omega
  le := fun i k => by simp only [ini, NEV]; split <;> (try split) <;> omega
  zz := fun i => by simp [ini]
theorem phs_sound {e : Nat → Nat → Bool} : ∀ m i k, phs (ini e) m i k < NEV → ∃ n : Nat, phs (ini e) m i k = n ∧ Wk e n i k
  | 0, i, k, h => by
    simp only [phs, ini] at h ⊢
    by_cases h1 : i = k
    · exact ⟨0, by simp [h1], h1⟩
    · rw [if_neg h1] at h ⊢
      by_cases h2 : e i k = true
      · rw [if_pos h2]; exact ⟨1, rfl, k, h2, rfl⟩
      · rw [if_neg h2] at h; omega
  | m + 1, i, k, h => by
    have H := (ini_ok e).turns m
    have n1 := H.nn i m; have n2 := H.nn m k
    simp only [phs, ph] at h ⊢
    by_cases c : phs (ini e) m i k ≤ phs (ini e) m i m + phs (ini e) m m k
    · obtain ⟨n, hn, hw⟩ := phs_sound (e := e) m i k (by omega)
      exact ⟨n, by omega, hw⟩
    · have b1 := H.le i k
      obtain ⟨n, hn, hw⟩ := phs_sound (e := e) m i m (by omega)
      obtain ⟨n', hn', hw'⟩ := phs_sound (e := e) m m k (by omega)
      exact ⟨n + n', by omega, hw.trans hw'⟩
/-- How far persons are apart, of eight. -/
def D (e : Nat → Nat → Bool) : Mx := phs (ini e) 8
theorem D_ok (e : Nat → Nat → Bool) : MOk (D e) := (ini_ok e).turns 8
theorem D_tri (e : Nat → Nat → Bool) {y : Nat} (hy : y < 8) (i k : Nat) : D e i k ≤ D e i y + D e y k := (ini_ok e).tri 8 y hy i k
theorem D_edge {e : Nat → Nat → Bool} {i k : Nat} (h : e i k = true) : D e i k ≤ 1 := by
  have := phs_le (f := ini e) 8 i k
  have : ini e i k ≤ 1 := by simp only [ini]; split <;> simp
  simp only [D]; omega
theorem D_walk {e : Nat → Nat → Bool} (he : ∀ a b, e a b = true → a < 8 ∧ b < 8) : ∀ {n i k}, Wk e n i k → D e i k ≤ n
  | 0, i, k, h => by have h : i = k := h; subst h; have := (D_ok e).zz i; omega
  | n + 1, i, k, ⟨j, hj, h⟩ => by
    have h1 := D_edge hj
    have h2 := D_tri e (he i j hj).2 i k
    have h3 := D_walk he h
    omega
theorem D_sound {e : Nat → Nat → Bool} {i k : Nat} (h : D e i k < NEV) : ∃ n : Nat, D e i k = n ∧ Wk e n i k := phs_sound 8 i k h
theorem D_eq {e : Nat → Nat → Bool} (he : ∀ a b, e a b = true → a < 8 ∧ b < 8) {i k n : Nat} (h : Wk e n i k) (hm : ∀ m, m < n → ¬ Wk e m i k) (hn : n < 1000) : D e i k = n := by
  have h1 := D_walk he h
  obtain ⟨q, hq, hw⟩ := D_sound (e := e) (i := i) (k := k) (by simp only [NEV]; omega)
  by_cases c : q < n
  · exact (hm q c hw).elim
  · omega
/-- A distance is below the number of persons. -/
theorem count_lt {α : Type} (l : List α) (p q : α → Bool) (h : ∀ x, p x = true → q x = true) {y : α} (hy : y ∈ l) (h1 : p y = false) (h2 : q y = true) : l.countP p < l.countP q := by
  induction l with
  | nil => simp at hy
  | cons x xs ih =>
    rw [List.countP_cons, List.countP_cons]
    have hm : xs.countP p ≤ xs.countP q := List.countP_mono_left fun a _ => h a
    rcases List.mem_cons.1 hy with rfl | hy
    · rw [h1, h2]; simp; omega
    · have := ih hy
      by_cases c : p x = true
      · rw [c, h x c]; simp; omega
      · simp only [Bool.not_eq_true] at c
        rw [c]; simp; split <;> omega
theorem Wk.split {e : Nat → Nat → Bool} : ∀ {n i k} (j : Nat), j ≤ n → Wk e n i k → ∃ x, Wk e j i x ∧ Wk e (n - j) x k
  | n, i, k, 0, _, h => ⟨i, rfl, h⟩
  | n + 1, i, k, j + 1, hj, ⟨x, hx, h⟩ => by
    obtain ⟨y, h1, h2⟩ := h.split j (by omega)
    exact ⟨y, ⟨x, hx, h1⟩, by rw [show n + 1 - (j + 1) = n - j by omega]; exact h2⟩
theorem D_lt {e : Nat → Nat → Bool} {P : Nat} (hP : P ≤ 8) (he : ∀ a b, e a b = true → a < P ∧ b < P) {i k : Nat} (hi : i < P) (h : D e i k < NEV) : D e i k < P := by
  obtain ⟨n, hn, hw⟩ := D_sound h
  have he8 : ∀ a b, e a b = true → a < 8 ∧ b < 8 := fun a b h => by have := he a b h; omega
  have step : ∀ j, j ≤ n → j + 1 ≤ (List.range P).countP fun x => decide (D e i x ≤ j) := by
    intro j
    induction j with
    | zero =>
      intro _
      have hz := (D_ok e).zz i
      have : 0 < (List.range P).countP fun x => decide (D e i x ≤ ((0 : Nat) : Int)) := by
        rw [List.countP_pos_iff]
        exact ⟨i, List.mem_range.2 hi, by simp [hz]⟩
      omega
    | succ j ih =>
      intro hj
      have := ih (by omega)
      obtain ⟨x, h1, h2⟩ := hw.split (j + 1) hj
      have d1 := D_walk he8 h1
      have d2 := D_walk he8 h2
      have hx : x < P := h1.end_lt he hi
      have t := D_tri e (y := x) (by omega) i k
      have := count_lt (List.range P) (fun x => decide (D e i x ≤ (j : Int))) (fun x => decide (D e i x ≤ ((j + 1 : Nat) : Int))) (fun x hx => by
        have := of_decide_eq_true hx
        exact decide_eq_true (by omega)) (List.mem_range.2 hx) (decide_eq_false (by omega)) (decide_eq_true (by omega))
      omega
  have h1 := step n (Nat.le_refl n)
  have h2 : (List.range P).countP (fun x => decide (D e i x ≤ (n : Int))) ≤ (List.range P).length := List.countP_le_length
  rw [List.length_range] at h2
  omega
theorem Wk.symm {e : Nat → Nat → Bool} (hs : ∀ a b, e a b = e b a) : ∀ {n i k}, Wk e n i k → Wk e n k i
  | 0, i, k, h => by have h : i = k := h; subst h; rfl
  | n + 1, i, k, ⟨j, hj, h⟩ => (h.symm hs).snoc (by rw [hs]; exact hj)
theorem Wk.mono {e e' : Nat → Nat → Bool} (hs : ∀ a b, e a b = true → e' a b = true) : ∀ {n i k}, Wk e n i k → Wk e' n i k
  | 0, i, k, h => h
  | n + 1, i, k, ⟨j, hj, h⟩ => ⟨j, hs _ _ hj, h.mono hs⟩
theorem D_mono {e e' : Nat → Nat → Bool} (he' : ∀ a b, e' a b = true → a < 8 ∧ b < 8) (hs : ∀ a b, e a b = true → e' a b = true) (i k : Nat) : D e' i k ≤ D e i k := by
  by_cases h : D e i k < NEV
  · obtain ⟨n, hn, hw⟩ := D_sound h
    have := D_walk he' (hw.mono hs)
    omega
  · have := (D_ok e').le i k; omega
end Go.Proofs.Ytagdholenfkeaaa

/- Chains, as plain data; what is said of them. -/
namespace Go.Proofs.Ytagdholenfkeaaa
open Go.Gh

structure Rc where
  p : Int
  f : Int
  t : Int
structure Kw where
  a : Int
  b : Int
structure Ch where
  pl : Int
  ps : Int
  kn : List Kw
  rs : List Rc
  ms : Int
def pk (k : Kw) : P := .agg [.int .i64 k.a, .int .i64 k.b]
def pr (r : Rc) : P := .agg [.int .i64 r.p, .int .i64 r.f, .int .i64 r.t]

def badK (ps : Int) (k : Kw) : Bool := !(decide (0 ≤ k.a) && decide (k.a ≤ ps - 1)) || !(decide (0 ≤ k.b) && decide (k.b ≤ ps - 1)) || decide (k.a = k.b)
def badR (pl ps : Int) (r : Rc) : Bool := !(decide (0 ≤ r.p) && decide (r.p ≤ pl - 1)) || !(decide (0 ≤ r.f) && decide (r.f ≤ ps - 1)) || !(decide (0 ≤ r.t) && decide (r.t ≤ ps - 1)) || decide (r.f = r.t)
def Ch.head (c : Ch) : Bool := (decide (1 ≤ c.pl) && decide (c.pl ≤ 4)) && (decide (1 ≤ c.ps) && decide (c.ps ≤ 8)) && (decide (0 ≤ c.ms) && decide (c.ms ≤ 20))
def Ch.valid (c : Ch) : Bool := c.head && decide ((c.kn.length : Int) ≤ 28) && decide ((c.rs.length : Int) ≤ 12) && !c.kn.any (badK c.ps) && !c.rs.any (badR c.pl c.ps)

/-- Where the first one of which something is so stands; -1: nowhere. -/
def idxP {α : Type} (q : α → Bool) : List α → Nat → Int
  | [], _ => -1
  | z :: zs, k => if q z then k else idxP q zs (k + 1)
theorem idxP_at {α : Type} {q : α → Bool} {l : List α} {k : Nat} {x : α} (h : l[k]? = some x) : idxP q (l.drop k) k = if q x then (k : Int) else idxP q (l.drop (k + 1)) (k + 1) := by
  obtain ⟨hk, e⟩ := List.getElem?_eq_some_iff.1 h
  rw [List.drop_eq_getElem_cons hk, e]; rfl
theorem idxP_iff {α : Type} (q : α → Bool) : ∀ (l : List α) (k : Nat), 0 ≤ idxP q l k ↔ l.any q = true
  | [], k => by simp [idxP]
  | z :: zs, k => by
    simp only [idxP, List.any_cons]
    by_cases h : q z = true
    · rw [if_pos h, h]; simp
    · rw [if_neg h, idxP_iff q zs (k + 1), show q z = false by simpa using h, Bool.false_or]
theorem idxP_sign {α : Type} (q : α → Bool) (l : List α) (k : Nat) : decide (0 ≤ idxP q l k) = l.any q := by
  by_cases h : 0 ≤ idxP q l k
  · rw [decide_eq_true h, (idxP_iff q l k).1 h]
  · rw [decide_eq_false h]
    cases e : l.any q with
    | false => rfl
    | true => exact absurd ((idxP_iff q l k).2 e) h
/-- Do two persons know one another? -/
def knowQ (a b : Int) (k : Kw) : Bool := (decide (k.a = a) && decide (k.b = b)) || (decide (k.a = b) && decide (k.b = a))
def knowI (kn : List Kw) (a b : Int) : Bool := kn.any (knowQ a b)
/-- The cells of a table. -/
def mat (f : Mx) : List P := (List.range 64).map fun q => .int .i64 (f (q / 8) (q % 8))
theorem mat_len (f : Mx) : (mat f).length = 64 := by simp [mat]
theorem mat_get (f : Mx) {x y : Nat} (hx : x < 8) (hy : y < 8) : (mat f)[x * 8 + y]? = some (.int .i64 (f x y)) := by
  rw [mat, List.getElem?_map, List.getElem?_range (by omega), Option.map_some, show (x * 8 + y) / 8 = x by omega, show (x * 8 + y) % 8 = y by omega]
theorem mat_set (f : Mx) {x y : Nat} (hx : x < 8) (hy : y < 8) (v : Int) : (mat f).set (x * 8 + y) (.int .i64 v) = mat (fun i k => if i = x ∧ k = y then v else f i k) := by
  apply List.ext_getElem?
  intro q
  by_cases hq : q < 64
  · by_cases e : x * 8 + y = q
    · subst e
      rw [List.getElem?_set_self (by rw [mat_len]; omega), mat, List.getElem?_map, List.getElem?_range (by omega), Option.map_some, show (x * 8 + y) / 8 = x by omega, show (x * 8 + y) % 8 = y by omega]
      simp
    · rw [List.getElem?_set_ne e, mat, mat, List.getElem?_map, List.getElem?_map, List.getElem?_range hq, Option.map_some, Option.map_some]
      rw [if_neg (by omega)]
  · rw [List.getElem?_eq_none (by rw [List.length_set, mat_len]; omega), List.getElem?_eq_none (by rw [mat_len]; omega)]
theorem mat_zero : (List.replicate 64 (0 : Int)).map (P.int .i64) = mat (fun _ _ => 0) := rfl
end Go.Proofs.Ytagdholenfkeaaa

/- The sum of bits, as the library has it, of small numbers. -/
namespace Go.Proofs.Ytagdholenfkeaaa
open Go.Gh
/-- How many bits are set. -/
def popF : Nat → Nat → Nat
  | 0, _ => 0
  | f + 1, n => n % 2 + popF f (n / 2)
def pop (n : Nat) : Nat := popF 64 n

/-- The sum of bits, as the library has it. -/
def swar (x0 : Int) : Int :=
  let w := IntKind.u64.wrap
  let x1 := w (bitop .and .u64 (x0.fdiv (2 ^ min 1 64)) 6148914691236517205 + bitop .and .u64 x0 6148914691236517205)
  let x2 := w (bitop .and .u64 (x1.fdiv (2 ^ min 2 64)) 3689348814741910323 + bitop .and .u64 x1 3689348814741910323)
  let x3 := bitop .and .u64 (w (x2.fdiv (2 ^ min 4 64) + x2)) 1085102592571150095
  let x4 := w (x3 + x3.fdiv (2 ^ min 8 64))
  let x5 := w (x4 + x4.fdiv (2 ^ min 16 64))
  w (x5 + x5.fdiv (2 ^ min 32 64))
theorem swar_all : ∀ a, a < 64 → ∀ b, b < 64 → (decide (0 ≤ swar ((64 * a + b : Nat) : Int)) && decide (swar ((64 * a + b : Nat) : Int) ≤ 4000000000) && decide (bitop .and .i64 (swar ((64 * a + b : Nat) : Int)) 127 = (pop (64 * a + b) : Int))) = true := by
  decide +kernel
theorem swar_ok (n : Nat) (h : n < 4096) : 0 ≤ swar n ∧ swar n ≤ 4000000000 ∧ bitop .and .i64 (swar n) 127 = (pop n : Int) := by
  have := swar_all (n / 64) (by omega) (n % 64) (by omega)
  rw [show 64 * (n / 64) + n % 64 = n by omega] at this
  simp only [Bool.and_eq_true, decide_eq_true_eq] at this
  exact ⟨this.1.1, this.1.2, this.2⟩
end Go.Proofs.Ytagdholenfkeaaa

/- Numbers: sets as numbers, and what the program's operations on them yield. -/
namespace Go.Proofs.Ytagdholenfkeaaa
open Go.Gh

theorem bitop_and_u64 (x y : Nat) (hx : x < 2 ^ 64) (hy : y < 2 ^ 64) : bitop .and .u64 (x : Int) (y : Int) = ((x &&& y : Nat) : Int) := by
  have e1 : (BitVec.ofInt 64 (x : Int)).toNat = x := by rw [BitVec.toNat_ofInt]; omega
  have e2 : (BitVec.ofInt 64 (y : Int)).toNat = y := by rw [BitVec.toNat_ofInt]; omega
  have h : (x &&& y) < 2 ^ 64 := Nat.lt_of_le_of_lt Nat.and_le_left hx
  show IntKind.u64.wrap ((BitVec.ofInt 64 (x : Int) &&& BitVec.ofInt 64 (y : Int)).toNat : Int) = _
  rw [BitVec.toNat_and, e1, e2]
  exact IntWalk.u64_in ((x &&& y : Nat) : Int) (by omega)
theorem bitop_andNot_u64 (x y : Nat) (hx : x < 2 ^ 64) (hy : y < 2 ^ 64) : bitop .andNot .u64 (x : Int) (y : Int) = ((x &&& (2 ^ 64 - 1 - y) : Nat) : Int) := by
  have e1 : (BitVec.ofInt 64 (x : Int)).toNat = x := by rw [BitVec.toNat_ofInt]; omega
  have e2 : (BitVec.ofInt 64 (y : Int)).toNat = y := by rw [BitVec.toNat_ofInt]; omega
  have h : (x &&& (2 ^ 64 - 1 - y)) < 2 ^ 64 := Nat.lt_of_le_of_lt Nat.and_le_left hx
  show IntKind.u64.wrap ((BitVec.ofInt 64 (x : Int) &&& ~~~BitVec.ofInt 64 (y : Int)).toNat : Int) = _
  rw [BitVec.toNat_and, BitVec.toNat_not, e1, e2]
  exact IntWalk.u64_in ((x &&& (2 ^ 64 - 1 - y) : Nat) : Int) (by omega)
theorem bitop_or_i64 (x y : Nat) (hx : x < 2 ^ 62) (hy : y < 2 ^ 62) : bitop .or .i64 (x : Int) (y : Int) = ((x ||| y : Nat) : Int) := by
  have e1 : (BitVec.ofInt 64 (x : Int)).toNat = x := by rw [BitVec.toNat_ofInt]; omega
  have e2 : (BitVec.ofInt 64 (y : Int)).toNat = y := by rw [BitVec.toNat_ofInt]; omega
  have h : (x ||| y) < 2 ^ 62 := Nat.or_lt_two_pow hx hy
  show IntKind.i64.wrap ((BitVec.ofInt 64 (x : Int) ||| BitVec.ofInt 64 (y : Int)).toNat : Int) = _
  rw [BitVec.toNat_or, e1, e2]
  exact IntWalk.i64_in ((x ||| y : Nat) : Int) (by omega)
theorem shl1_u64 (n : Nat) (h : n ≤ 40) : IntKind.u64.wrap (1 * 2 ^ min n 64) = ((2 ^ n : Nat) : Int) := by
  rw [Nat.min_eq_left (by omega), Int.one_mul]
  have h2 : 2 ^ n ≤ 2 ^ 40 := Nat.pow_le_pow_right (by omega) h
  have h0 := Nat.two_pow_pos n
  have : ((2 : Int) ^ n) = ((2 ^ n : Nat) : Int) := by simp
  rw [this]
  exact IntWalk.u64_in _ (by omega)
theorem shl1_i64 (n : Nat) (h : n ≤ 40) : IntKind.i64.wrap (1 * 2 ^ min n 64) = ((2 ^ n : Nat) : Int) := by
  rw [Nat.min_eq_left (by omega), Int.one_mul]
  have h2 : 2 ^ n ≤ 2 ^ 40 := Nat.pow_le_pow_right (by omega) h
  have h0 := Nat.two_pow_pos n
  have : ((2 : Int) ^ n) = ((2 ^ n : Nat) : Int) := by simp
  rw [this]
  exact IntWalk.i64_in _ (by omega)
theorem every_u64 (n : Nat) (h : n ≤ 40) : IntKind.u64.wrap (IntKind.u64.wrap (1 * 2 ^ min n IntKind.u64.bits) - 1) = ((2 ^ n : Nat) : Int) - 1 := by
  show IntKind.u64.wrap (IntKind.u64.wrap (1 * 2 ^ min n 64) - 1) = _
  rw [shl1_u64 n h]
  have h2 : 2 ^ n ≤ 2 ^ 40 := Nat.pow_le_pow_right (by omega) h
  have h0 := Nat.two_pow_pos n
  exact IntWalk.u64_in _ (by omega)
theorem shr_bit (set n : Nat) (hs : set < 2 ^ 64) (hn : n < 64) : decide (bitop .and .u64 ((set : Int).fdiv (2 ^ min n 64)) 1 = 1) = set.testBit n := by
  have e : (set : Int).fdiv (2 ^ min n 64) = ((set / 2 ^ n : Nat) : Int) := by
    rw [Nat.min_eq_left (by omega)]
    have : ((2 : Int) ^ n) = ((2 ^ n : Nat) : Int) := by simp
    rw [this, Int.ofNat_fdiv]
  have h2 : set / 2 ^ n < 2 ^ 64 := Nat.lt_of_le_of_lt (Nat.div_le_self _ _) hs
  rw [e, show (1 : Int) = ((1 : Nat) : Int) from rfl, bitop_and_u64 _ 1 h2 (by omega), Nat.and_one_is_mod, Nat.testBit_eq_decide_div_mod_eq]
  congr 1
  apply propext
  omega

end Go.Proofs.Ytagdholenfkeaaa

/- More rules of written-out states. -/
namespace Go.Proofs.Ytagdholenfkeaaa
open Go.Gh
set_option maxRecDepth 100000
structure eC1 {α : Type} (a b : α) : Prop where
  h : a = b := by (simp only [rhp, List.mem_cons, List.not_mem_nil, gsem, gev, ofV, mkFr_cons, mkFr_nil, mkHp_cons, mkHp_nil, upd, yes, lift, gbinAt, gnilEq, gbin, gint, gshift, arith, gpick, gload, gstore, splice, gbox, gfill, placesL, gbuildSlice, gfieldAddr, gfield, gelem, gindexAddr, gindex, gbound, gslice, glen, gsource, gappend, gmin, gminL, gmax, gmaxL, mapGet, mapPut, zeroG, orZero, glookup, gmapUpdate, gconvert, gtypeAssert, gextract, isConst, gnilCheck, gunOp, gmakeSlice, intOf, mkAgg, mkFn, mkIface, mkTuple, allP, G.cells, good, goods, allOne, G.one, P.one, allP_p, allOne_p, goods_p, toPs_p, all_int, take_all, isAggD, isIfaceD, toP, toPs, P.size, P.cells, List.map_cons, List.map_nil, List.take_succ_cons, List.take_zero, List.drop_succ_cons, List.drop_zero, List.take_nil, List.drop_nil, List.cons_append, List.nil_append, List.append_nil, List.length_cons, List.length_nil, List.getElem?_cons_zero, List.getElem?_cons_succ, List.getElem?_nil, List.set_cons_zero, List.set_cons_succ, List.flatMap_cons, List.flatMap_nil, List.getElem?_toArray, List.getElem?_map, List.length_map, Option.map_some, Option.map_none, Nat.mul_one, List.length_set, set_map_p, set_map_int, Nat.reduceEqDiff, Nat.reduceAdd, Nat.reduceMul, Nat.reduceSub, Nat.reduceLeDiff, Nat.add_zero, Nat.zero_add, Int.toNat_natCast, Int.reduceToNat, reduceIte, reduceCtorEq, eq_self, if_true, if_false, and_true, true_and, true_or, or_true, or_false, false_or, Bool.false_eq_true, ne_eq, not_true_eq_false, not_false_eq_true, cond_true, cond_false, Bool.and_true, Bool.true_and, Bool.and_false, Bool.false_and, Bool.or_true, Bool.true_or, Bool.or_false, Bool.false_or, Bool.not_true, Bool.not_false, ti_1, ti_3, ti_4, ti_5, ti_9, ti_20, ti_22, ti_23, ti_25, ti_28, ti_32, ti_41, ti_44, ti_47, ti_49, ti_50, ti_52, ti_55, ti_57, ti_61, ti_62, ti_65, ti_66, ti_68, ti_69, ti_70, ti_74, ti_75, ti_77, ti_78, ti_81, ti_89, ti_92, ti_96, ti_100, ti_101, ti_102, ti_103, ti_105, ti_108, ti_113, ti_115, ti_116, ti_117, ti_118, ti_122, ti_124, ti_126, ti_128, ti_132, ti_133, ti_138, ti_140, *] <;> rfl)
structure eC2 {α : Type} (a b : α) : Prop where
  h : a = b := by (simp only [ti_1, ti_3, ti_4, ti_5, ti_9, ti_20, ti_22, ti_23, ti_25, ti_28, ti_32, ti_41, ti_44, ti_47, ti_49, ti_50, ti_52, ti_55, ti_57, ti_61, ti_62, ti_65, ti_66, ti_68, ti_69, ti_70, ti_74, ti_75, ti_77, ti_78, ti_81, ti_89, ti_92, ti_96, ti_100, ti_101, ti_102, ti_103, ti_105, ti_108, ti_113, ti_115, ti_116, ti_117, ti_118, ti_122, ti_124, ti_126, ti_128, ti_132, ti_133, ti_138, ti_140] <;> rfl)
variable {E : Env Try.prog} {C : Cx E} {r : Option Nat} {ops : Array Oper} {Q : GE → Sg E → Prop} {rest lst : List Oper} {l l' : List (Nat × G)} {m : List (Nat × Ob)} {A : E.α} {df : List GD}
variable {t : Nat} {op : Op} {ty : TypeId} {pos : String} {af : Array Edge} {c : Prop} {g : G} {ob : Ob} {i j : Nat} {gd : Option (Nat × Bool)} {b x : Bool} {cd : Code} {J : List Nat}
/-- A nil slice in a cell as an object of no elements. -/
theorem ad (id off d : Nat) (e : TypeId) (sz : Nat) (fl : Bool) {cs cs2 : List G} {fz : Nat} (ho : mkHp m id = .cells cs fz := by (simp only [mkHp_cons, mkHp_nil, Nat.reduceEqDiff, reduceIte] <;> rfl)) (hc : cs[off]? = some .nils := by rfl) (he : cs.set off (.own d 0) = cs2 := by (simp only [List.set_cons_zero, List.set_cons_succ] <;> rfl)) (hd : mkHp m d = .none := by (simp only [mkHp_cons, mkHp_nil, Nat.reduceEqDiff, reduceIte])) (hd2 : C.lim ≤ d := by omega)
    (k : gwp C r cd Q (sg l ((id, .cells cs2 fz) :: (d, .arr e sz [] fl) :: m) A df)) : gwp C r cd Q (sg l m A df) := gc_adopt id off d e sz fl ho hc he hd hd2 k
/-! An operation that looks at no object -/
section
variable {lo : Nat} {σ0 : Sg E} {ids ids' : List (List Nat × List Nat)}
theorem da0 (n : Nat) (hn : ids.length = n := by rfl) (ho : ops[lo + n]? = some ⟨some t, op, ty, pos, af, none⟩ := by rfl)
    (hg : gsem Try.prog false 99999 (gev (mkFr l)) (rhp (mkHp m) []) op = some (c, ⟨g, none⟩) := by exact eC1.h {}) (hd : mkHp m 99999 = .none := by (simp only [mkHp_cons, mkHp_nil, Nat.reduceEqDiff, reduceIte])) (ht : t < C.N := by omega)
    (hids : ids ++ [([99999], [])] = ids' := by (simp only [List.cons_append, List.nil_append] <;> rfl)) (k : segK C r ops (GPost C Q) lo σ0 ids' (sg ((t, g) :: l) m A df)) (hc : c := by first | exact True.intro | simp) : segK C r ops (GPost C Q) lo σ0 ids (sg l m A df) :=
  segK.step (pi := []) hn ho (eff_v (gwant_plain rfl) hg hc hd (fun t' e => by cases e; exact ht)) rfl (by rw [hids]; exact k)
end
/-- Is a slice nil? -/
theorem nq0 {tt : TypeId} {i : TI} {x z : Operand} {t2 : TypeId} {xs : List P} {e : TypeId} (hi : ti Try.prog tt = some i := by exact eC2.h {}) (hd : i.desc = .slice e := by rfl) (hx : gev (mkFr l) x = .p (.list xs) := by (simp only [gev, mkFr_cons, Nat.reduceEqDiff, reduceIte] <;> rfl)) (hz : z = .const (.slice none 0 0) := by rfl) (ht : t < C.N := by omega)
    (k : ∀ b : Bool, (b = true → xs = []) → gops C r ops Q rest (sg ((t, .p (.bool b)) :: l) m A df)) : gops C r ops Q (⟨some t, .binOp .eql tt x z t2, ty, pos, af, none⟩ :: rest) (sg l m A df) := go_nilq hi hd hx hz ht k
theorem ofk (id n : Nat) {cs : List G} {fz : Nat} (ho : mkHp m id = .cells cs fz := by (simp only [mkHp_cons, mkHp_nil, Nat.reduceEqDiff, reduceIte] <;> rfl)) (hn : fz ≤ n := by omega) (hn2 : n ≤ cs.length) (h1 : allOne (cs.take n) = true) (k : gops C r ops Q lst (sg l ((id, .cells cs n) :: m) A df)) : gops C r ops Q lst (sg l m A df) := go_freezeK id n ho hn hn2 h1 k
/-- A part of an array as a list. -/
theorem ofs (t : Nat) {off len fz id : Nat} {cs : List G} (ps : List P) (ht : mkFr l t = .fsl id off len := by (simp only [mkFr_cons, Nat.reduceEqDiff, reduceIte] <;> rfl)) (ho : mkHp m id = .cells cs fz := by (simp only [mkHp_cons, mkHp_nil, Nat.reduceEqDiff, reduceIte] <;> rfl)) (h1 : off + len ≤ fz) (hps : (cs.drop off).take len = ps.map .p) (h2 : ps.length = len) (h3 : ∀ p ∈ ps, p.one = true)
    (k : gops C r ops Q lst (sg ((t, .p (.list ps)) :: l) m A df)) : gops C r ops Q lst (sg l m A df) := go_fsl t ht ho h1 hps h2 h3 k
end Go.Proofs.Ytagdholenfkeaaa

/- The program: small functions. -/
namespace Go.Proofs.Ytagdholenfkeaaa
open Go.Gh
set_option maxRecDepth 100000
set_option maxHeartbeats 4000000
structure kVa1 (c : Prop) : Prop where
  h : c := by (first | exact True.intro | (simp only [inI]; omega) | (simp [P.size, pr, pk, all_int, allOne_p, goods_p, allOne, goods, good, G.one, P.one, P.cells] <;> first | omega | assumption | simp_all))
theorem ent46 : Enters Try.prog 46 := Enters.mk Try.func46 (by kernel_rfl) rfl
theorem s_within (n lo hi : Int) : PSpec Try.prog 46 [.int .i64 n, .int .i64 lo, .int .i64 hi] (.ok (.bool (decide (lo ≤ n) && decide (n ≤ hi)))) := by
  refine pspec_of Try.func46 (rfl : Try.f46.body = some _) rfl ?_
  intro E A C hN hL
  replace hN : C.N = 15 := hN
  simp only [Gh.num, List.map_cons, List.map_nil, Nat.reduceAdd]
  repeat refine gwp_seq ?_
  refine gwp_region ?_
  refine v0 (k := ?_)
  refine nil0 ?_
  refine cl [0, 1, 2] (k := ?_)
  repeat refine gwp_seq ?_
  refine gwp_region ?_
  refine v0 (k := ?_)
  refine v0 (k := ?_)
  refine v0 (k := ?_)
  refine v0 (k := ?_)
  refine b0 (k1 := fun hb1 => ?_) (k0 := fun hb1 => ?_)
  · replace hb1 := hB.h {} hb1
    refine w0 (k := ?_)
    refine w0 (k := ?_)
    refine w0 (k := ?_)
    refine v0 (k := ?_)
    refine v0 (k := ?_)
    refine nil0 ?_
    repeat refine gwp_seq ?_
    refine gwp_ret ?_
    repeat (first | refine gthen_ret ?_ | refine gblock_ret ?_ | refine gnoGoto_ret ?_)
    refine fin_ret ?_
    refine fp (hR := ?_)
    simp_all [PRes.at] <;> omega
  · replace hb1 := hB.h {} hb1
    refine x0 (k := ?_)
    refine x0 (k := ?_)
    refine x0 (k := ?_)
    refine v0 (k := ?_)
    refine v0 (k := ?_)
    refine nil0 ?_
    repeat refine gwp_seq ?_
    refine gwp_ret ?_
    repeat (first | refine gthen_ret ?_ | refine gblock_ret ?_ | refine gnoGoto_ret ?_)
    refine fin_ret ?_
    refine fp (hR := ?_)
    simp_all [PRes.at] <;> omega
theorem ent50 : Enters Try.prog 50 := Enters.mk Try.func50 (by kernel_rfl) rfl
theorem s_in (n lo hi : Int) : PSpec Try.prog 50 [.int .i64 n, .int .i64 lo, .int .i64 hi] (.ok (.bool (decide (lo ≤ n) && decide (n ≤ hi)))) := by
  refine pspec_of Try.func50 (rfl : Try.f50.body = some _) rfl ?_
  intro E A C hN hL
  replace hN : C.N = 15 := hN
  simp only [Gh.num, List.map_cons, List.map_nil, Nat.reduceAdd]
  repeat refine gwp_seq ?_
  refine gwp_region ?_
  refine v0 (k := ?_)
  refine nil0 ?_
  refine cl [0, 1, 2] (k := ?_)
  repeat refine gwp_seq ?_
  refine gwp_region ?_
  refine v0 (k := ?_)
  refine v0 (k := ?_)
  refine v0 (k := ?_)
  refine v0 (k := ?_)
  refine b0 (k1 := fun hb1 => ?_) (k0 := fun hb1 => ?_)
  · replace hb1 := hB.h {} hb1
    refine w0 (k := ?_)
    refine w0 (k := ?_)
    refine w0 (k := ?_)
    refine v0 (k := ?_)
    refine v0 (k := ?_)
    refine nil0 ?_
    repeat refine gwp_seq ?_
    refine gwp_ret ?_
    repeat (first | refine gthen_ret ?_ | refine gblock_ret ?_ | refine gnoGoto_ret ?_)
    refine fin_ret ?_
    refine fp (hR := ?_)
    simp_all [PRes.at] <;> omega
  · replace hb1 := hB.h {} hb1
    refine x0 (k := ?_)
    refine x0 (k := ?_)
    refine x0 (k := ?_)
    refine v0 (k := ?_)
    refine v0 (k := ?_)
    refine nil0 ?_
    repeat refine gwp_seq ?_
    refine gwp_ret ?_
    repeat (first | refine gthen_ret ?_ | refine gblock_ret ?_ | refine gnoGoto_ret ?_)
    refine fin_ret ?_
    refine fp (hR := ?_)
    simp_all [PRes.at] <;> omega
theorem ent58 : Enters Try.prog 58 := Enters.mk Try.func58 (by kernel_rfl) rfl
theorem s_need_t (e : Int) : PSpec Try.prog 58 [.bool true, .int .i64 e] (.ok (.tuple [])) := by
  refine pspec_of Try.func58 (rfl : Try.f58.body = some _) rfl ?_
  intro E A C hN hL
  replace hN : C.N = 9 := hN
  simp only [Gh.num, List.map_cons, List.map_nil, Nat.reduceAdd]
  repeat refine gwp_seq ?_
  refine gwp_region ?_
  refine v0 (k := ?_)
  refine v0 (k := ?_)
  refine nil0 ?_
  repeat refine gwp_seq ?_
  refine cF (k := ?_)
  repeat refine gwp_seq ?_
  refine gwp_skip ?_
  try refine gnoGoto_normal ?_
  refine fin_normal ?_
  refine fp0 (hR := ?_)
  rfl
theorem s_need_f (e : Int) : PSpec Try.prog 58 [.bool false, .int .i64 e] (.panic (.iface 113 (.agg [.int .i64 e]))) := by
  refine pspec_of Try.func58 (rfl : Try.f58.body = some _) rfl ?_
  intro E A C hN hL
  replace hN : C.N = 9 := hN
  simp only [Gh.num, List.map_cons, List.map_nil, Nat.reduceAdd]
  repeat refine gwp_seq ?_
  refine gwp_region ?_
  refine v0 (k := ?_)
  refine v0 (k := ?_)
  refine nil0 ?_
  repeat refine gwp_seq ?_
  refine cT (k := ?_)
  repeat refine gwp_seq ?_
  refine gwp_region ?_
  refine v0 (k := ?_)
  refine v0 (k := ?_)
  refine v0 (k := ?_)
  refine pn0 (k := ?_)
  repeat (first | refine gthen_panic ?_ | refine gblock_panic ?_)
  exact fin_panic rfl
theorem dpost_normal {E : Env Try.prog} {C : Cx E} {fn : Func} {R : GRes E → Prop} {σ : Sg E} (h : Fin Try.prog fn R σ) : dpost C fn R none .normal σ := h
theorem ent42 : Enters Try.prog 42 := Enters.mk Try.func42 (by kernel_rfl) rfl
theorem s_caught_n {E : Env Try.prog} {A : E.α} (e : Int) : Gh.Spec E 42 [.p .niliface, .ref 0 0] (mkHp [(0, .cells [.p (.int .i64 e)] 0)]) A (fun y => y = .ok (.p (.tuple [])) (mkHp [(0, .cells [.p (.int .i64 e)] 0)]) A) := by
  refine spec_of Try.func42 (rfl : Try.f42.body = some _) (Nat.le_of_ble_eq_true rfl) (fun id h => ?_) (fun j id h => ?_) ?_
  · exact wf1x h
  · exact wf2x h
  intro C hN hL
  replace hN : C.N = 20 := hN
  simp only [Gh.num, List.map_cons, List.map_nil, Nat.reduceAdd]
  repeat refine gwp_seq ?_
  refine gwp_region ?_
  refine v0 (k := ?_)
  refine v0 (k := ?_)
  refine rb 7 true (h := by (rfl)) (k := ?_)
  refine nil0 ?_
  repeat refine gwp_seq ?_
  refine cT (k := ?_)
  repeat refine gwp_seq ?_
  refine gwp_ret ?_
  repeat (first | refine gthen_ret ?_ | refine gblock_ret ?_ | refine gnoGoto_ret ?_)
  refine fin_ret ?_
  refine fh0 [0] (hR := ?_)
  rfl
theorem s_caught_s {E : Env Try.prog} {A : E.α} (e n : Int) : Gh.Spec E 42 [.p (.iface 113 (.agg [.int .i64 n])), .ref 0 0] (mkHp [(0, .cells [.p (.int .i64 e)] 0)]) A (fun y => y = .ok (.p (.tuple [])) (mkHp [(0, .cells [.p (.int .i64 n)] 0)]) A) := by
  refine spec_of Try.func42 (rfl : Try.f42.body = some _) (Nat.le_of_ble_eq_true rfl) (fun id h => ?_) (fun j id h => ?_) ?_
  · exact wf1x h
  · exact wf2x h
  intro C hN hL
  replace hN : C.N = 20 := hN
  simp only [Gh.num, List.map_cons, List.map_nil, Nat.reduceAdd]
  repeat refine gwp_seq ?_
  refine gwp_region ?_
  refine v0 (k := ?_)
  refine v0 (k := ?_)
  refine rb 7 false (h := by (rfl)) (k := ?_)
  refine nil0 ?_
  repeat refine gwp_seq ?_
  refine cF (k := ?_)
  repeat refine gwp_seq ?_
  refine gwp_skip ?_
  refine cl [0, 1] (k := ?_)
  repeat refine gwp_seq ?_
  refine gwp_region ?_
  refine v0 (k := ?_)
  refine v0 (k := ?_)
  refine v0 (k := ?_)
  refine v0 (k := ?_)
  refine v0 (k := ?_)
  refine rb 12 true (h := by (rfl)) (k := ?_)
  refine n1 140 false (hc := kVa1.h {}) (k := ?_)
  refine s1 (hc := kVa1.h {}) (k := ?_)
  refine v0 (k := ?_)
  refine nil0 ?_
  refine cl [0, 1, 4, 5] (k := ?_)
  repeat refine gwp_seq ?_
  refine gwp_region ?_
  refine v0 (k := ?_)
  refine v0 (k := ?_)
  refine nil0 ?_
  repeat refine gwp_seq ?_
  refine cF (k := ?_)
  repeat refine gwp_seq ?_
  refine gwp_skip ?_
  refine cl [0, 1, 4] (k := ?_)
  repeat refine gwp_seq ?_
  refine gwp_region ?_
  refine v0 (k := ?_)
  refine v0 (k := ?_)
  refine v0 (k := ?_)
  refine v0 (k := ?_)
  refine s1 (hc := kVa1.h {}) (k := ?_)
  refine nil0 ?_
  try refine gnoGoto_normal ?_
  refine fin_normal ?_
  refine fh0 [0] (hR := ?_)
  rfl
theorem ent41 : Enters Try.prog 41 := Enters.mk Try.func41 (by kernel_rfl) rfl
theorem d_none41 {E : Env Try.prog} {A : E.α} (e : Int) : DSpec E 41 [.ref 0 0] (mkHp [(0, .cells [.p (.int .i64 e)] 0)]) A (none) (fun y => y = .ok (.p (.tuple [])) (mkHp [(0, .cells [.p (.int .i64 e)] 0)]) A) := by
  refine dspec_of Try.func41 (none) (rfl : Try.f41.body = some _) rfl rfl rfl (by decide) (Nat.le_of_ble_eq_true rfl) (fun id h => ?_) (fun j id h => ?_) ?_
  · exact wf1x h
  · exact wf2x h
  intro C hN hL
  replace hN : C.N = 3 := hN
  simp only [Gh.num, List.map_cons, List.map_nil, Nat.reduceAdd, recG]
  refine oc0 [(0, 0)] [] [0, 0] none (spec := s_caught_n e) (hent := ent42) (k := ?_)
  refine nil0 ?_
  refine dpost_normal ?_
  refine fh0 [0] (hR := ?_)
  rfl
theorem d_some41 {E : Env Try.prog} {A : E.α} (e n : Int) : DSpec E 41 [.ref 0 0] (mkHp [(0, .cells [.p (.int .i64 e)] 0)]) A (some (.iface 113 (.agg [.int .i64 n]))) (fun y => y = .ok (.p (.tuple [])) (mkHp [(0, .cells [.p (.int .i64 n)] 0)]) A) := by
  refine dspec_of Try.func41 (none) (rfl : Try.f41.body = some _) rfl rfl rfl (by decide) (Nat.le_of_ble_eq_true rfl) (fun id h => ?_) (fun j id h => ?_) ?_
  · exact wf1x h
  · exact wf2x h
  intro C hN hL
  replace hN : C.N = 3 := hN
  simp only [Gh.num, List.map_cons, List.map_nil, Nat.reduceAdd, recG]
  refine oc0 [(0, 0)] [] [0, 0] none (spec := s_caught_s e n) (hent := ent42) (k := ?_)
  refine nil0 ?_
  refine dpost_normal ?_
  refine fh0 [0] (hR := ?_)
  rfl
theorem ent52 : Enters Try.prog 52 := Enters.mk Try.func52 (by kernel_rfl) rfl
theorem d_none52 {E : Env Try.prog} {A : E.α} (e : Int) : DSpec E 52 [.ref 0 0] (mkHp [(0, .cells [.p (.int .i64 e)] 0)]) A (none) (fun y => y = .ok (.p (.tuple [])) (mkHp [(0, .cells [.p (.int .i64 e)] 0)]) A) := by
  refine dspec_of Try.func52 (none) (rfl : Try.f52.body = some _) rfl rfl rfl (by decide) (Nat.le_of_ble_eq_true rfl) (fun id h => ?_) (fun j id h => ?_) ?_
  · exact wf1x h
  · exact wf2x h
  intro C hN hL
  replace hN : C.N = 3 := hN
  simp only [Gh.num, List.map_cons, List.map_nil, Nat.reduceAdd, recG]
  refine oc0 [(0, 0)] [] [0, 0] none (spec := s_caught_n e) (hent := ent42) (k := ?_)
  refine nil0 ?_
  refine dpost_normal ?_
  refine fh0 [0] (hR := ?_)
  rfl
theorem d_some52 {E : Env Try.prog} {A : E.α} (e n : Int) : DSpec E 52 [.ref 0 0] (mkHp [(0, .cells [.p (.int .i64 e)] 0)]) A (some (.iface 113 (.agg [.int .i64 n]))) (fun y => y = .ok (.p (.tuple [])) (mkHp [(0, .cells [.p (.int .i64 n)] 0)]) A) := by
  refine dspec_of Try.func52 (none) (rfl : Try.f52.body = some _) rfl rfl rfl (by decide) (Nat.le_of_ble_eq_true rfl) (fun id h => ?_) (fun j id h => ?_) ?_
  · exact wf1x h
  · exact wf2x h
  intro C hN hL
  replace hN : C.N = 3 := hN
  simp only [Gh.num, List.map_cons, List.map_nil, Nat.reduceAdd, recG]
  refine oc0 [(0, 0)] [] [0, 0] none (spec := s_caught_s e n) (hent := ent42) (k := ?_)
  refine nil0 ?_
  refine dpost_normal ?_
  refine fh0 [0] (hR := ?_)
  rfl
theorem ent56 : Enters Try.prog 56 := Enters.mk Try.func56 (by kernel_rfl) rfl
theorem d_none56 {E : Env Try.prog} {A : E.α} (e : Int) : DSpec E 56 [.ref 0 0] (mkHp [(0, .cells [.p (.int .i64 e)] 0)]) A (none) (fun y => y = .ok (.p (.tuple [])) (mkHp [(0, .cells [.p (.int .i64 e)] 0)]) A) := by
  refine dspec_of Try.func56 (none) (rfl : Try.f56.body = some _) rfl rfl rfl (by decide) (Nat.le_of_ble_eq_true rfl) (fun id h => ?_) (fun j id h => ?_) ?_
  · exact wf1x h
  · exact wf2x h
  intro C hN hL
  replace hN : C.N = 3 := hN
  simp only [Gh.num, List.map_cons, List.map_nil, Nat.reduceAdd, recG]
  refine oc0 [(0, 0)] [] [0, 0] none (spec := s_caught_n e) (hent := ent42) (k := ?_)
  refine nil0 ?_
  refine dpost_normal ?_
  refine fh0 [0] (hR := ?_)
  rfl
theorem d_some56 {E : Env Try.prog} {A : E.α} (e n : Int) : DSpec E 56 [.ref 0 0] (mkHp [(0, .cells [.p (.int .i64 e)] 0)]) A (some (.iface 113 (.agg [.int .i64 n]))) (fun y => y = .ok (.p (.tuple [])) (mkHp [(0, .cells [.p (.int .i64 n)] 0)]) A) := by
  refine dspec_of Try.func56 (none) (rfl : Try.f56.body = some _) rfl rfl rfl (by decide) (Nat.le_of_ble_eq_true rfl) (fun id h => ?_) (fun j id h => ?_) ?_
  · exact wf1x h
  · exact wf2x h
  intro C hN hL
  replace hN : C.N = 3 := hN
  simp only [Gh.num, List.map_cons, List.map_nil, Nat.reduceAdd, recG]
  refine oc0 [(0, 0)] [] [0, 0] none (spec := s_caught_s e n) (hent := ent42) (k := ?_)
  refine nil0 ?_
  refine dpost_normal ?_
  refine fh0 [0] (hR := ?_)
  rfl
theorem ent62 : Enters Try.prog 62 := Enters.mk Try.func62 (by kernel_rfl) rfl
theorem d_none62 {E : Env Try.prog} {A : E.α} (e : Int) : DSpec E 62 [.ref 0 0] (mkHp [(0, .cells [.p (.int .i64 e)] 0)]) A (none) (fun y => y = .ok (.p (.tuple [])) (mkHp [(0, .cells [.p (.int .i64 e)] 0)]) A) := by
  refine dspec_of Try.func62 (none) (rfl : Try.f62.body = some _) rfl rfl rfl (by decide) (Nat.le_of_ble_eq_true rfl) (fun id h => ?_) (fun j id h => ?_) ?_
  · exact wf1x h
  · exact wf2x h
  intro C hN hL
  replace hN : C.N = 3 := hN
  simp only [Gh.num, List.map_cons, List.map_nil, Nat.reduceAdd, recG]
  refine oc0 [(0, 0)] [] [0, 0] none (spec := s_caught_n e) (hent := ent42) (k := ?_)
  refine nil0 ?_
  refine dpost_normal ?_
  refine fh0 [0] (hR := ?_)
  rfl
theorem d_some62 {E : Env Try.prog} {A : E.α} (e n : Int) : DSpec E 62 [.ref 0 0] (mkHp [(0, .cells [.p (.int .i64 e)] 0)]) A (some (.iface 113 (.agg [.int .i64 n]))) (fun y => y = .ok (.p (.tuple [])) (mkHp [(0, .cells [.p (.int .i64 n)] 0)]) A) := by
  refine dspec_of Try.func62 (none) (rfl : Try.f62.body = some _) rfl rfl rfl (by decide) (Nat.le_of_ble_eq_true rfl) (fun id h => ?_) (fun j id h => ?_) ?_
  · exact wf1x h
  · exact wf2x h
  intro C hN hL
  replace hN : C.N = 3 := hN
  simp only [Gh.num, List.map_cons, List.map_nil, Nat.reduceAdd, recG]
  refine oc0 [(0, 0)] [] [0, 0] none (spec := s_caught_s e n) (hent := ent42) (k := ?_)
  refine nil0 ?_
  refine dpost_normal ?_
  refine fh0 [0] (hR := ?_)
  rfl
theorem ent67 : Enters Try.prog 67 := Enters.mk Try.func67 (by kernel_rfl) rfl
theorem d_none67 {E : Env Try.prog} {A : E.α} (e : Int) : DSpec E 67 [.ref 0 0] (mkHp [(0, .cells [.p (.int .i64 e)] 0)]) A (none) (fun y => y = .ok (.p (.tuple [])) (mkHp [(0, .cells [.p (.int .i64 e)] 0)]) A) := by
  refine dspec_of Try.func67 (none) (rfl : Try.f67.body = some _) rfl rfl rfl (by decide) (Nat.le_of_ble_eq_true rfl) (fun id h => ?_) (fun j id h => ?_) ?_
  · exact wf1x h
  · exact wf2x h
  intro C hN hL
  replace hN : C.N = 3 := hN
  simp only [Gh.num, List.map_cons, List.map_nil, Nat.reduceAdd, recG]
  refine oc0 [(0, 0)] [] [0, 0] none (spec := s_caught_n e) (hent := ent42) (k := ?_)
  refine nil0 ?_
  refine dpost_normal ?_
  refine fh0 [0] (hR := ?_)
  rfl
theorem d_some67 {E : Env Try.prog} {A : E.α} (e n : Int) : DSpec E 67 [.ref 0 0] (mkHp [(0, .cells [.p (.int .i64 e)] 0)]) A (some (.iface 113 (.agg [.int .i64 n]))) (fun y => y = .ok (.p (.tuple [])) (mkHp [(0, .cells [.p (.int .i64 n)] 0)]) A) := by
  refine dspec_of Try.func67 (none) (rfl : Try.f67.body = some _) rfl rfl rfl (by decide) (Nat.le_of_ble_eq_true rfl) (fun id h => ?_) (fun j id h => ?_) ?_
  · exact wf1x h
  · exact wf2x h
  intro C hN hL
  replace hN : C.N = 3 := hN
  simp only [Gh.num, List.map_cons, List.map_nil, Nat.reduceAdd, recG]
  refine oc0 [(0, 0)] [] [0, 0] none (spec := s_caught_s e n) (hent := ent42) (k := ?_)
  refine nil0 ?_
  refine dpost_normal ?_
  refine fh0 [0] (hR := ?_)
  rfl
theorem ent73 : Enters Try.prog 73 := Enters.mk Try.func73 (by kernel_rfl) rfl
theorem d_none73 {E : Env Try.prog} {A : E.α} (e : Int) : DSpec E 73 [.ref 0 0] (mkHp [(0, .cells [.p (.int .i64 e)] 0)]) A (none) (fun y => y = .ok (.p (.tuple [])) (mkHp [(0, .cells [.p (.int .i64 e)] 0)]) A) := by
  refine dspec_of Try.func73 (none) (rfl : Try.f73.body = some _) rfl rfl rfl (by decide) (Nat.le_of_ble_eq_true rfl) (fun id h => ?_) (fun j id h => ?_) ?_
  · exact wf1x h
  · exact wf2x h
  intro C hN hL
  replace hN : C.N = 3 := hN
  simp only [Gh.num, List.map_cons, List.map_nil, Nat.reduceAdd, recG]
  refine oc0 [(0, 0)] [] [0, 0] none (spec := s_caught_n e) (hent := ent42) (k := ?_)
  refine nil0 ?_
  refine dpost_normal ?_
  refine fh0 [0] (hR := ?_)
  rfl
theorem d_some73 {E : Env Try.prog} {A : E.α} (e n : Int) : DSpec E 73 [.ref 0 0] (mkHp [(0, .cells [.p (.int .i64 e)] 0)]) A (some (.iface 113 (.agg [.int .i64 n]))) (fun y => y = .ok (.p (.tuple [])) (mkHp [(0, .cells [.p (.int .i64 n)] 0)]) A) := by
  refine dspec_of Try.func73 (none) (rfl : Try.f73.body = some _) rfl rfl rfl (by decide) (Nat.le_of_ble_eq_true rfl) (fun id h => ?_) (fun j id h => ?_) ?_
  · exact wf1x h
  · exact wf2x h
  intro C hN hL
  replace hN : C.N = 3 := hN
  simp only [Gh.num, List.map_cons, List.map_nil, Nat.reduceAdd, recG]
  refine oc0 [(0, 0)] [] [0, 0] none (spec := s_caught_s e n) (hent := ent42) (k := ?_)
  refine nil0 ?_
  refine dpost_normal ?_
  refine fh0 [0] (hR := ?_)
  rfl
theorem ent86 : Enters Try.prog 86 := Enters.mk Try.func86 (by kernel_rfl) rfl
theorem d_none86 {E : Env Try.prog} {A : E.α} (e : Int) : DSpec E 86 [.ref 0 0] (mkHp [(0, .cells [.p (.int .i64 e)] 0)]) A (none) (fun y => y = .ok (.p (.tuple [])) (mkHp [(0, .cells [.p (.int .i64 e)] 0)]) A) := by
  refine dspec_of Try.func86 (none) (rfl : Try.f86.body = some _) rfl rfl rfl (by decide) (Nat.le_of_ble_eq_true rfl) (fun id h => ?_) (fun j id h => ?_) ?_
  · exact wf1x h
  · exact wf2x h
  intro C hN hL
  replace hN : C.N = 3 := hN
  simp only [Gh.num, List.map_cons, List.map_nil, Nat.reduceAdd, recG]
  refine oc0 [(0, 0)] [] [0, 0] none (spec := s_caught_n e) (hent := ent42) (k := ?_)
  refine nil0 ?_
  refine dpost_normal ?_
  refine fh0 [0] (hR := ?_)
  rfl
theorem d_some86 {E : Env Try.prog} {A : E.α} (e n : Int) : DSpec E 86 [.ref 0 0] (mkHp [(0, .cells [.p (.int .i64 e)] 0)]) A (some (.iface 113 (.agg [.int .i64 n]))) (fun y => y = .ok (.p (.tuple [])) (mkHp [(0, .cells [.p (.int .i64 n)] 0)]) A) := by
  refine dspec_of Try.func86 (none) (rfl : Try.f86.body = some _) rfl rfl rfl (by decide) (Nat.le_of_ble_eq_true rfl) (fun id h => ?_) (fun j id h => ?_) ?_
  · exact wf1x h
  · exact wf2x h
  intro C hN hL
  replace hN : C.N = 3 := hN
  simp only [Gh.num, List.map_cons, List.map_nil, Nat.reduceAdd, recG]
  refine oc0 [(0, 0)] [] [0, 0] none (spec := s_caught_s e n) (hent := ent42) (k := ?_)
  refine nil0 ?_
  refine dpost_normal ?_
  refine fh0 [0] (hR := ?_)
  rfl
theorem ent91 : Enters Try.prog 91 := Enters.mk Try.func91 (by kernel_rfl) rfl
theorem d_none91 {E : Env Try.prog} {A : E.α} (e : Int) : DSpec E 91 [.ref 0 0] (mkHp [(0, .cells [.p (.int .i64 e)] 0)]) A (none) (fun y => y = .ok (.p (.tuple [])) (mkHp [(0, .cells [.p (.int .i64 e)] 0)]) A) := by
  refine dspec_of Try.func91 (none) (rfl : Try.f91.body = some _) rfl rfl rfl (by decide) (Nat.le_of_ble_eq_true rfl) (fun id h => ?_) (fun j id h => ?_) ?_
  · exact wf1x h
  · exact wf2x h
  intro C hN hL
  replace hN : C.N = 3 := hN
  simp only [Gh.num, List.map_cons, List.map_nil, Nat.reduceAdd, recG]
  refine oc0 [(0, 0)] [] [0, 0] none (spec := s_caught_n e) (hent := ent42) (k := ?_)
  refine nil0 ?_
  refine dpost_normal ?_
  refine fh0 [0] (hR := ?_)
  rfl
theorem d_some91 {E : Env Try.prog} {A : E.α} (e n : Int) : DSpec E 91 [.ref 0 0] (mkHp [(0, .cells [.p (.int .i64 e)] 0)]) A (some (.iface 113 (.agg [.int .i64 n]))) (fun y => y = .ok (.p (.tuple [])) (mkHp [(0, .cells [.p (.int .i64 n)] 0)]) A) := by
  refine dspec_of Try.func91 (none) (rfl : Try.f91.body = some _) rfl rfl rfl (by decide) (Nat.le_of_ble_eq_true rfl) (fun id h => ?_) (fun j id h => ?_) ?_
  · exact wf1x h
  · exact wf2x h
  intro C hN hL
  replace hN : C.N = 3 := hN
  simp only [Gh.num, List.map_cons, List.map_nil, Nat.reduceAdd, recG]
  refine oc0 [(0, 0)] [] [0, 0] none (spec := s_caught_s e n) (hent := ent42) (k := ?_)
  refine nil0 ?_
  refine dpost_normal ?_
  refine fh0 [0] (hR := ?_)
  rfl
theorem ent45 : Enters Try.prog 45 := Enters.mk Try.func45 (by kernel_rfl) rfl
theorem s_isPlate {E : Env Try.prog} {A : E.α} (pl n : Int) (h : 0 ≤ pl ∧ pl ≤ 8) : Gh.Spec E 45 [.ptr [.p (.int .i64 pl)], .p (.int .i64 n)] (mkHp []) A (fun y => y = .ok (.p (.bool (decide (0 ≤ n) && decide (n ≤ pl - 1)))) (mkHp []) A) := by
  refine spec_of Try.func45 (rfl : Try.f45.body = some _) (Nat.le_of_ble_eq_true rfl) (fun id h => ?_) (fun j id h => ?_) ?_
  · exact wf1x h
  · exact wf2x h
  intro C hN hL
  replace hN : C.N = 13 := hN
  simp only [Gh.num, List.map_cons, List.map_nil, Nat.reduceAdd]
  repeat refine gwp_seq ?_
  refine gwp_region ?_
  refine v0 (k := ?_)
  refine nil0 ?_
  refine cl [0, 1] (k := ?_)
  repeat refine gwp_seq ?_
  refine gwp_region ?_
  refine v0 (k := ?_)
  refine v0 (k := ?_)
  refine v0 (k := ?_)
  refine v0 (k := ?_)
  refine v0 (k := ?_)
  refine v0 (k := ?_)
  refine v1 (hc := by (first | exact True.intro | (simp only [inI]; omega) | (simp [P.size] <;> omega))) (k := ?_)
  refine pc0 (spec := s_within _ _ _) (hent := ent46) (k := ?_)
  refine v0 (k := ?_)
  refine nil0 ?_
  repeat refine gwp_seq ?_
  refine gwp_ret ?_
  repeat (first | refine gthen_ret ?_ | refine gblock_ret ?_ | refine gnoGoto_ret ?_)
  refine fin_ret ?_
  refine fp (hR := ?_)
  rfl
theorem ent55 : Enters Try.prog 55 := Enters.mk Try.func55 (by kernel_rfl) rfl
theorem s_every {E : Env Try.prog} {A : E.α} (g0 g1 g2 : P) (ns : List P) (h : ns.length ≤ 12) : Gh.Spec E 55 [.ptr [.p g0, .p g1, .p g2, .p (.list ns)]] (mkHp []) A (fun y => y = .ok (.p (.int .u64 ((2 ^ ns.length : Nat) - 1 : Int))) (mkHp []) A) := by
  refine spec_of Try.func55 (rfl : Try.f55.body = some _) (Nat.le_of_ble_eq_true rfl) (fun id h => ?_) (fun j id h => ?_) ?_
  · exact wf1x h
  · exact wf2x h
  intro C hN hL
  replace hN : C.N = 11 := hN
  simp only [Gh.num, List.map_cons, List.map_nil, Nat.reduceAdd]
  repeat refine gwp_seq ?_
  refine gwp_region ?_
  refine v0 (k := ?_)
  refine nil0 ?_
  refine cl [0] (k := ?_)
  repeat refine gwp_seq ?_
  refine gwp_region ?_
  refine v0 (k := ?_)
  refine v0 (k := ?_)
  refine v0 (k := ?_)
  refine v0 (k := ?_)
  refine v0 (k := ?_)
  refine v0 (k := ?_)
  refine v1 (hc := by (first | exact True.intro | (simp only [inI]; omega) | (simp [P.size] <;> omega))) (k := ?_)
  refine v1 (hc := by (first | exact True.intro | (simp only [inI]; omega) | (simp [P.size] <;> omega))) (k := ?_)
  refine v0 (k := ?_)
  refine nil0 ?_
  repeat refine gwp_seq ?_
  refine gwp_ret ?_
  repeat (first | refine gthen_ret ?_ | refine gblock_ret ?_ | refine gnoGoto_ret ?_)
  refine fin_ret ?_
  refine fp (hR := ?_)
  rw [every_u64 _ (by omega)]
theorem ent97 : Enters Try.prog 97 := Enters.mk Try.func97 (by kernel_rfl) rfl
theorem s_has (set n : Nat) (hs : set < 2 ^ 64) (hn : n < 64) : PSpec Try.prog 97 [.int .u64 set, .int .i64 n] (.ok (.bool (set.testBit n))) := by
  refine pspec_of Try.func97 (rfl : Try.f97.body = some _) rfl ?_
  intro E A C hN hL
  replace hN : C.N = 10 := hN
  simp only [Gh.num, List.map_cons, List.map_nil, Nat.reduceAdd]
  repeat refine gwp_seq ?_
  refine gwp_region ?_
  refine v0 (k := ?_)
  refine nil0 ?_
  refine cl [0, 1] (k := ?_)
  repeat refine gwp_seq ?_
  refine gwp_region ?_
  refine v0 (k := ?_)
  refine v0 (k := ?_)
  refine v1 (hc := by (first | exact True.intro | (simp only [inI]; omega) | (simp [P.size] <;> omega))) (k := ?_)
  refine v0 (k := ?_)
  refine v0 (k := ?_)
  refine v0 (k := ?_)
  refine nil0 ?_
  repeat refine gwp_seq ?_
  refine gwp_ret ?_
  repeat (first | refine gthen_ret ?_ | refine gblock_ret ?_ | refine gnoGoto_ret ?_)
  refine fin_ret ?_
  refine fp (hR := ?_)
  rw [← shr_bit set n hs hn]
  rfl
theorem ent78 : Enters Try.prog 78 := Enters.mk Try.func78 (by kernel_rfl) rfl
theorem s_hasp (set n : Nat) (hs : set < 2 ^ 64) (hn : n < 64) : PSpec Try.prog 78 [.int .u64 set, .int .i64 n] (.ok (.bool (set.testBit n))) := by
  refine pspec_of Try.func78 (rfl : Try.f78.body = some _) rfl ?_
  intro E A C hN hL
  replace hN : C.N = 10 := hN
  simp only [Gh.num, List.map_cons, List.map_nil, Nat.reduceAdd]
  repeat refine gwp_seq ?_
  refine gwp_region ?_
  refine v0 (k := ?_)
  refine nil0 ?_
  refine cl [0, 1] (k := ?_)
  repeat refine gwp_seq ?_
  refine gwp_region ?_
  refine v0 (k := ?_)
  refine v0 (k := ?_)
  refine v1 (hc := by (first | exact True.intro | (simp only [inI]; omega) | (simp [P.size] <;> omega))) (k := ?_)
  refine v0 (k := ?_)
  refine v0 (k := ?_)
  refine v0 (k := ?_)
  refine nil0 ?_
  repeat refine gwp_seq ?_
  refine gwp_ret ?_
  repeat (first | refine gthen_ret ?_ | refine gblock_ret ?_ | refine gnoGoto_ret ?_)
  refine fin_ret ?_
  refine fp (hR := ?_)
  rw [← shr_bit set n hs hn]
  rfl
theorem ent115 : Enters Try.prog 115 := Enters.mk Try.func115 (by kernel_rfl) rfl
theorem s_ones64 (n : Nat) (h : n < 4096) : PSpec Try.prog 115 [.int .u64 n] (.ok (.int .i64 (pop n))) := by
  refine pspec_of Try.func115 (rfl : Try.f115.body = some _) rfl ?_
  intro E A C hN hL
  replace hN : C.N = 35 := hN
  simp only [Gh.num, List.map_cons, List.map_nil, Nat.reduceAdd]
  obtain ⟨h1, h2, h3⟩ := swar_ok n h
  repeat refine gwp_seq ?_
  refine gwp_region ?_
  refine v0 (k := ?_)
  refine nil0 ?_
  refine cl [0] (k := ?_)
  repeat refine gwp_seq ?_
  refine gwp_region ?_
  refine v0 (k := ?_)
  refine v1 (hc := by (first | exact True.intro | (simp only [inI]; omega) | (simp [P.size] <;> omega))) (k := ?_)
  refine v0 (k := ?_)
  refine v0 (k := ?_)
  refine v0 (k := ?_)
  refine v1 (hc := by (first | exact True.intro | (simp only [inI]; omega) | (simp [P.size] <;> omega))) (k := ?_)
  refine v0 (k := ?_)
  refine nil0 ?_
  refine cl [0] (k := ?_)
  repeat refine gwp_seq ?_
  refine gwp_region ?_
  refine v0 (k := ?_)
  refine v1 (hc := by (first | exact True.intro | (simp only [inI]; omega) | (simp [P.size] <;> omega))) (k := ?_)
  refine v0 (k := ?_)
  refine v0 (k := ?_)
  refine v0 (k := ?_)
  refine v1 (hc := by (first | exact True.intro | (simp only [inI]; omega) | (simp [P.size] <;> omega))) (k := ?_)
  refine v0 (k := ?_)
  refine nil0 ?_
  refine cl [0] (k := ?_)
  repeat refine gwp_seq ?_
  refine gwp_region ?_
  refine v0 (k := ?_)
  refine v1 (hc := by (first | exact True.intro | (simp only [inI]; omega) | (simp [P.size] <;> omega))) (k := ?_)
  refine v0 (k := ?_)
  refine v1 (hc := by (first | exact True.intro | (simp only [inI]; omega) | (simp [P.size] <;> omega))) (k := ?_)
  refine v0 (k := ?_)
  refine v0 (k := ?_)
  refine nil0 ?_
  refine cl [0] (k := ?_)
  repeat refine gwp_seq ?_
  refine gwp_region ?_
  refine v0 (k := ?_)
  refine v0 (k := ?_)
  refine v1 (hc := by (first | exact True.intro | (simp only [inI]; omega) | (simp [P.size] <;> omega))) (k := ?_)
  refine v1 (hc := by (first | exact True.intro | (simp only [inI]; omega) | (simp [P.size] <;> omega))) (k := ?_)
  refine v0 (k := ?_)
  refine nil0 ?_
  refine cl [0] (k := ?_)
  repeat refine gwp_seq ?_
  refine gwp_region ?_
  refine v0 (k := ?_)
  refine v0 (k := ?_)
  refine v1 (hc := by (first | exact True.intro | (simp only [inI]; omega) | (simp [P.size] <;> omega))) (k := ?_)
  refine v1 (hc := by (first | exact True.intro | (simp only [inI]; omega) | (simp [P.size] <;> omega))) (k := ?_)
  refine v0 (k := ?_)
  refine nil0 ?_
  refine cl [0] (k := ?_)
  repeat refine gwp_seq ?_
  refine gwp_region ?_
  refine v0 (k := ?_)
  refine v0 (k := ?_)
  refine v1 (hc := by (first | exact True.intro | (simp only [inI]; omega) | (simp [P.size] <;> omega))) (k := ?_)
  refine v1 (hc := by (first | exact True.intro | (simp only [inI]; omega) | (simp [P.size] <;> omega))) (k := ?_)
  refine v0 (k := ?_)
  refine nil0 ?_
  refine cl [0] (k := ?_)
  repeat refine gwp_seq ?_
  refine gwp_le (σ' := sg [(0, .p (.int .u64 (swar n)))] [] A []) (fun _ _ h => h) ?_
  refine gwp_region ?_
  refine v0 (k := ?_)
  refine v1 (hc := by (first | exact True.intro | (simp only [inI]; omega) | (simp [P.size] <;> omega))) (k := ?_)
  refine v0 (k := ?_)
  refine v0 (k := ?_)
  refine nil0 ?_
  repeat refine gwp_seq ?_
  refine gwp_ret ?_
  repeat (first | refine gthen_ret ?_ | refine gblock_ret ?_ | refine gnoGoto_ret ?_)
  refine fin_ret ?_
  refine fp (hR := ?_)
  rw [← h3]
  rfl
theorem ent106 : Enters Try.prog 106 := Enters.mk Try.func106 (by kernel_rfl) rfl
theorem s_ones (n : Nat) (h : n < 4096) : PSpec Try.prog 106 [.int .u64 n] (.ok (.int .i64 (pop n))) := by
  refine pspec_of Try.func106 (rfl : Try.f106.body = some _) rfl ?_
  intro E A C hN hL
  replace hN : C.N = 8 := hN
  simp only [Gh.num, List.map_cons, List.map_nil, Nat.reduceAdd]
  repeat refine gwp_seq ?_
  refine gwp_region ?_
  refine v0 (k := ?_)
  refine nil0 ?_
  repeat refine gwp_seq ?_
  refine cF (k := ?_)
  repeat refine gwp_seq ?_
  refine gwp_skip ?_
  refine cl [0] (k := ?_)
  repeat refine gwp_seq ?_
  refine gwp_region ?_
  refine v0 (k := ?_)
  refine pc0 (spec := s_ones64 n h) (hent := ent115) (k := ?_)
  refine v0 (k := ?_)
  refine nil0 ?_
  repeat refine gwp_seq ?_
  refine gwp_ret ?_
  repeat (first | refine gthen_ret ?_ | refine gblock_ret ?_ | refine gnoGoto_ret ?_)
  refine fin_ret ?_
  refine fp (hR := ?_)
  rfl
theorem ent93 : Enters Try.prog 93 := Enters.mk Try.func93 (by kernel_rfl) rfl
theorem s_size (n : Nat) (h : n < 4096) : PSpec Try.prog 93 [.int .u64 n] (.ok (.int .i64 (pop n))) := by
  refine pspec_of Try.func93 (rfl : Try.f93.body = some _) rfl ?_
  intro E A C hN hL
  replace hN : C.N = 5 := hN
  simp only [Gh.num, List.map_cons, List.map_nil, Nat.reduceAdd]
  repeat refine gwp_seq ?_
  refine gwp_region ?_
  refine v0 (k := ?_)
  refine nil0 ?_
  refine cl [0] (k := ?_)
  repeat refine gwp_seq ?_
  refine gwp_region ?_
  refine v0 (k := ?_)
  refine pc0 (spec := s_ones n h) (hent := ent106) (k := ?_)
  refine v0 (k := ?_)
  refine nil0 ?_
  repeat refine gwp_seq ?_
  refine gwp_ret ?_
  repeat (first | refine gthen_ret ?_ | refine gblock_ret ?_ | refine gnoGoto_ret ?_)
  refine fin_ret ?_
  refine fp (hR := ?_)
  rfl
theorem ent88 : Enters Try.prog 88 := Enters.mk Try.func88 (by kernel_rfl) rfl
theorem s_sizep (n : Nat) (h : n < 4096) : PSpec Try.prog 88 [.int .u64 n] (.ok (.int .i64 (pop n))) := by
  refine pspec_of Try.func88 (rfl : Try.f88.body = some _) rfl ?_
  intro E A C hN hL
  replace hN : C.N = 5 := hN
  simp only [Gh.num, List.map_cons, List.map_nil, Nat.reduceAdd]
  repeat refine gwp_seq ?_
  refine gwp_region ?_
  refine v0 (k := ?_)
  refine nil0 ?_
  refine cl [0] (k := ?_)
  repeat refine gwp_seq ?_
  refine gwp_region ?_
  refine v0 (k := ?_)
  refine pc0 (spec := s_ones n h) (hent := ent106) (k := ?_)
  refine v0 (k := ?_)
  refine nil0 ?_
  repeat refine gwp_seq ?_
  refine gwp_ret ?_
  repeat (first | refine gthen_ret ?_ | refine gblock_ret ?_ | refine gnoGoto_ret ?_)
  refine fin_ret ?_
  refine fp (hR := ?_)
  rfl
end Go.Proofs.Ytagdholenfkeaaa

/- The program: who knows whom; which chains are valid. -/
namespace Go.Proofs.Ytagdholenfkeaaa
open Go.Gh
set_option maxRecDepth 100000
set_option maxHeartbeats 4000000
structure kVb1 (c : Prop) : Prop where
  h : c := by (first | exact True.intro | (simp only [inI]; omega) | (simp [P.size, pr, pk, all_int, allOne_p, goods_p, allOne, goods, good, G.one, P.one, P.cells] <;> first | omega | assumption | simp_all))
theorem und50 : Try.prog.underlying 50 = some (.array 2 3) := by kernel_rfl
theorem und3 : Try.prog.underlying 3 = some (.int .i64) := by kernel_rfl
theorem geq_int3 (d : Nat) (a c : Int) : geq Try.prog (d + 1) 3 (.int .i64 a) (.int .i64 c) = some (decide (a = c)) := by
  unfold geq
  rw [und3]
  rfl
theorem geq_pair (d : Nat) (a b c e : Int) : geq Try.prog (d + 2) 50 (.agg [.int .i64 a, .int .i64 b]) (.agg [.int .i64 c, .int .i64 e]) = some (decide (a = c) && (decide (b = e) && true)) := by
  unfold geq
  rw [und50]
  simp only [ti_3]
  have p0 : ∀ u v : Int, ppart Try.prog 3 [.int .i64 u, .int .i64 v] 0 = some (.int .i64 u) := fun u v => by unfold ppart; rw [ti_3]; rfl
  have p1 : ∀ u v : Int, ppart Try.prog 3 [.int .i64 u, .int .i64 v] 1 = some (.int .i64 v) := fun u v => by unfold ppart; rw [ti_3]; rfl
  rw [show List.range 2 = [0, 1] from rfl]
  simp only [List.map_cons, List.map_nil, Nat.zero_mul, Nat.one_mul, p0, p1, geq_int3]
  rfl
theorem ent112 : Enters Try.prog 112 := Enters.mk Try.func112 (by kernel_rfl) rfl
theorem s_know1 {E : Env Try.prog} {A : E.α} (a b : Int) (z : Kw) : Gh.Spec E 112 [.p (pk z), .ptr [.p (.int .i64 a)], .ptr [.p (.int .i64 b)]] (mkHp []) A (fun y => y = .ok (.p (.bool ((knowQ a b) z))) (mkHp []) A) := by
  refine spec_of Try.func112 (rfl : Try.f112.body = some _) (Nat.le_of_ble_eq_true rfl) (fun id h => ?_) (fun j id h => ?_) ?_
  · exact wf1x h
  · exact wf2x h
  intro C hN hL
  replace hN : C.N = 17 := hN
  simp only [Gh.num, List.map_cons, List.map_nil, Nat.reduceAdd]
  have hgp := geq_pair
  have hpk : ∀ k : Kw, pk k = P.agg [.int .i64 k.a, .int .i64 k.b] := fun _ => rfl
  have hpr : ∀ r : Rc, pr r = P.agg [.int .i64 r.p, .int .i64 r.f, .int .i64 r.t] := fun _ => rfl
  repeat refine gwp_seq ?_
  refine gwp_region ?_
  refine n1 130 false (hc := kVb1.h {}) (k := ?_)
  refine v0 (k := ?_)
  refine nil0 ?_
  refine cl [1, 2, 3] (k := ?_)
  repeat refine gwp_seq ?_
  refine gwp_region ?_
  refine v0 (k := ?_)
  refine v0 (k := ?_)
  refine v0 (k := ?_)
  refine v0 (k := ?_)
  refine v0 (k := ?_)
  refine v0 (k := ?_)
  refine b0 (k1 := fun hb1 => ?_) (k0 := fun hb1 => ?_)
  · replace hb1 := hB.h {} hb1
    refine x0 (k := ?_)
    refine x0 (k := ?_)
    refine x0 (k := ?_)
    refine x0 (k := ?_)
    refine x0 (k := ?_)
    refine v0 (k := ?_)
    refine v0 (k := ?_)
    refine nil0 ?_
    repeat refine gwp_seq ?_
    refine gwp_ret ?_
    repeat (first | refine gthen_ret ?_ | refine gblock_ret ?_ | refine gnoGoto_ret ?_)
    refine fin_ret ?_
    refine fp (hR := ?_)
    simp only [knowQ] at *
    simp_all
    all_goals (intros; omega)
  · replace hb1 := hB.h {} hb1
    refine w0 (k := ?_)
    refine w0 (k := ?_)
    refine w0 (k := ?_)
    refine w0 (k := ?_)
    refine w0 (k := ?_)
    refine v0 (k := ?_)
    refine v0 (k := ?_)
    refine nil0 ?_
    repeat refine gwp_seq ?_
    refine gwp_ret ?_
    repeat (first | refine gthen_ret ?_ | refine gblock_ret ?_ | refine gnoGoto_ret ?_)
    refine fin_ret ?_
    refine fp (hR := ?_)
    simp only [knowQ] at *
    simp_all
    all_goals (intros; omega)
theorem ent116 : Enters Try.prog 116 := Enters.mk Try.func116 (by kernel_rfl) rfl
theorem s_know_i {E : Env Try.prog} {A : E.α} (l : List Kw) (hl : l.length ≤ 1048576) (a b : Int) : Gh.Spec E 116 [.p (.list (l.map pk)), .fn (.func 112) [] [.ptr [.p (.int .i64 a)], .ptr [.p (.int .i64 b)]]] (mkHp []) A (fun y => y = .ok (.p (.int .i64 (idxP (knowQ a b) l 0))) (mkHp []) A) := by
  refine spec_of Try.func116 (rfl : Try.f116.body = some _) (Nat.le_of_ble_eq_true rfl) (fun id h => ?_) (fun j id h => ?_) ?_
  · exact wf1x h
  · exact wf2x h
  intro C hN hL
  replace hN : C.N = 19 := hN
  simp only [Gh.num, List.map_cons, List.map_nil, Nat.reduceAdd]
  have hpk : ∀ k : Kw, pk k = P.agg [.int .i64 k.a, .int .i64 k.b] := fun _ => rfl
  have hpr : ∀ r : Rc, pr r = P.agg [.int .i64 r.p, .int .i64 r.f, .int .i64 r.t] := fun _ => rfl
  repeat refine gwp_seq ?_
  refine gwp_region ?_
  refine v0 (k := ?_)
  refine nil0 ?_
  refine cl [0, 1] (k := ?_)
  repeat refine gwp_seq ?_
  refine gwp_region ?_
  refine v0 (k := ?_)
  refine v0 (k := ?_)
  refine v0 (k := ?_)
  refine nil0 ?_
  refine cl [0, 1, 7, 8] (k := ?_)
  repeat refine gwp_seq ?_
  refine gwp_block ?_
  repeat refine gwp_seq ?_
  refine gc_loop (fun mz σ => ∃ k : Nat, (k ≤ l.length) ∧ (idxP (knowQ a b) l 0 = idxP (knowQ a b) (l.drop k) k) ∧ mz = l.length - k ∧ σ = (sg [(0, .p (.list (l.map pk))), (1, .fn (.func 112) [] [.ptr [.p (.int .i64 a)], .ptr [.p (.int .i64 b)]]), (7, .p (.int .i64 l.length)), (8, .p (.int .i64 k))] [] A [] : Sg E)) ?_ (fun mz σ hI => ?_)
  · refine lbeg [0, 1, 7, 8] (hV := ?_)
    exact ⟨_, 0, by omega, by simp, rfl, rfl⟩
  obtain ⟨k, hk, hi, hn, rfl⟩ := hI
  repeat refine gwp_seq ?_
  refine gwp_region ?_
  refine v0 (k := ?_)
  refine nil0 ?_
  repeat refine gwp_seq ?_
  refine cB (k1 := fun hb1 => ?_) (k0 := fun hb1 => ?_)
  · replace hb1 := hB.h {} hb1
    repeat refine gwp_seq ?_
    refine gwp_skip ?_
    refine cl [0, 1, 7, 8] (k := ?_)
    repeat refine gwp_seq ?_
    refine gwp_block ?_
    repeat refine gwp_seq ?_
    refine gwp_region ?_
    refine v0 (k := ?_)
    refine v0 (k := ?_)
    refine nil0 ?_
    refine cl [0, 1, 5, 7, 8] (k := ?_)
    repeat refine gwp_seq ?_
    obtain ⟨x, hx⟩ := getE (l := l) (k := k) (by omega)
    refine gwp_region ?_
    refine v0 (k := ?_)
    refine v0 (k := ?_)
    refine v0 (k := ?_)
    refine v1 (hc := kVb1.h {}) (k := ?_)
    refine v0 (k := ?_)
    refine oc0 [] [] [0, 0, 0] none (spec := s_know1 a b x) (hent := ent112) (k := ?_)
    refine nil0 ?_
    repeat refine gwp_seq ?_
    refine cB (k1 := fun hb2 => ?_) (k0 := fun hb2 => ?_)
    · replace hb2 := hB.h {} hb2
      repeat refine gwp_seq ?_
      refine gwp_region ?_
      refine v0 (k := ?_)
      refine v0 (k := ?_)
      refine nil0 ?_
      repeat refine gwp_seq ?_
      refine gwp_ret ?_
      repeat (first | refine gthen_ret ?_ | refine gblock_ret ?_ | refine gnoGoto_ret ?_)
      refine fin_ret ?_
      refine fp (hR := ?_)
      simp only [PRes.at, GRes.ok.injEq, G.p.injEq, P.int.injEq, true_and, and_true]
      first
      | (rw [hi, idxP_at hx]; simp_all; done)
      | (rw [hi, List.drop_eq_nil_of_le (by omega)]; rfl)
    · replace hb2 := hB.h {} hb2
      repeat refine gwp_seq ?_
      refine gwp_skip ?_
      refine cl [0, 1, 7, 8] (k := ?_)
      repeat refine gwp_seq ?_
      refine gwp_region ?_
      refine v1 (hc := kVb1.h {}) (k := ?_)
      refine v0 (k := ?_)
      refine nil0 ?_
      refine lend [0, 1, 7, 8] (h := ?_) (hV := ?_) (n' := l.length - (k + 1))
      · omega
      exact ⟨k + 1, by omega, by rw [hi, idxP_at hx]; simp_all, rfl, rfl⟩
  · replace hb1 := hB.h {} hb1
    repeat refine gwp_seq ?_
    refine gwp_exit ?_
    repeat (first | refine gthen_exit ?_ | refine gnoGoto_exit ?_ | refine gblock_here ?_ | refine gblock_out rfl ?_)
    refine cl [] (k := ?_)
    repeat refine gwp_seq ?_
    refine gwp_region ?_
    refine v0 (k := ?_)
    refine nil0 ?_
    repeat refine gwp_seq ?_
    refine gwp_ret ?_
    repeat (first | refine gthen_ret ?_ | refine gblock_ret ?_ | refine gnoGoto_ret ?_)
    refine fin_ret ?_
    refine fp (hR := ?_)
    simp only [PRes.at, GRes.ok.injEq, G.p.injEq, P.int.injEq, true_and, and_true]
    first
    | (rw [hi, idxP_at hx]; simp_all; done)
    | (rw [hi, List.drop_eq_nil_of_le (by omega)]; rfl)
theorem ent110 : Enters Try.prog 110 := Enters.mk Try.func110 (by kernel_rfl) rfl
theorem s_know_c {E : Env Try.prog} {A : E.α} (l : List Kw) (hl : l.length ≤ 1048576) (a b : Int) : Gh.Spec E 110 [.p (.list (l.map pk)), .fn (.func 112) [] [.ptr [.p (.int .i64 a)], .ptr [.p (.int .i64 b)]]] (mkHp []) A (fun y => y = .ok (.p (.bool (l.any (knowQ a b)))) (mkHp []) A) := by
  refine spec_of Try.func110 (rfl : Try.f110.body = some _) (Nat.le_of_ble_eq_true rfl) (fun id h => ?_) (fun j id h => ?_) ?_
  · exact wf1x h
  · exact wf2x h
  intro C hN hL
  replace hN : C.N = 9 := hN
  simp only [Gh.num, List.map_cons, List.map_nil, Nat.reduceAdd]
  repeat refine gwp_seq ?_
  refine gwp_region ?_
  refine v0 (k := ?_)
  refine nil0 ?_
  refine cl [0, 1] (k := ?_)
  repeat refine gwp_seq ?_
  refine gwp_region ?_
  refine v0 (k := ?_)
  refine v0 (k := ?_)
  refine oc0 [] [] [0, 0] none (spec := s_know_i l hl a b) (hent := ent116) (k := ?_)
  refine v0 (k := ?_)
  refine v0 (k := ?_)
  refine nil0 ?_
  repeat refine gwp_seq ?_
  refine gwp_ret ?_
  repeat (first | refine gthen_ret ?_ | refine gblock_ret ?_ | refine gnoGoto_ret ?_)
  refine fin_ret ?_
  refine fp (hR := ?_)
  rw [← idxP_sign (knowQ a b) l 0]
theorem ent99 : Enters Try.prog 99 := Enters.mk Try.func99 (by kernel_rfl) rfl
theorem s_know {E : Env Try.prog} {A : E.α} (g0 g1 : P) (l : List Kw) (hl : l.length ≤ 1048576) (a b : Int) : Gh.Spec E 99 [.ptr [.p g0, .p g1, .p (.list (l.map pk))], .p (.int .i64 a), .p (.int .i64 b)] (mkHp []) A (fun y => y = .ok (.p (.bool (knowI l a b))) (mkHp []) A) := by
  refine spec_of Try.func99 (rfl : Try.f99.body = some _) (Nat.le_of_ble_eq_true rfl) (fun id h => ?_) (fun j id h => ?_) ?_
  · exact wf1x h
  · exact wf2x h
  intro C hN hL
  replace hN : C.N = 14 := hN
  simp only [Gh.num, List.map_cons, List.map_nil, Nat.reduceAdd]
  repeat refine gwp_seq ?_
  refine gwp_region ?_
  refine n1 140 false (hc := kVb1.h {}) (k := ?_)
  refine n1 150 false (hc := kVb1.h {}) (k := ?_)
  refine v0 (k := ?_)
  refine nil0 ?_
  refine cl [0, 4, 5] (k := ?_)
  repeat refine gwp_seq ?_
  refine fz 140 1 [.k] (k := ?_)
  refine fz 150 1 [.k] (k := ?_)
  refine gwp_region ?_
  refine v0 (k := ?_)
  refine v0 (k := ?_)
  refine v0 (k := ?_)
  refine v0 (k := ?_)
  refine v0 (k := ?_)
  refine v0 (k := ?_)
  refine ocv 12 (.f [.n [.k], .n [.k]]) (k := ?_)
  refine oc0 [] [] [0, 0] none (spec := s_know_c l hl a b) (hent := ent110) (k := ?_)
  refine v0 (k := ?_)
  refine nil0 ?_
  repeat refine gwp_seq ?_
  refine gwp_ret ?_
  repeat (first | refine gthen_ret ?_ | refine gblock_ret ?_ | refine gnoGoto_ret ?_)
  refine fin_ret ?_
  refine fp (hR := ?_)
  rfl
theorem ent107 : Enters Try.prog 107 := Enters.mk Try.func107 (by kernel_rfl) rfl
theorem s_isPerson {E : Env Try.prog} {A : E.α} (c : Ch) (hp : 1 ≤ c.ps ∧ c.ps ≤ 8) (hq : 1 ≤ c.pl ∧ c.pl ≤ 4) (n : Int) : Gh.Spec E 107 [.p (.int .i64 n), .ptr [.p (.int .i64 c.pl), .p (.int .i64 c.ps), .p (.list (c.kn.map pk)), .p (.list (c.rs.map pr)), .p (.int .i64 c.ms)]] (mkHp []) A (fun y => y = .ok (.p (.bool (decide (0 ≤ n) && decide (n ≤ c.ps - 1)))) (mkHp []) A) := by
  refine spec_of Try.func107 (rfl : Try.f107.body = some _) (Nat.le_of_ble_eq_true rfl) (fun id h => ?_) (fun j id h => ?_) ?_
  · exact wf1x h
  · exact wf2x h
  intro C hN hL
  replace hN : C.N = 9 := hN
  simp only [Gh.num, List.map_cons, List.map_nil, Nat.reduceAdd]
  repeat refine gwp_seq ?_
  refine gwp_region ?_
  refine v0 (k := ?_)
  refine nil0 ?_
  refine cl [0, 1] (k := ?_)
  repeat refine gwp_seq ?_
  refine gwp_region ?_
  refine v0 (k := ?_)
  refine v0 (k := ?_)
  refine v0 (k := ?_)
  refine v1 (hc := kVb1.h {}) (k := ?_)
  refine pc0 (spec := s_within _ _ _) (hent := ent46) (k := ?_)
  refine v0 (k := ?_)
  refine nil0 ?_
  repeat refine gwp_seq ?_
  refine gwp_ret ?_
  repeat (first | refine gthen_ret ?_ | refine gblock_ret ?_ | refine gnoGoto_ret ?_)
  refine fin_ret ?_
  refine fp (hR := ?_)
  rfl
theorem ent108 : Enters Try.prog 108 := Enters.mk Try.func108 (by kernel_rfl) rfl
theorem s_badKnow {E : Env Try.prog} {A : E.α} (c : Ch) (hp : 1 ≤ c.ps ∧ c.ps ≤ 8) (hq : 1 ≤ c.pl ∧ c.pl ≤ 4) (z : Kw) : Gh.Spec E 108 [.p (pk z), .ptr [.fn (.func 107) [] [.ptr [.p (.int .i64 c.pl), .p (.int .i64 c.ps), .p (.list (c.kn.map pk)), .p (.list (c.rs.map pr)), .p (.int .i64 c.ms)]]]] (mkHp []) A (fun y => y = .ok (.p (.bool (badK c.ps z))) (mkHp []) A) := by
  refine spec_of Try.func108 (rfl : Try.f108.body = some _) (Nat.le_of_ble_eq_true rfl) (fun id h => ?_) (fun j id h => ?_) ?_
  · exact wf1x h
  · exact wf2x h
  intro C hN hL
  replace hN : C.N = 23 := hN
  simp only [Gh.num, List.map_cons, List.map_nil, Nat.reduceAdd]
  have hpk : ∀ k : Kw, pk k = P.agg [.int .i64 k.a, .int .i64 k.b] := fun _ => rfl
  have hpr : ∀ r : Rc, pr r = P.agg [.int .i64 r.p, .int .i64 r.f, .int .i64 r.t] := fun _ => rfl
  repeat refine gwp_seq ?_
  refine gwp_region ?_
  refine n1 120 false (hc := kVb1.h {}) (k := ?_)
  refine v0 (k := ?_)
  refine nil0 ?_
  refine cl [1, 2] (k := ?_)
  repeat refine gwp_seq ?_
  refine gwp_region ?_
  refine v0 (k := ?_)
  refine v1 (hc := kVb1.h {}) (k := ?_)
  refine v0 (k := ?_)
  refine oc0 [] [] [0, 0] none (spec := s_isPerson c hp hq z.a) (hent := ent107) (k := ?_)
  refine v0 (k := ?_)
  refine v0 (k := ?_)
  refine b0 (k1 := fun hb1 => ?_) (k0 := fun hb1 => ?_)
  · replace hb1 := hB.h {} hb1
    refine x0 (k := ?_)
    refine x0 (k := ?_)
    refine x0 (k := ?_)
    refine x0 (k := ?_)
    refine x0 (k := ?_)
    refine v0 (k := ?_)
    refine v0 (k := ?_)
    refine x0 (k := ?_)
    refine x0 (k := ?_)
    refine x0 (k := ?_)
    refine x0 (k := ?_)
    refine x0 (k := ?_)
    refine v0 (k := ?_)
    refine v0 (k := ?_)
    refine nil0 ?_
    repeat refine gwp_seq ?_
    refine gwp_ret ?_
    repeat (first | refine gthen_ret ?_ | refine gblock_ret ?_ | refine gnoGoto_ret ?_)
    refine fin_ret ?_
    refine fp (hR := ?_)
    simp only [badK] at *
    simp_all
    all_goals (try (intros; omega))
  · replace hb1 := hB.h {} hb1
    refine w0 (k := ?_)
    refine w1 (hc := kVb1.h {}) (k := ?_)
    refine w0 (k := ?_)
    refine ocw [] [] [0, 0] none (spec := s_isPerson c hp hq z.b) (hent := ent107) (k := ?_)
    refine w0 (k := ?_)
    refine v0 (k := ?_)
    refine v0 (k := ?_)
    refine b0 (k1 := fun hb2 => ?_) (k0 := fun hb2 => ?_)
    · replace hb2 := hB.h {} hb2
      refine x0 (k := ?_)
      refine x0 (k := ?_)
      refine x0 (k := ?_)
      refine x0 (k := ?_)
      refine x0 (k := ?_)
      refine v0 (k := ?_)
      refine v0 (k := ?_)
      refine nil0 ?_
      repeat refine gwp_seq ?_
      refine gwp_ret ?_
      repeat (first | refine gthen_ret ?_ | refine gblock_ret ?_ | refine gnoGoto_ret ?_)
      refine fin_ret ?_
      refine fp (hR := ?_)
      simp only [badK] at *
      simp_all
      all_goals (try (intros; omega))
    · replace hb2 := hB.h {} hb2
      refine w1 (hc := kVb1.h {}) (k := ?_)
      refine w0 (k := ?_)
      refine w1 (hc := kVb1.h {}) (k := ?_)
      refine w0 (k := ?_)
      refine w0 (k := ?_)
      refine v0 (k := ?_)
      refine v0 (k := ?_)
      refine nil0 ?_
      repeat refine gwp_seq ?_
      refine gwp_ret ?_
      repeat (first | refine gthen_ret ?_ | refine gblock_ret ?_ | refine gnoGoto_ret ?_)
      refine fin_ret ?_
      refine fp (hR := ?_)
      simp only [badK] at *
      simp_all
      all_goals (try (intros; omega))
theorem ent109 : Enters Try.prog 109 := Enters.mk Try.func109 (by kernel_rfl) rfl
theorem s_badRecord {E : Env Try.prog} {A : E.α} (c : Ch) (hp : 1 ≤ c.ps ∧ c.ps ≤ 8) (hq : 1 ≤ c.pl ∧ c.pl ≤ 4) (z : Rc) : Gh.Spec E 109 [.p (pr z), .ptr [.p (.int .i64 c.pl), .p (.int .i64 c.ps), .p (.list (c.kn.map pk)), .p (.list (c.rs.map pr)), .p (.int .i64 c.ms)], .ptr [.fn (.func 107) [] [.ptr [.p (.int .i64 c.pl), .p (.int .i64 c.ps), .p (.list (c.kn.map pk)), .p (.list (c.rs.map pr)), .p (.int .i64 c.ms)]]]] (mkHp []) A (fun y => y = .ok (.p (.bool (badR c.pl c.ps z))) (mkHp []) A) := by
  refine spec_of Try.func109 (rfl : Try.f109.body = some _) (Nat.le_of_ble_eq_true rfl) (fun id h => ?_) (fun j id h => ?_) ?_
  · exact wf1x h
  · exact wf2x h
  intro C hN hL
  replace hN : C.N = 33 := hN
  simp only [Gh.num, List.map_cons, List.map_nil, Nat.reduceAdd]
  have hpk : ∀ k : Kw, pk k = P.agg [.int .i64 k.a, .int .i64 k.b] := fun _ => rfl
  have hpr : ∀ r : Rc, pr r = P.agg [.int .i64 r.p, .int .i64 r.f, .int .i64 r.t] := fun _ => rfl
  repeat refine gwp_seq ?_
  refine gwp_region ?_
  refine n1 130 false (hc := kVb1.h {}) (k := ?_)
  refine v0 (k := ?_)
  refine nil0 ?_
  refine cl [1, 2, 3] (k := ?_)
  repeat refine gwp_seq ?_
  refine gwp_region ?_
  refine v0 (k := ?_)
  refine v0 (k := ?_)
  refine v0 (k := ?_)
  refine v0 (k := ?_)
  refine v1 (hc := kVb1.h {}) (k := ?_)
  refine pc0 (spec := s_within _ _ _) (hent := ent46) (k := ?_)
  refine v0 (k := ?_)
  refine v0 (k := ?_)
  refine b0 (k1 := fun hb1 => ?_) (k0 := fun hb1 => ?_)
  · replace hb1 := hB.h {} hb1
    refine x0 (k := ?_)
    refine x0 (k := ?_)
    refine x0 (k := ?_)
    refine x0 (k := ?_)
    refine x0 (k := ?_)
    refine v0 (k := ?_)
    refine v0 (k := ?_)
    refine x0 (k := ?_)
    refine x0 (k := ?_)
    refine x0 (k := ?_)
    refine x0 (k := ?_)
    refine x0 (k := ?_)
    refine v0 (k := ?_)
    refine v0 (k := ?_)
    refine x0 (k := ?_)
    refine x0 (k := ?_)
    refine x0 (k := ?_)
    refine x0 (k := ?_)
    refine x0 (k := ?_)
    refine v0 (k := ?_)
    refine v0 (k := ?_)
    refine nil0 ?_
    repeat refine gwp_seq ?_
    refine gwp_ret ?_
    repeat (first | refine gthen_ret ?_ | refine gblock_ret ?_ | refine gnoGoto_ret ?_)
    refine fin_ret ?_
    refine fp (hR := ?_)
    simp only [badR] at *
    simp_all
    all_goals (try (intros; omega))
  · replace hb1 := hB.h {} hb1
    refine w0 (k := ?_)
    refine w0 (k := ?_)
    refine w0 (k := ?_)
    refine ocw [] [] [0, 0] none (spec := s_isPerson c hp hq z.f) (hent := ent107) (k := ?_)
    refine w0 (k := ?_)
    refine v0 (k := ?_)
    refine v0 (k := ?_)
    refine b0 (k1 := fun hb2 => ?_) (k0 := fun hb2 => ?_)
    · replace hb2 := hB.h {} hb2
      refine x0 (k := ?_)
      refine x0 (k := ?_)
      refine x0 (k := ?_)
      refine x0 (k := ?_)
      refine x0 (k := ?_)
      refine v0 (k := ?_)
      refine v0 (k := ?_)
      refine x0 (k := ?_)
      refine x0 (k := ?_)
      refine x0 (k := ?_)
      refine x0 (k := ?_)
      refine x0 (k := ?_)
      refine v0 (k := ?_)
      refine v0 (k := ?_)
      refine nil0 ?_
      repeat refine gwp_seq ?_
      refine gwp_ret ?_
      repeat (first | refine gthen_ret ?_ | refine gblock_ret ?_ | refine gnoGoto_ret ?_)
      refine fin_ret ?_
      refine fp (hR := ?_)
      simp only [badR] at *
      simp_all
      all_goals (try (intros; omega))
    · replace hb2 := hB.h {} hb2
      refine w0 (k := ?_)
      refine w0 (k := ?_)
      refine w0 (k := ?_)
      refine ocw [] [] [0, 0] none (spec := s_isPerson c hp hq z.t) (hent := ent107) (k := ?_)
      refine w0 (k := ?_)
      refine v0 (k := ?_)
      refine v0 (k := ?_)
      refine b0 (k1 := fun hb3 => ?_) (k0 := fun hb3 => ?_)
      · replace hb3 := hB.h {} hb3
        refine x0 (k := ?_)
        refine x0 (k := ?_)
        refine x0 (k := ?_)
        refine x0 (k := ?_)
        refine x0 (k := ?_)
        refine v0 (k := ?_)
        refine v0 (k := ?_)
        refine nil0 ?_
        repeat refine gwp_seq ?_
        refine gwp_ret ?_
        repeat (first | refine gthen_ret ?_ | refine gblock_ret ?_ | refine gnoGoto_ret ?_)
        refine fin_ret ?_
        refine fp (hR := ?_)
        simp only [badR] at *
        simp_all
        all_goals (try (intros; omega))
      · replace hb3 := hB.h {} hb3
        refine w0 (k := ?_)
        refine w0 (k := ?_)
        refine w0 (k := ?_)
        refine w0 (k := ?_)
        refine w0 (k := ?_)
        refine v0 (k := ?_)
        refine v0 (k := ?_)
        refine nil0 ?_
        repeat refine gwp_seq ?_
        refine gwp_ret ?_
        repeat (first | refine gthen_ret ?_ | refine gblock_ret ?_ | refine gnoGoto_ret ?_)
        refine fin_ret ?_
        refine fp (hR := ?_)
        simp only [badR] at *
        simp_all
        all_goals (try (intros; omega))
theorem s_bk {E : Env Try.prog} {A : E.α} (l : List Kw) (hl : l.length ≤ 1048576) (c : Ch) (hp : 1 ≤ c.ps ∧ c.ps ≤ 8) (hq : 1 ≤ c.pl ∧ c.pl ≤ 4) : Gh.Spec E 116 [.p (.list (l.map pk)), .fn (.func 108) [] [.ptr [.fn (.func 107) [] [.ptr [.p (.int .i64 c.pl), .p (.int .i64 c.ps), .p (.list (c.kn.map pk)), .p (.list (c.rs.map pr)), .p (.int .i64 c.ms)]]]]] (mkHp []) A (fun y => y = .ok (.p (.int .i64 (idxP (badK c.ps) l 0))) (mkHp []) A) := by
  refine spec_of Try.func116 (rfl : Try.f116.body = some _) (Nat.le_of_ble_eq_true rfl) (fun id h => ?_) (fun j id h => ?_) ?_
  · exact wf1x h
  · exact wf2x h
  intro C hN hL
  replace hN : C.N = 19 := hN
  simp only [Gh.num, List.map_cons, List.map_nil, Nat.reduceAdd]
  have hpk : ∀ k : Kw, pk k = P.agg [.int .i64 k.a, .int .i64 k.b] := fun _ => rfl
  have hpr : ∀ r : Rc, pr r = P.agg [.int .i64 r.p, .int .i64 r.f, .int .i64 r.t] := fun _ => rfl
  repeat refine gwp_seq ?_
  refine gwp_region ?_
  refine v0 (k := ?_)
  refine nil0 ?_
  refine cl [0, 1] (k := ?_)
  repeat refine gwp_seq ?_
  refine gwp_region ?_
  refine v0 (k := ?_)
  refine v0 (k := ?_)
  refine v0 (k := ?_)
  refine nil0 ?_
  refine cl [0, 1, 7, 8] (k := ?_)
  repeat refine gwp_seq ?_
  refine gwp_block ?_
  repeat refine gwp_seq ?_
  refine gc_loop (fun mz σ => ∃ k : Nat, (k ≤ l.length) ∧ (idxP (badK c.ps) l 0 = idxP (badK c.ps) (l.drop k) k) ∧ mz = l.length - k ∧ σ = (sg [(0, .p (.list (l.map pk))), (1, .fn (.func 108) [] [.ptr [.fn (.func 107) [] [.ptr [.p (.int .i64 c.pl), .p (.int .i64 c.ps), .p (.list (c.kn.map pk)), .p (.list (c.rs.map pr)), .p (.int .i64 c.ms)]]]]), (7, .p (.int .i64 l.length)), (8, .p (.int .i64 k))] [] A [] : Sg E)) ?_ (fun mz σ hI => ?_)
  · refine lbeg [0, 1, 7, 8] (hV := ?_)
    exact ⟨_, 0, by omega, by simp, rfl, rfl⟩
  obtain ⟨k, hk, hi, hn, rfl⟩ := hI
  repeat refine gwp_seq ?_
  refine gwp_region ?_
  refine v0 (k := ?_)
  refine nil0 ?_
  repeat refine gwp_seq ?_
  refine cB (k1 := fun hb1 => ?_) (k0 := fun hb1 => ?_)
  · replace hb1 := hB.h {} hb1
    repeat refine gwp_seq ?_
    refine gwp_skip ?_
    refine cl [0, 1, 7, 8] (k := ?_)
    repeat refine gwp_seq ?_
    refine gwp_block ?_
    repeat refine gwp_seq ?_
    refine gwp_region ?_
    refine v0 (k := ?_)
    refine v0 (k := ?_)
    refine nil0 ?_
    refine cl [0, 1, 5, 7, 8] (k := ?_)
    repeat refine gwp_seq ?_
    obtain ⟨x, hx⟩ := getE (l := l) (k := k) (by omega)
    refine gwp_region ?_
    refine v0 (k := ?_)
    refine v0 (k := ?_)
    refine v0 (k := ?_)
    refine v1 (hc := kVb1.h {}) (k := ?_)
    refine v0 (k := ?_)
    refine oc0 [] [] [0, 0] none (spec := s_badKnow c hp hq x) (hent := ent108) (k := ?_)
    refine nil0 ?_
    repeat refine gwp_seq ?_
    refine cB (k1 := fun hb2 => ?_) (k0 := fun hb2 => ?_)
    · replace hb2 := hB.h {} hb2
      repeat refine gwp_seq ?_
      refine gwp_region ?_
      refine v0 (k := ?_)
      refine v0 (k := ?_)
      refine nil0 ?_
      repeat refine gwp_seq ?_
      refine gwp_ret ?_
      repeat (first | refine gthen_ret ?_ | refine gblock_ret ?_ | refine gnoGoto_ret ?_)
      refine fin_ret ?_
      refine fp (hR := ?_)
      simp only [PRes.at, GRes.ok.injEq, G.p.injEq, P.int.injEq, true_and, and_true]
      first
      | (rw [hi, idxP_at hx]; simp_all; done)
      | (rw [hi, List.drop_eq_nil_of_le (by omega)]; rfl)
    · replace hb2 := hB.h {} hb2
      repeat refine gwp_seq ?_
      refine gwp_skip ?_
      refine cl [0, 1, 7, 8] (k := ?_)
      repeat refine gwp_seq ?_
      refine gwp_region ?_
      refine v1 (hc := kVb1.h {}) (k := ?_)
      refine v0 (k := ?_)
      refine nil0 ?_
      refine lend [0, 1, 7, 8] (h := ?_) (hV := ?_) (n' := l.length - (k + 1))
      · omega
      exact ⟨k + 1, by omega, by rw [hi, idxP_at hx]; simp_all, rfl, rfl⟩
  · replace hb1 := hB.h {} hb1
    repeat refine gwp_seq ?_
    refine gwp_exit ?_
    repeat (first | refine gthen_exit ?_ | refine gnoGoto_exit ?_ | refine gblock_here ?_ | refine gblock_out rfl ?_)
    refine cl [] (k := ?_)
    repeat refine gwp_seq ?_
    refine gwp_region ?_
    refine v0 (k := ?_)
    refine nil0 ?_
    repeat refine gwp_seq ?_
    refine gwp_ret ?_
    repeat (first | refine gthen_ret ?_ | refine gblock_ret ?_ | refine gnoGoto_ret ?_)
    refine fin_ret ?_
    refine fp (hR := ?_)
    simp only [PRes.at, GRes.ok.injEq, G.p.injEq, P.int.injEq, true_and, and_true]
    first
    | (rw [hi, idxP_at hx]; simp_all; done)
    | (rw [hi, List.drop_eq_nil_of_le (by omega)]; rfl)
theorem s_bkc {E : Env Try.prog} {A : E.α} (l : List Kw) (hl : l.length ≤ 1048576) (c : Ch) (hp : 1 ≤ c.ps ∧ c.ps ≤ 8) (hq : 1 ≤ c.pl ∧ c.pl ≤ 4) : Gh.Spec E 110 [.p (.list (l.map pk)), .fn (.func 108) [] [.ptr [.fn (.func 107) [] [.ptr [.p (.int .i64 c.pl), .p (.int .i64 c.ps), .p (.list (c.kn.map pk)), .p (.list (c.rs.map pr)), .p (.int .i64 c.ms)]]]]] (mkHp []) A (fun y => y = .ok (.p (.bool (l.any (badK c.ps)))) (mkHp []) A) := by
  refine spec_of Try.func110 (rfl : Try.f110.body = some _) (Nat.le_of_ble_eq_true rfl) (fun id h => ?_) (fun j id h => ?_) ?_
  · exact wf1x h
  · exact wf2x h
  intro C hN hL
  replace hN : C.N = 9 := hN
  simp only [Gh.num, List.map_cons, List.map_nil, Nat.reduceAdd]
  repeat refine gwp_seq ?_
  refine gwp_region ?_
  refine v0 (k := ?_)
  refine nil0 ?_
  refine cl [0, 1] (k := ?_)
  repeat refine gwp_seq ?_
  refine gwp_region ?_
  refine v0 (k := ?_)
  refine v0 (k := ?_)
  refine oc0 [] [] [0, 0] none (spec := s_bk l hl c hp hq) (hent := ent116) (k := ?_)
  refine v0 (k := ?_)
  refine v0 (k := ?_)
  refine nil0 ?_
  repeat refine gwp_seq ?_
  refine gwp_ret ?_
  repeat (first | refine gthen_ret ?_ | refine gblock_ret ?_ | refine gnoGoto_ret ?_)
  refine fin_ret ?_
  refine fp (hR := ?_)
  rw [← idxP_sign (badK c.ps) l 0]
theorem ent117 : Enters Try.prog 117 := Enters.mk Try.func117 (by kernel_rfl) rfl
theorem s_br_i {E : Env Try.prog} {A : E.α} (l : List Rc) (hl : l.length ≤ 1048576) (c : Ch) (hp : 1 ≤ c.ps ∧ c.ps ≤ 8) (hq : 1 ≤ c.pl ∧ c.pl ≤ 4) : Gh.Spec E 117 [.p (.list (l.map pr)), .fn (.func 109) [] [.ptr [.p (.int .i64 c.pl), .p (.int .i64 c.ps), .p (.list (c.kn.map pk)), .p (.list (c.rs.map pr)), .p (.int .i64 c.ms)], .ptr [.fn (.func 107) [] [.ptr [.p (.int .i64 c.pl), .p (.int .i64 c.ps), .p (.list (c.kn.map pk)), .p (.list (c.rs.map pr)), .p (.int .i64 c.ms)]]]]] (mkHp []) A (fun y => y = .ok (.p (.int .i64 (idxP (badR c.pl c.ps) l 0))) (mkHp []) A) := by
  refine spec_of Try.func117 (rfl : Try.f117.body = some _) (Nat.le_of_ble_eq_true rfl) (fun id h => ?_) (fun j id h => ?_) ?_
  · exact wf1x h
  · exact wf2x h
  intro C hN hL
  replace hN : C.N = 19 := hN
  simp only [Gh.num, List.map_cons, List.map_nil, Nat.reduceAdd]
  have hpk : ∀ k : Kw, pk k = P.agg [.int .i64 k.a, .int .i64 k.b] := fun _ => rfl
  have hpr : ∀ r : Rc, pr r = P.agg [.int .i64 r.p, .int .i64 r.f, .int .i64 r.t] := fun _ => rfl
  repeat refine gwp_seq ?_
  refine gwp_region ?_
  refine v0 (k := ?_)
  refine nil0 ?_
  refine cl [0, 1] (k := ?_)
  repeat refine gwp_seq ?_
  refine gwp_region ?_
  refine v0 (k := ?_)
  refine v0 (k := ?_)
  refine v0 (k := ?_)
  refine nil0 ?_
  refine cl [0, 1, 7, 8] (k := ?_)
  repeat refine gwp_seq ?_
  refine gwp_block ?_
  repeat refine gwp_seq ?_
  refine gc_loop (fun mz σ => ∃ k : Nat, (k ≤ l.length) ∧ (idxP (badR c.pl c.ps) l 0 = idxP (badR c.pl c.ps) (l.drop k) k) ∧ mz = l.length - k ∧ σ = (sg [(0, .p (.list (l.map pr))), (1, .fn (.func 109) [] [.ptr [.p (.int .i64 c.pl), .p (.int .i64 c.ps), .p (.list (c.kn.map pk)), .p (.list (c.rs.map pr)), .p (.int .i64 c.ms)], .ptr [.fn (.func 107) [] [.ptr [.p (.int .i64 c.pl), .p (.int .i64 c.ps), .p (.list (c.kn.map pk)), .p (.list (c.rs.map pr)), .p (.int .i64 c.ms)]]]]), (7, .p (.int .i64 l.length)), (8, .p (.int .i64 k))] [] A [] : Sg E)) ?_ (fun mz σ hI => ?_)
  · refine lbeg [0, 1, 7, 8] (hV := ?_)
    exact ⟨_, 0, by omega, by simp, rfl, rfl⟩
  obtain ⟨k, hk, hi, hn, rfl⟩ := hI
  repeat refine gwp_seq ?_
  refine gwp_region ?_
  refine v0 (k := ?_)
  refine nil0 ?_
  repeat refine gwp_seq ?_
  refine cB (k1 := fun hb1 => ?_) (k0 := fun hb1 => ?_)
  · replace hb1 := hB.h {} hb1
    repeat refine gwp_seq ?_
    refine gwp_skip ?_
    refine cl [0, 1, 7, 8] (k := ?_)
    repeat refine gwp_seq ?_
    refine gwp_block ?_
    repeat refine gwp_seq ?_
    refine gwp_region ?_
    refine v0 (k := ?_)
    refine v0 (k := ?_)
    refine nil0 ?_
    refine cl [0, 1, 5, 7, 8] (k := ?_)
    repeat refine gwp_seq ?_
    obtain ⟨x, hx⟩ := getE (l := l) (k := k) (by omega)
    refine gwp_region ?_
    refine v0 (k := ?_)
    refine v0 (k := ?_)
    refine v0 (k := ?_)
    refine v1 (hc := kVb1.h {}) (k := ?_)
    refine v0 (k := ?_)
    refine oc0 [] [] [0, 0, 0] none (spec := s_badRecord c hp hq x) (hent := ent109) (k := ?_)
    refine nil0 ?_
    repeat refine gwp_seq ?_
    refine cB (k1 := fun hb2 => ?_) (k0 := fun hb2 => ?_)
    · replace hb2 := hB.h {} hb2
      repeat refine gwp_seq ?_
      refine gwp_region ?_
      refine v0 (k := ?_)
      refine v0 (k := ?_)
      refine nil0 ?_
      repeat refine gwp_seq ?_
      refine gwp_ret ?_
      repeat (first | refine gthen_ret ?_ | refine gblock_ret ?_ | refine gnoGoto_ret ?_)
      refine fin_ret ?_
      refine fp (hR := ?_)
      simp only [PRes.at, GRes.ok.injEq, G.p.injEq, P.int.injEq, true_and, and_true]
      first
      | (rw [hi, idxP_at hx]; simp_all; done)
      | (rw [hi, List.drop_eq_nil_of_le (by omega)]; rfl)
    · replace hb2 := hB.h {} hb2
      repeat refine gwp_seq ?_
      refine gwp_skip ?_
      refine cl [0, 1, 7, 8] (k := ?_)
      repeat refine gwp_seq ?_
      refine gwp_region ?_
      refine v1 (hc := kVb1.h {}) (k := ?_)
      refine v0 (k := ?_)
      refine nil0 ?_
      refine lend [0, 1, 7, 8] (h := ?_) (hV := ?_) (n' := l.length - (k + 1))
      · omega
      exact ⟨k + 1, by omega, by rw [hi, idxP_at hx]; simp_all, rfl, rfl⟩
  · replace hb1 := hB.h {} hb1
    repeat refine gwp_seq ?_
    refine gwp_exit ?_
    repeat (first | refine gthen_exit ?_ | refine gnoGoto_exit ?_ | refine gblock_here ?_ | refine gblock_out rfl ?_)
    refine cl [] (k := ?_)
    repeat refine gwp_seq ?_
    refine gwp_region ?_
    refine v0 (k := ?_)
    refine nil0 ?_
    repeat refine gwp_seq ?_
    refine gwp_ret ?_
    repeat (first | refine gthen_ret ?_ | refine gblock_ret ?_ | refine gnoGoto_ret ?_)
    refine fin_ret ?_
    refine fp (hR := ?_)
    simp only [PRes.at, GRes.ok.injEq, G.p.injEq, P.int.injEq, true_and, and_true]
    first
    | (rw [hi, idxP_at hx]; simp_all; done)
    | (rw [hi, List.drop_eq_nil_of_le (by omega)]; rfl)
theorem ent111 : Enters Try.prog 111 := Enters.mk Try.func111 (by kernel_rfl) rfl
theorem s_br_c {E : Env Try.prog} {A : E.α} (l : List Rc) (hl : l.length ≤ 1048576) (c : Ch) (hp : 1 ≤ c.ps ∧ c.ps ≤ 8) (hq : 1 ≤ c.pl ∧ c.pl ≤ 4) : Gh.Spec E 111 [.p (.list (l.map pr)), .fn (.func 109) [] [.ptr [.p (.int .i64 c.pl), .p (.int .i64 c.ps), .p (.list (c.kn.map pk)), .p (.list (c.rs.map pr)), .p (.int .i64 c.ms)], .ptr [.fn (.func 107) [] [.ptr [.p (.int .i64 c.pl), .p (.int .i64 c.ps), .p (.list (c.kn.map pk)), .p (.list (c.rs.map pr)), .p (.int .i64 c.ms)]]]]] (mkHp []) A (fun y => y = .ok (.p (.bool (l.any (badR c.pl c.ps)))) (mkHp []) A) := by
  refine spec_of Try.func111 (rfl : Try.f111.body = some _) (Nat.le_of_ble_eq_true rfl) (fun id h => ?_) (fun j id h => ?_) ?_
  · exact wf1x h
  · exact wf2x h
  intro C hN hL
  replace hN : C.N = 9 := hN
  simp only [Gh.num, List.map_cons, List.map_nil, Nat.reduceAdd]
  repeat refine gwp_seq ?_
  refine gwp_region ?_
  refine v0 (k := ?_)
  refine nil0 ?_
  refine cl [0, 1] (k := ?_)
  repeat refine gwp_seq ?_
  refine gwp_region ?_
  refine v0 (k := ?_)
  refine v0 (k := ?_)
  refine oc0 [] [] [0, 0] none (spec := s_br_i l hl c hp hq) (hent := ent117) (k := ?_)
  refine v0 (k := ?_)
  refine v0 (k := ?_)
  refine nil0 ?_
  repeat refine gwp_seq ?_
  refine gwp_ret ?_
  repeat (first | refine gthen_ret ?_ | refine gblock_ret ?_ | refine gnoGoto_ret ?_)
  refine fin_ret ?_
  refine fp (hR := ?_)
  rw [← idxP_sign (badR c.pl c.ps) l 0]
theorem ent95 : Enters Try.prog 95 := Enters.mk Try.func95 (by kernel_rfl) rfl
theorem s_isChain {E : Env Try.prog} {A : E.α} (c : Ch) (h1 : c.kn.length ≤ 1048576) (h2 : c.rs.length ≤ 1048576) : Gh.Spec E 95 [.p (.agg [.int .i64 c.pl, .int .i64 c.ps, .list (c.kn.map pk), .list (c.rs.map pr), .int .i64 c.ms])] (mkHp []) A (fun y => y = .ok (.p (.bool c.valid)) (mkHp []) A) := by
  refine spec_of Try.func95 (rfl : Try.f95.body = some _) (Nat.le_of_ble_eq_true rfl) (fun id h => ?_) (fun j id h => ?_) ?_
  · exact wf1x h
  · exact wf2x h
  intro C hN hL
  replace hN : C.N = 50 := hN
  simp only [Gh.num, List.map_cons, List.map_nil, Nat.reduceAdd]
  have hpk : ∀ k : Kw, pk k = P.agg [.int .i64 k.a, .int .i64 k.b] := fun _ => rfl
  have hpr : ∀ r : Rc, pr r = P.agg [.int .i64 r.p, .int .i64 r.f, .int .i64 r.t] := fun _ => rfl
  repeat refine gwp_seq ?_
  refine gwp_region ?_
  refine n1 110 false (hc := kVb1.h {}) (k := ?_)
  refine v0 (k := ?_)
  refine nil0 ?_
  refine cl [1] (k := ?_)
  repeat refine gwp_seq ?_
  refine gwp_region ?_
  refine v0 (k := ?_)
  refine n1 130 false (hc := kVb1.h {}) (k := ?_)
  refine s1 (hc := kVb1.h {}) (k := ?_)
  refine nil0 ?_
  refine cl [1, 3] (k := ?_)
  repeat refine gwp_seq ?_
  refine fz 110 5 [.k, .k, .k, .k, .k] (k := ?_)
  refine fz 130 1 [.f [.n [.k, .k, .k, .k, .k]]] (k := ?_)
  refine gwp_region ?_
  refine v0 (k := ?_)
  refine v0 (k := ?_)
  refine nil0 ?_
  refine cl [1, 3, 4] (k := ?_)
  repeat refine gwp_seq ?_
  refine cv 4 (.f [.n [.k]]) (k := ?_)
  refine gwp_region ?_
  refine v0 (k := ?_)
  refine v0 (k := ?_)
  refine nil0 ?_
  refine cl [1, 4, 5] (k := ?_)
  repeat refine gwp_seq ?_
  refine cv 5 (.f [.n [.k, .k, .k, .k, .k], .n [.k]]) (k := ?_)
  refine gwp_region ?_
  refine v0 (k := ?_)
  refine v0 (k := ?_)
  refine pc0 (spec := s_within _ _ _) (hent := ent46) (k := ?_)
  refine v0 (k := ?_)
  refine b0 (k1 := fun hb1 => ?_) (k0 := fun hb1 => ?_)
  · replace hb1 := hB.h {} hb1
    refine w0 (k := ?_)
    refine w0 (k := ?_)
    refine pcw (spec := s_within _ _ _) (hent := ent46) (k := ?_)
    refine v0 (k := ?_)
    refine v0 (k := ?_)
    refine b0 (k1 := fun hb2 => ?_) (k0 := fun hb2 => ?_)
    · replace hb2 := hB.h {} hb2
      refine w0 (k := ?_)
      refine w0 (k := ?_)
      refine pcw (spec := s_within _ _ _) (hent := ent46) (k := ?_)
      refine v0 (k := ?_)
      refine v0 (k := ?_)
      refine nil0 ?_
      refine cl [1, 4, 5, 6] (k := ?_)
      repeat refine gwp_seq ?_
      refine gwp_region ?_
      refine v0 (k := ?_)
      refine v0 (k := ?_)
      refine b0 (k1 := fun hb3 => ?_) (k0 := fun hb3 => ?_)
      · replace hb3 := hB.h {} hb3
        refine w0 (k := ?_)
        refine w0 (k := ?_)
        refine w0 (k := ?_)
        refine w0 (k := ?_)
        refine v0 (k := ?_)
        refine v0 (k := ?_)
        refine b0 (k1 := fun hb4 => ?_) (k0 := fun hb4 => ?_)
        · replace hb4 := hB.h {} hb4
          refine w0 (k := ?_)
          refine w0 (k := ?_)
          refine w0 (k := ?_)
          refine w0 (k := ?_)
          refine v0 (k := ?_)
          refine v0 (k := ?_)
          refine b0 (k1 := fun hb5 => ?_) (k0 := fun hb5 => ?_)
          · replace hb5 := hB.h {} hb5
            refine w0 (k := ?_)
            refine w0 (k := ?_)
            refine w0 (k := ?_)
            refine ocw [] [] [0, 0] none (spec := s_bkc c.kn h1 c (by omega) (by omega)) (hent := ent110) (k := ?_)
            refine w0 (k := ?_)
            refine v0 (k := ?_)
            refine v0 (k := ?_)
            refine b0 (k1 := fun hb6 => ?_) (k0 := fun hb6 => ?_)
            · replace hb6 := hB.h {} hb6
              refine w0 (k := ?_)
              refine w0 (k := ?_)
              refine w0 (k := ?_)
              refine ocw [] [] [0, 0] none (spec := s_br_c c.rs h2 c (by omega) (by omega)) (hent := ent111) (k := ?_)
              refine w0 (k := ?_)
              refine v0 (k := ?_)
              refine v0 (k := ?_)
              refine nil0 ?_
              repeat refine gwp_seq ?_
              refine gwp_ret ?_
              repeat (first | refine gthen_ret ?_ | refine gblock_ret ?_ | refine gnoGoto_ret ?_)
              refine fin_ret ?_
              refine fp (hR := ?_)
              simp only [Ch.valid, Ch.head] at *
              simp_all
              all_goals (first | (intros; omega) | (intro hh; obtain ⟨x, hx, hy⟩ := hb6; rw [hh x hx] at hy; cases hy))
            · replace hb6 := hB.h {} hb6
              refine x0 (k := ?_)
              refine x0 (k := ?_)
              refine x0 (k := ?_)
              refine x0 (k := ?_)
              refine x0 (k := ?_)
              refine v0 (k := ?_)
              refine v0 (k := ?_)
              refine nil0 ?_
              repeat refine gwp_seq ?_
              refine gwp_ret ?_
              repeat (first | refine gthen_ret ?_ | refine gblock_ret ?_ | refine gnoGoto_ret ?_)
              refine fin_ret ?_
              refine fp (hR := ?_)
              simp only [Ch.valid, Ch.head] at *
              simp_all
              all_goals (first | (intros; omega) | (intro hh; obtain ⟨x, hx, hy⟩ := hb6; rw [hh x hx] at hy; cases hy))
          · replace hb5 := hB.h {} hb5
            refine x0 (k := ?_)
            refine x0 (k := ?_)
            refine x0 (k := ?_)
            refine x0 (k := ?_)
            refine x0 (k := ?_)
            refine v0 (k := ?_)
            refine v0 (k := ?_)
            refine x0 (k := ?_)
            refine x0 (k := ?_)
            refine x0 (k := ?_)
            refine x0 (k := ?_)
            refine x0 (k := ?_)
            refine v0 (k := ?_)
            refine v0 (k := ?_)
            refine nil0 ?_
            repeat refine gwp_seq ?_
            refine gwp_ret ?_
            repeat (first | refine gthen_ret ?_ | refine gblock_ret ?_ | refine gnoGoto_ret ?_)
            refine fin_ret ?_
            refine fp (hR := ?_)
            simp only [Ch.valid, Ch.head] at *
            simp_all
            all_goals (first | (intros; omega) | (intro hh; obtain ⟨x, hx, hy⟩ := hb6; rw [hh x hx] at hy; cases hy))
        · replace hb4 := hB.h {} hb4
          refine x0 (k := ?_)
          refine x0 (k := ?_)
          refine x0 (k := ?_)
          refine x0 (k := ?_)
          refine v0 (k := ?_)
          refine v0 (k := ?_)
          refine x0 (k := ?_)
          refine x0 (k := ?_)
          refine x0 (k := ?_)
          refine x0 (k := ?_)
          refine x0 (k := ?_)
          refine v0 (k := ?_)
          refine v0 (k := ?_)
          refine x0 (k := ?_)
          refine x0 (k := ?_)
          refine x0 (k := ?_)
          refine x0 (k := ?_)
          refine x0 (k := ?_)
          refine v0 (k := ?_)
          refine v0 (k := ?_)
          refine nil0 ?_
          repeat refine gwp_seq ?_
          refine gwp_ret ?_
          repeat (first | refine gthen_ret ?_ | refine gblock_ret ?_ | refine gnoGoto_ret ?_)
          refine fin_ret ?_
          refine fp (hR := ?_)
          simp only [Ch.valid, Ch.head] at *
          simp_all
          all_goals (first | (intros; omega) | (intro hh; obtain ⟨x, hx, hy⟩ := hb6; rw [hh x hx] at hy; cases hy))
      · replace hb3 := hB.h {} hb3
        refine x0 (k := ?_)
        refine x0 (k := ?_)
        refine x0 (k := ?_)
        refine x0 (k := ?_)
        refine v0 (k := ?_)
        refine v0 (k := ?_)
        refine x0 (k := ?_)
        refine x0 (k := ?_)
        refine x0 (k := ?_)
        refine x0 (k := ?_)
        refine v0 (k := ?_)
        refine v0 (k := ?_)
        refine x0 (k := ?_)
        refine x0 (k := ?_)
        refine x0 (k := ?_)
        refine x0 (k := ?_)
        refine x0 (k := ?_)
        refine v0 (k := ?_)
        refine v0 (k := ?_)
        refine x0 (k := ?_)
        refine x0 (k := ?_)
        refine x0 (k := ?_)
        refine x0 (k := ?_)
        refine x0 (k := ?_)
        refine v0 (k := ?_)
        refine v0 (k := ?_)
        refine nil0 ?_
        repeat refine gwp_seq ?_
        refine gwp_ret ?_
        repeat (first | refine gthen_ret ?_ | refine gblock_ret ?_ | refine gnoGoto_ret ?_)
        refine fin_ret ?_
        refine fp (hR := ?_)
        simp only [Ch.valid, Ch.head] at *
        simp_all
        all_goals (first | (intros; omega) | (intro hh; obtain ⟨x, hx, hy⟩ := hb6; rw [hh x hx] at hy; cases hy))
    · replace hb2 := hB.h {} hb2
      refine x0 (k := ?_)
      refine x0 (k := ?_)
      refine x0 (k := ?_)
      refine v0 (k := ?_)
      refine v0 (k := ?_)
      refine nil0 ?_
      refine cl [1, 4, 5, 6] (k := ?_)
      repeat refine gwp_seq ?_
      refine gwp_region ?_
      refine v0 (k := ?_)
      refine v0 (k := ?_)
      refine x0 (k := ?_)
      refine x0 (k := ?_)
      refine x0 (k := ?_)
      refine x0 (k := ?_)
      refine v0 (k := ?_)
      refine v0 (k := ?_)
      refine x0 (k := ?_)
      refine x0 (k := ?_)
      refine x0 (k := ?_)
      refine x0 (k := ?_)
      refine v0 (k := ?_)
      refine v0 (k := ?_)
      refine x0 (k := ?_)
      refine x0 (k := ?_)
      refine x0 (k := ?_)
      refine x0 (k := ?_)
      refine x0 (k := ?_)
      refine v0 (k := ?_)
      refine v0 (k := ?_)
      refine x0 (k := ?_)
      refine x0 (k := ?_)
      refine x0 (k := ?_)
      refine x0 (k := ?_)
      refine x0 (k := ?_)
      refine v0 (k := ?_)
      refine v0 (k := ?_)
      refine nil0 ?_
      repeat refine gwp_seq ?_
      refine gwp_ret ?_
      repeat (first | refine gthen_ret ?_ | refine gblock_ret ?_ | refine gnoGoto_ret ?_)
      refine fin_ret ?_
      refine fp (hR := ?_)
      simp only [Ch.valid, Ch.head] at *
      simp_all
      all_goals (first | (intros; omega) | (intro hh; obtain ⟨x, hx, hy⟩ := hb6; rw [hh x hx] at hy; cases hy))
  · replace hb1 := hB.h {} hb1
    refine x0 (k := ?_)
    refine x0 (k := ?_)
    refine x0 (k := ?_)
    refine v0 (k := ?_)
    refine v0 (k := ?_)
    refine x0 (k := ?_)
    refine x0 (k := ?_)
    refine x0 (k := ?_)
    refine v0 (k := ?_)
    refine v0 (k := ?_)
    refine nil0 ?_
    refine cl [1, 4, 5, 6] (k := ?_)
    repeat refine gwp_seq ?_
    refine gwp_region ?_
    refine v0 (k := ?_)
    refine v0 (k := ?_)
    refine x0 (k := ?_)
    refine x0 (k := ?_)
    refine x0 (k := ?_)
    refine x0 (k := ?_)
    refine v0 (k := ?_)
    refine v0 (k := ?_)
    refine x0 (k := ?_)
    refine x0 (k := ?_)
    refine x0 (k := ?_)
    refine x0 (k := ?_)
    refine v0 (k := ?_)
    refine v0 (k := ?_)
    refine x0 (k := ?_)
    refine x0 (k := ?_)
    refine x0 (k := ?_)
    refine x0 (k := ?_)
    refine x0 (k := ?_)
    refine v0 (k := ?_)
    refine v0 (k := ?_)
    refine x0 (k := ?_)
    refine x0 (k := ?_)
    refine x0 (k := ?_)
    refine x0 (k := ?_)
    refine x0 (k := ?_)
    refine v0 (k := ?_)
    refine v0 (k := ?_)
    refine nil0 ?_
    repeat refine gwp_seq ?_
    refine gwp_ret ?_
    repeat (first | refine gthen_ret ?_ | refine gblock_ret ?_ | refine gnoGoto_ret ?_)
    refine fin_ret ?_
    refine fp (hR := ?_)
    simp only [Ch.valid, Ch.head] at *
    simp_all
    all_goals (first | (intros; omega) | (intro hh; obtain ⟨x, hx, hy⟩ := hb6; rw [hh x hx] at hy; cases hy))
end Go.Proofs.Ytagdholenfkeaaa

/- Tables that are filled cell by cell. -/
namespace Go.Proofs.Ytagdholenfkeaaa
open Go.Gh
theorem mat_congr {f g : Mx} (h : ∀ x, x < 8 → ∀ y, y < 8 → f x y = g x y) : mat f = mat g := by
  unfold mat
  apply List.map_congr_left
  intro q hq
  have := List.mem_range.1 hq
  rw [h (q / 8) (by omega) (q % 8) (by omega)]
/-- One table up to a place, the other one behind it. -/
def upto (i k : Nat) (f g : Mx) : Mx := fun x y => if x < i ∨ (x = i ∧ y < k) then f x y else g x y
theorem upto_zero (f g : Mx) : upto 0 0 f g = g := by
  funext x y
  simp [upto]
theorem upto_row (i : Nat) (f g : Mx) : mat (upto i 8 f g) = mat (upto (i + 1) 0 f g) := mat_congr fun x hx y hy => by
  simp only [upto]
  by_cases h : x < i ∨ (x = i ∧ y < 8)
  · rw [if_pos h, if_pos (by omega)]
  · rw [if_neg h, if_neg (by omega)]
theorem upto_all (f g : Mx) : mat (upto 8 0 f g) = mat f := mat_congr fun x hx y _ => by
  simp only [upto]; rw [if_pos (by omega)]
theorem upto_step {i k : Nat} {f g : Mx} {v : Int} (hi : i < 8) (hk : k < 8) (hv : f i k = v) : (mat (upto i k f g)).set (i * 8 + k) (.int .i64 v) = mat (upto i (k + 1) f g) := by
  rw [mat_set _ hi hk]
  refine mat_congr fun x _ y _ => ?_
  simp only [upto]
  by_cases h : x = i ∧ y = k
  · obtain ⟨rfl, rfl⟩ := h
    rw [if_pos ⟨rfl, rfl⟩, if_pos (by omega), hv]
  · rw [if_neg h]
    by_cases h2 : x < i ∨ (x = i ∧ y < k)
    · rw [if_pos h2, if_pos (by omega)]
    · rw [if_neg h2, if_neg (by omega)]
theorem upto_turn {i k m : Nat} {F : Mx} (hi : i < 8) (hk : k < 8) : (mat (upto i k (ph m F) F)).set (i * 8 + k) (.int .i64 (min (F i k) (F i m + F m k))) = mat (upto i (k + 1) (ph m F) F) := upto_step hi hk rfl
theorem upto_here (i k : Nat) (f g : Mx) : upto i k f g i k = g i k := by
  simp only [upto]; rw [if_neg (by omega)]
/-- What a turn reads. -/
theorem turn_col {F : Mx} (h : MOk F) (i k m : Nat) : upto i k (ph m F) F i m = F i m := by
  simp only [upto]; split
  · exact h.col m i
  · rfl
theorem turn_row {F : Mx} (h : MOk F) (i k m : Nat) : upto i k (ph m F) F m k = F m k := by
  simp only [upto]; split
  · exact h.row m k
  · rfl
theorem turn_get {F : Mx} (h : MOk F) {i k m : Nat} (hi : i < 8) (hk : k < 8) (hm : m < 8) :
    (mat (upto i k (ph m F) F))[i * 8 + k]? = some (.int .i64 (F i k)) ∧ (mat (upto i k (ph m F) F))[i * 8 + m]? = some (.int .i64 (F i m)) ∧ (mat (upto i k (ph m F) F))[m * 8 + k]? = some (.int .i64 (F m k)) := by
  rw [mat_get _ hi hk, mat_get _ hi hm, mat_get _ hm hk, upto_here, turn_col h, turn_row h]
  exact ⟨rfl, rfl, rfl⟩
/-- Who hands over to whom, if one person does not. -/
def eF (l : List Kw) (but : Int) (i k : Nat) : Bool := (!decide ((i : Int) = but) && !decide ((k : Int) = but)) && knowI l i k
theorem eF_t {l : List Kw} {but : Int} {i k : Nat} (h1 : ¬ (i : Int) = but) (h2 : ¬ (k : Int) = but) (h3 : knowI l i k = true) : eF l but i k = true := by simp [eF, h1, h2, h3]
theorem eF_f1 {l : List Kw} {but : Int} {i k : Nat} (h : (i : Int) = but) : ¬ eF l but i k = true := by simp [eF, h]
theorem eF_f2 {l : List Kw} {but : Int} {i k : Nat} (h : (k : Int) = but) : ¬ eF l but i k = true := by simp [eF, h]
theorem eF_f3 {l : List Kw} {but : Int} {i k : Nat} (h : knowI l i k = false) : ¬ eF l but i k = true := by simp [eF, h]
theorem ini_same {e : Nat → Nat → Bool} {i k : Nat} (h : (i : Int) = k) : ini e i k = 0 := by
  simp only [ini]; rw [if_pos (by omega)]
theorem ini_one {e : Nat → Nat → Bool} {i k : Nat} (h : ¬ (i : Int) = k) (h2 : e i k = true) : ini e i k = 1 := by
  simp only [ini]; rw [if_neg (by omega), if_pos h2]
theorem ini_never {e : Nat → Nat → Bool} {i k : Nat} (h : ¬ (i : Int) = k) (h2 : ¬ e i k = true) : ini e i k = 1048576 := by
  simp only [ini]; rw [if_neg (by omega), if_neg h2]; rfl
theorem cvSs_k (h : Nat → Ob) : ∀ gs : List G, ∃ c, cvSs h (List.replicate gs.length .k) gs = some (c, gs) ∧ c
  | [] => ⟨True, by rw [List.length_nil, List.replicate_zero]; simp only [cvSs], trivial⟩
  | g :: gs => by
    obtain ⟨c, h1, h2⟩ := cvSs_k h gs
    exact ⟨True ∧ c, by rw [List.length_cons, List.replicate_succ]; simp only [cvSs, cvS, h1], trivial, h2⟩
theorem mat_one (f : Mx) : allOne ((mat f).map G.p) = true := by
  rw [allOne_p, List.all_eq_true]
  intro x hx
  obtain ⟨_, _, rfl⟩ := List.mem_map.1 hx
  rfl
section
variable {E : Env Try.prog} {C : Cx E} {r : Option Nat} {c : Code} {Q : GE → Sg E → Prop} {l : List (Nat × G)} {m : List (Nat × Ob)} {A : E.α} {df : List GD}
/-- The address of an object that does not change any more. -/
theorem cv_all (t id : Nat) {cs : List G} {fz : Nat} (ho : mkHp m id = .cells cs fz) (hr : mkFr l t = .ref id 0) (hf : cs.length ≤ fz) (h1 : allOne cs = true) (k : gwp C r c Q (sg ((t, .ptr cs) :: l) m A df)) : gwp C r c Q (sg l m A df) := by
  obtain ⟨cp, e, hc⟩ := cvSs_k (mkHp m) cs
  refine gc_conv t (.n (List.replicate cs.length .k)) (cp := cp ∧ 0 + (List.replicate cs.length Sp.k).length ≤ fz ∧ allOne cs = true) ?_ ⟨hc, by rw [List.length_replicate]; omega, h1⟩ k
  rw [hr]
  simp only [cvS, ho, List.drop_zero]
  rw [List.length_replicate, List.take_of_length_le (Nat.le_refl _), e]
end
end Go.Proofs.Ytagdholenfkeaaa

/- The program: how far persons are apart. -/
namespace Go.Proofs.Ytagdholenfkeaaa
open Go.Gh
set_option maxRecDepth 100000
set_option maxHeartbeats 4000000
structure kVd1 (c : Prop) : Prop where
  h : c := by (first | exact True.intro | omega | (simp only [List.length_map, mat_len, G.one, P.one, good, inI, Nat.add_zero, Nat.mul_one]; omega) | (simp [mat_len, G.one, P.one, good, goods, inI]; done) | (simp [mat_len, G.one, P.one, good, goods, inI]; omega))
theorem ent79 : Enters Try.prog 79 := Enters.mk Try.func79 (by kernel_rfl) rfl
theorem s_dist {E : Env Try.prog} {A : E.α} (g0 g1 : P) (l : List Kw) (hl : l.length ≤ 1048576) (but : Int) : Gh.Spec E 79 [.ptr [.p g0, .p g1, .p (.list (l.map pk))], .p (.int .i64 but)] (mkHp []) A (fun y => y = .ok (.ptr ((mat (D (eF l but))).map G.p)) (mkHp []) A) := by
  refine spec_of Try.func79 (rfl : Try.f79.body = some _) (Nat.le_of_ble_eq_true rfl) (fun id h => ?_) (fun j id h => ?_) ?_
  · exact wf1x h
  · exact wf2x h
  intro C hN hL
  replace hN : C.N = 87 := hN
  simp only [Gh.num, List.map_cons, List.map_nil, Nat.reduceAdd]
  have hdt : ∀ (i : Decidable True), @decide True i = true := fun i => decide_eq_true trivial
  have hdf : ∀ (i : Decidable False), @decide False i = false := fun i => decide_eq_false id
  repeat refine gwp_seq ?_
  refine gwp_region ?_
  refine v0 (k := ?_)
  refine nil0 ?_
  refine cl [0, 1] (k := ?_)
  repeat refine gwp_seq ?_
  refine gwp_region ?_
  refine n1 150 false (hc := kVd1.h {}) (k := ?_)
  refine nil0 ?_
  refine cl [0, 1, 5] (k := ?_)
  repeat refine gwp_seq ?_
  rw [show ([.p (.int .i64 0), .p (.int .i64 0), .p (.int .i64 0), .p (.int .i64 0), .p (.int .i64 0), .p (.int .i64 0), .p (.int .i64 0), .p (.int .i64 0), .p (.int .i64 0), .p (.int .i64 0), .p (.int .i64 0), .p (.int .i64 0), .p (.int .i64 0), .p (.int .i64 0), .p (.int .i64 0), .p (.int .i64 0), .p (.int .i64 0), .p (.int .i64 0), .p (.int .i64 0), .p (.int .i64 0), .p (.int .i64 0), .p (.int .i64 0), .p (.int .i64 0), .p (.int .i64 0), .p (.int .i64 0), .p (.int .i64 0), .p (.int .i64 0), .p (.int .i64 0), .p (.int .i64 0), .p (.int .i64 0), .p (.int .i64 0), .p (.int .i64 0), .p (.int .i64 0), .p (.int .i64 0), .p (.int .i64 0), .p (.int .i64 0), .p (.int .i64 0), .p (.int .i64 0), .p (.int .i64 0), .p (.int .i64 0), .p (.int .i64 0), .p (.int .i64 0), .p (.int .i64 0), .p (.int .i64 0), .p (.int .i64 0), .p (.int .i64 0), .p (.int .i64 0), .p (.int .i64 0), .p (.int .i64 0), .p (.int .i64 0), .p (.int .i64 0), .p (.int .i64 0), .p (.int .i64 0), .p (.int .i64 0), .p (.int .i64 0), .p (.int .i64 0), .p (.int .i64 0), .p (.int .i64 0), .p (.int .i64 0), .p (.int .i64 0), .p (.int .i64 0), .p (.int .i64 0), .p (.int .i64 0), .p (.int .i64 0)] : List G) = (mat (fun _ _ => 0)).map G.p from rfl]
  refine gwp_region ?_
  refine v0 (k := ?_)
  refine nil0 ?_
  refine cl [0, 1, 5, 13] (k := ?_)
  repeat refine gwp_seq ?_
  refine gwp_block ?_
  repeat refine gwp_seq ?_
  refine gc_loop (fun mz σ => ∃ i : Nat, (i ≤ 8) ∧ mz = 8 - i ∧ σ = (sg [(0, .ptr [.p g0, .p g1, .p (.list (l.map pk))]), (1, .p (.int .i64 but)), (5, .ref 150 0), (13, .p (.int .i64 i))] [(150, .cells ((mat (upto i 0 (ini (eF l but)) (fun _ _ => 0))).map G.p) 0)] A [] : Sg E)) ?_ (fun mz σ hI => ?_)
  · refine lbeg [0, 1, 5, 13] (hV := ?_)
    exact ⟨_, 0, by omega, rfl, sgE rfl (by rw [upto_zero])⟩
  obtain ⟨i, hi, hnni, rfl⟩ := hI
  repeat refine gwp_seq ?_
  refine gwp_region ?_
  refine v0 (k := ?_)
  refine nil0 ?_
  repeat refine gwp_seq ?_
  refine cB (k1 := fun hb1 => ?_) (k0 := fun hb1 => ?_)
  · replace hb1 := hB.h {} hb1
    try rw [eqI] at hb1
    repeat refine gwp_seq ?_
    refine gwp_skip ?_
    refine cl [0, 1, 5, 13] (k := ?_)
    repeat refine gwp_seq ?_
    refine gwp_block ?_
    repeat refine gwp_seq ?_
    refine gwp_region ?_
    refine v0 (k := ?_)
    refine v0 (k := ?_)
    refine nil0 ?_
    refine cl [0, 1, 5, 6, 13] (k := ?_)
    repeat refine gwp_seq ?_
    refine gwp_region ?_
    refine v0 (k := ?_)
    refine nil0 ?_
    refine cl [0, 1, 5, 6, 13, 16] (k := ?_)
    repeat refine gwp_seq ?_
    refine gwp_block ?_
    repeat refine gwp_seq ?_
    refine gc_loop (fun mz σ => ∃ k : Nat, (k ≤ 8) ∧ mz = 8 - k ∧ σ = (sg [(0, .ptr [.p g0, .p g1, .p (.list (l.map pk))]), (1, .p (.int .i64 but)), (5, .ref 150 0), (6, .p (.int .i64 i)), (13, .p (.int .i64 i)), (16, .p (.int .i64 k))] [(150, .cells ((mat (upto i k (ini (eF l but)) (fun _ _ => 0))).map G.p) 0)] A [] : Sg E)) ?_ (fun mz σ hI => ?_)
    · refine lbeg [0, 1, 5, 6, 13, 16] (hV := ?_)
      exact ⟨_, 0, by omega, rfl, sgE rfl rfl⟩
    obtain ⟨k, hk, hnnk, rfl⟩ := hI
    repeat refine gwp_seq ?_
    refine gwp_region ?_
    refine v0 (k := ?_)
    refine nil0 ?_
    repeat refine gwp_seq ?_
    refine cB (k1 := fun hb2 => ?_) (k0 := fun hb2 => ?_)
    · replace hb2 := hB.h {} hb2
      try rw [eqI] at hb2
      repeat refine gwp_seq ?_
      refine gwp_skip ?_
      refine cl [0, 1, 5, 6, 13, 16] (k := ?_)
      repeat refine gwp_seq ?_
      refine gwp_block ?_
      repeat refine gwp_seq ?_
      refine gwp_region ?_
      refine v0 (k := ?_)
      refine v0 (k := ?_)
      refine nil0 ?_
      refine cl [0, 1, 5, 6, 7, 13, 16] (k := ?_)
      repeat refine gwp_seq ?_
      refine gwp_region ?_
      refine v0 (k := ?_)
      refine v0 (k := ?_)
      refine v0 (k := ?_)
      refine v0 (k := ?_)
      refine nil0 ?_
      refine cl [0, 1, 5, 6, 7, 8, 9, 13, 16] (k := ?_)
      repeat refine gwp_seq ?_
      refine gwp_block ?_
      repeat refine gwp_seq ?_
      refine gwp_region ?_
      refine v0 (k := ?_)
      refine v0 (k := ?_)
      refine v0 (k := ?_)
      refine v0 (k := ?_)
      refine nil0 ?_
      repeat refine gwp_seq ?_
      refine cB (k1 := fun hb3 => ?_) (k0 := fun hb3 => ?_)
      · replace hb3 := hB.h {} hb3
        try rw [eqI] at hb3
        repeat refine gwp_seq ?_
        refine gwp_region ?_
        refine v0 (k := ?_)
        refine v0 (k := ?_)
        refine v1 (hc := kVd1.h {}) (k := ?_)
        refine v1 (hc := kVd1.h {}) (k := ?_)
        refine s1 (hc := kVd1.h {}) (k := ?_)
        refine nil0 ?_
        refine cl [0, 1, 5, 6, 13, 16] (k := ?_)
        repeat refine gwp_seq ?_
        refine gwp_region ?_
        refine v1 (hc := kVd1.h {}) (k := ?_)
        refine v0 (k := ?_)
        refine nil0 ?_
        refine lend [0, 1, 5, 6, 13, 16] (h := ?_) (hV := ?_) (n' := 8 - (k + 1))
        · omega
        first
        | exact ⟨k + 1, by omega, rfl, sgE rfl (by rw [upto_step (v := 0) (by omega) (by omega) (ini_same (by omega))])⟩
        | exact ⟨k + 1, by omega, rfl, sgE rfl (by rw [upto_step (v := 1) (by omega) (by omega) (ini_one (by omega) (eF_t (by omega) (by omega) (by assumption)))])⟩
        | exact ⟨k + 1, by omega, rfl, sgE rfl (by rw [upto_step (v := 1048576) (by omega) (by omega) (ini_never (by omega) (by first | exact eF_f1 (by omega) | exact eF_f2 (by omega) | exact eF_f3 (by assumption)))])⟩
      · replace hb3 := hB.h {} hb3
        try rw [eqI] at hb3
        repeat refine gwp_seq ?_
        refine gwp_region ?_
        refine v0 (k := ?_)
        refine v0 (k := ?_)
        refine v0 (k := ?_)
        refine v0 (k := ?_)
        refine b0 (k1 := fun hb4 => ?_) (k0 := fun hb4 => ?_)
        · replace hb4 := hB.h {} hb4
          try rw [eqI] at hb4
          refine w0 (k := ?_)
          refine w0 (k := ?_)
          refine w0 (k := ?_)
          refine v0 (k := ?_)
          refine v0 (k := ?_)
          refine b0 (k1 := fun hb5 => ?_) (k0 := fun hb5 => ?_)
          · replace hb5 := hB.h {} hb5
            try rw [eqI] at hb5
            refine w0 (k := ?_)
            refine w0 (k := ?_)
            refine w0 (k := ?_)
            refine ocw [] [] [0, 0, 0] none (spec := s_know g0 g1 l hl i k) (hent := ent99) (k := ?_)
            refine v0 (k := ?_)
            refine v0 (k := ?_)
            refine nil0 ?_
            repeat refine gwp_seq ?_
            refine cB (k1 := fun hb6 => ?_) (k0 := fun hb6 => ?_)
            · replace hb6 := hB.h {} hb6
              try rw [eqI] at hb6
              repeat refine gwp_seq ?_
              refine gwp_region ?_
              refine v0 (k := ?_)
              refine v0 (k := ?_)
              refine v1 (hc := kVd1.h {}) (k := ?_)
              refine v1 (hc := kVd1.h {}) (k := ?_)
              refine s1 (hc := kVd1.h {}) (k := ?_)
              refine nil0 ?_
              refine cl [0, 1, 5, 6, 13, 16] (k := ?_)
              repeat refine gwp_seq ?_
              refine gwp_region ?_
              refine v1 (hc := kVd1.h {}) (k := ?_)
              refine v0 (k := ?_)
              refine nil0 ?_
              refine lend [0, 1, 5, 6, 13, 16] (h := ?_) (hV := ?_) (n' := 8 - (k + 1))
              · omega
              first
              | exact ⟨k + 1, by omega, rfl, sgE rfl (by rw [upto_step (v := 0) (by omega) (by omega) (ini_same (by omega))])⟩
              | exact ⟨k + 1, by omega, rfl, sgE rfl (by rw [upto_step (v := 1) (by omega) (by omega) (ini_one (by omega) (eF_t (by omega) (by omega) (by assumption)))])⟩
              | exact ⟨k + 1, by omega, rfl, sgE rfl (by rw [upto_step (v := 1048576) (by omega) (by omega) (ini_never (by omega) (by first | exact eF_f1 (by omega) | exact eF_f2 (by omega) | exact eF_f3 (by assumption)))])⟩
            · replace hb6 := hB.h {} hb6
              try rw [eqI] at hb6
              repeat refine gwp_seq ?_
              refine gwp_region ?_
              refine v0 (k := ?_)
              refine v0 (k := ?_)
              refine v1 (hc := kVd1.h {}) (k := ?_)
              refine v1 (hc := kVd1.h {}) (k := ?_)
              refine s1 (hc := kVd1.h {}) (k := ?_)
              refine nil0 ?_
              refine cl [0, 1, 5, 6, 13, 16] (k := ?_)
              repeat refine gwp_seq ?_
              refine gwp_region ?_
              refine v1 (hc := kVd1.h {}) (k := ?_)
              refine v0 (k := ?_)
              refine nil0 ?_
              refine lend [0, 1, 5, 6, 13, 16] (h := ?_) (hV := ?_) (n' := 8 - (k + 1))
              · omega
              first
              | exact ⟨k + 1, by omega, rfl, sgE rfl (by rw [upto_step (v := 0) (by omega) (by omega) (ini_same (by omega))])⟩
              | exact ⟨k + 1, by omega, rfl, sgE rfl (by rw [upto_step (v := 1) (by omega) (by omega) (ini_one (by omega) (eF_t (by omega) (by omega) (by assumption)))])⟩
              | exact ⟨k + 1, by omega, rfl, sgE rfl (by rw [upto_step (v := 1048576) (by omega) (by omega) (ini_never (by omega) (by first | exact eF_f1 (by omega) | exact eF_f2 (by omega) | exact eF_f3 (by assumption)))])⟩
          · replace hb5 := hB.h {} hb5
            try rw [eqI] at hb5
            refine x0 (k := ?_)
            refine x0 (k := ?_)
            refine x0 (k := ?_)
            refine x0 (k := ?_)
            refine v0 (k := ?_)
            refine v0 (k := ?_)
            refine nil0 ?_
            repeat refine gwp_seq ?_
            refine cF (k := ?_)
            repeat refine gwp_seq ?_
            refine gwp_region ?_
            refine v0 (k := ?_)
            refine v0 (k := ?_)
            refine v1 (hc := kVd1.h {}) (k := ?_)
            refine v1 (hc := kVd1.h {}) (k := ?_)
            refine s1 (hc := kVd1.h {}) (k := ?_)
            refine nil0 ?_
            refine cl [0, 1, 5, 6, 13, 16] (k := ?_)
            repeat refine gwp_seq ?_
            refine gwp_region ?_
            refine v1 (hc := kVd1.h {}) (k := ?_)
            refine v0 (k := ?_)
            refine nil0 ?_
            refine lend [0, 1, 5, 6, 13, 16] (h := ?_) (hV := ?_) (n' := 8 - (k + 1))
            · omega
            first
            | exact ⟨k + 1, by omega, rfl, sgE rfl (by rw [upto_step (v := 0) (by omega) (by omega) (ini_same (by omega))])⟩
            | exact ⟨k + 1, by omega, rfl, sgE rfl (by rw [upto_step (v := 1) (by omega) (by omega) (ini_one (by omega) (eF_t (by omega) (by omega) (by assumption)))])⟩
            | exact ⟨k + 1, by omega, rfl, sgE rfl (by rw [upto_step (v := 1048576) (by omega) (by omega) (ini_never (by omega) (by first | exact eF_f1 (by omega) | exact eF_f2 (by omega) | exact eF_f3 (by assumption)))])⟩
        · replace hb4 := hB.h {} hb4
          try rw [eqI] at hb4
          refine x0 (k := ?_)
          refine x0 (k := ?_)
          refine x0 (k := ?_)
          refine v0 (k := ?_)
          refine v0 (k := ?_)
          refine x0 (k := ?_)
          refine x0 (k := ?_)
          refine x0 (k := ?_)
          refine x0 (k := ?_)
          refine v0 (k := ?_)
          refine v0 (k := ?_)
          refine nil0 ?_
          repeat refine gwp_seq ?_
          refine cF (k := ?_)
          repeat refine gwp_seq ?_
          refine gwp_region ?_
          refine v0 (k := ?_)
          refine v0 (k := ?_)
          refine v1 (hc := kVd1.h {}) (k := ?_)
          refine v1 (hc := kVd1.h {}) (k := ?_)
          refine s1 (hc := kVd1.h {}) (k := ?_)
          refine nil0 ?_
          refine cl [0, 1, 5, 6, 13, 16] (k := ?_)
          repeat refine gwp_seq ?_
          refine gwp_region ?_
          refine v1 (hc := kVd1.h {}) (k := ?_)
          refine v0 (k := ?_)
          refine nil0 ?_
          refine lend [0, 1, 5, 6, 13, 16] (h := ?_) (hV := ?_) (n' := 8 - (k + 1))
          · omega
          first
          | exact ⟨k + 1, by omega, rfl, sgE rfl (by rw [upto_step (v := 0) (by omega) (by omega) (ini_same (by omega))])⟩
          | exact ⟨k + 1, by omega, rfl, sgE rfl (by rw [upto_step (v := 1) (by omega) (by omega) (ini_one (by omega) (eF_t (by omega) (by omega) (by assumption)))])⟩
          | exact ⟨k + 1, by omega, rfl, sgE rfl (by rw [upto_step (v := 1048576) (by omega) (by omega) (ini_never (by omega) (by first | exact eF_f1 (by omega) | exact eF_f2 (by omega) | exact eF_f3 (by assumption)))])⟩
    · replace hb2 := hB.h {} hb2
      try rw [eqI] at hb2
      repeat refine gwp_seq ?_
      refine gwp_exit ?_
      repeat (first | refine gthen_exit ?_ | refine gnoGoto_exit ?_ | refine gblock_here ?_ | refine gblock_out rfl ?_)
      refine cl [0, 1, 5, 13] (k := ?_)
      repeat refine gwp_seq ?_
      obtain rfl : k = 8 := by omega
      rw [upto_row]
      refine gwp_region ?_
      refine v1 (hc := kVd1.h {}) (k := ?_)
      refine v0 (k := ?_)
      refine nil0 ?_
      refine lend [0, 1, 5, 13] (h := ?_) (hV := ?_) (n' := 8 - (i + 1))
      · omega
      exact ⟨i + 1, by omega, rfl, sgE rfl rfl⟩
  · replace hb1 := hB.h {} hb1
    try rw [eqI] at hb1
    repeat refine gwp_seq ?_
    refine gwp_exit ?_
    repeat (first | refine gthen_exit ?_ | refine gnoGoto_exit ?_ | refine gblock_here ?_ | refine gblock_out rfl ?_)
    refine cl [5] (k := ?_)
    repeat refine gwp_seq ?_
    obtain rfl : i = 8 := by omega
    rw [upto_all]
    refine gwp_region ?_
    refine v0 (k := ?_)
    refine nil0 ?_
    refine cl [5, 54] (k := ?_)
    repeat refine gwp_seq ?_
    refine gwp_block ?_
    repeat refine gwp_seq ?_
    refine gc_loop (fun mz σ => ∃ m : Nat, (m ≤ 8) ∧ mz = 8 - m ∧ σ = (sg [(5, .ref 150 0), (54, .p (.int .i64 m))] [(150, .cells ((mat (phs (ini (eF l but)) m)).map G.p) 0)] A [] : Sg E)) ?_ (fun mz σ hI => ?_)
    · refine lbeg [5, 54] (hV := ?_)
      exact ⟨_, 0, by omega, rfl, sgE rfl rfl⟩
    obtain ⟨m, hm, hnnm, rfl⟩ := hI
    repeat refine gwp_seq ?_
    refine gwp_region ?_
    refine v0 (k := ?_)
    refine nil0 ?_
    repeat refine gwp_seq ?_
    refine cB (k1 := fun hb7 => ?_) (k0 := fun hb7 => ?_)
    · replace hb7 := hB.h {} hb7
      try rw [eqI] at hb7
      repeat refine gwp_seq ?_
      refine gwp_skip ?_
      refine cl [5, 54] (k := ?_)
      repeat refine gwp_seq ?_
      refine gwp_block ?_
      repeat refine gwp_seq ?_
      refine gwp_region ?_
      refine v0 (k := ?_)
      refine v0 (k := ?_)
      refine nil0 ?_
      refine cl [5, 10, 54] (k := ?_)
      repeat refine gwp_seq ?_
      refine gwp_region ?_
      refine v0 (k := ?_)
      refine nil0 ?_
      refine cl [5, 10, 54, 57] (k := ?_)
      repeat refine gwp_seq ?_
      refine gwp_block ?_
      repeat refine gwp_seq ?_
      refine gc_loop (fun mz σ => ∃ i : Nat, (i ≤ 8) ∧ mz = 8 - i ∧ σ = (sg [(5, .ref 150 0), (10, .p (.int .i64 m)), (54, .p (.int .i64 m)), (57, .p (.int .i64 i))] [(150, .cells ((mat (upto i 0 (ph m (phs (ini (eF l but)) m)) (phs (ini (eF l but)) m))).map G.p) 0)] A [] : Sg E)) ?_ (fun mz σ hI => ?_)
      · refine lbeg [5, 10, 54, 57] (hV := ?_)
        exact ⟨_, 0, by omega, rfl, sgE rfl (by rw [upto_zero])⟩
      obtain ⟨i, hi, hnni, rfl⟩ := hI
      repeat refine gwp_seq ?_
      refine gwp_region ?_
      refine v0 (k := ?_)
      refine nil0 ?_
      repeat refine gwp_seq ?_
      refine cB (k1 := fun hb8 => ?_) (k0 := fun hb8 => ?_)
      · replace hb8 := hB.h {} hb8
        try rw [eqI] at hb8
        repeat refine gwp_seq ?_
        refine gwp_skip ?_
        refine cl [5, 10, 54, 57] (k := ?_)
        repeat refine gwp_seq ?_
        refine gwp_block ?_
        repeat refine gwp_seq ?_
        refine gwp_region ?_
        refine v0 (k := ?_)
        refine v0 (k := ?_)
        refine nil0 ?_
        refine cl [5, 10, 11, 54, 57] (k := ?_)
        repeat refine gwp_seq ?_
        refine gwp_region ?_
        refine v0 (k := ?_)
        refine nil0 ?_
        refine cl [5, 10, 11, 54, 57, 60] (k := ?_)
        repeat refine gwp_seq ?_
        refine gwp_block ?_
        repeat refine gwp_seq ?_
        refine gc_loop (fun mz σ => ∃ k : Nat, (k ≤ 8) ∧ mz = 8 - k ∧ σ = (sg [(5, .ref 150 0), (10, .p (.int .i64 m)), (11, .p (.int .i64 i)), (54, .p (.int .i64 m)), (57, .p (.int .i64 i)), (60, .p (.int .i64 k))] [(150, .cells ((mat (upto i k (ph m (phs (ini (eF l but)) m)) (phs (ini (eF l but)) m))).map G.p) 0)] A [] : Sg E)) ?_ (fun mz σ hI => ?_)
        · refine lbeg [5, 10, 11, 54, 57, 60] (hV := ?_)
          exact ⟨_, 0, by omega, rfl, sgE rfl rfl⟩
        obtain ⟨k, hk, hnnk, rfl⟩ := hI
        repeat refine gwp_seq ?_
        refine gwp_region ?_
        refine v0 (k := ?_)
        refine nil0 ?_
        repeat refine gwp_seq ?_
        refine cB (k1 := fun hb9 => ?_) (k0 := fun hb9 => ?_)
        · replace hb9 := hB.h {} hb9
          try rw [eqI] at hb9
          repeat refine gwp_seq ?_
          refine gwp_skip ?_
          refine cl [5, 10, 11, 54, 57, 60] (k := ?_)
          repeat refine gwp_seq ?_
          refine gwp_block ?_
          repeat refine gwp_seq ?_
          refine gwp_region ?_
          refine v0 (k := ?_)
          refine v0 (k := ?_)
          refine nil0 ?_
          refine cl [5, 10, 11, 12, 54, 57, 60] (k := ?_)
          repeat refine gwp_seq ?_
          obtain ⟨hg1, hg2, hg3⟩ := turn_get ((ini_ok (eF l but)).turns m) (i := i) (k := k) (m := m) (by omega) (by omega) (by omega)
          have hm1 := ((ini_ok (eF l but)).turns m).nn i m
          have hm2 := ((ini_ok (eF l but)).turns m).le i m
          have hm3 := ((ini_ok (eF l but)).turns m).nn m k
          have hm4 := ((ini_ok (eF l but)).turns m).le m k
          simp only [NEV] at hm2 hm4
          refine rd ?_
          refine d0 0 (k := ?_)
          refine d0 1 (k := ?_)
          refine d0 2 (k := ?_)
          refine d0 3 (k := ?_)
          refine d1 4 (hc := kVd1.h {}) (k := ?_)
          refine d1 5 (hc := kVd1.h {}) (k := ?_)
          refine d0 6 (k := ?_)
          refine d0 7 (k := ?_)
          refine d0 8 (k := ?_)
          refine d1 9 (hc := kVd1.h {}) (k := ?_)
          refine d1 10 (hc := kVd1.h {}) (k := ?_)
          refine d0 11 (k := ?_)
          refine d0 12 (k := ?_)
          refine d0 13 (k := ?_)
          refine d1 14 (hc := kVd1.h {}) (k := ?_)
          refine d1 15 (hc := kVd1.h {}) (k := ?_)
          refine d0 16 (k := ?_)
          refine d1 17 (hc := kVd1.h {}) (k := ?_)
          refine d0 18 (k := ?_)
          refine d1 19 (hc := kVd1.h {}) (k := ?_)
          refine d1 20 (hc := kVd1.h {}) (k := ?_)
          refine ds1 21 (hc := kVd1.h {}) (k := ?_)
          refine dz 22 [0, 0, 0, 0, 4, 28, 60, 0, 0, 128, 896, 1920, 0, 0, 4096, 28672, 61440, 130944, 262140, 1, 1048575, 2097151] (h := ?_)
          refine de 22 (h := ?_)
          refine cl [5, 10, 11, 54, 57, 60] (k := ?_)
          repeat refine gwp_seq ?_
          refine gwp_region ?_
          refine v1 (hc := kVd1.h {}) (k := ?_)
          refine v0 (k := ?_)
          refine nil0 ?_
          refine lend [5, 10, 11, 54, 57, 60] (h := ?_) (hV := ?_) (n' := 8 - (k + 1))
          · omega
          exact ⟨k + 1, by omega, rfl, sgE rfl (by rw [upto_turn (by omega) (by omega)])⟩
        · replace hb9 := hB.h {} hb9
          try rw [eqI] at hb9
          repeat refine gwp_seq ?_
          refine gwp_exit ?_
          repeat (first | refine gthen_exit ?_ | refine gnoGoto_exit ?_ | refine gblock_here ?_ | refine gblock_out rfl ?_)
          refine cl [5, 10, 54, 57] (k := ?_)
          repeat refine gwp_seq ?_
          obtain rfl : k = 8 := by omega
          rw [upto_row]
          refine gwp_region ?_
          refine v1 (hc := kVd1.h {}) (k := ?_)
          refine v0 (k := ?_)
          refine nil0 ?_
          refine lend [5, 10, 54, 57] (h := ?_) (hV := ?_) (n' := 8 - (i + 1))
          · omega
          exact ⟨i + 1, by omega, rfl, sgE rfl rfl⟩
      · replace hb8 := hB.h {} hb8
        try rw [eqI] at hb8
        repeat refine gwp_seq ?_
        refine gwp_exit ?_
        repeat (first | refine gthen_exit ?_ | refine gnoGoto_exit ?_ | refine gblock_here ?_ | refine gblock_out rfl ?_)
        refine cl [5, 54] (k := ?_)
        repeat refine gwp_seq ?_
        obtain rfl : i = 8 := by omega
        rw [upto_all]
        refine gwp_region ?_
        refine v1 (hc := kVd1.h {}) (k := ?_)
        refine v0 (k := ?_)
        refine nil0 ?_
        refine lend [5, 54] (h := ?_) (hV := ?_) (n' := 8 - (m + 1))
        · omega
        exact ⟨m + 1, by omega, rfl, sgE rfl rfl⟩
    · replace hb7 := hB.h {} hb7
      try rw [eqI] at hb7
      repeat refine gwp_seq ?_
      refine gwp_exit ?_
      repeat (first | refine gthen_exit ?_ | refine gnoGoto_exit ?_ | refine gblock_here ?_ | refine gblock_out rfl ?_)
      refine cl [5] (k := ?_)
      repeat refine gwp_seq ?_
      obtain rfl : m = 8 := by omega
      rw [show phs (ini (eF l but)) 8 = D (eF l but) from rfl]
      refine gc_freezeK 150 64 (cs := (mat (D (eF l but))).map G.p) (fz := 0) (by simp only [mkHp_cons, mkHp_nil, Nat.reduceEqDiff, reduceIte]) (Nat.zero_le _) (by rw [List.length_map, mat_len]; omega) (by rw [List.take_of_length_le (by rw [List.length_map, mat_len]; omega)]; exact mat_one _) ?_
      refine cv_all 5 150 (cs := (mat (D (eF l but))).map G.p) (fz := 64) (by simp only [mkHp_cons, mkHp_nil, Nat.reduceEqDiff, reduceIte]) (by simp only [mkFr_cons, Nat.reduceEqDiff, reduceIte]) (by rw [List.length_map, mat_len]; omega) (mat_one _) ?_
      refine gwp_region ?_
      refine v0 (k := ?_)
      refine nil0 ?_
      repeat refine gwp_seq ?_
      refine gwp_ret ?_
      repeat (first | refine gthen_ret ?_ | refine gblock_ret ?_ | refine gnoGoto_ret ?_)
      refine fin_ret ?_
      refine fh [] (hR := ?_)
      rfl
end Go.Proofs.Ytagdholenfkeaaa

/- The records of a plate. -/
namespace Go.Proofs.Ytagdholenfkeaaa
open Go.Gh
/-- The records of a plate that are in a set, of the first ones, with their numbers. -/
def selN (p : Int) (set : Nat) (rs : List Rc) : Nat → List (Nat × Rc)
  | 0 => []
  | k + 1 => match rs[k]? with
    | some r => if r.p = p ∧ set.testBit k = true then selN p set rs k ++ [(k, r)] else selN p set rs k
    | none => selN p set rs k
def holN (p : Int) (rs : List Rc) : Nat → Int
  | 0 => 0
  | k + 1 => match rs[k]? with
    | some r => if r.p = p then r.t else holN p rs k
    | none => holN p rs k
section
variable {p : Int} {set : Nat} {rs : List Rc}
theorem sel_next {k : Nat} {r : Rc} (h : rs[k]? = some r) (h1 : r.p = p) (h2 : set.testBit k = true) : selN p set rs (k + 1) = selN p set rs k ++ [(k, r)] := by
  simp only [selN, h]; rw [if_pos ⟨h1, h2⟩]
theorem sel_skip1 {k : Nat} {r : Rc} (h : rs[k]? = some r) (h1 : ¬ r.p = p) : selN p set rs (k + 1) = selN p set rs k := by
  simp only [selN, h]; rw [if_neg fun e => h1 e.1]
theorem sel_skip2 {k : Nat} {r : Rc} (h : rs[k]? = some r) (h1 : set.testBit k = false) : selN p set rs (k + 1) = selN p set rs k := by
  simp only [selN, h]; rw [if_neg fun e => by rw [h1] at e; simp at e]
theorem sel_pre : ∀ (k m : Nat), k ≤ m → ∃ t, selN p set rs m = selN p set rs k ++ t ∧ ∀ e ∈ t, k ≤ e.1
  | k, 0, h => ⟨[], by obtain rfl : k = 0 := by omega
                       rfl, fun e h => by simp at h⟩
  | k, m + 1, h => by
    by_cases e : k = m + 1
    · subst e; exact ⟨[], by simp, fun e h => by simp at h⟩
    · obtain ⟨t, h1, h2⟩ := sel_pre k m (by omega)
      simp only [selN]
      split
      · split
        · rename_i r _ _
          exact ⟨t ++ [(m, r)], by rw [h1, List.append_assoc], fun e he => by
            rcases List.mem_append.1 he with he | he
            · exact h2 e he
            · simp at he; subst he; simp only; omega⟩
        · exact ⟨t, h1, h2⟩
      · exact ⟨t, h1, h2⟩
theorem sel_mem : ∀ (k : Nat) (e : Nat × Rc), e ∈ selN p set rs k → e.1 < k ∧ rs[e.1]? = some e.2 ∧ e.2.p = p ∧ set.testBit e.1 = true
  | 0, e, h => by simp [selN] at h
  | k + 1, e, h => by
    simp only [selN] at h
    split at h
    · rename_i r hr
      split at h
      · rename_i hc
        rcases List.mem_append.1 h with h | h
        · have := sel_mem k e h; exact ⟨by omega, this.2⟩
        · simp at h; subst h; exact ⟨by simp, hr, hc⟩
      · have := sel_mem k e h; exact ⟨by omega, this.2⟩
    · have := sel_mem k e h; exact ⟨by omega, this.2⟩
theorem sel_le : ∀ k, (selN p set rs k).length ≤ k
  | 0 => by simp [selN]
  | k + 1 => by
    have := sel_le k
    simp only [selN]; split
    · split <;> simp <;> omega
    · omega
theorem sel_at {k : Nat} {r : Rc} (h : rs[k]? = some r) (h1 : r.p = p) (h2 : set.testBit k = true) : (selN p set rs rs.length)[(selN p set rs k).length]? = some (k, r) := by
  obtain ⟨t, e, _⟩ := sel_pre (p := p) (set := set) (rs := rs) (k + 1) rs.length (by have := (List.getElem?_eq_some_iff.1 h).1; omega)
  rw [e, sel_next h h1 h2, List.append_assoc, List.getElem?_append_right (Nat.le_refl _), Nat.sub_self]
  rfl
/-- Where one stops. -/
theorem sel_stop {n m j : Nat} (hn : n ≤ m) (hj : ∀ e ∈ (selN p set rs m).take j, e.1 < n) (hs : ∀ e, (selN p set rs m)[j]? = some e → n ≤ e.1) : (selN p set rs m).take j = selN p set rs n := by
  obtain ⟨t, e, ht⟩ := sel_pre (p := p) (set := set) (rs := rs) n m hn
  rw [e] at hj hs ⊢
  have hjl : (selN p set rs n).length ≤ j := by
    apply Nat.le_of_not_lt
    intro hlt
    have h1 := hs _ (by rw [List.getElem?_append_left hlt, List.getElem?_eq_getElem hlt])
    have h2 := (sel_mem n _ (List.getElem_mem hlt)).1
    omega
  rw [List.take_append, List.take_of_length_le hjl]
  rw [List.take_append, List.take_of_length_le hjl] at hj
  cases hq : t.take (j - (selN p set rs n).length) with
  | nil => simp
  | cons x xs =>
    have hx : x ∈ t.take (j - (selN p set rs n).length) := by rw [hq]; simp
    have h1 := hj x (List.mem_append_right _ hx)
    have h2 := ht x (List.mem_of_mem_take hx)
    omega
def lastT (l : List (Nat × Rc)) : Int := match l.getLast? with | some e => e.2.t | none => 0
theorem lastT_snoc (l : List (Nat × Rc)) (e : Nat × Rc) : lastT (l ++ [e]) = e.2.t := by simp [lastT]
theorem last_hol : ∀ k, (∀ i, i < k → set.testBit i = true) → lastT (selN p set rs k) = holN p rs k
  | 0, _ => rfl
  | k + 1, h => by
    simp only [selN, holN]
    cases hr : rs[k]? with
    | none => exact last_hol k fun i hi => h i (by omega)
    | some r =>
      simp only
      by_cases hc : r.p = p
      · rw [if_pos ⟨hc, h k (by omega)⟩, if_pos hc, lastT_snoc]
      · rw [if_neg fun e => hc e.1, if_neg hc]
        exact last_hol k fun i hi => h i (by omega)
end
def allS (n : Nat) : Nat := 2 ^ n - 1
theorem all_bit {n i : Nat} (h : i < n) : (allS n).testBit i = true := by
  rw [allS, Nat.testBit_two_pow_sub_one]; exact decide_eq_true h
theorem allS_lt {n : Nat} (h : n ≤ 12) : allS n < 4096 := by
  have : 2 ^ n ≤ 2 ^ 12 := Nat.pow_le_pow_right (by omega) h
  have := Nat.two_pow_pos n
  simp only [allS]; omega
theorem allS_i (n : Nat) : ((2 ^ n : Nat) : Int) - 1 = (allS n : Nat) := by
  have := Nat.two_pow_pos n
  simp only [allS]; omega
end Go.Proofs.Ytagdholenfkeaaa
