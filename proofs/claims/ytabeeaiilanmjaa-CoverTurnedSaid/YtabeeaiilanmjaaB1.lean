/- What functions of the program return, each for every input that its theorem names. -/
import Derived.Test.YtabeeaiilanmjaaA3
import Derived.Test.YtabeeaiilanmjaaProg
set_option linter.unusedVariables false
set_option linter.unusedSimpArgs false
/- The program's types as the ghost operations ask for them. -/
namespace Go.Proofs.Ytabeeaiilanmjaa
open Go.Gh
set_option maxRecDepth 100000
theorem ti_3 : ti Try.prog 3 = some ⟨.int .i64, 1, 8, [.p (.int .i64 0)], false⟩ := by kernel_rfl
theorem ti_4 : ti Try.prog 4 = some ⟨.bool, 1, 1, [.p (.bool false)], false⟩ := by kernel_rfl
theorem ti_5 : ti Try.prog 5 = some ⟨.int .u8, 1, 1, [.p (.int .u8 0)], false⟩ := by kernel_rfl
theorem ti_9 : ti Try.prog 9 = some ⟨.string, 1, 16, [.p (.str [])], false⟩ := by kernel_rfl
theorem ti_20 : ti Try.prog 20 = some ⟨.interface #[], 1, 16, [.p .niliface], false⟩ := by kernel_rfl
theorem ti_22 : ti Try.prog 22 = some ⟨.slice 44, 1, 24, [.nils], false⟩ := by kernel_rfl
theorem ti_24 : ti Try.prog 24 = some ⟨.struct #[{ name := "Lo", type := 3, offset := 0, embedded := false, tag := "", pkgPath := "", byteOffset := 0 }, { name := "Hi", type := 3, offset := 1, embedded := false, tag := "", pkgPath := "", byteOffset := 8 }], 2, 16, [.p (.int .i64 0), .p (.int .i64 0)], true⟩ := by kernel_rfl
theorem ti_26 : ti Try.prog 26 = some ⟨.struct #[{ name := "Plates", type := 22, offset := 0, embedded := false, tag := "", pkgPath := "", byteOffset := 0 }, { name := "East", type := 24, offset := 1, embedded := false, tag := "", pkgPath := "", byteOffset := 24 }, { name := "North", type := 24, offset := 3, embedded := false, tag := "", pkgPath := "", byteOffset := 40 }, { name := "Days", type := 24, offset := 5, embedded := false, tag := "", pkgPath := "", byteOffset := 56 }, { name := "Depth", type := 3, offset := 7, embedded := false, tag := "", pkgPath := "", byteOffset := 72 }, { name := "Times", type := 3, offset := 8, embedded := false, tag := "", pkgPath := "", byteOffset := 80 }, { name := "Gap", type := 3, offset := 9, embedded := false, tag := "", pkgPath := "", byteOffset := 88 }], 10, 96, [.nils, .p (.int .i64 0), .p (.int .i64 0), .p (.int .i64 0), .p (.int .i64 0), .p (.int .i64 0), .p (.int .i64 0), .p (.int .i64 0), .p (.int .i64 0), .p (.int .i64 0)], true⟩ := by kernel_rfl
theorem ti_29 : ti Try.prog 29 = some ⟨.int .i64, 1, 8, [.p (.int .i64 0)], false⟩ := by kernel_rfl
theorem ti_37 : ti Try.prog 37 = some ⟨.slice 51, 1, 24, [.nils], false⟩ := by kernel_rfl
theorem ti_42 : ti Try.prog 42 = some ⟨.int .u16, 1, 2, [.p (.int .u16 0)], false⟩ := by kernel_rfl
theorem ti_44 : ti Try.prog 44 = some ⟨.struct #[{ name := "East", type := 24, offset := 0, embedded := false, tag := "", pkgPath := "", byteOffset := 0 }, { name := "North", type := 24, offset := 2, embedded := false, tag := "", pkgPath := "", byteOffset := 16 }, { name := "Day", type := 3, offset := 4, embedded := false, tag := "", pkgPath := "", byteOffset := 32 }, { name := "Depth", type := 3, offset := 5, embedded := false, tag := "", pkgPath := "", byteOffset := 40 }], 6, 48, [.p (.int .i64 0), .p (.int .i64 0), .p (.int .i64 0), .p (.int .i64 0), .p (.int .i64 0), .p (.int .i64 0)], true⟩ := by kernel_rfl
theorem ti_45 : ti Try.prog 45 = some ⟨.func #[3] #[4] false, 1, 8, [.p .nilfn], false⟩ := by kernel_rfl
theorem ti_48 : ti Try.prog 48 = some ⟨.func #[3] #[3] false, 1, 8, [.p .nilfn], false⟩ := by kernel_rfl
theorem ti_50 : ti Try.prog 50 = some ⟨.slice 5, 1, 24, [.nils], false⟩ := by kernel_rfl
theorem ti_51 : ti Try.prog 51 = some ⟨.array 2 3, 2, 16, [.p (.int .i64 0), .p (.int .i64 0)], true⟩ := by kernel_rfl
theorem ti_52 : ti Try.prog 52 = some ⟨.func #[51, 51] #[4] false, 1, 8, [.p .nilfn], false⟩ := by kernel_rfl
theorem ti_55 : ti Try.prog 55 = some ⟨.slice 26, 1, 24, [.nils], false⟩ := by kernel_rfl
theorem ti_60 : ti Try.prog 60 = some ⟨.pointer 29, 1, 8, [.p .nilptr], false⟩ := by kernel_rfl
theorem ti_61 : ti Try.prog 61 = some ⟨.int .u64, 1, 8, [.p (.int .u64 0)], false⟩ := by kernel_rfl
theorem ti_62 : ti Try.prog 62 = some ⟨.int .u64, 1, 8, [.p (.int .u64 0)], false⟩ := by kernel_rfl
theorem ti_63 : ti Try.prog 63 = some ⟨.map 73 62, 1, 8, [.p .nilmap], false⟩ := by kernel_rfl
theorem ti_65 : ti Try.prog 65 = some ⟨.struct #[{ name := "Field", type := 26, offset := 0, embedded := true, tag := "", pkgPath := "", byteOffset := 0 }, { name := "useful", type := 62, offset := 10, embedded := false, tag := "", pkgPath := "zoneworks/cover", byteOffset := 96 }, { name := "at", type := 63, offset := 11, embedded := false, tag := "", pkgPath := "zoneworks/cover", byteOffset := 104 }], 12, 112, [.nils, .p (.int .i64 0), .p (.int .i64 0), .p (.int .i64 0), .p (.int .i64 0), .p (.int .i64 0), .p (.int .i64 0), .p (.int .i64 0), .p (.int .i64 0), .p (.int .i64 0), .p (.int .u64 0), .p .nilmap], true⟩ := by kernel_rfl
theorem ti_66 : ti Try.prog 66 = some ⟨.pointer 65, 1, 8, [.p .nilptr], false⟩ := by kernel_rfl
theorem ti_71 : ti Try.prog 71 = some ⟨.func #[62] #[4] false, 1, 8, [.p .nilfn], false⟩ := by kernel_rfl
theorem ti_73 : ti Try.prog 73 = some ⟨.struct #[{ name := "east", type := 3, offset := 0, embedded := false, tag := "", pkgPath := "zoneworks/cover", byteOffset := 0 }, { name := "north", type := 3, offset := 1, embedded := false, tag := "", pkgPath := "zoneworks/cover", byteOffset := 8 }], 2, 16, [.p (.int .i64 0), .p (.int .i64 0)], true⟩ := by kernel_rfl
theorem ti_74 : ti Try.prog 74 = some ⟨.func #[111] #[] false, 1, 8, [.p .nilfn], false⟩ := by kernel_rfl
theorem ti_75 : ti Try.prog 75 = some ⟨.func #[111] #[] false, 1, 8, [.p .nilfn], false⟩ := by kernel_rfl
theorem ti_78 : ti Try.prog 78 = some ⟨.func #[71] #[] false, 1, 8, [.p .nilfn], false⟩ := by kernel_rfl
theorem ti_79 : ti Try.prog 79 = some ⟨.func #[71] #[] false, 1, 8, [.p .nilfn], false⟩ := by kernel_rfl
theorem ti_83 : ti Try.prog 83 = some ⟨.slice 62, 1, 24, [.nils], false⟩ := by kernel_rfl
theorem ti_85 : ti Try.prog 85 = some ⟨.map 62 3, 1, 8, [.p .nilmap], false⟩ := by kernel_rfl
theorem ti_86 : ti Try.prog 86 = some ⟨.func #[62] #[3] false, 1, 8, [.p .nilfn], false⟩ := by kernel_rfl
theorem ti_90 : ti Try.prog 90 = some ⟨.struct #[{ name := "l", type := 37, offset := 0, embedded := false, tag := "", pkgPath := "zoneworks/cover", byteOffset := 0 }], 1, 24, [.nils], true⟩ := by kernel_rfl
theorem ti_100 : ti Try.prog 100 = some ⟨.struct #[{ name := "errno", type := 29, offset := 0, embedded := false, tag := "", pkgPath := "zoneworks/cover", byteOffset := 0 }], 1, 8, [.p (.int .i64 0)], true⟩ := by kernel_rfl
theorem ti_102 : ti Try.prog 102 = some ⟨.slice 103, 1, 24, [.nils], false⟩ := by kernel_rfl
theorem ti_103 : ti Try.prog 103 = some ⟨.func #[66, 44] #[4] false, 1, 8, [.p .nilfn], false⟩ := by kernel_rfl
theorem ti_105 : ti Try.prog 105 = some ⟨.func #[103] #[4] false, 1, 8, [.p .nilfn], false⟩ := by kernel_rfl
theorem ti_106 : ti Try.prog 106 = some ⟨.slice 3, 1, 24, [.nils], false⟩ := by kernel_rfl
theorem ti_108 : ti Try.prog 108 = some ⟨.func #[3] #[] false, 1, 8, [.p .nilfn], false⟩ := by kernel_rfl
theorem ti_111 : ti Try.prog 111 = some ⟨.func #[73] #[4] false, 1, 8, [.p .nilfn], false⟩ := by kernel_rfl
theorem ti_114 : ti Try.prog 114 = some ⟨.map 62 4, 1, 8, [.p .nilmap], false⟩ := by kernel_rfl
theorem ti_115 : ti Try.prog 115 = some ⟨.pointer 90, 1, 8, [.p .nilptr], false⟩ := by kernel_rfl
theorem ti_117 : ti Try.prog 117 = some ⟨.func #[44] #[4] false, 1, 8, [.p .nilfn], false⟩ := by kernel_rfl
theorem ti_120 : ti Try.prog 120 = some ⟨.func #[24, 24] #[4] false, 1, 8, [.p .nilfn], false⟩ := by kernel_rfl
theorem ti_125 : ti Try.prog 125 = some ⟨.int .u32, 1, 4, [.p (.int .u32 0)], false⟩ := by kernel_rfl
theorem ti_127 : ti Try.prog 127 = some ⟨.int .u64, 1, 8, [.p (.int .u64 0)], false⟩ := by kernel_rfl
theorem ti_130 : ti Try.prog 130 = some ⟨.int .i64, 1, 8, [.p (.int .i64 0)], false⟩ := by kernel_rfl
theorem ti_136 : ti Try.prog 136 = some ⟨.int .u64, 1, 8, [.p (.int .u64 0)], false⟩ := by kernel_rfl
theorem ti_140 : ti Try.prog 140 = some ⟨.pointer 3, 1, 8, [.p .nilptr], false⟩ := by kernel_rfl
theorem ti_142 : ti Try.prog 142 = some ⟨.pointer 136, 1, 8, [.p .nilptr], false⟩ := by kernel_rfl
end Go.Proofs.Ytabeeaiilanmjaa

/- The rules of written-out states at the program's types: what an operation does is worked out at once. -/
namespace Go.Proofs.Ytabeeaiilanmjaa
open Go.Gh
set_option maxRecDepth 100000
/-- What is told of a truth. -/
structure hB (p q : Prop) : Prop where
  h : p → q := by (intro h; (try simp only [decide_eq_true_eq, decide_eq_false_iff_not, Int.not_lt, Int.not_le, Bool.not_eq_eq_eq_not, Bool.not_true, Bool.not_false, Bool.and_eq_true, Bool.and_eq_false_iff, Bool.or_eq_true, Bool.or_eq_false_iff] at h); exact h)
structure eA1 {α : Type} (a b : α) : Prop where
  h : a = b := by (simp only [gsem, gev, ofV, mkFr_cons, mkFr_nil, mkHp_cons, mkHp_nil, upd, yes, lift, gbinAt, gnilEq, gbin, gint, gshift, arith, gpick, gload, gstore, splice, gbox, gfill, placesL, gbuildSlice, gfieldAddr, gfield, gelem, gindexAddr, gindex, gbound, gslice, glen, gsource, gappend, gmin, gminL, gmax, gmaxL, mapGet, mapPut, zeroG, orZero, glookup, gmapUpdate, gmapEntry, gentryStore, Option.getD_none, Option.getD_some, gconvert, gtypeAssert, gextract, isConst, gnilCheck, gunOp, gmakeSlice, intOf, mkAgg, mkFn, mkIface, mkTuple, allP, G.cells, good, goods, allOne, G.one, P.one, allP_p, allOne_p, goods_p, toPs_p, all_int, take_all, isAggD, isIfaceD, toP, toPs, P.size, P.cells, List.map_cons, List.map_nil, List.take_succ_cons, List.take_zero, List.drop_succ_cons, List.drop_zero, List.take_nil, List.drop_nil, List.cons_append, List.nil_append, List.append_nil, List.length_cons, List.length_nil, List.getElem?_cons_zero, List.getElem?_cons_succ, List.getElem?_nil, List.set_cons_zero, List.set_cons_succ, List.flatMap_cons, List.flatMap_nil, List.getElem?_toArray, List.getElem?_map, List.length_map, Option.map_some, Option.map_none, Nat.mul_one, List.length_set, set_map_p, set_map_int, Nat.reduceEqDiff, Nat.reduceAdd, Nat.reduceMul, Nat.reduceSub, Nat.reduceLeDiff, Nat.add_zero, Nat.zero_add, Int.toNat_natCast, Int.reduceToNat, reduceIte, reduceCtorEq, eq_self, if_true, if_false, and_true, true_and, true_or, or_true, or_false, false_or, Bool.false_eq_true, ne_eq, not_true_eq_false, not_false_eq_true, cond_true, cond_false, Bool.and_true, Bool.true_and, Bool.and_false, Bool.false_and, Bool.or_true, Bool.true_or, Bool.or_false, Bool.false_or, Bool.not_true, Bool.not_false, ti_3, ti_4, ti_5, ti_9, ti_20, ti_22, ti_24, ti_26, ti_29, ti_37, ti_42, ti_44, ti_45, ti_48, ti_50, ti_51, ti_52, ti_55, ti_60, ti_61, ti_62, ti_63, ti_65, ti_66, ti_71, ti_73, ti_74, ti_75, ti_78, ti_79, ti_83, ti_85, ti_86, ti_90, ti_100, ti_102, ti_103, ti_105, ti_106, ti_108, ti_111, ti_114, ti_115, ti_117, ti_120, ti_125, ti_127, ti_130, ti_136, ti_140, ti_142, *] <;> rfl)
structure eA2 {α : Type} (a b : α) : Prop where
  h : a = b := by (simp only [reach, frIds, dfIds, gdIdl, obIdl, hpIds, restrictL, dedupL, pickL, subB, G.idl, G.idls, idls_p, List.nil_append, List.append_nil, List.cons_append, mkHp_cons, mkHp_nil, Nat.reduceEqDiff, reduceIte, List.mem_cons, List.not_mem_nil, or_false, or_true, true_or, false_or, List.filter_cons, List.filter_nil, ne_eq, not_true_eq_false, not_false_eq_true, decide_true, decide_false, Bool.false_eq_true, List.all_cons, List.all_nil, Bool.and_true] <;> rfl)
structure eA3 {α : Type} (a b : α) : Prop where
  h : a = b := by (simp only [frIds, dfIds, gdIdl, obIdl, hpIds, restrictL, dedupL, pickL, subB, G.idl, G.idls, idls_p, List.nil_append, List.append_nil, List.cons_append, mkHp_cons, mkHp_nil, Nat.reduceEqDiff, reduceIte, List.mem_cons, List.not_mem_nil, or_false, or_true, true_or, false_or, List.filter_cons, List.filter_nil, ne_eq, not_true_eq_false, not_false_eq_true, decide_true, decide_false, Bool.false_eq_true, List.all_cons, List.all_nil, Bool.and_true] <;> rfl)
structure eA4 {α : Type} (a b : α) : Prop where
  h : a = b := by (simp only [gcallee, gev, mkFr_cons, Nat.reduceEqDiff, reduceIte, List.map_cons, List.map_nil, List.cons_append, List.nil_append, List.append_nil, toP, toPs, toPs_p, ofV, rhp, mkHp_cons, mkHp_nil, List.mem_cons, List.not_mem_nil, or_false, and_true, true_and] <;> rfl)
structure eA5 {α : Type} (a b : α) : Prop where
  h : a = b := by (simp only [opIds, Op.operands, gev, mkFr_cons, Nat.reduceEqDiff, reduceIte, List.flatMap_cons, List.flatMap_nil, List.map_cons, List.map_nil, G.idl, G.idls, idls_p, List.append_nil, List.nil_append, List.cons_append, ofV, Call.operands, List.append_toArray, Array.toList_append, Option.toArray_none, Option.toArray_some] <;> rfl)
structure eA6 {α : Type} (a b : α) : Prop where
  h : a = b := by (simp only [cvts, cvt, gev, mkFr_cons, Nat.reduceEqDiff, reduceIte, List.map_cons, List.map_nil, List.cons_append, List.nil_append, List.append_nil, toP, toPs, toPs_p, ofV, rhp, mkHp_cons, mkHp_nil, List.mem_cons, List.not_mem_nil, or_false, and_true, true_and] <;> rfl)
structure eA7 {α : Type} (a b : α) : Prop where
  h : a = b := by (simp only [rhp, List.mem_cons, List.not_mem_nil, gsem, gev, ofV, mkFr_cons, mkFr_nil, mkHp_cons, mkHp_nil, upd, yes, lift, gbinAt, gnilEq, gbin, gint, gshift, arith, gpick, gload, gstore, splice, gbox, gfill, placesL, gbuildSlice, gfieldAddr, gfield, gelem, gindexAddr, gindex, gbound, gslice, glen, gsource, gappend, gmin, gminL, gmax, gmaxL, mapGet, mapPut, zeroG, orZero, glookup, gmapUpdate, gmapEntry, gentryStore, Option.getD_none, Option.getD_some, gconvert, gtypeAssert, gextract, isConst, gnilCheck, gunOp, gmakeSlice, intOf, mkAgg, mkFn, mkIface, mkTuple, allP, G.cells, good, goods, allOne, G.one, P.one, allP_p, allOne_p, goods_p, toPs_p, all_int, take_all, isAggD, isIfaceD, toP, toPs, P.size, P.cells, List.map_cons, List.map_nil, List.take_succ_cons, List.take_zero, List.drop_succ_cons, List.drop_zero, List.take_nil, List.drop_nil, List.cons_append, List.nil_append, List.append_nil, List.length_cons, List.length_nil, List.getElem?_cons_zero, List.getElem?_cons_succ, List.getElem?_nil, List.set_cons_zero, List.set_cons_succ, List.flatMap_cons, List.flatMap_nil, List.getElem?_toArray, List.getElem?_map, List.length_map, Option.map_some, Option.map_none, Nat.mul_one, List.length_set, set_map_p, set_map_int, Nat.reduceEqDiff, Nat.reduceAdd, Nat.reduceMul, Nat.reduceSub, Nat.reduceLeDiff, Nat.add_zero, Nat.zero_add, Int.toNat_natCast, Int.reduceToNat, reduceIte, reduceCtorEq, eq_self, if_true, if_false, and_true, true_and, true_or, or_true, or_false, false_or, Bool.false_eq_true, ne_eq, not_true_eq_false, not_false_eq_true, cond_true, cond_false, Bool.and_true, Bool.true_and, Bool.and_false, Bool.false_and, Bool.or_true, Bool.true_or, Bool.or_false, Bool.false_or, Bool.not_true, Bool.not_false, ti_3, ti_4, ti_5, ti_9, ti_20, ti_22, ti_24, ti_26, ti_29, ti_37, ti_42, ti_44, ti_45, ti_48, ti_50, ti_51, ti_52, ti_55, ti_60, ti_61, ti_62, ti_63, ti_65, ti_66, ti_71, ti_73, ti_74, ti_75, ti_78, ti_79, ti_83, ti_85, ti_86, ti_90, ti_100, ti_102, ti_103, ti_105, ti_106, ti_108, ti_111, ti_114, ti_115, ti_117, ti_120, ti_125, ti_127, ti_130, ti_136, ti_140, ti_142, *] <;> rfl)
structure eA8 {α : Type} (a b : α) : Prop where
  h : a = b := by (simp only [cvtsM, cvtM, Option.map_some, Option.map_none, G.rens, G.ren, rens_p, Gh.look, Nat.reduceAdd, Nat.zero_add, List.take_succ_cons, List.take_zero, List.drop_succ_cons, List.drop_zero, gev, mkFr_cons, Nat.reduceEqDiff, reduceIte, List.map_cons, List.map_nil, List.cons_append, List.nil_append, List.append_nil, toP, toPs, toPs_p, ofV, rhp, mkHp_cons, mkHp_nil, List.mem_cons, List.not_mem_nil, or_false, and_true, true_and] <;> rfl)
structure eA9 {α : Type} (a b : α) : Prop where
  h : a = b := by (simp only [gev, mkFr_cons, Nat.reduceEqDiff, reduceIte, List.map_cons, List.map_nil, List.cons_append, List.nil_append, List.append_nil, toP, toPs, toPs_p, ofV, rhp, mkHp_cons, mkHp_nil, List.mem_cons, List.not_mem_nil, or_false, and_true, true_and] <;> rfl)
structure eA10 {α : Type} (a b : α) : Prop where
  h : a = b := by (simp only [gresult, gresL, gres1, tup_nil, tup_one, tup_two, gsem, gev, ofV, mkFr_cons, mkFr_nil, mkHp_cons, mkHp_nil, upd, yes, lift, gbinAt, gnilEq, gbin, gint, gshift, arith, gpick, gload, gstore, splice, gbox, gfill, placesL, gbuildSlice, gfieldAddr, gfield, gelem, gindexAddr, gindex, gbound, gslice, glen, gsource, gappend, gmin, gminL, gmax, gmaxL, mapGet, mapPut, zeroG, orZero, glookup, gmapUpdate, gmapEntry, gentryStore, Option.getD_none, Option.getD_some, gconvert, gtypeAssert, gextract, isConst, gnilCheck, gunOp, gmakeSlice, intOf, mkAgg, mkFn, mkIface, mkTuple, allP, G.cells, good, goods, allOne, G.one, P.one, allP_p, allOne_p, goods_p, toPs_p, all_int, take_all, isAggD, isIfaceD, toP, toPs, P.size, P.cells, List.map_cons, List.map_nil, List.take_succ_cons, List.take_zero, List.drop_succ_cons, List.drop_zero, List.take_nil, List.drop_nil, List.cons_append, List.nil_append, List.append_nil, List.length_cons, List.length_nil, List.getElem?_cons_zero, List.getElem?_cons_succ, List.getElem?_nil, List.set_cons_zero, List.set_cons_succ, List.flatMap_cons, List.flatMap_nil, List.getElem?_toArray, List.getElem?_map, List.length_map, Option.map_some, Option.map_none, Nat.mul_one, List.length_set, set_map_p, set_map_int, Nat.reduceEqDiff, Nat.reduceAdd, Nat.reduceMul, Nat.reduceSub, Nat.reduceLeDiff, Nat.add_zero, Nat.zero_add, Int.toNat_natCast, Int.reduceToNat, reduceIte, reduceCtorEq, eq_self, if_true, if_false, and_true, true_and, true_or, or_true, or_false, false_or, Bool.false_eq_true, ne_eq, not_true_eq_false, not_false_eq_true, cond_true, cond_false, Bool.and_true, Bool.true_and, Bool.and_false, Bool.false_and, Bool.or_true, Bool.true_or, Bool.or_false, Bool.false_or, Bool.not_true, Bool.not_false, ti_3, ti_4, ti_5, ti_9, ti_20, ti_22, ti_24, ti_26, ti_29, ti_37, ti_42, ti_44, ti_45, ti_48, ti_50, ti_51, ti_52, ti_55, ti_60, ti_61, ti_62, ti_63, ti_65, ti_66, ti_71, ti_73, ti_74, ti_75, ti_78, ti_79, ti_83, ti_85, ti_86, ti_90, ti_100, ti_102, ti_103, ti_105, ti_106, ti_108, ti_111, ti_114, ti_115, ti_117, ti_120, ti_125, ti_127, ti_130, ti_136, ti_140, ti_142] <;> rfl)
structure eA11 {α : Type} (a b : α) : Prop where
  h : a = b := by (simp only [cvS, cvSs, toP, toPs, toPs_p, mkFr_cons, mkFr_nil, mkHp_cons, mkHp_nil, Nat.reduceEqDiff, reduceIte, List.take_succ_cons, List.take_zero, List.drop_succ_cons, List.drop_zero, List.take_nil, List.drop_nil, List.length_cons, List.length_nil, Nat.reduceAdd, Nat.add_zero, Nat.zero_add, List.map_cons, List.map_nil, List.cons_append, List.nil_append, List.append_nil, and_true, true_and] <;> rfl)
structure eA12 {α : Type} (a b : α) : Prop where
  h : a = b := by (simp only [gdefer, gev, mkFr_cons, Nat.reduceEqDiff, reduceIte, List.map_cons, List.map_nil, List.cons_append, List.nil_append, List.append_nil, toP, toPs, toPs_p, ofV, rhp, mkHp_cons, mkHp_nil, List.mem_cons, List.not_mem_nil, or_false, and_true, true_and] <;> rfl)
structure eA13 {α : Type} (a b : α) : Prop where
  h : a = b := by (simp only [grange, gev, mkFr_cons, Nat.reduceEqDiff, reduceIte, List.map_cons, List.map_nil, List.cons_append, List.nil_append, List.append_nil, toP, toPs, toPs_p, ofV, rhp, mkHp_cons, mkHp_nil, List.mem_cons, List.not_mem_nil, or_false, and_true, true_and] <;> rfl)
structure eA14 {α : Type} (a b : α) : Prop where
  h : a = b := by (simp only [List.map_cons, List.map_nil, frIds, dfIds, gdIdl, obIdl, hpIds, restrictL, dedupL, pickL, subB, G.idl, G.idls, idls_p, List.nil_append, List.append_nil, List.cons_append, mkHp_cons, mkHp_nil, Nat.reduceEqDiff, reduceIte, List.mem_cons, List.not_mem_nil, or_false, or_true, true_or, false_or, List.filter_cons, List.filter_nil, ne_eq, not_true_eq_false, not_false_eq_true, decide_true, decide_false, Bool.false_eq_true, List.all_cons, List.all_nil, Bool.and_true] <;> rfl)
structure eA15 {α : Type} (a b : α) : Prop where
  h : a = b := by (simp only [cvts, cvt, Gh.look, G.rens, G.ren, gev, mkFr_cons, Nat.reduceEqDiff, reduceIte, List.map_cons, List.map_nil, List.cons_append, List.nil_append, List.append_nil, toP, toPs, toPs_p, ofV, rhp, mkHp_cons, mkHp_nil, List.mem_cons, List.not_mem_nil, or_false, and_true, true_and] <;> rfl)
variable {E : Env Try.prog} {C : Cx E} {r : Option Nat} {ops : Array Oper} {Q : GE → Sg E → Prop} {rest lst : List Oper} {l l' : List (Nat × G)} {m : List (Nat × Ob)} {A : E.α} {df : List GD}
variable {t : Nat} {op : Op} {ty : TypeId} {pos : String} {af : Array Edge} {c : Prop} {g : G} {ob : Ob} {i j : Nat} {gd : Option (Nat × Bool)} {b x : Bool} {cd : Code} {J : List Nat}

/-- A value. -/
theorem v0 (hg : gsem Try.prog false 99999 (gev (mkFr l)) (mkHp m) op = some (c, ⟨g, none⟩) := by exact eA1.h {}) (hd : mkHp m 99999 = .none := by (simp only [mkHp_cons, mkHp_nil, Nat.reduceEqDiff, reduceIte])) (ht : t < C.N := by omega)
    (k : gops C r ops Q rest (sg ((t, g) :: l) m A df)) (hc : c := by first | exact True.intro | simp) : gops C r ops Q (⟨some t, op, ty, pos, af, none⟩ :: rest) (sg l m A df) := go_v (gwant_plain rfl) hg hd ht hc k
/-- A value, with a condition that is left to prove. -/
theorem v1 (hg : gsem Try.prog false 99999 (gev (mkFr l)) (mkHp m) op = some (c, ⟨g, none⟩) := by exact eA1.h {}) (hd : mkHp m 99999 = .none := by (simp only [mkHp_cons, mkHp_nil, Nat.reduceEqDiff, reduceIte])) (ht : t < C.N := by omega)
    (hc : c) (k : gops C r ops Q rest (sg ((t, g) :: l) m A df)) : gops C r ops Q (⟨some t, op, ty, pos, af, none⟩ :: rest) (sg l m A df) := go_v (gwant_plain rfl) hg hd ht hc k
/-- A value under a guard. -/
theorem w0 {b' : Bool} (hj : (ops[j]?).bind (·.dst) = some i := by rfl) (hx : mkFr l i = .p (.bool b') := by (simp only [mkFr_cons, Nat.reduceEqDiff, reduceIte] <;> rfl)) (hb : (b' == b) = true := by rfl)
    (hg : gsem Try.prog false 99999 (gev (mkFr l)) (mkHp m) op = some (c, ⟨g, none⟩) := by exact eA1.h {}) (hd : mkHp m 99999 = .none := by (simp only [mkHp_cons, mkHp_nil, Nat.reduceEqDiff, reduceIte])) (ht : t < C.N := by omega)
    (k : gops C r ops Q rest (sg ((t, g) :: l) m A df)) (hc : c := by first | exact True.intro | simp) : gops C r ops Q (⟨some t, op, ty, pos, af, some (j, b)⟩ :: rest) (sg l m A df) := go_v ((gwant_at rfl hj hx).trans (by rw [hb])) hg hd ht hc k
theorem w1 {b' : Bool} (hj : (ops[j]?).bind (·.dst) = some i := by rfl) (hx : mkFr l i = .p (.bool b') := by (simp only [mkFr_cons, Nat.reduceEqDiff, reduceIte] <;> rfl)) (hb : (b' == b) = true := by rfl)
    (hg : gsem Try.prog false 99999 (gev (mkFr l)) (mkHp m) op = some (c, ⟨g, none⟩) := by exact eA1.h {}) (hd : mkHp m 99999 = .none := by (simp only [mkHp_cons, mkHp_nil, Nat.reduceEqDiff, reduceIte])) (ht : t < C.N := by omega)
    (hc : c) (k : gops C r ops Q rest (sg ((t, g) :: l) m A df)) : gops C r ops Q (⟨some t, op, ty, pos, af, some (j, b)⟩ :: rest) (sg l m A df) := go_v ((gwant_at rfl hj hx).trans (by rw [hb])) hg hd ht hc k
/-- Left out. -/
theorem x0 {b' : Bool} (hj : (ops[j]?).bind (·.dst) = some i := by rfl) (hx : mkFr l i = .p (.bool b') := by (simp only [mkFr_cons, Nat.reduceEqDiff, reduceIte] <;> rfl)) (hb : (b' == b) = false := by rfl) (ht : t < C.N := by omega)
    (k : gops C r ops Q rest (sg ((t, .p (.tuple [])) :: l) m A df)) : gops C r ops Q (⟨some t, op, ty, pos, af, some (j, b)⟩ :: rest) (sg l m A df) := go_x ((gwant_at rfl hj hx).trans (by rw [hb])) ht k
theorem x1 (hj : (ops[j]?).bind (·.dst) = some i := by rfl) (hx : mkFr l i = .p (.tuple []) := by (simp only [mkFr_cons, Nat.reduceEqDiff, reduceIte] <;> rfl)) (ht : t < C.N := by omega)
    (k : gops C r ops Q rest (sg ((t, .p (.tuple [])) :: l) m A df)) : gops C r ops Q (⟨some t, op, ty, pos, af, some (j, b)⟩ :: rest) (sg l m A df) := go_x (gwant_un rfl hj hx) ht k
/-- The guard is not known: both. -/
theorem b0 {b' : Bool} (hj : (ops[j]?).bind (·.dst) = some i := by rfl) (hx : mkFr l i = .p (.bool b') := by (simp only [mkFr_cons, Nat.reduceEqDiff, reduceIte] <;> rfl))
    (k1 : b' = true → gops C r ops Q (⟨some t, op, ty, pos, af, some (j, b)⟩ :: rest) (sg ((i, .p (.bool true)) :: l) m A df)) (k0 : b' = false → gops C r ops Q (⟨some t, op, ty, pos, af, some (j, b)⟩ :: rest) (sg ((i, .p (.bool false)) :: l) m A df)) :
    gops C r ops Q (⟨some t, op, ty, pos, af, some (j, b)⟩ :: rest) (sg l m A df) := go_b i hx k1 k0
/-- A register's truth is known. -/
theorem rb (t : Nat) (b : Bool) {x : Bool} (hx : mkFr l t = .p (.bool x) := by (simp only [mkFr_cons, Nat.reduceEqDiff, reduceIte] <;> rfl)) (h : x = b) (k : gops C r ops Q lst (sg ((t, .p (.bool b)) :: l) m A df)) : gops C r ops Q lst (sg l m A df) := by
  subst h
  rwa [sg, mkFr_again hx] at k
theorem nil0 (k : Q .normal (sg l m A df)) : gops C r ops Q [] (sg l m A df) := gops_nil k
theorem cT {o : Operand} {y z : Code} (hb : gev (mkFr l) o = .p (.bool true) := by (simp only [gev, mkFr_cons, Nat.reduceEqDiff, reduceIte] <;> rfl)) (k : gwp C r y Q (sg l m A df)) : gwp C r (.cond o y z) Q (sg l m A df) := gc_condT hb k
theorem cF {o : Operand} {y z : Code} (hb : gev (mkFr l) o = .p (.bool false) := by (simp only [gev, mkFr_cons, Nat.reduceEqDiff, reduceIte] <;> rfl)) (k : gwp C r z Q (sg l m A df)) : gwp C r (.cond o y z) Q (sg l m A df) := gc_condF hb k
theorem cB {o : Operand} {y z : Code} (hb : gev (mkFr l) o = .p (.bool b) := by (simp only [gev, mkFr_cons, Nat.reduceEqDiff, reduceIte] <;> rfl)) (k1 : b = true → gwp C r y Q (sg l m A df)) (k0 : b = false → gwp C r z Q (sg l m A df)) : gwp C r (.cond o y z) Q (sg l m A df) := gc_cond hb k1 k0
theorem cl (vs : List Nat) {m' : List (Nat × Ob)} {I : List Nat} (hl : (vs.map fun v => (v, mkFr l v)) = l' := by (simp only [List.map_cons, List.map_nil, mkFr_cons, mkFr_nil, Nat.reduceEqDiff, reduceIte] <;> rfl)) (hI : reach l' m df = I := by exact eA2.h {}) (hm : restrictL I m = m' := by exact eA3.h {})
    (h1 : subB (frIds l') I = true := by exact eA3.h {}) (h2 : subB (dfIds df) I = true := by exact eA3.h {}) (h3 : subB (hpIds m I) I = true := by exact eA3.h {})
    (k : gwp C r cd Q (sg l' m' A df)) : gwp C r cd Q (sg l m A df) := gc_clean2 vs hl hm h1 h2 h3 k

/-! Calls -/
section
variable {f : FuncId} {gs : List G} {args : List P} {v : P} {pargs : List G}
theorem pc0 {cc : Call} (spec : PSpec Try.prog f args (.ok v)) (hent : Enters Try.prog f) (hg : gcallee Try.prog (mkFr l) cc = some (f, gs) := by exact eA4.h {})
    (hJ : G.idls gs = J := by exact eA5.h {}) (hcv : cvts (rhp (mkHp m) J) gs = (c, args.map .p) := by exact eA6.h {}) (ht : t < C.N := by omega) (k : gops C r ops Q rest (sg ((t, .p v) :: l) m A df)) (hc : c := by simp) :
    gops C r ops Q (⟨some t, .call cc, ty, pos, af, none⟩ :: rest) (sg l m A df) := gops_eff (eff_pcall rfl (gwant_plain rfl) hg hent hcv hc spec (fun t' e => by cases e; exact ht)) k
theorem pcw {b' : Bool} {cc : Call} (spec : PSpec Try.prog f args (.ok v)) (hent : Enters Try.prog f) (hj : (ops[j]?).bind (·.dst) = some i := by rfl) (hx : mkFr l i = .p (.bool b') := by (simp only [mkFr_cons, Nat.reduceEqDiff, reduceIte] <;> rfl)) (hb : (b' == b) = true := by rfl)
    (hg : gcallee Try.prog (mkFr l) cc = some (f, gs) := by exact eA4.h {})
    (hJ : G.idls gs = J := by exact eA5.h {}) (hcv : cvts (rhp (mkHp m) J) gs = (c, args.map .p) := by exact eA6.h {}) (ht : t < C.N := by omega) (k : gops C r ops Q rest (sg ((t, .p v) :: l) m A df)) (hc : c := by simp) :
    gops C r ops Q (⟨some t, .call cc, ty, pos, af, some (j, b)⟩ :: rest) (sg l m A df) := gops_eff (eff_pcall rfl ((gwant_at rfl hj hx).trans (by rw [hb])) hg hent hcv hc spec (fun t' e => by cases e; exact ht)) k
/-- A call that panics. -/
theorem pp0 {cc : Call} (spec : PSpec Try.prog f args (.panic v)) (hent : Enters Try.prog f) (hg : gcallee Try.prog (mkFr l) cc = some (f, gs) := by exact eA4.h {})
    (hJ : G.idls gs = J := by exact eA5.h {}) (hcv : cvts (rhp (mkHp m) J) gs = (c, args.map .p) := by exact eA6.h {}) (ht : t < C.N := by omega) (k : Q (.panic v) (sg l m A df)) (hc : c := by simp) :
    gops C r ops Q (⟨some t, .call cc, ty, pos, af, none⟩ :: rest) (sg l m A df) := gops_n (effN_pcall rfl (gwant_plain rfl) hg hent hcv hc spec (fun t' e => by cases e; exact ht) (fun v e => by cases e) (fun v' e => by cases e; exact k))
end
theorem pn0 {o : Operand} {tt : TypeId} {v : P} (hv : gev (mkFr l) o = .p (.iface tt v) := by (simp only [gev, mkFr_cons, Nat.reduceEqDiff, reduceIte] <;> rfl)) (k : Q (.panic (.iface tt v)) (sg l m A df)) {dst : Option Nat} : gops C r ops Q (⟨dst, .panic o, ty, pos, af, none⟩ :: rest) (sg l m A df) :=
  gops_n (effN_panic rfl (gwant_plain rfl) hv k)

/-! Regions in any order -/
section
variable {lo : Nat} {σ0 : Sg E} {ids ids' : List (List Nat × List Nat)} {I : List Nat} {f : FuncId} {gs : List G} {args : List P} {v : P}
theorem eff_v {o : Oper} (hw : gwant ops (mkFr l) o = some true) (hg : gsem Try.prog false 99999 (gev (mkFr l)) (rhp (mkHp m) I) o.op = some (c, ⟨g, none⟩)) (hc : c) (hd : mkHp m 99999 = .none) (ht : ∀ t, o.dst = some t → t < C.N) : Eff C r ops o (sg l m A df) (99999 :: I) g [] :=
  eff_op (d := 99999) (out := ⟨g, none⟩) hw hg hc hd (by have := C.limOk; omega) (fun p e => by cases e) ht
theorem d0 (n : Nat) (hn : ids.length = n := by rfl) (ho : ops[lo + n]? = some ⟨some t, op, ty, pos, af, none⟩ := by rfl) (hI : opIds (gev (mkFr l)) op = I := by exact eA5.h {})
    (hg : gsem Try.prog false 99999 (gev (mkFr l)) (rhp (mkHp m) I) op = some (c, ⟨g, none⟩) := by exact eA7.h {}) (hd : mkHp m 99999 = .none := by (simp only [mkHp_cons, mkHp_nil, Nat.reduceEqDiff, reduceIte])) (ht : t < C.N := by omega)
    (hids : ids ++ [(99999 :: I, [])] = ids' := by (simp only [List.cons_append, List.nil_append] <;> rfl)) (k : segK C r ops (GPost C Q) lo σ0 ids' (sg ((t, g) :: l) m A df)) (hc : c := by first | exact True.intro | simp) : segK C r ops (GPost C Q) lo σ0 ids (sg l m A df) :=
  segK.step (pi := []) hn ho (eff_v (gwant_plain rfl) hg hc hd (fun t' e => by cases e; exact ht)) rfl (by rw [hids]; exact k)
theorem d1 (n : Nat) (hn : ids.length = n := by rfl) (ho : ops[lo + n]? = some ⟨some t, op, ty, pos, af, none⟩ := by rfl) (hI : opIds (gev (mkFr l)) op = I := by exact eA5.h {})
    (hg : gsem Try.prog false 99999 (gev (mkFr l)) (rhp (mkHp m) I) op = some (c, ⟨g, none⟩) := by exact eA7.h {}) (hd : mkHp m 99999 = .none := by (simp only [mkHp_cons, mkHp_nil, Nat.reduceEqDiff, reduceIte])) (ht : t < C.N := by omega)
    (hids : ids ++ [(99999 :: I, [])] = ids' := by (simp only [List.cons_append, List.nil_append] <;> rfl)) (hc : c) (k : segK C r ops (GPost C Q) lo σ0 ids' (sg ((t, g) :: l) m A df)) : segK C r ops (GPost C Q) lo σ0 ids (sg l m A df) :=
  segK.step (pi := []) hn ho (eff_v (gwant_plain rfl) hg hc hd (fun t' e => by cases e; exact ht)) rfl (by rw [hids]; exact k)
theorem dw0 (n : Nat) {b' : Bool} (hn : ids.length = n := by rfl) (ho : ops[lo + n]? = some ⟨some t, op, ty, pos, af, some (j, b)⟩ := by rfl) (hj : (ops[j]?).bind (·.dst) = some i := by rfl) (hx : mkFr l i = .p (.bool b') := by (simp only [mkFr_cons, Nat.reduceEqDiff, reduceIte] <;> rfl)) (hb : (b' == b) = true := by rfl)
    (hI : opIds (gev (mkFr l)) op = I := by exact eA5.h {})
    (hg : gsem Try.prog false 99999 (gev (mkFr l)) (rhp (mkHp m) I) op = some (c, ⟨g, none⟩) := by exact eA7.h {}) (hd : mkHp m 99999 = .none := by (simp only [mkHp_cons, mkHp_nil, Nat.reduceEqDiff, reduceIte])) (ht : t < C.N := by omega)
    (hids : ids ++ [(99999 :: I, [])] = ids' := by (simp only [List.cons_append, List.nil_append] <;> rfl)) (k : segK C r ops (GPost C Q) lo σ0 ids' (sg ((t, g) :: l) m A df)) (hc : c := by first | exact True.intro | simp) : segK C r ops (GPost C Q) lo σ0 ids (sg l m A df) :=
  segK.step (pi := []) hn ho (eff_v ((gwant_at rfl hj hx).trans (by rw [hb])) hg hc hd (fun t' e => by cases e; exact ht)) rfl (by rw [hids]; exact k)
theorem dw1 (n : Nat) {b' : Bool} (hn : ids.length = n := by rfl) (ho : ops[lo + n]? = some ⟨some t, op, ty, pos, af, some (j, b)⟩ := by rfl) (hj : (ops[j]?).bind (·.dst) = some i := by rfl) (hx : mkFr l i = .p (.bool b') := by (simp only [mkFr_cons, Nat.reduceEqDiff, reduceIte] <;> rfl)) (hb : (b' == b) = true := by rfl)
    (hI : opIds (gev (mkFr l)) op = I := by exact eA5.h {})
    (hg : gsem Try.prog false 99999 (gev (mkFr l)) (rhp (mkHp m) I) op = some (c, ⟨g, none⟩) := by exact eA7.h {}) (hd : mkHp m 99999 = .none := by (simp only [mkHp_cons, mkHp_nil, Nat.reduceEqDiff, reduceIte])) (ht : t < C.N := by omega)
    (hids : ids ++ [(99999 :: I, [])] = ids' := by (simp only [List.cons_append, List.nil_append] <;> rfl)) (hc : c) (k : segK C r ops (GPost C Q) lo σ0 ids' (sg ((t, g) :: l) m A df)) : segK C r ops (GPost C Q) lo σ0 ids (sg l m A df) :=
  segK.step (pi := []) hn ho (eff_v ((gwant_at rfl hj hx).trans (by rw [hb])) hg hc hd (fun t' e => by cases e; exact ht)) rfl (by rw [hids]; exact k)
theorem dx0 (n : Nat) {b' : Bool} (hn : ids.length = n := by rfl) (ho : ops[lo + n]? = some ⟨some t, op, ty, pos, af, some (j, b)⟩ := by rfl) (hj : (ops[j]?).bind (·.dst) = some i := by rfl) (hx : mkFr l i = .p (.bool b') := by (simp only [mkFr_cons, Nat.reduceEqDiff, reduceIte] <;> rfl)) (hb : (b' == b) = false := by rfl) (ht : t < C.N := by omega)
    (hids : ids ++ [([], [])] = ids' := by (simp only [List.cons_append, List.nil_append] <;> rfl)) (k : segK C r ops (GPost C Q) lo σ0 ids' (sg ((t, .p (.tuple [])) :: l) m A df)) : segK C r ops (GPost C Q) lo σ0 ids (sg l m A df) :=
  segK.step (pi := []) hn ho (eff_skip ((gwant_at rfl hj hx).trans (by rw [hb])) (fun t' e => by cases e; exact ht)) rfl (by rw [hids]; exact k)
theorem db0 (n : Nat) {x : Bool} (i : Nat) (hx : mkFr l i = .p (.bool x) := by (simp only [mkFr_cons, Nat.reduceEqDiff, reduceIte] <;> rfl)) (k1 : x = true → segK C r ops (GPost C Q) lo σ0 ids (sg ((i, .p (.bool true)) :: l) m A df)) (k0 : x = false → segK C r ops (GPost C Q) lo σ0 ids (sg ((i, .p (.bool false)) :: l) m A df)) :
    segK C r ops (GPost C Q) lo σ0 ids (sg l m A df) := by
  cases x
  · have := k0 rfl
    rwa [sg, mkFr_again hx] at this
  have := k1 rfl
  rwa [sg, mkFr_again hx] at this
theorem dpc0 (n : Nat) {cc : Call} (spec : PSpec Try.prog f args (.ok v)) (hent : Enters Try.prog f) (hn : ids.length = n := by rfl) (ho : ops[lo + n]? = some ⟨some t, .call cc, ty, pos, af, none⟩ := by rfl) (hg : gcallee Try.prog (mkFr l) cc = some (f, gs) := by exact eA4.h {})
    (hJ : G.idls gs = J := by exact eA5.h {}) (hcv : cvts (rhp (mkHp m) J) gs = (c, args.map .p) := by exact eA6.h {}) (ht : t < C.N := by omega)
    (hids : ids ++ [(J, [])] = ids' := by (simp only [List.cons_append, List.nil_append] <;> rfl)) (k : segK C r ops (GPost C Q) lo σ0 ids' (sg ((t, .p v) :: l) m A df)) (hc : c := by simp) : segK C r ops (GPost C Q) lo σ0 ids (sg l m A df) :=
  segK.step (pi := []) hn ho (eff_pcall rfl (gwant_plain rfl) hg hent hcv hc spec (fun t' e => by cases e; exact ht)) rfl (by rw [hids]; exact k)
theorem dpcw (n : Nat) {b' : Bool} {cc : Call} (spec : PSpec Try.prog f args (.ok v)) (hent : Enters Try.prog f) (hn : ids.length = n := by rfl) (ho : ops[lo + n]? = some ⟨some t, .call cc, ty, pos, af, some (j, b)⟩ := by rfl)
    (hj : (ops[j]?).bind (·.dst) = some i := by rfl) (hx : mkFr l i = .p (.bool b') := by (simp only [mkFr_cons, Nat.reduceEqDiff, reduceIte] <;> rfl)) (hb : (b' == b) = true := by rfl) (hg : gcallee Try.prog (mkFr l) cc = some (f, gs) := by exact eA4.h {})
    (hJ : G.idls gs = J := by exact eA5.h {}) (hcv : cvts (rhp (mkHp m) J) gs = (c, args.map .p) := by exact eA6.h {}) (ht : t < C.N := by omega)
    (hids : ids ++ [(J, [])] = ids' := by (simp only [List.cons_append, List.nil_append] <;> rfl)) (k : segK C r ops (GPost C Q) lo σ0 ids' (sg ((t, .p v) :: l) m A df)) (hc : c := by simp) : segK C r ops (GPost C Q) lo σ0 ids (sg l m A df) :=
  segK.step (pi := []) hn ho (eff_pcall rfl ((gwant_at rfl hj hx).trans (by rw [hb])) hg hent hcv hc spec (fun t' e => by cases e; exact ht)) rfl (by rw [hids]; exact k)
theorem dz (n : Nat) (tab : List Nat) (hn : ids.length = n := by rfl) (hsz : lo + n ≤ ops.size := by exact Nat.le_of_ble_eq_true rfl) (hw : waitsB tab ops.toList 0 = true := by kernel_rfl) (hc : cutB tab lo n ops.size = true := by kernel_rfl) (hf : freeB tab ops.toList lo ids = true := by kernel_rfl)
    (h : gany C r ops (GPost C Q) (lo + n) (sg l m A df)) : segK C r ops (GPost C Q) lo σ0 ids (sg l m A df) := segK.stop tab hn hsz hw hc hf h
theorem de (n : Nat) (hn : ops.size = n := by rfl) (h : Q .normal (sg l m A df)) : gany C r ops (GPost C Q) n (sg l m A df) := gany_end hn h
end
theorem rd {idn : Nat} {σ : Sg E} (h : segK C r ops (GPost C Q) 0 σ [] σ) : gwp C r (.region idn ops true) Q σ := gwp_regionD (by kernel_rfl) (segK.start h)

/-! Objects -/
theorem n1 (d : Nat) (mu : Bool) (hg : gsem Try.prog mu d (gev (mkFr l)) (mkHp m) op = some (c, ⟨g, some (i, ob)⟩) := by exact eA1.h {}) (hd : mkHp m d = .none := by (simp only [mkHp_cons, mkHp_nil, Nat.reduceEqDiff, reduceIte])) (hd2 : C.lim ≤ d := by omega) (ht : t < C.N := by omega)
    (hc : c) (k : gops C r ops Q rest (sg ((t, g) :: l) ((i, ob) :: m) A df)) : gops C r ops Q (⟨some t, op, ty, pos, af, none⟩ :: rest) (sg l m A df) := go_n d mu (gwant_plain rfl) hg hd hd2 ht hc k
theorem s1 (hg : gsem Try.prog false 99999 (gev (mkFr l)) (mkHp m) op = some (c, ⟨g, some (i, ob)⟩) := by exact eA1.h {}) (hd : mkHp m 99999 = .none := by (simp only [mkHp_cons, mkHp_nil, Nat.reduceEqDiff, reduceIte]))
    (hc : c) (k : gops C r ops Q rest (sg l ((i, ob) :: m) A df)) : gops C r ops Q (⟨none, op, ty, pos, af, none⟩ :: rest) (sg l m A df) := go_s (gwant_plain rfl) hg hd hc k
/-! Objects, in any order -/
section
variable {lo : Nat} {σ0 : Sg E} {ids ids' : List (List Nat × List Nat)} {I : List Nat}
theorem dn1 (n : Nat) (d : Nat) (mu : Bool) (hn : ids.length = n := by rfl) (ho : ops[lo + n]? = some ⟨some t, op, ty, pos, af, none⟩ := by rfl) (hI : opIds (gev (mkFr l)) op = I := by exact eA5.h {})
    (hg : gsem Try.prog mu d (gev (mkFr l)) (rhp (mkHp m) I) op = some (c, ⟨g, some (i, ob)⟩) := by exact eA7.h {}) (hd : mkHp m d = .none := by (simp only [mkHp_cons, mkHp_nil, Nat.reduceEqDiff, reduceIte])) (hd2 : C.lim ≤ d := by omega) (ht : t < C.N := by omega) 
    (hi : i ∈ d :: I := by simp) (hids : ids ++ [(d :: I, [i])] = ids' := by (simp only [List.cons_append, List.nil_append] <;> rfl)) (hc : c) (k : segK C r ops (GPost C Q) lo σ0 ids' (sg ((t, g) :: l) ((i, ob) :: m) A df)) : segK C r ops (GPost C Q) lo σ0 ids (sg l m A df) :=
  segK.step (pi := [i]) hn ho (eff_op (d := d) (out := ⟨g, some (i, ob)⟩) (gwant_plain rfl) hg hc hd hd2 (fun p e => by cases e; exact hi) (fun t' e => by cases e; exact ht)) rfl (by rw [hids]; exact k)
theorem ds1 (n : Nat) (hn : ids.length = n := by rfl) (ho : ops[lo + n]? = some ⟨none, op, ty, pos, af, none⟩ := by rfl) (hI : opIds (gev (mkFr l)) op = I := by exact eA5.h {})
    (hg : gsem Try.prog false 99999 (gev (mkFr l)) (rhp (mkHp m) I) op = some (c, ⟨g, some (i, ob)⟩) := by exact eA7.h {}) (hd : mkHp m 99999 = .none := by (simp only [mkHp_cons, mkHp_nil, Nat.reduceEqDiff, reduceIte])) 
    (hi : i ∈ 99999 :: I := by simp) (hids : ids ++ [(99999 :: I, [i])] = ids' := by (simp only [List.cons_append, List.nil_append] <;> rfl)) (hc : c) (k : segK C r ops (GPost C Q) lo σ0 ids' (sg l ((i, ob) :: m) A df)) : segK C r ops (GPost C Q) lo σ0 ids (sg l m A df) :=
  segK.step (pi := [i]) hn ho (eff_op (d := 99999) (out := ⟨g, some (i, ob)⟩) (gwant_plain rfl) hg hc hd (by have := C.limOk; omega) (fun p e => by cases e; exact hi) (fun t' e => by cases e)) rfl (by rw [hids]; exact k)
end
/-! Calls that hand objects on -/
section
variable {lo : Nat} {σ0 : Sg E} {ids ids' : List (List Nat × List Nat)} {f : FuncId} {gs : List G}
theorem oc0 (L : List (Nat × Nat)) (J : List Nat) (ks : List Nat) (ad : Option (Nat × Ob)) {cc : Call} {gargs : List G} {mc mr m2 ps : List (Nat × Ob)} {g2 : G} (spec : Gh.Spec E f gargs (mkHp mc) A fun x => x = .ok g (mkHp mr) A) (hent : Enters Try.prog f) (hg : gcallee Try.prog (mkFr l) cc = some (f, gs) := by exact eA4.h {})
    (ha : AdoptOk C.lim (mkHp m) L ad := by (first | exact True.intro | (refine ⟨by (simp only [mkHp_cons, mkHp_nil, Nat.reduceEqDiff, reduceIte]), by omega, ⟨_, _, _, rfl⟩, by simp⟩))) (hcv : cvtsM (rhp (mkHp m) J) (ad.map (·.1)) ks gs = some (c, G.rens (Gh.look L) gargs) := by exact eA8.h {}) (hc : c := by simp)
    (n1 : (L.map (·.1)).Nodup := by decide) (n2 : (L.map (·.2)).Nodup := by decide) (n3 : (mc.map (·.1)).Nodup := by simp) (hp1 : pairsP L (adoptH (mkHp m) ad) mc := by (simp only [pairsP, adoptH, Gh.look, Ob.ren, G.rens, G.ren, rens_p, upd, mkHp_cons, mkHp_nil, Nat.reduceEqDiff, reduceIte] <;> simp)) (hp2 : newP C.lim (adoptH (mkHp m) ad) mc L := by (simp [newP, adoptH, upd, mkHp_cons, mkHp_nil] <;> omega))
    (hdis : ∀ d ob, ad = some (d, ob) → d ∉ J := by (intro d ob e; simp at e <;> simp [← e.1])) (hk : keysP L mr := by simp [keysP, Gh.look]) (hs : stayP mr mc := by simp [stayP, mkHp_cons, mkHp_nil]) (ht : t < C.N := by omega) (hgr : g.ren (Gh.look L) = g2 := by (simp only [G.ren, G.rens, Gh.look, Nat.reduceEqDiff, reduceIte] <;> rfl)) (hps : putsOf L (mkHp mr) = ps := by (simp only [putsOf, List.map_cons, List.map_nil, mkHp_cons, mkHp_nil, Nat.reduceEqDiff, reduceIte, Ob.ren, G.ren, G.rens, rens_p, Gh.look] <;> rfl))
    (hm2 : ps.reverse ++ m = m2 := by (simp only [List.reverse_cons, List.reverse_nil, List.nil_append, List.cons_append] <;> rfl)) (k : gops C r ops Q rest (sg ((t, g2) :: l) m2 A df)) : gops C r ops Q (⟨some t, .call cc, ty, pos, af, none⟩ :: rest) (sg l m A df) :=
  gops_eff (eff_call2 rfl (gwant_plain rfl) hg hent ha hcv hc (pairs_mk n1 n2 n3 hp1 hp2) hdis spec (pairsB_mk hk hs) (fun t' e => by cases e; exact ht)) (by rw [hgr, hps]; show gops C r ops Q rest (⟨upd (mkFr l) t g2, putsH (mkHp m) ps, A, df⟩ : Sg E); rw [putsH_mk, hm2]; exact k)
theorem doc0 (n : Nat) (L : List (Nat × Nat)) (J : List Nat) (ks : List Nat) (ad : Option (Nat × Ob)) {cc : Call} {gargs : List G} {mc mr m2 ps : List (Nat × Ob)} {g2 : G} (spec : Gh.Spec E f gargs (mkHp mc) A fun x => x = .ok g (mkHp mr) A) (hent : Enters Try.prog f) (hn : ids.length = n := by rfl) (ho : ops[lo + n]? = some ⟨some t, .call cc, ty, pos, af, none⟩ := by rfl) (hg : gcallee Try.prog (mkFr l) cc = some (f, gs) := by exact eA4.h {})
    (ha : AdoptOk C.lim (mkHp m) L ad := by (first | exact True.intro | (refine ⟨by (simp only [mkHp_cons, mkHp_nil, Nat.reduceEqDiff, reduceIte]), by omega, ⟨_, _, _, rfl⟩, by simp⟩))) (hcv : cvtsM (rhp (mkHp m) J) (ad.map (·.1)) ks gs = some (c, G.rens (Gh.look L) gargs) := by exact eA8.h {}) (hc : c := by simp)
    (n1 : (L.map (·.1)).Nodup := by decide) (n2 : (L.map (·.2)).Nodup := by decide) (n3 : (mc.map (·.1)).Nodup := by simp) (hp1 : pairsP L (adoptH (mkHp m) ad) mc := by (simp only [pairsP, adoptH, Gh.look, Ob.ren, G.rens, G.ren, rens_p, upd, mkHp_cons, mkHp_nil, Nat.reduceEqDiff, reduceIte] <;> simp)) (hp2 : newP C.lim (adoptH (mkHp m) ad) mc L := by (simp [newP, adoptH, upd, mkHp_cons, mkHp_nil] <;> omega))
    (hdis : ∀ d ob, ad = some (d, ob) → d ∉ J := by (intro d ob e; simp at e <;> simp [← e.1])) (hk : keysP L mr := by simp [keysP, Gh.look]) (hs : stayP mr mc := by simp [stayP, mkHp_cons, mkHp_nil]) (ht : t < C.N := by omega) (hgr : g.ren (Gh.look L) = g2 := by (simp only [G.ren, G.rens, Gh.look, Nat.reduceEqDiff, reduceIte] <;> rfl)) (hps : putsOf L (mkHp mr) = ps := by (simp only [putsOf, List.map_cons, List.map_nil, mkHp_cons, mkHp_nil, Nat.reduceEqDiff, reduceIte, Ob.ren, G.ren, G.rens, rens_p, Gh.look] <;> rfl))
    (hm2 : ps.reverse ++ m = m2 := by (simp only [List.reverse_cons, List.reverse_nil, List.nil_append, List.cons_append] <;> rfl)) (hids : ids ++ [(L.map (·.2) ++ J, ps.map (·.1))] = ids' := by (simp only [List.cons_append, List.nil_append, List.map_cons, List.map_nil] <;> rfl)) (k : segK C r ops (GPost C Q) lo σ0 ids' (sg ((t, g2) :: l) m2 A df)) : segK C r ops (GPost C Q) lo σ0 ids (sg l m A df) :=
  segK.step (pi := ps.map (·.1)) hn ho (eff_call2 rfl (gwant_plain rfl) hg hent ha hcv hc (pairs_mk n1 n2 n3 hp1 hp2) hdis spec (pairsB_mk hk hs) (fun t' e => by cases e; exact ht)) (by rw [hps]) (by rw [hids, hgr, hps]; show segK C r ops (GPost C Q) lo σ0 ids' (⟨upd (mkFr l) t g2, putsH (mkHp m) ps, A, df⟩ : Sg E); rw [putsH_mk, hm2]; exact k)
theorem ocw (L : List (Nat × Nat)) (J : List Nat) (ks : List Nat) (ad : Option (Nat × Ob)) {b' : Bool} {i' : Nat} {cc : Call} {gargs : List G} {mc mr m2 ps : List (Nat × Ob)} {g2 : G} (spec : Gh.Spec E f gargs (mkHp mc) A fun x => x = .ok g (mkHp mr) A) (hent : Enters Try.prog f) (hj : (ops[j]?).bind (·.dst) = some i' := by rfl) (hx : mkFr l i' = .p (.bool b') := by (simp only [mkFr_cons, Nat.reduceEqDiff, reduceIte] <;> rfl)) (hb : (b' == b) = true := by rfl) (hg : gcallee Try.prog (mkFr l) cc = some (f, gs) := by exact eA4.h {})
    (ha : AdoptOk C.lim (mkHp m) L ad := by (first | exact True.intro | (refine ⟨by (simp only [mkHp_cons, mkHp_nil, Nat.reduceEqDiff, reduceIte]), by omega, ⟨_, _, _, rfl⟩, by simp⟩))) (hcv : cvtsM (rhp (mkHp m) J) (ad.map (·.1)) ks gs = some (c, G.rens (Gh.look L) gargs) := by exact eA8.h {}) (hc : c := by simp)
    (n1 : (L.map (·.1)).Nodup := by decide) (n2 : (L.map (·.2)).Nodup := by decide) (n3 : (mc.map (·.1)).Nodup := by simp) (hp1 : pairsP L (adoptH (mkHp m) ad) mc := by (simp only [pairsP, adoptH, Gh.look, Ob.ren, G.rens, G.ren, rens_p, upd, mkHp_cons, mkHp_nil, Nat.reduceEqDiff, reduceIte] <;> simp)) (hp2 : newP C.lim (adoptH (mkHp m) ad) mc L := by (simp [newP, adoptH, upd, mkHp_cons, mkHp_nil] <;> omega))
    (hdis : ∀ d ob, ad = some (d, ob) → d ∉ J := by (intro d ob e; simp at e <;> simp [← e.1])) (hk : keysP L mr := by simp [keysP, Gh.look]) (hs : stayP mr mc := by simp [stayP, mkHp_cons, mkHp_nil]) (ht : t < C.N := by omega) (hgr : g.ren (Gh.look L) = g2 := by (simp only [G.ren, G.rens, Gh.look, Nat.reduceEqDiff, reduceIte] <;> rfl)) (hps : putsOf L (mkHp mr) = ps := by (simp only [putsOf, List.map_cons, List.map_nil, mkHp_cons, mkHp_nil, Nat.reduceEqDiff, reduceIte, Ob.ren, G.ren, G.rens, rens_p, Gh.look] <;> rfl))
    (hm2 : ps.reverse ++ m = m2 := by (simp only [List.reverse_cons, List.reverse_nil, List.nil_append, List.cons_append] <;> rfl)) (k : gops C r ops Q rest (sg ((t, g2) :: l) m2 A df)) : gops C r ops Q (⟨some t, .call cc, ty, pos, af, some (j, b)⟩ :: rest) (sg l m A df) :=
  gops_eff (eff_call2 rfl ((gwant_at rfl hj hx).trans (by rw [hb])) hg hent ha hcv hc (pairs_mk n1 n2 n3 hp1 hp2) hdis spec (pairsB_mk hk hs) (fun t' e => by cases e; exact ht)) (by rw [hgr, hps]; show gops C r ops Q rest (⟨upd (mkFr l) t g2, putsH (mkHp m) ps, A, df⟩ : Sg E); rw [putsH_mk, hm2]; exact k)
theorem docw (n : Nat) (L : List (Nat × Nat)) (J : List Nat) (ks : List Nat) (ad : Option (Nat × Ob)) {b' : Bool} {i' : Nat} {cc : Call} {gargs : List G} {mc mr m2 ps : List (Nat × Ob)} {g2 : G} (spec : Gh.Spec E f gargs (mkHp mc) A fun x => x = .ok g (mkHp mr) A) (hent : Enters Try.prog f) (hj : (ops[j]?).bind (·.dst) = some i' := by rfl) (hx : mkFr l i' = .p (.bool b') := by (simp only [mkFr_cons, Nat.reduceEqDiff, reduceIte] <;> rfl)) (hb : (b' == b) = true := by rfl) (hn : ids.length = n := by rfl) (ho : ops[lo + n]? = some ⟨some t, .call cc, ty, pos, af, some (j, b)⟩ := by rfl) (hg : gcallee Try.prog (mkFr l) cc = some (f, gs) := by exact eA4.h {})
    (ha : AdoptOk C.lim (mkHp m) L ad := by (first | exact True.intro | (refine ⟨by (simp only [mkHp_cons, mkHp_nil, Nat.reduceEqDiff, reduceIte]), by omega, ⟨_, _, _, rfl⟩, by simp⟩))) (hcv : cvtsM (rhp (mkHp m) J) (ad.map (·.1)) ks gs = some (c, G.rens (Gh.look L) gargs) := by exact eA8.h {}) (hc : c := by simp)
    (n1 : (L.map (·.1)).Nodup := by decide) (n2 : (L.map (·.2)).Nodup := by decide) (n3 : (mc.map (·.1)).Nodup := by simp) (hp1 : pairsP L (adoptH (mkHp m) ad) mc := by (simp only [pairsP, adoptH, Gh.look, Ob.ren, G.rens, G.ren, rens_p, upd, mkHp_cons, mkHp_nil, Nat.reduceEqDiff, reduceIte] <;> simp)) (hp2 : newP C.lim (adoptH (mkHp m) ad) mc L := by (simp [newP, adoptH, upd, mkHp_cons, mkHp_nil] <;> omega))
    (hdis : ∀ d ob, ad = some (d, ob) → d ∉ J := by (intro d ob e; simp at e <;> simp [← e.1])) (hk : keysP L mr := by simp [keysP, Gh.look]) (hs : stayP mr mc := by simp [stayP, mkHp_cons, mkHp_nil]) (ht : t < C.N := by omega) (hgr : g.ren (Gh.look L) = g2 := by (simp only [G.ren, G.rens, Gh.look, Nat.reduceEqDiff, reduceIte] <;> rfl)) (hps : putsOf L (mkHp mr) = ps := by (simp only [putsOf, List.map_cons, List.map_nil, mkHp_cons, mkHp_nil, Nat.reduceEqDiff, reduceIte, Ob.ren, G.ren, G.rens, rens_p, Gh.look] <;> rfl))
    (hm2 : ps.reverse ++ m = m2 := by (simp only [List.reverse_cons, List.reverse_nil, List.nil_append, List.cons_append] <;> rfl)) (hids : ids ++ [(L.map (·.2) ++ J, ps.map (·.1))] = ids' := by (simp only [List.cons_append, List.nil_append, List.map_cons, List.map_nil] <;> rfl)) (k : segK C r ops (GPost C Q) lo σ0 ids' (sg ((t, g2) :: l) m2 A df)) : segK C r ops (GPost C Q) lo σ0 ids (sg l m A df) :=
  segK.step (pi := ps.map (·.1)) hn ho (eff_call2 rfl ((gwant_at rfl hj hx).trans (by rw [hb])) hg hent ha hcv hc (pairs_mk n1 n2 n3 hp1 hp2) hdis spec (pairsB_mk hk hs) (fun t' e => by cases e; exact ht)) (by rw [hps]) (by rw [hids, hgr, hps]; show segK C r ops (GPost C Q) lo σ0 ids' (⟨upd (mkFr l) t g2, putsH (mkHp m) ps, A, df⟩ : Sg E); rw [putsH_mk, hm2]; exact k)
end
section
variable {f : FuncId} {gs : List G}
theorem dst {n : Nat} (h : segK C r ops (GPost C Q) n (sg l m A df : Sg E) [] (sg l m A df)) : gany C r ops (GPost C Q) n (sg l m A df) := segK.start h
theorem op0 (L : List (Nat × Nat)) (J : List Nat) (ks : List Nat) (ad : Option (Nat × Ob)) {cc : Call} {gargs : List G} {mc mr m2 ps : List (Nat × Ob)} {v : P} (spec : Gh.Spec E f gargs (mkHp mc) A fun y => y = .panic v (mkHp mr) A) (hent : Enters Try.prog f) (hg : gcallee Try.prog (mkFr l) cc = some (f, gs) := by exact eA4.h {})
    (ha : AdoptOk C.lim (mkHp m) L ad := by (first | exact True.intro | (refine ⟨by (simp only [mkHp_cons, mkHp_nil, Nat.reduceEqDiff, reduceIte]), by omega, ⟨_, _, _, rfl⟩, by simp⟩))) (hcv : cvtsM (rhp (mkHp m) J) (ad.map (·.1)) ks gs = some (c, G.rens (Gh.look L) gargs) := by exact eA8.h {}) (hc : c := by simp)
    (n1 : (L.map (·.1)).Nodup := by decide) (n2 : (L.map (·.2)).Nodup := by decide) (n3 : (mc.map (·.1)).Nodup := by simp) (hp1 : pairsP L (adoptH (mkHp m) ad) mc := by (simp only [pairsP, adoptH, Gh.look, Ob.ren, G.rens, G.ren, rens_p, upd, mkHp_cons, mkHp_nil, Nat.reduceEqDiff, reduceIte] <;> simp)) (hp2 : newP C.lim (adoptH (mkHp m) ad) mc L := by (simp [newP, adoptH, upd, mkHp_cons, mkHp_nil] <;> omega))
    (hdis : ∀ d ob, ad = some (d, ob) → d ∉ J := by (intro d ob e; simp at e <;> simp [← e.1])) (hk : keysP L mr := by simp [keysP, Gh.look]) (hs : stayP mr mc := by simp [stayP, mkHp_cons, mkHp_nil]) (ht : t < C.N := by omega) (hps : putsOf L (mkHp mr) = ps := by (simp only [putsOf, List.map_cons, List.map_nil, mkHp_cons, mkHp_nil, Nat.reduceEqDiff, reduceIte, Ob.ren, G.ren, G.rens, rens_p, Gh.look] <;> rfl))
    (hm2 : ps.reverse ++ m = m2 := by (simp only [List.reverse_cons, List.reverse_nil, List.nil_append, List.cons_append] <;> rfl)) (k : Q (.panic v) (sg l m2 A df)) : gops C r ops Q (⟨some t, .call cc, ty, pos, af, none⟩ :: rest) (sg l m A df) :=
  go_callp spec hent (gwant_plain rfl) hg ha hcv hc (pairs_mk n1 n2 n3 hp1 hp2) hdis (pairsB_mk hk hs) ht (by rw [hps]; show Q (.panic v) (⟨mkFr l, putsH (mkHp m) ps, A, df⟩ : Sg E); rw [putsH_mk, hm2]; exact k)
end
theorem fh (I : List Nat) {fn : Func} {R : GRes E → Prop} {d : Prop} {m' : List (Nat × Ob)} {x1 : ResultVar} (hrs : fn.results.toList = [x1] := by rfl) (hg : gresult Try.prog (mkHp m) (mkFr l) [x1] = some (d, g) := by exact eA10.h {}) (hd : d := by simp)
    (hm : restrictL I m = m' := by exact eA3.h {}) (h1 : subB g.idl I = true := by exact eA3.h {}) (h3 : subB (hpIds m I) I = true := by exact eA3.h {}) (hne : ∀ i ∈ I, mkHp m i ≠ .none := by simp [mkHp_cons, mkHp_nil]) (hR : R (.ok g (mkHp m') A)) : Fin Try.prog fn R (sg l m A []) :=
  fin_h (by rw [hrs]; exact hg) hd hm h1 h3 hne hR
theorem fh2 (I : List Nat) {fn : Func} {R : GRes E → Prop} {d : Prop} {m' : List (Nat × Ob)} {x1 x2 : ResultVar} (hrs : fn.results.toList = [x1, x2] := by rfl) (hg : gresult Try.prog (mkHp m) (mkFr l) [x1, x2] = some (d, g) := by exact eA10.h {}) (hd : d := by simp)
    (hm : restrictL I m = m' := by exact eA3.h {}) (h1 : subB g.idl I = true := by exact eA3.h {}) (h3 : subB (hpIds m I) I = true := by exact eA3.h {}) (hne : ∀ i ∈ I, mkHp m i ≠ .none := by simp [mkHp_cons, mkHp_nil]) (hR : R (.ok g (mkHp m') A)) : Fin Try.prog fn R (sg l m A []) :=
  fin_h (by rw [hrs]; exact hg) hd hm h1 h3 hne hR
theorem fh0 (I : List Nat) {fn : Func} {R : GRes E → Prop} {d : Prop} {m' : List (Nat × Ob)}  (hrs : fn.results.toList = [] := by rfl) (hg : gresult Try.prog (mkHp m) (mkFr l) [] = some (d, g) := by exact eA10.h {}) (hd : d := by simp)
    (hm : restrictL I m = m' := by exact eA3.h {}) (h1 : subB g.idl I = true := by exact eA3.h {}) (h3 : subB (hpIds m I) I = true := by exact eA3.h {}) (hne : ∀ i ∈ I, mkHp m i ≠ .none := by simp [mkHp_cons, mkHp_nil]) (hR : R (.ok g (mkHp m') A)) : Fin Try.prog fn R (sg l m A []) :=
  fin_h (by rw [hrs]; exact hg) hd hm h1 h3 hne hR
/-! The end -/
theorem fp {fn : Func} {R : GRes E → Prop} {d d' : Prop} {v : P} {x1 : ResultVar} (hrs : fn.results.toList = [x1] := by rfl) (hg : gresult Try.prog (mkHp m) (mkFr l) [x1] = some (d, g) := by exact eA10.h {})
    (hp : toP (mkHp m) g = some (d', v) := by (simp only [toP, toPs, mkHp_cons, mkHp_nil, Nat.reduceEqDiff, reduceIte, and_true, true_and] <;> rfl)) (hR : R (.ok (.p v) (mkHp []) A)) (hd : d := by simp) (hd' : d' := by simp) : Fin Try.prog fn R (sg l m A []) := fin_p (by rw [hrs]; exact hg) hd hp hd' hR
theorem fp2 {fn : Func} {R : GRes E → Prop} {d d' : Prop} {v : P} {x1 x2 : ResultVar} (hrs : fn.results.toList = [x1, x2] := by rfl) (hg : gresult Try.prog (mkHp m) (mkFr l) [x1, x2] = some (d, g) := by exact eA10.h {})
    (hp : toP (mkHp m) g = some (d', v) := by (simp only [toP, toPs, mkHp_cons, mkHp_nil, Nat.reduceEqDiff, reduceIte, and_true, true_and] <;> rfl)) (hR : R (.ok (.p v) (mkHp []) A)) (hd : d := by simp) (hd' : d' := by simp) : Fin Try.prog fn R (sg l m A []) := fin_p (by rw [hrs]; exact hg) hd hp hd' hR
theorem fp0 {fn : Func} {R : GRes E → Prop} {d d' : Prop} {v : P}  (hrs : fn.results.toList = [] := by rfl) (hg : gresult Try.prog (mkHp m) (mkFr l) [] = some (d, g) := by exact eA10.h {})
    (hp : toP (mkHp m) g = some (d', v) := by (simp only [toP, toPs, mkHp_cons, mkHp_nil, Nat.reduceEqDiff, reduceIte, and_true, true_and] <;> rfl)) (hR : R (.ok (.p v) (mkHp []) A)) (hd : d := by simp) (hd' : d' := by simp) : Fin Try.prog fn R (sg l m A []) := fin_p (by rw [hrs]; exact hg) hd hp hd' hR
theorem lend (vs : List Nat) {m' : List (Nat × Ob)} {n n' : Nat} {IV : Nat → Sg E → Prop} {I : List Nat} (hl : (vs.map fun v => (v, mkFr l v)) = l' := by (simp only [List.map_cons, List.map_nil, mkFr_cons, mkFr_nil, Nat.reduceEqDiff, reduceIte] <;> rfl)) (hI : reach l' m df = I := by exact eA2.h {}) (hm : restrictL I m = m' := by exact eA3.h {})
    (h1 : subB (frIds l') I = true := by exact eA3.h {}) (h2 : subB (dfIds df) I = true := by exact eA3.h {}) (h3 : subB (hpIds m I) I = true := by exact eA3.h {}) (h : n' < n) (hV : IV n' (sg l' m' A df)) :
    gthen (fun σ' => ∃ n' σ'', n' < n ∧ Le C σ' σ'' ∧ IV n' σ'') Q .normal (sg l m A df : Sg E) := ⟨n', _, h, le_clean2 vs hl hm h1 h2 h3, hV⟩
theorem lbeg (vs : List Nat) {m' : List (Nat × Ob)} {IV : Nat → Sg E → Prop} {I : List Nat} (hl : (vs.map fun v => (v, mkFr l v)) = l' := by (simp only [List.map_cons, List.map_nil, mkFr_cons, mkFr_nil, Nat.reduceEqDiff, reduceIte] <;> rfl)) (hI : reach l' m df = I := by exact eA2.h {}) (hm : restrictL I m = m' := by exact eA3.h {})
    (h1 : subB (frIds l') I = true := by exact eA3.h {}) (h2 : subB (dfIds df) I = true := by exact eA3.h {}) (h3 : subB (hpIds m I) I = true := by exact eA3.h {}) (hV : ∃ n, IV n (sg l' m' A df)) :
    ∃ n σ'', Le C (sg l m A df : Sg E) σ'' ∧ IV n σ'' := by
  obtain ⟨n, hV⟩ := hV
  exact ⟨n, _, le_clean2 vs hl hm h1 h2 h3, hV⟩
/-! Freezing, reading otherwise -/
theorem fz (id n : Nat) (ss : List Sp) {cs cs1 cs2 : List G} {fz : Nat} (ho : mkHp m id = .cells cs fz := by (simp only [mkHp_cons, mkHp_nil, Nat.reduceEqDiff, reduceIte] <;> rfl)) (hcv : cvSs (mkHp m) ss (cs.take n) = some (c, cs1) := by exact eA11.h {}) (he : cs1 ++ cs.drop n = cs2 := by exact eA11.h {}) (hn : fz ≤ n := by omega) (hn2 : n ≤ cs.length := by simp)
    (hc : c := by simp [allOne, G.one, P.one]) (h1 : allOne cs1 = true := by simp [allOne, G.one, P.one]) (k : gwp C r cd Q (sg l ((id, .cells cs2 n) :: m) A df)) : gwp C r cd Q (sg l m A df) := gc_freeze id n ss ho hcv he hn hn2 hc h1 k
theorem cv (t : Nat) (s : Sp) (hcv : cvS (mkHp m) s (mkFr l t) = some (c, g) := by exact eA11.h {}) (hc : c := by simp [allOne, G.one, P.one]) (k : gwp C r cd Q (sg ((t, g) :: l) m A df)) : gwp C r cd Q (sg l m A df) := gc_conv t s hcv hc k
theorem ocv (t : Nat) (s : Sp) (hcv : cvS (mkHp m) s (mkFr l t) = some (c, g) := by exact eA11.h {}) (hc : c := by simp [allOne, G.one, P.one]) (k : gops C r ops Q lst (sg ((t, g) :: l) m A df)) : gops C r ops Q lst (sg l m A df) := go_conv t s hcv hc k
/-! Deferred calls, yields -/
theorem df0 {cl : Call} {d : GD} (hd : gdefer (mkFr l) cl = some d := by exact eA12.h {}) (k : gops C none ops Q rest (sg l m A (d :: df))) : gops C none ops Q (⟨none, .defer cl, ty, pos, af, none⟩ :: rest) (sg l m A df) := go_defer hd k
theorem y0 {cl : Call} {gs : List G} {xs : List P} {x : Operand} (hx : cl.callee = .value x := by rfl) (hy : gev (mkFr l) x = .abs := by (simp only [gev, mkFr_cons, Nat.reduceEqDiff, reduceIte] <;> rfl)) (hgs : cl.args.toList.map (gev (mkFr l)) = gs := by exact eA9.h {})
    (hJ : G.idls gs = J := by exact eA5.h {}) (hcv : cvts (rhp (mkHp m) J) gs = (c, xs.map .p) := by exact eA6.h {}) (hcan : E.Can A xs) (hc : c := by simp) (ht : t < C.N := by omega)
    (k : ∀ b A', E.Y A xs (.b b) A' → gops C r ops Q rest (sg ((t, .p (.bool b)) :: l) m A' df)) (kp : ∀ p A', E.Y A xs (.p p) A' → Q (.panic p) (sg l m A' df)) : gops C r ops Q (⟨some t, .call cl, ty, pos, af, none⟩ :: rest) (sg l m A df) := go_yield hx hy hgs hcv hc hcan ht k kp
/-! Loops over functions -/
theorem rf {Z : Type} {ps : Array Nat} {o : Operand} {assign body : Code} {f : FuncId} {ga gb aa ab : List G} {ca cb : Prop} (lim d : Nat) (psl : List Nat) (I : Nat → Z → E.α → Prop) (mI : Z → List (Nat × Ob)) (K : GE → Z → E.α → Prop) (mK : GE → Z → List (Nat × Ob)) (ka kb : List Sp)
    {xs : List (List P)} (it : IterSpec Try.prog f (aa ++ (.abs :: ab)) xs) (hent : Enters Try.prog f) (hg : grange (mkFr l) o = some (f, ga, gb) := by exact eA13.h {}) (hca : cvSs (mkHp m) ka ga = some (ca, aa) := by exact eA11.h {}) (hcb : cvSs (mkHp m) kb gb = some (cb, ab) := by exact eA11.h {})
    (hia : imm.imms aa = true := by simp [imm, imm.imms]) (hib : imm.imms ab = true := by simp [imm, imm.imms]) (h1 : ca := by simp [allOne, G.one, P.one]) (h2 : cb := by simp [allOne, G.one, P.one]) (hps : ps.toList = psl := by rfl) (hlim : C.lim ≤ lim := by omega) (hlim2 : lim ≤ 90000 := by omega) (hpn : ∀ p ∈ psl, p < C.N := by (simp <;> omega)) (hlen : ∀ x ∈ xs, x.length = psl.length := by simp) (hd : C.lim ≤ d := by omega)
    (wI : ∀ k z A, I k z A → WfAt l df lim d (mI z) := by (intro k z A hI; first | exact hI.elim | (constructor <;> simp [neAll, frIds, dfIds, gdIdl, G.idl, G.idls, ltAll, mkHp_cons, mkHp_nil]))) (wK : ∀ e z A, K e z A → WfAt l df lim d (mK e z) := by (intro k z A hI; first | exact hI.elim | (constructor <;> simp [neAll, frIds, dfIds, gdIdl, G.idl, G.idls, ltAll, mkHp_cons, mkHp_nil]))) (h0 : ∃ z, I 0 z A ∧ mI z = m)
    (round : ∀ k z A' x, I k z A' → xs[k]? = some x → ∀ (lp : Nat) (bs : List (Nat × Obj)) (C1 : Cx (E.guard bs)), C1.N = C.N → C1.lim = lim →
      gwp C1 (some lp) assign (fun e σ => e = .normal ∧ ∀ (bs : List (Nat × Obj)) (C2 : Cx (E.guard bs)), C2.N = C.N → C2.lim = lim → (∃ r0, (lp, Obj.loop r0) ∈ bs) → gwp C2 (some lp) body (fun e σ => match e with
        | .normal => ∃ σ3 z, Le C2 σ σ3 ∧ σ3.h = mkHp (mI z) ∧ I (k + 1) z σ3.A
        | .panic _ => False
        | e => ∃ σ3 z, Le C2 σ σ3 ∧ σ3.h = mkHp (mK e z) ∧ K e z σ3.A) ⟨σ.fr, σ.h, σ.A, σ.df⟩) ⟨parFr (mkFr l) psl x, mkHp (mI z), A', []⟩)
    (hK : ∀ e z A', K e z A' → Q e (sg l ((d, .mark) :: mK e z) A' (.mark d :: df))) (hI : ∀ z A', I xs.length z A' → Q .normal (sg l ((d, .mark) :: mI z) A' (.mark d :: df))) :
    gwp C none (.rangeFunc o ps assign body) Q (sg l m A df) := gc_range lim d psl xs I mI K mK ka kb it hent hg hca hcb hia hib h1 h2 hps hlim hlim2 hpn hlen hd wI wK h0 round hK hI
/-- Objects that are left, others let go. -/
theorem lc {m' : List (Nat × Ob)} (IL : List Nat) (hm : restrictL IL m = m' := by exact eA3.h {}) (h2 : subB (dfIds df) IL = true := by exact eA3.h {}) (h3 : subB (hpIds m IL) IL = true := by exact eA3.h {}) : Le C (sg l m A df : Sg E) (sg [] m' A df) := le_clean2 [] rfl hm rfl h2 h3
theorem wf1x {args : List G} {id : Nat} (h : G.mens id args = true) (h1 : subB (G.idls args) (m.map (·.1)) = true := by exact eA14.h {}) (h2 : ∀ i ∈ m.map (·.1), mkHp m i ≠ .none := by simp [mkHp_cons, mkHp_nil]) : mkHp m id ≠ .none := wf1_of h1 h2 h
theorem wf2x {j id : Nat} (h : (mkHp m j).men id = true) (h1 : subB (hpIds m (m.map (·.1))) (m.map (·.1)) = true := by exact eA14.h {}) (h2 : ∀ i ∈ m.map (·.1), mkHp m i ≠ .none := by simp [mkHp_cons, mkHp_nil]) : mkHp m id ≠ .none := wf2_of h1 h2 h
theorem fph (I : List Nat) {fn : Func} {R : GRes E → Prop} {v : P} {m' : List (Nat × Ob)} (hm : restrictL I m = m' := by exact eA3.h {}) (h3 : subB (hpIds m I) I = true := by exact eA3.h {}) (hne : ∀ i ∈ I, mkHp m i ≠ .none := by simp [mkHp_cons, mkHp_nil]) (hR : R (.panic v (mkHp m') A)) : FinQ Try.prog fn R (.panic v) (sg l m A []) := fin_panic_h I hm h3 hR hne
/-! Leaving -/
theorem om {fn : Func} {R : GRes E → Prop} {md : Option P} {d : Nat} {ds : List GD} (h1 : mkHp m d = .mark := by (simp only [mkHp_cons, Nat.reduceEqDiff, reduceIte])) (h2 : d ∉ frIds l := by simp [frIds, G.idl, G.idls]) (h3 : d ∉ hpIds m (m.map (·.1)) := by simp [hpIds, obIdl, G.idl, G.idls, mkHp_cons, mkHp_nil]) (h4 : d ∉ dfIds ds := by simp [dfIds, gdIdl, G.idl, G.idls])
    (h : GOut Try.prog fn R ds md (mkFr l) (mkHp ((d, .none) :: m)) A) : GOut Try.prog fn R (.mark d :: ds) md (mkFr l) (mkHp m) A := out_mark h1 h2 h3 h4 h
theorem ocall {fn : Func} {R : GRes E → Prop} {md : Option P} {f : FuncId} {args caps gargs : List G} {ds : List GD} (J : List Nat) (L : List (Nat × Nat)) {mc mr ps m2 : List (Nat × Ob)} (spec : DSpec E f gargs (mkHp mc) A md fun y => y = .ok g (mkHp mr) A) (hent : Enters Try.prog f)
    (hcv : cvts (rhp (mkHp m) J) (args ++ caps) = (c, G.rens (Gh.look L) gargs) := by exact eA15.h {}) (hc : c := by simp) (n1 : (L.map (·.1)).Nodup := by decide) (n2 : (L.map (·.2)).Nodup := by decide) (n3 : (mc.map (·.1)).Nodup := by simp) (hp1 : pairsP L (mkHp m) mc := by (simp only [pairsP, Gh.look, Ob.ren, G.rens, G.ren, rens_p, upd, mkHp_cons, mkHp_nil, Nat.reduceEqDiff, reduceIte] <;> simp)) (hp2 : newP 100 (mkHp m) mc L := by (simp [newP, upd, mkHp_cons, mkHp_nil]))
    (hk : keysP L mr := by simp [keysP, Gh.look]) (hs : stayP mr mc := by simp [stayP, mkHp_cons, mkHp_nil]) (hps : putsOf L (mkHp mr) = ps := by (simp only [putsOf, List.map_cons, List.map_nil, mkHp_cons, mkHp_nil, Nat.reduceEqDiff, reduceIte, Ob.ren, G.ren, G.rens, rens_p, Gh.look] <;> rfl)) (hm : ps.reverse ++ m = m2 := by (simp only [List.reverse_cons, List.reverse_nil, List.nil_append, List.cons_append] <;> rfl))
    (h : GOut Try.prog fn R ds none (mkFr l) (mkHp m2) A) : GOut Try.prog fn R (.call f args caps :: ds) md (mkFr l) (mkHp m) A := out_call spec hent hcv hc (pairs_mk n1 n2 n3 hp1 hp2) (pairsB_mk hk hs) hps hm h
end Go.Proofs.Ytabeeaiilanmjaa

/- Days that are far enough apart: taken one after the other from the first on, they are as many as can be. No program in sight. -/
namespace Go.Proofs.Ytabeeaiilanmjaa
/-- By rising days, each one that is far enough from the one before it is taken: how many, and the last. -/
def takeG (gap : Int) (z : Int × Int) (d : Int) : Int × Int := if z.1 = 0 ∨ gap ≤ d - z.2 then (z.1 + 1, d) else z
def grd (gap : Int) (l : List Int) : Int × Int := l.foldl (takeG gap) (0, 0)
def insI (x : Int) : List Int → List Int
  | [] => [x]
  | y :: l => if x ≤ y then x :: y :: l else y :: insI x l
def sortI : List Int → List Int
  | [] => []
  | x :: l => insI x (sortI l)
theorem insI_perm (x : Int) : ∀ l : List Int, (insI x l).Perm (x :: l)
  | [] => List.Perm.refl _
  | y :: l => by
    simp only [insI]
    split
    · exact List.Perm.refl _
    exact ((insI_perm x l).cons y).trans (List.Perm.swap x y l)
theorem insI_sorted (x : Int) : ∀ l : List Int, l.Pairwise (· ≤ ·) → (insI x l).Pairwise (· ≤ ·)
  | [], _ => List.pairwise_singleton _ _
  | y :: l, h => by
    obtain ⟨h1, h2⟩ := List.pairwise_cons.1 h
    simp only [insI]
    split
    · rename_i hxy
      exact List.pairwise_cons.2 ⟨fun z hz => by
        rcases List.mem_cons.1 hz with rfl | hz
        · exact hxy
        exact Int.le_trans hxy (h1 z hz), h⟩
    rename_i hxy
    refine List.pairwise_cons.2 ⟨fun z hz => ?_, insI_sorted x l h2⟩
    rcases List.mem_cons.1 ((insI_perm x l).subset hz) with rfl | hz
    · omega
    exact h1 z hz
theorem sortI_perm : ∀ l : List Int, (sortI l).Perm l
  | [] => List.Perm.refl _
  | x :: l => (insI_perm x (sortI l)).trans ((sortI_perm l).cons x)
theorem sortI_sorted : ∀ l : List Int, (sortI l).Pairwise (· ≤ ·)
  | [] => List.Pairwise.nil
  | x :: l => insI_sorted x (sortI l) (sortI_sorted l)
theorem sortI_len (l : List Int) : (sortI l).length = l.length := (sortI_perm l).length_eq
theorem sort_unique {l s : List Int} (h1 : s.Perm l) (h2 : s.Pairwise (· ≤ ·)) : s = sortI l :=
  List.Perm.eq_of_pairwise (le := (· ≤ ·)) (fun _ _ _ _ h1 h2 => Int.le_antisymm h1 h2) h2 (sortI_sorted l) (h1.trans (sortI_perm l).symm)
/-- Do days differ by at least so many? -/
def apartI (gap a b : Int) : Bool := decide (gap ≤ a - b) || decide (gap ≤ b - a)
theorem apartI_comm (gap a b : Int) : apartI gap a b = apartI gap b a := Bool.or_comm _ _
/-- How many can be chosen beside some: each one is chosen, or not. -/
def mostR (gap : Int) : List Int → List Int → Nat
  | [], ch => ch.length
  | d :: l, ch => if ch.all (fun c => apartI gap c d) = true then max (mostR gap l ch) (mostR gap l (ch ++ [d])) else mostR gap l ch
abbrev Apt (gap : Int) (l : List Int) : Prop := l.Pairwise fun a b => apartI gap a b = true
theorem most_has (gap : Int) : ∀ (l ch : List Int), Apt gap ch → ∃ t, t.Sublist l ∧ Apt gap (ch ++ t) ∧ mostR gap l ch = ch.length + t.length
  | [], ch, h => ⟨[], List.Sublist.refl _, by simpa using h, rfl⟩
  | d :: l, ch, h => by
    simp only [mostR]
    split
    · rename_i hd
      have h2 : Apt gap (ch ++ [d]) := List.pairwise_append.2 ⟨h, List.pairwise_singleton _ _, fun a ha b hb => by
        rw [List.mem_singleton] at hb; subst hb; exact List.all_eq_true.1 hd a ha⟩
      obtain ⟨t1, a1, a2, a3⟩ := most_has gap l ch h
      obtain ⟨t2, b1, b2, b3⟩ := most_has gap l (ch ++ [d]) h2
      rcases Nat.le_total (mostR gap l ch) (mostR gap l (ch ++ [d])) with g | g
      · exact ⟨d :: t2, b1.cons_cons d, by simpa using b2, by rw [Nat.max_eq_right g, b3]; simp; omega⟩
      exact ⟨t1, a1.cons d, a2, by rw [Nat.max_eq_left g, a3]⟩
    obtain ⟨t1, a1, a2, a3⟩ := most_has gap l ch h
    exact ⟨t1, a1.cons d, a2, a3⟩
theorem most_max (gap : Int) : ∀ (l ch t : List Int), t.Sublist l → Apt gap (ch ++ t) → ch.length + t.length ≤ mostR gap l ch
  | [], ch, t, h, _ => by
    have := List.sublist_nil.1 h
    subst this; simp [mostR]
  | d :: l, ch, t, h, ha => by
    simp only [mostR]
    rcases List.sublist_cons_iff.1 h with h2 | ⟨r, rfl, h2⟩
    · have h1 := most_max gap l ch t h2 ha
      split <;> omega
    have hd : ch.all (fun c => apartI gap c d) = true := List.all_eq_true.2 fun a hx => (List.pairwise_append.1 ha).2.2 a hx d List.mem_cons_self
    rw [if_pos hd]
    have h1 := most_max gap l (ch ++ [d]) r h2 (by simpa using ha)
    simp only [List.length_append, List.length_cons, List.length_nil] at h1 ⊢
    omega
/-- How many are taken behind one that was taken last. -/
def grL (gap : Int) : Int → List Int → Nat
  | _, [] => 0
  | x, d :: l => if gap ≤ d - x then grL gap d l + 1 else grL gap x l
theorem grd_from (gap : Int) : ∀ (l : List Int) (n : Nat) (x : Int), 0 < n → (l.foldl (takeG gap) ((n : Int), x)).1 = ((n + grL gap x l : Nat) : Int)
  | [], n, x, _ => rfl
  | d :: l, n, x, hn => by
    rw [List.foldl_cons, takeG]
    simp only [grL]
    by_cases h : gap ≤ d - x
    · rw [if_pos (.inr h), if_pos h]
      have := grd_from gap l (n + 1) d (by omega)
      rw [show ((n : Int) + 1, d) = (((n + 1 : Nat) : Int), d) from rfl, this]
      congr 1; omega
    rw [if_neg (show ¬((n : Int) = 0 ∨ gap ≤ d - x) by omega), if_neg h]
    exact grd_from gap l n x hn
theorem grd_cons (gap d : Int) (l : List Int) : (grd gap (d :: l)).1 = ((1 + grL gap d l : Nat) : Int) := by
  have := grd_from gap l 1 d (by omega)
  rw [grd, List.foldl_cons, takeG, if_pos (.inl rfl)]
  exact this
/-- Days behind one another, each far enough from the one before. -/
def Far (gap : Int) : Int → List Int → Prop
  | _, [] => True
  | x, d :: l => gap ≤ d - x ∧ Far gap d l
theorem grL_has {gap : Int} : ∀ (l : List Int) (x : Int), ∃ t, t.Sublist l ∧ Far gap x t ∧ t.length = grL gap x l
  | [], _ => ⟨[], List.Sublist.refl _, trivial, rfl⟩
  | d :: l, x => by
    simp only [grL]
    split
    · rename_i h
      obtain ⟨t, h1, h2, h3⟩ := grL_has (gap := gap) l d
      exact ⟨d :: t, h1.cons_cons d, ⟨h, h2⟩, by simp [h3]⟩
    obtain ⟨t, h1, h2, h3⟩ := grL_has (gap := gap) l x
    exact ⟨t, h1.cons d, h2, h3⟩
theorem grL_max {gap : Int} (hg : 0 ≤ gap) : ∀ (l : List Int) (x y : Int) (t : List Int), l.Pairwise (· ≤ ·) → t.Sublist l → x ≤ y → Far gap y t → t.length ≤ grL gap x l
  | [], _, _, t, _, h, _, _ => by rw [List.sublist_nil.1 h]; simp [grL]
  | d :: l, x, y, t, hs, h, hxy, hf => by
    obtain ⟨hd, hl⟩ := List.pairwise_cons.1 hs
    simp only [grL]
    split
    · rename_i hdx
      match t, h, hf with
      | [], _, _ => simp
      | u :: t, h, hf =>
        have hu : d ≤ u := by
          rcases List.mem_cons.1 (h.subset List.mem_cons_self) with e | e
          · omega
          exact hd u e
        have ht : t.Sublist l := by
          rcases List.sublist_cons_iff.1 h with h | ⟨r, e, h⟩
          · exact (List.sublist_cons_self u t).trans h
          cases e; exact h
        have := grL_max hg l d u t hl ht hu hf.2
        simp only [List.length_cons]; omega
    rename_i hdx
    rcases List.sublist_cons_iff.1 h with h | ⟨r, rfl, h⟩
    · exact grL_max hg l x y t hl h hxy hf
    have := hf.1; omega
theorem far_apt {gap : Int} : ∀ (l : List Int) (x : Int), 0 ≤ gap → Far gap x l → (∀ y ∈ l, gap ≤ y - x) ∧ Apt gap l
  | [], _, _, _ => ⟨fun _ h => (by cases h), List.Pairwise.nil⟩
  | d :: l, x, hg, h => by
    obtain ⟨h1, h2⟩ := far_apt l d hg h.2
    have h0 := h.1
    refine ⟨fun y hy => ?_, List.pairwise_cons.2 ⟨fun y hy => ?_, h2⟩⟩
    · rcases List.mem_cons.1 hy with rfl | hy
      · exact h0
      have := h1 y hy; omega
    have := h1 y hy
    simp only [apartI]
    rw [decide_eq_true this, Bool.or_true]
theorem apt_far {gap : Int} (hg : 0 ≤ gap) : ∀ (l : List Int), l.Pairwise (· ≤ ·) → Apt gap l → ∀ d t, l = d :: t → Far gap d t
  | [], _, _, _, _, e => by cases e
  | x :: l, hs, ha, d, t, e => by
    cases e
    obtain ⟨s1, s2⟩ := List.pairwise_cons.1 hs
    obtain ⟨a1, a2⟩ := List.pairwise_cons.1 ha
    match l, s1, s2, a1, a2 with
    | [], _, _, _, _ => trivial
    | y :: l, s1, s2, a1, a2 =>
      refine ⟨?_, apt_far hg (y :: l) s2 a2 y l rfl⟩
      have h1 := s1 y List.mem_cons_self
      have h2 := a1 y List.mem_cons_self
      simp only [apartI, Bool.or_eq_true, decide_eq_true_eq] at h2
      omega
/-- Sorted days, from the first on, are as many as can be chosen. -/
theorem grd_most {gap : Int} (hg : 0 ≤ gap) (l : List Int) : (grd gap (sortI l)).1 = (mostR gap l [] : Nat) := by
  have hp := sortI_perm l
  have hs := sortI_sorted l
  have hsym : ∀ {x y : Int}, apartI gap x y = true → apartI gap y x = true := fun h => by rw [apartI_comm]; exact h
  obtain ⟨t, a1, a2, a3⟩ := most_has gap l [] List.Pairwise.nil
  obtain ⟨u, b1, b2⟩ := List.exists_perm_sublist a1 hp.symm
  have hua : Apt gap u := (b1.pairwise_iff hsym).2 (by simpa using a2)
  have hus : u.Pairwise (· ≤ ·) := hs.sublist b2
  have hul := b1.length_eq
  simp only [List.length_nil, Nat.zero_add] at a3
  cases hsl : sortI l with
  | nil =>
    rw [hsl] at b2
    have := List.sublist_nil.1 b2
    subst this
    simp only [List.length_nil] at hul
    show (0 : Int) = _
    omega
  | cons d s =>
    rw [hsl] at b2 hs hp
    rw [grd_cons]
    obtain ⟨hd, hs2⟩ := List.pairwise_cons.1 hs
    -- no more can be chosen than are taken
    have le1 : u.length ≤ 1 + grL gap d s := by
      match u, b2, hus, hua with
      | [], _, _, _ => simp
      | x :: u, b2, hus, hua =>
        have hx : d ≤ x := by
          rcases List.mem_cons.1 (b2.subset List.mem_cons_self) with e | e
          · omega
          exact hd x e
        have hu2 : u.Sublist s := by
          rcases List.sublist_cons_iff.1 b2 with h | ⟨r, e, h⟩
          · exact (List.sublist_cons_self x u).trans h
          cases e; exact h
        have := grL_max hg s d x u hs2 hu2 hx (apt_far hg _ hus hua x u rfl)
        simp only [List.length_cons]; omega
    -- what is taken can be chosen
    obtain ⟨v, c1, c2, c3⟩ := grL_has (gap := gap) s d
    have hv : Apt gap (d :: v) := by
      obtain ⟨e1, e2⟩ := far_apt v d hg c2
      exact List.pairwise_cons.2 ⟨fun y hy => by have := e1 y hy; simp only [apartI]; rw [decide_eq_true this, Bool.or_true], e2⟩
    obtain ⟨w, d1, d2⟩ := List.exists_perm_sublist (c1.cons_cons d) hp
    have hw : Apt gap w := (d1.pairwise_iff hsym).2 hv
    have le2 := most_max gap l [] w d2 (by simpa using hw)
    have hwl := d1.length_eq
    simp only [List.length_nil, List.length_cons] at le2 hwl
    omega
/-! Sorting in place: one is brought down -/
def mvL (s : List Int) (x : Int) (r : List Int) (j : Nat) : List Int := s.take j ++ x :: (s.drop j ++ r)
theorem mvL_len (s : List Int) (x : Int) (r : List Int) {j : Nat} (h : j ≤ s.length) : (mvL s x r j).length = s.length + 1 + r.length := by
  simp only [mvL, List.length_append, List.length_cons, List.length_take, List.length_drop]; omega
theorem mvL_top (s : List Int) (x : Int) (r : List Int) : mvL s x r s.length = s ++ x :: r := by simp [mvL]
theorem mvL_at {s : List Int} {x : Int} {r : List Int} {j : Nat} (h : j ≤ s.length) : (mvL s x r j)[j]? = some x := by
  rw [mvL, List.getElem?_append_right (by rw [List.length_take]; omega), List.length_take, Nat.min_eq_left h, Nat.sub_self]; rfl
theorem mvL_below {s : List Int} {x : Int} {r : List Int} {j k : Nat} (h : j ≤ s.length) (hk : k < j) : (mvL s x r j)[k]? = s[k]? := by
  rw [mvL, List.getElem?_append_left (by rw [List.length_take]; omega), List.getElem?_take_of_lt hk]
theorem mvL_swap {s : List Int} {x y : Int} {r : List Int} {j : Nat} (h : j + 1 ≤ s.length) (hy : s[j]? = some y) : ((mvL s x r (j + 1)).set (j + 1) y).set j x = mvL s x r j := by
  have hj : s.drop j = y :: s.drop (j + 1) := by
    obtain ⟨h1, h2⟩ := List.getElem?_eq_some_iff.1 hy
    rw [List.drop_eq_getElem_cons h1, h2]
  have ht : s.take (j + 1) = s.take j ++ [y] := by rw [List.take_add_one, hy]; rfl
  have hl : (s.take j).length = j := by rw [List.length_take]; omega
  rw [mvL, mvL, hj, ht]
  simp only [List.append_assoc, List.cons_append, List.nil_append]
  rw [List.set_append_right _ _ (by omega), hl, show j + 1 - j = 1 by omega]
  rw [List.set_append_right _ _ (by omega), hl, Nat.sub_self]
  rfl
theorem mvL_perm (s : List Int) (x : Int) (r : List Int) (j : Nat) : (mvL s x r j).Perm (s ++ x :: r) := by
  rw [mvL]
  refine List.perm_middle.trans ?_
  rw [← List.append_assoc, List.take_append_drop]
  exact List.perm_middle.symm
theorem mvL_take {s : List Int} {x : Int} {r : List Int} {j : Nat} (h : j ≤ s.length) : (mvL s x r j).take (s.length + 1) = s.take j ++ x :: s.drop j := by
  have e : mvL s x r j = (s.take j ++ x :: s.drop j) ++ r := by simp [mvL]
  rw [e, List.take_left' (by simp; omega)]
theorem mvL_sorted {s : List Int} {x : Int} {r : List Int} {j : Nat} (h : j ≤ s.length) (hs : s.Pairwise (· ≤ ·)) (h1 : ∀ y ∈ s.drop j, x < y) (h2 : j = 0 ∨ ∃ y, s[j - 1]? = some y ∧ y ≤ x) : ((mvL s x r j).take (s.length + 1)).Pairwise (· ≤ ·) := by
  rw [mvL_take h]
  have hs2 := hs
  rw [← List.take_append_drop j s] at hs2
  obtain ⟨a1, a2, a3⟩ := List.pairwise_append.1 hs2
  refine List.pairwise_append.2 ⟨a1, List.pairwise_cons.2 ⟨fun y hy => by have := h1 y hy; omega, a2⟩, fun a ha b hb => ?_⟩
  have hax : a ≤ x := by
    rcases h2 with rfl | ⟨y, hy, hyx⟩
    · simp at ha
    obtain ⟨i, hi, e⟩ := List.getElem_of_mem ha
    rw [List.length_take] at hi
    have h3 := List.pairwise_iff_getElem.1 hs
    obtain ⟨g1, g2⟩ := List.getElem?_eq_some_iff.1 hy
    have e2 : s[i]'(by omega) = a := by rw [← e, List.getElem_take]
    by_cases hij : i = j - 1
    · subst hij; rw [g2] at e2; omega
    have := h3 i (j - 1) (by omega) g1 (by omega); omega
  rcases List.mem_cons.1 hb with rfl | hb
  · exact hax
  have := h1 b hb; omega
theorem drop_mem {s : List Int} {x y : Int} {j : Nat} (h : ∀ z ∈ s.drop (j + 1), x < z) (hy : s[j]? = some y) (hxy : x < y) : ∀ z ∈ s.drop j, x < z := fun z hz => by
  obtain ⟨h1, h2⟩ := List.getElem?_eq_some_iff.1 hy
  rw [List.drop_eq_getElem_cons h1, h2] at hz
  rcases List.mem_cons.1 hz with rfl | hz
  · exact hxy
  exact h z hz
end Go.Proofs.Ytabeeaiilanmjaa

/- Fields, as plain data; what is said of them. -/
namespace Go.Proofs.Ytabeeaiilanmjaa
open Go.Gh

structure Sk where
  el : Int
  eh : Int
  nl : Int
  nh : Int
  day : Int
  dep : Int
structure Fd where
  ps : List Sk
  el : Int
  eh : Int
  nl : Int
  nh : Int
  dl : Int
  dh : Int
  dep : Int
  tm : Int
  gp : Int
def pS (p : Sk) : P := .agg [.int .i64 p.el, .int .i64 p.eh, .int .i64 p.nl, .int .i64 p.nh, .int .i64 p.day, .int .i64 p.dep]
def inB (x lo hi : Int) : Bool := decide (lo ≤ x) && decide (x ≤ hi)
def spB (lo hi m : Int) : Bool := (decide (0 ≤ lo) && decide (lo ≤ hi)) && decide (hi ≤ m)
def badS (p : Sk) : Bool := ((!spB p.el p.eh 32 || !spB p.nl p.nh 32) || !inB p.day 0 65536) || !inB p.dep 0 100
def Fd.head (f : Fd) : Bool := (spB f.el f.eh 32 && spB f.nl f.nh 32) && spB f.dl f.dh 65536
def Fd.nums (f : Fd) : Bool := (inB f.dep 0 100 && inB f.tm 1 4) && inB f.gp 0 65536
def Fd.valid (f : Fd) : Bool := ((f.head && f.nums) && decide ((f.ps.length : Int) ≤ 12)) && !f.ps.any badS
/-- Is a plate of use? Has it a place? -/
def useQ (f : Fd) (p : Sk) : Bool := (inB p.day f.dl f.dh && decide (f.dep ≤ p.dep)) && (decide (max f.el p.el ≤ min f.eh p.eh) && decide (max f.nl p.nl ≤ min f.nh p.nh))
def hasQ (p : Sk) (x y : Int) : Bool := inB x p.el p.eh && inB y p.nl p.nh
def plQ (q : Sk → Bool) (ps : List Sk) (i : Nat) : Bool := match ps[i]? with | some p => q p | none => false
def usedN (f : Fd) (k : Nat) : Nat := setN (plQ (useQ f) f.ps) k
def atK (f : Fd) (x y : Int) (k : Nat) : Nat := setN (plQ (fun p => useQ f p && hasQ p x y) f.ps) k
def atN (f : Fd) (x y : Int) : Nat := atK f x y f.ps.length
/-- The days of the plates of a set. -/
def daysN (ps : List Sk) (s : Nat) : Nat → List Int
  | 0 => []
  | k + 1 => match ps[k]? with
    | some p => if s.testBit k = true then daysN ps s k ++ [p.day] else daysN ps s k
    | none => daysN ps s k
def servQ (f : Fd) (s : Nat) : Bool := decide (f.tm ≤ (grd f.gp (sortI (daysN f.ps s f.ps.length))).1)
/-- All places, in order. -/
def wid (f : Fd) : Nat := (f.eh - f.el + 1).toNat
def hgt (f : Fd) : Nat := (f.nh - f.nl + 1).toNat
def rowL (f : Fd) (x : Int) : Nat → List (Int × Int)
  | 0 => []
  | k + 1 => rowL f x k ++ [(x, f.nl + k)]
def plcL (f : Fd) : Nat → List (Int × Int)
  | 0 => []
  | k + 1 => plcL f k ++ rowL f (f.el + k) (hgt f)
def plsL (f : Fd) : List (Int × Int) := plcL f (wid f)
def listQ (f : Fd) (s : Nat) : Bool := (plsL f).all fun p => servQ f (atN f p.1 p.2 &&& s)
/-- Where the first one of which something is so stands; -1: nowhere. -/
def idxP {α : Type} (q : α → Bool) : List α → Nat → Int
  | [], _ => -1
  | z :: zs, k => if q z then k else idxP q zs (k + 1)
theorem idxP_at {α : Type} {q : α → Bool} {l : List α} {k : Nat} {x : α} (h : l[k]? = some x) : idxP q (l.drop k) k = if q x then (k : Int) else idxP q (l.drop (k + 1)) (k + 1) := by
  obtain ⟨hk, e⟩ := List.getElem?_eq_some_iff.1 h
  rw [List.drop_eq_getElem_cons hk, e]; rfl
theorem idxP_iff {α : Type} (q : α → Bool) : ∀ (l : List α) (k : Nat), 0 ≤ idxP q l k ↔ l.any q = true
  | [], k => by simp [idxP]
  | z :: zs, k => by
    simp only [idxP, List.any_cons]
    by_cases h : q z = true
    · rw [if_pos h, h]; simp
    rw [if_neg h, idxP_iff q zs (k + 1), show q z = false by simpa using h, Bool.false_or]
theorem idxP_sign {α : Type} (q : α → Bool) (l : List α) (k : Nat) : decide (0 ≤ idxP q l k) = l.any q := by
  by_cases h : 0 ≤ idxP q l k
  · rw [decide_eq_true h, (idxP_iff q l k).1 h]
  rw [decide_eq_false h]
  cases e : l.any q with
  | false => rfl
  | true => exact absurd ((idxP_iff q l k).2 e) h
theorem getE {α : Type} {l : List α} {k : Nat} (h : (k : Int) < l.length) : ∃ x, l[k]? = some x := ⟨l[k]'(by omega), List.getElem?_eq_getElem _⟩
theorem valid_num {f : Fd} (h : f.valid = true) : (0 ≤ f.el ∧ f.el ≤ f.eh ∧ f.eh ≤ 32) ∧ (0 ≤ f.nl ∧ f.nl ≤ f.nh ∧ f.nh ≤ 32) ∧ (0 ≤ f.dl ∧ f.dl ≤ f.dh ∧ f.dh ≤ 65536) ∧ (0 ≤ f.dep ∧ f.dep ≤ 100) ∧ (1 ≤ f.tm ∧ f.tm ≤ 4) ∧ (0 ≤ f.gp ∧ f.gp ≤ 65536) ∧ f.ps.length ≤ 12 := by
  simp only [Fd.valid, Fd.head, Fd.nums, spB, inB, Bool.and_eq_true, decide_eq_true_eq] at h
  omega
theorem valid_ps {f : Fd} (h : f.valid = true) {p : Sk} (hp : p ∈ f.ps) : (0 ≤ p.el ∧ p.el ≤ p.eh ∧ p.eh ≤ 32) ∧ (0 ≤ p.nl ∧ p.nl ≤ p.nh ∧ p.nh ≤ 32) ∧ (0 ≤ p.day ∧ p.day ≤ 65536) ∧ (0 ≤ p.dep ∧ p.dep ≤ 100) := by
  simp only [Fd.valid, Bool.and_eq_true, Bool.not_eq_true', List.any_eq_false] at h
  have := h.2 p hp
  simp only [badS, spB, inB, Bool.or_eq_true, Bool.not_eq_true', Bool.and_eq_false_iff, decide_eq_false_iff_not, Bool.not_eq_true, Bool.or_eq_false_iff, Bool.not_eq_false', Bool.and_eq_true, decide_eq_true_eq] at this
  omega
end Go.Proofs.Ytabeeaiilanmjaa

/- More rules of written-out states. -/
namespace Go.Proofs.Ytabeeaiilanmjaa
open Go.Gh
set_option maxRecDepth 100000
structure eC1 {α : Type} (a b : α) : Prop where
  h : a = b := by (simp only [rhp, List.mem_cons, List.not_mem_nil, gsem, gev, ofV, mkFr_cons, mkFr_nil, mkHp_cons, mkHp_nil, upd, yes, lift, gbinAt, gnilEq, gbin, gint, gshift, arith, gpick, gload, gstore, splice, gbox, gfill, placesL, gbuildSlice, gfieldAddr, gfield, gelem, gindexAddr, gindex, gbound, gslice, glen, gsource, gappend, gmin, gminL, gmax, gmaxL, mapGet, mapPut, zeroG, orZero, glookup, gmapUpdate, gmapEntry, gentryStore, Option.getD_none, Option.getD_some, gconvert, gtypeAssert, gextract, isConst, gnilCheck, gunOp, gmakeSlice, intOf, mkAgg, mkFn, mkIface, mkTuple, allP, G.cells, good, goods, allOne, G.one, P.one, allP_p, allOne_p, goods_p, toPs_p, all_int, take_all, isAggD, isIfaceD, toP, toPs, P.size, P.cells, List.map_cons, List.map_nil, List.take_succ_cons, List.take_zero, List.drop_succ_cons, List.drop_zero, List.take_nil, List.drop_nil, List.cons_append, List.nil_append, List.append_nil, List.length_cons, List.length_nil, List.getElem?_cons_zero, List.getElem?_cons_succ, List.getElem?_nil, List.set_cons_zero, List.set_cons_succ, List.flatMap_cons, List.flatMap_nil, List.getElem?_toArray, List.getElem?_map, List.length_map, Option.map_some, Option.map_none, Nat.mul_one, List.length_set, set_map_p, set_map_int, Nat.reduceEqDiff, Nat.reduceAdd, Nat.reduceMul, Nat.reduceSub, Nat.reduceLeDiff, Nat.add_zero, Nat.zero_add, Int.toNat_natCast, Int.reduceToNat, reduceIte, reduceCtorEq, eq_self, if_true, if_false, and_true, true_and, true_or, or_true, or_false, false_or, Bool.false_eq_true, ne_eq, not_true_eq_false, not_false_eq_true, cond_true, cond_false, Bool.and_true, Bool.true_and, Bool.and_false, Bool.false_and, Bool.or_true, Bool.true_or, Bool.or_false, Bool.false_or, Bool.not_true, Bool.not_false, ti_3, ti_4, ti_5, ti_9, ti_20, ti_22, ti_24, ti_26, ti_29, ti_37, ti_42, ti_44, ti_45, ti_48, ti_50, ti_51, ti_52, ti_55, ti_60, ti_61, ti_62, ti_63, ti_65, ti_66, ti_71, ti_73, ti_74, ti_75, ti_78, ti_79, ti_83, ti_85, ti_86, ti_90, ti_100, ti_102, ti_103, ti_105, ti_106, ti_108, ti_111, ti_114, ti_115, ti_117, ti_120, ti_125, ti_127, ti_130, ti_136, ti_140, ti_142, *] <;> rfl)
structure eC2 {α : Type} (a b : α) : Prop where
  h : a = b := by (simp only [ti_3, ti_4, ti_5, ti_9, ti_20, ti_22, ti_24, ti_26, ti_29, ti_37, ti_42, ti_44, ti_45, ti_48, ti_50, ti_51, ti_52, ti_55, ti_60, ti_61, ti_62, ti_63, ti_65, ti_66, ti_71, ti_73, ti_74, ti_75, ti_78, ti_79, ti_83, ti_85, ti_86, ti_90, ti_100, ti_102, ti_103, ti_105, ti_106, ti_108, ti_111, ti_114, ti_115, ti_117, ti_120, ti_125, ti_127, ti_130, ti_136, ti_140, ti_142] <;> rfl)
variable {E : Env Try.prog} {C : Cx E} {r : Option Nat} {ops : Array Oper} {Q : GE → Sg E → Prop} {rest lst : List Oper} {l l' : List (Nat × G)} {m : List (Nat × Ob)} {A : E.α} {df : List GD}
variable {t : Nat} {op : Op} {ty : TypeId} {pos : String} {af : Array Edge} {c : Prop} {g : G} {ob : Ob} {i j : Nat} {gd : Option (Nat × Bool)} {b x : Bool} {cd : Code} {J : List Nat}
/-- A nil slice in a cell as an object of no elements. -/
theorem ad (id off d : Nat) (e : TypeId) (sz : Nat) (fl : Bool) {cs cs2 : List G} {fz : Nat} (ho : mkHp m id = .cells cs fz := by (simp only [mkHp_cons, mkHp_nil, Nat.reduceEqDiff, reduceIte] <;> rfl)) (hc : cs[off]? = some .nils := by rfl) (he : cs.set off (.own d 0) = cs2 := by (simp only [List.set_cons_zero, List.set_cons_succ] <;> rfl)) (hd : mkHp m d = .none := by (simp only [mkHp_cons, mkHp_nil, Nat.reduceEqDiff, reduceIte])) (hd2 : C.lim ≤ d := by omega)
    (k : gwp C r cd Q (sg l ((id, .cells cs2 fz) :: (d, .arr e sz [] fl) :: m) A df)) : gwp C r cd Q (sg l m A df) := gc_adopt id off d e sz fl ho hc he hd hd2 k
/-! An operation that looks at no object -/
section
variable {lo : Nat} {σ0 : Sg E} {ids ids' : List (List Nat × List Nat)}
theorem da0 (n : Nat) (hn : ids.length = n := by rfl) (ho : ops[lo + n]? = some ⟨some t, op, ty, pos, af, none⟩ := by rfl)
    (hg : gsem Try.prog false 99999 (gev (mkFr l)) (rhp (mkHp m) []) op = some (c, ⟨g, none⟩) := by exact eC1.h {}) (hd : mkHp m 99999 = .none := by (simp only [mkHp_cons, mkHp_nil, Nat.reduceEqDiff, reduceIte])) (ht : t < C.N := by omega)
    (hids : ids ++ [([99999], [])] = ids' := by (simp only [List.cons_append, List.nil_append] <;> rfl)) (k : segK C r ops (GPost C Q) lo σ0 ids' (sg ((t, g) :: l) m A df)) (hc : c := by first | exact True.intro | simp) : segK C r ops (GPost C Q) lo σ0 ids (sg l m A df) :=
  segK.step (pi := []) hn ho (eff_v (gwant_plain rfl) hg hc hd (fun t' e => by cases e; exact ht)) rfl (by rw [hids]; exact k)
end
/-- Is a slice nil? -/
theorem nq0 {tt : TypeId} {i : TI} {x z : Operand} {t2 : TypeId} {xs : List P} {e : TypeId} (hi : ti Try.prog tt = some i := by exact eC2.h {}) (hd : i.desc = .slice e := by rfl) (hx : gev (mkFr l) x = .p (.list xs) := by (simp only [gev, mkFr_cons, Nat.reduceEqDiff, reduceIte] <;> rfl)) (hz : z = .const (.slice none 0 0) := by rfl) (ht : t < C.N := by omega)
    (k : ∀ b : Bool, (b = true → xs = []) → gops C r ops Q rest (sg ((t, .p (.bool b)) :: l) m A df)) : gops C r ops Q (⟨some t, .binOp .eql tt x z t2, ty, pos, af, none⟩ :: rest) (sg l m A df) := go_nilq hi hd hx hz ht k
end Go.Proofs.Ytabeeaiilanmjaa

/- Small functions of the program and of the document. -/
namespace Go.Proofs.Ytabeeaiilanmjaa
open Go.Gh
set_option maxRecDepth 100000
set_option maxHeartbeats 4000000
structure kVa1 (c : Prop) : Prop where
  h : c := by (first | exact True.intro | omega | (simp only [inI]; omega) | (simp [P.size, pS, all_int, allOne_p, goods_p, allOne, goods, good, G.one, P.one, P.cells] <;> first | omega | assumption | simp_all))
theorem ent45 : Enters Try.prog 45 := Enters.mk Try.func45 (by kernel_rfl) rfl
theorem s_within (n lo hi : Int) : PSpec Try.prog 45 [.int .i64 n, .int .i64 lo, .int .i64 hi] (.ok (.bool (inB n lo hi))) := by
  refine pspec_of Try.func45 (rfl : Try.f45.body = some _) rfl ?_
  intro E A C hN hL
  replace hN : C.N = 15 := hN
  simp only [Gh.num, List.map_cons, List.map_nil, Nat.reduceAdd]
  repeat refine gwp_seq ?_
  refine gwp_region ?_
  refine v0 (k := ?_)
  refine nil0 ?_
  refine cl [0, 1, 2] (k := ?_)
  repeat refine gwp_seq ?_
  refine gwp_region ?_
  refine v0 (k := ?_)
  refine v0 (k := ?_)
  refine v0 (k := ?_)
  refine v0 (k := ?_)
  refine b0 (k1 := fun hb1 => ?_) (k0 := fun hb1 => ?_)
  · replace hb1 := hB.h {} hb1
    refine w0 (k := ?_)
    refine w0 (k := ?_)
    refine w0 (k := ?_)
    refine v0 (k := ?_)
    refine v0 (k := ?_)
    refine nil0 ?_
    repeat refine gwp_seq ?_
    refine gwp_ret ?_
    repeat (first | refine gthen_ret ?_ | refine gblock_ret ?_ | refine gnoGoto_ret ?_)
    refine fin_ret ?_
    refine fp (hR := ?_)
    simp_all [PRes.at, inB] <;> omega
  replace hb1 := hB.h {} hb1
  refine x0 (k := ?_)
  refine x0 (k := ?_)
  refine x0 (k := ?_)
  refine v0 (k := ?_)
  refine v0 (k := ?_)
  refine nil0 ?_
  repeat refine gwp_seq ?_
  refine gwp_ret ?_
  repeat (first | refine gthen_ret ?_ | refine gblock_ret ?_ | refine gnoGoto_ret ?_)
  refine fin_ret ?_
  refine fp (hR := ?_)
  simp_all [PRes.at, inB] <;> omega
theorem ent64 : Enters Try.prog 64 := Enters.mk Try.func64 (by kernel_rfl) rfl
theorem s_in (n lo hi : Int) : PSpec Try.prog 64 [.int .i64 n, .int .i64 lo, .int .i64 hi] (.ok (.bool (inB n lo hi))) := by
  refine pspec_of Try.func64 (rfl : Try.f64.body = some _) rfl ?_
  intro E A C hN hL
  replace hN : C.N = 15 := hN
  simp only [Gh.num, List.map_cons, List.map_nil, Nat.reduceAdd]
  repeat refine gwp_seq ?_
  refine gwp_region ?_
  refine v0 (k := ?_)
  refine nil0 ?_
  refine cl [0, 1, 2] (k := ?_)
  repeat refine gwp_seq ?_
  refine gwp_region ?_
  refine v0 (k := ?_)
  refine v0 (k := ?_)
  refine v0 (k := ?_)
  refine v0 (k := ?_)
  refine b0 (k1 := fun hb1 => ?_) (k0 := fun hb1 => ?_)
  · replace hb1 := hB.h {} hb1
    refine w0 (k := ?_)
    refine w0 (k := ?_)
    refine w0 (k := ?_)
    refine v0 (k := ?_)
    refine v0 (k := ?_)
    refine nil0 ?_
    repeat refine gwp_seq ?_
    refine gwp_ret ?_
    repeat (first | refine gthen_ret ?_ | refine gblock_ret ?_ | refine gnoGoto_ret ?_)
    refine fin_ret ?_
    refine fp (hR := ?_)
    simp_all [PRes.at, inB] <;> omega
  replace hb1 := hB.h {} hb1
  refine x0 (k := ?_)
  refine x0 (k := ?_)
  refine x0 (k := ?_)
  refine v0 (k := ?_)
  refine v0 (k := ?_)
  refine nil0 ?_
  repeat refine gwp_seq ?_
  refine gwp_ret ?_
  repeat (first | refine gthen_ret ?_ | refine gblock_ret ?_ | refine gnoGoto_ret ?_)
  refine fin_ret ?_
  refine fp (hR := ?_)
  simp_all [PRes.at, inB] <;> omega
theorem ent43 : Enters Try.prog 43 := Enters.mk Try.func43 (by kernel_rfl) rfl
theorem s_must_t (e : Int) : PSpec Try.prog 43 [.bool true, .int .i64 e] (.ok (.tuple [])) := by
  refine pspec_of Try.func43 (rfl : Try.f43.body = some _) rfl ?_
  intro E A C hN hL
  replace hN : C.N = 9 := hN
  simp only [Gh.num, List.map_cons, List.map_nil, Nat.reduceAdd]
  repeat refine gwp_seq ?_
  refine gwp_region ?_
  refine v0 (k := ?_)
  refine v0 (k := ?_)
  refine nil0 ?_
  repeat refine gwp_seq ?_
  refine cF (k := ?_)
  repeat refine gwp_seq ?_
  refine gwp_skip ?_
  try refine gnoGoto_normal ?_
  refine fin_normal ?_
  refine fp0 (hR := ?_)
  rfl
theorem s_must_f (e : Int) : PSpec Try.prog 43 [.bool false, .int .i64 e] (.panic (.iface 100 (.agg [.int .i64 e]))) := by
  refine pspec_of Try.func43 (rfl : Try.f43.body = some _) rfl ?_
  intro E A C hN hL
  replace hN : C.N = 9 := hN
  simp only [Gh.num, List.map_cons, List.map_nil, Nat.reduceAdd]
  repeat refine gwp_seq ?_
  refine gwp_region ?_
  refine v0 (k := ?_)
  refine v0 (k := ?_)
  refine nil0 ?_
  repeat refine gwp_seq ?_
  refine cT (k := ?_)
  repeat refine gwp_seq ?_
  refine gwp_region ?_
  refine v0 (k := ?_)
  refine v0 (k := ?_)
  refine v0 (k := ?_)
  refine pn0 (k := ?_)
  repeat (first | refine gthen_panic ?_ | refine gblock_panic ?_)
  exact fin_panic rfl
theorem ent39 : Enters Try.prog 39 := Enters.mk Try.func39 (by kernel_rfl) rfl
theorem d_none {E : Env Try.prog} {A : E.α} (e : Int) : DSpec E 39 [.ref 0 0] (mkHp [(0, .cells [.p (.int .i64 e)] 0)]) A (none) (fun y => y = .ok (.p (.tuple [])) (mkHp [(0, .cells [.p (.int .i64 e)] 0)]) A) := by
  refine dspec_of Try.func39 (some _) (rfl : Try.f39.body = some _) rfl rfl rfl (by decide) (Nat.le_of_ble_eq_true rfl) (fun id h => ?_) (fun j id h => ?_) ?_
  · exact wf1x h
  · exact wf2x h
  intro C hN hL
  replace hN : C.N = 15 := hN
  simp only [Gh.num, List.map_cons, List.map_nil, Nat.reduceAdd, recG]
  refine nil0 ?_
  refine (?_ : gwp C none _ _ (sg _ _ _ []))
  repeat refine gwp_seq ?_
  refine gwp_block ?_
  repeat refine gwp_seq ?_
  refine gwp_region ?_
  refine v0 (k := ?_)
  refine rb 7 true (h := by (rfl)) (k := ?_)
  refine nil0 ?_
  repeat refine gwp_seq ?_
  refine cT (k := ?_)
  repeat refine gwp_seq ?_
  refine gwp_region ?_
  refine v0 (k := ?_)
  refine nil0 ?_
  repeat refine gblock_normal ?_
  refine dfin_normal ?_
  refine fh0 [0] (hR := ?_)
  rfl
theorem d_some {E : Env Try.prog} {A : E.α} (e n : Int) : DSpec E 39 [.ref 0 0] (mkHp [(0, .cells [.p (.int .i64 e)] 0)]) A (some (.iface 100 (.agg [.int .i64 n]))) (fun y => y = .ok (.p (.tuple [])) (mkHp [(0, .cells [.p (.int .i64 n)] 0)]) A) := by
  refine dspec_of Try.func39 (some _) (rfl : Try.f39.body = some _) rfl rfl rfl (by decide) (Nat.le_of_ble_eq_true rfl) (fun id h => ?_) (fun j id h => ?_) ?_
  · exact wf1x h
  · exact wf2x h
  intro C hN hL
  replace hN : C.N = 15 := hN
  simp only [Gh.num, List.map_cons, List.map_nil, Nat.reduceAdd, recG]
  refine nil0 ?_
  refine (?_ : gwp C none _ _ (sg _ _ _ []))
  repeat refine gwp_seq ?_
  refine gwp_block ?_
  repeat refine gwp_seq ?_
  refine gwp_region ?_
  refine v0 (k := ?_)
  refine rb 7 false (h := by (rfl)) (k := ?_)
  refine nil0 ?_
  repeat refine gwp_seq ?_
  refine cF (k := ?_)
  repeat refine gwp_seq ?_
  refine gwp_region ?_
  refine v0 (k := ?_)
  refine v0 (k := ?_)
  refine rb 9 true (h := by (rfl)) (k := ?_)
  refine v0 (k := ?_)
  refine nil0 ?_
  repeat refine gwp_seq ?_
  refine cT (k := ?_)
  repeat refine gwp_seq ?_
  refine gwp_region ?_
  refine n1 130 false (hc := kVa1.h {}) (k := ?_)
  refine s1 (hc := kVa1.h {}) (k := ?_)
  refine nil0 ?_
  refine cl [0, 3] (k := ?_)
  repeat refine gwp_seq ?_
  refine gwp_region ?_
  refine v0 (k := ?_)
  refine v0 (k := ?_)
  refine v0 (k := ?_)
  refine v0 (k := ?_)
  refine s1 (hc := kVa1.h {}) (k := ?_)
  refine nil0 ?_
  repeat refine gblock_normal ?_
  refine dfin_normal ?_
  refine fh0 [0] (hR := ?_)
  rfl
theorem ent84 : Enters Try.prog 84 := Enters.mk Try.func84 (by kernel_rfl) rfl
theorem s_isSpan (lo hi m : Int) : PSpec Try.prog 84 [.agg [.int .i64 lo, .int .i64 hi], .int .i64 m] (.ok (.bool (spB lo hi m))) := by
  refine pspec_of Try.func84 (rfl : Try.f84.body = some _) rfl ?_
  intro E A C hN hL
  replace hN : C.N = 21 := hN
  simp only [Gh.num, List.map_cons, List.map_nil, Nat.reduceAdd]
  repeat refine gwp_seq ?_
  refine gwp_region ?_
  refine n1 120 false (hc := kVa1.h {}) (k := ?_)
  refine v0 (k := ?_)
  refine nil0 ?_
  refine cl [1, 2] (k := ?_)
  repeat refine gwp_seq ?_
  refine gwp_region ?_
  refine v0 (k := ?_)
  refine v0 (k := ?_)
  refine v0 (k := ?_)
  refine v0 (k := ?_)
  refine b0 (k1 := fun hb1 => ?_) (k0 := fun hb1 => ?_)
  · replace hb1 := hB.h {} hb1
    refine w0 (k := ?_)
    refine w0 (k := ?_)
    refine w0 (k := ?_)
    refine w0 (k := ?_)
    refine w0 (k := ?_)
    refine v0 (k := ?_)
    refine v0 (k := ?_)
    refine b0 (k1 := fun hb2 => ?_) (k0 := fun hb2 => ?_)
    · replace hb2 := hB.h {} hb2
      refine w0 (k := ?_)
      refine w0 (k := ?_)
      refine w0 (k := ?_)
      refine w0 (k := ?_)
      refine v0 (k := ?_)
      refine v0 (k := ?_)
      refine nil0 ?_
      repeat refine gwp_seq ?_
      refine gwp_ret ?_
      repeat (first | refine gthen_ret ?_ | refine gblock_ret ?_ | refine gnoGoto_ret ?_)
      refine fin_ret ?_
      refine fp (hR := ?_)
      simp_all [PRes.at, spB] <;> omega
    replace hb2 := hB.h {} hb2
    refine x0 (k := ?_)
    refine x0 (k := ?_)
    refine x0 (k := ?_)
    refine x0 (k := ?_)
    refine v0 (k := ?_)
    refine v0 (k := ?_)
    refine nil0 ?_
    repeat refine gwp_seq ?_
    refine gwp_ret ?_
    repeat (first | refine gthen_ret ?_ | refine gblock_ret ?_ | refine gnoGoto_ret ?_)
    refine fin_ret ?_
    refine fp (hR := ?_)
    simp_all [PRes.at, spB] <;> omega
  replace hb1 := hB.h {} hb1
  refine x0 (k := ?_)
  refine x0 (k := ?_)
  refine x0 (k := ?_)
  refine x0 (k := ?_)
  refine x0 (k := ?_)
  refine v0 (k := ?_)
  refine v0 (k := ?_)
  refine x0 (k := ?_)
  refine x0 (k := ?_)
  refine x0 (k := ?_)
  refine x0 (k := ?_)
  refine v0 (k := ?_)
  refine v0 (k := ?_)
  refine nil0 ?_
  repeat refine gwp_seq ?_
  refine gwp_ret ?_
  repeat (first | refine gthen_ret ?_ | refine gblock_ret ?_ | refine gnoGoto_ret ?_)
  refine fin_ret ?_
  refine fp (hR := ?_)
  simp_all [PRes.at, spB] <;> omega
theorem ent97 : Enters Try.prog 97 := Enters.mk Try.func97 (by kernel_rfl) rfl
theorem s_ones64 (n : Nat) (h : n < 4096) : PSpec Try.prog 97 [.int .u64 n] (.ok (.int .i64 (pop n))) := by
  refine pspec_of Try.func97 (rfl : Try.f97.body = some _) rfl ?_
  intro E A C hN hL
  replace hN : C.N = 35 := hN
  simp only [Gh.num, List.map_cons, List.map_nil, Nat.reduceAdd]
  obtain ⟨h1, h2, h3⟩ := swar_ok n h
  repeat refine gwp_seq ?_
  refine gwp_region ?_
  refine v0 (k := ?_)
  refine nil0 ?_
  refine cl [0] (k := ?_)
  repeat refine gwp_seq ?_
  refine gwp_region ?_
  refine v0 (k := ?_)
  refine v1 (hc := by (first | exact True.intro | (simp only [inI]; omega) | (simp [P.size] <;> omega))) (k := ?_)
  refine v0 (k := ?_)
  refine v0 (k := ?_)
  refine v0 (k := ?_)
  refine v1 (hc := by (first | exact True.intro | (simp only [inI]; omega) | (simp [P.size] <;> omega))) (k := ?_)
  refine v0 (k := ?_)
  refine nil0 ?_
  refine cl [0] (k := ?_)
  repeat refine gwp_seq ?_
  refine gwp_region ?_
  refine v0 (k := ?_)
  refine v1 (hc := by (first | exact True.intro | (simp only [inI]; omega) | (simp [P.size] <;> omega))) (k := ?_)
  refine v0 (k := ?_)
  refine v0 (k := ?_)
  refine v0 (k := ?_)
  refine v1 (hc := by (first | exact True.intro | (simp only [inI]; omega) | (simp [P.size] <;> omega))) (k := ?_)
  refine v0 (k := ?_)
  refine nil0 ?_
  refine cl [0] (k := ?_)
  repeat refine gwp_seq ?_
  refine gwp_region ?_
  refine v0 (k := ?_)
  refine v1 (hc := by (first | exact True.intro | (simp only [inI]; omega) | (simp [P.size] <;> omega))) (k := ?_)
  refine v0 (k := ?_)
  refine v1 (hc := by (first | exact True.intro | (simp only [inI]; omega) | (simp [P.size] <;> omega))) (k := ?_)
  refine v0 (k := ?_)
  refine v0 (k := ?_)
  refine nil0 ?_
  refine cl [0] (k := ?_)
  repeat refine gwp_seq ?_
  refine gwp_region ?_
  refine v0 (k := ?_)
  refine v0 (k := ?_)
  refine v1 (hc := by (first | exact True.intro | (simp only [inI]; omega) | (simp [P.size] <;> omega))) (k := ?_)
  refine v1 (hc := by (first | exact True.intro | (simp only [inI]; omega) | (simp [P.size] <;> omega))) (k := ?_)
  refine v0 (k := ?_)
  refine nil0 ?_
  refine cl [0] (k := ?_)
  repeat refine gwp_seq ?_
  refine gwp_region ?_
  refine v0 (k := ?_)
  refine v0 (k := ?_)
  refine v1 (hc := by (first | exact True.intro | (simp only [inI]; omega) | (simp [P.size] <;> omega))) (k := ?_)
  refine v1 (hc := by (first | exact True.intro | (simp only [inI]; omega) | (simp [P.size] <;> omega))) (k := ?_)
  refine v0 (k := ?_)
  refine nil0 ?_
  refine cl [0] (k := ?_)
  repeat refine gwp_seq ?_
  refine gwp_region ?_
  refine v0 (k := ?_)
  refine v0 (k := ?_)
  refine v1 (hc := by (first | exact True.intro | (simp only [inI]; omega) | (simp [P.size] <;> omega))) (k := ?_)
  refine v1 (hc := by (first | exact True.intro | (simp only [inI]; omega) | (simp [P.size] <;> omega))) (k := ?_)
  refine v0 (k := ?_)
  refine nil0 ?_
  refine cl [0] (k := ?_)
  repeat refine gwp_seq ?_
  refine gwp_le (σ' := sg [(0, .p (.int .u64 (swar n)))] [] A []) (fun _ _ h => h) ?_
  refine gwp_region ?_
  refine v0 (k := ?_)
  refine v1 (hc := by (first | exact True.intro | (simp only [inI]; omega) | (simp [P.size] <;> omega))) (k := ?_)
  refine v0 (k := ?_)
  refine v0 (k := ?_)
  refine nil0 ?_
  repeat refine gwp_seq ?_
  refine gwp_ret ?_
  repeat (first | refine gthen_ret ?_ | refine gblock_ret ?_ | refine gnoGoto_ret ?_)
  refine fin_ret ?_
  refine fp (hR := ?_)
  rw [← h3]
  rfl
theorem ent81 : Enters Try.prog 81 := Enters.mk Try.func81 (by kernel_rfl) rfl
theorem s_ones (n : Nat) (h : n < 4096) : PSpec Try.prog 81 [.int .u64 n] (.ok (.int .i64 (pop n))) := by
  refine pspec_of Try.func81 (rfl : Try.f81.body = some _) rfl ?_
  intro E A C hN hL
  replace hN : C.N = 8 := hN
  simp only [Gh.num, List.map_cons, List.map_nil, Nat.reduceAdd]
  repeat refine gwp_seq ?_
  refine gwp_region ?_
  refine v0 (k := ?_)
  refine nil0 ?_
  repeat refine gwp_seq ?_
  refine cF (k := ?_)
  repeat refine gwp_seq ?_
  refine gwp_skip ?_
  refine cl [0] (k := ?_)
  repeat refine gwp_seq ?_
  refine gwp_region ?_
  refine v0 (k := ?_)
  refine pc0 (spec := s_ones64 n h) (hent := ent97) (k := ?_)
  refine v0 (k := ?_)
  refine nil0 ?_
  repeat refine gwp_seq ?_
  refine gwp_ret ?_
  repeat (first | refine gthen_ret ?_ | refine gblock_ret ?_ | refine gnoGoto_ret ?_)
  refine fin_ret ?_
  refine fp (hR := ?_)
  rfl
theorem ent54 : Enters Try.prog 54 := Enters.mk Try.func54 (by kernel_rfl) rfl
theorem s_size (n : Nat) (h : n < 4096) : PSpec Try.prog 54 [.int .u64 n] (.ok (.int .i64 (pop n))) := by
  refine pspec_of Try.func54 (rfl : Try.f54.body = some _) rfl ?_
  intro E A C hN hL
  replace hN : C.N = 5 := hN
  simp only [Gh.num, List.map_cons, List.map_nil, Nat.reduceAdd]
  repeat refine gwp_seq ?_
  refine gwp_region ?_
  refine v0 (k := ?_)
  refine nil0 ?_
  refine cl [0] (k := ?_)
  repeat refine gwp_seq ?_
  refine gwp_region ?_
  refine v0 (k := ?_)
  refine pc0 (spec := s_ones n h) (hent := ent81) (k := ?_)
  refine v0 (k := ?_)
  refine nil0 ?_
  repeat refine gwp_seq ?_
  refine gwp_ret ?_
  repeat (first | refine gthen_ret ?_ | refine gblock_ret ?_ | refine gnoGoto_ret ?_)
  refine fin_ret ?_
  refine fp (hR := ?_)
  rfl
theorem ent55 : Enters Try.prog 55 := Enters.mk Try.func55 (by kernel_rfl) rfl
theorem s_has (set n : Nat) (hs : set < 2 ^ 64) (hn : n < 64) : PSpec Try.prog 55 [.int .u64 set, .int .i64 n] (.ok (.bool (set.testBit n))) := by
  refine pspec_of Try.func55 (rfl : Try.f55.body = some _) rfl ?_
  intro E A C hN hL
  replace hN : C.N = 10 := hN
  simp only [Gh.num, List.map_cons, List.map_nil, Nat.reduceAdd]
  repeat refine gwp_seq ?_
  refine gwp_region ?_
  refine v0 (k := ?_)
  refine nil0 ?_
  refine cl [0, 1] (k := ?_)
  repeat refine gwp_seq ?_
  refine gwp_region ?_
  refine v0 (k := ?_)
  refine v0 (k := ?_)
  refine v1 (hc := by (first | exact True.intro | (simp only [inI]; omega) | (simp [P.size] <;> omega))) (k := ?_)
  refine v0 (k := ?_)
  refine v0 (k := ?_)
  refine v0 (k := ?_)
  refine nil0 ?_
  repeat refine gwp_seq ?_
  refine gwp_ret ?_
  repeat (first | refine gthen_ret ?_ | refine gblock_ret ?_ | refine gnoGoto_ret ?_)
  refine fin_ret ?_
  refine fp (hR := ?_)
  rw [← shr_bit set n hs hn]
  rfl
end Go.Proofs.Ytabeeaiilanmjaa

/- The program: which fields are valid; what a plate of use must be. -/
namespace Go.Proofs.Ytabeeaiilanmjaa
open Go.Gh
set_option maxRecDepth 100000
set_option maxHeartbeats 4000000
structure kVb1 (c : Prop) : Prop where
  h : c := by (first | exact True.intro | omega | (simp only [inI]; omega) | (simp [P.size, pS, all_int, allOne_p, goods_p, allOne, goods, good, G.one, P.one, P.cells] <;> first | omega | assumption | simp_all))
theorem ent83 : Enters Try.prog 83 := Enters.mk Try.func83 (by kernel_rfl) rfl
theorem s_bad (p : Sk) : PSpec Try.prog 83 [.agg [.int .i64 p.el, .int .i64 p.eh, .int .i64 p.nl, .int .i64 p.nh, .int .i64 p.day, .int .i64 p.dep]] (.ok (.bool (badS p))) := by
  refine pspec_of Try.func83 (rfl : Try.f83.body = some _) rfl ?_
  intro E A C hN hL
  replace hN : C.N = 25 := hN
  simp only [Gh.num, List.map_cons, List.map_nil, Nat.reduceAdd]
  repeat refine gwp_seq ?_
  refine gwp_region ?_
  refine n1 110 false (hc := kVb1.h {}) (k := ?_)
  refine v0 (k := ?_)
  refine nil0 ?_
  refine cl [1] (k := ?_)
  repeat refine gwp_seq ?_
  refine gwp_region ?_
  refine v0 (k := ?_)
  refine v0 (k := ?_)
  refine pc0 (spec := s_isSpan p.el p.eh 32) (hent := ent84) (k := ?_)
  refine v0 (k := ?_)
  refine v0 (k := ?_)
  refine b0 (k1 := fun hb1 => ?_) (k0 := fun hb1 => ?_)
  · replace hb1 := hB.h {} hb1
    refine x0 (k := ?_)
    refine x0 (k := ?_)
    refine x0 (k := ?_)
    refine x0 (k := ?_)
    refine v0 (k := ?_)
    refine v0 (k := ?_)
    refine x0 (k := ?_)
    refine x0 (k := ?_)
    refine x0 (k := ?_)
    refine x0 (k := ?_)
    refine v0 (k := ?_)
    refine v0 (k := ?_)
    refine x0 (k := ?_)
    refine x0 (k := ?_)
    refine x0 (k := ?_)
    refine x0 (k := ?_)
    refine v0 (k := ?_)
    refine v0 (k := ?_)
    refine nil0 ?_
    repeat refine gwp_seq ?_
    refine gwp_ret ?_
    repeat (first | refine gthen_ret ?_ | refine gblock_ret ?_ | refine gnoGoto_ret ?_)
    refine fin_ret ?_
    refine fp (hR := ?_)
    simp only [badS] at *
    simp_all [PRes.at]
  replace hb1 := hB.h {} hb1
  refine w0 (k := ?_)
  refine w0 (k := ?_)
  refine pcw (spec := s_isSpan p.nl p.nh 32) (hent := ent84) (k := ?_)
  refine w0 (k := ?_)
  refine v0 (k := ?_)
  refine v0 (k := ?_)
  refine b0 (k1 := fun hb2 => ?_) (k0 := fun hb2 => ?_)
  · replace hb2 := hB.h {} hb2
    refine x0 (k := ?_)
    refine x0 (k := ?_)
    refine x0 (k := ?_)
    refine x0 (k := ?_)
    refine v0 (k := ?_)
    refine v0 (k := ?_)
    refine x0 (k := ?_)
    refine x0 (k := ?_)
    refine x0 (k := ?_)
    refine x0 (k := ?_)
    refine v0 (k := ?_)
    refine v0 (k := ?_)
    refine nil0 ?_
    repeat refine gwp_seq ?_
    refine gwp_ret ?_
    repeat (first | refine gthen_ret ?_ | refine gblock_ret ?_ | refine gnoGoto_ret ?_)
    refine fin_ret ?_
    refine fp (hR := ?_)
    simp only [badS] at *
    simp_all [PRes.at]
  replace hb2 := hB.h {} hb2
  refine w0 (k := ?_)
  refine w0 (k := ?_)
  refine pcw (spec := s_within p.day 0 65536) (hent := ent45) (k := ?_)
  refine w0 (k := ?_)
  refine v0 (k := ?_)
  refine v0 (k := ?_)
  refine b0 (k1 := fun hb3 => ?_) (k0 := fun hb3 => ?_)
  · replace hb3 := hB.h {} hb3
    refine x0 (k := ?_)
    refine x0 (k := ?_)
    refine x0 (k := ?_)
    refine x0 (k := ?_)
    refine v0 (k := ?_)
    refine v0 (k := ?_)
    refine nil0 ?_
    repeat refine gwp_seq ?_
    refine gwp_ret ?_
    repeat (first | refine gthen_ret ?_ | refine gblock_ret ?_ | refine gnoGoto_ret ?_)
    refine fin_ret ?_
    refine fp (hR := ?_)
    simp only [badS] at *
    simp_all [PRes.at]
  replace hb3 := hB.h {} hb3
  refine w0 (k := ?_)
  refine w0 (k := ?_)
  refine pcw (spec := s_within p.dep 0 100) (hent := ent45) (k := ?_)
  refine w0 (k := ?_)
  refine v0 (k := ?_)
  refine v0 (k := ?_)
  refine nil0 ?_
  repeat refine gwp_seq ?_
  refine gwp_ret ?_
  repeat (first | refine gthen_ret ?_ | refine gblock_ret ?_ | refine gnoGoto_ret ?_)
  refine fin_ret ?_
  refine fp (hR := ?_)
  simp only [badS] at *
  simp_all [PRes.at]
theorem ent98 : Enters Try.prog 98 := Enters.mk Try.func98 (by kernel_rfl) rfl
theorem s_bad_i (l : List Sk) (hl : l.length ≤ 1048576) : PSpec Try.prog 98 [.list (l.map pS), .fn (.func 83) [] []] (.ok (.int .i64 (idxP badS l 0))) := by
  refine pspec_of Try.func98 (rfl : Try.f98.body = some _) rfl ?_
  intro E A C hN hL
  replace hN : C.N = 19 := hN
  simp only [Gh.num, List.map_cons, List.map_nil, Nat.reduceAdd]
  have hpS : ∀ p : Sk, pS p = P.agg [.int .i64 p.el, .int .i64 p.eh, .int .i64 p.nl, .int .i64 p.nh, .int .i64 p.day, .int .i64 p.dep] := fun _ => rfl
  repeat refine gwp_seq ?_
  refine gwp_region ?_
  refine v0 (k := ?_)
  refine nil0 ?_
  refine cl [0, 1] (k := ?_)
  repeat refine gwp_seq ?_
  refine gwp_region ?_
  refine v0 (k := ?_)
  refine v0 (k := ?_)
  refine v0 (k := ?_)
  refine nil0 ?_
  refine cl [0, 1, 7, 8] (k := ?_)
  repeat refine gwp_seq ?_
  refine gwp_block ?_
  repeat refine gwp_seq ?_
  refine gc_loop (fun mz σ => ∃ k : Nat, (k ≤ l.length) ∧ (idxP badS l 0 = idxP badS (l.drop k) k) ∧ mz = l.length - k ∧ σ = (sg [(0, .p (.list (l.map pS))), (1, .p (.fn (.func 83) [] [])), (7, .p (.int .i64 l.length)), (8, .p (.int .i64 k))] [] A [] : Sg E)) ?_ (fun mz σ hI => ?_)
  · refine lbeg [0, 1, 7, 8] (hV := ?_)
    exact ⟨_, 0, by omega, by simp, rfl, rfl⟩
  obtain ⟨k, hk, hi, hn, rfl⟩ := hI
  repeat refine gwp_seq ?_
  refine gwp_region ?_
  refine v0 (k := ?_)
  refine nil0 ?_
  repeat refine gwp_seq ?_
  refine cB (k1 := fun hb1 => ?_) (k0 := fun hb1 => ?_)
  · replace hb1 := hB.h {} hb1
    repeat refine gwp_seq ?_
    refine gwp_skip ?_
    refine cl [0, 1, 7, 8] (k := ?_)
    repeat refine gwp_seq ?_
    refine gwp_block ?_
    repeat refine gwp_seq ?_
    refine gwp_region ?_
    refine v0 (k := ?_)
    refine v0 (k := ?_)
    refine nil0 ?_
    refine cl [0, 1, 5, 7, 8] (k := ?_)
    repeat refine gwp_seq ?_
    obtain ⟨x, hx⟩ := getE (l := l) (k := k) (by omega)
    refine gwp_region ?_
    refine v0 (k := ?_)
    refine v0 (k := ?_)
    refine v0 (k := ?_)
    refine v1 (hc := kVb1.h {}) (k := ?_)
    refine v0 (k := ?_)
    refine pc0 (spec := s_bad x) (hent := ent83) (k := ?_)
    refine nil0 ?_
    repeat refine gwp_seq ?_
    refine cB (k1 := fun hb2 => ?_) (k0 := fun hb2 => ?_)
    · replace hb2 := hB.h {} hb2
      repeat refine gwp_seq ?_
      refine gwp_region ?_
      refine v0 (k := ?_)
      refine v0 (k := ?_)
      refine nil0 ?_
      repeat refine gwp_seq ?_
      refine gwp_ret ?_
      repeat (first | refine gthen_ret ?_ | refine gblock_ret ?_ | refine gnoGoto_ret ?_)
      refine fin_ret ?_
      refine fp (hR := ?_)
      simp only [PRes.at, GRes.ok.injEq, G.p.injEq, P.int.injEq, true_and, and_true]
      first
      | (rw [hi, idxP_at hx]; simp_all; done)
      | (rw [hi, List.drop_eq_nil_of_le (by omega)]; rfl)
    replace hb2 := hB.h {} hb2
    repeat refine gwp_seq ?_
    refine gwp_skip ?_
    refine cl [0, 1, 7, 8] (k := ?_)
    repeat refine gwp_seq ?_
    refine gwp_region ?_
    refine v1 (hc := kVb1.h {}) (k := ?_)
    refine v0 (k := ?_)
    refine nil0 ?_
    refine lend [0, 1, 7, 8] (h := ?_) (hV := ?_) (n' := l.length - (k + 1))
    · omega
    exact ⟨k + 1, by omega, by rw [hi, idxP_at hx]; simp_all, rfl, rfl⟩
  replace hb1 := hB.h {} hb1
  repeat refine gwp_seq ?_
  refine gwp_exit ?_
  repeat (first | refine gthen_exit ?_ | refine gnoGoto_exit ?_ | refine gblock_here ?_ | refine gblock_out rfl ?_)
  refine cl [] (k := ?_)
  repeat refine gwp_seq ?_
  refine gwp_region ?_
  refine v0 (k := ?_)
  refine nil0 ?_
  repeat refine gwp_seq ?_
  refine gwp_ret ?_
  repeat (first | refine gthen_ret ?_ | refine gblock_ret ?_ | refine gnoGoto_ret ?_)
  refine fin_ret ?_
  refine fp (hR := ?_)
  simp only [PRes.at, GRes.ok.injEq, G.p.injEq, P.int.injEq, true_and, and_true]
  first
  | (rw [hi, idxP_at hx]; simp_all; done)
  | (rw [hi, List.drop_eq_nil_of_le (by omega)]; rfl)
theorem ent85 : Enters Try.prog 85 := Enters.mk Try.func85 (by kernel_rfl) rfl
theorem s_bad_c (l : List Sk) (hl : l.length ≤ 1048576) : PSpec Try.prog 85 [.list (l.map pS), .fn (.func 83) [] []] (.ok (.bool (l.any badS))) := by
  refine pspec_of Try.func85 (rfl : Try.f85.body = some _) rfl ?_
  intro E A C hN hL
  replace hN : C.N = 9 := hN
  simp only [Gh.num, List.map_cons, List.map_nil, Nat.reduceAdd]
  repeat refine gwp_seq ?_
  refine gwp_region ?_
  refine v0 (k := ?_)
  refine nil0 ?_
  refine cl [0, 1] (k := ?_)
  repeat refine gwp_seq ?_
  refine gwp_region ?_
  refine v0 (k := ?_)
  refine v0 (k := ?_)
  refine pc0 (spec := s_bad_i l hl) (hent := ent98) (k := ?_)
  refine v0 (k := ?_)
  refine v0 (k := ?_)
  refine nil0 ?_
  repeat refine gwp_seq ?_
  refine gwp_ret ?_
  repeat (first | refine gthen_ret ?_ | refine gblock_ret ?_ | refine gnoGoto_ret ?_)
  refine fin_ret ?_
  refine fp (hR := ?_)
  rw [← idxP_sign badS l 0]
  rfl
theorem ent68 : Enters Try.prog 68 := Enters.mk Try.func68 (by kernel_rfl) rfl
theorem s_isField (f : Fd) (hl : f.ps.length ≤ 1048576) : PSpec Try.prog 68 [.agg [.list (f.ps.map pS), .int .i64 f.el, .int .i64 f.eh, .int .i64 f.nl, .int .i64 f.nh, .int .i64 f.dl, .int .i64 f.dh, .int .i64 f.dep, .int .i64 f.tm, .int .i64 f.gp]] (.ok (.bool f.valid)) := by
  refine pspec_of Try.func68 (rfl : Try.f68.body = some _) rfl ?_
  intro E A C hN hL
  replace hN : C.N = 49 := hN
  simp only [Gh.num, List.map_cons, List.map_nil, Nat.reduceAdd]
  repeat refine gwp_seq ?_
  refine gwp_region ?_
  refine n1 110 false (hc := kVb1.h {}) (k := ?_)
  refine v0 (k := ?_)
  refine nil0 ?_
  refine cl [1] (k := ?_)
  repeat refine gwp_seq ?_
  refine gwp_region ?_
  refine v0 (k := ?_)
  refine nil0 ?_
  refine cl [1, 3] (k := ?_)
  repeat refine gwp_seq ?_
  refine gwp_region ?_
  refine v0 (k := ?_)
  refine v0 (k := ?_)
  refine pc0 (spec := s_isSpan f.el f.eh 32) (hent := ent84) (k := ?_)
  refine v0 (k := ?_)
  refine b0 (k1 := fun hb1 => ?_) (k0 := fun hb1 => ?_)
  · replace hb1 := hB.h {} hb1
    refine w0 (k := ?_)
    refine w0 (k := ?_)
    refine pcw (spec := s_isSpan f.nl f.nh 32) (hent := ent84) (k := ?_)
    refine v0 (k := ?_)
    refine v0 (k := ?_)
    refine b0 (k1 := fun hb2 => ?_) (k0 := fun hb2 => ?_)
    · replace hb2 := hB.h {} hb2
      refine w0 (k := ?_)
      refine w0 (k := ?_)
      refine pcw (spec := s_isSpan f.dl f.dh 65536) (hent := ent84) (k := ?_)
      refine v0 (k := ?_)
      refine v0 (k := ?_)
      refine nil0 ?_
      refine cl [1, 3, 4] (k := ?_)
      repeat refine gwp_seq ?_
      refine gwp_region ?_
      refine v0 (k := ?_)
      refine v0 (k := ?_)
      refine pc0 (spec := s_within f.dep 0 100) (hent := ent45) (k := ?_)
      refine v0 (k := ?_)
      refine b0 (k1 := fun hb3 => ?_) (k0 := fun hb3 => ?_)
      · replace hb3 := hB.h {} hb3
        refine w0 (k := ?_)
        refine w0 (k := ?_)
        refine pcw (spec := s_within f.tm 1 4) (hent := ent45) (k := ?_)
        refine v0 (k := ?_)
        refine v0 (k := ?_)
        refine b0 (k1 := fun hb4 => ?_) (k0 := fun hb4 => ?_)
        · replace hb4 := hB.h {} hb4
          refine w0 (k := ?_)
          refine w0 (k := ?_)
          refine pcw (spec := s_within f.gp 0 65536) (hent := ent45) (k := ?_)
          refine v0 (k := ?_)
          refine v0 (k := ?_)
          refine nil0 ?_
          refine cl [1, 3, 4, 5] (k := ?_)
          repeat refine gwp_seq ?_
          refine gwp_region ?_
          refine v0 (k := ?_)
          refine v0 (k := ?_)
          refine b0 (k1 := fun hb5 => ?_) (k0 := fun hb5 => ?_)
          · replace hb5 := hB.h {} hb5
            refine w0 (k := ?_)
            refine v0 (k := ?_)
            refine v0 (k := ?_)
            refine b0 (k1 := fun hb6 => ?_) (k0 := fun hb6 => ?_)
            · replace hb6 := hB.h {} hb6
              refine w0 (k := ?_)
              refine w0 (k := ?_)
              refine w0 (k := ?_)
              refine w0 (k := ?_)
              refine v0 (k := ?_)
              refine v0 (k := ?_)
              refine b0 (k1 := fun hb7 => ?_) (k0 := fun hb7 => ?_)
              · replace hb7 := hB.h {} hb7
                refine w0 (k := ?_)
                refine w0 (k := ?_)
                refine w0 (k := ?_)
                refine pcw (spec := s_bad_c f.ps hl) (hent := ent85) (k := ?_)
                refine w0 (k := ?_)
                refine v0 (k := ?_)
                refine v0 (k := ?_)
                refine nil0 ?_
                repeat refine gwp_seq ?_
                refine gwp_ret ?_
                repeat (first | refine gthen_ret ?_ | refine gblock_ret ?_ | refine gnoGoto_ret ?_)
                refine fin_ret ?_
                refine fp (hR := ?_)
                simp only [Fd.valid, Fd.head, Fd.nums] at *
                simp_all [PRes.at]
                all_goals (intros; omega)
              replace hb7 := hB.h {} hb7
              refine x0 (k := ?_)
              refine x0 (k := ?_)
              refine x0 (k := ?_)
              refine x0 (k := ?_)
              refine x0 (k := ?_)
              refine v0 (k := ?_)
              refine v0 (k := ?_)
              refine nil0 ?_
              repeat refine gwp_seq ?_
              refine gwp_ret ?_
              repeat (first | refine gthen_ret ?_ | refine gblock_ret ?_ | refine gnoGoto_ret ?_)
              refine fin_ret ?_
              refine fp (hR := ?_)
              simp only [Fd.valid, Fd.head, Fd.nums] at *
              simp_all [PRes.at]
              all_goals (intros; omega)
            replace hb6 := hB.h {} hb6
            refine x0 (k := ?_)
            refine x0 (k := ?_)
            refine x0 (k := ?_)
            refine x0 (k := ?_)
            refine v0 (k := ?_)
            refine v0 (k := ?_)
            refine x0 (k := ?_)
            refine x0 (k := ?_)
            refine x0 (k := ?_)
            refine x0 (k := ?_)
            refine x0 (k := ?_)
            refine v0 (k := ?_)
            refine v0 (k := ?_)
            refine nil0 ?_
            repeat refine gwp_seq ?_
            refine gwp_ret ?_
            repeat (first | refine gthen_ret ?_ | refine gblock_ret ?_ | refine gnoGoto_ret ?_)
            refine fin_ret ?_
            refine fp (hR := ?_)
            simp only [Fd.valid, Fd.head, Fd.nums] at *
            simp_all [PRes.at]
            all_goals (intros; omega)
          replace hb5 := hB.h {} hb5
          refine x0 (k := ?_)
          refine v0 (k := ?_)
          refine v0 (k := ?_)
          refine x0 (k := ?_)
          refine x0 (k := ?_)
          refine x0 (k := ?_)
          refine x0 (k := ?_)
          refine v0 (k := ?_)
          refine v0 (k := ?_)
          refine x0 (k := ?_)
          refine x0 (k := ?_)
          refine x0 (k := ?_)
          refine x0 (k := ?_)
          refine x0 (k := ?_)
          refine v0 (k := ?_)
          refine v0 (k := ?_)
          refine nil0 ?_
          repeat refine gwp_seq ?_
          refine gwp_ret ?_
          repeat (first | refine gthen_ret ?_ | refine gblock_ret ?_ | refine gnoGoto_ret ?_)
          refine fin_ret ?_
          refine fp (hR := ?_)
          simp only [Fd.valid, Fd.head, Fd.nums] at *
          simp_all [PRes.at]
          all_goals (intros; omega)
        replace hb4 := hB.h {} hb4
        refine x0 (k := ?_)
        refine x0 (k := ?_)
        refine x0 (k := ?_)
        refine v0 (k := ?_)
        refine v0 (k := ?_)
        refine nil0 ?_
        refine cl [1, 3, 4, 5] (k := ?_)
        repeat refine gwp_seq ?_
        refine gwp_region ?_
        refine v0 (k := ?_)
        refine v0 (k := ?_)
        refine b0 (k1 := fun hb8 => ?_) (k0 := fun hb8 => ?_)
        · replace hb8 := hB.h {} hb8
          refine w0 (k := ?_)
          refine v0 (k := ?_)
          refine v0 (k := ?_)
          refine x0 (k := ?_)
          refine x0 (k := ?_)
          refine x0 (k := ?_)
          refine x0 (k := ?_)
          refine v0 (k := ?_)
          refine v0 (k := ?_)
          refine x0 (k := ?_)
          refine x0 (k := ?_)
          refine x0 (k := ?_)
          refine x0 (k := ?_)
          refine x0 (k := ?_)
          refine v0 (k := ?_)
          refine v0 (k := ?_)
          refine nil0 ?_
          repeat refine gwp_seq ?_
          refine gwp_ret ?_
          repeat (first | refine gthen_ret ?_ | refine gblock_ret ?_ | refine gnoGoto_ret ?_)
          refine fin_ret ?_
          refine fp (hR := ?_)
          simp only [Fd.valid, Fd.head, Fd.nums] at *
          simp_all [PRes.at]
          all_goals (intros; omega)
        replace hb8 := hB.h {} hb8
        refine x0 (k := ?_)
        refine v0 (k := ?_)
        refine v0 (k := ?_)
        refine x0 (k := ?_)
        refine x0 (k := ?_)
        refine x0 (k := ?_)
        refine x0 (k := ?_)
        refine v0 (k := ?_)
        refine v0 (k := ?_)
        refine x0 (k := ?_)
        refine x0 (k := ?_)
        refine x0 (k := ?_)
        refine x0 (k := ?_)
        refine x0 (k := ?_)
        refine v0 (k := ?_)
        refine v0 (k := ?_)
        refine nil0 ?_
        repeat refine gwp_seq ?_
        refine gwp_ret ?_
        repeat (first | refine gthen_ret ?_ | refine gblock_ret ?_ | refine gnoGoto_ret ?_)
        refine fin_ret ?_
        refine fp (hR := ?_)
        simp only [Fd.valid, Fd.head, Fd.nums] at *
        simp_all [PRes.at]
        all_goals (intros; omega)
      replace hb3 := hB.h {} hb3
      refine x0 (k := ?_)
      refine x0 (k := ?_)
      refine x0 (k := ?_)
      refine v0 (k := ?_)
      refine v0 (k := ?_)
      refine x0 (k := ?_)
      refine x0 (k := ?_)
      refine x0 (k := ?_)
      refine v0 (k := ?_)
      refine v0 (k := ?_)
      refine nil0 ?_
      refine cl [1, 3, 4, 5] (k := ?_)
      repeat refine gwp_seq ?_
      refine gwp_region ?_
      refine v0 (k := ?_)
      refine v0 (k := ?_)
      refine b0 (k1 := fun hb9 => ?_) (k0 := fun hb9 => ?_)
      · replace hb9 := hB.h {} hb9
        refine w0 (k := ?_)
        refine v0 (k := ?_)
        refine v0 (k := ?_)
        refine x0 (k := ?_)
        refine x0 (k := ?_)
        refine x0 (k := ?_)
        refine x0 (k := ?_)
        refine v0 (k := ?_)
        refine v0 (k := ?_)
        refine x0 (k := ?_)
        refine x0 (k := ?_)
        refine x0 (k := ?_)
        refine x0 (k := ?_)
        refine x0 (k := ?_)
        refine v0 (k := ?_)
        refine v0 (k := ?_)
        refine nil0 ?_
        repeat refine gwp_seq ?_
        refine gwp_ret ?_
        repeat (first | refine gthen_ret ?_ | refine gblock_ret ?_ | refine gnoGoto_ret ?_)
        refine fin_ret ?_
        refine fp (hR := ?_)
        simp only [Fd.valid, Fd.head, Fd.nums] at *
        simp_all [PRes.at]
        all_goals (intros; omega)
      replace hb9 := hB.h {} hb9
      refine x0 (k := ?_)
      refine v0 (k := ?_)
      refine v0 (k := ?_)
      refine x0 (k := ?_)
      refine x0 (k := ?_)
      refine x0 (k := ?_)
      refine x0 (k := ?_)
      refine v0 (k := ?_)
      refine v0 (k := ?_)
      refine x0 (k := ?_)
      refine x0 (k := ?_)
      refine x0 (k := ?_)
      refine x0 (k := ?_)
      refine x0 (k := ?_)
      refine v0 (k := ?_)
      refine v0 (k := ?_)
      refine nil0 ?_
      repeat refine gwp_seq ?_
      refine gwp_ret ?_
      repeat (first | refine gthen_ret ?_ | refine gblock_ret ?_ | refine gnoGoto_ret ?_)
      refine fin_ret ?_
      refine fp (hR := ?_)
      simp only [Fd.valid, Fd.head, Fd.nums] at *
      simp_all [PRes.at]
      all_goals (intros; omega)
    replace hb2 := hB.h {} hb2
    refine x0 (k := ?_)
    refine x0 (k := ?_)
    refine x0 (k := ?_)
    refine v0 (k := ?_)
    refine v0 (k := ?_)
    refine nil0 ?_
    refine cl [1, 3, 4] (k := ?_)
    repeat refine gwp_seq ?_
    refine gwp_region ?_
    refine v0 (k := ?_)
    refine v0 (k := ?_)
    refine pc0 (spec := s_within f.dep 0 100) (hent := ent45) (k := ?_)
    refine v0 (k := ?_)
    refine b0 (k1 := fun hb10 => ?_) (k0 := fun hb10 => ?_)
    · replace hb10 := hB.h {} hb10
      refine w0 (k := ?_)
      refine w0 (k := ?_)
      refine pcw (spec := s_within f.tm 1 4) (hent := ent45) (k := ?_)
      refine v0 (k := ?_)
      refine v0 (k := ?_)
      refine b0 (k1 := fun hb11 => ?_) (k0 := fun hb11 => ?_)
      · replace hb11 := hB.h {} hb11
        refine w0 (k := ?_)
        refine w0 (k := ?_)
        refine pcw (spec := s_within f.gp 0 65536) (hent := ent45) (k := ?_)
        refine v0 (k := ?_)
        refine v0 (k := ?_)
        refine nil0 ?_
        refine cl [1, 3, 4, 5] (k := ?_)
        repeat refine gwp_seq ?_
        refine gwp_region ?_
        refine v0 (k := ?_)
        refine v0 (k := ?_)
        refine x0 (k := ?_)
        refine v0 (k := ?_)
        refine v0 (k := ?_)
        refine x0 (k := ?_)
        refine x0 (k := ?_)
        refine x0 (k := ?_)
        refine x0 (k := ?_)
        refine v0 (k := ?_)
        refine v0 (k := ?_)
        refine x0 (k := ?_)
        refine x0 (k := ?_)
        refine x0 (k := ?_)
        refine x0 (k := ?_)
        refine x0 (k := ?_)
        refine v0 (k := ?_)
        refine v0 (k := ?_)
        refine nil0 ?_
        repeat refine gwp_seq ?_
        refine gwp_ret ?_
        repeat (first | refine gthen_ret ?_ | refine gblock_ret ?_ | refine gnoGoto_ret ?_)
        refine fin_ret ?_
        refine fp (hR := ?_)
        simp only [Fd.valid, Fd.head, Fd.nums] at *
        simp_all [PRes.at]
        all_goals (intros; omega)
      replace hb11 := hB.h {} hb11
      refine x0 (k := ?_)
      refine x0 (k := ?_)
      refine x0 (k := ?_)
      refine v0 (k := ?_)
      refine v0 (k := ?_)
      refine nil0 ?_
      refine cl [1, 3, 4, 5] (k := ?_)
      repeat refine gwp_seq ?_
      refine gwp_region ?_
      refine v0 (k := ?_)
      refine v0 (k := ?_)
      refine x0 (k := ?_)
      refine v0 (k := ?_)
      refine v0 (k := ?_)
      refine x0 (k := ?_)
      refine x0 (k := ?_)
      refine x0 (k := ?_)
      refine x0 (k := ?_)
      refine v0 (k := ?_)
      refine v0 (k := ?_)
      refine x0 (k := ?_)
      refine x0 (k := ?_)
      refine x0 (k := ?_)
      refine x0 (k := ?_)
      refine x0 (k := ?_)
      refine v0 (k := ?_)
      refine v0 (k := ?_)
      refine nil0 ?_
      repeat refine gwp_seq ?_
      refine gwp_ret ?_
      repeat (first | refine gthen_ret ?_ | refine gblock_ret ?_ | refine gnoGoto_ret ?_)
      refine fin_ret ?_
      refine fp (hR := ?_)
      simp only [Fd.valid, Fd.head, Fd.nums] at *
      simp_all [PRes.at]
      all_goals (intros; omega)
    replace hb10 := hB.h {} hb10
    refine x0 (k := ?_)
    refine x0 (k := ?_)
    refine x0 (k := ?_)
    refine v0 (k := ?_)
    refine v0 (k := ?_)
    refine x0 (k := ?_)
    refine x0 (k := ?_)
    refine x0 (k := ?_)
    refine v0 (k := ?_)
    refine v0 (k := ?_)
    refine nil0 ?_
    refine cl [1, 3, 4, 5] (k := ?_)
    repeat refine gwp_seq ?_
    refine gwp_region ?_
    refine v0 (k := ?_)
    refine v0 (k := ?_)
    refine x0 (k := ?_)
    refine v0 (k := ?_)
    refine v0 (k := ?_)
    refine x0 (k := ?_)
    refine x0 (k := ?_)
    refine x0 (k := ?_)
    refine x0 (k := ?_)
    refine v0 (k := ?_)
    refine v0 (k := ?_)
    refine x0 (k := ?_)
    refine x0 (k := ?_)
    refine x0 (k := ?_)
    refine x0 (k := ?_)
    refine x0 (k := ?_)
    refine v0 (k := ?_)
    refine v0 (k := ?_)
    refine nil0 ?_
    repeat refine gwp_seq ?_
    refine gwp_ret ?_
    repeat (first | refine gthen_ret ?_ | refine gblock_ret ?_ | refine gnoGoto_ret ?_)
    refine fin_ret ?_
    refine fp (hR := ?_)
    simp only [Fd.valid, Fd.head, Fd.nums] at *
    simp_all [PRes.at]
    all_goals (intros; omega)
  replace hb1 := hB.h {} hb1
  refine x0 (k := ?_)
  refine x0 (k := ?_)
  refine x0 (k := ?_)
  refine v0 (k := ?_)
  refine v0 (k := ?_)
  refine x0 (k := ?_)
  refine x0 (k := ?_)
  refine x0 (k := ?_)
  refine v0 (k := ?_)
  refine v0 (k := ?_)
  refine nil0 ?_
  refine cl [1, 3, 4] (k := ?_)
  repeat refine gwp_seq ?_
  refine gwp_region ?_
  refine v0 (k := ?_)
  refine v0 (k := ?_)
  refine pc0 (spec := s_within f.dep 0 100) (hent := ent45) (k := ?_)
  refine v0 (k := ?_)
  refine b0 (k1 := fun hb12 => ?_) (k0 := fun hb12 => ?_)
  · replace hb12 := hB.h {} hb12
    refine w0 (k := ?_)
    refine w0 (k := ?_)
    refine pcw (spec := s_within f.tm 1 4) (hent := ent45) (k := ?_)
    refine v0 (k := ?_)
    refine v0 (k := ?_)
    refine b0 (k1 := fun hb13 => ?_) (k0 := fun hb13 => ?_)
    · replace hb13 := hB.h {} hb13
      refine w0 (k := ?_)
      refine w0 (k := ?_)
      refine pcw (spec := s_within f.gp 0 65536) (hent := ent45) (k := ?_)
      refine v0 (k := ?_)
      refine v0 (k := ?_)
      refine nil0 ?_
      refine cl [1, 3, 4, 5] (k := ?_)
      repeat refine gwp_seq ?_
      refine gwp_region ?_
      refine v0 (k := ?_)
      refine v0 (k := ?_)
      refine x0 (k := ?_)
      refine v0 (k := ?_)
      refine v0 (k := ?_)
      refine x0 (k := ?_)
      refine x0 (k := ?_)
      refine x0 (k := ?_)
      refine x0 (k := ?_)
      refine v0 (k := ?_)
      refine v0 (k := ?_)
      refine x0 (k := ?_)
      refine x0 (k := ?_)
      refine x0 (k := ?_)
      refine x0 (k := ?_)
      refine x0 (k := ?_)
      refine v0 (k := ?_)
      refine v0 (k := ?_)
      refine nil0 ?_
      repeat refine gwp_seq ?_
      refine gwp_ret ?_
      repeat (first | refine gthen_ret ?_ | refine gblock_ret ?_ | refine gnoGoto_ret ?_)
      refine fin_ret ?_
      refine fp (hR := ?_)
      simp only [Fd.valid, Fd.head, Fd.nums] at *
      simp_all [PRes.at]
      all_goals (intros; omega)
    replace hb13 := hB.h {} hb13
    refine x0 (k := ?_)
    refine x0 (k := ?_)
    refine x0 (k := ?_)
    refine v0 (k := ?_)
    refine v0 (k := ?_)
    refine nil0 ?_
    refine cl [1, 3, 4, 5] (k := ?_)
    repeat refine gwp_seq ?_
    refine gwp_region ?_
    refine v0 (k := ?_)
    refine v0 (k := ?_)
    refine x0 (k := ?_)
    refine v0 (k := ?_)
    refine v0 (k := ?_)
    refine x0 (k := ?_)
    refine x0 (k := ?_)
    refine x0 (k := ?_)
    refine x0 (k := ?_)
    refine v0 (k := ?_)
    refine v0 (k := ?_)
    refine x0 (k := ?_)
    refine x0 (k := ?_)
    refine x0 (k := ?_)
    refine x0 (k := ?_)
    refine x0 (k := ?_)
    refine v0 (k := ?_)
    refine v0 (k := ?_)
    refine nil0 ?_
    repeat refine gwp_seq ?_
    refine gwp_ret ?_
    repeat (first | refine gthen_ret ?_ | refine gblock_ret ?_ | refine gnoGoto_ret ?_)
    refine fin_ret ?_
    refine fp (hR := ?_)
    simp only [Fd.valid, Fd.head, Fd.nums] at *
    simp_all [PRes.at]
    all_goals (intros; omega)
  replace hb12 := hB.h {} hb12
  refine x0 (k := ?_)
  refine x0 (k := ?_)
  refine x0 (k := ?_)
  refine v0 (k := ?_)
  refine v0 (k := ?_)
  refine x0 (k := ?_)
  refine x0 (k := ?_)
  refine x0 (k := ?_)
  refine v0 (k := ?_)
  refine v0 (k := ?_)
  refine nil0 ?_
  refine cl [1, 3, 4, 5] (k := ?_)
  repeat refine gwp_seq ?_
  refine gwp_region ?_
  refine v0 (k := ?_)
  refine v0 (k := ?_)
  refine x0 (k := ?_)
  refine v0 (k := ?_)
  refine v0 (k := ?_)
  refine x0 (k := ?_)
  refine x0 (k := ?_)
  refine x0 (k := ?_)
  refine x0 (k := ?_)
  refine v0 (k := ?_)
  refine v0 (k := ?_)
  refine x0 (k := ?_)
  refine x0 (k := ?_)
  refine x0 (k := ?_)
  refine x0 (k := ?_)
  refine x0 (k := ?_)
  refine v0 (k := ?_)
  refine v0 (k := ?_)
  refine nil0 ?_
  repeat refine gwp_seq ?_
  refine gwp_ret ?_
  repeat (first | refine gthen_ret ?_ | refine gblock_ret ?_ | refine gnoGoto_ret ?_)
  refine fin_ret ?_
  refine fp (hR := ?_)
  simp only [Fd.valid, Fd.head, Fd.nums] at *
  simp_all [PRes.at]
  all_goals (intros; omega)
theorem ent87 : Enters Try.prog 87 := Enters.mk Try.func87 (by kernel_rfl) rfl
theorem s_meet (a b c d : Int) : PSpec Try.prog 87 [.agg [.int .i64 a, .int .i64 b], .agg [.int .i64 c, .int .i64 d]] (.ok (.bool (decide (max a c ≤ min b d)))) := by
  refine pspec_of Try.func87 (rfl : Try.f87.body = some _) rfl ?_
  intro E A C hN hL
  replace hN : C.N = 16 := hN
  simp only [Gh.num, List.map_cons, List.map_nil, Nat.reduceAdd]
  repeat refine gwp_seq ?_
  refine gwp_region ?_
  refine n1 120 false (hc := kVb1.h {}) (k := ?_)
  refine n1 130 false (hc := kVb1.h {}) (k := ?_)
  refine v0 (k := ?_)
  refine nil0 ?_
  refine cl [2, 3] (k := ?_)
  repeat refine gwp_seq ?_
  refine gwp_region ?_
  refine v0 (k := ?_)
  refine v0 (k := ?_)
  refine v0 (k := ?_)
  refine v0 (k := ?_)
  refine v0 (k := ?_)
  refine v0 (k := ?_)
  refine v0 (k := ?_)
  refine v0 (k := ?_)
  refine v0 (k := ?_)
  refine v0 (k := ?_)
  refine v0 (k := ?_)
  refine v0 (k := ?_)
  refine nil0 ?_
  repeat refine gwp_seq ?_
  refine gwp_ret ?_
  repeat (first | refine gthen_ret ?_ | refine gblock_ret ?_ | refine gnoGoto_ret ?_)
  refine fin_ret ?_
  refine fp (hR := ?_)
  rfl
def tstQ (f : Fd) (p : Sk) : Nat → Bool
  | 0 => inB p.day f.dl f.dh
  | 1 => decide (f.dep ≤ p.dep)
  | _ => decide (max f.el p.el ≤ min f.eh p.eh) && decide (max f.nl p.nl ≤ min f.nh p.nh)
theorem tst_use (f : Fd) (p : Sk) : useQ f p = ((tstQ f p 0 && tstQ f p 1) && tstQ f p 2) := rfl
theorem ent88 : Enters Try.prog 88 := Enters.mk Try.func88 (by kernel_rfl) rfl
theorem s_test0 {E : Env Try.prog} {A : E.α} (f : Fd) (p : Sk) : Gh.Spec E 88 [.ptr [.p (.list (f.ps.map pS)), .p (.int .i64 f.el), .p (.int .i64 f.eh), .p (.int .i64 f.nl), .p (.int .i64 f.nh), .p (.int .i64 f.dl), .p (.int .i64 f.dh), .p (.int .i64 f.dep), .p (.int .i64 f.tm), .p (.int .i64 f.gp)], .p (.agg [.int .i64 p.el, .int .i64 p.eh, .int .i64 p.nl, .int .i64 p.nh, .int .i64 p.day, .int .i64 p.dep])] (mkHp []) A (fun y => y = .ok (.p (.bool (tstQ f p 0))) (mkHp []) A) := by
  refine spec_of Try.func88 (rfl : Try.f88.body = some _) (Nat.le_of_ble_eq_true rfl) (fun id h => ?_) (fun j id h => ?_) ?_
  · exact wf1x h
  · exact wf2x h
  intro C hN hL
  replace hN : C.N = 20 := hN
  simp only [Gh.num, List.map_cons, List.map_nil, Nat.reduceAdd]
  repeat refine gwp_seq ?_
  refine gwp_region ?_
  refine n1 130 false (hc := kVb1.h {}) (k := ?_)
  refine v0 (k := ?_)
  refine nil0 ?_
  refine cl [0, 3] (k := ?_)
  repeat refine gwp_seq ?_
  refine rd ?_
  refine d0 0 (k := ?_)
  refine d0 1 (k := ?_)
  refine d0 2 (k := ?_)
  refine d0 3 (k := ?_)
  refine d0 4 (k := ?_)
  refine d0 5 (k := ?_)
  refine d0 6 (k := ?_)
  refine d0 7 (k := ?_)
  refine d0 8 (k := ?_)
  refine d0 9 (k := ?_)
  refine d0 10 (k := ?_)
  refine d0 11 (k := ?_)
  refine d0 12 (k := ?_)
  refine d0 13 (k := ?_)
  refine dpc0 14 (spec := s_within p.day f.dl f.dh) (hent := ent45) (k := ?_)
  refine d0 15 (k := ?_)
  refine dz 16 [0, 1, 0, 4, 12, 28, 60, 124, 0, 256, 768, 1792, 3840, 7936, 16383, 32767] (h := ?_)
  refine de 16 (h := ?_)
  repeat refine gwp_seq ?_
  refine gwp_ret ?_
  repeat (first | refine gthen_ret ?_ | refine gblock_ret ?_ | refine gnoGoto_ret ?_)
  refine fin_ret ?_
  refine fp (hR := ?_)
  rfl
theorem ent89 : Enters Try.prog 89 := Enters.mk Try.func89 (by kernel_rfl) rfl
theorem s_test1 {E : Env Try.prog} {A : E.α} (f : Fd) (p : Sk) : Gh.Spec E 89 [.ptr [.p (.list (f.ps.map pS)), .p (.int .i64 f.el), .p (.int .i64 f.eh), .p (.int .i64 f.nl), .p (.int .i64 f.nh), .p (.int .i64 f.dl), .p (.int .i64 f.dh), .p (.int .i64 f.dep), .p (.int .i64 f.tm), .p (.int .i64 f.gp)], .p (.agg [.int .i64 p.el, .int .i64 p.eh, .int .i64 p.nl, .int .i64 p.nh, .int .i64 p.day, .int .i64 p.dep])] (mkHp []) A (fun y => y = .ok (.p (.bool (tstQ f p 1))) (mkHp []) A) := by
  refine spec_of Try.func89 (rfl : Try.f89.body = some _) (Nat.le_of_ble_eq_true rfl) (fun id h => ?_) (fun j id h => ?_) ?_
  · exact wf1x h
  · exact wf2x h
  intro C hN hL
  replace hN : C.N = 13 := hN
  simp only [Gh.num, List.map_cons, List.map_nil, Nat.reduceAdd]
  repeat refine gwp_seq ?_
  refine gwp_region ?_
  refine n1 130 false (hc := kVb1.h {}) (k := ?_)
  refine v0 (k := ?_)
  refine nil0 ?_
  refine cl [0, 3] (k := ?_)
  repeat refine gwp_seq ?_
  refine rd ?_
  refine d0 0 (k := ?_)
  refine d0 1 (k := ?_)
  refine d0 2 (k := ?_)
  refine d0 3 (k := ?_)
  refine d0 4 (k := ?_)
  refine d0 5 (k := ?_)
  refine d0 6 (k := ?_)
  refine d0 7 (k := ?_)
  refine d0 8 (k := ?_)
  refine dz 9 [0, 1, 0, 4, 12, 28, 60, 127, 255] (h := ?_)
  refine de 9 (h := ?_)
  repeat refine gwp_seq ?_
  refine gwp_ret ?_
  repeat (first | refine gthen_ret ?_ | refine gblock_ret ?_ | refine gnoGoto_ret ?_)
  refine fin_ret ?_
  refine fp (hR := ?_)
  rfl
theorem ent90 : Enters Try.prog 90 := Enters.mk Try.func90 (by kernel_rfl) rfl
theorem s_test2 {E : Env Try.prog} {A : E.α} (f : Fd) (p : Sk) : Gh.Spec E 90 [.ptr [.p (.list (f.ps.map pS)), .p (.int .i64 f.el), .p (.int .i64 f.eh), .p (.int .i64 f.nl), .p (.int .i64 f.nh), .p (.int .i64 f.dl), .p (.int .i64 f.dh), .p (.int .i64 f.dep), .p (.int .i64 f.tm), .p (.int .i64 f.gp)], .p (.agg [.int .i64 p.el, .int .i64 p.eh, .int .i64 p.nl, .int .i64 p.nh, .int .i64 p.day, .int .i64 p.dep]), .ptr [.p (.fn (.func 87) [] [])]] (mkHp []) A (fun y => y = .ok (.p (.bool (tstQ f p 2))) (mkHp []) A) := by
  refine spec_of Try.func90 (rfl : Try.f90.body = some _) (Nat.le_of_ble_eq_true rfl) (fun id h => ?_) (fun j id h => ?_) ?_
  · exact wf1x h
  · exact wf2x h
  intro C hN hL
  replace hN : C.N = 26 := hN
  simp only [Gh.num, List.map_cons, List.map_nil, Nat.reduceAdd]
  repeat refine gwp_seq ?_
  refine gwp_region ?_
  refine n1 140 false (hc := kVb1.h {}) (k := ?_)
  refine v0 (k := ?_)
  refine nil0 ?_
  refine cl [0, 2, 4] (k := ?_)
  repeat refine gwp_seq ?_
  rcases hq1 : decide (max f.el p.el ≤ min f.eh p.eh) with _ | _
  · repeat refine gwp_seq ?_
    refine rd ?_
    refine d0 0 (k := ?_)
    refine d0 1 (k := ?_)
    refine d0 2 (k := ?_)
    refine d0 3 (k := ?_)
    refine d0 4 (k := ?_)
    refine d0 5 (k := ?_)
    refine d0 6 (k := ?_)
    refine d0 7 (k := ?_)
    refine dpc0 8 (spec := s_meet f.el f.eh p.el p.eh) (hent := ent87) (k := ?_)
    refine d0 9 (k := ?_)
    refine dx0 10 (k := ?_)
    refine dx0 11 (k := ?_)
    refine dx0 12 (k := ?_)
    refine dx0 13 (k := ?_)
    refine dx0 14 (k := ?_)
    refine dx0 15 (k := ?_)
    refine dx0 16 (k := ?_)
    refine dx0 17 (k := ?_)
    refine dx0 18 (k := ?_)
    refine d0 19 (k := ?_)
    refine d0 20 (k := ?_)
    refine dz 21 [0, 0, 2, 6, 14, 30, 0, 64, 255, 511, 1023, 1023, 3071, 7167, 15359, 31743, 1023, 66559, 262143, 524287, 1048575] (h := ?_)
    refine de 21 (h := ?_)
    repeat refine gwp_seq ?_
    refine gwp_ret ?_
    repeat (first | refine gthen_ret ?_ | refine gblock_ret ?_ | refine gnoGoto_ret ?_)
    refine fin_ret ?_
    refine fp (hR := ?_)
    simp only [tstQ, hq1, Bool.true_and, Bool.false_and]
  repeat refine gwp_seq ?_
  refine rd ?_
  refine d0 0 (k := ?_)
  refine d0 1 (k := ?_)
  refine d0 2 (k := ?_)
  refine d0 3 (k := ?_)
  refine d0 4 (k := ?_)
  refine d0 5 (k := ?_)
  refine d0 6 (k := ?_)
  refine d0 7 (k := ?_)
  refine dpc0 8 (spec := s_meet f.el f.eh p.el p.eh) (hent := ent87) (k := ?_)
  refine d0 9 (k := ?_)
  refine dw0 10 (k := ?_)
  refine dw0 11 (k := ?_)
  refine dw0 12 (k := ?_)
  refine dw0 13 (k := ?_)
  refine dw0 14 (k := ?_)
  refine dw0 15 (k := ?_)
  refine dw0 16 (k := ?_)
  refine dw0 17 (k := ?_)
  refine dpcw 18 (spec := s_meet f.nl f.nh p.nl p.nh) (hent := ent87) (k := ?_)
  refine d0 19 (k := ?_)
  refine d0 20 (k := ?_)
  refine dz 21 [0, 0, 2, 6, 14, 30, 0, 64, 255, 511, 1023, 1023, 3071, 7167, 15359, 31743, 1023, 66559, 262143, 524287, 1048575] (h := ?_)
  refine de 21 (h := ?_)
  repeat refine gwp_seq ?_
  refine gwp_ret ?_
  repeat (first | refine gthen_ret ?_ | refine gblock_ret ?_ | refine gnoGoto_ret ?_)
  refine fin_ret ?_
  refine fp (hR := ?_)
  simp only [tstQ, hq1, Bool.true_and, Bool.false_and]
theorem ent70 : Enters Try.prog 70 := Enters.mk Try.func70 (by kernel_rfl) rfl
theorem s_tests {E : Env Try.prog} {A : E.α}  : Gh.Spec E 70 [] (mkHp []) A (fun y => y = .ok (.fsl 130 0 3) (mkHp [(130, .cells [.p (.fn (.func 88) [] []), .p (.fn (.func 89) [] []), .fn (.func 90) [] [.ptr [.p (.fn (.func 87) [] [])]]] 0)]) A) := by
  refine spec_of Try.func70 (rfl : Try.f70.body = some _) (Nat.le_of_ble_eq_true rfl) (fun id h => ?_) (fun j id h => ?_) ?_
  · exact wf1x h
  · exact wf2x h
  intro C hN hL
  replace hN : C.N = 4 := hN
  simp only [Gh.num, List.map_cons, List.map_nil, Nat.reduceAdd]
  repeat refine gwp_seq ?_
  refine gwp_region ?_
  refine v0 (k := ?_)
  refine nil0 ?_
  refine cl [] (k := ?_)
  repeat refine gwp_seq ?_
  refine gwp_region ?_
  refine n1 110 false (hc := kVb1.h {}) (k := ?_)
  refine s1 (hc := kVb1.h {}) (k := ?_)
  refine nil0 ?_
  refine cl [1] (k := ?_)
  repeat refine gwp_seq ?_
  refine fz 110 1 [.k] (k := ?_)
  refine gwp_region ?_
  refine v0 (k := ?_)
  refine ocv 2 (.f [.n [.k]]) (k := ?_)
  refine n1 130 false (hc := kVb1.h {}) (k := ?_)
  refine v0 (k := ?_)
  refine nil0 ?_
  repeat refine gwp_seq ?_
  refine gwp_ret ?_
  repeat (first | refine gthen_ret ?_ | refine gblock_ret ?_ | refine gnoGoto_ret ?_)
  refine fin_ret ?_
  refine fh [130] (hR := ?_)
  rfl
theorem ent71 : Enters Try.prog 71 := Enters.mk Try.func71 (by kernel_rfl) rfl
theorem s_not0 {E : Env Try.prog} {A : E.α} (f : Fd) (p : Sk) (u : Nat) (es : List (P × P)) : Gh.Spec E 71 [.p (.fn (.func 88) [] []), .ref 0 0, .ptr [.p (.int .i64 p.el), .p (.int .i64 p.eh), .p (.int .i64 p.nl), .p (.int .i64 p.nh), .p (.int .i64 p.day), .p (.int .i64 p.dep)]] (mkHp [(0, .cells [.ref 1 0] 0), (1, .cells [.p (.list (f.ps.map pS)), .p (.int .i64 f.el), .p (.int .i64 f.eh), .p (.int .i64 f.nl), .p (.int .i64 f.nh), .p (.int .i64 f.dl), .p (.int .i64 f.dh), .p (.int .i64 f.dep), .p (.int .i64 f.tm), .p (.int .i64 f.gp), .p (.int .u64 (u : Nat)), .map 2] 10), (2, .map es)]) A (fun y => y = .ok (.p (.bool (!tstQ f p 0))) (mkHp [(0, .cells [.ref 1 0] 0), (1, .cells [.p (.list (f.ps.map pS)), .p (.int .i64 f.el), .p (.int .i64 f.eh), .p (.int .i64 f.nl), .p (.int .i64 f.nh), .p (.int .i64 f.dl), .p (.int .i64 f.dh), .p (.int .i64 f.dep), .p (.int .i64 f.tm), .p (.int .i64 f.gp), .p (.int .u64 (u : Nat)), .map 2] 10), (2, .map es)]) A) := by
  refine spec_of Try.func71 (rfl : Try.f71.body = some _) (Nat.le_of_ble_eq_true rfl) (fun id h => ?_) (fun j id h => ?_) ?_
  · exact wf1x h
  · exact wf2x h
  intro C hN hL
  replace hN : C.N = 10 := hN
  simp only [Gh.num, List.map_cons, List.map_nil, Nat.reduceAdd]
  repeat refine gwp_seq ?_
  refine gwp_region ?_
  refine v0 (k := ?_)
  refine nil0 ?_
  refine cl [0, 1, 2] (k := ?_)
  repeat refine gwp_seq ?_
  refine gwp_region ?_
  refine v0 (k := ?_)
  refine v0 (k := ?_)
  refine v0 (k := ?_)
  refine oc0 [] [1] [13, 0] none (spec := s_test0 f p) (hent := ent88) (k := ?_)
  refine v0 (k := ?_)
  refine v0 (k := ?_)
  refine nil0 ?_
  repeat refine gwp_seq ?_
  refine gwp_ret ?_
  repeat (first | refine gthen_ret ?_ | refine gblock_ret ?_ | refine gnoGoto_ret ?_)
  refine fin_ret ?_
  refine fh [0, 1, 2] (hR := ?_)
  rfl
theorem s_not1 {E : Env Try.prog} {A : E.α} (f : Fd) (p : Sk) (u : Nat) (es : List (P × P)) : Gh.Spec E 71 [.p (.fn (.func 89) [] []), .ref 0 0, .ptr [.p (.int .i64 p.el), .p (.int .i64 p.eh), .p (.int .i64 p.nl), .p (.int .i64 p.nh), .p (.int .i64 p.day), .p (.int .i64 p.dep)]] (mkHp [(0, .cells [.ref 1 0] 0), (1, .cells [.p (.list (f.ps.map pS)), .p (.int .i64 f.el), .p (.int .i64 f.eh), .p (.int .i64 f.nl), .p (.int .i64 f.nh), .p (.int .i64 f.dl), .p (.int .i64 f.dh), .p (.int .i64 f.dep), .p (.int .i64 f.tm), .p (.int .i64 f.gp), .p (.int .u64 (u : Nat)), .map 2] 10), (2, .map es)]) A (fun y => y = .ok (.p (.bool (!tstQ f p 1))) (mkHp [(0, .cells [.ref 1 0] 0), (1, .cells [.p (.list (f.ps.map pS)), .p (.int .i64 f.el), .p (.int .i64 f.eh), .p (.int .i64 f.nl), .p (.int .i64 f.nh), .p (.int .i64 f.dl), .p (.int .i64 f.dh), .p (.int .i64 f.dep), .p (.int .i64 f.tm), .p (.int .i64 f.gp), .p (.int .u64 (u : Nat)), .map 2] 10), (2, .map es)]) A) := by
  refine spec_of Try.func71 (rfl : Try.f71.body = some _) (Nat.le_of_ble_eq_true rfl) (fun id h => ?_) (fun j id h => ?_) ?_
  · exact wf1x h
  · exact wf2x h
  intro C hN hL
  replace hN : C.N = 10 := hN
  simp only [Gh.num, List.map_cons, List.map_nil, Nat.reduceAdd]
  repeat refine gwp_seq ?_
  refine gwp_region ?_
  refine v0 (k := ?_)
  refine nil0 ?_
  refine cl [0, 1, 2] (k := ?_)
  repeat refine gwp_seq ?_
  refine gwp_region ?_
  refine v0 (k := ?_)
  refine v0 (k := ?_)
  refine v0 (k := ?_)
  refine oc0 [] [1] [13, 0] none (spec := s_test1 f p) (hent := ent89) (k := ?_)
  refine v0 (k := ?_)
  refine v0 (k := ?_)
  refine nil0 ?_
  repeat refine gwp_seq ?_
  refine gwp_ret ?_
  repeat (first | refine gthen_ret ?_ | refine gblock_ret ?_ | refine gnoGoto_ret ?_)
  refine fin_ret ?_
  refine fh [0, 1, 2] (hR := ?_)
  rfl
theorem s_not2 {E : Env Try.prog} {A : E.α} (f : Fd) (p : Sk) (u : Nat) (es : List (P × P)) : Gh.Spec E 71 [.fn (.func 90) [] [.ptr [.p (.fn (.func 87) [] [])]], .ref 0 0, .ptr [.p (.int .i64 p.el), .p (.int .i64 p.eh), .p (.int .i64 p.nl), .p (.int .i64 p.nh), .p (.int .i64 p.day), .p (.int .i64 p.dep)]] (mkHp [(0, .cells [.ref 1 0] 0), (1, .cells [.p (.list (f.ps.map pS)), .p (.int .i64 f.el), .p (.int .i64 f.eh), .p (.int .i64 f.nl), .p (.int .i64 f.nh), .p (.int .i64 f.dl), .p (.int .i64 f.dh), .p (.int .i64 f.dep), .p (.int .i64 f.tm), .p (.int .i64 f.gp), .p (.int .u64 (u : Nat)), .map 2] 10), (2, .map es)]) A (fun y => y = .ok (.p (.bool (!tstQ f p 2))) (mkHp [(0, .cells [.ref 1 0] 0), (1, .cells [.p (.list (f.ps.map pS)), .p (.int .i64 f.el), .p (.int .i64 f.eh), .p (.int .i64 f.nl), .p (.int .i64 f.nh), .p (.int .i64 f.dl), .p (.int .i64 f.dh), .p (.int .i64 f.dep), .p (.int .i64 f.tm), .p (.int .i64 f.gp), .p (.int .u64 (u : Nat)), .map 2] 10), (2, .map es)]) A) := by
  refine spec_of Try.func71 (rfl : Try.f71.body = some _) (Nat.le_of_ble_eq_true rfl) (fun id h => ?_) (fun j id h => ?_) ?_
  · exact wf1x h
  · exact wf2x h
  intro C hN hL
  replace hN : C.N = 10 := hN
  simp only [Gh.num, List.map_cons, List.map_nil, Nat.reduceAdd]
  repeat refine gwp_seq ?_
  refine gwp_region ?_
  refine v0 (k := ?_)
  refine nil0 ?_
  refine cl [0, 1, 2] (k := ?_)
  repeat refine gwp_seq ?_
  refine gwp_region ?_
  refine v0 (k := ?_)
  refine v0 (k := ?_)
  refine v0 (k := ?_)
  refine oc0 [] [1] [13, 0, 0] none (spec := s_test2 f p) (hent := ent90) (k := ?_)
  refine v0 (k := ?_)
  refine v0 (k := ?_)
  refine nil0 ?_
  repeat refine gwp_seq ?_
  refine gwp_ret ?_
  repeat (first | refine gthen_ret ?_ | refine gblock_ret ?_ | refine gnoGoto_ret ?_)
  refine fin_ret ?_
  refine fh [0, 1, 2] (hR := ?_)
  rfl
end Go.Proofs.Ytabeeaiilanmjaa

/- The table of places: which plates have each. -/
namespace Go.Proofs.Ytabeeaiilanmjaa
open Go.Gh
set_option maxRecDepth 100000
theorem bitop_or_u64 (x y : Nat) (hx : x < 2 ^ 62) (hy : y < 2 ^ 62) : bitop .or .u64 (x : Int) (y : Int) = ((x ||| y : Nat) : Int) := by
  have e1 : (BitVec.ofInt 64 (x : Int)).toNat = x := by rw [BitVec.toNat_ofInt]; omega
  have e2 : (BitVec.ofInt 64 (y : Int)).toNat = y := by rw [BitVec.toNat_ofInt]; omega
  have h : (x ||| y) < 2 ^ 62 := Nat.or_lt_two_pow hx hy
  show IntKind.u64.wrap ((BitVec.ofInt 64 (x : Int) ||| BitVec.ofInt 64 (y : Int)).toNat : Int) = _
  rw [BitVec.toNat_or, e1, e2]
  exact IntWalk.u64_in ((x ||| y : Nat) : Int) (by omega)
theorem und3 : Try.prog.underlying 3 = some (.int .i64) := by kernel_rfl
theorem und73 : Try.prog.underlying 73 = some (.struct #[{ name := "east", type := 3, offset := 0, embedded := false, tag := "", pkgPath := "zoneworks/cover", byteOffset := 0 }, { name := "north", type := 3, offset := 1, embedded := false, tag := "", pkgPath := "zoneworks/cover", byteOffset := 8 }]) := by kernel_rfl
theorem geq_int3 (d : Nat) (a c : Int) : geq Try.prog (d + 1) 3 (.int .i64 a) (.int .i64 c) = some (decide (a = c)) := by
  unfold geq
  rw [und3]
  rfl
theorem geq_pl (a b c e : Int) : geq Try.prog 6 73 (.agg [.int .i64 a, .int .i64 b]) (.agg [.int .i64 c, .int .i64 e]) = some (decide (a = c) && (decide (b = e) && true)) := by
  unfold geq
  rw [und73]
  have hst : Try.prog.stoodInHeld 73 = false := by kernel_rfl
  simp only [hst, Bool.false_eq_true, if_false, List.map_cons, List.map_nil]
  have p0 : ∀ (u v : Int), ppart Try.prog 3 [.int .i64 u, .int .i64 v] 0 = some (.int .i64 u) := fun u v => by unfold ppart; rw [ti_3]; rfl
  have p1 : ∀ (u v : Int), ppart Try.prog 3 [.int .i64 u, .int .i64 v] 1 = some (.int .i64 v) := fun u v => by unfold ppart; rw [ti_3]; rfl
  rw [p0, p0, p1, p1]
  rw [if_neg (by decide), if_neg (by decide)]
  simp only []
  rw [geq_int3, geq_int3]
  rfl
def keyP (x y : Int) : P := .agg [.int .i64 x, .int .i64 y]
theorem key_iff {a b c e : Int} : geq Try.prog 6 73 (keyP a b) (keyP c e) = some true ↔ a = c ∧ b = e := by
  rw [keyP, keyP, geq_pl]
  simp only [Option.some.injEq, Bool.and_true, Bool.and_eq_true, decide_eq_true_eq]
/-- Tables of places: the keys are places, the values sets. -/
def MK (es : List (P × P)) : Prop := ∀ e ∈ es, ∃ (x y : Int) (n : Nat), e = (keyP x y, .int .u64 (n : Nat)) ∧ n < 4096
theorem MK.nil : MK [] := fun e h => by cases h
theorem MK.ok {es : List (P × P)} (h : MK es) (x y : Int) : keysOk (geq Try.prog 6 73) (keyP x y) es := by
  refine ⟨by rw [keyP, geq_pl]; rfl, fun e he => ?_⟩
  obtain ⟨c, d, n, rfl, _⟩ := h e he
  refine ⟨by rw [keyP, keyP, geq_pl]; rfl, fun hh => ?_⟩
  obtain ⟨rfl, rfl⟩ := key_iff.1 hh
  rfl
noncomputable def lookN (es : List (P × P)) (x y : Int) : Nat := match mapGet (geq Try.prog 6 73) (keyP x y) es with | some (.int _ n) => n.toNat | _ => 0
theorem MK.get {es : List (P × P)} (h : MK es) (x y : Int) : (mapGet (geq Try.prog 6 73) (keyP x y) es = none ∧ lookN es x y = 0) ∨ (mapGet (geq Try.prog 6 73) (keyP x y) es = some (.int .u64 (lookN es x y : Nat)) ∧ lookN es x y < 4096) := by
  unfold lookN
  induction es with
  | nil => exact .inl ⟨rfl, rfl⟩
  | cons e es ih =>
    obtain ⟨c, d, n, rfl, hn⟩ := h e List.mem_cons_self
    simp only [mapGet]
    split
    · right; exact ⟨rfl, by simpa using hn⟩
    exact ih fun e he => h e (List.mem_cons_of_mem _ he)
theorem MK.lt {es : List (P × P)} (h : MK es) (x y : Int) : lookN es x y < 4096 := by
  rcases h.get x y with ⟨_, e⟩ | ⟨_, e⟩ <;> omega
theorem MK.put {es : List (P × P)} (h : MK es) (x y : Int) {n : Nat} (hn : n < 4096) : MK (mapPut (geq Try.prog 6 73) (keyP x y) (.int .u64 (n : Nat)) es) := by
  induction es with
  | nil => intro e he; simp only [mapPut, List.mem_singleton] at he; exact ⟨x, y, n, he, hn⟩
  | cons e0 es ih =>
    obtain ⟨k0, v0⟩ := e0
    intro e he
    simp only [mapPut] at he
    split at he
    · rcases List.mem_cons.1 he with rfl | he
      · exact ⟨x, y, n, rfl, hn⟩
      exact h e (List.mem_cons_of_mem _ he)
    rcases List.mem_cons.1 he with rfl | he
    · exact h _ List.mem_cons_self
    exact ih (fun e he => h e (List.mem_cons_of_mem _ he)) e he
theorem MK.ent {es : List (P × P)} (h : MK es) (x y : Int) : MK (entPut (geq Try.prog 6 73) (keyP x y) (.int .u64 0) es) := by
  unfold entPut
  split
  · exact h
  intro e he
  rcases List.mem_append.1 he with he | he
  · exact h e he
  rw [List.mem_singleton] at he
  exact ⟨x, y, 0, he, by omega⟩
theorem get_put {a b c e : Int} {v : P} : ∀ {es : List (P × P)}, MK es → mapGet (geq Try.prog 6 73) (keyP a b) (mapPut (geq Try.prog 6 73) (keyP c e) v es) = if a = c ∧ b = e then some v else mapGet (geq Try.prog 6 73) (keyP a b) es
  | [], _ => by simp only [mapPut, mapGet, key_iff]
  | (k1, v1) :: es, h => by
    obtain ⟨c1, e1, n, hk, _⟩ := h (k1, v1) List.mem_cons_self
    simp only [Prod.mk.injEq] at hk
    obtain ⟨rfl, rfl⟩ := hk
    have ih := get_put (a := a) (b := b) (c := c) (e := e) (v := v) (es := es) fun y hy => h y (List.mem_cons_of_mem _ hy)
    simp only [mapPut, key_iff]
    by_cases h1 : c = c1 ∧ e = e1
    · rw [if_pos h1]
      obtain ⟨rfl, rfl⟩ := h1
      simp only [mapGet, key_iff]
      by_cases h2 : a = c ∧ b = e
      · rw [if_pos h2, if_pos h2]
      rw [if_neg h2, if_neg h2, if_neg h2]
    rw [if_neg h1]
    simp only [mapGet, key_iff, ih]
    by_cases h2 : a = c ∧ b = e
    · obtain ⟨rfl, rfl⟩ := h2
      rw [if_neg h1, if_pos ⟨rfl, rfl⟩, if_pos ⟨rfl, rfl⟩]
    rw [if_neg h2, if_neg h2]
theorem look_put {a b c e : Int} {n : Nat} {es : List (P × P)} (h : MK es) : lookN (mapPut (geq Try.prog 6 73) (keyP c e) (.int .u64 (n : Nat)) es) a b = if a = c ∧ b = e then n else lookN es a b := by
  unfold lookN
  rw [get_put h]
  by_cases h2 : a = c ∧ b = e
  · rw [if_pos h2, if_pos h2]; simp
  rw [if_neg h2, if_neg h2]
theorem look_or {es : List (P × P)} (h : MK es) (x y : Int) : orZero (zeroG ⟨.int .u64, 1, 8, [.p (.int .u64 0)], false⟩) (mapGet (geq Try.prog 6 73) (keyP x y) es) = some ((mapGet (geq Try.prog 6 73) (keyP x y) es).isSome, .p (.int .u64 (lookN es x y : Nat))) := by
  rcases h.get x y with ⟨e1, e2⟩ | ⟨e1, e2⟩
  · rw [e1, e2]; rfl
  rw [e1]; rfl
theorem look_ent {es : List (P × P)} (x y : Int) : lookN (entPut (geq Try.prog 6 73) (keyP x y) (.int .u64 0) es) x y = lookN es x y := by
  unfold entPut
  split
  · rfl
  rename_i hn
  have hg : ∀ es : List (P × P), mapGet (geq Try.prog 6 73) (keyP x y) es = none → mapGet (geq Try.prog 6 73) (keyP x y) (es ++ [(keyP x y, .int .u64 0)]) = some (.int .u64 0) := fun es => by
    induction es with
    | nil => intro _; simp only [List.nil_append, mapGet, key_iff, and_self, if_true]
    | cons e es ih =>
      intro h
      obtain ⟨k0, v0⟩ := e
      simp only [mapGet] at h
      split at h
      · cases h
      rename_i hk
      simp only [List.cons_append, mapGet, if_neg hk]
      exact ih h
  unfold lookN
  rw [hg es hn, hn]; rfl
/-- A plate more has a place; a column of places; a rectangle; the first plates. -/
noncomputable def putB (k : Nat) (x y : Int) (es : List (P × P)) : List (P × P) := mapPut (geq Try.prog 6 73) (keyP x y) (.int .u64 ((lookN es x y ||| 2 ^ k : Nat) : Int)) es
noncomputable def colM (k : Nat) (x y0 : Int) (es : List (P × P)) : Nat → List (P × P)
  | 0 => es
  | m + 1 => putB k x (y0 + m) (colM k x y0 es m)
noncomputable def rowM (k : Nat) (x0 y0 : Int) (h : Nat) (es : List (P × P)) : Nat → List (P × P)
  | 0 => es
  | m + 1 => colM k (x0 + m) y0 (rowM k x0 y0 h es m) h
def ovW (f : Fd) (p : Sk) : Nat := (min p.eh f.eh - max p.el f.el + 1).toNat
def ovH (f : Fd) (p : Sk) : Nat := (min p.nh f.nh - max p.nl f.nl + 1).toNat
noncomputable def plM (f : Fd) : Nat → List (P × P)
  | 0 => []
  | k + 1 => match f.ps[k]? with
    | some p => if useQ f p = true then rowM k (max p.el f.el) (max p.nl f.nl) (ovH f p) (plM f k) (ovW f p) else plM f k
    | none => plM f k
section
variable {k : Nat} (hk : k < 12)
include hk
theorem or_lt12 {n : Nat} (h : n < 4096) : n ||| 2 ^ k < 4096 := Nat.or_lt_two_pow (n := 12) h (Nat.pow_lt_pow_right (by omega) hk)
theorem MK.putB {es : List (P × P)} (h : MK es) (x y : Int) : MK (putB k x y es) := h.put x y (or_lt12 hk (h.lt x y))
theorem MK.col {x y0 : Int} {es : List (P × P)} (h : MK es) : ∀ m, MK (colM k x y0 es m)
  | 0 => h
  | m + 1 => (MK.col h m).putB hk x (y0 + m)
theorem MK.row {x0 y0 : Int} {hh : Nat} {es : List (P × P)} (h : MK es) : ∀ m, MK (rowM k x0 y0 hh es m)
  | 0 => h
  | m + 1 => (MK.row h m).col hk hh
omit hk in
theorem look_putB {es : List (P × P)} (h : MK es) (x y a b : Int) : lookN (Ytabeeaiilanmjaa.putB k x y es) a b = if a = x ∧ b = y then lookN es a b ||| 2 ^ k else lookN es a b := by
  rw [Ytabeeaiilanmjaa.putB, look_put h]
  by_cases e : a = x ∧ b = y
  · rw [if_pos e, if_pos e, e.1, e.2]
  rw [if_neg e, if_neg e]
theorem look_col {x y0 : Int} {es : List (P × P)} (h : MK es) (a b : Int) : ∀ m : Nat, lookN (colM k x y0 es m) a b = if a = x ∧ y0 ≤ b ∧ b < y0 + m then lookN es a b ||| 2 ^ k else lookN es a b
  | 0 => by rw [if_neg (by omega)]; rfl
  | m + 1 => by
    rw [colM, look_putB (MK.col hk h m), look_col h a b m]
    by_cases e : a = x ∧ b = y0 + m
    · rw [if_pos e, if_neg (by omega), if_pos (by omega)]
    rw [if_neg e]
    by_cases e2 : a = x ∧ y0 ≤ b ∧ b < y0 + m
    · rw [if_pos e2, if_pos (by omega)]
    rw [if_neg e2, if_neg (by omega)]
theorem look_row {x0 y0 : Int} {hh : Nat} {es : List (P × P)} (h : MK es) (a b : Int) : ∀ m : Nat, lookN (rowM k x0 y0 hh es m) a b = if (x0 ≤ a ∧ a < x0 + m) ∧ y0 ≤ b ∧ b < y0 + hh then lookN es a b ||| 2 ^ k else lookN es a b
  | 0 => by rw [if_neg (by omega)]; rfl
  | m + 1 => by
    rw [rowM, look_col hk (MK.row hk h m), look_row h a b m]
    by_cases e : a = x0 + m ∧ y0 ≤ b ∧ b < y0 + hh
    · rw [if_pos e, if_neg (by omega), if_pos (by omega)]
    rw [if_neg e]
    by_cases e2 : (x0 ≤ a ∧ a < x0 + m) ∧ y0 ≤ b ∧ b < y0 + hh
    · rw [if_pos e2, if_pos (by omega)]
    rw [if_neg e2, if_neg (by omega)]
end
theorem MK.pl {f : Fd} : ∀ k, k ≤ 12 → MK (plM f k)
  | 0, _ => MK.nil
  | k + 1, hk => by
    have ih := MK.pl (f := f) k (by omega)
    rw [plM]
    split
    · split
      · exact ih.row (by omega) _
      exact ih
    exact ih
theorem setN_next {q : Nat → Bool} {k : Nat} (h : q k = true) : setN q (k + 1) = setN q k ||| 2 ^ k := by rw [setN, if_pos h]
theorem setN_skip {q : Nat → Bool} {k : Nat} (h : q k = false) : setN q (k + 1) = setN q k := by rw [setN, if_neg (by simp [h])]
/-- What the table says of the places of the field. -/
theorem look_pl {f : Fd} {x y : Int} (hx : f.el ≤ x ∧ x ≤ f.eh) (hy : f.nl ≤ y ∧ y ≤ f.nh) : ∀ k, k ≤ 12 → k ≤ f.ps.length → lookN (plM f k) x y = atK f x y k
  | 0, _, _ => rfl
  | k + 1, hk, hl => by
    have ih := look_pl hx hy k (by omega) (by omega)
    obtain ⟨p, hp⟩ := getE (l := f.ps) (k := k) (by omega)
    have hq : plQ (fun p => useQ f p && hasQ p x y) f.ps k = (useQ f p && hasQ p x y) := by rw [plQ, hp]
    rw [plM, hp, atK]
    simp only []
    by_cases hu : useQ f p = true
    · rw [if_pos hu, look_row (by omega) (MK.pl k (by omega)), ih]
      rw [hu, Bool.true_and] at hq
      have hh := hu
      simp only [useQ, inB, Bool.and_eq_true, decide_eq_true_eq] at hh
      cases hz : hasQ p x y with
      | true =>
        rw [hz] at hq
        simp only [hasQ, inB, Bool.and_eq_true, decide_eq_true_eq] at hz
        rw [if_pos (by simp only [ovW, ovH]; omega), setN_next hq]; rfl
      | false =>
        rw [hz] at hq
        rw [setN_skip hq, if_neg]
        · rfl
        intro h
        have : hasQ p x y = true := by
          simp only [hasQ, inB, Bool.and_eq_true, decide_eq_true_eq]
          simp only [ovW, ovH] at h
          omega
        rw [hz] at this; cases this
    rw [if_neg hu, ih]
    rw [show useQ f p = false by simpa using hu, Bool.false_and] at hq
    rw [setN_skip hq]; rfl
theorem look_at {f : Fd} (hv : f.valid = true) {x y : Int} (hx : f.el ≤ x ∧ x ≤ f.eh) (hy : f.nl ≤ y ∧ y ≤ f.nh) : lookN (plM f f.ps.length) x y = atN f x y := by
  have hn := valid_num hv
  exact look_pl hx hy _ (by omega) (Nat.le_refl _)
theorem used_next {f : Fd} {k : Nat} {p : Sk} (hp : f.ps[k]? = some p) (h : useQ f p = true) : usedN f (k + 1) = usedN f k ||| 2 ^ k := setN_next (by rw [plQ, hp]; exact h)
theorem used_skip {f : Fd} {k : Nat} {p : Sk} (hp : f.ps[k]? = some p) (h : useQ f p = false) : usedN f (k + 1) = usedN f k := setN_skip (by rw [plQ, hp]; exact h)
theorem used_lt (f : Fd) {k : Nat} (hk : k ≤ 12) : usedN f k < 4096 := Nat.lt_of_lt_of_le (setN_lt2 _ k) (Nat.pow_le_pow_right (by omega) hk)
theorem plM_next {f : Fd} {k : Nat} {p : Sk} (hp : f.ps[k]? = some p) (h : useQ f p = true) : plM f (k + 1) = rowM k (max p.el f.el) (max p.nl f.nl) (ovH f p) (plM f k) (ovW f p) := by
  rw [plM, hp]; simp only []; rw [if_pos h]
theorem plM_skip {f : Fd} {k : Nat} {p : Sk} (hp : f.ps[k]? = some p) (h : useQ f p = false) : plM f (k + 1) = plM f k := by
  rw [plM, hp]; simp only []; rw [if_neg (by simp [h])]
end Go.Proofs.Ytabeeaiilanmjaa

/- Rules for sums that are wrapped. -/
namespace Go.Proofs.Ytabeeaiilanmjaa
open Go.Gh
set_option maxRecDepth 100000
variable {E : Env Try.prog} {C : Cx E} {r : Option Nat} {ops : Array Oper} {Q : GE → Sg E → Prop} {rest lst : List Oper} {l l' : List (Nat × G)} {m : List (Nat × Ob)} {A : E.α} {df : List GD}
variable {t : Nat} {op : Op} {ty : TypeId} {pos : String} {af : Array Edge} {c : Prop} {g : G} {ob : Ob} {i j : Nat} {gd : Option (Nat × Bool)} {b x : Bool} {cd : Code} {J : List Nat}
section
variable {lo : Nat} {σ0 : Sg E} {ids ids' : List (List Nat × List Nat)}
end
end Go.Proofs.Ytabeeaiilanmjaa

/- More rules of written-out states: a region's ways brought together; objects that hold slices of the call's own. -/
namespace Go.Proofs.Ytabeeaiilanmjaa
open Go.Gh
set_option maxRecDepth 100000
structure eF1 {α : Type} (a b : α) : Prop where
  h : a = b := by (simp only [reach, frIds, dfIds, gdIdl, obIdl, hpIds, restrictL, dedupL, pickL, subB, G.idl, G.idls, idls_p, List.nil_append, List.append_nil, List.cons_append, mkHp_cons, mkHp_nil, Nat.reduceEqDiff, reduceIte, List.mem_cons, List.not_mem_nil, or_false, or_true, true_or, false_or, List.filter_cons, List.filter_nil, ne_eq, not_true_eq_false, not_false_eq_true, decide_true, decide_false, Bool.false_eq_true, List.all_cons, List.all_nil, Bool.and_true, idls_told, idls_nil1] <;> rfl)
structure eF2 {α : Type} (a b : α) : Prop where
  h : a = b := by (simp only [frIds, dfIds, gdIdl, obIdl, hpIds, restrictL, dedupL, pickL, subB, G.idl, G.idls, idls_p, List.nil_append, List.append_nil, List.cons_append, mkHp_cons, mkHp_nil, Nat.reduceEqDiff, reduceIte, List.mem_cons, List.not_mem_nil, or_false, or_true, true_or, false_or, List.filter_cons, List.filter_nil, ne_eq, not_true_eq_false, not_false_eq_true, decide_true, decide_false, Bool.false_eq_true, List.all_cons, List.all_nil, Bool.and_true, idls_told, idls_nil1] <;> rfl)
variable {E : Env Try.prog} {C : Cx E} {r : Option Nat} {ops : Array Oper} {Q : GE → Sg E → Prop} {rest lst : List Oper} {l l' : List (Nat × G)} {m : List (Nat × Ob)} {A : E.α} {df : List GD} {c : Prop} {g : G} {cd : Code}
end Go.Proofs.Ytabeeaiilanmjaa

/- A rule of written-out states: leaving with a value that nobody turns, and objects. -/
namespace Go.Proofs.Ytabeeaiilanmjaa
open Go.Gh
set_option maxRecDepth 100000
structure eG1 {α : Type} (a b : α) : Prop where
  h : a = b := by (simp only [gresult, gresL, gres1, tup_nil, tup_one, tup_two, gsem, gev, ofV, mkFr_cons, mkFr_nil, mkHp_cons, mkHp_nil, upd, yes, lift, gbinAt, gnilEq, gbin, gint, gshift, arith, gpick, gload, gstore, splice, gbox, gfill, placesL, gbuildSlice, gfieldAddr, gfield, gelem, gindexAddr, gindex, gbound, gslice, glen, gsource, gappend, gmin, gminL, gmax, gmaxL, mapGet, mapPut, zeroG, orZero, glookup, gmapUpdate, gmapEntry, gentryStore, Option.getD_none, Option.getD_some, gconvert, gtypeAssert, gextract, isConst, gnilCheck, gunOp, gmakeSlice, intOf, mkAgg, mkFn, mkIface, mkTuple, allP, G.cells, good, goods, allOne, G.one, P.one, allP_p, allOne_p, goods_p, toPs_p, all_int, take_all, isAggD, isIfaceD, toP, toPs, P.size, P.cells, List.map_cons, List.map_nil, List.take_succ_cons, List.take_zero, List.drop_succ_cons, List.drop_zero, List.take_nil, List.drop_nil, List.cons_append, List.nil_append, List.append_nil, List.length_cons, List.length_nil, List.getElem?_cons_zero, List.getElem?_cons_succ, List.getElem?_nil, List.set_cons_zero, List.set_cons_succ, List.flatMap_cons, List.flatMap_nil, List.getElem?_toArray, List.getElem?_map, List.length_map, Option.map_some, Option.map_none, Nat.mul_one, List.length_set, set_map_p, set_map_int, Nat.reduceEqDiff, Nat.reduceAdd, Nat.reduceMul, Nat.reduceSub, Nat.reduceLeDiff, Nat.add_zero, Nat.zero_add, Int.toNat_natCast, Int.reduceToNat, reduceIte, reduceCtorEq, eq_self, if_true, if_false, and_true, true_and, true_or, or_true, or_false, false_or, Bool.false_eq_true, ne_eq, not_true_eq_false, not_false_eq_true, cond_true, cond_false, Bool.and_true, Bool.true_and, Bool.and_false, Bool.false_and, Bool.or_true, Bool.true_or, Bool.or_false, Bool.false_or, Bool.not_true, Bool.not_false, ti_3, ti_4, ti_5, ti_9, ti_20, ti_22, ti_24, ti_26, ti_29, ti_37, ti_42, ti_44, ti_45, ti_48, ti_50, ti_51, ti_52, ti_55, ti_60, ti_61, ti_62, ti_63, ti_65, ti_66, ti_71, ti_73, ti_74, ti_75, ti_78, ti_79, ti_83, ti_85, ti_86, ti_90, ti_100, ti_102, ti_103, ti_105, ti_106, ti_108, ti_111, ti_114, ti_115, ti_117, ti_120, ti_125, ti_127, ti_130, ti_136, ti_140, ti_142] <;> rfl)
structure eG2 {α : Type} (a b : α) : Prop where
  h : a = b := by (simp only [frIds, dfIds, gdIdl, obIdl, hpIds, restrictL, dedupL, pickL, subB, G.idl, G.idls, idls_p, List.nil_append, List.append_nil, List.cons_append, mkHp_cons, mkHp_nil, Nat.reduceEqDiff, reduceIte, List.mem_cons, List.not_mem_nil, or_false, or_true, true_or, false_or, List.filter_cons, List.filter_nil, ne_eq, not_true_eq_false, not_false_eq_true, decide_true, decide_false, Bool.false_eq_true, List.all_cons, List.all_nil, Bool.and_true] <;> rfl)
variable {E : Env Try.prog} {l : List (Nat × G)} {m : List (Nat × Ob)} {A : E.α} {g : G}
end Go.Proofs.Ytabeeaiilanmjaa

/- Rules of written-out states: a region in any order, in which an entry of a map is put anew from what it was. -/
namespace Go.Proofs.Ytabeeaiilanmjaa
open Go.Gh
set_option maxRecDepth 100000
structure eL1 {α : Type} (a b : α) : Prop where
  h : a = b := by (simp only [opIds, Op.operands, gev, mkFr_cons, Nat.reduceEqDiff, reduceIte, List.flatMap_cons, List.flatMap_nil, List.map_cons, List.map_nil, G.idl, G.idls, idls_p, List.append_nil, List.nil_append, List.cons_append, ofV, Call.operands, List.append_toArray, Array.toList_append, Option.toArray_none, Option.toArray_some] <;> rfl)
structure eL2 {α : Type} (a b : α) : Prop where
  h : a = b := by (simp only [rhp, List.mem_cons, List.not_mem_nil, gsem, gev, ofV, mkFr_cons, mkFr_nil, mkHp_cons, mkHp_nil, upd, yes, lift, gbinAt, gnilEq, gbin, gint, gshift, arith, gpick, gload, gstore, splice, gbox, gfill, placesL, gbuildSlice, gfieldAddr, gfield, gelem, gindexAddr, gindex, gbound, gslice, glen, gsource, gappend, gmin, gminL, gmax, gmaxL, mapGet, mapPut, zeroG, orZero, glookup, gmapUpdate, gmapEntry, gentryStore, Option.getD_none, Option.getD_some, gconvert, gtypeAssert, gextract, isConst, gnilCheck, gunOp, gmakeSlice, intOf, mkAgg, mkFn, mkIface, mkTuple, allP, G.cells, good, goods, allOne, G.one, P.one, allP_p, allOne_p, goods_p, toPs_p, all_int, take_all, isAggD, isIfaceD, toP, toPs, P.size, P.cells, List.map_cons, List.map_nil, List.take_succ_cons, List.take_zero, List.drop_succ_cons, List.drop_zero, List.take_nil, List.drop_nil, List.cons_append, List.nil_append, List.append_nil, List.length_cons, List.length_nil, List.getElem?_cons_zero, List.getElem?_cons_succ, List.getElem?_nil, List.set_cons_zero, List.set_cons_succ, List.flatMap_cons, List.flatMap_nil, List.getElem?_toArray, List.getElem?_map, List.length_map, Option.map_some, Option.map_none, Nat.mul_one, List.length_set, set_map_p, set_map_int, Nat.reduceEqDiff, Nat.reduceAdd, Nat.reduceMul, Nat.reduceSub, Nat.reduceLeDiff, Nat.add_zero, Nat.zero_add, Int.toNat_natCast, Int.reduceToNat, reduceIte, reduceCtorEq, eq_self, if_true, if_false, and_true, true_and, true_or, or_true, or_false, false_or, Bool.false_eq_true, ne_eq, not_true_eq_false, not_false_eq_true, cond_true, cond_false, Bool.and_true, Bool.true_and, Bool.and_false, Bool.false_and, Bool.or_true, Bool.true_or, Bool.or_false, Bool.false_or, Bool.not_true, Bool.not_false, ti_3, ti_4, ti_5, ti_9, ti_20, ti_22, ti_24, ti_26, ti_29, ti_37, ti_42, ti_44, ti_45, ti_48, ti_50, ti_51, ti_52, ti_55, ti_60, ti_61, ti_62, ti_63, ti_65, ti_66, ti_71, ti_73, ti_74, ti_75, ti_78, ti_79, ti_83, ti_85, ti_86, ti_90, ti_100, ti_102, ti_103, ti_105, ti_106, ti_108, ti_111, ti_114, ti_115, ti_117, ti_120, ti_125, ti_127, ti_130, ti_136, ti_140, ti_142, *] <;> rfl)
structure eL3 {α : Type} (a b : α) : Prop where
  h : a = b := by (simp only [ti_3, ti_4, ti_5, ti_9, ti_20, ti_22, ti_24, ti_26, ti_29, ti_37, ti_42, ti_44, ti_45, ti_48, ti_50, ti_51, ti_52, ti_55, ti_60, ti_61, ti_62, ti_63, ti_65, ti_66, ti_71, ti_73, ti_74, ti_75, ti_78, ti_79, ti_83, ti_85, ti_86, ti_90, ti_100, ti_102, ti_103, ti_105, ti_106, ti_108, ti_111, ti_114, ti_115, ti_117, ti_120, ti_125, ti_127, ti_130, ti_136, ti_140, ti_142] <;> rfl)
variable {E : Env Try.prog} {C : Cx E} {r : Option Nat} {ops : Array Oper} {Q : GE → Sg E → Prop} {l l' : List (Nat × G)} {m : List (Nat × Ob)} {A : E.α} {df : List GD}
variable {t : Nat} {op : Op} {ty : TypeId} {pos : String} {af : Array Edge} {c : Prop} {g : G} {ob : Ob} {i j : Nat}
variable {lo q0 : Nat} {Jq : List (Nat × Ob)} {Aft : List Nat} {σ0 : Sg E} {ids ids' : List (List Nat × List Nat)} {I : List Nat}
theorem j0 (n : Nat) (hn : ids.length = n := by rfl) (ho : ops[lo + n]? = some ⟨some t, op, ty, pos, af, none⟩ := by rfl) (hI : opIds (gev (mkFr l)) op = I := by exact eL1.h {})
    (hg : gsem Try.prog false 99999 (gev (mkFr l)) (rhp (mkHp m) I) op = some (c, ⟨g, none⟩) := by exact eL2.h {}) (hd : mkHp m 99999 = .none := by (simp only [mkHp_cons, mkHp_nil, Nat.reduceEqDiff, reduceIte])) (ht : t < C.N := by omega)
    (hids : ids ++ [(99999 :: I, [])] = ids' := by (simp only [List.cons_append, List.nil_append] <;> rfl)) (k : segJ C r ops (GPost C Q) lo σ0 q0 Jq Aft ids' (sg ((t, g) :: l) m A df)) (hc : c := by first | exact True.intro | simp) : segJ C r ops (GPost C Q) lo σ0 q0 Jq Aft ids (sg l m A df) :=
  segJ.step (pi := []) hn ho (eff_v (gwant_plain rfl) hg hc hd (fun t' e => by cases e; exact ht)) rfl (.inr fun p hp => absurd hp List.not_mem_nil) (by rw [hids]; exact k)
theorem j1 (n : Nat) (hn : ids.length = n := by rfl) (ho : ops[lo + n]? = some ⟨some t, op, ty, pos, af, none⟩ := by rfl) (hI : opIds (gev (mkFr l)) op = I := by exact eL1.h {})
    (hg : gsem Try.prog false 99999 (gev (mkFr l)) (rhp (mkHp m) I) op = some (c, ⟨g, none⟩) := by exact eL2.h {}) (hd : mkHp m 99999 = .none := by (simp only [mkHp_cons, mkHp_nil, Nat.reduceEqDiff, reduceIte])) (ht : t < C.N := by omega)
    (hids : ids ++ [(99999 :: I, [])] = ids' := by (simp only [List.cons_append, List.nil_append] <;> rfl)) (hc : c) (k : segJ C r ops (GPost C Q) lo σ0 q0 Jq Aft ids' (sg ((t, g) :: l) m A df)) : segJ C r ops (GPost C Q) lo σ0 q0 Jq Aft ids (sg l m A df) :=
  segJ.step (pi := []) hn ho (eff_v (gwant_plain rfl) hg hc hd (fun t' e => by cases e; exact ht)) rfl (.inr fun p hp => absurd hp List.not_mem_nil) (by rw [hids]; exact k)
theorem ja0 (n : Nat) (hn : ids.length = n := by rfl) (ho : ops[lo + n]? = some ⟨some t, op, ty, pos, af, none⟩ := by rfl)
    (hg : gsem Try.prog false 99999 (gev (mkFr l)) (rhp (mkHp m) []) op = some (c, ⟨g, none⟩) := by exact eL2.h {}) (hd : mkHp m 99999 = .none := by (simp only [mkHp_cons, mkHp_nil, Nat.reduceEqDiff, reduceIte])) (ht : t < C.N := by omega)
    (hids : ids ++ [([99999], [])] = ids' := by (simp only [List.cons_append, List.nil_append] <;> rfl)) (k : segJ C r ops (GPost C Q) lo σ0 q0 Jq Aft ids' (sg ((t, g) :: l) m A df)) (hc : c := by first | exact True.intro | simp) : segJ C r ops (GPost C Q) lo σ0 q0 Jq Aft ids (sg l m A df) :=
  segJ.step (pi := []) hn ho (eff_v (gwant_plain rfl) hg hc hd (fun t' e => by cases e; exact ht)) rfl (.inr fun p hp => absurd hp List.not_mem_nil) (by rw [hids]; exact k)
theorem jn1 (n : Nat) (d : Nat) (mu : Bool) (hn : ids.length = n := by rfl) (ho : ops[lo + n]? = some ⟨some t, op, ty, pos, af, none⟩ := by rfl) (hI : opIds (gev (mkFr l)) op = I := by exact eL1.h {})
    (hg : gsem Try.prog mu d (gev (mkFr l)) (rhp (mkHp m) I) op = some (c, ⟨g, some (i, ob)⟩) := by exact eL2.h {}) (hd : mkHp m d = .none := by (simp only [mkHp_cons, mkHp_nil, Nat.reduceEqDiff, reduceIte])) (hd2 : C.lim ≤ d := by omega) (ht : t < C.N := by omega) 
    (hi : i ∈ d :: I := by simp) (hj : n ∈ Aft ∨ ∀ p ∈ [(i, ob)], p.1 ∈ Jq.map (·.1) → q0 < n ∧ p ∈ Jq := by first | exact .inl (by decide) | (refine .inr fun p hp _ => ?_; cases hp with | head => exact ⟨by decide, List.mem_cons_self⟩ | tail _ h => cases h)) (hids : ids ++ [(d :: I, [i])] = ids' := by (simp only [List.cons_append, List.nil_append] <;> rfl)) (hc : c) (k : segJ C r ops (GPost C Q) lo σ0 q0 Jq Aft ids' (sg ((t, g) :: l) ((i, ob) :: m) A df)) : segJ C r ops (GPost C Q) lo σ0 q0 Jq Aft ids (sg l m A df) :=
  segJ.step (pi := [i]) hn ho (eff_op (d := d) (out := ⟨g, some (i, ob)⟩) (gwant_plain rfl) hg hc hd hd2 (fun p e => by cases e; exact hi) (fun t' e => by cases e; exact ht)) rfl (hj) (by rw [hids]; exact k)
theorem js1 (n : Nat) (hn : ids.length = n := by rfl) (ho : ops[lo + n]? = some ⟨none, op, ty, pos, af, none⟩ := by rfl) (hI : opIds (gev (mkFr l)) op = I := by exact eL1.h {})
    (hg : gsem Try.prog false 99999 (gev (mkFr l)) (rhp (mkHp m) I) op = some (c, ⟨g, some (i, ob)⟩) := by exact eL2.h {}) (hd : mkHp m 99999 = .none := by (simp only [mkHp_cons, mkHp_nil, Nat.reduceEqDiff, reduceIte])) 
    (hi : i ∈ 99999 :: I := by simp) (hj : n ∈ Aft ∨ ∀ p ∈ [(i, ob)], p.1 ∈ Jq.map (·.1) → q0 < n ∧ p ∈ Jq := by first | exact .inl (by decide) | (refine .inr fun p hp _ => ?_; cases hp with | head => exact ⟨by decide, List.mem_cons_self⟩ | tail _ h => cases h)) (hids : ids ++ [(99999 :: I, [i])] = ids' := by (simp only [List.cons_append, List.nil_append] <;> rfl)) (hc : c) (k : segJ C r ops (GPost C Q) lo σ0 q0 Jq Aft ids' (sg l ((i, ob) :: m) A df)) : segJ C r ops (GPost C Q) lo σ0 q0 Jq Aft ids (sg l m A df) :=
  segJ.step (pi := [i]) hn ho (eff_op (d := 99999) (out := ⟨g, some (i, ob)⟩) (gwant_plain rfl) hg hc hd (by have := C.limOk; omega) (fun p e => by cases e; exact hi) (fun t' e => by cases e)) rfl (hj) (by rw [hids]; exact k)
theorem jl (n : Nat) {kt vt : TypeId} {mt : TypeId} {x k0 : Operand} {iid : Nat} {kp : P} {es es2 : List (P × P)} {b b2 : Bool} {ii z : TI} (hn : ids.length = n := by rfl) (ho : ops[lo + n]? = some ⟨some t, .lookup mt x k0 false, ty, pos, af, none⟩ := by rfl)
    (hti : ti Try.prog mt = some ii := by exact eL3.h {}) (hd : ii.desc = .map kt vt := by rfl) (hz : ti Try.prog vt = some z := by exact eL3.h {}) (hm : gev (mkFr l) x = .map iid := by (simp only [gev, mkFr_cons, Nat.reduceEqDiff, reduceIte] <;> rfl)) (hk : gev (mkFr l) k0 = .p kp := by (simp only [gev, mkFr_cons, Nat.reduceEqDiff, reduceIte] <;> rfl)) (hh : mkHp m iid = .map es := by (simp only [mkHp_cons, mkHp_nil, Nat.reduceEqDiff, reduceIte] <;> rfl))
    (hv : orZero (zeroG z) (mapGet (geq Try.prog 6 kt) kp es) = some (b, g)) (hv2 : orZero (zeroG z) (mapGet (geq Try.prog 6 kt) kp es2) = some (b2, g)) (hkk : keysOk (geq Try.prog 6 kt) kp es) (hkk2 : keysOk (geq Try.prog 6 kt) kp es2)
    (hd0 : mkHp m 99999 = .none := by (simp only [mkHp_cons, mkHp_nil, Nat.reduceEqDiff, reduceIte])) (ht : t < C.N := by omega) (hids : ids ++ [([99999], [])] = ids' := by (simp only [List.cons_append, List.nil_append] <;> rfl)) (hq : n = q0 := by rfl) (hJ : Jq = [(iid, .map es2)] := by rfl)
    (k : segJ C r ops (GPost C Q) lo σ0 q0 Jq Aft ids' (sg ((t, g) :: l) m A df)) : segJ C r ops (GPost C Q) lo σ0 q0 Jq Aft ids (sg l m A df) := by
  refine segJ.stepJ (pi := []) (I := [99999]) hn ho ?_ rfl (.inr fun p hp => absurd hp List.not_mem_nil) (by rw [hids]; exact k)
  rw [if_pos hq, hJ]
  exact effJ_lookup rfl (gwant_plain rfl) hti hd hz hm hk hh hv hv2 hkk hkk2 hd0 (by have := C.limOk; omega) (fun t' e => by cases e; exact ht)
theorem jz (n : Nat) (tab : List Nat) (hn : ids.length = n := by rfl) (hsz : lo + n ≤ ops.size := by exact Nat.le_of_ble_eq_true rfl) (hw : waitsB tab ops.toList 0 = true := by kernel_rfl) (hc : cutB tab lo n ops.size = true := by kernel_rfl) (hf : freeB tab ops.toList lo ids = true := by kernel_rfl) (hq : q0 < n := by decide)
    (haf : Aft.all (fun m => (decide (m < q0) && (tab.getD (lo + q0) 0).testBit (lo + m)) || (decide (q0 < m) && (tab.getD (lo + m) 0).testBit (lo + q0))) = true := by kernel_rfl)
    (h : gany C r ops (GPost C Q) (lo + n) (sg l m A df)) : segJ C r ops (GPost C Q) lo σ0 q0 Jq Aft ids (sg l m A df) := segJ.stop tab hn hsz hw hc hf hq haf h
theorem rdJ (q0 : Nat) (Jq : List (Nat × Ob)) (Aft : List Nat) {idn : Nat} {σ : Sg E} (h : segJ C r ops (GPost C Q) 0 σ q0 Jq Aft [] σ) : gwp C r (.region idn ops true) Q σ := gwp_regionD (by kernel_rfl) (segJ.start q0 Jq Aft h)
end Go.Proofs.Ytabeeaiilanmjaa

/- The program: a field is opened. -/
namespace Go.Proofs.Ytabeeaiilanmjaa
open Go.Gh
set_option maxRecDepth 100000
set_option maxHeartbeats 4000000
structure kVc1 (c : Prop) : Prop where
  h : c := by (first | exact True.intro | omega | (simp only [inI]; omega) | (simp [P.size, pS, all_int, allOne_p, goods_p, allOne, goods, good, G.one, P.one, P.cells] <;> first | omega | assumption | simp_all))
structure kVc2 (c : Prop) : Prop where
  h : c := by (first | exact True.intro | omega | exact hko | exact ⟨trivial, by omega, by omega⟩ | (simp only [inI]; omega) | (simp [P.size, pS, all_int, allOne_p, goods_p, allOne, goods, good, G.one, P.one, P.cells] <;> first | omega | assumption | simp_all))
theorem nd_t {p : Prop} [Decidable p] (h : ¬ p) : (!decide p) = true := by rw [decide_eq_false h]; rfl
theorem nd_f {p : Prop} [Decidable p] (h : p) : (!decide p) = false := by rw [decide_eq_true h]; rfl
def tIdx (f : Fd) (p : Sk) : Int := if tstQ f p 0 = false then 0 else if tstQ f p 1 = false then 1 else if tstQ f p 2 = false then 2 else -1
theorem tIdx_use (f : Fd) (p : Sk) : decide (0 ≤ tIdx f p) = !useQ f p := by
  rw [tst_use]; unfold tIdx
  cases tstQ f p 0 <;> cases tstQ f p 1 <;> cases tstQ f p 2 <;> rfl
theorem tIdx_all {f : Fd} {p : Sk} (h : ∀ j : Nat, j < 3 → tstQ f p j = true) : tIdx f p = -1 := by
  rw [tIdx, h 0 (by omega), h 1 (by omega), h 2 (by omega)]; rfl
theorem tIdx_at {f : Fd} {p : Sk} {k : Nat} (hk : k < 3) (h : ∀ j : Nat, j < k → tstQ f p j = true) (hn : tstQ f p k = false) : tIdx f p = (k : Nat) := by
  rcases (show k = 0 ∨ k = 1 ∨ k = 2 by omega) with rfl | rfl | rfl
  · rw [tIdx, if_pos hn]; rfl
  · rw [tIdx, if_neg (by rw [h 0 (by omega)]; decide), if_pos hn]; rfl
  rw [tIdx, if_neg (by rw [h 0 (by omega)]; decide), if_neg (by rw [h 1 (by omega)]; decide), if_pos hn]; rfl
theorem tst_step {f : Fd} {p : Sk} {k : Nat} (h : ∀ j : Nat, j < k → tstQ f p j = true) (hn : tstQ f p k = true) : ∀ j : Nat, j < k + 1 → tstQ f p j = true := fun j hj => by
  by_cases e : j = k
  · subst e; exact hn
  exact h j (by omega)
theorem ent86 : Enters Try.prog 86 := Enters.mk Try.func86 (by kernel_rfl) rfl
theorem s_idx {E : Env Try.prog} {A : E.α} (f : Fd) (p : Sk) (u : Nat) (es : List (P × P)) : Gh.Spec E 86 [.fsl 0 0 3, .fn (.func 71) [] [.ref 1 0, .ptr [.p (.int .i64 p.el), .p (.int .i64 p.eh), .p (.int .i64 p.nl), .p (.int .i64 p.nh), .p (.int .i64 p.day), .p (.int .i64 p.dep)]]] (mkHp [(0, .cells [.p (.fn (.func 88) [] []), .p (.fn (.func 89) [] []), .fn (.func 90) [] [.ptr [.p (.fn (.func 87) [] [])]]] 0), (1, .cells [.ref 2 0] 0), (2, .cells [.p (.list (f.ps.map pS)), .p (.int .i64 f.el), .p (.int .i64 f.eh), .p (.int .i64 f.nl), .p (.int .i64 f.nh), .p (.int .i64 f.dl), .p (.int .i64 f.dh), .p (.int .i64 f.dep), .p (.int .i64 f.tm), .p (.int .i64 f.gp), .p (.int .u64 (u : Nat)), .map 3] 10), (3, .map es)]) A (fun y => y = .ok (.p (.int .i64 (tIdx f p))) (mkHp [(0, .cells [.p (.fn (.func 88) [] []), .p (.fn (.func 89) [] []), .fn (.func 90) [] [.ptr [.p (.fn (.func 87) [] [])]]] 0), (1, .cells [.ref 2 0] 0), (2, .cells [.p (.list (f.ps.map pS)), .p (.int .i64 f.el), .p (.int .i64 f.eh), .p (.int .i64 f.nl), .p (.int .i64 f.nh), .p (.int .i64 f.dl), .p (.int .i64 f.dh), .p (.int .i64 f.dep), .p (.int .i64 f.tm), .p (.int .i64 f.gp), .p (.int .u64 (u : Nat)), .map 3] 10), (3, .map es)]) A) := by
  refine spec_of Try.func86 (rfl : Try.f86.body = some _) (Nat.le_of_ble_eq_true rfl) (fun id h => ?_) (fun j id h => ?_) ?_
  · exact wf1x h
  · exact wf2x h
  intro C hN hL
  replace hN : C.N = 19 := hN
  simp only [Gh.num, List.map_cons, List.map_nil, Nat.reduceAdd]
  repeat refine gwp_seq ?_
  refine gwp_region ?_
  refine v0 (k := ?_)
  refine nil0 ?_
  refine cl [0, 1] (k := ?_)
  repeat refine gwp_seq ?_
  refine gwp_region ?_
  refine v0 (k := ?_)
  refine v0 (k := ?_)
  refine v0 (k := ?_)
  refine nil0 ?_
  refine cl [0, 1, 7, 8] (k := ?_)
  repeat refine gwp_seq ?_
  refine gwp_block ?_
  repeat refine gwp_seq ?_
  refine gc_loop (fun mz σ => ∃ k : Nat, (k ≤ 3) ∧ (∀ j : Nat, j < k → tstQ f p j = true) ∧ mz = 3 - k ∧ σ = (sg [(0, .fsl 0 0 3), (1, .fn (.func 71) [] [.ref 1 0, .ptr [.p (.int .i64 p.el), .p (.int .i64 p.eh), .p (.int .i64 p.nl), .p (.int .i64 p.nh), .p (.int .i64 p.day), .p (.int .i64 p.dep)]]), (7, .p (.int .i64 3)), (8, .p (.int .i64 (k : Nat)))] [(0, .cells [.p (.fn (.func 88) [] []), .p (.fn (.func 89) [] []), .fn (.func 90) [] [.ptr [.p (.fn (.func 87) [] [])]]] 0), (1, .cells [.ref 2 0] 0), (2, .cells [.p (.list (f.ps.map pS)), .p (.int .i64 f.el), .p (.int .i64 f.eh), .p (.int .i64 f.nl), .p (.int .i64 f.nh), .p (.int .i64 f.dl), .p (.int .i64 f.dh), .p (.int .i64 f.dep), .p (.int .i64 f.tm), .p (.int .i64 f.gp), .p (.int .u64 (u : Nat)), .map 3] 10), (3, .map es)] A [] : Sg E)) ?_ (fun mz σ hI => ?_)
  · refine lbeg [0, 1, 7, 8] (hV := ?_)
    exact ⟨_, 0, by omega, fun j h => by omega, rfl, rfl⟩
  obtain ⟨k, hk, ht, hn, rfl⟩ := hI
  repeat refine gwp_seq ?_
  refine gwp_region ?_
  refine v0 (k := ?_)
  refine nil0 ?_
  repeat refine gwp_seq ?_
  refine cB (k1 := fun hb1 => ?_) (k0 := fun hb1 => ?_)
  · replace hb1 := hB.h {} hb1
    repeat refine gwp_seq ?_
    refine gwp_skip ?_
    refine cl [0, 1, 7, 8] (k := ?_)
    repeat refine gwp_seq ?_
    refine gwp_block ?_
    repeat refine gwp_seq ?_
    refine gwp_region ?_
    refine v0 (k := ?_)
    refine v0 (k := ?_)
    refine nil0 ?_
    refine cl [0, 1, 5, 7, 8] (k := ?_)
    repeat refine gwp_seq ?_
    rcases (show k = 0 ∨ k = 1 ∨ k = 2 by omega) with rfl | rfl | rfl
    · repeat refine gwp_seq ?_
      refine gwp_region ?_
      refine v0 (k := ?_)
      refine v0 (k := ?_)
      refine v0 (k := ?_)
      refine v1 (hc := kVc1.h {}) (k := ?_)
      refine v0 (k := ?_)
      refine oc0 [(0, 1), (1, 2), (2, 3)] [] [0, 0, 0] none (spec := s_not0 f p u es) (hent := ent71) (k := ?_)
      refine nil0 ?_
      repeat refine gwp_seq ?_
      refine cB (k1 := fun hb2 => ?_) (k0 := fun hb2 => ?_)
      · replace hb2 := hB.h {} hb2
        repeat refine gwp_seq ?_
        refine gwp_region ?_
        refine v0 (k := ?_)
        refine v0 (k := ?_)
        refine nil0 ?_
        repeat refine gwp_seq ?_
        refine gwp_ret ?_
        repeat (first | refine gthen_ret ?_ | refine gblock_ret ?_ | refine gnoGoto_ret ?_)
        refine fin_ret ?_
        first
        | (refine fh [0, 1, 2, 3] (hR := ?_)
           rw [tIdx_all (fun j hj => ht j (by omega))]
           (try rfl))
        | (refine fh [0, 1, 2, 3] (hR := ?_)
           rw [tIdx_at (k := 0) (by omega) ht (by assumption)]
           (try rfl))
        | (refine fh [0, 1, 2, 3] (hR := ?_)
           rw [tIdx_at (k := 1) (by omega) ht (by assumption)]
           (try rfl))
        | (refine fh [0, 1, 2, 3] (hR := ?_)
           rw [tIdx_at (k := 2) (by omega) ht (by assumption)]
           (try rfl))
      replace hb2 := hB.h {} hb2
      repeat refine gwp_seq ?_
      refine gwp_skip ?_
      refine cl [0, 1, 7, 8] (k := ?_)
      repeat refine gwp_seq ?_
      refine gwp_region ?_
      refine v1 (hc := kVc1.h {}) (k := ?_)
      refine v0 (k := ?_)
      refine nil0 ?_
      refine lend [0, 1, 7, 8] (h := ?_) (hV := ?_) (n' := mz - 1)
      · omega
      first
      | exact ⟨0 + 1, by omega, tst_step ht (by assumption), by omega, rfl⟩
      | exact ⟨1 + 1, by omega, tst_step ht (by assumption), by omega, rfl⟩
      | exact ⟨2 + 1, by omega, tst_step ht (by assumption), by omega, rfl⟩
    · repeat refine gwp_seq ?_
      refine gwp_region ?_
      refine v0 (k := ?_)
      refine v0 (k := ?_)
      refine v0 (k := ?_)
      refine v1 (hc := kVc1.h {}) (k := ?_)
      refine v0 (k := ?_)
      refine oc0 [(0, 1), (1, 2), (2, 3)] [] [0, 0, 0] none (spec := s_not1 f p u es) (hent := ent71) (k := ?_)
      refine nil0 ?_
      repeat refine gwp_seq ?_
      refine cB (k1 := fun hb3 => ?_) (k0 := fun hb3 => ?_)
      · replace hb3 := hB.h {} hb3
        repeat refine gwp_seq ?_
        refine gwp_region ?_
        refine v0 (k := ?_)
        refine v0 (k := ?_)
        refine nil0 ?_
        repeat refine gwp_seq ?_
        refine gwp_ret ?_
        repeat (first | refine gthen_ret ?_ | refine gblock_ret ?_ | refine gnoGoto_ret ?_)
        refine fin_ret ?_
        first
        | (refine fh [0, 1, 2, 3] (hR := ?_)
           rw [tIdx_all (fun j hj => ht j (by omega))]
           (try rfl))
        | (refine fh [0, 1, 2, 3] (hR := ?_)
           rw [tIdx_at (k := 0) (by omega) ht (by assumption)]
           (try rfl))
        | (refine fh [0, 1, 2, 3] (hR := ?_)
           rw [tIdx_at (k := 1) (by omega) ht (by assumption)]
           (try rfl))
        | (refine fh [0, 1, 2, 3] (hR := ?_)
           rw [tIdx_at (k := 2) (by omega) ht (by assumption)]
           (try rfl))
      replace hb3 := hB.h {} hb3
      repeat refine gwp_seq ?_
      refine gwp_skip ?_
      refine cl [0, 1, 7, 8] (k := ?_)
      repeat refine gwp_seq ?_
      refine gwp_region ?_
      refine v1 (hc := kVc1.h {}) (k := ?_)
      refine v0 (k := ?_)
      refine nil0 ?_
      refine lend [0, 1, 7, 8] (h := ?_) (hV := ?_) (n' := mz - 1)
      · omega
      first
      | exact ⟨0 + 1, by omega, tst_step ht (by assumption), by omega, rfl⟩
      | exact ⟨1 + 1, by omega, tst_step ht (by assumption), by omega, rfl⟩
      | exact ⟨2 + 1, by omega, tst_step ht (by assumption), by omega, rfl⟩
    repeat refine gwp_seq ?_
    refine gwp_region ?_
    refine v0 (k := ?_)
    refine v0 (k := ?_)
    refine v0 (k := ?_)
    refine v1 (hc := kVc1.h {}) (k := ?_)
    refine v0 (k := ?_)
    refine oc0 [(0, 1), (1, 2), (2, 3)] [] [0, 0, 0] none (spec := s_not2 f p u es) (hent := ent71) (k := ?_)
    refine nil0 ?_
    repeat refine gwp_seq ?_
    refine cB (k1 := fun hb4 => ?_) (k0 := fun hb4 => ?_)
    · replace hb4 := hB.h {} hb4
      repeat refine gwp_seq ?_
      refine gwp_region ?_
      refine v0 (k := ?_)
      refine v0 (k := ?_)
      refine nil0 ?_
      repeat refine gwp_seq ?_
      refine gwp_ret ?_
      repeat (first | refine gthen_ret ?_ | refine gblock_ret ?_ | refine gnoGoto_ret ?_)
      refine fin_ret ?_
      first
      | (refine fh [0, 1, 2, 3] (hR := ?_)
         rw [tIdx_all (fun j hj => ht j (by omega))]
         (try rfl))
      | (refine fh [0, 1, 2, 3] (hR := ?_)
         rw [tIdx_at (k := 0) (by omega) ht (by assumption)]
         (try rfl))
      | (refine fh [0, 1, 2, 3] (hR := ?_)
         rw [tIdx_at (k := 1) (by omega) ht (by assumption)]
         (try rfl))
      | (refine fh [0, 1, 2, 3] (hR := ?_)
         rw [tIdx_at (k := 2) (by omega) ht (by assumption)]
         (try rfl))
    replace hb4 := hB.h {} hb4
    repeat refine gwp_seq ?_
    refine gwp_skip ?_
    refine cl [0, 1, 7, 8] (k := ?_)
    repeat refine gwp_seq ?_
    refine gwp_region ?_
    refine v1 (hc := kVc1.h {}) (k := ?_)
    refine v0 (k := ?_)
    refine nil0 ?_
    refine lend [0, 1, 7, 8] (h := ?_) (hV := ?_) (n' := mz - 1)
    · omega
    first
    | exact ⟨0 + 1, by omega, tst_step ht (by assumption), by omega, rfl⟩
    | exact ⟨1 + 1, by omega, tst_step ht (by assumption), by omega, rfl⟩
    | exact ⟨2 + 1, by omega, tst_step ht (by assumption), by omega, rfl⟩
  replace hb1 := hB.h {} hb1
  repeat refine gwp_seq ?_
  refine gwp_exit ?_
  repeat (first | refine gthen_exit ?_ | refine gnoGoto_exit ?_ | refine gblock_here ?_ | refine gblock_out rfl ?_)
  refine cl [0, 1] (k := ?_)
  repeat refine gwp_seq ?_
  refine gwp_region ?_
  refine v0 (k := ?_)
  refine nil0 ?_
  repeat refine gwp_seq ?_
  refine gwp_ret ?_
  repeat (first | refine gthen_ret ?_ | refine gblock_ret ?_ | refine gnoGoto_ret ?_)
  refine fin_ret ?_
  first
  | (refine fh [0, 1, 2, 3] (hR := ?_)
     rw [tIdx_all (fun j hj => ht j (by omega))]
     (try rfl))
  | (refine fh [0, 1, 2, 3] (hR := ?_)
     rw [tIdx_at (k := 0) (by omega) ht (by assumption)]
     (try rfl))
  | (refine fh [0, 1, 2, 3] (hR := ?_)
     rw [tIdx_at (k := 1) (by omega) ht (by assumption)]
     (try rfl))
  | (refine fh [0, 1, 2, 3] (hR := ?_)
     rw [tIdx_at (k := 2) (by omega) ht (by assumption)]
     (try rfl))
theorem ent69 : Enters Try.prog 69 := Enters.mk Try.func69 (by kernel_rfl) rfl
theorem s_use {E : Env Try.prog} {A : E.α} (f : Fd) (p : Sk) (u : Nat) (es : List (P × P)) : Gh.Spec E 69 [.fsl 0 0 3, .fn (.func 71) [] [.ref 1 0, .ptr [.p (.int .i64 p.el), .p (.int .i64 p.eh), .p (.int .i64 p.nl), .p (.int .i64 p.nh), .p (.int .i64 p.day), .p (.int .i64 p.dep)]]] (mkHp [(0, .cells [.p (.fn (.func 88) [] []), .p (.fn (.func 89) [] []), .fn (.func 90) [] [.ptr [.p (.fn (.func 87) [] [])]]] 0), (1, .cells [.ref 2 0] 0), (2, .cells [.p (.list (f.ps.map pS)), .p (.int .i64 f.el), .p (.int .i64 f.eh), .p (.int .i64 f.nl), .p (.int .i64 f.nh), .p (.int .i64 f.dl), .p (.int .i64 f.dh), .p (.int .i64 f.dep), .p (.int .i64 f.tm), .p (.int .i64 f.gp), .p (.int .u64 (u : Nat)), .map 3] 10), (3, .map es)]) A (fun y => y = .ok (.p (.bool (!useQ f p))) (mkHp [(0, .cells [.p (.fn (.func 88) [] []), .p (.fn (.func 89) [] []), .fn (.func 90) [] [.ptr [.p (.fn (.func 87) [] [])]]] 0), (1, .cells [.ref 2 0] 0), (2, .cells [.p (.list (f.ps.map pS)), .p (.int .i64 f.el), .p (.int .i64 f.eh), .p (.int .i64 f.nl), .p (.int .i64 f.nh), .p (.int .i64 f.dl), .p (.int .i64 f.dh), .p (.int .i64 f.dep), .p (.int .i64 f.tm), .p (.int .i64 f.gp), .p (.int .u64 (u : Nat)), .map 3] 10), (3, .map es)]) A) := by
  refine spec_of Try.func69 (rfl : Try.f69.body = some _) (Nat.le_of_ble_eq_true rfl) (fun id h => ?_) (fun j id h => ?_) ?_
  · exact wf1x h
  · exact wf2x h
  intro C hN hL
  replace hN : C.N = 9 := hN
  simp only [Gh.num, List.map_cons, List.map_nil, Nat.reduceAdd]
  repeat refine gwp_seq ?_
  refine gwp_region ?_
  refine v0 (k := ?_)
  refine nil0 ?_
  refine cl [0, 1] (k := ?_)
  repeat refine gwp_seq ?_
  refine gwp_region ?_
  refine v0 (k := ?_)
  refine v0 (k := ?_)
  refine oc0 [(0, 0), (1, 1), (2, 2), (3, 3)] [] [0, 0] none (spec := s_idx f p u es) (hent := ent86) (k := ?_)
  refine v0 (k := ?_)
  refine v0 (k := ?_)
  refine nil0 ?_
  repeat refine gwp_seq ?_
  refine gwp_ret ?_
  repeat (first | refine gthen_ret ?_ | refine gblock_ret ?_ | refine gnoGoto_ret ?_)
  refine fin_ret ?_
  refine fh [0, 1, 2, 3] (hR := ?_)
  rw [← tIdx_use]
theorem ent40 : Enters Try.prog 40 := Enters.mk Try.func40 (by kernel_rfl) rfl
theorem s_open_t {E : Env Try.prog} {A : E.α} (f : Fd) (hv : f.valid = true) : Gh.Spec E 40 [.p (.agg [.list (f.ps.map pS), .int .i64 f.el, .int .i64 f.eh, .int .i64 f.nl, .int .i64 f.nh, .int .i64 f.dl, .int .i64 f.dh, .int .i64 f.dep, .int .i64 f.tm, .int .i64 f.gp])] (mkHp []) A (fun y => y = .ok (.ptr [.p (.list (f.ps.map pS)), .p (.int .i64 f.el), .p (.int .i64 f.eh), .p (.int .i64 f.nl), .p (.int .i64 f.nh), .p (.int .i64 f.dl), .p (.int .i64 f.dh), .p (.int .i64 f.dep), .p (.int .i64 f.tm), .p (.int .i64 f.gp), .p (.int .u64 (usedN f f.ps.length : Nat)), .map 220]) (mkHp [(220, .map (plM f f.ps.length))]) A) := by
  refine spec_of Try.func40 (rfl : Try.f40.body = some _) (Nat.le_of_ble_eq_true rfl) (fun id h => ?_) (fun j id h => ?_) ?_
  · exact wf1x h
  · exact wf2x h
  intro C hN hL
  replace hN : C.N = 86 := hN
  simp only [Gh.num, List.map_cons, List.map_nil, Nat.reduceAdd]
  have hn := valid_num hv
  have hpS : ∀ p : Sk, pS p = P.agg [.int .i64 p.el, .int .i64 p.eh, .int .i64 p.nl, .int .i64 p.nh, .int .i64 p.day, .int .i64 p.dep] := fun _ => rfl
  have hdt : ∀ (i : Decidable True), @decide True i = true := fun i => decide_eq_true trivial
  have hdf : ∀ (i : Decidable False), @decide False i = false := fun i => decide_eq_false id
  repeat refine gwp_seq ?_
  refine gwp_region ?_
  refine n1 110 false (hc := kVc2.h {}) (k := ?_)
  refine v0 (k := ?_)
  refine nil0 ?_
  refine cl [1] (k := ?_)
  repeat refine gwp_seq ?_
  refine gwp_region ?_
  refine v0 (k := ?_)
  refine pc0 (spec := s_isField f (by omega)) (hent := ent68) (k := ?_)
  refine rb 9 true (h := by (exact hv)) (k := ?_)
  refine pc0 (spec := s_must_t _) (hent := ent43) (k := ?_)
  refine nil0 ?_
  refine cl [1] (k := ?_)
  repeat refine gwp_seq ?_
  refine gwp_region ?_
  refine v0 (k := ?_)
  refine n1 220 false (hc := kVc2.h {}) (k := ?_)
  refine v0 (k := ?_)
  refine n1 240 false (hc := kVc2.h {}) (k := ?_)
  refine n1 130 false (hc := kVc2.h {}) (k := ?_)
  refine s1 (hc := kVc2.h {}) (k := ?_)
  refine nil0 ?_
  refine cl [1, 3] (k := ?_)
  repeat refine gwp_seq ?_
  refine fz 240 10 [.k, .k, .k, .k, .k, .k, .k, .k, .k, .k] (k := ?_)
  refine gwp_region ?_
  refine v0 (k := ?_)
  refine v0 (k := ?_)
  refine v0 (k := ?_)
  refine v0 (k := ?_)
  refine nil0 ?_
  refine cl [1, 3, 16, 17, 18] (k := ?_)
  repeat refine gwp_seq ?_
  refine gwp_block ?_
  repeat refine gwp_seq ?_
  refine gc_loop (fun mz σ => ∃ k : Nat, (k ≤ f.ps.length) ∧ mz = f.ps.length - k ∧ σ = (sg [(1, .ref 110 0), (3, .ref 130 0), (16, .p (.list (f.ps.map pS))), (17, .p (.int .i64 (f.ps.length : Nat))), (18, .p (.int .i64 (k : Nat)))] [(110, .cells [.p (.list (f.ps.map pS)), .p (.int .i64 f.el), .p (.int .i64 f.eh), .p (.int .i64 f.nl), .p (.int .i64 f.nh), .p (.int .i64 f.dl), .p (.int .i64 f.dh), .p (.int .i64 f.dep), .p (.int .i64 f.tm), .p (.int .i64 f.gp)] 0), (130, .cells [.ref 240 0] 0), (240, .cells [.p (.list (f.ps.map pS)), .p (.int .i64 f.el), .p (.int .i64 f.eh), .p (.int .i64 f.nl), .p (.int .i64 f.nh), .p (.int .i64 f.dl), .p (.int .i64 f.dh), .p (.int .i64 f.dep), .p (.int .i64 f.tm), .p (.int .i64 f.gp), .p (.int .u64 (usedN f k : Nat)), .map 220] 10), (220, .map (plM f k))] A [] : Sg E)) ?_ (fun mz σ hI => ?_)
  · refine lbeg [1, 3, 16, 17, 18] (hV := ?_)
    exact ⟨_, 0, by omega, rfl, rfl⟩
  obtain ⟨k, hk, hnn, rfl⟩ := hI
  repeat refine gwp_seq ?_
  refine gwp_region ?_
  refine v0 (k := ?_)
  refine nil0 ?_
  repeat refine gwp_seq ?_
  refine cB (k1 := fun hb1 => ?_) (k0 := fun hb1 => ?_)
  · replace hb1 := hB.h {} hb1
    repeat refine gwp_seq ?_
    refine gwp_skip ?_
    refine cl [1, 3, 16, 17, 18] (k := ?_)
    repeat refine gwp_seq ?_
    refine gwp_block ?_
    repeat refine gwp_seq ?_
    obtain ⟨p, hp⟩ := getE (l := f.ps) (k := k) (by omega)
    have hvp := valid_ps hv (List.mem_of_getElem? hp)
    refine gwp_region ?_
    refine v0 (k := ?_)
    refine v1 (hc := kVc2.h {}) (k := ?_)
    refine v0 (k := ?_)
    refine n1 150 false (hc := kVc2.h {}) (k := ?_)
    refine v0 (k := ?_)
    refine s1 (hc := kVc2.h {}) (k := ?_)
    refine nil0 ?_
    refine cl [1, 3, 4, 5, 16, 17, 18] (k := ?_)
    repeat refine gwp_seq ?_
    refine fz 150 6 [.k, .k, .k, .k, .k, .k] (k := ?_)
    refine gwp_region ?_
    refine oc0 [(130, 2300)] [] [] none (spec := s_tests) (hent := ent70) (k := ?_)
    refine v0 (k := ?_)
    refine ocv 24 (.f [.k, .n [.k, .k, .k, .k, .k, .k]]) (k := ?_)
    refine oc0 [(0, 2300), (1, 130), (2, 240), (3, 220)] [] [0, 0] none (spec := s_use f p (usedN f k) (plM f k)) (hent := ent69) (k := ?_)
    refine nil0 ?_
    repeat refine gwp_seq ?_
    refine cB (k1 := fun hb2 => ?_) (k0 := fun hb2 => ?_)
    · replace hb2 := hB.h {} hb2
      repeat refine gwp_seq ?_
      refine gwp_exit ?_
      repeat (first | refine gthen_exit ?_ | refine gnoGoto_exit ?_ | refine gblock_here ?_ | refine gblock_out rfl ?_)
      refine cl [1, 3, 16, 17, 18] (k := ?_)
      repeat refine gwp_seq ?_
      refine gwp_region ?_
      refine v1 (hc := kVc2.h {}) (k := ?_)
      refine v0 (k := ?_)
      refine nil0 ?_
      refine lend [1, 3, 16, 17, 18] (h := ?_) (hV := ?_) (n' := f.ps.length - (k + 1))
      · omega
      first
      | exact ⟨k + 1, by omega, rfl, sgE rfl (by rw [used_skip hp (by assumption), plM_skip hp (by assumption)])⟩
      | exact ⟨k + 1, by omega, rfl, sgE rfl (by rw [plM_next hp hu, show i = ovW f p by omega])⟩
    replace hb2 := hB.h {} hb2
    repeat refine gwp_seq ?_
    refine gwp_skip ?_
    refine cl [1, 3, 4, 5, 16, 17, 18] (k := ?_)
    repeat refine gwp_seq ?_
    have hu : useQ f p = true := by assumption
    have hub := hu
    simp only [useQ, inB, Bool.and_eq_true, decide_eq_true_eq] at hub
    have hul := used_lt f (k := k) (by omega)
    have hpk : 2 ^ k < 2 ^ 62 := Nat.pow_lt_pow_right (by omega) (by omega)
    have hsh : IntKind.u64.wrap (1 * 2 ^ min k IntKind.u64.bits) = ((2 ^ k : Nat) : Int) := shl1_u64 k (by omega)
    have hor := bitop_or_u64 (usedN f k) (2 ^ k) (by omega) hpk
    refine rd ?_
    refine d0 0 (k := ?_)
    refine da0 1 (k := ?_)
    refine da0 2 (k := ?_)
    refine d0 3 (k := ?_)
    refine da0 4 (k := ?_)
    refine d1 5 (hc := kVc2.h {}) (k := ?_)
    refine d0 6 (k := ?_)
    refine da0 7 (k := ?_)
    refine da0 8 (k := ?_)
    refine ds1 9 (hc := kVc2.h {}) (k := ?_)
    refine dz 10 [0, 1, 3, 7, 0, 16, 63, 127, 255, 511] (h := ?_)
    refine de 10 (h := ?_)
    refine cl [1, 3, 4, 5, 16, 17, 18] (k := ?_)
    repeat refine gwp_seq ?_
    rw [← used_next hp hu]
    clear hsh hor
    have how : (ovW f p : Int) = min p.eh f.eh - max p.el f.el + 1 := by simp only [ovW]; omega
    have hoh : (ovH f p : Int) = min p.nh f.nh - max p.nl f.nl + 1 := by simp only [ovH]; omega
    refine gwp_region ?_
    refine v0 (k := ?_)
    refine v0 (k := ?_)
    refine v0 (k := ?_)
    refine v0 (k := ?_)
    refine v0 (k := ?_)
    refine v0 (k := ?_)
    refine v0 (k := ?_)
    refine v0 (k := ?_)
    refine nil0 ?_
    refine cl [1, 3, 4, 5, 6, 16, 17, 18] (k := ?_)
    repeat refine gwp_seq ?_
    refine gwp_block ?_
    repeat refine gwp_seq ?_
    refine gc_loop (fun mz σ => ∃ i : Nat, (i ≤ ovW f p) ∧ mz = ovW f p - i ∧ σ = (sg [(1, .ref 110 0), (3, .ref 130 0), (4, .p (.int .i64 (k : Nat))), (5, .ref 150 0), (6, .p (.int .i64 ((max p.el f.el) + (i : Nat)))), (16, .p (.list (f.ps.map pS))), (17, .p (.int .i64 (f.ps.length : Nat))), (18, .p (.int .i64 (k : Nat)))] [(110, .cells [.p (.list (f.ps.map pS)), .p (.int .i64 f.el), .p (.int .i64 f.eh), .p (.int .i64 f.nl), .p (.int .i64 f.nh), .p (.int .i64 f.dl), .p (.int .i64 f.dh), .p (.int .i64 f.dep), .p (.int .i64 f.tm), .p (.int .i64 f.gp)] 0), (130, .cells [.ref 240 0] 0), (150, .cells [.p (.int .i64 p.el), .p (.int .i64 p.eh), .p (.int .i64 p.nl), .p (.int .i64 p.nh), .p (.int .i64 p.day), .p (.int .i64 p.dep)] 6), (240, .cells [.p (.list (f.ps.map pS)), .p (.int .i64 f.el), .p (.int .i64 f.eh), .p (.int .i64 f.nl), .p (.int .i64 f.nh), .p (.int .i64 f.dl), .p (.int .i64 f.dh), .p (.int .i64 f.dep), .p (.int .i64 f.tm), .p (.int .i64 f.gp), .p (.int .u64 (usedN f (k + 1) : Nat)), .map 220] 10), (220, .map (rowM k (max p.el f.el) (max p.nl f.nl) (ovH f p) (plM f k) i))] A [] : Sg E)) ?_ (fun mz σ hI => ?_)
    · refine lbeg [1, 3, 4, 5, 6, 16, 17, 18] (hV := ?_)
      exact ⟨_, 0, by omega, rfl, sgE (by rw [Int.natCast_zero, Int.add_zero]) rfl⟩
    obtain ⟨i, hi, hni, rfl⟩ := hI
    repeat refine gwp_seq ?_
    refine gwp_region ?_
    refine v0 (k := ?_)
    refine v0 (k := ?_)
    refine v0 (k := ?_)
    refine v0 (k := ?_)
    refine v0 (k := ?_)
    refine v0 (k := ?_)
    refine v0 (k := ?_)
    refine v0 (k := ?_)
    refine v0 (k := ?_)
    refine nil0 ?_
    repeat refine gwp_seq ?_
    refine cB (k1 := fun hb3 => ?_) (k0 := fun hb3 => ?_)
    · replace hb3 := hB.h {} hb3
      repeat refine gwp_seq ?_
      refine gwp_skip ?_
      refine cl [1, 3, 4, 5, 6, 16, 17, 18] (k := ?_)
      repeat refine gwp_seq ?_
      refine gwp_block ?_
      repeat refine gwp_seq ?_
      refine gwp_region ?_
      refine v0 (k := ?_)
      refine v0 (k := ?_)
      refine v0 (k := ?_)
      refine v0 (k := ?_)
      refine v0 (k := ?_)
      refine v0 (k := ?_)
      refine v0 (k := ?_)
      refine v0 (k := ?_)
      refine nil0 ?_
      refine cl [1, 3, 4, 5, 6, 7, 16, 17, 18] (k := ?_)
      repeat refine gwp_seq ?_
      refine gwp_block ?_
      repeat refine gwp_seq ?_
      refine gc_loop (fun mz σ => ∃ j : Nat, (j ≤ ovH f p) ∧ mz = ovH f p - j ∧ σ = (sg [(1, .ref 110 0), (3, .ref 130 0), (4, .p (.int .i64 (k : Nat))), (5, .ref 150 0), (6, .p (.int .i64 ((max p.el f.el) + (i : Nat)))), (7, .p (.int .i64 ((max p.nl f.nl) + (j : Nat)))), (16, .p (.list (f.ps.map pS))), (17, .p (.int .i64 (f.ps.length : Nat))), (18, .p (.int .i64 (k : Nat)))] [(110, .cells [.p (.list (f.ps.map pS)), .p (.int .i64 f.el), .p (.int .i64 f.eh), .p (.int .i64 f.nl), .p (.int .i64 f.nh), .p (.int .i64 f.dl), .p (.int .i64 f.dh), .p (.int .i64 f.dep), .p (.int .i64 f.tm), .p (.int .i64 f.gp)] 0), (130, .cells [.ref 240 0] 0), (150, .cells [.p (.int .i64 p.el), .p (.int .i64 p.eh), .p (.int .i64 p.nl), .p (.int .i64 p.nh), .p (.int .i64 p.day), .p (.int .i64 p.dep)] 6), (240, .cells [.p (.list (f.ps.map pS)), .p (.int .i64 f.el), .p (.int .i64 f.eh), .p (.int .i64 f.nl), .p (.int .i64 f.nh), .p (.int .i64 f.dl), .p (.int .i64 f.dh), .p (.int .i64 f.dep), .p (.int .i64 f.tm), .p (.int .i64 f.gp), .p (.int .u64 (usedN f (k + 1) : Nat)), .map 220] 10), (220, .map (colM k ((max p.el f.el) + (i : Nat)) (max p.nl f.nl) (rowM k (max p.el f.el) (max p.nl f.nl) (ovH f p) (plM f k) i) j))] A [] : Sg E)) ?_ (fun mz σ hI => ?_)
      · refine lbeg [1, 3, 4, 5, 6, 7, 16, 17, 18] (hV := ?_)
        exact ⟨_, 0, by omega, rfl, sgE (by rw [Int.natCast_zero, Int.add_zero]) rfl⟩
      obtain ⟨j, hj, hnj, rfl⟩ := hI
      repeat refine gwp_seq ?_
      refine gwp_region ?_
      refine v0 (k := ?_)
      refine v0 (k := ?_)
      refine v0 (k := ?_)
      refine v0 (k := ?_)
      refine v0 (k := ?_)
      refine v0 (k := ?_)
      refine v0 (k := ?_)
      refine v0 (k := ?_)
      refine v0 (k := ?_)
      refine nil0 ?_
      repeat refine gwp_seq ?_
      refine cB (k1 := fun hb4 => ?_) (k0 := fun hb4 => ?_)
      · replace hb4 := hB.h {} hb4
        repeat refine gwp_seq ?_
        refine gwp_skip ?_
        refine cl [1, 3, 4, 5, 6, 7, 16, 17, 18] (k := ?_)
        repeat refine gwp_seq ?_
        refine gwp_block ?_
        repeat refine gwp_seq ?_
        have hmk : MK (colM k ((max p.el f.el) + (i : Nat)) (max p.nl f.nl) (rowM k (max p.el f.el) (max p.nl f.nl) (ovH f p) (plM f k) i) j) := MK.col (by omega) (MK.row (by omega) (MK.pl k (by omega)) i) j
        have hko := hmk.ok ((max p.el f.el) + (i : Nat)) ((max p.nl f.nl) + (j : Nat))
        have hko2 := (hmk.ent ((max p.el f.el) + (i : Nat)) ((max p.nl f.nl) + (j : Nat))).ok ((max p.el f.el) + (i : Nat)) ((max p.nl f.nl) + (j : Nat))
        have hlk := look_or hmk ((max p.el f.el) + (i : Nat)) ((max p.nl f.nl) + (j : Nat))
        have hlk2 := look_or (hmk.ent ((max p.el f.el) + (i : Nat)) ((max p.nl f.nl) + (j : Nat))) ((max p.el f.el) + (i : Nat)) ((max p.nl f.nl) + (j : Nat))
        rw [look_ent] at hlk2
        have hlt := hmk.lt ((max p.el f.el) + (i : Nat)) ((max p.nl f.nl) + (j : Nat))
        have hent : entAt (geq Try.prog 6 73) (keyP ((max p.el f.el) + (i : Nat)) ((max p.nl f.nl) + (j : Nat))) (colM k ((max p.el f.el) + (i : Nat)) (max p.nl f.nl) (rowM k (max p.el f.el) (max p.nl f.nl) (ovH f p) (plM f k) i) j) < (entPut (geq Try.prog 6 73) (keyP ((max p.el f.el) + (i : Nat)) ((max p.nl f.nl) + (j : Nat))) (.int .u64 0) (colM k ((max p.el f.el) + (i : Nat)) (max p.nl f.nl) (rowM k (max p.el f.el) (max p.nl f.nl) (ovH f p) (plM f k) i) j)).length := entAt_lt
        have hstore := entSet_put (eq := geq Try.prog 6 73) (k := (keyP ((max p.el f.el) + (i : Nat)) ((max p.nl f.nl) + (j : Nat)))) (z := .int .u64 0) (v := .int .u64 ((lookN (colM k ((max p.el f.el) + (i : Nat)) (max p.nl f.nl) (rowM k (max p.el f.el) (max p.nl f.nl) (ovH f p) (plM f k) i) j) ((max p.el f.el) + (i : Nat)) ((max p.nl f.nl) + (j : Nat)) ||| 2 ^ k : Nat) : Int)) (es := colM k ((max p.el f.el) + (i : Nat)) (max p.nl f.nl) (rowM k (max p.el f.el) (max p.nl f.nl) (ovH f p) (plM f k) i) j) (fun x hx => (hko.2 x hx).2)
        have hsh : IntKind.u64.wrap (1 * 2 ^ min k IntKind.u64.bits) = ((2 ^ k : Nat) : Int) := shl1_u64 k (by omega)
        have hpk : 2 ^ k < 2 ^ 62 := Nat.pow_lt_pow_right (by omega) (by omega)
        have hor := bitop_or_u64 (lookN (colM k ((max p.el f.el) + (i : Nat)) (max p.nl f.nl) (rowM k (max p.el f.el) (max p.nl f.nl) (ovH f p) (plM f k) i) j) ((max p.el f.el) + (i : Nat)) ((max p.nl f.nl) + (j : Nat))) (2 ^ k) (by omega) hpk
        refine rdJ 7 [(220, .map (entPut (geq Try.prog 6 73) (keyP ((max p.el f.el) + (i : Nat)) ((max p.nl f.nl) + (j : Nat))) (.int .u64 0) (colM k ((max p.el f.el) + (i : Nat)) (max p.nl f.nl) (rowM k (max p.el f.el) (max p.nl f.nl) (ovH f p) (plM f k) i) j)))] [13] ?_
        refine j0 0 (k := ?_)
        refine ja0 1 (k := ?_)
        refine ja0 2 (k := ?_)
        refine j0 3 (k := ?_)
        refine ja0 4 (k := ?_)
        refine ja0 5 (k := ?_)
        refine j0 6 (k := ?_)
        refine jl 7 (hv := hlk) (hv2 := hlk2) (hkk := hko) (hkk2 := hko2) (k := ?_)
        refine ja0 8 (k := ?_)
        refine j1 9 (hc := kVc2.h {}) (k := ?_)
        refine j0 10 (k := ?_)
        refine jn1 11 920 false (hc := kVc2.h {}) (k := ?_)
        refine ja0 12 (k := ?_)
        refine js1 13 (hc := kVc2.h {}) (k := ?_)
        refine jz 14 [0, 1, 3, 7, 0, 0, 48, 127, 0, 256, 1023, 895, 2943, 8191] (h := ?_)
        refine de 14 (h := ?_)
        refine cl [1, 3, 4, 5, 6, 7, 16, 17, 18] (k := ?_)
        repeat refine gwp_seq ?_
        refine gwp_region ?_
        refine v0 (k := ?_)
        refine v1 (hc := kVc2.h {}) (k := ?_)
        refine v0 (k := ?_)
        refine nil0 ?_
        refine lend [1, 3, 4, 5, 6, 7, 16, 17, 18] (h := ?_) (hV := ?_) (n' := ovH f p - (j + 1))
        · omega
        exact ⟨j + 1, by omega, rfl, sgE (by rw [Int.natCast_add, Int.add_assoc]; rfl) (by have h2 := hstore; simp only [keyP] at h2; rw [h2]; rfl)⟩
      replace hb4 := hB.h {} hb4
      repeat refine gwp_seq ?_
      refine gwp_exit ?_
      repeat (first | refine gthen_exit ?_ | refine gnoGoto_exit ?_ | refine gblock_here ?_ | refine gblock_out rfl ?_)
      refine cl [1, 3, 4, 5, 6, 16, 17, 18] (k := ?_)
      repeat refine gwp_seq ?_
      refine gwp_region ?_
      refine v0 (k := ?_)
      refine v1 (hc := kVc2.h {}) (k := ?_)
      refine v0 (k := ?_)
      refine nil0 ?_
      refine lend [1, 3, 4, 5, 6, 16, 17, 18] (h := ?_) (hV := ?_) (n' := ovW f p - (i + 1))
      · omega
      exact ⟨i + 1, by omega, rfl, sgE (by rw [Int.natCast_add, Int.add_assoc]; rfl) (by rw [show j = ovH f p by omega]; rfl)⟩
    replace hb3 := hB.h {} hb3
    repeat refine gwp_seq ?_
    refine gwp_exit ?_
    repeat (first | refine gthen_exit ?_ | refine gnoGoto_exit ?_ | refine gblock_here ?_ | refine gblock_out rfl ?_)
    refine cl [1, 3, 16, 17, 18] (k := ?_)
    repeat refine gwp_seq ?_
    refine gwp_region ?_
    refine v1 (hc := kVc2.h {}) (k := ?_)
    refine v0 (k := ?_)
    refine nil0 ?_
    refine lend [1, 3, 16, 17, 18] (h := ?_) (hV := ?_) (n' := f.ps.length - (k + 1))
    · omega
    first
    | exact ⟨k + 1, by omega, rfl, sgE rfl (by rw [used_skip hp (by assumption), plM_skip hp (by assumption)])⟩
    | exact ⟨k + 1, by omega, rfl, sgE rfl (by rw [plM_next hp hu, show i = ovW f p by omega])⟩
  replace hb1 := hB.h {} hb1
  repeat refine gwp_seq ?_
  refine gwp_exit ?_
  repeat (first | refine gthen_exit ?_ | refine gnoGoto_exit ?_ | refine gblock_here ?_ | refine gblock_out rfl ?_)
  refine cl [3] (k := ?_)
  repeat refine gwp_seq ?_
  obtain rfl : k = f.ps.length := by omega
  refine fz 240 12 [.k, .k, .k, .k, .k, .k, .k, .k, .k, .k, .k, .k] (k := ?_)
  refine fz 130 1 [.n [.k, .k, .k, .k, .k, .k, .k, .k, .k, .k, .k, .k]] (k := ?_)
  refine gwp_region ?_
  refine v0 (k := ?_)
  refine v0 (k := ?_)
  refine nil0 ?_
  repeat refine gwp_seq ?_
  refine gwp_ret ?_
  repeat (first | refine gthen_ret ?_ | refine gblock_ret ?_ | refine gnoGoto_ret ?_)
  refine fin_ret ?_
  refine fh [220] (hR := ?_)
  rfl
theorem s_open_f {E : Env Try.prog} {A : E.α} (f : Fd) (hl : f.ps.length ≤ 1048576) (hv : f.valid = false) : Gh.Spec E 40 [.p (.agg [.list (f.ps.map pS), .int .i64 f.el, .int .i64 f.eh, .int .i64 f.nl, .int .i64 f.nh, .int .i64 f.dl, .int .i64 f.dh, .int .i64 f.dep, .int .i64 f.tm, .int .i64 f.gp])] (mkHp []) A (fun y => y = .panic (.iface 100 (.agg [.int .i64 1])) (mkHp []) A) := by
  refine spec_of Try.func40 (rfl : Try.f40.body = some _) (Nat.le_of_ble_eq_true rfl) (fun id h => ?_) (fun j id h => ?_) ?_
  · exact wf1x h
  · exact wf2x h
  intro C hN hL
  replace hN : C.N = 86 := hN
  simp only [Gh.num, List.map_cons, List.map_nil, Nat.reduceAdd]
  repeat refine gwp_seq ?_
  refine gwp_region ?_
  refine n1 110 false (hc := kVc1.h {}) (k := ?_)
  refine v0 (k := ?_)
  refine nil0 ?_
  refine cl [1] (k := ?_)
  repeat refine gwp_seq ?_
  refine gwp_region ?_
  refine v0 (k := ?_)
  refine pc0 (spec := s_isField f hl) (hent := ent68) (k := ?_)
  refine rb 9 false (h := by (exact hv)) (k := ?_)
  refine pp0 (spec := s_must_f _) (hent := ent43) (k := ?_)
  repeat (first | refine gthen_panic ?_ | refine gblock_panic ?_)
  refine fph [] (hR := ?_)
  rfl
end Go.Proofs.Ytabeeaiilanmjaa

/- Rules of written-out states: copy; leaving with a value that nobody turns, and objects. -/
namespace Go.Proofs.Ytabeeaiilanmjaa
open Go.Gh
set_option maxRecDepth 100000
structure eI1 {α : Type} (a b : α) : Prop where
  h : a = b := by (simp only [gresult, gresL, gres1, tup_nil, tup_one, tup_two, gsem, gev, ofV, mkFr_cons, mkFr_nil, mkHp_cons, mkHp_nil, upd, yes, lift, gbinAt, gnilEq, gbin, gint, gshift, arith, gpick, gload, gstore, splice, gbox, gfill, placesL, gbuildSlice, gfieldAddr, gfield, gelem, gindexAddr, gindex, gbound, gslice, glen, gsource, gappend, gmin, gminL, gmax, gmaxL, mapGet, mapPut, zeroG, orZero, glookup, gmapUpdate, gmapEntry, gentryStore, Option.getD_none, Option.getD_some, gconvert, gtypeAssert, gextract, isConst, gnilCheck, gunOp, gmakeSlice, intOf, mkAgg, mkFn, mkIface, mkTuple, allP, G.cells, good, goods, allOne, G.one, P.one, allP_p, allOne_p, goods_p, toPs_p, all_int, take_all, isAggD, isIfaceD, toP, toPs, P.size, P.cells, List.map_cons, List.map_nil, List.take_succ_cons, List.take_zero, List.drop_succ_cons, List.drop_zero, List.take_nil, List.drop_nil, List.cons_append, List.nil_append, List.append_nil, List.length_cons, List.length_nil, List.getElem?_cons_zero, List.getElem?_cons_succ, List.getElem?_nil, List.set_cons_zero, List.set_cons_succ, List.flatMap_cons, List.flatMap_nil, List.getElem?_toArray, List.getElem?_map, List.length_map, Option.map_some, Option.map_none, Nat.mul_one, List.length_set, set_map_p, set_map_int, Nat.reduceEqDiff, Nat.reduceAdd, Nat.reduceMul, Nat.reduceSub, Nat.reduceLeDiff, Nat.add_zero, Nat.zero_add, Int.toNat_natCast, Int.reduceToNat, reduceIte, reduceCtorEq, eq_self, if_true, if_false, and_true, true_and, true_or, or_true, or_false, false_or, Bool.false_eq_true, ne_eq, not_true_eq_false, not_false_eq_true, cond_true, cond_false, Bool.and_true, Bool.true_and, Bool.and_false, Bool.false_and, Bool.or_true, Bool.true_or, Bool.or_false, Bool.false_or, Bool.not_true, Bool.not_false, ti_3, ti_4, ti_5, ti_9, ti_20, ti_22, ti_24, ti_26, ti_29, ti_37, ti_42, ti_44, ti_45, ti_48, ti_50, ti_51, ti_52, ti_55, ti_60, ti_61, ti_62, ti_63, ti_65, ti_66, ti_71, ti_73, ti_74, ti_75, ti_78, ti_79, ti_83, ti_85, ti_86, ti_90, ti_100, ti_102, ti_103, ti_105, ti_106, ti_108, ti_111, ti_114, ti_115, ti_117, ti_120, ti_125, ti_127, ti_130, ti_136, ti_140, ti_142] <;> rfl)
structure eI2 {α : Type} (a b : α) : Prop where
  h : a = b := by (simp only [frIds, dfIds, gdIdl, obIdl, hpIds, restrictL, dedupL, pickL, subB, G.idl, G.idls, idls_p, List.nil_append, List.append_nil, List.cons_append, mkHp_cons, mkHp_nil, Nat.reduceEqDiff, reduceIte, List.mem_cons, List.not_mem_nil, or_false, or_true, true_or, false_or, List.filter_cons, List.filter_nil, ne_eq, not_true_eq_false, not_false_eq_true, decide_true, decide_false, Bool.false_eq_true, List.all_cons, List.all_nil, Bool.and_true] <;> rfl)
structure eI3 {α : Type} (a b : α) : Prop where
  h : a = b := by (simp only [ti_3, ti_4, ti_5, ti_9, ti_20, ti_22, ti_24, ti_26, ti_29, ti_37, ti_42, ti_44, ti_45, ti_48, ti_50, ti_51, ti_52, ti_55, ti_60, ti_61, ti_62, ti_63, ti_65, ti_66, ti_71, ti_73, ti_74, ti_75, ti_78, ti_79, ti_83, ti_85, ti_86, ti_90, ti_100, ti_102, ti_103, ti_105, ti_106, ti_108, ti_111, ti_114, ti_115, ti_117, ti_120, ti_125, ti_127, ti_130, ti_136, ti_140, ti_142] <;> rfl)
variable {E : Env Try.prog} {C : Cx E} {r : Option Nat} {ops : Array Oper} {Q : GE → Sg E → Prop} {rest lst : List Oper} {l : List (Nat × G)} {m : List (Nat × Ob)} {A : E.α} {df : List GD} {g : G}
theorem fk1 (I : List Nat) {fn : Func} {R : GRes E → Prop} {d d' : Prop} {v : P} {m' : List (Nat × Ob)} {x1 : ResultVar} (hrs : fn.results.toList = [x1] := by rfl) (hg : gresult Try.prog (mkHp m) (mkFr l) [x1] = some (d, g) := by exact eI1.h {})
    (hp : toP (mkHp m) g = some (d', v) := by (simp only [toP, toPs, mkHp_cons, mkHp_nil, Nat.reduceEqDiff, reduceIte, and_true, true_and] <;> rfl)) (hm : restrictL I m = m' := by exact eI2.h {}) (h3 : subB (hpIds m I) I = true := by exact eI2.h {}) (hne : ∀ i ∈ I, mkHp m i ≠ .none := by simp [mkHp_cons, mkHp_nil])
    (hR : R (.ok (.p v) (mkHp m') A)) (hd : d := by simp) (hd' : d' := by simp) : Fin Try.prog fn R (sg l m A []) := fin_pk (by rw [hrs]; exact hg) hd hp hd' hm h3 hne hR
end Go.Proofs.Ytabeeaiilanmjaa
