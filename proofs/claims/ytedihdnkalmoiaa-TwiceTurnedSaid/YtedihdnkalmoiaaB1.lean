/- What functions of the program return, each for every input that its theorem names. -/
import Derived.Test.YtedihdnkalmoiaaA3
import Derived.Test.YtedihdnkalmoiaaProg
import Derived.IntWalk
set_option linter.unusedVariables false
set_option linter.unusedSimpArgs false
/- The program's types as the ghost operations ask for them. -/
namespace Go.Proofs.Ytedihdnkalmoiaa
open Go.Gh
set_option maxRecDepth 100000
theorem ti_3 : ti Try.prog 3 = some ⟨.int .i64, 1, 8, [.p (.int .i64 0)], false⟩ := by kernel_rfl
theorem ti_4 : ti Try.prog 4 = some ⟨.bool, 1, 1, [.p (.bool false)], false⟩ := by kernel_rfl
theorem ti_5 : ti Try.prog 5 = some ⟨.int .u8, 1, 1, [.p (.int .u8 0)], false⟩ := by kernel_rfl
theorem ti_9 : ti Try.prog 9 = some ⟨.string, 1, 16, [.p (.str [])], false⟩ := by kernel_rfl
theorem ti_20 : ti Try.prog 20 = some ⟨.interface #[], 1, 16, [.p .niliface], false⟩ := by kernel_rfl
theorem ti_22 : ti Try.prog 22 = some ⟨.slice 3, 1, 24, [.nils], false⟩ := by kernel_rfl
theorem ti_24 : ti Try.prog 24 = some ⟨.struct #[{ name := "Lo", type := 3, offset := 0, embedded := false, tag := "", pkgPath := "", byteOffset := 0 }, { name := "Hi", type := 3, offset := 1, embedded := false, tag := "", pkgPath := "", byteOffset := 8 }], 2, 16, [.p (.int .i64 0), .p (.int .i64 0)], true⟩ := by kernel_rfl
theorem ti_25 : ti Try.prog 25 = some ⟨.slice 50, 1, 24, [.nils], false⟩ := by kernel_rfl
theorem ti_27 : ti Try.prog 27 = some ⟨.struct #[{ name := "Numbers", type := 3, offset := 0, embedded := false, tag := "", pkgPath := "", byteOffset := 0 }, { name := "Sizes", type := 22, offset := 1, embedded := false, tag := "", pkgPath := "", byteOffset := 8 }, { name := "Plates", type := 24, offset := 2, embedded := false, tag := "", pkgPath := "", byteOffset := 32 }, { name := "Notes", type := 25, offset := 4, embedded := false, tag := "", pkgPath := "", byteOffset := 48 }], 5, 72, [.p (.int .i64 0), .nils, .p (.int .i64 0), .p (.int .i64 0), .nils], true⟩ := by kernel_rfl
theorem ti_30 : ti Try.prog 30 = some ⟨.int .i64, 1, 8, [.p (.int .i64 0)], false⟩ := by kernel_rfl
theorem ti_40 : ti Try.prog 40 = some ⟨.slice 55, 1, 24, [.nils], false⟩ := by kernel_rfl
theorem ti_43 : ti Try.prog 43 = some ⟨.func #[3] #[3] false, 1, 8, [.p .nilfn], false⟩ := by kernel_rfl
theorem ti_48 : ti Try.prog 48 = some ⟨.slice 22, 1, 24, [.nils], false⟩ := by kernel_rfl
theorem ti_50 : ti Try.prog 50 = some ⟨.struct #[{ name := "A", type := 3, offset := 0, embedded := false, tag := "", pkgPath := "", byteOffset := 0 }, { name := "B", type := 3, offset := 1, embedded := false, tag := "", pkgPath := "", byteOffset := 8 }, { name := "Same", type := 4, offset := 2, embedded := false, tag := "", pkgPath := "", byteOffset := 16 }], 3, 24, [.p (.int .i64 0), .p (.int .i64 0), .p (.bool false)], true⟩ := by kernel_rfl
theorem ti_51 : ti Try.prog 51 = some ⟨.slice 5, 1, 24, [.nils], false⟩ := by kernel_rfl
theorem ti_55 : ti Try.prog 55 = some ⟨.int .u16, 1, 2, [.p (.int .u16 0)], false⟩ := by kernel_rfl
theorem ti_57 : ti Try.prog 57 = some ⟨.func #[3] #[4] false, 1, 8, [.p .nilfn], false⟩ := by kernel_rfl
theorem ti_61 : ti Try.prog 61 = some ⟨.slice 27, 1, 24, [.nils], false⟩ := by kernel_rfl
theorem ti_66 : ti Try.prog 66 = some ⟨.pointer 30, 1, 8, [.p .nilptr], false⟩ := by kernel_rfl
theorem ti_67 : ti Try.prog 67 = some ⟨.pointer 95, 1, 8, [.p .nilptr], false⟩ := by kernel_rfl
theorem ti_71 : ti Try.prog 71 = some ⟨.array 2 4, 2, 2, [.p (.bool false), .p (.bool false)], true⟩ := by kernel_rfl
theorem ti_72 : ti Try.prog 72 = some ⟨.func #[84] #[4] false, 1, 8, [.p .nilfn], false⟩ := by kernel_rfl
theorem ti_74 : ti Try.prog 74 = some ⟨.struct #[{ name := "a", type := 3, offset := 0, embedded := false, tag := "", pkgPath := "zoneworks/twice", byteOffset := 0 }, { name := "b", type := 3, offset := 1, embedded := false, tag := "", pkgPath := "zoneworks/twice", byteOffset := 8 }], 2, 16, [.p (.int .i64 0), .p (.int .i64 0)], true⟩ := by kernel_rfl
theorem ti_75 : ti Try.prog 75 = some ⟨.struct #[{ name := "a", type := 3, offset := 0, embedded := false, tag := "", pkgPath := "zoneworks/twice", byteOffset := 0 }, { name := "b", type := 3, offset := 1, embedded := false, tag := "", pkgPath := "zoneworks/twice", byteOffset := 8 }], 2, 16, [.p (.int .i64 0), .p (.int .i64 0)], true⟩ := by kernel_rfl
theorem ti_76 : ti Try.prog 76 = some ⟨.slice 72, 1, 24, [.nils], false⟩ := by kernel_rfl
theorem ti_77 : ti Try.prog 77 = some ⟨.func #[72] #[] false, 1, 8, [.p .nilfn], false⟩ := by kernel_rfl
theorem ti_78 : ti Try.prog 78 = some ⟨.func #[72] #[] false, 1, 8, [.p .nilfn], false⟩ := by kernel_rfl
theorem ti_80 : ti Try.prog 80 = some ⟨.int .u64, 1, 8, [.p (.int .u64 0)], false⟩ := by kernel_rfl
theorem ti_81 : ti Try.prog 81 = some ⟨.int .u64, 1, 8, [.p (.int .u64 0)], false⟩ := by kernel_rfl
theorem ti_84 : ti Try.prog 84 = some ⟨.array 8 3, 8, 64, [.p (.int .i64 0), .p (.int .i64 0), .p (.int .i64 0), .p (.int .i64 0), .p (.int .i64 0), .p (.int .i64 0), .p (.int .i64 0), .p (.int .i64 0)], true⟩ := by kernel_rfl
theorem ti_91 : ti Try.prog 91 = some ⟨.slice 109, 1, 24, [.nils], false⟩ := by kernel_rfl
theorem ti_92 : ti Try.prog 92 = some ⟨.slice 84, 1, 24, [.nils], false⟩ := by kernel_rfl
theorem ti_93 : ti Try.prog 93 = some ⟨.map 81 4, 1, 8, [.p .nilmap], false⟩ := by kernel_rfl
theorem ti_95 : ti Try.prog 95 = some ⟨.struct #[{ name := "Shelf", type := 27, offset := 0, embedded := true, tag := "", pkgPath := "", byteOffset := 0 }, { name := "notes", type := 91, offset := 5, embedded := false, tag := "", pkgPath := "zoneworks/twice", byteOffset := 72 }, { name := "ways", type := 92, offset := 6, embedded := false, tag := "", pkgPath := "zoneworks/twice", byteOffset := 96 }, { name := "known", type := 93, offset := 7, embedded := false, tag := "", pkgPath := "zoneworks/twice", byteOffset := 120 }], 8, 128, [.p (.int .i64 0), .nils, .p (.int .i64 0), .p (.int .i64 0), .nils, .nils, .nils, .p .nilmap], true⟩ := by kernel_rfl
theorem ti_97 : ti Try.prog 97 = some ⟨.struct #[{ name := "lo", type := 3, offset := 0, embedded := false, tag := "", pkgPath := "zoneworks/twice", byteOffset := 0 }, { name := "hi", type := 3, offset := 1, embedded := false, tag := "", pkgPath := "zoneworks/twice", byteOffset := 8 }, { name := "some", type := 4, offset := 2, embedded := false, tag := "", pkgPath := "zoneworks/twice", byteOffset := 16 }], 3, 24, [.p (.int .i64 0), .p (.int .i64 0), .p (.bool false)], true⟩ := by kernel_rfl
theorem ti_99 : ti Try.prog 99 = some ⟨.func #[81] #[4] false, 1, 8, [.p .nilfn], false⟩ := by kernel_rfl
theorem ti_105 : ti Try.prog 105 = some ⟨.struct #[{ name := "errno", type := 30, offset := 0, embedded := false, tag := "", pkgPath := "zoneworks/twice", byteOffset := 0 }], 1, 8, [.p (.int .i64 0)], true⟩ := by kernel_rfl
theorem ti_109 : ti Try.prog 109 = some ⟨.interface #[("zoneworks/twice.right", 72)], 1, 16, [.p .niliface], false⟩ := by kernel_rfl
theorem ti_111 : ti Try.prog 111 = some ⟨.pointer 97, 1, 8, [.p .nilptr], false⟩ := by kernel_rfl
theorem ti_115 : ti Try.prog 115 = some ⟨.func #[84, 3] #[4] false, 1, 8, [.p .nilfn], false⟩ := by kernel_rfl
theorem ti_118 : ti Try.prog 118 = some ⟨.int .u32, 1, 4, [.p (.int .u32 0)], false⟩ := by kernel_rfl
theorem ti_120 : ti Try.prog 120 = some ⟨.int .u64, 1, 8, [.p (.int .u64 0)], false⟩ := by kernel_rfl
end Go.Proofs.Ytedihdnkalmoiaa

/- The rules of written-out states at the program's types: what an operation does is worked out at once. -/
namespace Go.Proofs.Ytedihdnkalmoiaa
open Go.Gh
set_option maxRecDepth 100000
variable {E : Env Try.prog} {C : Cx E} {r : Option Nat} {ops : Array Oper} {Q : GE → Sg E → Prop} {rest lst : List Oper} {l l' : List (Nat × G)} {m : List (Nat × Ob)} {A : E.α} {df : List GD}
variable {t : Nat} {op : Op} {ty : TypeId} {pos : String} {af : Array Edge} {c : Prop} {g : G} {ob : Ob} {i j : Nat} {gd : Option (Nat × Bool)} {b x : Bool} {cd : Code} {J : List Nat}

/-- A value. -/
theorem v0 (hg : gsem Try.prog false 99999 (gev (mkFr l)) (mkHp m) op = some (c, ⟨g, none⟩) := by (simp only [gsem, gev, ofV, mkFr_cons, mkFr_nil, mkHp_cons, mkHp_nil, upd, yes, lift, gbinAt, gnilEq, gbin, gint, gshift, arith, gpick, gload, gstore, splice, gbox, gfill, placesL, gbuildSlice, gfieldAddr, gfield, gelem, gindexAddr, gindex, gbound, gslice, glen, gsource, gappend, gmin, gminL, gmax, gmaxL, mapGet, mapPut, zeroG, orZero, glookup, gmapUpdate, gconvert, gtypeAssert, gextract, isConst, gnilCheck, gunOp, gmakeSlice, intOf, mkAgg, mkFn, mkIface, mkTuple, allP, G.cells, good, goods, allOne, G.one, P.one, allP_p, allOne_p, goods_p, toPs_p, all_int, take_all, isAggD, isIfaceD, toP, toPs, P.size, P.cells, List.map_cons, List.map_nil, List.take_succ_cons, List.take_zero, List.drop_succ_cons, List.drop_zero, List.take_nil, List.drop_nil, List.cons_append, List.nil_append, List.append_nil, List.length_cons, List.length_nil, List.getElem?_cons_zero, List.getElem?_cons_succ, List.getElem?_nil, List.set_cons_zero, List.set_cons_succ, List.flatMap_cons, List.flatMap_nil, List.getElem?_toArray, List.getElem?_map, List.length_map, Option.map_some, Option.map_none, Nat.mul_one, List.length_set, set_map_p, set_map_int, Nat.reduceEqDiff, Nat.reduceAdd, Nat.reduceMul, Nat.reduceSub, Nat.reduceLeDiff, Nat.add_zero, Nat.zero_add, Int.toNat_natCast, Int.reduceToNat, reduceIte, reduceCtorEq, eq_self, if_true, if_false, and_true, true_and, true_or, or_true, or_false, false_or, Bool.false_eq_true, ne_eq, not_true_eq_false, not_false_eq_true, cond_true, cond_false, Bool.and_true, Bool.true_and, Bool.and_false, Bool.false_and, Bool.or_true, Bool.true_or, Bool.or_false, Bool.false_or, Bool.not_true, Bool.not_false, ti_3, ti_4, ti_5, ti_9, ti_20, ti_22, ti_24, ti_25, ti_27, ti_30, ti_40, ti_43, ti_48, ti_50, ti_51, ti_55, ti_57, ti_61, ti_66, ti_67, ti_71, ti_72, ti_74, ti_75, ti_76, ti_77, ti_78, ti_80, ti_81, ti_84, ti_91, ti_92, ti_93, ti_95, ti_97, ti_99, ti_105, ti_109, ti_111, ti_115, ti_118, ti_120, *] <;> rfl)) (hd : mkHp m 99999 = .none := by (simp only [mkHp_cons, mkHp_nil, Nat.reduceEqDiff, reduceIte])) (ht : t < C.N := by omega)
    (k : gops C r ops Q rest (sg ((t, g) :: l) m A df)) (hc : c := by first | exact True.intro | simp) : gops C r ops Q (⟨some t, op, ty, pos, af, none⟩ :: rest) (sg l m A df) := go_v (gwant_plain rfl) hg hd ht hc k
/-- A value, with a condition that is left to prove. -/
theorem v1 (hg : gsem Try.prog false 99999 (gev (mkFr l)) (mkHp m) op = some (c, ⟨g, none⟩) := by (simp only [gsem, gev, ofV, mkFr_cons, mkFr_nil, mkHp_cons, mkHp_nil, upd, yes, lift, gbinAt, gnilEq, gbin, gint, gshift, arith, gpick, gload, gstore, splice, gbox, gfill, placesL, gbuildSlice, gfieldAddr, gfield, gelem, gindexAddr, gindex, gbound, gslice, glen, gsource, gappend, gmin, gminL, gmax, gmaxL, mapGet, mapPut, zeroG, orZero, glookup, gmapUpdate, gconvert, gtypeAssert, gextract, isConst, gnilCheck, gunOp, gmakeSlice, intOf, mkAgg, mkFn, mkIface, mkTuple, allP, G.cells, good, goods, allOne, G.one, P.one, allP_p, allOne_p, goods_p, toPs_p, all_int, take_all, isAggD, isIfaceD, toP, toPs, P.size, P.cells, List.map_cons, List.map_nil, List.take_succ_cons, List.take_zero, List.drop_succ_cons, List.drop_zero, List.take_nil, List.drop_nil, List.cons_append, List.nil_append, List.append_nil, List.length_cons, List.length_nil, List.getElem?_cons_zero, List.getElem?_cons_succ, List.getElem?_nil, List.set_cons_zero, List.set_cons_succ, List.flatMap_cons, List.flatMap_nil, List.getElem?_toArray, List.getElem?_map, List.length_map, Option.map_some, Option.map_none, Nat.mul_one, List.length_set, set_map_p, set_map_int, Nat.reduceEqDiff, Nat.reduceAdd, Nat.reduceMul, Nat.reduceSub, Nat.reduceLeDiff, Nat.add_zero, Nat.zero_add, Int.toNat_natCast, Int.reduceToNat, reduceIte, reduceCtorEq, eq_self, if_true, if_false, and_true, true_and, true_or, or_true, or_false, false_or, Bool.false_eq_true, ne_eq, not_true_eq_false, not_false_eq_true, cond_true, cond_false, Bool.and_true, Bool.true_and, Bool.and_false, Bool.false_and, Bool.or_true, Bool.true_or, Bool.or_false, Bool.false_or, Bool.not_true, Bool.not_false, ti_3, ti_4, ti_5, ti_9, ti_20, ti_22, ti_24, ti_25, ti_27, ti_30, ti_40, ti_43, ti_48, ti_50, ti_51, ti_55, ti_57, ti_61, ti_66, ti_67, ti_71, ti_72, ti_74, ti_75, ti_76, ti_77, ti_78, ti_80, ti_81, ti_84, ti_91, ti_92, ti_93, ti_95, ti_97, ti_99, ti_105, ti_109, ti_111, ti_115, ti_118, ti_120, *] <;> rfl)) (hd : mkHp m 99999 = .none := by (simp only [mkHp_cons, mkHp_nil, Nat.reduceEqDiff, reduceIte])) (ht : t < C.N := by omega)
    (hc : c) (k : gops C r ops Q rest (sg ((t, g) :: l) m A df)) : gops C r ops Q (⟨some t, op, ty, pos, af, none⟩ :: rest) (sg l m A df) := go_v (gwant_plain rfl) hg hd ht hc k
/-- A value under a guard. -/
theorem w0 {b' : Bool} (hj : (ops[j]?).bind (·.dst) = some i := by rfl) (hx : mkFr l i = .p (.bool b') := by (simp only [mkFr_cons, Nat.reduceEqDiff, reduceIte] <;> rfl)) (hb : (b' == b) = true := by rfl)
    (hg : gsem Try.prog false 99999 (gev (mkFr l)) (mkHp m) op = some (c, ⟨g, none⟩) := by (simp only [gsem, gev, ofV, mkFr_cons, mkFr_nil, mkHp_cons, mkHp_nil, upd, yes, lift, gbinAt, gnilEq, gbin, gint, gshift, arith, gpick, gload, gstore, splice, gbox, gfill, placesL, gbuildSlice, gfieldAddr, gfield, gelem, gindexAddr, gindex, gbound, gslice, glen, gsource, gappend, gmin, gminL, gmax, gmaxL, mapGet, mapPut, zeroG, orZero, glookup, gmapUpdate, gconvert, gtypeAssert, gextract, isConst, gnilCheck, gunOp, gmakeSlice, intOf, mkAgg, mkFn, mkIface, mkTuple, allP, G.cells, good, goods, allOne, G.one, P.one, allP_p, allOne_p, goods_p, toPs_p, all_int, take_all, isAggD, isIfaceD, toP, toPs, P.size, P.cells, List.map_cons, List.map_nil, List.take_succ_cons, List.take_zero, List.drop_succ_cons, List.drop_zero, List.take_nil, List.drop_nil, List.cons_append, List.nil_append, List.append_nil, List.length_cons, List.length_nil, List.getElem?_cons_zero, List.getElem?_cons_succ, List.getElem?_nil, List.set_cons_zero, List.set_cons_succ, List.flatMap_cons, List.flatMap_nil, List.getElem?_toArray, List.getElem?_map, List.length_map, Option.map_some, Option.map_none, Nat.mul_one, List.length_set, set_map_p, set_map_int, Nat.reduceEqDiff, Nat.reduceAdd, Nat.reduceMul, Nat.reduceSub, Nat.reduceLeDiff, Nat.add_zero, Nat.zero_add, Int.toNat_natCast, Int.reduceToNat, reduceIte, reduceCtorEq, eq_self, if_true, if_false, and_true, true_and, true_or, or_true, or_false, false_or, Bool.false_eq_true, ne_eq, not_true_eq_false, not_false_eq_true, cond_true, cond_false, Bool.and_true, Bool.true_and, Bool.and_false, Bool.false_and, Bool.or_true, Bool.true_or, Bool.or_false, Bool.false_or, Bool.not_true, Bool.not_false, ti_3, ti_4, ti_5, ti_9, ti_20, ti_22, ti_24, ti_25, ti_27, ti_30, ti_40, ti_43, ti_48, ti_50, ti_51, ti_55, ti_57, ti_61, ti_66, ti_67, ti_71, ti_72, ti_74, ti_75, ti_76, ti_77, ti_78, ti_80, ti_81, ti_84, ti_91, ti_92, ti_93, ti_95, ti_97, ti_99, ti_105, ti_109, ti_111, ti_115, ti_118, ti_120, *] <;> rfl)) (hd : mkHp m 99999 = .none := by (simp only [mkHp_cons, mkHp_nil, Nat.reduceEqDiff, reduceIte])) (ht : t < C.N := by omega)
    (k : gops C r ops Q rest (sg ((t, g) :: l) m A df)) (hc : c := by first | exact True.intro | simp) : gops C r ops Q (⟨some t, op, ty, pos, af, some (j, b)⟩ :: rest) (sg l m A df) := go_v ((gwant_at rfl hj hx).trans (by rw [hb])) hg hd ht hc k
theorem w1 {b' : Bool} (hj : (ops[j]?).bind (·.dst) = some i := by rfl) (hx : mkFr l i = .p (.bool b') := by (simp only [mkFr_cons, Nat.reduceEqDiff, reduceIte] <;> rfl)) (hb : (b' == b) = true := by rfl)
    (hg : gsem Try.prog false 99999 (gev (mkFr l)) (mkHp m) op = some (c, ⟨g, none⟩) := by (simp only [gsem, gev, ofV, mkFr_cons, mkFr_nil, mkHp_cons, mkHp_nil, upd, yes, lift, gbinAt, gnilEq, gbin, gint, gshift, arith, gpick, gload, gstore, splice, gbox, gfill, placesL, gbuildSlice, gfieldAddr, gfield, gelem, gindexAddr, gindex, gbound, gslice, glen, gsource, gappend, gmin, gminL, gmax, gmaxL, mapGet, mapPut, zeroG, orZero, glookup, gmapUpdate, gconvert, gtypeAssert, gextract, isConst, gnilCheck, gunOp, gmakeSlice, intOf, mkAgg, mkFn, mkIface, mkTuple, allP, G.cells, good, goods, allOne, G.one, P.one, allP_p, allOne_p, goods_p, toPs_p, all_int, take_all, isAggD, isIfaceD, toP, toPs, P.size, P.cells, List.map_cons, List.map_nil, List.take_succ_cons, List.take_zero, List.drop_succ_cons, List.drop_zero, List.take_nil, List.drop_nil, List.cons_append, List.nil_append, List.append_nil, List.length_cons, List.length_nil, List.getElem?_cons_zero, List.getElem?_cons_succ, List.getElem?_nil, List.set_cons_zero, List.set_cons_succ, List.flatMap_cons, List.flatMap_nil, List.getElem?_toArray, List.getElem?_map, List.length_map, Option.map_some, Option.map_none, Nat.mul_one, List.length_set, set_map_p, set_map_int, Nat.reduceEqDiff, Nat.reduceAdd, Nat.reduceMul, Nat.reduceSub, Nat.reduceLeDiff, Nat.add_zero, Nat.zero_add, Int.toNat_natCast, Int.reduceToNat, reduceIte, reduceCtorEq, eq_self, if_true, if_false, and_true, true_and, true_or, or_true, or_false, false_or, Bool.false_eq_true, ne_eq, not_true_eq_false, not_false_eq_true, cond_true, cond_false, Bool.and_true, Bool.true_and, Bool.and_false, Bool.false_and, Bool.or_true, Bool.true_or, Bool.or_false, Bool.false_or, Bool.not_true, Bool.not_false, ti_3, ti_4, ti_5, ti_9, ti_20, ti_22, ti_24, ti_25, ti_27, ti_30, ti_40, ti_43, ti_48, ti_50, ti_51, ti_55, ti_57, ti_61, ti_66, ti_67, ti_71, ti_72, ti_74, ti_75, ti_76, ti_77, ti_78, ti_80, ti_81, ti_84, ti_91, ti_92, ti_93, ti_95, ti_97, ti_99, ti_105, ti_109, ti_111, ti_115, ti_118, ti_120, *] <;> rfl)) (hd : mkHp m 99999 = .none := by (simp only [mkHp_cons, mkHp_nil, Nat.reduceEqDiff, reduceIte])) (ht : t < C.N := by omega)
    (hc : c) (k : gops C r ops Q rest (sg ((t, g) :: l) m A df)) : gops C r ops Q (⟨some t, op, ty, pos, af, some (j, b)⟩ :: rest) (sg l m A df) := go_v ((gwant_at rfl hj hx).trans (by rw [hb])) hg hd ht hc k
/-- Left out. -/
theorem x0 {b' : Bool} (hj : (ops[j]?).bind (·.dst) = some i := by rfl) (hx : mkFr l i = .p (.bool b') := by (simp only [mkFr_cons, Nat.reduceEqDiff, reduceIte] <;> rfl)) (hb : (b' == b) = false := by rfl) (ht : t < C.N := by omega)
    (k : gops C r ops Q rest (sg ((t, .p (.tuple [])) :: l) m A df)) : gops C r ops Q (⟨some t, op, ty, pos, af, some (j, b)⟩ :: rest) (sg l m A df) := go_x ((gwant_at rfl hj hx).trans (by rw [hb])) ht k
theorem x1 (hj : (ops[j]?).bind (·.dst) = some i := by rfl) (hx : mkFr l i = .p (.tuple []) := by (simp only [mkFr_cons, Nat.reduceEqDiff, reduceIte] <;> rfl)) (ht : t < C.N := by omega)
    (k : gops C r ops Q rest (sg ((t, .p (.tuple [])) :: l) m A df)) : gops C r ops Q (⟨some t, op, ty, pos, af, some (j, b)⟩ :: rest) (sg l m A df) := go_x (gwant_un rfl hj hx) ht k
/-- The guard is not known: both. -/
theorem b0 {b' : Bool} (hj : (ops[j]?).bind (·.dst) = some i := by rfl) (hx : mkFr l i = .p (.bool b') := by (simp only [mkFr_cons, Nat.reduceEqDiff, reduceIte] <;> rfl))
    (k1 : b' = true → gops C r ops Q (⟨some t, op, ty, pos, af, some (j, b)⟩ :: rest) (sg ((i, .p (.bool true)) :: l) m A df)) (k0 : b' = false → gops C r ops Q (⟨some t, op, ty, pos, af, some (j, b)⟩ :: rest) (sg ((i, .p (.bool false)) :: l) m A df)) :
    gops C r ops Q (⟨some t, op, ty, pos, af, some (j, b)⟩ :: rest) (sg l m A df) := go_b i hx k1 k0
/-- A register's truth is known. -/
theorem rb (t : Nat) (b : Bool) {x : Bool} (hx : mkFr l t = .p (.bool x) := by (simp only [mkFr_cons, Nat.reduceEqDiff, reduceIte] <;> rfl)) (h : x = b) (k : gops C r ops Q lst (sg ((t, .p (.bool b)) :: l) m A df)) : gops C r ops Q lst (sg l m A df) := by
  subst h
  rwa [sg, mkFr_again hx] at k
theorem nil0 (k : Q .normal (sg l m A df)) : gops C r ops Q [] (sg l m A df) := gops_nil k
theorem cT {o : Operand} {y z : Code} (hb : gev (mkFr l) o = .p (.bool true) := by (simp only [gev, mkFr_cons, Nat.reduceEqDiff, reduceIte] <;> rfl)) (k : gwp C r y Q (sg l m A df)) : gwp C r (.cond o y z) Q (sg l m A df) := gc_condT hb k
theorem cF {o : Operand} {y z : Code} (hb : gev (mkFr l) o = .p (.bool false) := by (simp only [gev, mkFr_cons, Nat.reduceEqDiff, reduceIte] <;> rfl)) (k : gwp C r z Q (sg l m A df)) : gwp C r (.cond o y z) Q (sg l m A df) := gc_condF hb k
theorem cB {o : Operand} {y z : Code} (hb : gev (mkFr l) o = .p (.bool b) := by (simp only [gev, mkFr_cons, Nat.reduceEqDiff, reduceIte] <;> rfl)) (k1 : b = true → gwp C r y Q (sg l m A df)) (k0 : b = false → gwp C r z Q (sg l m A df)) : gwp C r (.cond o y z) Q (sg l m A df) := gc_cond hb k1 k0
theorem cl (vs : List Nat) {m' : List (Nat × Ob)} {I : List Nat} (hl : (vs.map fun v => (v, mkFr l v)) = l' := by (simp only [List.map_cons, List.map_nil, mkFr_cons, mkFr_nil, Nat.reduceEqDiff, reduceIte] <;> rfl)) (hI : reach l' m df = I := by (simp only [reach, frIds, dfIds, gdIdl, obIdl, hpIds, restrictL, dedupL, pickL, subB, G.idl, G.idls, idls_p, List.nil_append, List.append_nil, List.cons_append, mkHp_cons, mkHp_nil, Nat.reduceEqDiff, reduceIte, List.mem_cons, List.not_mem_nil, or_false, or_true, true_or, false_or, List.filter_cons, List.filter_nil, ne_eq, not_true_eq_false, not_false_eq_true, decide_true, decide_false, Bool.false_eq_true, List.all_cons, List.all_nil, Bool.and_true] <;> rfl)) (hm : restrictL I m = m' := by (simp only [frIds, dfIds, gdIdl, obIdl, hpIds, restrictL, dedupL, pickL, subB, G.idl, G.idls, idls_p, List.nil_append, List.append_nil, List.cons_append, mkHp_cons, mkHp_nil, Nat.reduceEqDiff, reduceIte, List.mem_cons, List.not_mem_nil, or_false, or_true, true_or, false_or, List.filter_cons, List.filter_nil, ne_eq, not_true_eq_false, not_false_eq_true, decide_true, decide_false, Bool.false_eq_true, List.all_cons, List.all_nil, Bool.and_true] <;> rfl))
    (h1 : subB (frIds l') I = true := by (simp only [frIds, dfIds, gdIdl, obIdl, hpIds, restrictL, dedupL, pickL, subB, G.idl, G.idls, idls_p, List.nil_append, List.append_nil, List.cons_append, mkHp_cons, mkHp_nil, Nat.reduceEqDiff, reduceIte, List.mem_cons, List.not_mem_nil, or_false, or_true, true_or, false_or, List.filter_cons, List.filter_nil, ne_eq, not_true_eq_false, not_false_eq_true, decide_true, decide_false, Bool.false_eq_true, List.all_cons, List.all_nil, Bool.and_true] <;> rfl)) (h2 : subB (dfIds df) I = true := by (simp only [frIds, dfIds, gdIdl, obIdl, hpIds, restrictL, dedupL, pickL, subB, G.idl, G.idls, idls_p, List.nil_append, List.append_nil, List.cons_append, mkHp_cons, mkHp_nil, Nat.reduceEqDiff, reduceIte, List.mem_cons, List.not_mem_nil, or_false, or_true, true_or, false_or, List.filter_cons, List.filter_nil, ne_eq, not_true_eq_false, not_false_eq_true, decide_true, decide_false, Bool.false_eq_true, List.all_cons, List.all_nil, Bool.and_true] <;> rfl)) (h3 : subB (hpIds m I) I = true := by (simp only [frIds, dfIds, gdIdl, obIdl, hpIds, restrictL, dedupL, pickL, subB, G.idl, G.idls, idls_p, List.nil_append, List.append_nil, List.cons_append, mkHp_cons, mkHp_nil, Nat.reduceEqDiff, reduceIte, List.mem_cons, List.not_mem_nil, or_false, or_true, true_or, false_or, List.filter_cons, List.filter_nil, ne_eq, not_true_eq_false, not_false_eq_true, decide_true, decide_false, Bool.false_eq_true, List.all_cons, List.all_nil, Bool.and_true] <;> rfl))
    (k : gwp C r cd Q (sg l' m' A df)) : gwp C r cd Q (sg l m A df) := gc_clean2 vs hl hm h1 h2 h3 k

/-! Calls -/
section
variable {f : FuncId} {gs : List G} {args : List P} {v : P} {pargs : List G}
theorem pc0 {cc : Call} (spec : PSpec Try.prog f args (.ok v)) (hent : Enters Try.prog f) (hg : gcallee Try.prog (mkFr l) cc = some (f, gs) := by (simp only [gcallee, gev, mkFr_cons, Nat.reduceEqDiff, reduceIte, List.map_cons, List.map_nil, List.cons_append, List.nil_append, List.append_nil, toP, toPs, toPs_p, ofV, rhp, mkHp_cons, mkHp_nil, List.mem_cons, List.not_mem_nil, or_false, and_true, true_and] <;> rfl))
    (hJ : G.idls gs = J := by (simp only [opIds, Op.operands, gev, mkFr_cons, Nat.reduceEqDiff, reduceIte, List.flatMap_cons, List.flatMap_nil, List.map_cons, List.map_nil, G.idl, G.idls, idls_p, List.append_nil, List.nil_append, List.cons_append, ofV, Call.operands, List.append_toArray, Array.toList_append, Option.toArray_none, Option.toArray_some] <;> rfl)) (hcv : cvts (rhp (mkHp m) J) gs = (c, args.map .p) := by (simp only [cvts, cvt, gev, mkFr_cons, Nat.reduceEqDiff, reduceIte, List.map_cons, List.map_nil, List.cons_append, List.nil_append, List.append_nil, toP, toPs, toPs_p, ofV, rhp, mkHp_cons, mkHp_nil, List.mem_cons, List.not_mem_nil, or_false, and_true, true_and] <;> rfl)) (ht : t < C.N := by omega) (k : gops C r ops Q rest (sg ((t, .p v) :: l) m A df)) (hc : c := by simp) :
    gops C r ops Q (⟨some t, .call cc, ty, pos, af, none⟩ :: rest) (sg l m A df) := gops_eff (eff_pcall rfl (gwant_plain rfl) hg hent hcv hc spec (fun t' e => by cases e; exact ht)) k
theorem pcw {b' : Bool} {cc : Call} (spec : PSpec Try.prog f args (.ok v)) (hent : Enters Try.prog f) (hj : (ops[j]?).bind (·.dst) = some i := by rfl) (hx : mkFr l i = .p (.bool b') := by (simp only [mkFr_cons, Nat.reduceEqDiff, reduceIte] <;> rfl)) (hb : (b' == b) = true := by rfl)
    (hg : gcallee Try.prog (mkFr l) cc = some (f, gs) := by (simp only [gcallee, gev, mkFr_cons, Nat.reduceEqDiff, reduceIte, List.map_cons, List.map_nil, List.cons_append, List.nil_append, List.append_nil, toP, toPs, toPs_p, ofV, rhp, mkHp_cons, mkHp_nil, List.mem_cons, List.not_mem_nil, or_false, and_true, true_and] <;> rfl))
    (hJ : G.idls gs = J := by (simp only [opIds, Op.operands, gev, mkFr_cons, Nat.reduceEqDiff, reduceIte, List.flatMap_cons, List.flatMap_nil, List.map_cons, List.map_nil, G.idl, G.idls, idls_p, List.append_nil, List.nil_append, List.cons_append, ofV, Call.operands, List.append_toArray, Array.toList_append, Option.toArray_none, Option.toArray_some] <;> rfl)) (hcv : cvts (rhp (mkHp m) J) gs = (c, args.map .p) := by (simp only [cvts, cvt, gev, mkFr_cons, Nat.reduceEqDiff, reduceIte, List.map_cons, List.map_nil, List.cons_append, List.nil_append, List.append_nil, toP, toPs, toPs_p, ofV, rhp, mkHp_cons, mkHp_nil, List.mem_cons, List.not_mem_nil, or_false, and_true, true_and] <;> rfl)) (ht : t < C.N := by omega) (k : gops C r ops Q rest (sg ((t, .p v) :: l) m A df)) (hc : c := by simp) :
    gops C r ops Q (⟨some t, .call cc, ty, pos, af, some (j, b)⟩ :: rest) (sg l m A df) := gops_eff (eff_pcall rfl ((gwant_at rfl hj hx).trans (by rw [hb])) hg hent hcv hc spec (fun t' e => by cases e; exact ht)) k
/-- A call that panics. -/
theorem pp0 {cc : Call} (spec : PSpec Try.prog f args (.panic v)) (hent : Enters Try.prog f) (hg : gcallee Try.prog (mkFr l) cc = some (f, gs) := by (simp only [gcallee, gev, mkFr_cons, Nat.reduceEqDiff, reduceIte, List.map_cons, List.map_nil, List.cons_append, List.nil_append, List.append_nil, toP, toPs, toPs_p, ofV, rhp, mkHp_cons, mkHp_nil, List.mem_cons, List.not_mem_nil, or_false, and_true, true_and] <;> rfl))
    (hJ : G.idls gs = J := by (simp only [opIds, Op.operands, gev, mkFr_cons, Nat.reduceEqDiff, reduceIte, List.flatMap_cons, List.flatMap_nil, List.map_cons, List.map_nil, G.idl, G.idls, idls_p, List.append_nil, List.nil_append, List.cons_append, ofV, Call.operands, List.append_toArray, Array.toList_append, Option.toArray_none, Option.toArray_some] <;> rfl)) (hcv : cvts (rhp (mkHp m) J) gs = (c, args.map .p) := by (simp only [cvts, cvt, gev, mkFr_cons, Nat.reduceEqDiff, reduceIte, List.map_cons, List.map_nil, List.cons_append, List.nil_append, List.append_nil, toP, toPs, toPs_p, ofV, rhp, mkHp_cons, mkHp_nil, List.mem_cons, List.not_mem_nil, or_false, and_true, true_and] <;> rfl)) (ht : t < C.N := by omega) (k : Q (.panic v) (sg l m A df)) (hc : c := by simp) :
    gops C r ops Q (⟨some t, .call cc, ty, pos, af, none⟩ :: rest) (sg l m A df) := gops_n (effN_pcall rfl (gwant_plain rfl) hg hent hcv hc spec (fun t' e => by cases e; exact ht) (fun v e => by cases e) (fun v' e => by cases e; exact k))
end
theorem pn0 {o : Operand} {tt : TypeId} {v : P} (hv : gev (mkFr l) o = .p (.iface tt v) := by (simp only [gev, mkFr_cons, Nat.reduceEqDiff, reduceIte] <;> rfl)) (k : Q (.panic (.iface tt v)) (sg l m A df)) {dst : Option Nat} : gops C r ops Q (⟨dst, .panic o, ty, pos, af, none⟩ :: rest) (sg l m A df) :=
  gops_n (effN_panic rfl (gwant_plain rfl) hv k)

/-! Regions in any order -/
section
variable {lo : Nat} {σ0 : Sg E} {ids ids' : List (List Nat × List Nat)} {I : List Nat} {f : FuncId} {gs : List G} {args : List P} {v : P}
theorem eff_v {o : Oper} (hw : gwant ops (mkFr l) o = some true) (hg : gsem Try.prog false 99999 (gev (mkFr l)) (rhp (mkHp m) I) o.op = some (c, ⟨g, none⟩)) (hc : c) (hd : mkHp m 99999 = .none) (ht : ∀ t, o.dst = some t → t < C.N) : Eff C r ops o (sg l m A df) (99999 :: I) g [] :=
  eff_op (d := 99999) (out := ⟨g, none⟩) hw hg hc hd (by have := C.limOk; omega) (fun p e => by cases e) ht
theorem d0 (n : Nat) (hn : ids.length = n := by rfl) (ho : ops[lo + n]? = some ⟨some t, op, ty, pos, af, none⟩ := by rfl) (hI : opIds (gev (mkFr l)) op = I := by (simp only [opIds, Op.operands, gev, mkFr_cons, Nat.reduceEqDiff, reduceIte, List.flatMap_cons, List.flatMap_nil, List.map_cons, List.map_nil, G.idl, G.idls, idls_p, List.append_nil, List.nil_append, List.cons_append, ofV, Call.operands, List.append_toArray, Array.toList_append, Option.toArray_none, Option.toArray_some] <;> rfl))
    (hg : gsem Try.prog false 99999 (gev (mkFr l)) (rhp (mkHp m) I) op = some (c, ⟨g, none⟩) := by (simp only [rhp, List.mem_cons, List.not_mem_nil, gsem, gev, ofV, mkFr_cons, mkFr_nil, mkHp_cons, mkHp_nil, upd, yes, lift, gbinAt, gnilEq, gbin, gint, gshift, arith, gpick, gload, gstore, splice, gbox, gfill, placesL, gbuildSlice, gfieldAddr, gfield, gelem, gindexAddr, gindex, gbound, gslice, glen, gsource, gappend, gmin, gminL, gmax, gmaxL, mapGet, mapPut, zeroG, orZero, glookup, gmapUpdate, gconvert, gtypeAssert, gextract, isConst, gnilCheck, gunOp, gmakeSlice, intOf, mkAgg, mkFn, mkIface, mkTuple, allP, G.cells, good, goods, allOne, G.one, P.one, allP_p, allOne_p, goods_p, toPs_p, all_int, take_all, isAggD, isIfaceD, toP, toPs, P.size, P.cells, List.map_cons, List.map_nil, List.take_succ_cons, List.take_zero, List.drop_succ_cons, List.drop_zero, List.take_nil, List.drop_nil, List.cons_append, List.nil_append, List.append_nil, List.length_cons, List.length_nil, List.getElem?_cons_zero, List.getElem?_cons_succ, List.getElem?_nil, List.set_cons_zero, List.set_cons_succ, List.flatMap_cons, List.flatMap_nil, List.getElem?_toArray, List.getElem?_map, List.length_map, Option.map_some, Option.map_none, Nat.mul_one, List.length_set, set_map_p, set_map_int, Nat.reduceEqDiff, Nat.reduceAdd, Nat.reduceMul, Nat.reduceSub, Nat.reduceLeDiff, Nat.add_zero, Nat.zero_add, Int.toNat_natCast, Int.reduceToNat, reduceIte, reduceCtorEq, eq_self, if_true, if_false, and_true, true_and, true_or, or_true, or_false, false_or, Bool.false_eq_true, ne_eq, not_true_eq_false, not_false_eq_true, cond_true, cond_false, Bool.and_true, Bool.true_and, Bool.and_false, Bool.false_and, Bool.or_true, Bool.true_or, Bool.or_false, Bool.false_or, Bool.not_true, Bool.not_false, ti_3, ti_4, ti_5, ti_9, ti_20, ti_22, ti_24, ti_25, ti_27, ti_30, ti_40, ti_43, ti_48, ti_50, ti_51, ti_55, ti_57, ti_61, ti_66, ti_67, ti_71, ti_72, ti_74, ti_75, ti_76, ti_77, ti_78, ti_80, ti_81, ti_84, ti_91, ti_92, ti_93, ti_95, ti_97, ti_99, ti_105, ti_109, ti_111, ti_115, ti_118, ti_120, *] <;> rfl)) (hd : mkHp m 99999 = .none := by (simp only [mkHp_cons, mkHp_nil, Nat.reduceEqDiff, reduceIte])) (ht : t < C.N := by omega)
    (hids : ids ++ [(99999 :: I, [])] = ids' := by (simp only [List.cons_append, List.nil_append] <;> rfl)) (k : segK C r ops (GPost C Q) lo σ0 ids' (sg ((t, g) :: l) m A df)) (hc : c := by first | exact True.intro | simp) : segK C r ops (GPost C Q) lo σ0 ids (sg l m A df) :=
  segK.step (pi := []) hn ho (eff_v (gwant_plain rfl) hg hc hd (fun t' e => by cases e; exact ht)) rfl (by rw [hids]; exact k)
theorem d1 (n : Nat) (hn : ids.length = n := by rfl) (ho : ops[lo + n]? = some ⟨some t, op, ty, pos, af, none⟩ := by rfl) (hI : opIds (gev (mkFr l)) op = I := by (simp only [opIds, Op.operands, gev, mkFr_cons, Nat.reduceEqDiff, reduceIte, List.flatMap_cons, List.flatMap_nil, List.map_cons, List.map_nil, G.idl, G.idls, idls_p, List.append_nil, List.nil_append, List.cons_append, ofV, Call.operands, List.append_toArray, Array.toList_append, Option.toArray_none, Option.toArray_some] <;> rfl))
    (hg : gsem Try.prog false 99999 (gev (mkFr l)) (rhp (mkHp m) I) op = some (c, ⟨g, none⟩) := by (simp only [rhp, List.mem_cons, List.not_mem_nil, gsem, gev, ofV, mkFr_cons, mkFr_nil, mkHp_cons, mkHp_nil, upd, yes, lift, gbinAt, gnilEq, gbin, gint, gshift, arith, gpick, gload, gstore, splice, gbox, gfill, placesL, gbuildSlice, gfieldAddr, gfield, gelem, gindexAddr, gindex, gbound, gslice, glen, gsource, gappend, gmin, gminL, gmax, gmaxL, mapGet, mapPut, zeroG, orZero, glookup, gmapUpdate, gconvert, gtypeAssert, gextract, isConst, gnilCheck, gunOp, gmakeSlice, intOf, mkAgg, mkFn, mkIface, mkTuple, allP, G.cells, good, goods, allOne, G.one, P.one, allP_p, allOne_p, goods_p, toPs_p, all_int, take_all, isAggD, isIfaceD, toP, toPs, P.size, P.cells, List.map_cons, List.map_nil, List.take_succ_cons, List.take_zero, List.drop_succ_cons, List.drop_zero, List.take_nil, List.drop_nil, List.cons_append, List.nil_append, List.append_nil, List.length_cons, List.length_nil, List.getElem?_cons_zero, List.getElem?_cons_succ, List.getElem?_nil, List.set_cons_zero, List.set_cons_succ, List.flatMap_cons, List.flatMap_nil, List.getElem?_toArray, List.getElem?_map, List.length_map, Option.map_some, Option.map_none, Nat.mul_one, List.length_set, set_map_p, set_map_int, Nat.reduceEqDiff, Nat.reduceAdd, Nat.reduceMul, Nat.reduceSub, Nat.reduceLeDiff, Nat.add_zero, Nat.zero_add, Int.toNat_natCast, Int.reduceToNat, reduceIte, reduceCtorEq, eq_self, if_true, if_false, and_true, true_and, true_or, or_true, or_false, false_or, Bool.false_eq_true, ne_eq, not_true_eq_false, not_false_eq_true, cond_true, cond_false, Bool.and_true, Bool.true_and, Bool.and_false, Bool.false_and, Bool.or_true, Bool.true_or, Bool.or_false, Bool.false_or, Bool.not_true, Bool.not_false, ti_3, ti_4, ti_5, ti_9, ti_20, ti_22, ti_24, ti_25, ti_27, ti_30, ti_40, ti_43, ti_48, ti_50, ti_51, ti_55, ti_57, ti_61, ti_66, ti_67, ti_71, ti_72, ti_74, ti_75, ti_76, ti_77, ti_78, ti_80, ti_81, ti_84, ti_91, ti_92, ti_93, ti_95, ti_97, ti_99, ti_105, ti_109, ti_111, ti_115, ti_118, ti_120, *] <;> rfl)) (hd : mkHp m 99999 = .none := by (simp only [mkHp_cons, mkHp_nil, Nat.reduceEqDiff, reduceIte])) (ht : t < C.N := by omega)
    (hids : ids ++ [(99999 :: I, [])] = ids' := by (simp only [List.cons_append, List.nil_append] <;> rfl)) (hc : c) (k : segK C r ops (GPost C Q) lo σ0 ids' (sg ((t, g) :: l) m A df)) : segK C r ops (GPost C Q) lo σ0 ids (sg l m A df) :=
  segK.step (pi := []) hn ho (eff_v (gwant_plain rfl) hg hc hd (fun t' e => by cases e; exact ht)) rfl (by rw [hids]; exact k)
theorem dw0 (n : Nat) {b' : Bool} (hn : ids.length = n := by rfl) (ho : ops[lo + n]? = some ⟨some t, op, ty, pos, af, some (j, b)⟩ := by rfl) (hj : (ops[j]?).bind (·.dst) = some i := by rfl) (hx : mkFr l i = .p (.bool b') := by (simp only [mkFr_cons, Nat.reduceEqDiff, reduceIte] <;> rfl)) (hb : (b' == b) = true := by rfl)
    (hI : opIds (gev (mkFr l)) op = I := by (simp only [opIds, Op.operands, gev, mkFr_cons, Nat.reduceEqDiff, reduceIte, List.flatMap_cons, List.flatMap_nil, List.map_cons, List.map_nil, G.idl, G.idls, idls_p, List.append_nil, List.nil_append, List.cons_append, ofV, Call.operands, List.append_toArray, Array.toList_append, Option.toArray_none, Option.toArray_some] <;> rfl))
    (hg : gsem Try.prog false 99999 (gev (mkFr l)) (rhp (mkHp m) I) op = some (c, ⟨g, none⟩) := by (simp only [rhp, List.mem_cons, List.not_mem_nil, gsem, gev, ofV, mkFr_cons, mkFr_nil, mkHp_cons, mkHp_nil, upd, yes, lift, gbinAt, gnilEq, gbin, gint, gshift, arith, gpick, gload, gstore, splice, gbox, gfill, placesL, gbuildSlice, gfieldAddr, gfield, gelem, gindexAddr, gindex, gbound, gslice, glen, gsource, gappend, gmin, gminL, gmax, gmaxL, mapGet, mapPut, zeroG, orZero, glookup, gmapUpdate, gconvert, gtypeAssert, gextract, isConst, gnilCheck, gunOp, gmakeSlice, intOf, mkAgg, mkFn, mkIface, mkTuple, allP, G.cells, good, goods, allOne, G.one, P.one, allP_p, allOne_p, goods_p, toPs_p, all_int, take_all, isAggD, isIfaceD, toP, toPs, P.size, P.cells, List.map_cons, List.map_nil, List.take_succ_cons, List.take_zero, List.drop_succ_cons, List.drop_zero, List.take_nil, List.drop_nil, List.cons_append, List.nil_append, List.append_nil, List.length_cons, List.length_nil, List.getElem?_cons_zero, List.getElem?_cons_succ, List.getElem?_nil, List.set_cons_zero, List.set_cons_succ, List.flatMap_cons, List.flatMap_nil, List.getElem?_toArray, List.getElem?_map, List.length_map, Option.map_some, Option.map_none, Nat.mul_one, List.length_set, set_map_p, set_map_int, Nat.reduceEqDiff, Nat.reduceAdd, Nat.reduceMul, Nat.reduceSub, Nat.reduceLeDiff, Nat.add_zero, Nat.zero_add, Int.toNat_natCast, Int.reduceToNat, reduceIte, reduceCtorEq, eq_self, if_true, if_false, and_true, true_and, true_or, or_true, or_false, false_or, Bool.false_eq_true, ne_eq, not_true_eq_false, not_false_eq_true, cond_true, cond_false, Bool.and_true, Bool.true_and, Bool.and_false, Bool.false_and, Bool.or_true, Bool.true_or, Bool.or_false, Bool.false_or, Bool.not_true, Bool.not_false, ti_3, ti_4, ti_5, ti_9, ti_20, ti_22, ti_24, ti_25, ti_27, ti_30, ti_40, ti_43, ti_48, ti_50, ti_51, ti_55, ti_57, ti_61, ti_66, ti_67, ti_71, ti_72, ti_74, ti_75, ti_76, ti_77, ti_78, ti_80, ti_81, ti_84, ti_91, ti_92, ti_93, ti_95, ti_97, ti_99, ti_105, ti_109, ti_111, ti_115, ti_118, ti_120, *] <;> rfl)) (hd : mkHp m 99999 = .none := by (simp only [mkHp_cons, mkHp_nil, Nat.reduceEqDiff, reduceIte])) (ht : t < C.N := by omega)
    (hids : ids ++ [(99999 :: I, [])] = ids' := by (simp only [List.cons_append, List.nil_append] <;> rfl)) (k : segK C r ops (GPost C Q) lo σ0 ids' (sg ((t, g) :: l) m A df)) (hc : c := by first | exact True.intro | simp) : segK C r ops (GPost C Q) lo σ0 ids (sg l m A df) :=
  segK.step (pi := []) hn ho (eff_v ((gwant_at rfl hj hx).trans (by rw [hb])) hg hc hd (fun t' e => by cases e; exact ht)) rfl (by rw [hids]; exact k)
theorem dw1 (n : Nat) {b' : Bool} (hn : ids.length = n := by rfl) (ho : ops[lo + n]? = some ⟨some t, op, ty, pos, af, some (j, b)⟩ := by rfl) (hj : (ops[j]?).bind (·.dst) = some i := by rfl) (hx : mkFr l i = .p (.bool b') := by (simp only [mkFr_cons, Nat.reduceEqDiff, reduceIte] <;> rfl)) (hb : (b' == b) = true := by rfl)
    (hI : opIds (gev (mkFr l)) op = I := by (simp only [opIds, Op.operands, gev, mkFr_cons, Nat.reduceEqDiff, reduceIte, List.flatMap_cons, List.flatMap_nil, List.map_cons, List.map_nil, G.idl, G.idls, idls_p, List.append_nil, List.nil_append, List.cons_append, ofV, Call.operands, List.append_toArray, Array.toList_append, Option.toArray_none, Option.toArray_some] <;> rfl))
    (hg : gsem Try.prog false 99999 (gev (mkFr l)) (rhp (mkHp m) I) op = some (c, ⟨g, none⟩) := by (simp only [rhp, List.mem_cons, List.not_mem_nil, gsem, gev, ofV, mkFr_cons, mkFr_nil, mkHp_cons, mkHp_nil, upd, yes, lift, gbinAt, gnilEq, gbin, gint, gshift, arith, gpick, gload, gstore, splice, gbox, gfill, placesL, gbuildSlice, gfieldAddr, gfield, gelem, gindexAddr, gindex, gbound, gslice, glen, gsource, gappend, gmin, gminL, gmax, gmaxL, mapGet, mapPut, zeroG, orZero, glookup, gmapUpdate, gconvert, gtypeAssert, gextract, isConst, gnilCheck, gunOp, gmakeSlice, intOf, mkAgg, mkFn, mkIface, mkTuple, allP, G.cells, good, goods, allOne, G.one, P.one, allP_p, allOne_p, goods_p, toPs_p, all_int, take_all, isAggD, isIfaceD, toP, toPs, P.size, P.cells, List.map_cons, List.map_nil, List.take_succ_cons, List.take_zero, List.drop_succ_cons, List.drop_zero, List.take_nil, List.drop_nil, List.cons_append, List.nil_append, List.append_nil, List.length_cons, List.length_nil, List.getElem?_cons_zero, List.getElem?_cons_succ, List.getElem?_nil, List.set_cons_zero, List.set_cons_succ, List.flatMap_cons, List.flatMap_nil, List.getElem?_toArray, List.getElem?_map, List.length_map, Option.map_some, Option.map_none, Nat.mul_one, List.length_set, set_map_p, set_map_int, Nat.reduceEqDiff, Nat.reduceAdd, Nat.reduceMul, Nat.reduceSub, Nat.reduceLeDiff, Nat.add_zero, Nat.zero_add, Int.toNat_natCast, Int.reduceToNat, reduceIte, reduceCtorEq, eq_self, if_true, if_false, and_true, true_and, true_or, or_true, or_false, false_or, Bool.false_eq_true, ne_eq, not_true_eq_false, not_false_eq_true, cond_true, cond_false, Bool.and_true, Bool.true_and, Bool.and_false, Bool.false_and, Bool.or_true, Bool.true_or, Bool.or_false, Bool.false_or, Bool.not_true, Bool.not_false, ti_3, ti_4, ti_5, ti_9, ti_20, ti_22, ti_24, ti_25, ti_27, ti_30, ti_40, ti_43, ti_48, ti_50, ti_51, ti_55, ti_57, ti_61, ti_66, ti_67, ti_71, ti_72, ti_74, ti_75, ti_76, ti_77, ti_78, ti_80, ti_81, ti_84, ti_91, ti_92, ti_93, ti_95, ti_97, ti_99, ti_105, ti_109, ti_111, ti_115, ti_118, ti_120, *] <;> rfl)) (hd : mkHp m 99999 = .none := by (simp only [mkHp_cons, mkHp_nil, Nat.reduceEqDiff, reduceIte])) (ht : t < C.N := by omega)
    (hids : ids ++ [(99999 :: I, [])] = ids' := by (simp only [List.cons_append, List.nil_append] <;> rfl)) (hc : c) (k : segK C r ops (GPost C Q) lo σ0 ids' (sg ((t, g) :: l) m A df)) : segK C r ops (GPost C Q) lo σ0 ids (sg l m A df) :=
  segK.step (pi := []) hn ho (eff_v ((gwant_at rfl hj hx).trans (by rw [hb])) hg hc hd (fun t' e => by cases e; exact ht)) rfl (by rw [hids]; exact k)
theorem dx0 (n : Nat) {b' : Bool} (hn : ids.length = n := by rfl) (ho : ops[lo + n]? = some ⟨some t, op, ty, pos, af, some (j, b)⟩ := by rfl) (hj : (ops[j]?).bind (·.dst) = some i := by rfl) (hx : mkFr l i = .p (.bool b') := by (simp only [mkFr_cons, Nat.reduceEqDiff, reduceIte] <;> rfl)) (hb : (b' == b) = false := by rfl) (ht : t < C.N := by omega)
    (hids : ids ++ [([], [])] = ids' := by (simp only [List.cons_append, List.nil_append] <;> rfl)) (k : segK C r ops (GPost C Q) lo σ0 ids' (sg ((t, .p (.tuple [])) :: l) m A df)) : segK C r ops (GPost C Q) lo σ0 ids (sg l m A df) :=
  segK.step (pi := []) hn ho (eff_skip ((gwant_at rfl hj hx).trans (by rw [hb])) (fun t' e => by cases e; exact ht)) rfl (by rw [hids]; exact k)
theorem dx1 (n : Nat) (hn : ids.length = n := by rfl) (ho : ops[lo + n]? = some ⟨some t, op, ty, pos, af, some (j, b)⟩ := by rfl) (hj : (ops[j]?).bind (·.dst) = some i := by rfl) (hx : mkFr l i = .p (.tuple []) := by (simp only [mkFr_cons, Nat.reduceEqDiff, reduceIte] <;> rfl)) (ht : t < C.N := by omega)
    (hids : ids ++ [([], [])] = ids' := by (simp only [List.cons_append, List.nil_append] <;> rfl)) (k : segK C r ops (GPost C Q) lo σ0 ids' (sg ((t, .p (.tuple [])) :: l) m A df)) : segK C r ops (GPost C Q) lo σ0 ids (sg l m A df) :=
  segK.step (pi := []) hn ho (eff_skip (gwant_un rfl hj hx) (fun t' e => by cases e; exact ht)) rfl (by rw [hids]; exact k)
theorem db0 (n : Nat) {x : Bool} (i : Nat) (hx : mkFr l i = .p (.bool x) := by (simp only [mkFr_cons, Nat.reduceEqDiff, reduceIte] <;> rfl)) (k1 : x = true → segK C r ops (GPost C Q) lo σ0 ids (sg ((i, .p (.bool true)) :: l) m A df)) (k0 : x = false → segK C r ops (GPost C Q) lo σ0 ids (sg ((i, .p (.bool false)) :: l) m A df)) :
    segK C r ops (GPost C Q) lo σ0 ids (sg l m A df) := by
  cases x
  · have := k0 rfl
    rwa [sg, mkFr_again hx] at this
  · have := k1 rfl
    rwa [sg, mkFr_again hx] at this
theorem dpc0 (n : Nat) {cc : Call} (spec : PSpec Try.prog f args (.ok v)) (hent : Enters Try.prog f) (hn : ids.length = n := by rfl) (ho : ops[lo + n]? = some ⟨some t, .call cc, ty, pos, af, none⟩ := by rfl) (hg : gcallee Try.prog (mkFr l) cc = some (f, gs) := by (simp only [gcallee, gev, mkFr_cons, Nat.reduceEqDiff, reduceIte, List.map_cons, List.map_nil, List.cons_append, List.nil_append, List.append_nil, toP, toPs, toPs_p, ofV, rhp, mkHp_cons, mkHp_nil, List.mem_cons, List.not_mem_nil, or_false, and_true, true_and] <;> rfl))
    (hJ : G.idls gs = J := by (simp only [opIds, Op.operands, gev, mkFr_cons, Nat.reduceEqDiff, reduceIte, List.flatMap_cons, List.flatMap_nil, List.map_cons, List.map_nil, G.idl, G.idls, idls_p, List.append_nil, List.nil_append, List.cons_append, ofV, Call.operands, List.append_toArray, Array.toList_append, Option.toArray_none, Option.toArray_some] <;> rfl)) (hcv : cvts (rhp (mkHp m) J) gs = (c, args.map .p) := by (simp only [cvts, cvt, gev, mkFr_cons, Nat.reduceEqDiff, reduceIte, List.map_cons, List.map_nil, List.cons_append, List.nil_append, List.append_nil, toP, toPs, toPs_p, ofV, rhp, mkHp_cons, mkHp_nil, List.mem_cons, List.not_mem_nil, or_false, and_true, true_and] <;> rfl)) (ht : t < C.N := by omega)
    (hids : ids ++ [(J, [])] = ids' := by (simp only [List.cons_append, List.nil_append] <;> rfl)) (k : segK C r ops (GPost C Q) lo σ0 ids' (sg ((t, .p v) :: l) m A df)) (hc : c := by simp) : segK C r ops (GPost C Q) lo σ0 ids (sg l m A df) :=
  segK.step (pi := []) hn ho (eff_pcall rfl (gwant_plain rfl) hg hent hcv hc spec (fun t' e => by cases e; exact ht)) rfl (by rw [hids]; exact k)
theorem dpcw (n : Nat) {b' : Bool} {cc : Call} (spec : PSpec Try.prog f args (.ok v)) (hent : Enters Try.prog f) (hn : ids.length = n := by rfl) (ho : ops[lo + n]? = some ⟨some t, .call cc, ty, pos, af, some (j, b)⟩ := by rfl)
    (hj : (ops[j]?).bind (·.dst) = some i := by rfl) (hx : mkFr l i = .p (.bool b') := by (simp only [mkFr_cons, Nat.reduceEqDiff, reduceIte] <;> rfl)) (hb : (b' == b) = true := by rfl) (hg : gcallee Try.prog (mkFr l) cc = some (f, gs) := by (simp only [gcallee, gev, mkFr_cons, Nat.reduceEqDiff, reduceIte, List.map_cons, List.map_nil, List.cons_append, List.nil_append, List.append_nil, toP, toPs, toPs_p, ofV, rhp, mkHp_cons, mkHp_nil, List.mem_cons, List.not_mem_nil, or_false, and_true, true_and] <;> rfl))
    (hJ : G.idls gs = J := by (simp only [opIds, Op.operands, gev, mkFr_cons, Nat.reduceEqDiff, reduceIte, List.flatMap_cons, List.flatMap_nil, List.map_cons, List.map_nil, G.idl, G.idls, idls_p, List.append_nil, List.nil_append, List.cons_append, ofV, Call.operands, List.append_toArray, Array.toList_append, Option.toArray_none, Option.toArray_some] <;> rfl)) (hcv : cvts (rhp (mkHp m) J) gs = (c, args.map .p) := by (simp only [cvts, cvt, gev, mkFr_cons, Nat.reduceEqDiff, reduceIte, List.map_cons, List.map_nil, List.cons_append, List.nil_append, List.append_nil, toP, toPs, toPs_p, ofV, rhp, mkHp_cons, mkHp_nil, List.mem_cons, List.not_mem_nil, or_false, and_true, true_and] <;> rfl)) (ht : t < C.N := by omega)
    (hids : ids ++ [(J, [])] = ids' := by (simp only [List.cons_append, List.nil_append] <;> rfl)) (k : segK C r ops (GPost C Q) lo σ0 ids' (sg ((t, .p v) :: l) m A df)) (hc : c := by simp) : segK C r ops (GPost C Q) lo σ0 ids (sg l m A df) :=
  segK.step (pi := []) hn ho (eff_pcall rfl ((gwant_at rfl hj hx).trans (by rw [hb])) hg hent hcv hc spec (fun t' e => by cases e; exact ht)) rfl (by rw [hids]; exact k)
theorem dz (n : Nat) (tab : List Nat) (hn : ids.length = n := by rfl) (hsz : lo + n ≤ ops.size := by exact Nat.le_of_ble_eq_true rfl) (hw : waitsB tab ops.toList 0 = true := by kernel_rfl) (hc : cutB tab lo n ops.size = true := by kernel_rfl) (hf : freeB tab ops.toList lo ids = true := by kernel_rfl)
    (h : gany C r ops (GPost C Q) (lo + n) (sg l m A df)) : segK C r ops (GPost C Q) lo σ0 ids (sg l m A df) := segK.stop tab hn hsz hw hc hf h
theorem de (n : Nat) (hn : ops.size = n := by rfl) (h : Q .normal (sg l m A df)) : gany C r ops (GPost C Q) n (sg l m A df) := gany_end hn h
end
theorem rd {idn : Nat} {σ : Sg E} (h : segK C r ops (GPost C Q) 0 σ [] σ) : gwp C r (.region idn ops true) Q σ := gwp_regionD (by kernel_rfl) (segK.start h)

/-! Objects -/
theorem n1 (d : Nat) (mu : Bool) (hg : gsem Try.prog mu d (gev (mkFr l)) (mkHp m) op = some (c, ⟨g, some (i, ob)⟩) := by (simp only [gsem, gev, ofV, mkFr_cons, mkFr_nil, mkHp_cons, mkHp_nil, upd, yes, lift, gbinAt, gnilEq, gbin, gint, gshift, arith, gpick, gload, gstore, splice, gbox, gfill, placesL, gbuildSlice, gfieldAddr, gfield, gelem, gindexAddr, gindex, gbound, gslice, glen, gsource, gappend, gmin, gminL, gmax, gmaxL, mapGet, mapPut, zeroG, orZero, glookup, gmapUpdate, gconvert, gtypeAssert, gextract, isConst, gnilCheck, gunOp, gmakeSlice, intOf, mkAgg, mkFn, mkIface, mkTuple, allP, G.cells, good, goods, allOne, G.one, P.one, allP_p, allOne_p, goods_p, toPs_p, all_int, take_all, isAggD, isIfaceD, toP, toPs, P.size, P.cells, List.map_cons, List.map_nil, List.take_succ_cons, List.take_zero, List.drop_succ_cons, List.drop_zero, List.take_nil, List.drop_nil, List.cons_append, List.nil_append, List.append_nil, List.length_cons, List.length_nil, List.getElem?_cons_zero, List.getElem?_cons_succ, List.getElem?_nil, List.set_cons_zero, List.set_cons_succ, List.flatMap_cons, List.flatMap_nil, List.getElem?_toArray, List.getElem?_map, List.length_map, Option.map_some, Option.map_none, Nat.mul_one, List.length_set, set_map_p, set_map_int, Nat.reduceEqDiff, Nat.reduceAdd, Nat.reduceMul, Nat.reduceSub, Nat.reduceLeDiff, Nat.add_zero, Nat.zero_add, Int.toNat_natCast, Int.reduceToNat, reduceIte, reduceCtorEq, eq_self, if_true, if_false, and_true, true_and, true_or, or_true, or_false, false_or, Bool.false_eq_true, ne_eq, not_true_eq_false, not_false_eq_true, cond_true, cond_false, Bool.and_true, Bool.true_and, Bool.and_false, Bool.false_and, Bool.or_true, Bool.true_or, Bool.or_false, Bool.false_or, Bool.not_true, Bool.not_false, ti_3, ti_4, ti_5, ti_9, ti_20, ti_22, ti_24, ti_25, ti_27, ti_30, ti_40, ti_43, ti_48, ti_50, ti_51, ti_55, ti_57, ti_61, ti_66, ti_67, ti_71, ti_72, ti_74, ti_75, ti_76, ti_77, ti_78, ti_80, ti_81, ti_84, ti_91, ti_92, ti_93, ti_95, ti_97, ti_99, ti_105, ti_109, ti_111, ti_115, ti_118, ti_120, *] <;> rfl)) (hd : mkHp m d = .none := by (simp only [mkHp_cons, mkHp_nil, Nat.reduceEqDiff, reduceIte])) (hd2 : C.lim ≤ d := by omega) (ht : t < C.N := by omega)
    (hc : c) (k : gops C r ops Q rest (sg ((t, g) :: l) ((i, ob) :: m) A df)) : gops C r ops Q (⟨some t, op, ty, pos, af, none⟩ :: rest) (sg l m A df) := go_n d mu (gwant_plain rfl) hg hd hd2 ht hc k
theorem nw (d : Nat) (mu : Bool) {b' : Bool} {i' : Nat} (hj : (ops[j]?).bind (·.dst) = some i' := by rfl) (hx : mkFr l i' = .p (.bool b') := by (simp only [mkFr_cons, Nat.reduceEqDiff, reduceIte] <;> rfl)) (hb : (b' == b) = true := by rfl) (hg : gsem Try.prog mu d (gev (mkFr l)) (mkHp m) op = some (c, ⟨g, some (i, ob)⟩) := by (simp only [gsem, gev, ofV, mkFr_cons, mkFr_nil, mkHp_cons, mkHp_nil, upd, yes, lift, gbinAt, gnilEq, gbin, gint, gshift, arith, gpick, gload, gstore, splice, gbox, gfill, placesL, gbuildSlice, gfieldAddr, gfield, gelem, gindexAddr, gindex, gbound, gslice, glen, gsource, gappend, gmin, gminL, gmax, gmaxL, mapGet, mapPut, zeroG, orZero, glookup, gmapUpdate, gconvert, gtypeAssert, gextract, isConst, gnilCheck, gunOp, gmakeSlice, intOf, mkAgg, mkFn, mkIface, mkTuple, allP, G.cells, good, goods, allOne, G.one, P.one, allP_p, allOne_p, goods_p, toPs_p, all_int, take_all, isAggD, isIfaceD, toP, toPs, P.size, P.cells, List.map_cons, List.map_nil, List.take_succ_cons, List.take_zero, List.drop_succ_cons, List.drop_zero, List.take_nil, List.drop_nil, List.cons_append, List.nil_append, List.append_nil, List.length_cons, List.length_nil, List.getElem?_cons_zero, List.getElem?_cons_succ, List.getElem?_nil, List.set_cons_zero, List.set_cons_succ, List.flatMap_cons, List.flatMap_nil, List.getElem?_toArray, List.getElem?_map, List.length_map, Option.map_some, Option.map_none, Nat.mul_one, List.length_set, set_map_p, set_map_int, Nat.reduceEqDiff, Nat.reduceAdd, Nat.reduceMul, Nat.reduceSub, Nat.reduceLeDiff, Nat.add_zero, Nat.zero_add, Int.toNat_natCast, Int.reduceToNat, reduceIte, reduceCtorEq, eq_self, if_true, if_false, and_true, true_and, true_or, or_true, or_false, false_or, Bool.false_eq_true, ne_eq, not_true_eq_false, not_false_eq_true, cond_true, cond_false, Bool.and_true, Bool.true_and, Bool.and_false, Bool.false_and, Bool.or_true, Bool.true_or, Bool.or_false, Bool.false_or, Bool.not_true, Bool.not_false, ti_3, ti_4, ti_5, ti_9, ti_20, ti_22, ti_24, ti_25, ti_27, ti_30, ti_40, ti_43, ti_48, ti_50, ti_51, ti_55, ti_57, ti_61, ti_66, ti_67, ti_71, ti_72, ti_74, ti_75, ti_76, ti_77, ti_78, ti_80, ti_81, ti_84, ti_91, ti_92, ti_93, ti_95, ti_97, ti_99, ti_105, ti_109, ti_111, ti_115, ti_118, ti_120, *] <;> rfl)) (hd : mkHp m d = .none := by (simp only [mkHp_cons, mkHp_nil, Nat.reduceEqDiff, reduceIte])) (hd2 : C.lim ≤ d := by omega) (ht : t < C.N := by omega)
    (hc : c) (k : gops C r ops Q rest (sg ((t, g) :: l) ((i, ob) :: m) A df)) : gops C r ops Q (⟨some t, op, ty, pos, af, some (j, b)⟩ :: rest) (sg l m A df) := go_n d mu ((gwant_at rfl hj hx).trans (by rw [hb])) hg hd hd2 ht hc k
theorem s1 (hg : gsem Try.prog false 99999 (gev (mkFr l)) (mkHp m) op = some (c, ⟨g, some (i, ob)⟩) := by (simp only [gsem, gev, ofV, mkFr_cons, mkFr_nil, mkHp_cons, mkHp_nil, upd, yes, lift, gbinAt, gnilEq, gbin, gint, gshift, arith, gpick, gload, gstore, splice, gbox, gfill, placesL, gbuildSlice, gfieldAddr, gfield, gelem, gindexAddr, gindex, gbound, gslice, glen, gsource, gappend, gmin, gminL, gmax, gmaxL, mapGet, mapPut, zeroG, orZero, glookup, gmapUpdate, gconvert, gtypeAssert, gextract, isConst, gnilCheck, gunOp, gmakeSlice, intOf, mkAgg, mkFn, mkIface, mkTuple, allP, G.cells, good, goods, allOne, G.one, P.one, allP_p, allOne_p, goods_p, toPs_p, all_int, take_all, isAggD, isIfaceD, toP, toPs, P.size, P.cells, List.map_cons, List.map_nil, List.take_succ_cons, List.take_zero, List.drop_succ_cons, List.drop_zero, List.take_nil, List.drop_nil, List.cons_append, List.nil_append, List.append_nil, List.length_cons, List.length_nil, List.getElem?_cons_zero, List.getElem?_cons_succ, List.getElem?_nil, List.set_cons_zero, List.set_cons_succ, List.flatMap_cons, List.flatMap_nil, List.getElem?_toArray, List.getElem?_map, List.length_map, Option.map_some, Option.map_none, Nat.mul_one, List.length_set, set_map_p, set_map_int, Nat.reduceEqDiff, Nat.reduceAdd, Nat.reduceMul, Nat.reduceSub, Nat.reduceLeDiff, Nat.add_zero, Nat.zero_add, Int.toNat_natCast, Int.reduceToNat, reduceIte, reduceCtorEq, eq_self, if_true, if_false, and_true, true_and, true_or, or_true, or_false, false_or, Bool.false_eq_true, ne_eq, not_true_eq_false, not_false_eq_true, cond_true, cond_false, Bool.and_true, Bool.true_and, Bool.and_false, Bool.false_and, Bool.or_true, Bool.true_or, Bool.or_false, Bool.false_or, Bool.not_true, Bool.not_false, ti_3, ti_4, ti_5, ti_9, ti_20, ti_22, ti_24, ti_25, ti_27, ti_30, ti_40, ti_43, ti_48, ti_50, ti_51, ti_55, ti_57, ti_61, ti_66, ti_67, ti_71, ti_72, ti_74, ti_75, ti_76, ti_77, ti_78, ti_80, ti_81, ti_84, ti_91, ti_92, ti_93, ti_95, ti_97, ti_99, ti_105, ti_109, ti_111, ti_115, ti_118, ti_120, *] <;> rfl)) (hd : mkHp m 99999 = .none := by (simp only [mkHp_cons, mkHp_nil, Nat.reduceEqDiff, reduceIte]))
    (hc : c) (k : gops C r ops Q rest (sg l ((i, ob) :: m) A df)) : gops C r ops Q (⟨none, op, ty, pos, af, none⟩ :: rest) (sg l m A df) := go_s (gwant_plain rfl) hg hd hc k
theorem sw {b' : Bool} {i' : Nat} (hj : (ops[j]?).bind (·.dst) = some i' := by rfl) (hx : mkFr l i' = .p (.bool b') := by (simp only [mkFr_cons, Nat.reduceEqDiff, reduceIte] <;> rfl)) (hb : (b' == b) = true := by rfl) (hg : gsem Try.prog false 99999 (gev (mkFr l)) (mkHp m) op = some (c, ⟨g, some (i, ob)⟩) := by (simp only [gsem, gev, ofV, mkFr_cons, mkFr_nil, mkHp_cons, mkHp_nil, upd, yes, lift, gbinAt, gnilEq, gbin, gint, gshift, arith, gpick, gload, gstore, splice, gbox, gfill, placesL, gbuildSlice, gfieldAddr, gfield, gelem, gindexAddr, gindex, gbound, gslice, glen, gsource, gappend, gmin, gminL, gmax, gmaxL, mapGet, mapPut, zeroG, orZero, glookup, gmapUpdate, gconvert, gtypeAssert, gextract, isConst, gnilCheck, gunOp, gmakeSlice, intOf, mkAgg, mkFn, mkIface, mkTuple, allP, G.cells, good, goods, allOne, G.one, P.one, allP_p, allOne_p, goods_p, toPs_p, all_int, take_all, isAggD, isIfaceD, toP, toPs, P.size, P.cells, List.map_cons, List.map_nil, List.take_succ_cons, List.take_zero, List.drop_succ_cons, List.drop_zero, List.take_nil, List.drop_nil, List.cons_append, List.nil_append, List.append_nil, List.length_cons, List.length_nil, List.getElem?_cons_zero, List.getElem?_cons_succ, List.getElem?_nil, List.set_cons_zero, List.set_cons_succ, List.flatMap_cons, List.flatMap_nil, List.getElem?_toArray, List.getElem?_map, List.length_map, Option.map_some, Option.map_none, Nat.mul_one, List.length_set, set_map_p, set_map_int, Nat.reduceEqDiff, Nat.reduceAdd, Nat.reduceMul, Nat.reduceSub, Nat.reduceLeDiff, Nat.add_zero, Nat.zero_add, Int.toNat_natCast, Int.reduceToNat, reduceIte, reduceCtorEq, eq_self, if_true, if_false, and_true, true_and, true_or, or_true, or_false, false_or, Bool.false_eq_true, ne_eq, not_true_eq_false, not_false_eq_true, cond_true, cond_false, Bool.and_true, Bool.true_and, Bool.and_false, Bool.false_and, Bool.or_true, Bool.true_or, Bool.or_false, Bool.false_or, Bool.not_true, Bool.not_false, ti_3, ti_4, ti_5, ti_9, ti_20, ti_22, ti_24, ti_25, ti_27, ti_30, ti_40, ti_43, ti_48, ti_50, ti_51, ti_55, ti_57, ti_61, ti_66, ti_67, ti_71, ti_72, ti_74, ti_75, ti_76, ti_77, ti_78, ti_80, ti_81, ti_84, ti_91, ti_92, ti_93, ti_95, ti_97, ti_99, ti_105, ti_109, ti_111, ti_115, ti_118, ti_120, *] <;> rfl)) (hd : mkHp m 99999 = .none := by (simp only [mkHp_cons, mkHp_nil, Nat.reduceEqDiff, reduceIte]))
    (hc : c) (k : gops C r ops Q rest (sg l ((i, ob) :: m) A df)) : gops C r ops Q (⟨none, op, ty, pos, af, some (j, b)⟩ :: rest) (sg l m A df) := go_s ((gwant_at rfl hj hx).trans (by rw [hb])) hg hd hc k
/-! Objects, in any order -/
section
variable {lo : Nat} {σ0 : Sg E} {ids ids' : List (List Nat × List Nat)} {I : List Nat}
theorem dn1 (n : Nat) (d : Nat) (mu : Bool) (hn : ids.length = n := by rfl) (ho : ops[lo + n]? = some ⟨some t, op, ty, pos, af, none⟩ := by rfl) (hI : opIds (gev (mkFr l)) op = I := by (simp only [opIds, Op.operands, gev, mkFr_cons, Nat.reduceEqDiff, reduceIte, List.flatMap_cons, List.flatMap_nil, List.map_cons, List.map_nil, G.idl, G.idls, idls_p, List.append_nil, List.nil_append, List.cons_append, ofV, Call.operands, List.append_toArray, Array.toList_append, Option.toArray_none, Option.toArray_some] <;> rfl))
    (hg : gsem Try.prog mu d (gev (mkFr l)) (rhp (mkHp m) I) op = some (c, ⟨g, some (i, ob)⟩) := by (simp only [rhp, List.mem_cons, List.not_mem_nil, gsem, gev, ofV, mkFr_cons, mkFr_nil, mkHp_cons, mkHp_nil, upd, yes, lift, gbinAt, gnilEq, gbin, gint, gshift, arith, gpick, gload, gstore, splice, gbox, gfill, placesL, gbuildSlice, gfieldAddr, gfield, gelem, gindexAddr, gindex, gbound, gslice, glen, gsource, gappend, gmin, gminL, gmax, gmaxL, mapGet, mapPut, zeroG, orZero, glookup, gmapUpdate, gconvert, gtypeAssert, gextract, isConst, gnilCheck, gunOp, gmakeSlice, intOf, mkAgg, mkFn, mkIface, mkTuple, allP, G.cells, good, goods, allOne, G.one, P.one, allP_p, allOne_p, goods_p, toPs_p, all_int, take_all, isAggD, isIfaceD, toP, toPs, P.size, P.cells, List.map_cons, List.map_nil, List.take_succ_cons, List.take_zero, List.drop_succ_cons, List.drop_zero, List.take_nil, List.drop_nil, List.cons_append, List.nil_append, List.append_nil, List.length_cons, List.length_nil, List.getElem?_cons_zero, List.getElem?_cons_succ, List.getElem?_nil, List.set_cons_zero, List.set_cons_succ, List.flatMap_cons, List.flatMap_nil, List.getElem?_toArray, List.getElem?_map, List.length_map, Option.map_some, Option.map_none, Nat.mul_one, List.length_set, set_map_p, set_map_int, Nat.reduceEqDiff, Nat.reduceAdd, Nat.reduceMul, Nat.reduceSub, Nat.reduceLeDiff, Nat.add_zero, Nat.zero_add, Int.toNat_natCast, Int.reduceToNat, reduceIte, reduceCtorEq, eq_self, if_true, if_false, and_true, true_and, true_or, or_true, or_false, false_or, Bool.false_eq_true, ne_eq, not_true_eq_false, not_false_eq_true, cond_true, cond_false, Bool.and_true, Bool.true_and, Bool.and_false, Bool.false_and, Bool.or_true, Bool.true_or, Bool.or_false, Bool.false_or, Bool.not_true, Bool.not_false, ti_3, ti_4, ti_5, ti_9, ti_20, ti_22, ti_24, ti_25, ti_27, ti_30, ti_40, ti_43, ti_48, ti_50, ti_51, ti_55, ti_57, ti_61, ti_66, ti_67, ti_71, ti_72, ti_74, ti_75, ti_76, ti_77, ti_78, ti_80, ti_81, ti_84, ti_91, ti_92, ti_93, ti_95, ti_97, ti_99, ti_105, ti_109, ti_111, ti_115, ti_118, ti_120, *] <;> rfl)) (hd : mkHp m d = .none := by (simp only [mkHp_cons, mkHp_nil, Nat.reduceEqDiff, reduceIte])) (hd2 : C.lim ≤ d := by omega) (ht : t < C.N := by omega) 
    (hi : i ∈ d :: I := by simp) (hids : ids ++ [(d :: I, [i])] = ids' := by (simp only [List.cons_append, List.nil_append] <;> rfl)) (hc : c) (k : segK C r ops (GPost C Q) lo σ0 ids' (sg ((t, g) :: l) ((i, ob) :: m) A df)) : segK C r ops (GPost C Q) lo σ0 ids (sg l m A df) :=
  segK.step (pi := [i]) hn ho (eff_op (d := d) (out := ⟨g, some (i, ob)⟩) (gwant_plain rfl) hg hc hd hd2 (fun p e => by cases e; exact hi) (fun t' e => by cases e; exact ht)) rfl (by rw [hids]; exact k)
theorem dnw (n : Nat) (d : Nat) (mu : Bool) {b' : Bool} {i' : Nat} (hn : ids.length = n := by rfl) (ho : ops[lo + n]? = some ⟨some t, op, ty, pos, af, some (j, b)⟩ := by rfl) (hj : (ops[j]?).bind (·.dst) = some i' := by rfl) (hx : mkFr l i' = .p (.bool b') := by (simp only [mkFr_cons, Nat.reduceEqDiff, reduceIte] <;> rfl)) (hb : (b' == b) = true := by rfl) (hI : opIds (gev (mkFr l)) op = I := by (simp only [opIds, Op.operands, gev, mkFr_cons, Nat.reduceEqDiff, reduceIte, List.flatMap_cons, List.flatMap_nil, List.map_cons, List.map_nil, G.idl, G.idls, idls_p, List.append_nil, List.nil_append, List.cons_append, ofV, Call.operands, List.append_toArray, Array.toList_append, Option.toArray_none, Option.toArray_some] <;> rfl))
    (hg : gsem Try.prog mu d (gev (mkFr l)) (rhp (mkHp m) I) op = some (c, ⟨g, some (i, ob)⟩) := by (simp only [rhp, List.mem_cons, List.not_mem_nil, gsem, gev, ofV, mkFr_cons, mkFr_nil, mkHp_cons, mkHp_nil, upd, yes, lift, gbinAt, gnilEq, gbin, gint, gshift, arith, gpick, gload, gstore, splice, gbox, gfill, placesL, gbuildSlice, gfieldAddr, gfield, gelem, gindexAddr, gindex, gbound, gslice, glen, gsource, gappend, gmin, gminL, gmax, gmaxL, mapGet, mapPut, zeroG, orZero, glookup, gmapUpdate, gconvert, gtypeAssert, gextract, isConst, gnilCheck, gunOp, gmakeSlice, intOf, mkAgg, mkFn, mkIface, mkTuple, allP, G.cells, good, goods, allOne, G.one, P.one, allP_p, allOne_p, goods_p, toPs_p, all_int, take_all, isAggD, isIfaceD, toP, toPs, P.size, P.cells, List.map_cons, List.map_nil, List.take_succ_cons, List.take_zero, List.drop_succ_cons, List.drop_zero, List.take_nil, List.drop_nil, List.cons_append, List.nil_append, List.append_nil, List.length_cons, List.length_nil, List.getElem?_cons_zero, List.getElem?_cons_succ, List.getElem?_nil, List.set_cons_zero, List.set_cons_succ, List.flatMap_cons, List.flatMap_nil, List.getElem?_toArray, List.getElem?_map, List.length_map, Option.map_some, Option.map_none, Nat.mul_one, List.length_set, set_map_p, set_map_int, Nat.reduceEqDiff, Nat.reduceAdd, Nat.reduceMul, Nat.reduceSub, Nat.reduceLeDiff, Nat.add_zero, Nat.zero_add, Int.toNat_natCast, Int.reduceToNat, reduceIte, reduceCtorEq, eq_self, if_true, if_false, and_true, true_and, true_or, or_true, or_false, false_or, Bool.false_eq_true, ne_eq, not_true_eq_false, not_false_eq_true, cond_true, cond_false, Bool.and_true, Bool.true_and, Bool.and_false, Bool.false_and, Bool.or_true, Bool.true_or, Bool.or_false, Bool.false_or, Bool.not_true, Bool.not_false, ti_3, ti_4, ti_5, ti_9, ti_20, ti_22, ti_24, ti_25, ti_27, ti_30, ti_40, ti_43, ti_48, ti_50, ti_51, ti_55, ti_57, ti_61, ti_66, ti_67, ti_71, ti_72, ti_74, ti_75, ti_76, ti_77, ti_78, ti_80, ti_81, ti_84, ti_91, ti_92, ti_93, ti_95, ti_97, ti_99, ti_105, ti_109, ti_111, ti_115, ti_118, ti_120, *] <;> rfl)) (hd : mkHp m d = .none := by (simp only [mkHp_cons, mkHp_nil, Nat.reduceEqDiff, reduceIte])) (hd2 : C.lim ≤ d := by omega) (ht : t < C.N := by omega) 
    (hi : i ∈ d :: I := by simp) (hids : ids ++ [(d :: I, [i])] = ids' := by (simp only [List.cons_append, List.nil_append] <;> rfl)) (hc : c) (k : segK C r ops (GPost C Q) lo σ0 ids' (sg ((t, g) :: l) ((i, ob) :: m) A df)) : segK C r ops (GPost C Q) lo σ0 ids (sg l m A df) :=
  segK.step (pi := [i]) hn ho (eff_op (d := d) (out := ⟨g, some (i, ob)⟩) ((gwant_at rfl hj hx).trans (by rw [hb])) hg hc hd hd2 (fun p e => by cases e; exact hi) (fun t' e => by cases e; exact ht)) rfl (by rw [hids]; exact k)
theorem ds1 (n : Nat) (hn : ids.length = n := by rfl) (ho : ops[lo + n]? = some ⟨none, op, ty, pos, af, none⟩ := by rfl) (hI : opIds (gev (mkFr l)) op = I := by (simp only [opIds, Op.operands, gev, mkFr_cons, Nat.reduceEqDiff, reduceIte, List.flatMap_cons, List.flatMap_nil, List.map_cons, List.map_nil, G.idl, G.idls, idls_p, List.append_nil, List.nil_append, List.cons_append, ofV, Call.operands, List.append_toArray, Array.toList_append, Option.toArray_none, Option.toArray_some] <;> rfl))
    (hg : gsem Try.prog false 99999 (gev (mkFr l)) (rhp (mkHp m) I) op = some (c, ⟨g, some (i, ob)⟩) := by (simp only [rhp, List.mem_cons, List.not_mem_nil, gsem, gev, ofV, mkFr_cons, mkFr_nil, mkHp_cons, mkHp_nil, upd, yes, lift, gbinAt, gnilEq, gbin, gint, gshift, arith, gpick, gload, gstore, splice, gbox, gfill, placesL, gbuildSlice, gfieldAddr, gfield, gelem, gindexAddr, gindex, gbound, gslice, glen, gsource, gappend, gmin, gminL, gmax, gmaxL, mapGet, mapPut, zeroG, orZero, glookup, gmapUpdate, gconvert, gtypeAssert, gextract, isConst, gnilCheck, gunOp, gmakeSlice, intOf, mkAgg, mkFn, mkIface, mkTuple, allP, G.cells, good, goods, allOne, G.one, P.one, allP_p, allOne_p, goods_p, toPs_p, all_int, take_all, isAggD, isIfaceD, toP, toPs, P.size, P.cells, List.map_cons, List.map_nil, List.take_succ_cons, List.take_zero, List.drop_succ_cons, List.drop_zero, List.take_nil, List.drop_nil, List.cons_append, List.nil_append, List.append_nil, List.length_cons, List.length_nil, List.getElem?_cons_zero, List.getElem?_cons_succ, List.getElem?_nil, List.set_cons_zero, List.set_cons_succ, List.flatMap_cons, List.flatMap_nil, List.getElem?_toArray, List.getElem?_map, List.length_map, Option.map_some, Option.map_none, Nat.mul_one, List.length_set, set_map_p, set_map_int, Nat.reduceEqDiff, Nat.reduceAdd, Nat.reduceMul, Nat.reduceSub, Nat.reduceLeDiff, Nat.add_zero, Nat.zero_add, Int.toNat_natCast, Int.reduceToNat, reduceIte, reduceCtorEq, eq_self, if_true, if_false, and_true, true_and, true_or, or_true, or_false, false_or, Bool.false_eq_true, ne_eq, not_true_eq_false, not_false_eq_true, cond_true, cond_false, Bool.and_true, Bool.true_and, Bool.and_false, Bool.false_and, Bool.or_true, Bool.true_or, Bool.or_false, Bool.false_or, Bool.not_true, Bool.not_false, ti_3, ti_4, ti_5, ti_9, ti_20, ti_22, ti_24, ti_25, ti_27, ti_30, ti_40, ti_43, ti_48, ti_50, ti_51, ti_55, ti_57, ti_61, ti_66, ti_67, ti_71, ti_72, ti_74, ti_75, ti_76, ti_77, ti_78, ti_80, ti_81, ti_84, ti_91, ti_92, ti_93, ti_95, ti_97, ti_99, ti_105, ti_109, ti_111, ti_115, ti_118, ti_120, *] <;> rfl)) (hd : mkHp m 99999 = .none := by (simp only [mkHp_cons, mkHp_nil, Nat.reduceEqDiff, reduceIte])) 
    (hi : i ∈ 99999 :: I := by simp) (hids : ids ++ [(99999 :: I, [i])] = ids' := by (simp only [List.cons_append, List.nil_append] <;> rfl)) (hc : c) (k : segK C r ops (GPost C Q) lo σ0 ids' (sg l ((i, ob) :: m) A df)) : segK C r ops (GPost C Q) lo σ0 ids (sg l m A df) :=
  segK.step (pi := [i]) hn ho (eff_op (d := 99999) (out := ⟨g, some (i, ob)⟩) (gwant_plain rfl) hg hc hd (by have := C.limOk; omega) (fun p e => by cases e; exact hi) (fun t' e => by cases e)) rfl (by rw [hids]; exact k)
theorem dsw (n : Nat) {b' : Bool} {i' : Nat} (hn : ids.length = n := by rfl) (ho : ops[lo + n]? = some ⟨none, op, ty, pos, af, some (j, b)⟩ := by rfl) (hj : (ops[j]?).bind (·.dst) = some i' := by rfl) (hx : mkFr l i' = .p (.bool b') := by (simp only [mkFr_cons, Nat.reduceEqDiff, reduceIte] <;> rfl)) (hb : (b' == b) = true := by rfl) (hI : opIds (gev (mkFr l)) op = I := by (simp only [opIds, Op.operands, gev, mkFr_cons, Nat.reduceEqDiff, reduceIte, List.flatMap_cons, List.flatMap_nil, List.map_cons, List.map_nil, G.idl, G.idls, idls_p, List.append_nil, List.nil_append, List.cons_append, ofV, Call.operands, List.append_toArray, Array.toList_append, Option.toArray_none, Option.toArray_some] <;> rfl))
    (hg : gsem Try.prog false 99999 (gev (mkFr l)) (rhp (mkHp m) I) op = some (c, ⟨g, some (i, ob)⟩) := by (simp only [rhp, List.mem_cons, List.not_mem_nil, gsem, gev, ofV, mkFr_cons, mkFr_nil, mkHp_cons, mkHp_nil, upd, yes, lift, gbinAt, gnilEq, gbin, gint, gshift, arith, gpick, gload, gstore, splice, gbox, gfill, placesL, gbuildSlice, gfieldAddr, gfield, gelem, gindexAddr, gindex, gbound, gslice, glen, gsource, gappend, gmin, gminL, gmax, gmaxL, mapGet, mapPut, zeroG, orZero, glookup, gmapUpdate, gconvert, gtypeAssert, gextract, isConst, gnilCheck, gunOp, gmakeSlice, intOf, mkAgg, mkFn, mkIface, mkTuple, allP, G.cells, good, goods, allOne, G.one, P.one, allP_p, allOne_p, goods_p, toPs_p, all_int, take_all, isAggD, isIfaceD, toP, toPs, P.size, P.cells, List.map_cons, List.map_nil, List.take_succ_cons, List.take_zero, List.drop_succ_cons, List.drop_zero, List.take_nil, List.drop_nil, List.cons_append, List.nil_append, List.append_nil, List.length_cons, List.length_nil, List.getElem?_cons_zero, List.getElem?_cons_succ, List.getElem?_nil, List.set_cons_zero, List.set_cons_succ, List.flatMap_cons, List.flatMap_nil, List.getElem?_toArray, List.getElem?_map, List.length_map, Option.map_some, Option.map_none, Nat.mul_one, List.length_set, set_map_p, set_map_int, Nat.reduceEqDiff, Nat.reduceAdd, Nat.reduceMul, Nat.reduceSub, Nat.reduceLeDiff, Nat.add_zero, Nat.zero_add, Int.toNat_natCast, Int.reduceToNat, reduceIte, reduceCtorEq, eq_self, if_true, if_false, and_true, true_and, true_or, or_true, or_false, false_or, Bool.false_eq_true, ne_eq, not_true_eq_false, not_false_eq_true, cond_true, cond_false, Bool.and_true, Bool.true_and, Bool.and_false, Bool.false_and, Bool.or_true, Bool.true_or, Bool.or_false, Bool.false_or, Bool.not_true, Bool.not_false, ti_3, ti_4, ti_5, ti_9, ti_20, ti_22, ti_24, ti_25, ti_27, ti_30, ti_40, ti_43, ti_48, ti_50, ti_51, ti_55, ti_57, ti_61, ti_66, ti_67, ti_71, ti_72, ti_74, ti_75, ti_76, ti_77, ti_78, ti_80, ti_81, ti_84, ti_91, ti_92, ti_93, ti_95, ti_97, ti_99, ti_105, ti_109, ti_111, ti_115, ti_118, ti_120, *] <;> rfl)) (hd : mkHp m 99999 = .none := by (simp only [mkHp_cons, mkHp_nil, Nat.reduceEqDiff, reduceIte])) 
    (hi : i ∈ 99999 :: I := by simp) (hids : ids ++ [(99999 :: I, [i])] = ids' := by (simp only [List.cons_append, List.nil_append] <;> rfl)) (hc : c) (k : segK C r ops (GPost C Q) lo σ0 ids' (sg l ((i, ob) :: m) A df)) : segK C r ops (GPost C Q) lo σ0 ids (sg l m A df) :=
  segK.step (pi := [i]) hn ho (eff_op (d := 99999) (out := ⟨g, some (i, ob)⟩) ((gwant_at rfl hj hx).trans (by rw [hb])) hg hc hd (by have := C.limOk; omega) (fun p e => by cases e; exact hi) (fun t' e => by cases e)) rfl (by rw [hids]; exact k)
end
/-! Calls that hand objects on -/
section
variable {lo : Nat} {σ0 : Sg E} {ids ids' : List (List Nat × List Nat)} {f : FuncId} {gs : List G}
theorem oc0 (L : List (Nat × Nat)) (J : List Nat) (ks : List Nat) (ad : Option (Nat × Ob)) {cc : Call} {gargs : List G} {mc mr m2 ps : List (Nat × Ob)} {g2 : G} (spec : Gh.Spec E f gargs (mkHp mc) A fun x => x = .ok g (mkHp mr) A) (hent : Enters Try.prog f) (hg : gcallee Try.prog (mkFr l) cc = some (f, gs) := by (simp only [gcallee, gev, mkFr_cons, Nat.reduceEqDiff, reduceIte, List.map_cons, List.map_nil, List.cons_append, List.nil_append, List.append_nil, toP, toPs, toPs_p, ofV, rhp, mkHp_cons, mkHp_nil, List.mem_cons, List.not_mem_nil, or_false, and_true, true_and] <;> rfl))
    (ha : AdoptOk C.lim (mkHp m) L ad := by (first | exact True.intro | (refine ⟨by (simp only [mkHp_cons, mkHp_nil, Nat.reduceEqDiff, reduceIte]), by omega, ⟨_, _, _, rfl⟩, by simp⟩))) (hcv : cvtsM (rhp (mkHp m) J) (ad.map (·.1)) ks gs = some (c, G.rens (Gh.look L) gargs) := by (simp only [cvtsM, cvtM, Option.map_some, Option.map_none, G.rens, G.ren, rens_p, Gh.look, Nat.reduceAdd, Nat.zero_add, List.take_succ_cons, List.take_zero, List.drop_succ_cons, List.drop_zero, gev, mkFr_cons, Nat.reduceEqDiff, reduceIte, List.map_cons, List.map_nil, List.cons_append, List.nil_append, List.append_nil, toP, toPs, toPs_p, ofV, rhp, mkHp_cons, mkHp_nil, List.mem_cons, List.not_mem_nil, or_false, and_true, true_and] <;> rfl)) (hc : c := by simp)
    (n1 : (L.map (·.1)).Nodup := by decide) (n2 : (L.map (·.2)).Nodup := by decide) (n3 : (mc.map (·.1)).Nodup := by simp) (hp1 : pairsP L (adoptH (mkHp m) ad) mc := by (simp only [pairsP, adoptH, Gh.look, Ob.ren, G.rens, G.ren, rens_p, upd, mkHp_cons, mkHp_nil, Nat.reduceEqDiff, reduceIte] <;> simp)) (hp2 : newP C.lim (adoptH (mkHp m) ad) mc L := by (simp [newP, adoptH, upd, mkHp_cons, mkHp_nil] <;> omega))
    (hdis : ∀ d ob, ad = some (d, ob) → d ∉ J := by (intro d ob e; simp at e <;> simp [← e.1])) (hk : keysP L mr := by simp [keysP, Gh.look]) (hs : stayP mr mc := by simp [stayP, mkHp_cons, mkHp_nil]) (ht : t < C.N := by omega) (hgr : g.ren (Gh.look L) = g2 := by (simp only [G.ren, G.rens, Gh.look, Nat.reduceEqDiff, reduceIte] <;> rfl)) (hps : putsOf L (mkHp mr) = ps := by (simp only [putsOf, List.map_cons, List.map_nil, mkHp_cons, mkHp_nil, Nat.reduceEqDiff, reduceIte, Ob.ren, G.ren, G.rens, rens_p, Gh.look] <;> rfl))
    (hm2 : ps.reverse ++ m = m2 := by (simp only [List.reverse_cons, List.reverse_nil, List.nil_append, List.cons_append] <;> rfl)) (k : gops C r ops Q rest (sg ((t, g2) :: l) m2 A df)) : gops C r ops Q (⟨some t, .call cc, ty, pos, af, none⟩ :: rest) (sg l m A df) :=
  gops_eff (eff_call2 rfl (gwant_plain rfl) hg hent ha hcv hc (pairs_mk n1 n2 n3 hp1 hp2) hdis spec (pairsB_mk hk hs) (fun t' e => by cases e; exact ht)) (by rw [hgr, hps]; show gops C r ops Q rest (⟨upd (mkFr l) t g2, putsH (mkHp m) ps, A, df⟩ : Sg E); rw [putsH_mk, hm2]; exact k)
theorem doc0 (n : Nat) (L : List (Nat × Nat)) (J : List Nat) (ks : List Nat) (ad : Option (Nat × Ob)) {cc : Call} {gargs : List G} {mc mr m2 ps : List (Nat × Ob)} {g2 : G} (spec : Gh.Spec E f gargs (mkHp mc) A fun x => x = .ok g (mkHp mr) A) (hent : Enters Try.prog f) (hn : ids.length = n := by rfl) (ho : ops[lo + n]? = some ⟨some t, .call cc, ty, pos, af, none⟩ := by rfl) (hg : gcallee Try.prog (mkFr l) cc = some (f, gs) := by (simp only [gcallee, gev, mkFr_cons, Nat.reduceEqDiff, reduceIte, List.map_cons, List.map_nil, List.cons_append, List.nil_append, List.append_nil, toP, toPs, toPs_p, ofV, rhp, mkHp_cons, mkHp_nil, List.mem_cons, List.not_mem_nil, or_false, and_true, true_and] <;> rfl))
    (ha : AdoptOk C.lim (mkHp m) L ad := by (first | exact True.intro | (refine ⟨by (simp only [mkHp_cons, mkHp_nil, Nat.reduceEqDiff, reduceIte]), by omega, ⟨_, _, _, rfl⟩, by simp⟩))) (hcv : cvtsM (rhp (mkHp m) J) (ad.map (·.1)) ks gs = some (c, G.rens (Gh.look L) gargs) := by (simp only [cvtsM, cvtM, Option.map_some, Option.map_none, G.rens, G.ren, rens_p, Gh.look, Nat.reduceAdd, Nat.zero_add, List.take_succ_cons, List.take_zero, List.drop_succ_cons, List.drop_zero, gev, mkFr_cons, Nat.reduceEqDiff, reduceIte, List.map_cons, List.map_nil, List.cons_append, List.nil_append, List.append_nil, toP, toPs, toPs_p, ofV, rhp, mkHp_cons, mkHp_nil, List.mem_cons, List.not_mem_nil, or_false, and_true, true_and] <;> rfl)) (hc : c := by simp)
    (n1 : (L.map (·.1)).Nodup := by decide) (n2 : (L.map (·.2)).Nodup := by decide) (n3 : (mc.map (·.1)).Nodup := by simp) (hp1 : pairsP L (adoptH (mkHp m) ad) mc := by (simp only [pairsP, adoptH, Gh.look, Ob.ren, G.rens, G.ren, rens_p, upd, mkHp_cons, mkHp_nil, Nat.reduceEqDiff, reduceIte] <;> simp)) (hp2 : newP C.lim (adoptH (mkHp m) ad) mc L := by (simp [newP, adoptH, upd, mkHp_cons, mkHp_nil] <;> omega))
    (hdis : ∀ d ob, ad = some (d, ob) → d ∉ J := by (intro d ob e; simp at e <;> simp [← e.1])) (hk : keysP L mr := by simp [keysP, Gh.look]) (hs : stayP mr mc := by simp [stayP, mkHp_cons, mkHp_nil]) (ht : t < C.N := by omega) (hgr : g.ren (Gh.look L) = g2 := by (simp only [G.ren, G.rens, Gh.look, Nat.reduceEqDiff, reduceIte] <;> rfl)) (hps : putsOf L (mkHp mr) = ps := by (simp only [putsOf, List.map_cons, List.map_nil, mkHp_cons, mkHp_nil, Nat.reduceEqDiff, reduceIte, Ob.ren, G.ren, G.rens, rens_p, Gh.look] <;> rfl))
    (hm2 : ps.reverse ++ m = m2 := by (simp only [List.reverse_cons, List.reverse_nil, List.nil_append, List.cons_append] <;> rfl)) (hids : ids ++ [(L.map (·.2) ++ J, ps.map (·.1))] = ids' := by (simp only [List.cons_append, List.nil_append, List.map_cons, List.map_nil] <;> rfl)) (k : segK C r ops (GPost C Q) lo σ0 ids' (sg ((t, g2) :: l) m2 A df)) : segK C r ops (GPost C Q) lo σ0 ids (sg l m A df) :=
  segK.step (pi := ps.map (·.1)) hn ho (eff_call2 rfl (gwant_plain rfl) hg hent ha hcv hc (pairs_mk n1 n2 n3 hp1 hp2) hdis spec (pairsB_mk hk hs) (fun t' e => by cases e; exact ht)) (by rw [hps]) (by rw [hids, hgr, hps]; show segK C r ops (GPost C Q) lo σ0 ids' (⟨upd (mkFr l) t g2, putsH (mkHp m) ps, A, df⟩ : Sg E); rw [putsH_mk, hm2]; exact k)
theorem ocw (L : List (Nat × Nat)) (J : List Nat) (ks : List Nat) (ad : Option (Nat × Ob)) {b' : Bool} {i' : Nat} {cc : Call} {gargs : List G} {mc mr m2 ps : List (Nat × Ob)} {g2 : G} (spec : Gh.Spec E f gargs (mkHp mc) A fun x => x = .ok g (mkHp mr) A) (hent : Enters Try.prog f) (hj : (ops[j]?).bind (·.dst) = some i' := by rfl) (hx : mkFr l i' = .p (.bool b') := by (simp only [mkFr_cons, Nat.reduceEqDiff, reduceIte] <;> rfl)) (hb : (b' == b) = true := by rfl) (hg : gcallee Try.prog (mkFr l) cc = some (f, gs) := by (simp only [gcallee, gev, mkFr_cons, Nat.reduceEqDiff, reduceIte, List.map_cons, List.map_nil, List.cons_append, List.nil_append, List.append_nil, toP, toPs, toPs_p, ofV, rhp, mkHp_cons, mkHp_nil, List.mem_cons, List.not_mem_nil, or_false, and_true, true_and] <;> rfl))
    (ha : AdoptOk C.lim (mkHp m) L ad := by (first | exact True.intro | (refine ⟨by (simp only [mkHp_cons, mkHp_nil, Nat.reduceEqDiff, reduceIte]), by omega, ⟨_, _, _, rfl⟩, by simp⟩))) (hcv : cvtsM (rhp (mkHp m) J) (ad.map (·.1)) ks gs = some (c, G.rens (Gh.look L) gargs) := by (simp only [cvtsM, cvtM, Option.map_some, Option.map_none, G.rens, G.ren, rens_p, Gh.look, Nat.reduceAdd, Nat.zero_add, List.take_succ_cons, List.take_zero, List.drop_succ_cons, List.drop_zero, gev, mkFr_cons, Nat.reduceEqDiff, reduceIte, List.map_cons, List.map_nil, List.cons_append, List.nil_append, List.append_nil, toP, toPs, toPs_p, ofV, rhp, mkHp_cons, mkHp_nil, List.mem_cons, List.not_mem_nil, or_false, and_true, true_and] <;> rfl)) (hc : c := by simp)
    (n1 : (L.map (·.1)).Nodup := by decide) (n2 : (L.map (·.2)).Nodup := by decide) (n3 : (mc.map (·.1)).Nodup := by simp) (hp1 : pairsP L (adoptH (mkHp m) ad) mc := by (simp only [pairsP, adoptH, Gh.look, Ob.ren, G.rens, G.ren, rens_p, upd, mkHp_cons, mkHp_nil, Nat.reduceEqDiff, reduceIte] <;> simp)) (hp2 : newP C.lim (adoptH (mkHp m) ad) mc L := by (simp [newP, adoptH, upd, mkHp_cons, mkHp_nil] <;> omega))
    (hdis : ∀ d ob, ad = some (d, ob) → d ∉ J := by (intro d ob e; simp at e <;> simp [← e.1])) (hk : keysP L mr := by simp [keysP, Gh.look]) (hs : stayP mr mc := by simp [stayP, mkHp_cons, mkHp_nil]) (ht : t < C.N := by omega) (hgr : g.ren (Gh.look L) = g2 := by (simp only [G.ren, G.rens, Gh.look, Nat.reduceEqDiff, reduceIte] <;> rfl)) (hps : putsOf L (mkHp mr) = ps := by (simp only [putsOf, List.map_cons, List.map_nil, mkHp_cons, mkHp_nil, Nat.reduceEqDiff, reduceIte, Ob.ren, G.ren, G.rens, rens_p, Gh.look] <;> rfl))
    (hm2 : ps.reverse ++ m = m2 := by (simp only [List.reverse_cons, List.reverse_nil, List.nil_append, List.cons_append] <;> rfl)) (k : gops C r ops Q rest (sg ((t, g2) :: l) m2 A df)) : gops C r ops Q (⟨some t, .call cc, ty, pos, af, some (j, b)⟩ :: rest) (sg l m A df) :=
  gops_eff (eff_call2 rfl ((gwant_at rfl hj hx).trans (by rw [hb])) hg hent ha hcv hc (pairs_mk n1 n2 n3 hp1 hp2) hdis spec (pairsB_mk hk hs) (fun t' e => by cases e; exact ht)) (by rw [hgr, hps]; show gops C r ops Q rest (⟨upd (mkFr l) t g2, putsH (mkHp m) ps, A, df⟩ : Sg E); rw [putsH_mk, hm2]; exact k)
theorem docw (n : Nat) (L : List (Nat × Nat)) (J : List Nat) (ks : List Nat) (ad : Option (Nat × Ob)) {b' : Bool} {i' : Nat} {cc : Call} {gargs : List G} {mc mr m2 ps : List (Nat × Ob)} {g2 : G} (spec : Gh.Spec E f gargs (mkHp mc) A fun x => x = .ok g (mkHp mr) A) (hent : Enters Try.prog f) (hj : (ops[j]?).bind (·.dst) = some i' := by rfl) (hx : mkFr l i' = .p (.bool b') := by (simp only [mkFr_cons, Nat.reduceEqDiff, reduceIte] <;> rfl)) (hb : (b' == b) = true := by rfl) (hn : ids.length = n := by rfl) (ho : ops[lo + n]? = some ⟨some t, .call cc, ty, pos, af, some (j, b)⟩ := by rfl) (hg : gcallee Try.prog (mkFr l) cc = some (f, gs) := by (simp only [gcallee, gev, mkFr_cons, Nat.reduceEqDiff, reduceIte, List.map_cons, List.map_nil, List.cons_append, List.nil_append, List.append_nil, toP, toPs, toPs_p, ofV, rhp, mkHp_cons, mkHp_nil, List.mem_cons, List.not_mem_nil, or_false, and_true, true_and] <;> rfl))
    (ha : AdoptOk C.lim (mkHp m) L ad := by (first | exact True.intro | (refine ⟨by (simp only [mkHp_cons, mkHp_nil, Nat.reduceEqDiff, reduceIte]), by omega, ⟨_, _, _, rfl⟩, by simp⟩))) (hcv : cvtsM (rhp (mkHp m) J) (ad.map (·.1)) ks gs = some (c, G.rens (Gh.look L) gargs) := by (simp only [cvtsM, cvtM, Option.map_some, Option.map_none, G.rens, G.ren, rens_p, Gh.look, Nat.reduceAdd, Nat.zero_add, List.take_succ_cons, List.take_zero, List.drop_succ_cons, List.drop_zero, gev, mkFr_cons, Nat.reduceEqDiff, reduceIte, List.map_cons, List.map_nil, List.cons_append, List.nil_append, List.append_nil, toP, toPs, toPs_p, ofV, rhp, mkHp_cons, mkHp_nil, List.mem_cons, List.not_mem_nil, or_false, and_true, true_and] <;> rfl)) (hc : c := by simp)
    (n1 : (L.map (·.1)).Nodup := by decide) (n2 : (L.map (·.2)).Nodup := by decide) (n3 : (mc.map (·.1)).Nodup := by simp) (hp1 : pairsP L (adoptH (mkHp m) ad) mc := by (simp only [pairsP, adoptH, Gh.look, Ob.ren, G.rens, G.ren, rens_p, upd, mkHp_cons, mkHp_nil, Nat.reduceEqDiff, reduceIte] <;> simp)) (hp2 : newP C.lim (adoptH (mkHp m) ad) mc L := by (simp [newP, adoptH, upd, mkHp_cons, mkHp_nil] <;> omega))
    (hdis : ∀ d ob, ad = some (d, ob) → d ∉ J := by (intro d ob e; simp at e <;> simp [← e.1])) (hk : keysP L mr := by simp [keysP, Gh.look]) (hs : stayP mr mc := by simp [stayP, mkHp_cons, mkHp_nil]) (ht : t < C.N := by omega) (hgr : g.ren (Gh.look L) = g2 := by (simp only [G.ren, G.rens, Gh.look, Nat.reduceEqDiff, reduceIte] <;> rfl)) (hps : putsOf L (mkHp mr) = ps := by (simp only [putsOf, List.map_cons, List.map_nil, mkHp_cons, mkHp_nil, Nat.reduceEqDiff, reduceIte, Ob.ren, G.ren, G.rens, rens_p, Gh.look] <;> rfl))
    (hm2 : ps.reverse ++ m = m2 := by (simp only [List.reverse_cons, List.reverse_nil, List.nil_append, List.cons_append] <;> rfl)) (hids : ids ++ [(L.map (·.2) ++ J, ps.map (·.1))] = ids' := by (simp only [List.cons_append, List.nil_append, List.map_cons, List.map_nil] <;> rfl)) (k : segK C r ops (GPost C Q) lo σ0 ids' (sg ((t, g2) :: l) m2 A df)) : segK C r ops (GPost C Q) lo σ0 ids (sg l m A df) :=
  segK.step (pi := ps.map (·.1)) hn ho (eff_call2 rfl ((gwant_at rfl hj hx).trans (by rw [hb])) hg hent ha hcv hc (pairs_mk n1 n2 n3 hp1 hp2) hdis spec (pairsB_mk hk hs) (fun t' e => by cases e; exact ht)) (by rw [hps]) (by rw [hids, hgr, hps]; show segK C r ops (GPost C Q) lo σ0 ids' (⟨upd (mkFr l) t g2, putsH (mkHp m) ps, A, df⟩ : Sg E); rw [putsH_mk, hm2]; exact k)
end
section
variable {f : FuncId} {gs : List G}
theorem on0 {X : Type} (L : List (Nat × Nat)) (J : List Nat) (ks : List Nat) (ad : Option (Nat × Ob)) {cc : Call} {gargs : List G} {mc : List (Nat × Ob)} {F : X → Prop} {gv g2 : X → G} {mr m2 ps : X → List (Nat × Ob)} {ga : X → E.α} (spec : Gh.Spec E f gargs (mkHp mc) A fun y => ∃ x, F x ∧ y = .ok (gv x) (mkHp (mr x)) (ga x)) (hent : Enters Try.prog f) (hg : gcallee Try.prog (mkFr l) cc = some (f, gs) := by (simp only [gcallee, gev, mkFr_cons, Nat.reduceEqDiff, reduceIte, List.map_cons, List.map_nil, List.cons_append, List.nil_append, List.append_nil, toP, toPs, toPs_p, ofV, rhp, mkHp_cons, mkHp_nil, List.mem_cons, List.not_mem_nil, or_false, and_true, true_and] <;> rfl))
    (ha : AdoptOk C.lim (mkHp m) L ad := by (first | exact True.intro | (refine ⟨by (simp only [mkHp_cons, mkHp_nil, Nat.reduceEqDiff, reduceIte]), by omega, ⟨_, _, _, rfl⟩, by simp⟩))) (hcv : cvtsM (rhp (mkHp m) J) (ad.map (·.1)) ks gs = some (c, G.rens (Gh.look L) gargs) := by (simp only [cvtsM, cvtM, Option.map_some, Option.map_none, G.rens, G.ren, rens_p, Gh.look, Nat.reduceAdd, Nat.zero_add, List.take_succ_cons, List.take_zero, List.drop_succ_cons, List.drop_zero, gev, mkFr_cons, Nat.reduceEqDiff, reduceIte, List.map_cons, List.map_nil, List.cons_append, List.nil_append, List.append_nil, toP, toPs, toPs_p, ofV, rhp, mkHp_cons, mkHp_nil, List.mem_cons, List.not_mem_nil, or_false, and_true, true_and] <;> rfl)) (hc : c := by simp)
    (n1 : (L.map (·.1)).Nodup := by decide) (n2 : (L.map (·.2)).Nodup := by decide) (n3 : (mc.map (·.1)).Nodup := by simp) (hp1 : pairsP L (adoptH (mkHp m) ad) mc := by (simp only [pairsP, adoptH, Gh.look, Ob.ren, G.rens, G.ren, rens_p, upd, mkHp_cons, mkHp_nil, Nat.reduceEqDiff, reduceIte] <;> simp)) (hp2 : newP C.lim (adoptH (mkHp m) ad) mc L := by (simp [newP, adoptH, upd, mkHp_cons, mkHp_nil] <;> omega))
    (hdis : ∀ d ob, ad = some (d, ob) → d ∉ J := by (intro d ob e; simp at e <;> simp [← e.1])) (hk : ∀ x, keysP L (mr x) := by (intro x; simp [keysP, Gh.look])) (hs : ∀ x, stayP (mr x) mc := by (intro x; simp [stayP, mkHp_cons, mkHp_nil])) (ht : t < C.N := by omega) (hgr : ∀ x, (gv x).ren (Gh.look L) = g2 x := by (intro x; simp only [G.ren, G.rens, Gh.look, Nat.reduceEqDiff, reduceIte] <;> rfl)) (hps : ∀ x, putsOf L (mkHp (mr x)) = ps x := by (intro x; simp only [putsOf, List.map_cons, List.map_nil, mkHp_cons, mkHp_nil, Nat.reduceEqDiff, reduceIte, Ob.ren, G.ren, G.rens, rens_p, Gh.look] <;> rfl))
    (hm2 : ∀ x, (ps x).reverse ++ m = m2 x := by (intro x; simp only [List.reverse_cons, List.reverse_nil, List.nil_append, List.cons_append] <;> rfl)) (k : ∀ x, F x → gops C r ops Q rest (sg ((t, g2 x) :: l) (m2 x) (ga x) df)) : gops C r ops Q (⟨some t, .call cc, ty, pos, af, none⟩ :: rest) (sg l m A df) :=
  go_calln spec hent (gwant_plain rfl) hg ha hcv hc (pairs_mk n1 n2 n3 hp1 hp2) hdis (fun x _ => pairsB_mk (hk x) (hs x)) ht fun x hx => by rw [hgr, hps]; show gops C r ops Q rest (⟨upd (mkFr l) t (g2 x), putsH (mkHp m) (ps x), ga x, df⟩ : Sg E); rw [putsH_mk, hm2]; exact k x hx
theorem onw {X : Type} (L : List (Nat × Nat)) (J : List Nat) (ks : List Nat) (ad : Option (Nat × Ob)) {b' : Bool} {i' : Nat} {cc : Call} {gargs : List G} {mc : List (Nat × Ob)} {F : X → Prop} {gv g2 : X → G} {mr m2 ps : X → List (Nat × Ob)} {ga : X → E.α} (spec : Gh.Spec E f gargs (mkHp mc) A fun y => ∃ x, F x ∧ y = .ok (gv x) (mkHp (mr x)) (ga x)) (hent : Enters Try.prog f) (hj : (ops[j]?).bind (·.dst) = some i' := by rfl) (hx : mkFr l i' = .p (.bool b') := by (simp only [mkFr_cons, Nat.reduceEqDiff, reduceIte] <;> rfl)) (hb : (b' == b) = true := by rfl) (hg : gcallee Try.prog (mkFr l) cc = some (f, gs) := by (simp only [gcallee, gev, mkFr_cons, Nat.reduceEqDiff, reduceIte, List.map_cons, List.map_nil, List.cons_append, List.nil_append, List.append_nil, toP, toPs, toPs_p, ofV, rhp, mkHp_cons, mkHp_nil, List.mem_cons, List.not_mem_nil, or_false, and_true, true_and] <;> rfl))
    (ha : AdoptOk C.lim (mkHp m) L ad := by (first | exact True.intro | (refine ⟨by (simp only [mkHp_cons, mkHp_nil, Nat.reduceEqDiff, reduceIte]), by omega, ⟨_, _, _, rfl⟩, by simp⟩))) (hcv : cvtsM (rhp (mkHp m) J) (ad.map (·.1)) ks gs = some (c, G.rens (Gh.look L) gargs) := by (simp only [cvtsM, cvtM, Option.map_some, Option.map_none, G.rens, G.ren, rens_p, Gh.look, Nat.reduceAdd, Nat.zero_add, List.take_succ_cons, List.take_zero, List.drop_succ_cons, List.drop_zero, gev, mkFr_cons, Nat.reduceEqDiff, reduceIte, List.map_cons, List.map_nil, List.cons_append, List.nil_append, List.append_nil, toP, toPs, toPs_p, ofV, rhp, mkHp_cons, mkHp_nil, List.mem_cons, List.not_mem_nil, or_false, and_true, true_and] <;> rfl)) (hc : c := by simp)
    (n1 : (L.map (·.1)).Nodup := by decide) (n2 : (L.map (·.2)).Nodup := by decide) (n3 : (mc.map (·.1)).Nodup := by simp) (hp1 : pairsP L (adoptH (mkHp m) ad) mc := by (simp only [pairsP, adoptH, Gh.look, Ob.ren, G.rens, G.ren, rens_p, upd, mkHp_cons, mkHp_nil, Nat.reduceEqDiff, reduceIte] <;> simp)) (hp2 : newP C.lim (adoptH (mkHp m) ad) mc L := by (simp [newP, adoptH, upd, mkHp_cons, mkHp_nil] <;> omega))
    (hdis : ∀ d ob, ad = some (d, ob) → d ∉ J := by (intro d ob e; simp at e <;> simp [← e.1])) (hk : ∀ x, keysP L (mr x) := by (intro x; simp [keysP, Gh.look])) (hs : ∀ x, stayP (mr x) mc := by (intro x; simp [stayP, mkHp_cons, mkHp_nil])) (ht : t < C.N := by omega) (hgr : ∀ x, (gv x).ren (Gh.look L) = g2 x := by (intro x; simp only [G.ren, G.rens, Gh.look, Nat.reduceEqDiff, reduceIte] <;> rfl)) (hps : ∀ x, putsOf L (mkHp (mr x)) = ps x := by (intro x; simp only [putsOf, List.map_cons, List.map_nil, mkHp_cons, mkHp_nil, Nat.reduceEqDiff, reduceIte, Ob.ren, G.ren, G.rens, rens_p, Gh.look] <;> rfl))
    (hm2 : ∀ x, (ps x).reverse ++ m = m2 x := by (intro x; simp only [List.reverse_cons, List.reverse_nil, List.nil_append, List.cons_append] <;> rfl)) (k : ∀ x, F x → gops C r ops Q rest (sg ((t, g2 x) :: l) (m2 x) (ga x) df)) : gops C r ops Q (⟨some t, .call cc, ty, pos, af, some (j, b)⟩ :: rest) (sg l m A df) :=
  go_calln spec hent ((gwant_at rfl hj hx).trans (by rw [hb])) hg ha hcv hc (pairs_mk n1 n2 n3 hp1 hp2) hdis (fun x _ => pairsB_mk (hk x) (hs x)) ht fun x hx => by rw [hgr, hps]; show gops C r ops Q rest (⟨upd (mkFr l) t (g2 x), putsH (mkHp m) (ps x), ga x, df⟩ : Sg E); rw [putsH_mk, hm2]; exact k x hx
theorem don0 {X : Type} (n : Nat) (tab : List Nat) (L : List (Nat × Nat)) (J : List Nat) (ks : List Nat) (ad : Option (Nat × Ob)) {cc : Call} {gargs : List G} {mc : List (Nat × Ob)} {F : X → Prop} {gv g2 : X → G} {mr m2 ps : X → List (Nat × Ob)} {ga : X → E.α} (spec : Gh.Spec E f gargs (mkHp mc) A fun y => ∃ x, F x ∧ y = .ok (gv x) (mkHp (mr x)) (ga x)) (hent : Enters Try.prog f) (ho : ops[n]? = some ⟨some t, .call cc, ty, pos, af, none⟩ := by rfl) (hwt : waitsB tab ops.toList 0 = true := by kernel_rfl) (hct : cutB tab n 1 ops.size = true := by kernel_rfl) (hg : gcallee Try.prog (mkFr l) cc = some (f, gs) := by (simp only [gcallee, gev, mkFr_cons, Nat.reduceEqDiff, reduceIte, List.map_cons, List.map_nil, List.cons_append, List.nil_append, List.append_nil, toP, toPs, toPs_p, ofV, rhp, mkHp_cons, mkHp_nil, List.mem_cons, List.not_mem_nil, or_false, and_true, true_and] <;> rfl))
    (ha : AdoptOk C.lim (mkHp m) L ad := by (first | exact True.intro | (refine ⟨by (simp only [mkHp_cons, mkHp_nil, Nat.reduceEqDiff, reduceIte]), by omega, ⟨_, _, _, rfl⟩, by simp⟩))) (hcv : cvtsM (rhp (mkHp m) J) (ad.map (·.1)) ks gs = some (c, G.rens (Gh.look L) gargs) := by (simp only [cvtsM, cvtM, Option.map_some, Option.map_none, G.rens, G.ren, rens_p, Gh.look, Nat.reduceAdd, Nat.zero_add, List.take_succ_cons, List.take_zero, List.drop_succ_cons, List.drop_zero, gev, mkFr_cons, Nat.reduceEqDiff, reduceIte, List.map_cons, List.map_nil, List.cons_append, List.nil_append, List.append_nil, toP, toPs, toPs_p, ofV, rhp, mkHp_cons, mkHp_nil, List.mem_cons, List.not_mem_nil, or_false, and_true, true_and] <;> rfl)) (hc : c := by simp)
    (n1 : (L.map (·.1)).Nodup := by decide) (n2 : (L.map (·.2)).Nodup := by decide) (n3 : (mc.map (·.1)).Nodup := by simp) (hp1 : pairsP L (adoptH (mkHp m) ad) mc := by (simp only [pairsP, adoptH, Gh.look, Ob.ren, G.rens, G.ren, rens_p, upd, mkHp_cons, mkHp_nil, Nat.reduceEqDiff, reduceIte] <;> simp)) (hp2 : newP C.lim (adoptH (mkHp m) ad) mc L := by (simp [newP, adoptH, upd, mkHp_cons, mkHp_nil] <;> omega))
    (hdis : ∀ d ob, ad = some (d, ob) → d ∉ J := by (intro d ob e; simp at e <;> simp [← e.1])) (hk : ∀ x, keysP L (mr x) := by (intro x; simp [keysP, Gh.look])) (hs : ∀ x, stayP (mr x) mc := by (intro x; simp [stayP, mkHp_cons, mkHp_nil])) (ht : t < C.N := by omega) (hgr : ∀ x, (gv x).ren (Gh.look L) = g2 x := by (intro x; simp only [G.ren, G.rens, Gh.look, Nat.reduceEqDiff, reduceIte] <;> rfl)) (hps : ∀ x, putsOf L (mkHp (mr x)) = ps x := by (intro x; simp only [putsOf, List.map_cons, List.map_nil, mkHp_cons, mkHp_nil, Nat.reduceEqDiff, reduceIte, Ob.ren, G.ren, G.rens, rens_p, Gh.look] <;> rfl))
    (hm2 : ∀ x, (ps x).reverse ++ m = m2 x := by (intro x; simp only [List.reverse_cons, List.reverse_nil, List.nil_append, List.cons_append] <;> rfl)) (k : ∀ x, F x → gany C r ops (GPost C Q) (n + 1) (sg ((t, g2 x) :: l) (m2 x) (ga x) df)) : gany C r ops (GPost C Q) n (sg l m A df) :=
  gany_go tab ho hwt hct fun K hK => effN_calln2 spec hent (gwant_plain rfl) hg ha hcv hc (pairs_mk n1 n2 n3 hp1 hp2) hdis (fun x _ => pairsB_mk (hk x) (hs x)) ht fun x hx => by rw [hgr, hps]; show K (⟨upd (mkFr l) t (g2 x), putsH (mkHp m) (ps x), ga x, df⟩ : Sg E); rw [putsH_mk, hm2]; exact hK _ (k x hx)
theorem donw {X : Type} (n : Nat) (tab : List Nat) (L : List (Nat × Nat)) (J : List Nat) (ks : List Nat) (ad : Option (Nat × Ob)) {b' : Bool} {i' : Nat} {cc : Call} {gargs : List G} {mc : List (Nat × Ob)} {F : X → Prop} {gv g2 : X → G} {mr m2 ps : X → List (Nat × Ob)} {ga : X → E.α} (spec : Gh.Spec E f gargs (mkHp mc) A fun y => ∃ x, F x ∧ y = .ok (gv x) (mkHp (mr x)) (ga x)) (hent : Enters Try.prog f) (ho : ops[n]? = some ⟨some t, .call cc, ty, pos, af, some (j, b)⟩ := by rfl) (hwt : waitsB tab ops.toList 0 = true := by kernel_rfl) (hct : cutB tab n 1 ops.size = true := by kernel_rfl) (hj : (ops[j]?).bind (·.dst) = some i' := by rfl) (hx : mkFr l i' = .p (.bool b') := by (simp only [mkFr_cons, Nat.reduceEqDiff, reduceIte] <;> rfl)) (hb : (b' == b) = true := by rfl) (hg : gcallee Try.prog (mkFr l) cc = some (f, gs) := by (simp only [gcallee, gev, mkFr_cons, Nat.reduceEqDiff, reduceIte, List.map_cons, List.map_nil, List.cons_append, List.nil_append, List.append_nil, toP, toPs, toPs_p, ofV, rhp, mkHp_cons, mkHp_nil, List.mem_cons, List.not_mem_nil, or_false, and_true, true_and] <;> rfl))
    (ha : AdoptOk C.lim (mkHp m) L ad := by (first | exact True.intro | (refine ⟨by (simp only [mkHp_cons, mkHp_nil, Nat.reduceEqDiff, reduceIte]), by omega, ⟨_, _, _, rfl⟩, by simp⟩))) (hcv : cvtsM (rhp (mkHp m) J) (ad.map (·.1)) ks gs = some (c, G.rens (Gh.look L) gargs) := by (simp only [cvtsM, cvtM, Option.map_some, Option.map_none, G.rens, G.ren, rens_p, Gh.look, Nat.reduceAdd, Nat.zero_add, List.take_succ_cons, List.take_zero, List.drop_succ_cons, List.drop_zero, gev, mkFr_cons, Nat.reduceEqDiff, reduceIte, List.map_cons, List.map_nil, List.cons_append, List.nil_append, List.append_nil, toP, toPs, toPs_p, ofV, rhp, mkHp_cons, mkHp_nil, List.mem_cons, List.not_mem_nil, or_false, and_true, true_and] <;> rfl)) (hc : c := by simp)
    (n1 : (L.map (·.1)).Nodup := by decide) (n2 : (L.map (·.2)).Nodup := by decide) (n3 : (mc.map (·.1)).Nodup := by simp) (hp1 : pairsP L (adoptH (mkHp m) ad) mc := by (simp only [pairsP, adoptH, Gh.look, Ob.ren, G.rens, G.ren, rens_p, upd, mkHp_cons, mkHp_nil, Nat.reduceEqDiff, reduceIte] <;> simp)) (hp2 : newP C.lim (adoptH (mkHp m) ad) mc L := by (simp [newP, adoptH, upd, mkHp_cons, mkHp_nil] <;> omega))
    (hdis : ∀ d ob, ad = some (d, ob) → d ∉ J := by (intro d ob e; simp at e <;> simp [← e.1])) (hk : ∀ x, keysP L (mr x) := by (intro x; simp [keysP, Gh.look])) (hs : ∀ x, stayP (mr x) mc := by (intro x; simp [stayP, mkHp_cons, mkHp_nil])) (ht : t < C.N := by omega) (hgr : ∀ x, (gv x).ren (Gh.look L) = g2 x := by (intro x; simp only [G.ren, G.rens, Gh.look, Nat.reduceEqDiff, reduceIte] <;> rfl)) (hps : ∀ x, putsOf L (mkHp (mr x)) = ps x := by (intro x; simp only [putsOf, List.map_cons, List.map_nil, mkHp_cons, mkHp_nil, Nat.reduceEqDiff, reduceIte, Ob.ren, G.ren, G.rens, rens_p, Gh.look] <;> rfl))
    (hm2 : ∀ x, (ps x).reverse ++ m = m2 x := by (intro x; simp only [List.reverse_cons, List.reverse_nil, List.nil_append, List.cons_append] <;> rfl)) (k : ∀ x, F x → gany C r ops (GPost C Q) (n + 1) (sg ((t, g2 x) :: l) (m2 x) (ga x) df)) : gany C r ops (GPost C Q) n (sg l m A df) :=
  gany_go tab ho hwt hct fun K hK => effN_calln2 spec hent ((gwant_at rfl hj hx).trans (by rw [hb])) hg ha hcv hc (pairs_mk n1 n2 n3 hp1 hp2) hdis (fun x _ => pairsB_mk (hk x) (hs x)) ht fun x hx => by rw [hgr, hps]; show K (⟨upd (mkFr l) t (g2 x), putsH (mkHp m) (ps x), ga x, df⟩ : Sg E); rw [putsH_mk, hm2]; exact hK _ (k x hx)
theorem dst {n : Nat} (h : segK C r ops (GPost C Q) n (sg l m A df : Sg E) [] (sg l m A df)) : gany C r ops (GPost C Q) n (sg l m A df) := segK.start h
theorem dy0 (n : Nat) (tab : List Nat) {cl : Call} {gs : List G} {xs : List P} {x : Operand} (ho : ops[n]? = some ⟨some t, .call cl, ty, pos, af, none⟩ := by rfl) (hwt : waitsB tab ops.toList 0 = true := by kernel_rfl) (hct : cutB tab n 1 ops.size = true := by kernel_rfl) (hx : cl.callee = .value x := by rfl) (hy : gev (mkFr l) x = .abs := by (simp only [gev, mkFr_cons, Nat.reduceEqDiff, reduceIte] <;> rfl)) (hgs : cl.args.toList.map (gev (mkFr l)) = gs := by (simp only [gev, mkFr_cons, Nat.reduceEqDiff, reduceIte, List.map_cons, List.map_nil, List.cons_append, List.nil_append, List.append_nil, toP, toPs, toPs_p, ofV, rhp, mkHp_cons, mkHp_nil, List.mem_cons, List.not_mem_nil, or_false, and_true, true_and] <;> rfl))
    (hJ : G.idls gs = J := by (simp only [opIds, Op.operands, gev, mkFr_cons, Nat.reduceEqDiff, reduceIte, List.flatMap_cons, List.flatMap_nil, List.map_cons, List.map_nil, G.idl, G.idls, idls_p, List.append_nil, List.nil_append, List.cons_append, ofV, Call.operands, List.append_toArray, Array.toList_append, Option.toArray_none, Option.toArray_some] <;> rfl)) (hcv : cvts (rhp (mkHp m) J) gs = (c, xs.map .p) := by (simp only [cvts, cvt, gev, mkFr_cons, Nat.reduceEqDiff, reduceIte, List.map_cons, List.map_nil, List.cons_append, List.nil_append, List.append_nil, toP, toPs, toPs_p, ofV, rhp, mkHp_cons, mkHp_nil, List.mem_cons, List.not_mem_nil, or_false, and_true, true_and] <;> rfl)) (hcan : E.Can A xs) (hc : c := by simp) (ht : t < C.N := by omega)
    (k : ∀ b A', E.Y A xs (.b b) A' → gany C r ops (GPost C Q) (n + 1) (sg ((t, .p (.bool b)) :: l) m A' df)) (kp : ∀ p A', E.Y A xs (.p p) A' → Q (.panic p) (sg l m A' df)) : gany C r ops (GPost C Q) n (sg l m A df) :=
  gany_go tab ho hwt hct fun K hK => effN_yield2 hx (gwant_plain rfl) hy hgs hcv hc hcan ht (fun b A' h => hK _ (k b A' h)) kp
theorem dyw (n : Nat) (tab : List Nat) {cl : Call} {gs : List G} {xs : List P} {x : Operand} {b' : Bool} {i' : Nat} (ho : ops[n]? = some ⟨some t, .call cl, ty, pos, af, some (j, b)⟩ := by rfl) (hwt : waitsB tab ops.toList 0 = true := by kernel_rfl) (hct : cutB tab n 1 ops.size = true := by kernel_rfl) (hx : cl.callee = .value x := by rfl) (hj : (ops[j]?).bind (·.dst) = some i' := by rfl) (hx2 : mkFr l i' = .p (.bool b') := by (simp only [mkFr_cons, Nat.reduceEqDiff, reduceIte] <;> rfl)) (hb : (b' == b) = true := by rfl) (hy : gev (mkFr l) x = .abs := by (simp only [gev, mkFr_cons, Nat.reduceEqDiff, reduceIte] <;> rfl)) (hgs : cl.args.toList.map (gev (mkFr l)) = gs := by (simp only [gev, mkFr_cons, Nat.reduceEqDiff, reduceIte, List.map_cons, List.map_nil, List.cons_append, List.nil_append, List.append_nil, toP, toPs, toPs_p, ofV, rhp, mkHp_cons, mkHp_nil, List.mem_cons, List.not_mem_nil, or_false, and_true, true_and] <;> rfl))
    (hJ : G.idls gs = J := by (simp only [opIds, Op.operands, gev, mkFr_cons, Nat.reduceEqDiff, reduceIte, List.flatMap_cons, List.flatMap_nil, List.map_cons, List.map_nil, G.idl, G.idls, idls_p, List.append_nil, List.nil_append, List.cons_append, ofV, Call.operands, List.append_toArray, Array.toList_append, Option.toArray_none, Option.toArray_some] <;> rfl)) (hcv : cvts (rhp (mkHp m) J) gs = (c, xs.map .p) := by (simp only [cvts, cvt, gev, mkFr_cons, Nat.reduceEqDiff, reduceIte, List.map_cons, List.map_nil, List.cons_append, List.nil_append, List.append_nil, toP, toPs, toPs_p, ofV, rhp, mkHp_cons, mkHp_nil, List.mem_cons, List.not_mem_nil, or_false, and_true, true_and] <;> rfl)) (hcan : E.Can A xs) (hc : c := by simp) (ht : t < C.N := by omega)
    (k : ∀ b A', E.Y A xs (.b b) A' → gany C r ops (GPost C Q) (n + 1) (sg ((t, .p (.bool b)) :: l) m A' df)) (kp : ∀ p A', E.Y A xs (.p p) A' → Q (.panic p) (sg l m A' df)) : gany C r ops (GPost C Q) n (sg l m A df) :=
  gany_go tab ho hwt hct fun K hK => effN_yield2 hx ((gwant_at rfl hj hx2).trans (by rw [hb])) hy hgs hcv hc hcan ht (fun b A' h => hK _ (k b A' h)) kp
theorem op0 (L : List (Nat × Nat)) (J : List Nat) (ks : List Nat) (ad : Option (Nat × Ob)) {cc : Call} {gargs : List G} {mc mr m2 ps : List (Nat × Ob)} {v : P} (spec : Gh.Spec E f gargs (mkHp mc) A fun y => y = .panic v (mkHp mr) A) (hent : Enters Try.prog f) (hg : gcallee Try.prog (mkFr l) cc = some (f, gs) := by (simp only [gcallee, gev, mkFr_cons, Nat.reduceEqDiff, reduceIte, List.map_cons, List.map_nil, List.cons_append, List.nil_append, List.append_nil, toP, toPs, toPs_p, ofV, rhp, mkHp_cons, mkHp_nil, List.mem_cons, List.not_mem_nil, or_false, and_true, true_and] <;> rfl))
    (ha : AdoptOk C.lim (mkHp m) L ad := by (first | exact True.intro | (refine ⟨by (simp only [mkHp_cons, mkHp_nil, Nat.reduceEqDiff, reduceIte]), by omega, ⟨_, _, _, rfl⟩, by simp⟩))) (hcv : cvtsM (rhp (mkHp m) J) (ad.map (·.1)) ks gs = some (c, G.rens (Gh.look L) gargs) := by (simp only [cvtsM, cvtM, Option.map_some, Option.map_none, G.rens, G.ren, rens_p, Gh.look, Nat.reduceAdd, Nat.zero_add, List.take_succ_cons, List.take_zero, List.drop_succ_cons, List.drop_zero, gev, mkFr_cons, Nat.reduceEqDiff, reduceIte, List.map_cons, List.map_nil, List.cons_append, List.nil_append, List.append_nil, toP, toPs, toPs_p, ofV, rhp, mkHp_cons, mkHp_nil, List.mem_cons, List.not_mem_nil, or_false, and_true, true_and] <;> rfl)) (hc : c := by simp)
    (n1 : (L.map (·.1)).Nodup := by decide) (n2 : (L.map (·.2)).Nodup := by decide) (n3 : (mc.map (·.1)).Nodup := by simp) (hp1 : pairsP L (adoptH (mkHp m) ad) mc := by (simp only [pairsP, adoptH, Gh.look, Ob.ren, G.rens, G.ren, rens_p, upd, mkHp_cons, mkHp_nil, Nat.reduceEqDiff, reduceIte] <;> simp)) (hp2 : newP C.lim (adoptH (mkHp m) ad) mc L := by (simp [newP, adoptH, upd, mkHp_cons, mkHp_nil] <;> omega))
    (hdis : ∀ d ob, ad = some (d, ob) → d ∉ J := by (intro d ob e; simp at e <;> simp [← e.1])) (hk : keysP L mr := by simp [keysP, Gh.look]) (hs : stayP mr mc := by simp [stayP, mkHp_cons, mkHp_nil]) (ht : t < C.N := by omega) (hps : putsOf L (mkHp mr) = ps := by (simp only [putsOf, List.map_cons, List.map_nil, mkHp_cons, mkHp_nil, Nat.reduceEqDiff, reduceIte, Ob.ren, G.ren, G.rens, rens_p, Gh.look] <;> rfl))
    (hm2 : ps.reverse ++ m = m2 := by (simp only [List.reverse_cons, List.reverse_nil, List.nil_append, List.cons_append] <;> rfl)) (k : Q (.panic v) (sg l m2 A df)) : gops C r ops Q (⟨some t, .call cc, ty, pos, af, none⟩ :: rest) (sg l m A df) :=
  go_callp spec hent (gwant_plain rfl) hg ha hcv hc (pairs_mk n1 n2 n3 hp1 hp2) hdis (pairsB_mk hk hs) ht (by rw [hps]; show Q (.panic v) (⟨mkFr l, putsH (mkHp m) ps, A, df⟩ : Sg E); rw [putsH_mk, hm2]; exact k)
theorem opw (L : List (Nat × Nat)) (J : List Nat) (ks : List Nat) (ad : Option (Nat × Ob)) {b' : Bool} {i' : Nat} {cc : Call} {gargs : List G} {mc mr m2 ps : List (Nat × Ob)} {v : P} (spec : Gh.Spec E f gargs (mkHp mc) A fun y => y = .panic v (mkHp mr) A) (hent : Enters Try.prog f) (hj : (ops[j]?).bind (·.dst) = some i' := by rfl) (hx : mkFr l i' = .p (.bool b') := by (simp only [mkFr_cons, Nat.reduceEqDiff, reduceIte] <;> rfl)) (hb : (b' == b) = true := by rfl) (hg : gcallee Try.prog (mkFr l) cc = some (f, gs) := by (simp only [gcallee, gev, mkFr_cons, Nat.reduceEqDiff, reduceIte, List.map_cons, List.map_nil, List.cons_append, List.nil_append, List.append_nil, toP, toPs, toPs_p, ofV, rhp, mkHp_cons, mkHp_nil, List.mem_cons, List.not_mem_nil, or_false, and_true, true_and] <;> rfl))
    (ha : AdoptOk C.lim (mkHp m) L ad := by (first | exact True.intro | (refine ⟨by (simp only [mkHp_cons, mkHp_nil, Nat.reduceEqDiff, reduceIte]), by omega, ⟨_, _, _, rfl⟩, by simp⟩))) (hcv : cvtsM (rhp (mkHp m) J) (ad.map (·.1)) ks gs = some (c, G.rens (Gh.look L) gargs) := by (simp only [cvtsM, cvtM, Option.map_some, Option.map_none, G.rens, G.ren, rens_p, Gh.look, Nat.reduceAdd, Nat.zero_add, List.take_succ_cons, List.take_zero, List.drop_succ_cons, List.drop_zero, gev, mkFr_cons, Nat.reduceEqDiff, reduceIte, List.map_cons, List.map_nil, List.cons_append, List.nil_append, List.append_nil, toP, toPs, toPs_p, ofV, rhp, mkHp_cons, mkHp_nil, List.mem_cons, List.not_mem_nil, or_false, and_true, true_and] <;> rfl)) (hc : c := by simp)
    (n1 : (L.map (·.1)).Nodup := by decide) (n2 : (L.map (·.2)).Nodup := by decide) (n3 : (mc.map (·.1)).Nodup := by simp) (hp1 : pairsP L (adoptH (mkHp m) ad) mc := by (simp only [pairsP, adoptH, Gh.look, Ob.ren, G.rens, G.ren, rens_p, upd, mkHp_cons, mkHp_nil, Nat.reduceEqDiff, reduceIte] <;> simp)) (hp2 : newP C.lim (adoptH (mkHp m) ad) mc L := by (simp [newP, adoptH, upd, mkHp_cons, mkHp_nil] <;> omega))
    (hdis : ∀ d ob, ad = some (d, ob) → d ∉ J := by (intro d ob e; simp at e <;> simp [← e.1])) (hk : keysP L mr := by simp [keysP, Gh.look]) (hs : stayP mr mc := by simp [stayP, mkHp_cons, mkHp_nil]) (ht : t < C.N := by omega) (hps : putsOf L (mkHp mr) = ps := by (simp only [putsOf, List.map_cons, List.map_nil, mkHp_cons, mkHp_nil, Nat.reduceEqDiff, reduceIte, Ob.ren, G.ren, G.rens, rens_p, Gh.look] <;> rfl))
    (hm2 : ps.reverse ++ m = m2 := by (simp only [List.reverse_cons, List.reverse_nil, List.nil_append, List.cons_append] <;> rfl)) (k : Q (.panic v) (sg l m2 A df)) : gops C r ops Q (⟨some t, .call cc, ty, pos, af, some (j, b)⟩ :: rest) (sg l m A df) :=
  go_callp spec hent ((gwant_at rfl hj hx).trans (by rw [hb])) hg ha hcv hc (pairs_mk n1 n2 n3 hp1 hp2) hdis (pairsB_mk hk hs) ht (by rw [hps]; show Q (.panic v) (⟨mkFr l, putsH (mkHp m) ps, A, df⟩ : Sg E); rw [putsH_mk, hm2]; exact k)
end
theorem fh (I : List Nat) {fn : Func} {R : GRes E → Prop} {d : Prop} {m' : List (Nat × Ob)} {x1 : ResultVar} (hrs : fn.results.toList = [x1] := by rfl) (hg : gresult Try.prog (mkHp m) (mkFr l) [x1] = some (d, g) := by (simp only [gresult, gresL, gres1, tup_nil, tup_one, tup_two, gsem, gev, ofV, mkFr_cons, mkFr_nil, mkHp_cons, mkHp_nil, upd, yes, lift, gbinAt, gnilEq, gbin, gint, gshift, arith, gpick, gload, gstore, splice, gbox, gfill, placesL, gbuildSlice, gfieldAddr, gfield, gelem, gindexAddr, gindex, gbound, gslice, glen, gsource, gappend, gmin, gminL, gmax, gmaxL, mapGet, mapPut, zeroG, orZero, glookup, gmapUpdate, gconvert, gtypeAssert, gextract, isConst, gnilCheck, gunOp, gmakeSlice, intOf, mkAgg, mkFn, mkIface, mkTuple, allP, G.cells, good, goods, allOne, G.one, P.one, allP_p, allOne_p, goods_p, toPs_p, all_int, take_all, isAggD, isIfaceD, toP, toPs, P.size, P.cells, List.map_cons, List.map_nil, List.take_succ_cons, List.take_zero, List.drop_succ_cons, List.drop_zero, List.take_nil, List.drop_nil, List.cons_append, List.nil_append, List.append_nil, List.length_cons, List.length_nil, List.getElem?_cons_zero, List.getElem?_cons_succ, List.getElem?_nil, List.set_cons_zero, List.set_cons_succ, List.flatMap_cons, List.flatMap_nil, List.getElem?_toArray, List.getElem?_map, List.length_map, Option.map_some, Option.map_none, Nat.mul_one, List.length_set, set_map_p, set_map_int, Nat.reduceEqDiff, Nat.reduceAdd, Nat.reduceMul, Nat.reduceSub, Nat.reduceLeDiff, Nat.add_zero, Nat.zero_add, Int.toNat_natCast, Int.reduceToNat, reduceIte, reduceCtorEq, eq_self, if_true, if_false, and_true, true_and, true_or, or_true, or_false, false_or, Bool.false_eq_true, ne_eq, not_true_eq_false, not_false_eq_true, cond_true, cond_false, Bool.and_true, Bool.true_and, Bool.and_false, Bool.false_and, Bool.or_true, Bool.true_or, Bool.or_false, Bool.false_or, Bool.not_true, Bool.not_false, ti_3, ti_4, ti_5, ti_9, ti_20, ti_22, ti_24, ti_25, ti_27, ti_30, ti_40, ti_43, ti_48, ti_50, ti_51, ti_55, ti_57, ti_61, ti_66, ti_67, ti_71, ti_72, ti_74, ti_75, ti_76, ti_77, ti_78, ti_80, ti_81, ti_84, ti_91, ti_92, ti_93, ti_95, ti_97, ti_99, ti_105, ti_109, ti_111, ti_115, ti_118, ti_120] <;> rfl)) (hd : d := by simp)
    (hm : restrictL I m = m' := by (simp only [frIds, dfIds, gdIdl, obIdl, hpIds, restrictL, dedupL, pickL, subB, G.idl, G.idls, idls_p, List.nil_append, List.append_nil, List.cons_append, mkHp_cons, mkHp_nil, Nat.reduceEqDiff, reduceIte, List.mem_cons, List.not_mem_nil, or_false, or_true, true_or, false_or, List.filter_cons, List.filter_nil, ne_eq, not_true_eq_false, not_false_eq_true, decide_true, decide_false, Bool.false_eq_true, List.all_cons, List.all_nil, Bool.and_true] <;> rfl)) (h1 : subB g.idl I = true := by (simp only [frIds, dfIds, gdIdl, obIdl, hpIds, restrictL, dedupL, pickL, subB, G.idl, G.idls, idls_p, List.nil_append, List.append_nil, List.cons_append, mkHp_cons, mkHp_nil, Nat.reduceEqDiff, reduceIte, List.mem_cons, List.not_mem_nil, or_false, or_true, true_or, false_or, List.filter_cons, List.filter_nil, ne_eq, not_true_eq_false, not_false_eq_true, decide_true, decide_false, Bool.false_eq_true, List.all_cons, List.all_nil, Bool.and_true] <;> rfl)) (h3 : subB (hpIds m I) I = true := by (simp only [frIds, dfIds, gdIdl, obIdl, hpIds, restrictL, dedupL, pickL, subB, G.idl, G.idls, idls_p, List.nil_append, List.append_nil, List.cons_append, mkHp_cons, mkHp_nil, Nat.reduceEqDiff, reduceIte, List.mem_cons, List.not_mem_nil, or_false, or_true, true_or, false_or, List.filter_cons, List.filter_nil, ne_eq, not_true_eq_false, not_false_eq_true, decide_true, decide_false, Bool.false_eq_true, List.all_cons, List.all_nil, Bool.and_true] <;> rfl)) (hne : ∀ i ∈ I, mkHp m i ≠ .none := by simp [mkHp_cons, mkHp_nil]) (hR : R (.ok g (mkHp m') A)) : Fin Try.prog fn R (sg l m A []) :=
  fin_h (by rw [hrs]; exact hg) hd hm h1 h3 hne hR
theorem fh2 (I : List Nat) {fn : Func} {R : GRes E → Prop} {d : Prop} {m' : List (Nat × Ob)} {x1 x2 : ResultVar} (hrs : fn.results.toList = [x1, x2] := by rfl) (hg : gresult Try.prog (mkHp m) (mkFr l) [x1, x2] = some (d, g) := by (simp only [gresult, gresL, gres1, tup_nil, tup_one, tup_two, gsem, gev, ofV, mkFr_cons, mkFr_nil, mkHp_cons, mkHp_nil, upd, yes, lift, gbinAt, gnilEq, gbin, gint, gshift, arith, gpick, gload, gstore, splice, gbox, gfill, placesL, gbuildSlice, gfieldAddr, gfield, gelem, gindexAddr, gindex, gbound, gslice, glen, gsource, gappend, gmin, gminL, gmax, gmaxL, mapGet, mapPut, zeroG, orZero, glookup, gmapUpdate, gconvert, gtypeAssert, gextract, isConst, gnilCheck, gunOp, gmakeSlice, intOf, mkAgg, mkFn, mkIface, mkTuple, allP, G.cells, good, goods, allOne, G.one, P.one, allP_p, allOne_p, goods_p, toPs_p, all_int, take_all, isAggD, isIfaceD, toP, toPs, P.size, P.cells, List.map_cons, List.map_nil, List.take_succ_cons, List.take_zero, List.drop_succ_cons, List.drop_zero, List.take_nil, List.drop_nil, List.cons_append, List.nil_append, List.append_nil, List.length_cons, List.length_nil, List.getElem?_cons_zero, List.getElem?_cons_succ, List.getElem?_nil, List.set_cons_zero, List.set_cons_succ, List.flatMap_cons, List.flatMap_nil, List.getElem?_toArray, List.getElem?_map, List.length_map, Option.map_some, Option.map_none, Nat.mul_one, List.length_set, set_map_p, set_map_int, Nat.reduceEqDiff, Nat.reduceAdd, Nat.reduceMul, Nat.reduceSub, Nat.reduceLeDiff, Nat.add_zero, Nat.zero_add, Int.toNat_natCast, Int.reduceToNat, reduceIte, reduceCtorEq, eq_self, if_true, if_false, and_true, true_and, true_or, or_true, or_false, false_or, Bool.false_eq_true, ne_eq, not_true_eq_false, not_false_eq_true, cond_true, cond_false, Bool.and_true, Bool.true_and, Bool.and_false, Bool.false_and, Bool.or_true, Bool.true_or, Bool.or_false, Bool.false_or, Bool.not_true, Bool.not_false, ti_3, ti_4, ti_5, ti_9, ti_20, ti_22, ti_24, ti_25, ti_27, ti_30, ti_40, ti_43, ti_48, ti_50, ti_51, ti_55, ti_57, ti_61, ti_66, ti_67, ti_71, ti_72, ti_74, ti_75, ti_76, ti_77, ti_78, ti_80, ti_81, ti_84, ti_91, ti_92, ti_93, ti_95, ti_97, ti_99, ti_105, ti_109, ti_111, ti_115, ti_118, ti_120] <;> rfl)) (hd : d := by simp)
    (hm : restrictL I m = m' := by (simp only [frIds, dfIds, gdIdl, obIdl, hpIds, restrictL, dedupL, pickL, subB, G.idl, G.idls, idls_p, List.nil_append, List.append_nil, List.cons_append, mkHp_cons, mkHp_nil, Nat.reduceEqDiff, reduceIte, List.mem_cons, List.not_mem_nil, or_false, or_true, true_or, false_or, List.filter_cons, List.filter_nil, ne_eq, not_true_eq_false, not_false_eq_true, decide_true, decide_false, Bool.false_eq_true, List.all_cons, List.all_nil, Bool.and_true] <;> rfl)) (h1 : subB g.idl I = true := by (simp only [frIds, dfIds, gdIdl, obIdl, hpIds, restrictL, dedupL, pickL, subB, G.idl, G.idls, idls_p, List.nil_append, List.append_nil, List.cons_append, mkHp_cons, mkHp_nil, Nat.reduceEqDiff, reduceIte, List.mem_cons, List.not_mem_nil, or_false, or_true, true_or, false_or, List.filter_cons, List.filter_nil, ne_eq, not_true_eq_false, not_false_eq_true, decide_true, decide_false, Bool.false_eq_true, List.all_cons, List.all_nil, Bool.and_true] <;> rfl)) (h3 : subB (hpIds m I) I = true := by (simp only [frIds, dfIds, gdIdl, obIdl, hpIds, restrictL, dedupL, pickL, subB, G.idl, G.idls, idls_p, List.nil_append, List.append_nil, List.cons_append, mkHp_cons, mkHp_nil, Nat.reduceEqDiff, reduceIte, List.mem_cons, List.not_mem_nil, or_false, or_true, true_or, false_or, List.filter_cons, List.filter_nil, ne_eq, not_true_eq_false, not_false_eq_true, decide_true, decide_false, Bool.false_eq_true, List.all_cons, List.all_nil, Bool.and_true] <;> rfl)) (hne : ∀ i ∈ I, mkHp m i ≠ .none := by simp [mkHp_cons, mkHp_nil]) (hR : R (.ok g (mkHp m') A)) : Fin Try.prog fn R (sg l m A []) :=
  fin_h (by rw [hrs]; exact hg) hd hm h1 h3 hne hR
theorem fh0 (I : List Nat) {fn : Func} {R : GRes E → Prop} {d : Prop} {m' : List (Nat × Ob)}  (hrs : fn.results.toList = [] := by rfl) (hg : gresult Try.prog (mkHp m) (mkFr l) [] = some (d, g) := by (simp only [gresult, gresL, gres1, tup_nil, tup_one, tup_two, gsem, gev, ofV, mkFr_cons, mkFr_nil, mkHp_cons, mkHp_nil, upd, yes, lift, gbinAt, gnilEq, gbin, gint, gshift, arith, gpick, gload, gstore, splice, gbox, gfill, placesL, gbuildSlice, gfieldAddr, gfield, gelem, gindexAddr, gindex, gbound, gslice, glen, gsource, gappend, gmin, gminL, gmax, gmaxL, mapGet, mapPut, zeroG, orZero, glookup, gmapUpdate, gconvert, gtypeAssert, gextract, isConst, gnilCheck, gunOp, gmakeSlice, intOf, mkAgg, mkFn, mkIface, mkTuple, allP, G.cells, good, goods, allOne, G.one, P.one, allP_p, allOne_p, goods_p, toPs_p, all_int, take_all, isAggD, isIfaceD, toP, toPs, P.size, P.cells, List.map_cons, List.map_nil, List.take_succ_cons, List.take_zero, List.drop_succ_cons, List.drop_zero, List.take_nil, List.drop_nil, List.cons_append, List.nil_append, List.append_nil, List.length_cons, List.length_nil, List.getElem?_cons_zero, List.getElem?_cons_succ, List.getElem?_nil, List.set_cons_zero, List.set_cons_succ, List.flatMap_cons, List.flatMap_nil, List.getElem?_toArray, List.getElem?_map, List.length_map, Option.map_some, Option.map_none, Nat.mul_one, List.length_set, set_map_p, set_map_int, Nat.reduceEqDiff, Nat.reduceAdd, Nat.reduceMul, Nat.reduceSub, Nat.reduceLeDiff, Nat.add_zero, Nat.zero_add, Int.toNat_natCast, Int.reduceToNat, reduceIte, reduceCtorEq, eq_self, if_true, if_false, and_true, true_and, true_or, or_true, or_false, false_or, Bool.false_eq_true, ne_eq, not_true_eq_false, not_false_eq_true, cond_true, cond_false, Bool.and_true, Bool.true_and, Bool.and_false, Bool.false_and, Bool.or_true, Bool.true_or, Bool.or_false, Bool.false_or, Bool.not_true, Bool.not_false, ti_3, ti_4, ti_5, ti_9, ti_20, ti_22, ti_24, ti_25, ti_27, ti_30, ti_40, ti_43, ti_48, ti_50, ti_51, ti_55, ti_57, ti_61, ti_66, ti_67, ti_71, ti_72, ti_74, ti_75, ti_76, ti_77, ti_78, ti_80, ti_81, ti_84, ti_91, ti_92, ti_93, ti_95, ti_97, ti_99, ti_105, ti_109, ti_111, ti_115, ti_118, ti_120] <;> rfl)) (hd : d := by simp)
    (hm : restrictL I m = m' := by (simp only [frIds, dfIds, gdIdl, obIdl, hpIds, restrictL, dedupL, pickL, subB, G.idl, G.idls, idls_p, List.nil_append, List.append_nil, List.cons_append, mkHp_cons, mkHp_nil, Nat.reduceEqDiff, reduceIte, List.mem_cons, List.not_mem_nil, or_false, or_true, true_or, false_or, List.filter_cons, List.filter_nil, ne_eq, not_true_eq_false, not_false_eq_true, decide_true, decide_false, Bool.false_eq_true, List.all_cons, List.all_nil, Bool.and_true] <;> rfl)) (h1 : subB g.idl I = true := by (simp only [frIds, dfIds, gdIdl, obIdl, hpIds, restrictL, dedupL, pickL, subB, G.idl, G.idls, idls_p, List.nil_append, List.append_nil, List.cons_append, mkHp_cons, mkHp_nil, Nat.reduceEqDiff, reduceIte, List.mem_cons, List.not_mem_nil, or_false, or_true, true_or, false_or, List.filter_cons, List.filter_nil, ne_eq, not_true_eq_false, not_false_eq_true, decide_true, decide_false, Bool.false_eq_true, List.all_cons, List.all_nil, Bool.and_true] <;> rfl)) (h3 : subB (hpIds m I) I = true := by (simp only [frIds, dfIds, gdIdl, obIdl, hpIds, restrictL, dedupL, pickL, subB, G.idl, G.idls, idls_p, List.nil_append, List.append_nil, List.cons_append, mkHp_cons, mkHp_nil, Nat.reduceEqDiff, reduceIte, List.mem_cons, List.not_mem_nil, or_false, or_true, true_or, false_or, List.filter_cons, List.filter_nil, ne_eq, not_true_eq_false, not_false_eq_true, decide_true, decide_false, Bool.false_eq_true, List.all_cons, List.all_nil, Bool.and_true] <;> rfl)) (hne : ∀ i ∈ I, mkHp m i ≠ .none := by simp [mkHp_cons, mkHp_nil]) (hR : R (.ok g (mkHp m') A)) : Fin Try.prog fn R (sg l m A []) :=
  fin_h (by rw [hrs]; exact hg) hd hm h1 h3 hne hR
/-! The end -/
theorem fp {fn : Func} {R : GRes E → Prop} {d d' : Prop} {v : P} {x1 : ResultVar} (hrs : fn.results.toList = [x1] := by rfl) (hg : gresult Try.prog (mkHp m) (mkFr l) [x1] = some (d, g) := by (simp only [gresult, gresL, gres1, tup_nil, tup_one, tup_two, gsem, gev, ofV, mkFr_cons, mkFr_nil, mkHp_cons, mkHp_nil, upd, yes, lift, gbinAt, gnilEq, gbin, gint, gshift, arith, gpick, gload, gstore, splice, gbox, gfill, placesL, gbuildSlice, gfieldAddr, gfield, gelem, gindexAddr, gindex, gbound, gslice, glen, gsource, gappend, gmin, gminL, gmax, gmaxL, mapGet, mapPut, zeroG, orZero, glookup, gmapUpdate, gconvert, gtypeAssert, gextract, isConst, gnilCheck, gunOp, gmakeSlice, intOf, mkAgg, mkFn, mkIface, mkTuple, allP, G.cells, good, goods, allOne, G.one, P.one, allP_p, allOne_p, goods_p, toPs_p, all_int, take_all, isAggD, isIfaceD, toP, toPs, P.size, P.cells, List.map_cons, List.map_nil, List.take_succ_cons, List.take_zero, List.drop_succ_cons, List.drop_zero, List.take_nil, List.drop_nil, List.cons_append, List.nil_append, List.append_nil, List.length_cons, List.length_nil, List.getElem?_cons_zero, List.getElem?_cons_succ, List.getElem?_nil, List.set_cons_zero, List.set_cons_succ, List.flatMap_cons, List.flatMap_nil, List.getElem?_toArray, List.getElem?_map, List.length_map, Option.map_some, Option.map_none, Nat.mul_one, List.length_set, set_map_p, set_map_int, Nat.reduceEqDiff, Nat.reduceAdd, Nat.reduceMul, Nat.reduceSub, Nat.reduceLeDiff, Nat.add_zero, Nat.zero_add, Int.toNat_natCast, Int.reduceToNat, reduceIte, reduceCtorEq, eq_self, if_true, if_false, and_true, true_and, true_or, or_true, or_false, false_or, Bool.false_eq_true, ne_eq, not_true_eq_false, not_false_eq_true, cond_true, cond_false, Bool.and_true, Bool.true_and, Bool.and_false, Bool.false_and, Bool.or_true, Bool.true_or, Bool.or_false, Bool.false_or, Bool.not_true, Bool.not_false, ti_3, ti_4, ti_5, ti_9, ti_20, ti_22, ti_24, ti_25, ti_27, ti_30, ti_40, ti_43, ti_48, ti_50, ti_51, ti_55, ti_57, ti_61, ti_66, ti_67, ti_71, ti_72, ti_74, ti_75, ti_76, ti_77, ti_78, ti_80, ti_81, ti_84, ti_91, ti_92, ti_93, ti_95, ti_97, ti_99, ti_105, ti_109, ti_111, ti_115, ti_118, ti_120] <;> rfl))
    (hp : toP (mkHp m) g = some (d', v) := by (simp only [toP, toPs, mkHp_cons, mkHp_nil, Nat.reduceEqDiff, reduceIte, and_true, true_and] <;> rfl)) (hR : R (.ok (.p v) (mkHp []) A)) (hd : d := by simp) (hd' : d' := by simp) : Fin Try.prog fn R (sg l m A []) := fin_p (by rw [hrs]; exact hg) hd hp hd' hR
theorem fp2 {fn : Func} {R : GRes E → Prop} {d d' : Prop} {v : P} {x1 x2 : ResultVar} (hrs : fn.results.toList = [x1, x2] := by rfl) (hg : gresult Try.prog (mkHp m) (mkFr l) [x1, x2] = some (d, g) := by (simp only [gresult, gresL, gres1, tup_nil, tup_one, tup_two, gsem, gev, ofV, mkFr_cons, mkFr_nil, mkHp_cons, mkHp_nil, upd, yes, lift, gbinAt, gnilEq, gbin, gint, gshift, arith, gpick, gload, gstore, splice, gbox, gfill, placesL, gbuildSlice, gfieldAddr, gfield, gelem, gindexAddr, gindex, gbound, gslice, glen, gsource, gappend, gmin, gminL, gmax, gmaxL, mapGet, mapPut, zeroG, orZero, glookup, gmapUpdate, gconvert, gtypeAssert, gextract, isConst, gnilCheck, gunOp, gmakeSlice, intOf, mkAgg, mkFn, mkIface, mkTuple, allP, G.cells, good, goods, allOne, G.one, P.one, allP_p, allOne_p, goods_p, toPs_p, all_int, take_all, isAggD, isIfaceD, toP, toPs, P.size, P.cells, List.map_cons, List.map_nil, List.take_succ_cons, List.take_zero, List.drop_succ_cons, List.drop_zero, List.take_nil, List.drop_nil, List.cons_append, List.nil_append, List.append_nil, List.length_cons, List.length_nil, List.getElem?_cons_zero, List.getElem?_cons_succ, List.getElem?_nil, List.set_cons_zero, List.set_cons_succ, List.flatMap_cons, List.flatMap_nil, List.getElem?_toArray, List.getElem?_map, List.length_map, Option.map_some, Option.map_none, Nat.mul_one, List.length_set, set_map_p, set_map_int, Nat.reduceEqDiff, Nat.reduceAdd, Nat.reduceMul, Nat.reduceSub, Nat.reduceLeDiff, Nat.add_zero, Nat.zero_add, Int.toNat_natCast, Int.reduceToNat, reduceIte, reduceCtorEq, eq_self, if_true, if_false, and_true, true_and, true_or, or_true, or_false, false_or, Bool.false_eq_true, ne_eq, not_true_eq_false, not_false_eq_true, cond_true, cond_false, Bool.and_true, Bool.true_and, Bool.and_false, Bool.false_and, Bool.or_true, Bool.true_or, Bool.or_false, Bool.false_or, Bool.not_true, Bool.not_false, ti_3, ti_4, ti_5, ti_9, ti_20, ti_22, ti_24, ti_25, ti_27, ti_30, ti_40, ti_43, ti_48, ti_50, ti_51, ti_55, ti_57, ti_61, ti_66, ti_67, ti_71, ti_72, ti_74, ti_75, ti_76, ti_77, ti_78, ti_80, ti_81, ti_84, ti_91, ti_92, ti_93, ti_95, ti_97, ti_99, ti_105, ti_109, ti_111, ti_115, ti_118, ti_120] <;> rfl))
    (hp : toP (mkHp m) g = some (d', v) := by (simp only [toP, toPs, mkHp_cons, mkHp_nil, Nat.reduceEqDiff, reduceIte, and_true, true_and] <;> rfl)) (hR : R (.ok (.p v) (mkHp []) A)) (hd : d := by simp) (hd' : d' := by simp) : Fin Try.prog fn R (sg l m A []) := fin_p (by rw [hrs]; exact hg) hd hp hd' hR
theorem fp0 {fn : Func} {R : GRes E → Prop} {d d' : Prop} {v : P}  (hrs : fn.results.toList = [] := by rfl) (hg : gresult Try.prog (mkHp m) (mkFr l) [] = some (d, g) := by (simp only [gresult, gresL, gres1, tup_nil, tup_one, tup_two, gsem, gev, ofV, mkFr_cons, mkFr_nil, mkHp_cons, mkHp_nil, upd, yes, lift, gbinAt, gnilEq, gbin, gint, gshift, arith, gpick, gload, gstore, splice, gbox, gfill, placesL, gbuildSlice, gfieldAddr, gfield, gelem, gindexAddr, gindex, gbound, gslice, glen, gsource, gappend, gmin, gminL, gmax, gmaxL, mapGet, mapPut, zeroG, orZero, glookup, gmapUpdate, gconvert, gtypeAssert, gextract, isConst, gnilCheck, gunOp, gmakeSlice, intOf, mkAgg, mkFn, mkIface, mkTuple, allP, G.cells, good, goods, allOne, G.one, P.one, allP_p, allOne_p, goods_p, toPs_p, all_int, take_all, isAggD, isIfaceD, toP, toPs, P.size, P.cells, List.map_cons, List.map_nil, List.take_succ_cons, List.take_zero, List.drop_succ_cons, List.drop_zero, List.take_nil, List.drop_nil, List.cons_append, List.nil_append, List.append_nil, List.length_cons, List.length_nil, List.getElem?_cons_zero, List.getElem?_cons_succ, List.getElem?_nil, List.set_cons_zero, List.set_cons_succ, List.flatMap_cons, List.flatMap_nil, List.getElem?_toArray, List.getElem?_map, List.length_map, Option.map_some, Option.map_none, Nat.mul_one, List.length_set, set_map_p, set_map_int, Nat.reduceEqDiff, Nat.reduceAdd, Nat.reduceMul, Nat.reduceSub, Nat.reduceLeDiff, Nat.add_zero, Nat.zero_add, Int.toNat_natCast, Int.reduceToNat, reduceIte, reduceCtorEq, eq_self, if_true, if_false, and_true, true_and, true_or, or_true, or_false, false_or, Bool.false_eq_true, ne_eq, not_true_eq_false, not_false_eq_true, cond_true, cond_false, Bool.and_true, Bool.true_and, Bool.and_false, Bool.false_and, Bool.or_true, Bool.true_or, Bool.or_false, Bool.false_or, Bool.not_true, Bool.not_false, ti_3, ti_4, ti_5, ti_9, ti_20, ti_22, ti_24, ti_25, ti_27, ti_30, ti_40, ti_43, ti_48, ti_50, ti_51, ti_55, ti_57, ti_61, ti_66, ti_67, ti_71, ti_72, ti_74, ti_75, ti_76, ti_77, ti_78, ti_80, ti_81, ti_84, ti_91, ti_92, ti_93, ti_95, ti_97, ti_99, ti_105, ti_109, ti_111, ti_115, ti_118, ti_120] <;> rfl))
    (hp : toP (mkHp m) g = some (d', v) := by (simp only [toP, toPs, mkHp_cons, mkHp_nil, Nat.reduceEqDiff, reduceIte, and_true, true_and] <;> rfl)) (hR : R (.ok (.p v) (mkHp []) A)) (hd : d := by simp) (hd' : d' := by simp) : Fin Try.prog fn R (sg l m A []) := fin_p (by rw [hrs]; exact hg) hd hp hd' hR
theorem lend (vs : List Nat) {m' : List (Nat × Ob)} {n n' : Nat} {IV : Nat → Sg E → Prop} {I : List Nat} (hl : (vs.map fun v => (v, mkFr l v)) = l' := by (simp only [List.map_cons, List.map_nil, mkFr_cons, mkFr_nil, Nat.reduceEqDiff, reduceIte] <;> rfl)) (hI : reach l' m df = I := by (simp only [reach, frIds, dfIds, gdIdl, obIdl, hpIds, restrictL, dedupL, pickL, subB, G.idl, G.idls, idls_p, List.nil_append, List.append_nil, List.cons_append, mkHp_cons, mkHp_nil, Nat.reduceEqDiff, reduceIte, List.mem_cons, List.not_mem_nil, or_false, or_true, true_or, false_or, List.filter_cons, List.filter_nil, ne_eq, not_true_eq_false, not_false_eq_true, decide_true, decide_false, Bool.false_eq_true, List.all_cons, List.all_nil, Bool.and_true] <;> rfl)) (hm : restrictL I m = m' := by (simp only [frIds, dfIds, gdIdl, obIdl, hpIds, restrictL, dedupL, pickL, subB, G.idl, G.idls, idls_p, List.nil_append, List.append_nil, List.cons_append, mkHp_cons, mkHp_nil, Nat.reduceEqDiff, reduceIte, List.mem_cons, List.not_mem_nil, or_false, or_true, true_or, false_or, List.filter_cons, List.filter_nil, ne_eq, not_true_eq_false, not_false_eq_true, decide_true, decide_false, Bool.false_eq_true, List.all_cons, List.all_nil, Bool.and_true] <;> rfl))
    (h1 : subB (frIds l') I = true := by (simp only [frIds, dfIds, gdIdl, obIdl, hpIds, restrictL, dedupL, pickL, subB, G.idl, G.idls, idls_p, List.nil_append, List.append_nil, List.cons_append, mkHp_cons, mkHp_nil, Nat.reduceEqDiff, reduceIte, List.mem_cons, List.not_mem_nil, or_false, or_true, true_or, false_or, List.filter_cons, List.filter_nil, ne_eq, not_true_eq_false, not_false_eq_true, decide_true, decide_false, Bool.false_eq_true, List.all_cons, List.all_nil, Bool.and_true] <;> rfl)) (h2 : subB (dfIds df) I = true := by (simp only [frIds, dfIds, gdIdl, obIdl, hpIds, restrictL, dedupL, pickL, subB, G.idl, G.idls, idls_p, List.nil_append, List.append_nil, List.cons_append, mkHp_cons, mkHp_nil, Nat.reduceEqDiff, reduceIte, List.mem_cons, List.not_mem_nil, or_false, or_true, true_or, false_or, List.filter_cons, List.filter_nil, ne_eq, not_true_eq_false, not_false_eq_true, decide_true, decide_false, Bool.false_eq_true, List.all_cons, List.all_nil, Bool.and_true] <;> rfl)) (h3 : subB (hpIds m I) I = true := by (simp only [frIds, dfIds, gdIdl, obIdl, hpIds, restrictL, dedupL, pickL, subB, G.idl, G.idls, idls_p, List.nil_append, List.append_nil, List.cons_append, mkHp_cons, mkHp_nil, Nat.reduceEqDiff, reduceIte, List.mem_cons, List.not_mem_nil, or_false, or_true, true_or, false_or, List.filter_cons, List.filter_nil, ne_eq, not_true_eq_false, not_false_eq_true, decide_true, decide_false, Bool.false_eq_true, List.all_cons, List.all_nil, Bool.and_true] <;> rfl)) (h : n' < n) (hV : IV n' (sg l' m' A df)) :
    gthen (fun σ' => ∃ n' σ'', n' < n ∧ Le C σ' σ'' ∧ IV n' σ'') Q .normal (sg l m A df : Sg E) := ⟨n', _, h, le_clean2 vs hl hm h1 h2 h3, hV⟩
theorem lbeg (vs : List Nat) {m' : List (Nat × Ob)} {IV : Nat → Sg E → Prop} {I : List Nat} (hl : (vs.map fun v => (v, mkFr l v)) = l' := by (simp only [List.map_cons, List.map_nil, mkFr_cons, mkFr_nil, Nat.reduceEqDiff, reduceIte] <;> rfl)) (hI : reach l' m df = I := by (simp only [reach, frIds, dfIds, gdIdl, obIdl, hpIds, restrictL, dedupL, pickL, subB, G.idl, G.idls, idls_p, List.nil_append, List.append_nil, List.cons_append, mkHp_cons, mkHp_nil, Nat.reduceEqDiff, reduceIte, List.mem_cons, List.not_mem_nil, or_false, or_true, true_or, false_or, List.filter_cons, List.filter_nil, ne_eq, not_true_eq_false, not_false_eq_true, decide_true, decide_false, Bool.false_eq_true, List.all_cons, List.all_nil, Bool.and_true] <;> rfl)) (hm : restrictL I m = m' := by (simp only [frIds, dfIds, gdIdl, obIdl, hpIds, restrictL, dedupL, pickL, subB, G.idl, G.idls, idls_p, List.nil_append, List.append_nil, List.cons_append, mkHp_cons, mkHp_nil, Nat.reduceEqDiff, reduceIte, List.mem_cons, List.not_mem_nil, or_false, or_true, true_or, false_or, List.filter_cons, List.filter_nil, ne_eq, not_true_eq_false, not_false_eq_true, decide_true, decide_false, Bool.false_eq_true, List.all_cons, List.all_nil, Bool.and_true] <;> rfl))
    (h1 : subB (frIds l') I = true := by (simp only [frIds, dfIds, gdIdl, obIdl, hpIds, restrictL, dedupL, pickL, subB, G.idl, G.idls, idls_p, List.nil_append, List.append_nil, List.cons_append, mkHp_cons, mkHp_nil, Nat.reduceEqDiff, reduceIte, List.mem_cons, List.not_mem_nil, or_false, or_true, true_or, false_or, List.filter_cons, List.filter_nil, ne_eq, not_true_eq_false, not_false_eq_true, decide_true, decide_false, Bool.false_eq_true, List.all_cons, List.all_nil, Bool.and_true] <;> rfl)) (h2 : subB (dfIds df) I = true := by (simp only [frIds, dfIds, gdIdl, obIdl, hpIds, restrictL, dedupL, pickL, subB, G.idl, G.idls, idls_p, List.nil_append, List.append_nil, List.cons_append, mkHp_cons, mkHp_nil, Nat.reduceEqDiff, reduceIte, List.mem_cons, List.not_mem_nil, or_false, or_true, true_or, false_or, List.filter_cons, List.filter_nil, ne_eq, not_true_eq_false, not_false_eq_true, decide_true, decide_false, Bool.false_eq_true, List.all_cons, List.all_nil, Bool.and_true] <;> rfl)) (h3 : subB (hpIds m I) I = true := by (simp only [frIds, dfIds, gdIdl, obIdl, hpIds, restrictL, dedupL, pickL, subB, G.idl, G.idls, idls_p, List.nil_append, List.append_nil, List.cons_append, mkHp_cons, mkHp_nil, Nat.reduceEqDiff, reduceIte, List.mem_cons, List.not_mem_nil, or_false, or_true, true_or, false_or, List.filter_cons, List.filter_nil, ne_eq, not_true_eq_false, not_false_eq_true, decide_true, decide_false, Bool.false_eq_true, List.all_cons, List.all_nil, Bool.and_true] <;> rfl)) (hV : ∃ n, IV n (sg l' m' A df)) :
    ∃ n σ'', Le C (sg l m A df : Sg E) σ'' ∧ IV n σ'' := by
  obtain ⟨n, hV⟩ := hV
  exact ⟨n, _, le_clean2 vs hl hm h1 h2 h3, hV⟩
/-! Freezing, reading otherwise -/
theorem fz (id n : Nat) (ss : List Sp) {cs cs1 cs2 : List G} {fz : Nat} (ho : mkHp m id = .cells cs fz := by (simp only [mkHp_cons, mkHp_nil, Nat.reduceEqDiff, reduceIte] <;> rfl)) (hcv : cvSs (mkHp m) ss (cs.take n) = some (c, cs1) := by (simp only [cvS, cvSs, toP, toPs, toPs_p, mkFr_cons, mkFr_nil, mkHp_cons, mkHp_nil, Nat.reduceEqDiff, reduceIte, List.take_succ_cons, List.take_zero, List.drop_succ_cons, List.drop_zero, List.take_nil, List.drop_nil, List.length_cons, List.length_nil, Nat.reduceAdd, Nat.add_zero, Nat.zero_add, List.map_cons, List.map_nil, List.cons_append, List.nil_append, List.append_nil, and_true, true_and] <;> rfl)) (he : cs1 ++ cs.drop n = cs2 := by (simp only [cvS, cvSs, toP, toPs, toPs_p, mkFr_cons, mkFr_nil, mkHp_cons, mkHp_nil, Nat.reduceEqDiff, reduceIte, List.take_succ_cons, List.take_zero, List.drop_succ_cons, List.drop_zero, List.take_nil, List.drop_nil, List.length_cons, List.length_nil, Nat.reduceAdd, Nat.add_zero, Nat.zero_add, List.map_cons, List.map_nil, List.cons_append, List.nil_append, List.append_nil, and_true, true_and] <;> rfl)) (hn : fz ≤ n := by omega) (hn2 : n ≤ cs.length := by simp)
    (hc : c := by simp [allOne, G.one, P.one]) (h1 : allOne cs1 = true := by simp [allOne, G.one, P.one]) (k : gwp C r cd Q (sg l ((id, .cells cs2 n) :: m) A df)) : gwp C r cd Q (sg l m A df) := gc_freeze id n ss ho hcv he hn hn2 hc h1 k
theorem cv (t : Nat) (s : Sp) (hcv : cvS (mkHp m) s (mkFr l t) = some (c, g) := by (simp only [cvS, cvSs, toP, toPs, toPs_p, mkFr_cons, mkFr_nil, mkHp_cons, mkHp_nil, Nat.reduceEqDiff, reduceIte, List.take_succ_cons, List.take_zero, List.drop_succ_cons, List.drop_zero, List.take_nil, List.drop_nil, List.length_cons, List.length_nil, Nat.reduceAdd, Nat.add_zero, Nat.zero_add, List.map_cons, List.map_nil, List.cons_append, List.nil_append, List.append_nil, and_true, true_and] <;> rfl)) (hc : c := by simp [allOne, G.one, P.one]) (k : gwp C r cd Q (sg ((t, g) :: l) m A df)) : gwp C r cd Q (sg l m A df) := gc_conv t s hcv hc k
theorem ofz (id n : Nat) (ss : List Sp) {cs cs1 cs2 : List G} {fz : Nat} (ho : mkHp m id = .cells cs fz := by (simp only [mkHp_cons, mkHp_nil, Nat.reduceEqDiff, reduceIte] <;> rfl)) (hcv : cvSs (mkHp m) ss (cs.take n) = some (c, cs1) := by (simp only [cvS, cvSs, toP, toPs, toPs_p, mkFr_cons, mkFr_nil, mkHp_cons, mkHp_nil, Nat.reduceEqDiff, reduceIte, List.take_succ_cons, List.take_zero, List.drop_succ_cons, List.drop_zero, List.take_nil, List.drop_nil, List.length_cons, List.length_nil, Nat.reduceAdd, Nat.add_zero, Nat.zero_add, List.map_cons, List.map_nil, List.cons_append, List.nil_append, List.append_nil, and_true, true_and] <;> rfl)) (he : cs1 ++ cs.drop n = cs2 := by (simp only [cvS, cvSs, toP, toPs, toPs_p, mkFr_cons, mkFr_nil, mkHp_cons, mkHp_nil, Nat.reduceEqDiff, reduceIte, List.take_succ_cons, List.take_zero, List.drop_succ_cons, List.drop_zero, List.take_nil, List.drop_nil, List.length_cons, List.length_nil, Nat.reduceAdd, Nat.add_zero, Nat.zero_add, List.map_cons, List.map_nil, List.cons_append, List.nil_append, List.append_nil, and_true, true_and] <;> rfl)) (hn : fz ≤ n := by omega) (hn2 : n ≤ cs.length := by simp)
    (hc : c := by simp [allOne, G.one, P.one]) (h1 : allOne cs1 = true := by simp [allOne, G.one, P.one]) (k : gops C r ops Q lst (sg l ((id, .cells cs2 n) :: m) A df)) : gops C r ops Q lst (sg l m A df) := go_freeze id n ss ho hcv he hn hn2 hc h1 k
theorem ocv (t : Nat) (s : Sp) (hcv : cvS (mkHp m) s (mkFr l t) = some (c, g) := by (simp only [cvS, cvSs, toP, toPs, toPs_p, mkFr_cons, mkFr_nil, mkHp_cons, mkHp_nil, Nat.reduceEqDiff, reduceIte, List.take_succ_cons, List.take_zero, List.drop_succ_cons, List.drop_zero, List.take_nil, List.drop_nil, List.length_cons, List.length_nil, Nat.reduceAdd, Nat.add_zero, Nat.zero_add, List.map_cons, List.map_nil, List.cons_append, List.nil_append, List.append_nil, and_true, true_and] <;> rfl)) (hc : c := by simp [allOne, G.one, P.one]) (k : gops C r ops Q lst (sg ((t, g) :: l) m A df)) : gops C r ops Q lst (sg l m A df) := go_conv t s hcv hc k
/-! Deferred calls, yields -/
theorem df0 {cl : Call} {d : GD} (hd : gdefer (mkFr l) cl = some d := by (simp only [gdefer, gev, mkFr_cons, Nat.reduceEqDiff, reduceIte, List.map_cons, List.map_nil, List.cons_append, List.nil_append, List.append_nil, toP, toPs, toPs_p, ofV, rhp, mkHp_cons, mkHp_nil, List.mem_cons, List.not_mem_nil, or_false, and_true, true_and] <;> rfl)) (k : gops C none ops Q rest (sg l m A (d :: df))) : gops C none ops Q (⟨none, .defer cl, ty, pos, af, none⟩ :: rest) (sg l m A df) := go_defer hd k
theorem y0 {cl : Call} {gs : List G} {xs : List P} {x : Operand} (hx : cl.callee = .value x := by rfl) (hy : gev (mkFr l) x = .abs := by (simp only [gev, mkFr_cons, Nat.reduceEqDiff, reduceIte] <;> rfl)) (hgs : cl.args.toList.map (gev (mkFr l)) = gs := by (simp only [gev, mkFr_cons, Nat.reduceEqDiff, reduceIte, List.map_cons, List.map_nil, List.cons_append, List.nil_append, List.append_nil, toP, toPs, toPs_p, ofV, rhp, mkHp_cons, mkHp_nil, List.mem_cons, List.not_mem_nil, or_false, and_true, true_and] <;> rfl))
    (hJ : G.idls gs = J := by (simp only [opIds, Op.operands, gev, mkFr_cons, Nat.reduceEqDiff, reduceIte, List.flatMap_cons, List.flatMap_nil, List.map_cons, List.map_nil, G.idl, G.idls, idls_p, List.append_nil, List.nil_append, List.cons_append, ofV, Call.operands, List.append_toArray, Array.toList_append, Option.toArray_none, Option.toArray_some] <;> rfl)) (hcv : cvts (rhp (mkHp m) J) gs = (c, xs.map .p) := by (simp only [cvts, cvt, gev, mkFr_cons, Nat.reduceEqDiff, reduceIte, List.map_cons, List.map_nil, List.cons_append, List.nil_append, List.append_nil, toP, toPs, toPs_p, ofV, rhp, mkHp_cons, mkHp_nil, List.mem_cons, List.not_mem_nil, or_false, and_true, true_and] <;> rfl)) (hcan : E.Can A xs) (hc : c := by simp) (ht : t < C.N := by omega)
    (k : ∀ b A', E.Y A xs (.b b) A' → gops C r ops Q rest (sg ((t, .p (.bool b)) :: l) m A' df)) (kp : ∀ p A', E.Y A xs (.p p) A' → Q (.panic p) (sg l m A' df)) : gops C r ops Q (⟨some t, .call cl, ty, pos, af, none⟩ :: rest) (sg l m A df) := go_yield hx hy hgs hcv hc hcan ht k kp
/-! Loops over functions -/
theorem rf {Z : Type} {ps : Array Nat} {o : Operand} {assign body : Code} {f : FuncId} {ga gb aa ab : List G} {ca cb : Prop} (lim d : Nat) (psl : List Nat) (I : Nat → Z → E.α → Prop) (mI : Z → List (Nat × Ob)) (K : GE → Z → E.α → Prop) (mK : GE → Z → List (Nat × Ob)) (ka kb : List Sp)
    {xs : List (List P)} (it : IterSpec Try.prog f (aa ++ (.abs :: ab)) xs) (hent : Enters Try.prog f) (hg : grange (mkFr l) o = some (f, ga, gb) := by (simp only [grange, gev, mkFr_cons, Nat.reduceEqDiff, reduceIte, List.map_cons, List.map_nil, List.cons_append, List.nil_append, List.append_nil, toP, toPs, toPs_p, ofV, rhp, mkHp_cons, mkHp_nil, List.mem_cons, List.not_mem_nil, or_false, and_true, true_and] <;> rfl)) (hca : cvSs (mkHp m) ka ga = some (ca, aa) := by (simp only [cvS, cvSs, toP, toPs, toPs_p, mkFr_cons, mkFr_nil, mkHp_cons, mkHp_nil, Nat.reduceEqDiff, reduceIte, List.take_succ_cons, List.take_zero, List.drop_succ_cons, List.drop_zero, List.take_nil, List.drop_nil, List.length_cons, List.length_nil, Nat.reduceAdd, Nat.add_zero, Nat.zero_add, List.map_cons, List.map_nil, List.cons_append, List.nil_append, List.append_nil, and_true, true_and] <;> rfl)) (hcb : cvSs (mkHp m) kb gb = some (cb, ab) := by (simp only [cvS, cvSs, toP, toPs, toPs_p, mkFr_cons, mkFr_nil, mkHp_cons, mkHp_nil, Nat.reduceEqDiff, reduceIte, List.take_succ_cons, List.take_zero, List.drop_succ_cons, List.drop_zero, List.take_nil, List.drop_nil, List.length_cons, List.length_nil, Nat.reduceAdd, Nat.add_zero, Nat.zero_add, List.map_cons, List.map_nil, List.cons_append, List.nil_append, List.append_nil, and_true, true_and] <;> rfl))
    (hia : imm.imms aa = true := by simp [imm, imm.imms]) (hib : imm.imms ab = true := by simp [imm, imm.imms]) (h1 : ca := by simp [allOne, G.one, P.one]) (h2 : cb := by simp [allOne, G.one, P.one]) (hps : ps.toList = psl := by rfl) (hlim : C.lim ≤ lim := by omega) (hlim2 : lim ≤ 90000 := by omega) (hpn : ∀ p ∈ psl, p < C.N := by (simp <;> omega)) (hlen : ∀ x ∈ xs, x.length = psl.length := by simp) (hd : C.lim ≤ d := by omega)
    (wI : ∀ k z A, I k z A → WfAt l df lim d (mI z) := by (intro k z A hI; first | exact hI.elim | (constructor <;> simp [neAll, frIds, dfIds, gdIdl, G.idl, G.idls, ltAll, mkHp_cons, mkHp_nil]))) (wK : ∀ e z A, K e z A → WfAt l df lim d (mK e z) := by (intro k z A hI; first | exact hI.elim | (constructor <;> simp [neAll, frIds, dfIds, gdIdl, G.idl, G.idls, ltAll, mkHp_cons, mkHp_nil]))) (h0 : ∃ z, I 0 z A ∧ mI z = m)
    (round : ∀ k z A' x, I k z A' → xs[k]? = some x → ∀ (lp : Nat) (bs : List (Nat × Obj)) (C1 : Cx (E.guard bs)), C1.N = C.N → C1.lim = lim →
      gwp C1 (some lp) assign (fun e σ => e = .normal ∧ ∀ (bs : List (Nat × Obj)) (C2 : Cx (E.guard bs)), C2.N = C.N → C2.lim = lim → (∃ r0, (lp, Obj.loop r0) ∈ bs) → gwp C2 (some lp) body (fun e σ => match e with
        | .normal => ∃ σ3 z, Le C2 σ σ3 ∧ σ3.h = mkHp (mI z) ∧ I (k + 1) z σ3.A
        | .panic _ => False
        | e => ∃ σ3 z, Le C2 σ σ3 ∧ σ3.h = mkHp (mK e z) ∧ K e z σ3.A) ⟨σ.fr, σ.h, σ.A, σ.df⟩) ⟨parFr (mkFr l) psl x, mkHp (mI z), A', []⟩)
    (hK : ∀ e z A', K e z A' → Q e (sg l ((d, .mark) :: mK e z) A' (.mark d :: df))) (hI : ∀ z A', I xs.length z A' → Q .normal (sg l ((d, .mark) :: mI z) A' (.mark d :: df))) :
    gwp C none (.rangeFunc o ps assign body) Q (sg l m A df) := gc_range lim d psl xs I mI K mK ka kb it hent hg hca hcb hia hib h1 h2 hps hlim hlim2 hpn hlen hd wI wK h0 round hK hI
/-- Objects that are left, others let go. -/
theorem lc {m' : List (Nat × Ob)} (IL : List Nat) (hm : restrictL IL m = m' := by (simp only [frIds, dfIds, gdIdl, obIdl, hpIds, restrictL, dedupL, pickL, subB, G.idl, G.idls, idls_p, List.nil_append, List.append_nil, List.cons_append, mkHp_cons, mkHp_nil, Nat.reduceEqDiff, reduceIte, List.mem_cons, List.not_mem_nil, or_false, or_true, true_or, false_or, List.filter_cons, List.filter_nil, ne_eq, not_true_eq_false, not_false_eq_true, decide_true, decide_false, Bool.false_eq_true, List.all_cons, List.all_nil, Bool.and_true] <;> rfl)) (h2 : subB (dfIds df) IL = true := by (simp only [frIds, dfIds, gdIdl, obIdl, hpIds, restrictL, dedupL, pickL, subB, G.idl, G.idls, idls_p, List.nil_append, List.append_nil, List.cons_append, mkHp_cons, mkHp_nil, Nat.reduceEqDiff, reduceIte, List.mem_cons, List.not_mem_nil, or_false, or_true, true_or, false_or, List.filter_cons, List.filter_nil, ne_eq, not_true_eq_false, not_false_eq_true, decide_true, decide_false, Bool.false_eq_true, List.all_cons, List.all_nil, Bool.and_true] <;> rfl)) (h3 : subB (hpIds m IL) IL = true := by (simp only [frIds, dfIds, gdIdl, obIdl, hpIds, restrictL, dedupL, pickL, subB, G.idl, G.idls, idls_p, List.nil_append, List.append_nil, List.cons_append, mkHp_cons, mkHp_nil, Nat.reduceEqDiff, reduceIte, List.mem_cons, List.not_mem_nil, or_false, or_true, true_or, false_or, List.filter_cons, List.filter_nil, ne_eq, not_true_eq_false, not_false_eq_true, decide_true, decide_false, Bool.false_eq_true, List.all_cons, List.all_nil, Bool.and_true] <;> rfl)) : Le C (sg l m A df : Sg E) (sg [] m' A df) := le_clean2 [] rfl hm rfl h2 h3
/-- The end of a round. -/
theorem rend {Z : Type} {m' : List (Nat × Ob)} {IV : Z → E.α → Prop} {mI : Z → List (Nat × Ob)} (IL : List Nat) (z : Z) (hm : restrictL IL m = m' := by (simp only [frIds, dfIds, gdIdl, obIdl, hpIds, restrictL, dedupL, pickL, subB, G.idl, G.idls, idls_p, List.nil_append, List.append_nil, List.cons_append, mkHp_cons, mkHp_nil, Nat.reduceEqDiff, reduceIte, List.mem_cons, List.not_mem_nil, or_false, or_true, true_or, false_or, List.filter_cons, List.filter_nil, ne_eq, not_true_eq_false, not_false_eq_true, decide_true, decide_false, Bool.false_eq_true, List.all_cons, List.all_nil, Bool.and_true] <;> rfl))
    (h2 : subB (dfIds df) IL = true := by (simp only [frIds, dfIds, gdIdl, obIdl, hpIds, restrictL, dedupL, pickL, subB, G.idl, G.idls, idls_p, List.nil_append, List.append_nil, List.cons_append, mkHp_cons, mkHp_nil, Nat.reduceEqDiff, reduceIte, List.mem_cons, List.not_mem_nil, or_false, or_true, true_or, false_or, List.filter_cons, List.filter_nil, ne_eq, not_true_eq_false, not_false_eq_true, decide_true, decide_false, Bool.false_eq_true, List.all_cons, List.all_nil, Bool.and_true] <;> rfl)) (h3 : subB (hpIds m IL) IL = true := by (simp only [frIds, dfIds, gdIdl, obIdl, hpIds, restrictL, dedupL, pickL, subB, G.idl, G.idls, idls_p, List.nil_append, List.append_nil, List.cons_append, mkHp_cons, mkHp_nil, Nat.reduceEqDiff, reduceIte, List.mem_cons, List.not_mem_nil, or_false, or_true, true_or, false_or, List.filter_cons, List.filter_nil, ne_eq, not_true_eq_false, not_false_eq_true, decide_true, decide_false, Bool.false_eq_true, List.all_cons, List.all_nil, Bool.and_true] <;> rfl)) (hz : m' = mI z := by rfl) (h : IV z A) : ∃ σ3 z, Le C (sg l m A df) σ3 ∧ σ3.h = mkHp (mI z) ∧ IV z σ3.A :=
  ⟨sg [] m' A df, z, le_clean2 [] rfl hm rfl h2 h3, by rw [hz], h⟩
theorem wf1x {args : List G} {id : Nat} (h : G.mens id args = true) (h1 : subB (G.idls args) (m.map (·.1)) = true := by (simp only [List.map_cons, List.map_nil, frIds, dfIds, gdIdl, obIdl, hpIds, restrictL, dedupL, pickL, subB, G.idl, G.idls, idls_p, List.nil_append, List.append_nil, List.cons_append, mkHp_cons, mkHp_nil, Nat.reduceEqDiff, reduceIte, List.mem_cons, List.not_mem_nil, or_false, or_true, true_or, false_or, List.filter_cons, List.filter_nil, ne_eq, not_true_eq_false, not_false_eq_true, decide_true, decide_false, Bool.false_eq_true, List.all_cons, List.all_nil, Bool.and_true] <;> rfl)) (h2 : ∀ i ∈ m.map (·.1), mkHp m i ≠ .none := by simp [mkHp_cons, mkHp_nil]) : mkHp m id ≠ .none := wf1_of h1 h2 h
theorem wf2x {j id : Nat} (h : (mkHp m j).men id = true) (h1 : subB (hpIds m (m.map (·.1))) (m.map (·.1)) = true := by (simp only [List.map_cons, List.map_nil, frIds, dfIds, gdIdl, obIdl, hpIds, restrictL, dedupL, pickL, subB, G.idl, G.idls, idls_p, List.nil_append, List.append_nil, List.cons_append, mkHp_cons, mkHp_nil, Nat.reduceEqDiff, reduceIte, List.mem_cons, List.not_mem_nil, or_false, or_true, true_or, false_or, List.filter_cons, List.filter_nil, ne_eq, not_true_eq_false, not_false_eq_true, decide_true, decide_false, Bool.false_eq_true, List.all_cons, List.all_nil, Bool.and_true] <;> rfl)) (h2 : ∀ i ∈ m.map (·.1), mkHp m i ≠ .none := by simp [mkHp_cons, mkHp_nil]) : mkHp m id ≠ .none := wf2_of h1 h2 h
theorem fph (I : List Nat) {fn : Func} {R : GRes E → Prop} {v : P} {m' : List (Nat × Ob)} (hm : restrictL I m = m' := by (simp only [frIds, dfIds, gdIdl, obIdl, hpIds, restrictL, dedupL, pickL, subB, G.idl, G.idls, idls_p, List.nil_append, List.append_nil, List.cons_append, mkHp_cons, mkHp_nil, Nat.reduceEqDiff, reduceIte, List.mem_cons, List.not_mem_nil, or_false, or_true, true_or, false_or, List.filter_cons, List.filter_nil, ne_eq, not_true_eq_false, not_false_eq_true, decide_true, decide_false, Bool.false_eq_true, List.all_cons, List.all_nil, Bool.and_true] <;> rfl)) (h3 : subB (hpIds m I) I = true := by (simp only [frIds, dfIds, gdIdl, obIdl, hpIds, restrictL, dedupL, pickL, subB, G.idl, G.idls, idls_p, List.nil_append, List.append_nil, List.cons_append, mkHp_cons, mkHp_nil, Nat.reduceEqDiff, reduceIte, List.mem_cons, List.not_mem_nil, or_false, or_true, true_or, false_or, List.filter_cons, List.filter_nil, ne_eq, not_true_eq_false, not_false_eq_true, decide_true, decide_false, Bool.false_eq_true, List.all_cons, List.all_nil, Bool.and_true] <;> rfl)) (hne : ∀ i ∈ I, mkHp m i ≠ .none := by simp [mkHp_cons, mkHp_nil]) (hR : R (.panic v (mkHp m') A)) : FinQ Try.prog fn R (.panic v) (sg l m A []) := fin_panic_h I hm h3 hR hne
/-! Leaving -/
theorem om {fn : Func} {R : GRes E → Prop} {md : Option P} {d : Nat} {ds : List GD} (h1 : mkHp m d = .mark := by (simp only [mkHp_cons, Nat.reduceEqDiff, reduceIte])) (h2 : d ∉ frIds l := by simp [frIds, G.idl, G.idls]) (h3 : d ∉ hpIds m (m.map (·.1)) := by simp [hpIds, obIdl, G.idl, G.idls, mkHp_cons, mkHp_nil]) (h4 : d ∉ dfIds ds := by simp [dfIds, gdIdl, G.idl, G.idls])
    (h : GOut Try.prog fn R ds md (mkFr l) (mkHp ((d, .none) :: m)) A) : GOut Try.prog fn R (.mark d :: ds) md (mkFr l) (mkHp m) A := out_mark h1 h2 h3 h4 h
theorem ocall {fn : Func} {R : GRes E → Prop} {md : Option P} {f : FuncId} {args caps gargs : List G} {ds : List GD} (J : List Nat) (L : List (Nat × Nat)) {mc mr ps m2 : List (Nat × Ob)} (spec : DSpec E f gargs (mkHp mc) A md fun y => y = .ok g (mkHp mr) A) (hent : Enters Try.prog f)
    (hcv : cvts (rhp (mkHp m) J) (args ++ caps) = (c, G.rens (Gh.look L) gargs) := by (simp only [cvts, cvt, Gh.look, G.rens, G.ren, gev, mkFr_cons, Nat.reduceEqDiff, reduceIte, List.map_cons, List.map_nil, List.cons_append, List.nil_append, List.append_nil, toP, toPs, toPs_p, ofV, rhp, mkHp_cons, mkHp_nil, List.mem_cons, List.not_mem_nil, or_false, and_true, true_and] <;> rfl)) (hc : c := by simp) (n1 : (L.map (·.1)).Nodup := by decide) (n2 : (L.map (·.2)).Nodup := by decide) (n3 : (mc.map (·.1)).Nodup := by simp) (hp1 : pairsP L (mkHp m) mc := by (simp only [pairsP, Gh.look, Ob.ren, G.rens, G.ren, rens_p, upd, mkHp_cons, mkHp_nil, Nat.reduceEqDiff, reduceIte] <;> simp)) (hp2 : newP 100 (mkHp m) mc L := by (simp [newP, upd, mkHp_cons, mkHp_nil]))
    (hk : keysP L mr := by simp [keysP, Gh.look]) (hs : stayP mr mc := by simp [stayP, mkHp_cons, mkHp_nil]) (hps : putsOf L (mkHp mr) = ps := by (simp only [putsOf, List.map_cons, List.map_nil, mkHp_cons, mkHp_nil, Nat.reduceEqDiff, reduceIte, Ob.ren, G.ren, G.rens, rens_p, Gh.look] <;> rfl)) (hm : ps.reverse ++ m = m2 := by (simp only [List.reverse_cons, List.reverse_nil, List.nil_append, List.cons_append] <;> rfl))
    (h : GOut Try.prog fn R ds none (mkFr l) (mkHp m2) A) : GOut Try.prog fn R (.call f args caps :: ds) md (mkFr l) (mkHp m) A := out_call spec hent hcv hc (pairs_mk n1 n2 n3 hp1 hp2) (pairsB_mk hk hs) hps hm h
end Go.Proofs.Ytedihdnkalmoiaa

/- Small functions of the second layer: within, power, Has, in. -/
namespace Go.Proofs.Ytedihdnkalmoiaa
open Go.Gh
set_option maxRecDepth 100000
set_option maxHeartbeats 4000000
theorem ent67 : Enters Try.prog 67 := Enters.mk Try.func67 (by kernel_rfl) rfl
theorem s_within (n lo hi : Int) : PSpec Try.prog 67 [.int .i64 n, .int .i64 lo, .int .i64 hi] (.ok (.bool (decide (lo ≤ n) && decide (n ≤ hi)))) := by
  refine pspec_of Try.func67 (rfl : Try.f67.body = some _) rfl ?_
  intro E A C hN hL
  replace hN : C.N = 15 := hN
  simp only [Gh.num, List.map_cons, List.map_nil, Nat.reduceAdd]
  repeat refine gwp_seq ?_
  refine gwp_region ?_
  refine v0 (k := ?_)
  refine nil0 ?_
  refine cl [0, 1, 2] (k := ?_)
  repeat refine gwp_seq ?_
  refine gwp_region ?_
  refine v0 (k := ?_)
  refine v0 (k := ?_)
  refine v0 (k := ?_)
  refine v0 (k := ?_)
  refine b0 (k1 := fun hb1 => ?_) (k0 := fun hb1 => ?_)
  · try simp only [decide_eq_true_eq, decide_eq_false_iff_not, Int.not_lt, Int.not_le, Bool.not_eq_eq_eq_not, Bool.not_true, Bool.not_false, Bool.and_eq_true, Bool.and_eq_false_iff, Bool.or_eq_true, Bool.or_eq_false_iff] at hb1
    refine w0 (k := ?_)
    refine w0 (k := ?_)
    refine w0 (k := ?_)
    refine v0 (k := ?_)
    refine v0 (k := ?_)
    refine nil0 ?_
    repeat refine gwp_seq ?_
    refine gwp_ret ?_
    repeat (first | refine gthen_ret ?_ | refine gblock_ret ?_)
    refine fin_ret ?_
    refine fp (hR := ?_)
    simp_all [PRes.at] <;> omega
  · try simp only [decide_eq_true_eq, decide_eq_false_iff_not, Int.not_lt, Int.not_le, Bool.not_eq_eq_eq_not, Bool.not_true, Bool.not_false, Bool.and_eq_true, Bool.and_eq_false_iff, Bool.or_eq_true, Bool.or_eq_false_iff] at hb1
    refine x0 (k := ?_)
    refine x0 (k := ?_)
    refine x0 (k := ?_)
    refine v0 (k := ?_)
    refine v0 (k := ?_)
    refine nil0 ?_
    repeat refine gwp_seq ?_
    refine gwp_ret ?_
    repeat (first | refine gthen_ret ?_ | refine gblock_ret ?_)
    refine fin_ret ?_
    refine fp (hR := ?_)
    simp_all [PRes.at] <;> omega
theorem ent52 : Enters Try.prog 52 := Enters.mk Try.func52 (by kernel_rfl) rfl
theorem s_in (n lo hi : Int) : PSpec Try.prog 52 [.int .i64 n, .int .i64 lo, .int .i64 hi] (.ok (.bool (decide (lo ≤ n) && decide (n ≤ hi)))) := by
  refine pspec_of Try.func52 (rfl : Try.f52.body = some _) rfl ?_
  intro E A C hN hL
  replace hN : C.N = 15 := hN
  simp only [Gh.num, List.map_cons, List.map_nil, Nat.reduceAdd]
  repeat refine gwp_seq ?_
  refine gwp_region ?_
  refine v0 (k := ?_)
  refine nil0 ?_
  refine cl [0, 1, 2] (k := ?_)
  repeat refine gwp_seq ?_
  refine gwp_region ?_
  refine v0 (k := ?_)
  refine v0 (k := ?_)
  refine v0 (k := ?_)
  refine v0 (k := ?_)
  refine b0 (k1 := fun hb1 => ?_) (k0 := fun hb1 => ?_)
  · try simp only [decide_eq_true_eq, decide_eq_false_iff_not, Int.not_lt, Int.not_le, Bool.not_eq_eq_eq_not, Bool.not_true, Bool.not_false, Bool.and_eq_true, Bool.and_eq_false_iff, Bool.or_eq_true, Bool.or_eq_false_iff] at hb1
    refine w0 (k := ?_)
    refine w0 (k := ?_)
    refine w0 (k := ?_)
    refine v0 (k := ?_)
    refine v0 (k := ?_)
    refine nil0 ?_
    repeat refine gwp_seq ?_
    refine gwp_ret ?_
    repeat (first | refine gthen_ret ?_ | refine gblock_ret ?_)
    refine fin_ret ?_
    refine fp (hR := ?_)
    simp_all [PRes.at] <;> omega
  · try simp only [decide_eq_true_eq, decide_eq_false_iff_not, Int.not_lt, Int.not_le, Bool.not_eq_eq_eq_not, Bool.not_true, Bool.not_false, Bool.and_eq_true, Bool.and_eq_false_iff, Bool.or_eq_true, Bool.or_eq_false_iff] at hb1
    refine x0 (k := ?_)
    refine x0 (k := ?_)
    refine x0 (k := ?_)
    refine v0 (k := ?_)
    refine v0 (k := ?_)
    refine nil0 ?_
    repeat refine gwp_seq ?_
    refine gwp_ret ?_
    repeat (first | refine gthen_ret ?_ | refine gblock_ret ?_)
    refine fin_ret ?_
    refine fp (hR := ?_)
    simp_all [PRes.at] <;> omega
theorem ent31 : Enters Try.prog 31 := Enters.mk Try.func31 (by kernel_rfl) rfl
theorem s_inside (n lo hi : Int) : PSpec Try.prog 31 [.agg [.int .i64 lo, .int .i64 hi], .int .i64 n] (.ok (.bool (decide (lo ≤ n) && decide (n ≤ hi)))) := by
  refine pspec_of Try.func31 (rfl : Try.f31.body = some _) rfl ?_
  intro E A C hN hL
  replace hN : C.N = 15 := hN
  simp only [Gh.num, List.map_cons, List.map_nil, Nat.reduceAdd]
  repeat refine gwp_seq ?_
  refine gwp_region ?_
  refine n1 120 false (hc := by (first | exact True.intro | (simp only [inI]; omega) | (simp [P.size] <;> omega))) (k := ?_)
  refine v0 (k := ?_)
  refine nil0 ?_
  refine cl [1, 2] (k := ?_)
  repeat refine gwp_seq ?_
  refine gwp_region ?_
  refine v0 (k := ?_)
  refine v0 (k := ?_)
  refine v0 (k := ?_)
  refine v0 (k := ?_)
  refine v0 (k := ?_)
  refine b0 (k1 := fun hb1 => ?_) (k0 := fun hb1 => ?_)
  · try simp only [decide_eq_true_eq, decide_eq_false_iff_not, Int.not_lt, Int.not_le, Bool.not_eq_eq_eq_not, Bool.not_true, Bool.not_false, Bool.and_eq_true, Bool.and_eq_false_iff, Bool.or_eq_true, Bool.or_eq_false_iff] at hb1
    refine w0 (k := ?_)
    refine w0 (k := ?_)
    refine w0 (k := ?_)
    refine w0 (k := ?_)
    refine v0 (k := ?_)
    refine v0 (k := ?_)
    refine nil0 ?_
    repeat refine gwp_seq ?_
    refine gwp_ret ?_
    repeat (first | refine gthen_ret ?_ | refine gblock_ret ?_)
    refine fin_ret ?_
    refine fp (hR := ?_)
    simp_all [PRes.at] <;> omega
  · try simp only [decide_eq_true_eq, decide_eq_false_iff_not, Int.not_lt, Int.not_le, Bool.not_eq_eq_eq_not, Bool.not_true, Bool.not_false, Bool.and_eq_true, Bool.and_eq_false_iff, Bool.or_eq_true, Bool.or_eq_false_iff] at hb1
    refine x0 (k := ?_)
    refine x0 (k := ?_)
    refine x0 (k := ?_)
    refine x0 (k := ?_)
    refine v0 (k := ?_)
    refine v0 (k := ?_)
    refine nil0 ?_
    repeat refine gwp_seq ?_
    refine gwp_ret ?_
    repeat (first | refine gthen_ret ?_ | refine gblock_ret ?_)
    refine fin_ret ?_
    refine fp (hR := ?_)
    simp_all [PRes.at] <;> omega
end Go.Proofs.Ytedihdnkalmoiaa

/- Shelves, as plain data; what the document says of them. -/
namespace Go.Proofs.Ytedihdnkalmoiaa
open Go.Gh

structure Nt where
  a : Int
  b : Int
  s : Bool
structure Sh where
  num : Int
  sizes : List Int
  lo : Int
  hi : Int
  notes : List Nt
def pn (n : Nt) : P := .agg [.int .i64 n.a, .int .i64 n.b, .bool n.s]

/-- How many of the first numbers are plates of their own. -/
def cntP (ws : List Int) : Nat → Nat
  | 0 => 0
  | k + 1 => cntP ws k + if ws[k]? = some (k : Int) then 1 else 0
theorem cntP_le (ws : List Int) : ∀ k, cntP ws k ≤ k
  | 0 => Nat.le_refl _
  | k + 1 => by have := cntP_le ws k; simp only [cntP]; split <;> omega

def okS (z : Int) : Bool := decide (0 ≤ z) && decide (z ≤ 9)
def okN (num : Int) (n : Nt) : Bool := (decide (0 ≤ n.a) && decide (n.a ≤ num - 1)) && (decide (0 ≤ n.b) && decide (n.b ≤ num - 1)) && !decide (n.a = n.b)
def Sh.head (s : Sh) : Bool := (decide (0 ≤ s.num) && decide (s.num ≤ 8)) && decide ((s.sizes.length : Int) = s.num) && !decide (s.lo < 0) && !decide (s.hi < s.lo) && !decide (8 < s.hi) && !decide (12 < (s.notes.length : Int))
def Sh.valid (s : Sh) : Bool := s.head && s.sizes.all okS && s.notes.all (okN s.num)

theorem all_at {α : Type} {l : List α} {p : α → Bool} {k : Nat} {x : α} (hx : l[k]? = some x) (h : p x = false) : l.all p = false := by
  cases he : l.all p with
  | false => rfl
  | true => rw [List.all_eq_true.1 he x (List.mem_of_getElem? hx)] at h; cases h
theorem all_step {α : Type} {l : List α} {p : α → Bool} {k : Nat} {x : α} (hx : l[k]? = some x) (h : p x = true) (ha : (l.take k).all p = true) : (l.take (k + 1)).all p = true := by
  rw [List.take_add_one, hx, List.all_append, ha]
  simp [h]

/-- Two numbers of one plate have sizes that agree. -/
def sizeOk (s : Sh) (w : List Int) (i k : Nat) : Bool := match w[i]?, w[k]?, s.sizes[i]?, s.sizes[k]? with
  | some x, some y, some p, some q => !(decide (x = y) && (!decide (p = q) && (decide (0 < p) && decide (0 < q))))
  | _, _, _, _ => true
def noteOk (s : Sh) (set : Nat) (w : List Int) (i : Nat) : Bool := match s.notes[i]? with
  | some n => !(set.testBit i) || (decide (w[n.a.toNat]? = w[n.b.toNat]?) == n.s)
  | none => true
def wayM (s : Sh) (set : Nat) (w : List Int) : Bool :=
  ((List.range w.length).all fun i => (List.range i).all fun k => sizeOk s w i k) && ((List.range s.notes.length).all fun i => noteOk s set w i) && (decide (s.lo ≤ (cntP w w.length : Int)) && decide ((cntP w w.length : Int) ≤ s.hi))
theorem wayM_size {s : Sh} {set : Nat} {w : List Int} {i k : Nat} (hi : i < w.length) (hk : k < i) (h : sizeOk s w i k = false) : wayM s set w = false := by
  cases hw : wayM s set w with
  | false => rfl
  | true =>
    simp only [wayM, Bool.and_eq_true, List.all_eq_true, List.mem_range] at hw
    rw [hw.1.1 i hi k hk] at h; cases h
theorem wayM_note {s : Sh} {set : Nat} {w : List Int} {i : Nat} (hi : i < s.notes.length) (h : noteOk s set w i = false) : wayM s set w = false := by
  cases hw : wayM s set w with
  | false => rfl
  | true =>
    simp only [wayM, Bool.and_eq_true, List.all_eq_true, List.mem_range] at hw
    rw [hw.1.2 i hi] at h; cases h
theorem wayM_all {s : Sh} {set : Nat} {w : List Int} (h1 : ∀ i, i < w.length → ∀ k, k < i → sizeOk s w i k = true) (h2 : ∀ i, i < s.notes.length → noteOk s set w i = true) :
    wayM s set w = (decide (s.lo ≤ (cntP w w.length : Int)) && decide ((cntP w w.length : Int) ≤ s.hi)) := by
  have e1 : ((List.range w.length).all fun i => (List.range i).all fun k => sizeOk s w i k) = true := by
    simp only [List.all_eq_true, List.mem_range]; exact h1
  have e2 : ((List.range s.notes.length).all fun i => noteOk s set w i) = true := by
    simp only [List.all_eq_true, List.mem_range]; exact h2
  rw [wayM, e1, e2]; simp
theorem valid_note {s : Sh} (hv : s.valid = true) {k : Nat} {n : Nt} (hn : s.notes[k]? = some n) : 0 ≤ n.a ∧ n.a < s.sizes.length ∧ 0 ≤ n.b ∧ n.b < s.sizes.length ∧ n.a ≠ n.b := by
  simp only [Sh.valid, Sh.head, Bool.and_eq_true, decide_eq_true_eq] at hv
  have := List.all_eq_true.1 hv.2 _ (List.mem_of_getElem? hn)
  simp [okN] at this
  have e := hv.1.1.1.1.1.1.2
  omega
theorem valid_num {s : Sh} (hv : s.valid = true) : 0 ≤ s.num ∧ s.num ≤ 8 ∧ (s.sizes.length : Int) = s.num ∧ s.notes.length ≤ 12 ∧ 0 ≤ s.lo ∧ s.lo ≤ s.hi ∧ s.hi ≤ 8 := by
  simp only [Sh.valid, Sh.head, Bool.and_eq_true, decide_eq_true_eq, Bool.not_eq_eq_eq_not, Bool.not_true, decide_eq_false_iff_not] at hv
  omega
theorem getI {α : Type} {l : List α} {i : Int} (h0 : 0 ≤ i) (h : i < (l.length : Int)) : ∃ x, l[i.toNat]? = some x := ⟨l[i.toNat]'(by omega), List.getElem?_eq_getElem _⟩
def lw (w : List Int) : P := .list (w.map (.int .i64))
/-- Is a number the least one of its plate, or a new one? -/
def least (b : List Int) (i : Nat) : Bool := decide (i = b.length) || decide (b[i]? = some (i : Int))
/-- The ways that go on from some numbers, behind others. -/
def waysM (s : Sh) (set : Nat) : Nat → List Int → List (List Int) → List (List Int)
  | 0, b, out => if wayM s set b then out ++ [b] else out
  | d + 1, b, out => (List.range (b.length + 1)).foldl (fun out i => if least b i then waysM s set d (b ++ [(i : Int)]) out else out) out
def waysL (s : Sh) (set d : Nat) (b : List Int) (out : List (List Int)) (k : Nat) : List (List Int) := (List.range k).foldl (fun out i => if least b i then waysM s set d (b ++ [(i : Int)]) out else out) out
theorem waysL_succ (s : Sh) (set d : Nat) (b : List Int) (out : List (List Int)) (k : Nat) :
    waysL s set d b out (k + 1) = if least b k then waysM s set d (b ++ [(k : Int)]) (waysL s set d b out k) else waysL s set d b out k := by
  simp only [waysL, List.range_succ, List.foldl_append, List.foldl_cons, List.foldl_nil]
theorem waysM_len (s : Sh) (set : Nat) : ∀ (d : Nat) (b : List Int) (out : List (List Int)), b.length + d ≤ 8 → (waysM s set d b out).length ≤ out.length + 9 ^ d
  | 0, b, out, _ => by simp only [waysM]; split <;> simp
  | d + 1, b, out, hd => by
    have key : ∀ k, k ≤ b.length + 1 → (waysL s set d b out k).length ≤ out.length + k * 9 ^ d := fun k => by
      induction k with
      | zero => intro _; simp [waysL]
      | succ k ih =>
        intro hk
        have ih := ih (by omega)
        rw [waysL_succ, Nat.succ_mul]
        split
        · have := waysM_len s set d (b ++ [(k : Int)]) (waysL s set d b out k) (by simp; omega)
          omega
        · have hz := Nat.zero_le (9 ^ d)
          omega
    have := key (b.length + 1) (Nat.le_refl _)
    have h9 : (b.length + 1) * 9 ^ d ≤ 9 * 9 ^ d := Nat.mul_le_mul_right _ (by omega)
    show (waysL s set d b out (b.length + 1)).length ≤ _
    rw [Nat.pow_succ, Nat.mul_comm (9 ^ d) 9]
    omega
theorem waysL_len (s : Sh) (set d : Nat) (b : List Int) (out : List (List Int)) (hd : b.length + d + 1 ≤ 8) : ∀ k, k ≤ b.length + 1 → (waysL s set d b out k).length ≤ out.length + k * 9 ^ d := fun k => by
  induction k with
  | zero => intro _; simp [waysL]
  | succ k ih =>
    intro hk
    have ih := ih (by omega)
    rw [waysL_succ, Nat.succ_mul]
    split
    · have := waysM_len s set d (b ++ [(k : Int)]) (waysL s set d b out k) (by simp; omega)
      omega
    · have hz := Nat.zero_le (9 ^ d)
      omega
def allM (s : Sh) (set : Nat) : List (List Int) := waysM s set s.sizes.length [] []
end Go.Proofs.Ytedihdnkalmoiaa

/- The sum of bits, as the library has it, of small numbers. -/
namespace Go.Proofs.Ytedihdnkalmoiaa
open Go.Gh
/-- How many bits are set. -/
def popF : Nat → Nat → Nat
  | 0, _ => 0
  | f + 1, n => n % 2 + popF f (n / 2)
def pop (n : Nat) : Nat := popF 64 n

/-- The sum of bits, as the library has it. -/
def swar (x0 : Int) : Int :=
  let w := IntKind.u64.wrap
  let x1 := w (bitop .and .u64 (x0.fdiv (2 ^ min 1 64)) 6148914691236517205 + bitop .and .u64 x0 6148914691236517205)
  let x2 := w (bitop .and .u64 (x1.fdiv (2 ^ min 2 64)) 3689348814741910323 + bitop .and .u64 x1 3689348814741910323)
  let x3 := bitop .and .u64 (w (x2.fdiv (2 ^ min 4 64) + x2)) 1085102592571150095
  let x4 := w (x3 + x3.fdiv (2 ^ min 8 64))
  let x5 := w (x4 + x4.fdiv (2 ^ min 16 64))
  w (x5 + x5.fdiv (2 ^ min 32 64))
theorem swar_all : ∀ a, a < 64 → ∀ b, b < 64 → (decide (0 ≤ swar ((64 * a + b : Nat) : Int)) && decide (swar ((64 * a + b : Nat) : Int) ≤ 4000000000) && decide (bitop .and .i64 (swar ((64 * a + b : Nat) : Int)) 127 = (pop (64 * a + b) : Int))) = true := by
  decide +kernel
theorem swar_ok (n : Nat) (h : n < 4096) : 0 ≤ swar n ∧ swar n ≤ 4000000000 ∧ bitop .and .i64 (swar n) 127 = (pop n : Int) := by
  have := swar_all (n / 64) (by omega) (n % 64) (by omega)
  rw [show 64 * (n / 64) + n % 64 = n by omega] at this
  simp only [Bool.and_eq_true, decide_eq_true_eq] at this
  exact ⟨this.1.1, this.1.2, this.2⟩
end Go.Proofs.Ytedihdnkalmoiaa

/- Numbers: sets as numbers, and what the program's operations on them yield. -/
namespace Go.Proofs.Ytedihdnkalmoiaa
open Go.Gh

/-- Where the first size that is none stands; -1: nowhere. -/
def idxBad : List Int → Nat → Int
  | [], _ => -1
  | z :: zs, k => if okS z then idxBad zs (k + 1) else k
theorem idxBad_at {l : List Int} {k : Nat} {x : Int} (h : l[k]? = some x) : idxBad (l.drop k) k = if okS x then idxBad (l.drop (k + 1)) (k + 1) else k := by
  obtain ⟨hk, e⟩ := List.getElem?_eq_some_iff.1 h
  rw [List.drop_eq_getElem_cons hk, e]; rfl
theorem idxBad_iff : ∀ (l : List Int) (k : Nat), 0 ≤ idxBad l k ↔ l.all okS = false
  | [], k => by simp [idxBad]
  | z :: zs, k => by
    simp only [idxBad, List.all_cons]
    by_cases h : okS z = true
    · rw [if_pos h, idxBad_iff zs (k + 1), h, Bool.true_and]
    · rw [if_neg h, show okS z = false by simpa using h]; simp
theorem idxBad_sign (l : List Int) (k : Nat) : decide (0 ≤ idxBad l k) = !l.all okS := by
  by_cases h : 0 ≤ idxBad l k
  · rw [decide_eq_true h, (idxBad_iff l k).1 h]; rfl
  · have h2 : l.all okS = true := by
      by_cases h2 : l.all okS = true
      · exact h2
      · exact absurd ((idxBad_iff l k).2 (by simpa using h2)) h
    rw [decide_eq_false h, h2]; rfl

theorem bitop_and_u64 (x y : Nat) (hx : x < 2 ^ 64) (hy : y < 2 ^ 64) : bitop .and .u64 (x : Int) (y : Int) = ((x &&& y : Nat) : Int) := by
  have e1 : (BitVec.ofInt 64 (x : Int)).toNat = x := by rw [BitVec.toNat_ofInt]; omega
  have e2 : (BitVec.ofInt 64 (y : Int)).toNat = y := by rw [BitVec.toNat_ofInt]; omega
  have h : (x &&& y) < 2 ^ 64 := Nat.lt_of_le_of_lt Nat.and_le_left hx
  show IntKind.u64.wrap ((BitVec.ofInt 64 (x : Int) &&& BitVec.ofInt 64 (y : Int)).toNat : Int) = _
  rw [BitVec.toNat_and, e1, e2]
  exact IntWalk.u64_in ((x &&& y : Nat) : Int) (by omega)
theorem bitop_andNot_u64 (x y : Nat) (hx : x < 2 ^ 64) (hy : y < 2 ^ 64) : bitop .andNot .u64 (x : Int) (y : Int) = ((x &&& (2 ^ 64 - 1 - y) : Nat) : Int) := by
  have e1 : (BitVec.ofInt 64 (x : Int)).toNat = x := by rw [BitVec.toNat_ofInt]; omega
  have e2 : (BitVec.ofInt 64 (y : Int)).toNat = y := by rw [BitVec.toNat_ofInt]; omega
  have h : (x &&& (2 ^ 64 - 1 - y)) < 2 ^ 64 := Nat.lt_of_le_of_lt Nat.and_le_left hx
  show IntKind.u64.wrap ((BitVec.ofInt 64 (x : Int) &&& ~~~BitVec.ofInt 64 (y : Int)).toNat : Int) = _
  rw [BitVec.toNat_and, BitVec.toNat_not, e1, e2]
  exact IntWalk.u64_in ((x &&& (2 ^ 64 - 1 - y) : Nat) : Int) (by omega)
theorem bitop_or_i64 (x y : Nat) (hx : x < 2 ^ 62) (hy : y < 2 ^ 62) : bitop .or .i64 (x : Int) (y : Int) = ((x ||| y : Nat) : Int) := by
  have e1 : (BitVec.ofInt 64 (x : Int)).toNat = x := by rw [BitVec.toNat_ofInt]; omega
  have e2 : (BitVec.ofInt 64 (y : Int)).toNat = y := by rw [BitVec.toNat_ofInt]; omega
  have h : (x ||| y) < 2 ^ 62 := Nat.or_lt_two_pow hx hy
  show IntKind.i64.wrap ((BitVec.ofInt 64 (x : Int) ||| BitVec.ofInt 64 (y : Int)).toNat : Int) = _
  rw [BitVec.toNat_or, e1, e2]
  exact IntWalk.i64_in ((x ||| y : Nat) : Int) (by omega)
theorem shl1_u64 (n : Nat) (h : n ≤ 40) : IntKind.u64.wrap (1 * 2 ^ min n 64) = ((2 ^ n : Nat) : Int) := by
  rw [Nat.min_eq_left (by omega), Int.one_mul]
  have h2 : 2 ^ n ≤ 2 ^ 40 := Nat.pow_le_pow_right (by omega) h
  have h0 := Nat.two_pow_pos n
  have : ((2 : Int) ^ n) = ((2 ^ n : Nat) : Int) := by simp
  rw [this]
  exact IntWalk.u64_in _ (by omega)
theorem shl1_i64 (n : Nat) (h : n ≤ 40) : IntKind.i64.wrap (1 * 2 ^ min n 64) = ((2 ^ n : Nat) : Int) := by
  rw [Nat.min_eq_left (by omega), Int.one_mul]
  have h2 : 2 ^ n ≤ 2 ^ 40 := Nat.pow_le_pow_right (by omega) h
  have h0 := Nat.two_pow_pos n
  have : ((2 : Int) ^ n) = ((2 ^ n : Nat) : Int) := by simp
  rw [this]
  exact IntWalk.i64_in _ (by omega)
theorem every_u64 (n : Nat) (h : n ≤ 40) : IntKind.u64.wrap (IntKind.u64.wrap (1 * 2 ^ min n IntKind.u64.bits) - 1) = ((2 ^ n : Nat) : Int) - 1 := by
  show IntKind.u64.wrap (IntKind.u64.wrap (1 * 2 ^ min n 64) - 1) = _
  rw [shl1_u64 n h]
  have h2 : 2 ^ n ≤ 2 ^ 40 := Nat.pow_le_pow_right (by omega) h
  have h0 := Nat.two_pow_pos n
  exact IntWalk.u64_in _ (by omega)
theorem shr_bit (set n : Nat) (hs : set < 2 ^ 64) (hn : n < 64) : decide (bitop .and .u64 ((set : Int).fdiv (2 ^ min n 64)) 1 = 1) = set.testBit n := by
  have e : (set : Int).fdiv (2 ^ min n 64) = ((set / 2 ^ n : Nat) : Int) := by
    rw [Nat.min_eq_left (by omega)]
    have : ((2 : Int) ^ n) = ((2 ^ n : Nat) : Int) := by simp
    rw [this, Int.ofNat_fdiv]
  have h2 : set / 2 ^ n < 2 ^ 64 := Nat.lt_of_le_of_lt (Nat.div_le_self _ _) hs
  rw [e, show (1 : Int) = ((1 : Nat) : Int) from rfl, bitop_and_u64 _ 1 h2 (by omega), Nat.and_one_is_mod, Nat.testBit_eq_decide_div_mod_eq]
  congr 1
  apply propext
  omega

end Go.Proofs.Ytedihdnkalmoiaa

/- The program: small functions. -/
namespace Go.Proofs.Ytedihdnkalmoiaa
open Go.Gh
set_option maxRecDepth 100000
set_option maxHeartbeats 4000000
theorem ent44 : Enters Try.prog 44 := Enters.mk Try.func44 (by kernel_rfl) rfl
theorem s_must_t (e : Int) : PSpec Try.prog 44 [.bool true, .int .i64 e] (.ok (.tuple [])) := by
  refine pspec_of Try.func44 (rfl : Try.f44.body = some _) rfl ?_
  intro E A C hN hL
  replace hN : C.N = 9 := hN
  simp only [Gh.num, List.map_cons, List.map_nil, Nat.reduceAdd]
  repeat refine gwp_seq ?_
  refine gwp_region ?_
  refine v0 (k := ?_)
  refine v0 (k := ?_)
  refine nil0 ?_
  repeat refine gwp_seq ?_
  refine cF (k := ?_)
  repeat refine gwp_seq ?_
  refine gwp_skip ?_
  try refine gnoGoto_normal ?_
  refine fin_normal ?_
  refine fp0 (hR := ?_)
  rfl
theorem s_must_f (e : Int) : PSpec Try.prog 44 [.bool false, .int .i64 e] (.panic (.iface 105 (.agg [.int .i64 e]))) := by
  refine pspec_of Try.func44 (rfl : Try.f44.body = some _) rfl ?_
  intro E A C hN hL
  replace hN : C.N = 9 := hN
  simp only [Gh.num, List.map_cons, List.map_nil, Nat.reduceAdd]
  repeat refine gwp_seq ?_
  refine gwp_region ?_
  refine v0 (k := ?_)
  refine v0 (k := ?_)
  refine nil0 ?_
  repeat refine gwp_seq ?_
  refine cT (k := ?_)
  repeat refine gwp_seq ?_
  refine gwp_region ?_
  refine v0 (k := ?_)
  refine v0 (k := ?_)
  refine v0 (k := ?_)
  refine pn0 (k := ?_)
  repeat (first | refine gthen_panic ?_ | refine gblock_panic ?_)
  exact fin_panic rfl
theorem ent66 : Enters Try.prog 66 := Enters.mk Try.func66 (by kernel_rfl) rfl
theorem s_bad (z : Int) : PSpec Try.prog 66 [.int .i64 z] (.ok (.bool (!okS z))) := by
  refine pspec_of Try.func66 (rfl : Try.f66.body = some _) rfl ?_
  intro E A C hN hL
  replace hN : C.N = 6 := hN
  simp only [Gh.num, List.map_cons, List.map_nil, Nat.reduceAdd]
  repeat refine gwp_seq ?_
  refine gwp_region ?_
  refine v0 (k := ?_)
  refine nil0 ?_
  refine cl [0] (k := ?_)
  repeat refine gwp_seq ?_
  refine gwp_region ?_
  refine v0 (k := ?_)
  refine pc0 (spec := s_within _ _ _) (hent := ent67) (k := ?_)
  refine v0 (k := ?_)
  refine v0 (k := ?_)
  refine nil0 ?_
  repeat refine gwp_seq ?_
  refine gwp_ret ?_
  repeat (first | refine gthen_ret ?_ | refine gblock_ret ?_ | refine gnoGoto_ret ?_)
  refine fin_ret ?_
  refine fp (hR := ?_)
  rfl
theorem ent74 : Enters Try.prog 74 := Enters.mk Try.func74 (by kernel_rfl) rfl
theorem s_index (l : List Int) (hl : l.length ≤ 1048576) : PSpec Try.prog 74 [.list (l.map (.int .i64)), .fn (.func 66) [] []] (.ok (.int .i64 (idxBad l 0))) := by
  refine pspec_of Try.func74 (rfl : Try.f74.body = some _) rfl ?_
  intro E A C hN hL
  replace hN : C.N = 19 := hN
  simp only [Gh.num, List.map_cons, List.map_nil, Nat.reduceAdd]
  repeat refine gwp_seq ?_
  refine gwp_region ?_
  refine v0 (k := ?_)
  refine nil0 ?_
  refine cl [0, 1] (k := ?_)
  repeat refine gwp_seq ?_
  refine gwp_region ?_
  refine v0 (k := ?_)
  refine v0 (k := ?_)
  refine v0 (k := ?_)
  refine nil0 ?_
  refine cl [0, 1, 7, 8] (k := ?_)
  repeat refine gwp_seq ?_
  refine gwp_block ?_
  repeat refine gwp_seq ?_
  refine gc_loop (fun mz σ => ∃ k : Nat, (k ≤ l.length) ∧ (idxBad l 0 = idxBad (l.drop k) k) ∧ mz = l.length - k ∧ σ = (sg [(0, .p (.list (l.map (.int .i64)))), (1, .p (.fn (.func 66) [] [])), (7, .p (.int .i64 l.length)), (8, .p (.int .i64 k))] [] A [] : Sg E)) ?_ (fun mz σ hI => ?_)
  · refine lbeg [0, 1, 7, 8] (hV := ?_)
    exact ⟨_, 0, by omega, by simp, rfl, rfl⟩
  obtain ⟨k, hk, hi, hn, rfl⟩ := hI
  repeat refine gwp_seq ?_
  refine gwp_region ?_
  refine v0 (k := ?_)
  refine nil0 ?_
  repeat refine gwp_seq ?_
  refine cB (k1 := fun hb1 => ?_) (k0 := fun hb1 => ?_)
  · try simp only [decide_eq_true_eq, decide_eq_false_iff_not, Int.not_lt, Int.not_le, Bool.not_eq_eq_eq_not, Bool.not_true, Bool.not_false, Bool.and_eq_true, Bool.and_eq_false_iff, Bool.or_eq_true, Bool.or_eq_false_iff] at hb1
    repeat refine gwp_seq ?_
    refine gwp_skip ?_
    refine cl [0, 1, 7, 8] (k := ?_)
    repeat refine gwp_seq ?_
    refine gwp_block ?_
    repeat refine gwp_seq ?_
    refine gwp_region ?_
    refine v0 (k := ?_)
    refine v0 (k := ?_)
    refine nil0 ?_
    refine cl [0, 1, 5, 7, 8] (k := ?_)
    repeat refine gwp_seq ?_
    obtain ⟨x, hx⟩ := getE (l := l) (k := k) (by omega)
    refine gwp_region ?_
    refine v0 (k := ?_)
    refine v0 (k := ?_)
    refine v0 (k := ?_)
    refine v1 (hc := by (first | exact True.intro | (simp only [inI]; omega) | (simp [P.size] <;> omega))) (k := ?_)
    refine v0 (k := ?_)
    refine pc0 (spec := s_bad _) (hent := ent66) (k := ?_)
    refine nil0 ?_
    repeat refine gwp_seq ?_
    refine cB (k1 := fun hb2 => ?_) (k0 := fun hb2 => ?_)
    · try simp only [decide_eq_true_eq, decide_eq_false_iff_not, Int.not_lt, Int.not_le, Bool.not_eq_eq_eq_not, Bool.not_true, Bool.not_false, Bool.and_eq_true, Bool.and_eq_false_iff, Bool.or_eq_true, Bool.or_eq_false_iff] at hb2
      repeat refine gwp_seq ?_
      refine gwp_region ?_
      refine v0 (k := ?_)
      refine v0 (k := ?_)
      refine nil0 ?_
      repeat refine gwp_seq ?_
      refine gwp_ret ?_
      repeat (first | refine gthen_ret ?_ | refine gblock_ret ?_ | refine gnoGoto_ret ?_)
      refine fin_ret ?_
      refine fp (hR := ?_)
      simp only [PRes.at, GRes.ok.injEq, G.p.injEq, P.int.injEq, true_and, and_true]
      first
      | (rw [hi, idxBad_at hx]; simp_all; done)
      | (rw [hi, List.drop_eq_nil_of_le (by omega)]; rfl)
    · try simp only [decide_eq_true_eq, decide_eq_false_iff_not, Int.not_lt, Int.not_le, Bool.not_eq_eq_eq_not, Bool.not_true, Bool.not_false, Bool.and_eq_true, Bool.and_eq_false_iff, Bool.or_eq_true, Bool.or_eq_false_iff] at hb2
      repeat refine gwp_seq ?_
      refine gwp_skip ?_
      refine cl [0, 1, 7, 8] (k := ?_)
      repeat refine gwp_seq ?_
      refine gwp_region ?_
      refine v1 (hc := by (first | exact True.intro | (simp only [inI]; omega) | (simp [P.size] <;> omega))) (k := ?_)
      refine v0 (k := ?_)
      refine nil0 ?_
      refine lend [0, 1, 7, 8] (h := ?_) (hV := ?_) (n' := l.length - (k + 1))
      · omega
      exact ⟨k + 1, by omega, by rw [hi, idxBad_at hx]; simp_all, rfl, rfl⟩
  · try simp only [decide_eq_true_eq, decide_eq_false_iff_not, Int.not_lt, Int.not_le, Bool.not_eq_eq_eq_not, Bool.not_true, Bool.not_false, Bool.and_eq_true, Bool.and_eq_false_iff, Bool.or_eq_true, Bool.or_eq_false_iff] at hb1
    repeat refine gwp_seq ?_
    refine gwp_exit ?_
    repeat (first | refine gthen_exit ?_ | refine gnoGoto_exit ?_ | refine gblock_here ?_ | refine gblock_out rfl ?_)
    refine cl [] (k := ?_)
    repeat refine gwp_seq ?_
    refine gwp_region ?_
    refine v0 (k := ?_)
    refine nil0 ?_
    repeat refine gwp_seq ?_
    refine gwp_ret ?_
    repeat (first | refine gthen_ret ?_ | refine gblock_ret ?_ | refine gnoGoto_ret ?_)
    refine fin_ret ?_
    refine fp (hR := ?_)
    simp only [PRes.at, GRes.ok.injEq, G.p.injEq, P.int.injEq, true_and, and_true]
    first
    | (rw [hi, idxBad_at hx]; simp_all; done)
    | (rw [hi, List.drop_eq_nil_of_le (by omega)]; rfl)
theorem ent68 : Enters Try.prog 68 := Enters.mk Try.func68 (by kernel_rfl) rfl
theorem s_contains (l : List Int) (hl : l.length ≤ 1048576) : PSpec Try.prog 68 [.list (l.map (.int .i64)), .fn (.func 66) [] []] (.ok (.bool (!l.all okS))) := by
  refine pspec_of Try.func68 (rfl : Try.f68.body = some _) rfl ?_
  intro E A C hN hL
  replace hN : C.N = 9 := hN
  simp only [Gh.num, List.map_cons, List.map_nil, Nat.reduceAdd]
  repeat refine gwp_seq ?_
  refine gwp_region ?_
  refine v0 (k := ?_)
  refine nil0 ?_
  refine cl [0, 1] (k := ?_)
  repeat refine gwp_seq ?_
  refine gwp_region ?_
  refine v0 (k := ?_)
  refine v0 (k := ?_)
  refine pc0 (spec := s_index l hl) (hent := ent74) (k := ?_)
  refine v0 (k := ?_)
  refine v0 (k := ?_)
  refine nil0 ?_
  repeat refine gwp_seq ?_
  refine gwp_ret ?_
  repeat (first | refine gthen_ret ?_ | refine gblock_ret ?_ | refine gnoGoto_ret ?_)
  refine fin_ret ?_
  refine fp (hR := ?_)
  rw [← idxBad_sign l 0]
  rfl
theorem ent45 : Enters Try.prog 45 := Enters.mk Try.func45 (by kernel_rfl) rfl
theorem s_isNumber {E : Env Try.prog} {A : E.α} (num n : Int) (h : 0 ≤ num ∧ num ≤ 8) : Gh.Spec E 45 [.ptr [.p (.int .i64 num)], .p (.int .i64 n)] (mkHp []) A (fun y => y = .ok (.p (.bool (decide (0 ≤ n) && decide (n ≤ num - 1)))) (mkHp []) A) := by
  refine spec_of Try.func45 (rfl : Try.f45.body = some _) (Nat.le_of_ble_eq_true rfl) (fun id h => ?_) (fun j id h => ?_) ?_
  · exact wf1x h
  · exact wf2x h
  intro C hN hL
  replace hN : C.N = 13 := hN
  simp only [Gh.num, List.map_cons, List.map_nil, Nat.reduceAdd]
  repeat refine gwp_seq ?_
  refine gwp_region ?_
  refine v0 (k := ?_)
  refine nil0 ?_
  refine cl [0, 1] (k := ?_)
  repeat refine gwp_seq ?_
  refine gwp_region ?_
  refine v0 (k := ?_)
  refine v0 (k := ?_)
  refine v0 (k := ?_)
  refine v0 (k := ?_)
  refine v0 (k := ?_)
  refine v0 (k := ?_)
  refine v1 (hc := by (first | exact True.intro | (simp only [inI]; omega) | (simp [P.size] <;> omega))) (k := ?_)
  refine pc0 (spec := s_within _ _ _) (hent := ent67) (k := ?_)
  refine v0 (k := ?_)
  refine nil0 ?_
  repeat refine gwp_seq ?_
  refine gwp_ret ?_
  repeat (first | refine gthen_ret ?_ | refine gblock_ret ?_ | refine gnoGoto_ret ?_)
  refine fin_ret ?_
  refine fp (hR := ?_)
  rfl
theorem ent50 : Enters Try.prog 50 := Enters.mk Try.func50 (by kernel_rfl) rfl
theorem s_every {E : Env Try.prog} {A : E.α} (g0 g1 g2 g3 g4 : P) (ns : List P) (h : ns.length ≤ 12) : Gh.Spec E 50 [.ptr [.p g0, .p g1, .p g2, .p g3, .p g4, .p (.list ns)]] (mkHp []) A (fun y => y = .ok (.p (.int .u64 ((2 ^ ns.length : Nat) - 1 : Int))) (mkHp []) A) := by
  refine spec_of Try.func50 (rfl : Try.f50.body = some _) (Nat.le_of_ble_eq_true rfl) (fun id h => ?_) (fun j id h => ?_) ?_
  · exact wf1x h
  · exact wf2x h
  intro C hN hL
  replace hN : C.N = 10 := hN
  simp only [Gh.num, List.map_cons, List.map_nil, Nat.reduceAdd]
  repeat refine gwp_seq ?_
  refine gwp_region ?_
  refine v0 (k := ?_)
  refine nil0 ?_
  refine cl [0] (k := ?_)
  repeat refine gwp_seq ?_
  refine gwp_region ?_
  refine v0 (k := ?_)
  refine v0 (k := ?_)
  refine v0 (k := ?_)
  refine v0 (k := ?_)
  refine v0 (k := ?_)
  refine v1 (hc := by (first | exact True.intro | (simp only [inI]; omega) | (simp [P.size] <;> omega))) (k := ?_)
  refine v1 (hc := by (first | exact True.intro | (simp only [inI]; omega) | (simp [P.size] <;> omega))) (k := ?_)
  refine v0 (k := ?_)
  refine nil0 ?_
  repeat refine gwp_seq ?_
  refine gwp_ret ?_
  repeat (first | refine gthen_ret ?_ | refine gblock_ret ?_ | refine gnoGoto_ret ?_)
  refine fin_ret ?_
  refine fp (hR := ?_)
  rw [every_u64 _ (by omega)]
theorem ent48 : Enters Try.prog 48 := Enters.mk Try.func48 (by kernel_rfl) rfl
theorem s_same (a b x y : Int) (w : List Int) (hw : w.length = 8) (ha : 0 ≤ a ∧ a < 8) (hb : 0 ≤ b ∧ b < 8) (hx : w[a.toNat]? = some x) (hy : w[b.toNat]? = some y) : PSpec Try.prog 48 [.agg [.int .i64 a, .int .i64 b], .agg (w.map (.int .i64))] (.ok (.bool (decide (x = y)))) := by
  refine pspec_of Try.func48 (rfl : Try.f48.body = some _) rfl ?_
  intro E A C hN hL
  replace hN : C.N = 14 := hN
  simp only [Gh.num, List.map_cons, List.map_nil, Nat.reduceAdd]
  repeat refine gwp_seq ?_
  refine gwp_region ?_
  refine n1 120 false (hc := by (first | exact True.intro | (simp only [inI]; omega) | (simp [P.size, all_int, allOne_p, goods_p, allOne, goods, good, G.one, P.one] <;> omega))) (k := ?_)
  refine n1 130 false (hc := by (first | exact True.intro | (simp only [inI]; omega) | (simp [P.size, all_int, allOne_p, goods_p, allOne, goods, good, G.one, P.one] <;> omega))) (k := ?_)
  refine v0 (k := ?_)
  refine nil0 ?_
  refine cl [2, 3] (k := ?_)
  repeat refine gwp_seq ?_
  refine rd ?_
  refine d0 0 (k := ?_)
  refine d0 1 (k := ?_)
  refine d1 2 (hc := by (first | exact True.intro | (simp only [inI]; omega) | (simp [P.size, all_int, allOne_p, goods_p, allOne, goods, good, G.one, P.one] <;> omega))) (k := ?_)
  refine d0 3 (k := ?_)
  refine d0 4 (k := ?_)
  refine d0 5 (k := ?_)
  refine d1 6 (hc := by (first | exact True.intro | (simp only [inI]; omega) | (simp [P.size, all_int, allOne_p, goods_p, allOne, goods, good, G.one, P.one] <;> omega))) (k := ?_)
  refine d0 7 (k := ?_)
  refine d0 8 (k := ?_)
  refine d0 9 (k := ?_)
  refine dz 10 [0, 1, 3, 7, 0, 16, 48, 112, 255, 511] (h := ?_)
  refine de 10 (h := ?_)
  repeat refine gwp_seq ?_
  refine gwp_ret ?_
  repeat (first | refine gthen_ret ?_ | refine gblock_ret ?_ | refine gnoGoto_ret ?_)
  refine fin_ret ?_
  refine fp (hR := ?_)
  rfl
theorem ent47 : Enters Try.prog 47 := Enters.mk Try.func47 (by kernel_rfl) rfl
theorem s_not (a b x y : Int) (w : List Int) (hw : w.length = 8) (ha : 0 ≤ a ∧ a < 8) (hb : 0 ≤ b ∧ b < 8) (hx : w[a.toNat]? = some x) (hy : w[b.toNat]? = some y) : PSpec Try.prog 47 [.agg [.int .i64 a, .int .i64 b], .agg (w.map (.int .i64))] (.ok (.bool (!decide (x = y)))) := by
  refine pspec_of Try.func47 (rfl : Try.f47.body = some _) rfl ?_
  intro E A C hN hL
  replace hN : C.N = 14 := hN
  simp only [Gh.num, List.map_cons, List.map_nil, Nat.reduceAdd]
  repeat refine gwp_seq ?_
  refine gwp_region ?_
  refine n1 120 false (hc := by (first | exact True.intro | (simp only [inI]; omega) | (simp [P.size, all_int, allOne_p, goods_p, allOne, goods, good, G.one, P.one] <;> omega))) (k := ?_)
  refine n1 130 false (hc := by (first | exact True.intro | (simp only [inI]; omega) | (simp [P.size, all_int, allOne_p, goods_p, allOne, goods, good, G.one, P.one] <;> omega))) (k := ?_)
  refine v0 (k := ?_)
  refine nil0 ?_
  refine cl [2, 3] (k := ?_)
  repeat refine gwp_seq ?_
  refine rd ?_
  refine d0 0 (k := ?_)
  refine d0 1 (k := ?_)
  refine d1 2 (hc := by (first | exact True.intro | (simp only [inI]; omega) | (simp [P.size, all_int, allOne_p, goods_p, allOne, goods, good, G.one, P.one] <;> omega))) (k := ?_)
  refine d0 3 (k := ?_)
  refine d0 4 (k := ?_)
  refine d0 5 (k := ?_)
  refine d1 6 (hc := by (first | exact True.intro | (simp only [inI]; omega) | (simp [P.size, all_int, allOne_p, goods_p, allOne, goods, good, G.one, P.one] <;> omega))) (k := ?_)
  refine d0 7 (k := ?_)
  refine d0 8 (k := ?_)
  refine d0 9 (k := ?_)
  refine dz 10 [0, 1, 3, 7, 0, 16, 48, 112, 255, 511] (h := ?_)
  refine de 10 (h := ?_)
  repeat refine gwp_seq ?_
  refine gwp_ret ?_
  repeat (first | refine gthen_ret ?_ | refine gblock_ret ?_ | refine gnoGoto_ret ?_)
  refine fin_ret ?_
  refine fp (hR := ?_)
  rfl
theorem ent57 : Enters Try.prog 57 := Enters.mk Try.func57 (by kernel_rfl) rfl
theorem s_plates (w : List Int) (num : Nat) (hw : w.length = 8) (hnum : num ≤ 8) : PSpec Try.prog 57 [.agg (w.map (.int .i64)), .int .i64 num] (.ok (.int .i64 (cntP w num))) := by
  refine pspec_of Try.func57 (rfl : Try.f57.body = some _) rfl ?_
  intro E A C hN hL
  replace hN : C.N = 19 := hN
  simp only [Gh.num, List.map_cons, List.map_nil, Nat.reduceAdd]
  repeat refine gwp_seq ?_
  refine gwp_region ?_
  refine n1 120 false (hc := by (first | exact True.intro | (simp only [inI]; omega) | (simp [P.size, all_int, allOne_p, goods_p, allOne, goods, good, G.one, P.one] <;> omega))) (k := ?_)
  refine v0 (k := ?_)
  refine nil0 ?_
  refine cl [1, 2, 4] (k := ?_)
  repeat refine gwp_seq ?_
  refine gwp_region ?_
  refine v0 (k := ?_)
  refine v0 (k := ?_)
  refine nil0 ?_
  refine cl [2, 4, 6, 7] (k := ?_)
  repeat refine gwp_seq ?_
  refine gwp_block ?_
  repeat refine gwp_seq ?_
  refine gc_loop (fun mz σ => ∃ k : Nat, (k ≤ num) ∧ mz = num - k ∧ σ = (sg [(2, .ref 120 0), (4, .p (.int .i64 (cntP w k))), (6, .p (.int .i64 num)), (7, .p (.int .i64 k))] [(120, .cells ((w.map (.int .i64)).map .p) 0)] A [] : Sg E)) ?_ (fun mz σ hI => ?_)
  · refine lbeg [2, 4, 6, 7] (hV := ?_)
    exact ⟨_, 0, by omega, rfl, rfl⟩
  obtain ⟨k, hk, hn, rfl⟩ := hI
  have hle := cntP_le w k
  repeat refine gwp_seq ?_
  refine gwp_region ?_
  refine v0 (k := ?_)
  refine nil0 ?_
  repeat refine gwp_seq ?_
  refine cB (k1 := fun hb1 => ?_) (k0 := fun hb1 => ?_)
  · try simp only [decide_eq_true_eq, decide_eq_false_iff_not, Int.not_lt, Int.not_le, Bool.not_eq_eq_eq_not, Bool.not_true, Bool.not_false, Bool.and_eq_true, Bool.and_eq_false_iff, Bool.or_eq_true, Bool.or_eq_false_iff] at hb1
    repeat refine gwp_seq ?_
    refine gwp_skip ?_
    refine cl [2, 4, 6, 7] (k := ?_)
    repeat refine gwp_seq ?_
    refine gwp_block ?_
    repeat refine gwp_seq ?_
    refine gwp_region ?_
    refine v0 (k := ?_)
    refine v0 (k := ?_)
    refine nil0 ?_
    refine cl [2, 4, 5, 6, 7] (k := ?_)
    repeat refine gwp_seq ?_
    obtain ⟨x, hx⟩ := getE (l := w) (k := k) (by omega)
    refine gwp_region ?_
    refine v0 (k := ?_)
    refine v1 (hc := by (first | exact True.intro | (simp only [inI]; omega) | (simp [P.size, all_int, allOne_p, goods_p, allOne, goods, good, G.one, P.one] <;> omega))) (k := ?_)
    refine v0 (k := ?_)
    refine v0 (k := ?_)
    refine v0 (k := ?_)
    refine nil0 ?_
    repeat refine gwp_seq ?_
    refine cB (k1 := fun hb2 => ?_) (k0 := fun hb2 => ?_)
    · try simp only [decide_eq_true_eq, decide_eq_false_iff_not, Int.not_lt, Int.not_le, Bool.not_eq_eq_eq_not, Bool.not_true, Bool.not_false, Bool.and_eq_true, Bool.and_eq_false_iff, Bool.or_eq_true, Bool.or_eq_false_iff] at hb2
      repeat refine gwp_seq ?_
      refine gwp_region ?_
      refine v0 (k := ?_)
      refine v1 (hc := by (first | exact True.intro | (simp only [inI]; omega) | (simp [P.size, all_int, allOne_p, goods_p, allOne, goods, good, G.one, P.one] <;> omega))) (k := ?_)
      refine v0 (k := ?_)
      refine nil0 ?_
      refine cl [2, 4, 6, 7] (k := ?_)
      repeat refine gwp_seq ?_
      refine gwp_region ?_
      refine v1 (hc := by (first | exact True.intro | (simp only [inI]; omega) | (simp [P.size, all_int, allOne_p, goods_p, allOne, goods, good, G.one, P.one] <;> omega))) (k := ?_)
      refine v0 (k := ?_)
      refine nil0 ?_
      refine lend [2, 4, 6, 7] (h := ?_) (hV := ?_) (n' := num - (k + 1))
      · omega
      exact ⟨k + 1, by omega, rfl, sgE (by simp [cntP, hx, *]) rfl⟩
    · try simp only [decide_eq_true_eq, decide_eq_false_iff_not, Int.not_lt, Int.not_le, Bool.not_eq_eq_eq_not, Bool.not_true, Bool.not_false, Bool.and_eq_true, Bool.and_eq_false_iff, Bool.or_eq_true, Bool.or_eq_false_iff] at hb2
      repeat refine gwp_seq ?_
      refine gwp_skip ?_
      refine cl [2, 4, 6, 7] (k := ?_)
      repeat refine gwp_seq ?_
      refine gwp_region ?_
      refine v1 (hc := by (first | exact True.intro | (simp only [inI]; omega) | (simp [P.size, all_int, allOne_p, goods_p, allOne, goods, good, G.one, P.one] <;> omega))) (k := ?_)
      refine v0 (k := ?_)
      refine nil0 ?_
      refine lend [2, 4, 6, 7] (h := ?_) (hV := ?_) (n' := num - (k + 1))
      · omega
      exact ⟨k + 1, by omega, rfl, sgE (by simp [cntP, hx, *]) rfl⟩
  · try simp only [decide_eq_true_eq, decide_eq_false_iff_not, Int.not_lt, Int.not_le, Bool.not_eq_eq_eq_not, Bool.not_true, Bool.not_false, Bool.and_eq_true, Bool.and_eq_false_iff, Bool.or_eq_true, Bool.or_eq_false_iff] at hb1
    repeat refine gwp_seq ?_
    refine gwp_exit ?_
    repeat (first | refine gthen_exit ?_ | refine gnoGoto_exit ?_ | refine gblock_here ?_ | refine gblock_out rfl ?_)
    refine cl [4] (k := ?_)
    repeat refine gwp_seq ?_
    refine gwp_region ?_
    refine v0 (k := ?_)
    refine v0 (k := ?_)
    refine nil0 ?_
    repeat refine gwp_seq ?_
    refine gwp_ret ?_
    repeat (first | refine gthen_ret ?_ | refine gblock_ret ?_ | refine gnoGoto_ret ?_)
    refine fin_ret ?_
    refine fp (hR := ?_)
    have : k = num := by omega
    subst this
    rfl
theorem ent71 : Enters Try.prog 71 := Enters.mk Try.func71 (by kernel_rfl) rfl
theorem s_has (set n : Nat) (hs : set < 2 ^ 64) (hn : n < 64) : PSpec Try.prog 71 [.int .u64 set, .int .i64 n] (.ok (.bool (set.testBit n))) := by
  refine pspec_of Try.func71 (rfl : Try.f71.body = some _) rfl ?_
  intro E A C hN hL
  replace hN : C.N = 10 := hN
  simp only [Gh.num, List.map_cons, List.map_nil, Nat.reduceAdd]
  repeat refine gwp_seq ?_
  refine gwp_region ?_
  refine v0 (k := ?_)
  refine nil0 ?_
  refine cl [0, 1] (k := ?_)
  repeat refine gwp_seq ?_
  refine gwp_region ?_
  refine v0 (k := ?_)
  refine v0 (k := ?_)
  refine v1 (hc := by (first | exact True.intro | (simp only [inI]; omega) | (simp [P.size] <;> omega))) (k := ?_)
  refine v0 (k := ?_)
  refine v0 (k := ?_)
  refine v0 (k := ?_)
  refine nil0 ?_
  repeat refine gwp_seq ?_
  refine gwp_ret ?_
  repeat (first | refine gthen_ret ?_ | refine gblock_ret ?_ | refine gnoGoto_ret ?_)
  refine fin_ret ?_
  refine fp (hR := ?_)
  rw [← shr_bit set n hs hn]
  rfl
theorem ent79 : Enters Try.prog 79 := Enters.mk Try.func79 (by kernel_rfl) rfl
theorem s_ones64 (n : Nat) (h : n < 4096) : PSpec Try.prog 79 [.int .u64 n] (.ok (.int .i64 (pop n))) := by
  refine pspec_of Try.func79 (rfl : Try.f79.body = some _) rfl ?_
  intro E A C hN hL
  replace hN : C.N = 35 := hN
  simp only [Gh.num, List.map_cons, List.map_nil, Nat.reduceAdd]
  obtain ⟨h1, h2, h3⟩ := swar_ok n h
  repeat refine gwp_seq ?_
  refine gwp_region ?_
  refine v0 (k := ?_)
  refine nil0 ?_
  refine cl [0] (k := ?_)
  repeat refine gwp_seq ?_
  refine gwp_region ?_
  refine v0 (k := ?_)
  refine v1 (hc := by (first | exact True.intro | (simp only [inI]; omega) | (simp [P.size] <;> omega))) (k := ?_)
  refine v0 (k := ?_)
  refine v0 (k := ?_)
  refine v0 (k := ?_)
  refine v1 (hc := by (first | exact True.intro | (simp only [inI]; omega) | (simp [P.size] <;> omega))) (k := ?_)
  refine v0 (k := ?_)
  refine nil0 ?_
  refine cl [0] (k := ?_)
  repeat refine gwp_seq ?_
  refine gwp_region ?_
  refine v0 (k := ?_)
  refine v1 (hc := by (first | exact True.intro | (simp only [inI]; omega) | (simp [P.size] <;> omega))) (k := ?_)
  refine v0 (k := ?_)
  refine v0 (k := ?_)
  refine v0 (k := ?_)
  refine v1 (hc := by (first | exact True.intro | (simp only [inI]; omega) | (simp [P.size] <;> omega))) (k := ?_)
  refine v0 (k := ?_)
  refine nil0 ?_
  refine cl [0] (k := ?_)
  repeat refine gwp_seq ?_
  refine gwp_region ?_
  refine v0 (k := ?_)
  refine v1 (hc := by (first | exact True.intro | (simp only [inI]; omega) | (simp [P.size] <;> omega))) (k := ?_)
  refine v0 (k := ?_)
  refine v1 (hc := by (first | exact True.intro | (simp only [inI]; omega) | (simp [P.size] <;> omega))) (k := ?_)
  refine v0 (k := ?_)
  refine v0 (k := ?_)
  refine nil0 ?_
  refine cl [0] (k := ?_)
  repeat refine gwp_seq ?_
  refine gwp_region ?_
  refine v0 (k := ?_)
  refine v0 (k := ?_)
  refine v1 (hc := by (first | exact True.intro | (simp only [inI]; omega) | (simp [P.size] <;> omega))) (k := ?_)
  refine v1 (hc := by (first | exact True.intro | (simp only [inI]; omega) | (simp [P.size] <;> omega))) (k := ?_)
  refine v0 (k := ?_)
  refine nil0 ?_
  refine cl [0] (k := ?_)
  repeat refine gwp_seq ?_
  refine gwp_region ?_
  refine v0 (k := ?_)
  refine v0 (k := ?_)
  refine v1 (hc := by (first | exact True.intro | (simp only [inI]; omega) | (simp [P.size] <;> omega))) (k := ?_)
  refine v1 (hc := by (first | exact True.intro | (simp only [inI]; omega) | (simp [P.size] <;> omega))) (k := ?_)
  refine v0 (k := ?_)
  refine nil0 ?_
  refine cl [0] (k := ?_)
  repeat refine gwp_seq ?_
  refine gwp_region ?_
  refine v0 (k := ?_)
  refine v0 (k := ?_)
  refine v1 (hc := by (first | exact True.intro | (simp only [inI]; omega) | (simp [P.size] <;> omega))) (k := ?_)
  refine v1 (hc := by (first | exact True.intro | (simp only [inI]; omega) | (simp [P.size] <;> omega))) (k := ?_)
  refine v0 (k := ?_)
  refine nil0 ?_
  refine cl [0] (k := ?_)
  repeat refine gwp_seq ?_
  refine gwp_le (σ' := sg [(0, .p (.int .u64 (swar n)))] [] A []) (fun _ _ h => h) ?_
  refine gwp_region ?_
  refine v0 (k := ?_)
  refine v1 (hc := by (first | exact True.intro | (simp only [inI]; omega) | (simp [P.size] <;> omega))) (k := ?_)
  refine v0 (k := ?_)
  refine v0 (k := ?_)
  refine nil0 ?_
  repeat refine gwp_seq ?_
  refine gwp_ret ?_
  repeat (first | refine gthen_ret ?_ | refine gblock_ret ?_ | refine gnoGoto_ret ?_)
  refine fin_ret ?_
  refine fp (hR := ?_)
  rw [← h3]
  rfl
theorem ent77 : Enters Try.prog 77 := Enters.mk Try.func77 (by kernel_rfl) rfl
theorem s_ones (n : Nat) (h : n < 4096) : PSpec Try.prog 77 [.int .u64 n] (.ok (.int .i64 (pop n))) := by
  refine pspec_of Try.func77 (rfl : Try.f77.body = some _) rfl ?_
  intro E A C hN hL
  replace hN : C.N = 8 := hN
  simp only [Gh.num, List.map_cons, List.map_nil, Nat.reduceAdd]
  repeat refine gwp_seq ?_
  refine gwp_region ?_
  refine v0 (k := ?_)
  refine nil0 ?_
  repeat refine gwp_seq ?_
  refine cF (k := ?_)
  repeat refine gwp_seq ?_
  refine gwp_skip ?_
  refine cl [0] (k := ?_)
  repeat refine gwp_seq ?_
  refine gwp_region ?_
  refine v0 (k := ?_)
  refine pc0 (spec := s_ones64 n h) (hent := ent79) (k := ?_)
  refine v0 (k := ?_)
  refine nil0 ?_
  repeat refine gwp_seq ?_
  refine gwp_ret ?_
  repeat (first | refine gthen_ret ?_ | refine gblock_ret ?_ | refine gnoGoto_ret ?_)
  refine fin_ret ?_
  refine fp (hR := ?_)
  rfl
theorem ent73 : Enters Try.prog 73 := Enters.mk Try.func73 (by kernel_rfl) rfl
theorem s_size (n : Nat) (h : n < 4096) : PSpec Try.prog 73 [.int .u64 n] (.ok (.int .i64 (pop n))) := by
  refine pspec_of Try.func73 (rfl : Try.f73.body = some _) rfl ?_
  intro E A C hN hL
  replace hN : C.N = 5 := hN
  simp only [Gh.num, List.map_cons, List.map_nil, Nat.reduceAdd]
  repeat refine gwp_seq ?_
  refine gwp_region ?_
  refine v0 (k := ?_)
  refine nil0 ?_
  refine cl [0] (k := ?_)
  repeat refine gwp_seq ?_
  refine gwp_region ?_
  refine v0 (k := ?_)
  refine pc0 (spec := s_ones n h) (hent := ent77) (k := ?_)
  refine v0 (k := ?_)
  refine nil0 ?_
  repeat refine gwp_seq ?_
  refine gwp_ret ?_
  repeat (first | refine gthen_ret ?_ | refine gblock_ret ?_ | refine gnoGoto_ret ?_)
  refine fin_ret ?_
  refine fp (hR := ?_)
  rfl
end Go.Proofs.Ytedihdnkalmoiaa

/- What the program keeps of a shelf: its ways, and which of them are right. -/
namespace Go.Proofs.Ytedihdnkalmoiaa
open Go.Gh

def wP (w : List Int) : P := .agg (w.map (.int .i64))
def nt (n : Nt) : P := .iface (bif n.s then 75 else 74) (.agg [.int .i64 n.a, .int .i64 n.b])
/-- Are the notes of a set right in a way? -/
def rightW (s : Sh) (set : Nat) (w : List Int) : Bool := (List.range s.notes.length).all (noteOk s set w)
theorem right_not {s : Sh} {set : Nat} {w : List Int} {i : Nat} (hi : i < s.notes.length) (h : noteOk s set w i = false) : rightW s set w = false := by
  cases hw : rightW s set w with
  | false => rfl
  | true =>
    simp only [rightW, List.all_eq_true, List.mem_range] at hw
    rw [hw i hi] at h; cases h
theorem right_all {s : Sh} {set : Nat} {w : List Int} (h : ∀ i, i < s.notes.length → noteOk s set w i = true) : rightW s set w = true := by
  simp only [rightW, List.all_eq_true, List.mem_range]; exact h
theorem filter_at {α : Type} {p : α → Bool} {x : α} : ∀ {l : List α} {k : Nat}, l[k]? = some x → p x = true → (l.filter p)[((l.take k).filter p).length]? = some x
  | [], k, h, _ => by simp at h
  | y :: l, 0, h, hp => by simp at h; subst h; simp [hp]
  | y :: l, k + 1, h, hp => by
    simp at h
    have := filter_at h hp
    by_cases hy : p y = true
    · simp [hy, this]
    · simp [hy, this]
theorem take_filter {α : Type} {p : α → Bool} {x : α} {l : List α} {k : Nat} (h : l[k]? = some x) : ((l.take (k + 1)).filter p).length = ((l.take k).filter p).length + (if p x then 1 else 0) := by
  rw [List.take_add_one, h, List.filter_append, List.length_append]
  by_cases hp : p x = true <;> simp [hp]
theorem noteOk_out {s : Sh} {set i : Nat} {w : List Int} {z : Nt} (hz : s.notes[i]? = some z) (h : set.testBit i = false) : noteOk s set w i = true := by simp [noteOk, hz, h]
theorem noteOk_val {s : Sh} {set i : Nat} {w : List Int} {a b xa xb : Int} {t : Bool} (hz : s.notes[i]? = some ⟨a, b, t⟩) (ha : w[a.toNat]? = some xa) (hb : w[b.toNat]? = some xb) (h : set.testBit i = true) : noteOk s set w i = (decide (xa = xb) == t) := by
  simp [noteOk, hz, ha, hb, h]
end Go.Proofs.Ytedihdnkalmoiaa

/- All ways without notes, as the program makes them. -/
namespace Go.Proofs.Ytedihdnkalmoiaa
open Go.Gh

def oldS (sz : List Int) (n i : Nat) : Int := if i = n then 0 else sz.getD i 0
def badS (o w : Int) : Bool := !decide (o = 0) && (!decide (w = 0) && !decide (o = w))
def stepOk (s : Sh) (w sz : List Int) (n i : Nat) : Bool := !((decide (i < n) && !decide (w.getD i 0 = (i : Int))) || badS (oldS sz n i) (s.sizes.getD n 0))
def inL (s : Sh) (w : List Int) (n : Nat) : Bool := decide (s.lo ≤ (cntP w n : Int)) && decide ((cntP w n : Int) ≤ s.hi)
def onW (s : Sh) : Nat → List Int → List Int → Nat → List (List Int)
  | 0, w, _, n => if inL s w n then [w] else []
  | d + 1, w, sz, n => (List.range (n + 1)).flatMap fun i => if stepOk s w sz n i then onW s d (w.set n i) (sz.set i (max (oldS sz n i) (s.sizes.getD n 0))) (n + 1) else []
def onK (s : Sh) (d : Nat) (w sz : List Int) (n k : Nat) : List (List Int) := (List.range k).flatMap fun i => if stepOk s w sz n i then onW s d (w.set n i) (sz.set i (max (oldS sz n i) (s.sizes.getD n 0))) (n + 1) else []
theorem onK_succ (s : Sh) (d : Nat) (w sz : List Int) (n k : Nat) : onK s d w sz n (k + 1) = onK s d w sz n k ++ if stepOk s w sz n k then onW s d (w.set n k) (sz.set k (max (oldS sz n k) (s.sizes.getD n 0))) (n + 1) else [] := by
  simp [onK, List.range_succ]
theorem onW0 {s : Sh} {w sz : List Int} {n : Nat} (h : inL s w n = true) : onW s 0 w sz n = [w] := by rw [onW, if_pos h]
theorem onK_all (s : Sh) (d : Nat) (w sz : List Int) (n : Nat) : onK s d w sz n (n + 1) = onW s (d + 1) w sz n := rfl
/-- What is at hand of a call's ways lies in the whole. -/
def segOf (xs : List (List P)) (k : Nat) (l : List (List Int)) : Prop := ∀ (j : Nat) (x : List Int), l[j]? = some x → xs[k + j]? = some [wP x]
theorem seg_child {s : Sh} {d : Nat} {w sz : List Int} {n k i : Nat} {xs : List (List P)} (h : segOf xs k (onW s (d + 1) w sz n)) (hi : i ≤ n) (ho : stepOk s w sz n i = true) :
    segOf xs (k + (onK s d w sz n i).length) (onW s d (w.set n i) (sz.set i (max (oldS sz n i) (s.sizes.getD n 0))) (n + 1)) := fun j x hj => by
  have h1 : ∀ m, i + 1 ≤ m → m ≤ n + 1 → (onK s d w sz n m)[(onK s d w sz n i).length + j]? = some x := fun m => by
    induction m with
    | zero => intro h; omega
    | succ m ih =>
      intro h1 h2
      rw [onK_succ]
      by_cases e : m = i
      · subst e
        rw [if_pos ho, List.getElem?_append_right (by omega)]
        simpa using hj
      · have := ih (by omega) (by omega)
        have hlt := (List.getElem?_eq_some_iff.1 this).1
        rw [List.getElem?_append_left hlt]; exact this
  have := h _ _ (h1 (n + 1) (by omega) (Nat.le_refl _))
  rwa [Nat.add_assoc]
theorem set_other {w w' : List Int} {n : Nat} {x : Int} (hl : w'.length = w.length) (h : ∀ j, j ≠ n → w'[j]? = w[j]?) : w'.set n x = w.set n x := by
  refine List.ext_getElem? fun j => ?_
  by_cases e : j = n
  · subst e; simp [List.getElem?_set, hl]
  · rw [List.getElem?_set_ne (Ne.symm e), List.getElem?_set_ne (Ne.symm e), h j e]
theorem getD_of {l : List Int} {i : Nat} {x : Int} (h : l[i]? = some x) : l.getD i 0 = x := by simp [List.getD, h]
theorem stepOk_iff {s : Sh} {w sz : List Int} {n i : Nat} {wi ov ow : Int} (h1 : i ≠ n → w[i]? = some wi) (h2 : sz[i]? = some ov) (h3 : s.sizes[n]? = some ow) :
    stepOk s w sz n i = true ↔ ¬((i < n ∧ ¬ wi = (i : Int)) ∨ (i ≠ n ∧ ¬ ov = 0 ∧ ¬ ow = 0 ∧ ¬ ov = ow)) := by
  by_cases e : i = n
  · subst e; simp [stepOk, oldS, badS]
  · simp only [stepOk, oldS, badS, getD_of (h1 e), getD_of h2, getD_of h3, if_neg e]
    by_cases a1 : i < n <;> by_cases a2 : wi = (i : Int) <;> by_cases a3 : ov = 0 <;> by_cases a4 : ow = 0 <;> by_cases a5 : ov = ow <;> simp [*]
theorem stepOk_T {s : Sh} {w sz : List Int} {n i : Nat} {wi ov ow : Int} (h1 : i ≠ n → w[i]? = some wi) (h2 : sz[i]? = some ov) (h3 : s.sizes[n]? = some ow) (h : ¬((i < n ∧ ¬ wi = (i : Int)) ∨ (i ≠ n ∧ ¬ ov = 0 ∧ ¬ ow = 0 ∧ ¬ ov = ow))) : stepOk s w sz n i = true := (stepOk_iff h1 h2 h3).2 h
theorem stepOk_F {s : Sh} {w sz : List Int} {n i : Nat} {wi ov ow : Int} (h1 : i ≠ n → w[i]? = some wi) (h2 : sz[i]? = some ov) (h3 : s.sizes[n]? = some ow) (h : (i < n ∧ ¬ wi = (i : Int)) ∨ (i ≠ n ∧ ¬ ov = 0 ∧ ¬ ow = 0 ∧ ¬ ov = ow)) : stepOk s w sz n i = false := by
  cases e : stepOk s w sz n i with
  | false => rfl
  | true => exact absurd h ((stepOk_iff h1 h2 h3).1 e)
theorem set_self {l : List Int} {i : Nat} {x : Int} (h : l[i]? = some x) : l.set i x = l := by
  refine List.ext_getElem? fun j => ?_
  by_cases e : j = i
  · subst e
    have := (List.getElem?_eq_some_iff.1 h).1
    rw [List.getElem?_set_self this, h]
  · rw [List.getElem?_set_ne (Ne.symm e)]
def onN (s : Sh) : List (List Int) := onW s s.sizes.length (List.replicate 8 0) (List.replicate 8 0) 0
end Go.Proofs.Ytedihdnkalmoiaa
