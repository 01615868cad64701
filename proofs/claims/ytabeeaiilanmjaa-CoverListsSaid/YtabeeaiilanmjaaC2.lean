/- The statement CoverLists: the call returns true for every input, and its arguments read as before; no condition. -/
import Derived.Test.YtabeeaiilanmjaaC1
set_option linter.unusedVariables false
set_option linter.unusedSimpArgs false
/- The statement CoverLists: what the program says is what the document says. -/
namespace Go.Proofs.Ytabeeaiilanmjaa
open Go.Gh
set_option maxRecDepth 100000
set_option maxHeartbeats 4000000
structure kLp1 (c : Prop) : Prop where
  h : c := by (first | exact True.intro | omega | (simp only [inI]; omega) | (simp [P.size, pS, all_int, allOne_p, goods_p, allOne, goods, good, G.one, P.one, P.cells] <;> first | omega | assumption | simp_all))
theorem l_lists_x (f : Fd) (hh : hvyQ f 6 20 = true) : PSpec Try.prog 4 [.agg [.list (f.ps.map pS), .int .i64 f.el, .int .i64 f.eh, .int .i64 f.nl, .int .i64 f.nh, .int .i64 f.dl, .int .i64 f.dh, .int .i64 f.dep, .int .i64 f.tm, .int .i64 f.gp]] (.ok (.bool true)) := by
  refine pspec_of Try.func4 (rfl : Try.f4.body = some _) rfl ?_
  intro E A C hN hL
  replace hN : C.N = 103 := hN
  simp only [Gh.num, List.map_cons, List.map_nil, Nat.reduceAdd]
  have hdt : ∀ (i : Decidable True), @decide True i = true := fun i => decide_eq_true trivial
  have hdf : ∀ (i : Decidable False), @decide False i = false := fun i => decide_eq_false id
  repeat refine gwp_seq ?_
  refine gwp_region ?_
  refine n1 110 false (hc := kLp1.h {}) (k := ?_)
  refine v0 (k := ?_)
  refine nil0 ?_
  refine cl [1] (k := ?_)
  repeat refine gwp_seq ?_
  refine gwp_region ?_
  refine v0 (k := ?_)
  refine pc0 (spec := l_heavy f 6 20) (hent := ent12) (k := ?_)
  refine rb 20 true (h := by (exact hh)) (k := ?_)
  refine nil0 ?_
  repeat refine gwp_seq ?_
  refine cT (k := ?_)
  repeat refine gwp_seq ?_
  refine gwp_region ?_
  refine pc0 (spec := l_awake) (hent := ent13) (k := ?_)
  refine v0 (k := ?_)
  refine nil0 ?_
  repeat refine gwp_seq ?_
  refine gwp_ret ?_
  repeat (first | refine gthen_ret ?_ | refine gblock_ret ?_ | refine gnoGoto_ret ?_)
  refine fin_ret ?_
  refine fp (hR := ?_)
  rfl
theorem l_lists_a (f : Fd) (hh : hvyQ f 6 20 = false) (hv : f.valid = false) : PSpec Try.prog 4 [.agg [.list (f.ps.map pS), .int .i64 f.el, .int .i64 f.eh, .int .i64 f.nl, .int .i64 f.nh, .int .i64 f.dl, .int .i64 f.dh, .int .i64 f.dep, .int .i64 f.tm, .int .i64 f.gp]] (.ok (.bool true)) := by
  refine pspec_of Try.func4 (rfl : Try.f4.body = some _) rfl ?_
  intro E A C hN hL
  replace hN : C.N = 103 := hN
  simp only [Gh.num, List.map_cons, List.map_nil, Nat.reduceAdd]
  have hdt : ∀ (i : Decidable True), @decide True i = true := fun i => decide_eq_true trivial
  have hdf : ∀ (i : Decidable False), @decide False i = false := fun i => decide_eq_false id
  have hl : f.ps.length ≤ 1048576 := by have := hvy_len hh; omega
  repeat refine gwp_seq ?_
  refine gwp_region ?_
  refine n1 110 false (hc := kLp1.h {}) (k := ?_)
  refine v0 (k := ?_)
  refine nil0 ?_
  refine cl [1] (k := ?_)
  repeat refine gwp_seq ?_
  refine gwp_region ?_
  refine v0 (k := ?_)
  refine pc0 (spec := l_heavy f 6 20) (hent := ent12) (k := ?_)
  refine rb 20 false (h := by (exact hh)) (k := ?_)
  refine nil0 ?_
  repeat refine gwp_seq ?_
  refine cF (k := ?_)
  repeat refine gwp_seq ?_
  refine gwp_skip ?_
  refine cl [1] (k := ?_)
  repeat refine gwp_seq ?_
  refine gwp_region ?_
  refine v0 (k := ?_)
  refine pc0 (spec := sh_f f hl hv) (hent := ent20) (k := ?_)
  refine v0 (k := ?_)
  refine v0 (k := ?_)
  refine v0 (k := ?_)
  refine v0 (k := ?_)
  refine v0 (k := ?_)
  refine nil0 ?_
  refine cl [1, 3, 4] (k := ?_)
  repeat refine gwp_seq ?_
  refine gwp_region ?_
  refine v0 (k := ?_)
  refine pc0 (spec := r_short_f f hl hv) (hent := ent21) (k := ?_)
  refine v0 (k := ?_)
  refine v0 (k := ?_)
  refine v0 (k := ?_)
  refine v0 (k := ?_)
  refine v0 (k := ?_)
  refine nil0 ?_
  refine cl [1, 3, 4, 5, 6] (k := ?_)
  repeat refine gwp_seq ?_
  refine gwp_region ?_
  refine v0 (k := ?_)
  refine pc0 (spec := li_f f hl hv) (hent := ent22) (k := ?_)
  refine v0 (k := ?_)
  refine v0 (k := ?_)
  refine v0 (k := ?_)
  refine v0 (k := ?_)
  refine v0 (k := ?_)
  refine nil0 ?_
  refine cl [1, 3, 4, 5, 6, 7, 8] (k := ?_)
  repeat refine gwp_seq ?_
  refine gwp_region ?_
  refine v0 (k := ?_)
  refine pc0 (spec := r_lists_f f hl hv) (hent := ent23) (k := ?_)
  refine v0 (k := ?_)
  refine v0 (k := ?_)
  refine v0 (k := ?_)
  refine v0 (k := ?_)
  refine v0 (k := ?_)
  refine nil0 ?_
  refine cl [1, 3, 4, 5, 6, 7, 8, 9, 10] (k := ?_)
  repeat refine gwp_seq ?_
  refine gwp_region ?_
  refine v0 (k := ?_)
  refine pc0 (spec := ne_f f hl hv) (hent := ent24) (k := ?_)
  refine v0 (k := ?_)
  refine v0 (k := ?_)
  refine v0 (k := ?_)
  refine v0 (k := ?_)
  refine v0 (k := ?_)
  refine nil0 ?_
  refine cl [1, 3, 4, 5, 6, 7, 8, 9, 10, 11, 12] (k := ?_)
  repeat refine gwp_seq ?_
  refine gwp_region ?_
  refine v0 (k := ?_)
  refine pc0 (spec := r_need_f f hl hv) (hent := ent25) (k := ?_)
  refine v0 (k := ?_)
  refine v0 (k := ?_)
  refine v0 (k := ?_)
  refine v0 (k := ?_)
  refine v0 (k := ?_)
  refine nil0 ?_
  refine cl [1, 3, 4, 5, 6, 7, 8, 9, 10, 11, 12, 13, 14] (k := ?_)
  repeat refine gwp_seq ?_
  refine gwp_region ?_
  refine v0 (k := ?_)
  refine pc0 (spec := ap_f f hl hv) (hent := ent26) (k := ?_)
  refine v0 (k := ?_)
  refine v0 (k := ?_)
  refine v0 (k := ?_)
  refine v0 (k := ?_)
  refine v0 (k := ?_)
  refine nil0 ?_
  refine cl [1, 3, 4, 5, 6, 7, 8, 9, 10, 11, 12, 13, 14, 15, 16] (k := ?_)
  repeat refine gwp_seq ?_
  refine gwp_region ?_
  refine v0 (k := ?_)
  refine pc0 (spec := r_apart_f f hl hv) (hent := ent27) (k := ?_)
  refine v0 (k := ?_)
  refine v0 (k := ?_)
  refine v0 (k := ?_)
  refine v0 (k := ?_)
  refine v0 (k := ?_)
  refine nil0 ?_
  refine cl [3, 4, 5, 6, 7, 8, 9, 10, 11, 12, 13, 14, 15, 16, 17, 18] (k := ?_)
  repeat refine gwp_seq ?_
  refine gwp_region ?_
  refine v0 (k := ?_)
  refine v0 (k := ?_)
  refine v0 (k := ?_)
  refine rb 64 true (h := by (first | rfl | decide | simp)) (k := ?_)
  refine v0 (k := ?_)
  refine w0 (k := ?_)
  refine w0 (k := ?_)
  refine w0 (k := ?_)
  refine rb 68 true (h := by (first | rfl | decide | simp)) (k := ?_)
  refine v0 (k := ?_)
  refine v0 (k := ?_)
  refine w0 (k := ?_)
  refine w0 (k := ?_)
  refine w0 (k := ?_)
  refine rb 73 true (h := by (first | rfl | decide | simp)) (k := ?_)
  refine v0 (k := ?_)
  refine v0 (k := ?_)
  refine w0 (k := ?_)
  refine w0 (k := ?_)
  refine w0 (k := ?_)
  refine rb 78 true (h := by (first | rfl | decide | simp)) (k := ?_)
  refine v0 (k := ?_)
  refine v0 (k := ?_)
  refine w0 (k := ?_)
  refine w0 (k := ?_)
  refine w0 (k := ?_)
  refine rb 83 true (h := by (first | rfl | decide | simp)) (k := ?_)
  refine v0 (k := ?_)
  refine v0 (k := ?_)
  refine w0 (k := ?_)
  refine w0 (k := ?_)
  refine w0 (k := ?_)
  refine rb 88 true (h := by (first | rfl | decide | simp)) (k := ?_)
  refine v0 (k := ?_)
  refine v0 (k := ?_)
  refine w0 (k := ?_)
  refine w0 (k := ?_)
  refine pcw (spec := r_places [] (by decide)) (hent := ent28) (k := ?_)
  refine rb 93 true (h := by (rfl)) (k := ?_)
  refine v0 (k := ?_)
  refine v0 (k := ?_)
  refine w0 (k := ?_)
  refine w0 (k := ?_)
  refine w0 (k := ?_)
  refine rb 98 true (h := by (first | rfl | decide | simp)) (k := ?_)
  refine v0 (k := ?_)
  refine v0 (k := ?_)
  refine pcw (spec := l_awake) (hent := ent13) (k := ?_)
  refine v0 (k := ?_)
  refine v0 (k := ?_)
  refine nil0 ?_
  repeat refine gwp_seq ?_
  refine gwp_ret ?_
  repeat (first | refine gthen_ret ?_ | refine gblock_ret ?_ | refine gnoGoto_ret ?_)
  refine fin_ret ?_
  refine fp (hR := ?_)
  rfl
theorem l_lists_b (f : Fd) (hh : hvyQ f 6 20 = false) (hv : f.valid = true) (hw : (setsL f).find? (listQ f) = none) : PSpec Try.prog 4 [.agg [.list (f.ps.map pS), .int .i64 f.el, .int .i64 f.eh, .int .i64 f.nl, .int .i64 f.nh, .int .i64 f.dl, .int .i64 f.dh, .int .i64 f.dep, .int .i64 f.tm, .int .i64 f.gp]] (.ok (.bool true)) := by
  refine pspec_of Try.func4 (rfl : Try.f4.body = some _) rfl ?_
  intro E A C hN hL
  replace hN : C.N = 103 := hN
  simp only [Gh.num, List.map_cons, List.map_nil, Nat.reduceAdd]
  have hdt : ∀ (i : Decidable True), @decide True i = true := fun i => decide_eq_true trivial
  have hdf : ∀ (i : Decidable False), @decide False i = false := fun i => decide_eq_false id
  have hq := (sho_none hv).1 hw
  have hqa : listQ f (allS f.ps.length) = false := by rw [list_all]; exact hq
  repeat refine gwp_seq ?_
  refine gwp_region ?_
  refine n1 110 false (hc := kLp1.h {}) (k := ?_)
  refine v0 (k := ?_)
  refine nil0 ?_
  refine cl [1] (k := ?_)
  repeat refine gwp_seq ?_
  refine gwp_region ?_
  refine v0 (k := ?_)
  refine pc0 (spec := l_heavy f 6 20) (hent := ent12) (k := ?_)
  refine rb 20 false (h := by (exact hh)) (k := ?_)
  refine nil0 ?_
  repeat refine gwp_seq ?_
  refine cF (k := ?_)
  repeat refine gwp_seq ?_
  refine gwp_skip ?_
  refine cl [1] (k := ?_)
  repeat refine gwp_seq ?_
  refine gwp_region ?_
  refine v0 (k := ?_)
  refine pc0 (spec := sh_n f hv hw) (hent := ent20) (k := ?_)
  refine v0 (k := ?_)
  refine v0 (k := ?_)
  refine v0 (k := ?_)
  refine v0 (k := ?_)
  refine v0 (k := ?_)
  refine nil0 ?_
  refine cl [1, 3, 4] (k := ?_)
  repeat refine gwp_seq ?_
  refine gwp_region ?_
  refine v0 (k := ?_)
  refine pc0 (spec := r_short_n f hv hqa) (hent := ent21) (k := ?_)
  refine v0 (k := ?_)
  refine v0 (k := ?_)
  refine v0 (k := ?_)
  refine v0 (k := ?_)
  refine v0 (k := ?_)
  refine nil0 ?_
  refine cl [1, 3, 4, 5, 6] (k := ?_)
  repeat refine gwp_seq ?_
  refine gwp_region ?_
  refine v0 (k := ?_)
  refine pc0 (spec := li_n f hv hw) (hent := ent22) (k := ?_)
  refine v0 (k := ?_)
  refine v0 (k := ?_)
  refine v0 (k := ?_)
  refine v0 (k := ?_)
  refine v0 (k := ?_)
  refine nil0 ?_
  refine cl [1, 3, 4, 5, 6, 7, 8] (k := ?_)
  repeat refine gwp_seq ?_
  refine gwp_region ?_
  refine v0 (k := ?_)
  refine pc0 (spec := r_lists_n f hv hqa) (hent := ent23) (k := ?_)
  refine v0 (k := ?_)
  refine v0 (k := ?_)
  refine v0 (k := ?_)
  refine v0 (k := ?_)
  refine v0 (k := ?_)
  refine nil0 ?_
  refine cl [1, 3, 4, 5, 6, 7, 8, 9, 10] (k := ?_)
  repeat refine gwp_seq ?_
  refine gwp_region ?_
  refine v0 (k := ?_)
  refine pc0 (spec := ne_n f hv hq) (hent := ent24) (k := ?_)
  refine v0 (k := ?_)
  refine v0 (k := ?_)
  refine v0 (k := ?_)
  refine v0 (k := ?_)
  refine v0 (k := ?_)
  refine nil0 ?_
  refine cl [1, 3, 4, 5, 6, 7, 8, 9, 10, 11, 12] (k := ?_)
  repeat refine gwp_seq ?_
  refine gwp_region ?_
  refine v0 (k := ?_)
  refine pc0 (spec := r_need_n f hv hqa) (hent := ent25) (k := ?_)
  refine v0 (k := ?_)
  refine v0 (k := ?_)
  refine v0 (k := ?_)
  refine v0 (k := ?_)
  refine v0 (k := ?_)
  refine nil0 ?_
  refine cl [1, 3, 4, 5, 6, 7, 8, 9, 10, 11, 12, 13, 14] (k := ?_)
  repeat refine gwp_seq ?_
  refine gwp_region ?_
  refine v0 (k := ?_)
  refine pc0 (spec := ap_n f hv hq) (hent := ent26) (k := ?_)
  refine v0 (k := ?_)
  refine v0 (k := ?_)
  refine v0 (k := ?_)
  refine v0 (k := ?_)
  refine v0 (k := ?_)
  refine nil0 ?_
  refine cl [1, 3, 4, 5, 6, 7, 8, 9, 10, 11, 12, 13, 14, 15, 16] (k := ?_)
  repeat refine gwp_seq ?_
  refine gwp_region ?_
  refine v0 (k := ?_)
  refine pc0 (spec := r_apart_n f hv hqa) (hent := ent27) (k := ?_)
  refine v0 (k := ?_)
  refine v0 (k := ?_)
  refine v0 (k := ?_)
  refine v0 (k := ?_)
  refine v0 (k := ?_)
  refine nil0 ?_
  refine cl [3, 4, 5, 6, 7, 8, 9, 10, 11, 12, 13, 14, 15, 16, 17, 18] (k := ?_)
  repeat refine gwp_seq ?_
  refine gwp_region ?_
  refine v0 (k := ?_)
  refine v0 (k := ?_)
  refine v0 (k := ?_)
  refine rb 64 true (h := by (first | rfl | decide | simp)) (k := ?_)
  refine v0 (k := ?_)
  refine w0 (k := ?_)
  refine w0 (k := ?_)
  refine w0 (k := ?_)
  refine rb 68 true (h := by (first | rfl | decide | simp)) (k := ?_)
  refine v0 (k := ?_)
  refine v0 (k := ?_)
  refine w0 (k := ?_)
  refine w0 (k := ?_)
  refine w0 (k := ?_)
  refine rb 73 true (h := by (first | rfl | decide | simp)) (k := ?_)
  refine v0 (k := ?_)
  refine v0 (k := ?_)
  refine w0 (k := ?_)
  refine w0 (k := ?_)
  refine w0 (k := ?_)
  refine rb 78 true (h := by (first | rfl | decide | simp)) (k := ?_)
  refine v0 (k := ?_)
  refine v0 (k := ?_)
  refine w0 (k := ?_)
  refine w0 (k := ?_)
  refine w0 (k := ?_)
  refine rb 83 true (h := by (first | rfl | decide | simp)) (k := ?_)
  refine v0 (k := ?_)
  refine v0 (k := ?_)
  refine w0 (k := ?_)
  refine w0 (k := ?_)
  refine w0 (k := ?_)
  refine rb 88 true (h := by (first | rfl | decide | simp)) (k := ?_)
  refine v0 (k := ?_)
  refine v0 (k := ?_)
  refine w0 (k := ?_)
  refine w0 (k := ?_)
  refine pcw (spec := r_places [] (by decide)) (hent := ent28) (k := ?_)
  refine rb 93 true (h := by (rfl)) (k := ?_)
  refine v0 (k := ?_)
  refine v0 (k := ?_)
  refine w0 (k := ?_)
  refine w0 (k := ?_)
  refine w0 (k := ?_)
  refine rb 98 true (h := by (first | rfl | decide | simp)) (k := ?_)
  refine v0 (k := ?_)
  refine v0 (k := ?_)
  refine pcw (spec := l_awake) (hent := ent13) (k := ?_)
  refine v0 (k := ?_)
  refine v0 (k := ?_)
  refine nil0 ?_
  repeat refine gwp_seq ?_
  refine gwp_ret ?_
  repeat (first | refine gthen_ret ?_ | refine gblock_ret ?_ | refine gnoGoto_ret ?_)
  refine fin_ret ?_
  refine fp (hR := ?_)
  rfl
theorem l_lists_c (f : Fd) (hh : hvyQ f 6 20 = false) (hv : f.valid = true) (w : Nat) (hw : (setsL f).find? (listQ f) = some w) : PSpec Try.prog 4 [.agg [.list (f.ps.map pS), .int .i64 f.el, .int .i64 f.eh, .int .i64 f.nl, .int .i64 f.nh, .int .i64 f.dl, .int .i64 f.dh, .int .i64 f.dep, .int .i64 f.tm, .int .i64 f.gp]] (.ok (.bool true)) := by
  refine pspec_of Try.func4 (rfl : Try.f4.body = some _) rfl ?_
  intro E A C hN hL
  replace hN : C.N = 103 := hN
  simp only [Gh.num, List.map_cons, List.map_nil, Nat.reduceAdd]
  have hdt : ∀ (i : Decidable True), @decide True i = true := fun i => decide_eq_true trivial
  have hdf : ∀ (i : Decidable False), @decide False i = false := fun i => decide_eq_false id
  have hS := sho_some hv hw
  have hq : listQ f (usedN f f.ps.length) = true := list_sub hv hS.sub hS.ls
  have hqa : listQ f (allS f.ps.length) = true := by rw [list_all]; exact hq
  have hal : (apL f (allS f.ps.length)).length ≤ 1089 := (apl_ok hv hS.lt hS.ls).len
  repeat refine gwp_seq ?_
  refine gwp_region ?_
  refine n1 110 false (hc := kLp1.h {}) (k := ?_)
  refine v0 (k := ?_)
  refine nil0 ?_
  refine cl [1] (k := ?_)
  repeat refine gwp_seq ?_
  refine gwp_region ?_
  refine v0 (k := ?_)
  refine pc0 (spec := l_heavy f 6 20) (hent := ent12) (k := ?_)
  refine rb 20 false (h := by (exact hh)) (k := ?_)
  refine nil0 ?_
  repeat refine gwp_seq ?_
  refine cF (k := ?_)
  repeat refine gwp_seq ?_
  refine gwp_skip ?_
  refine cl [1] (k := ?_)
  repeat refine gwp_seq ?_
  refine gwp_region ?_
  refine v0 (k := ?_)
  refine pc0 (spec := sh_t f hv w hw) (hent := ent20) (k := ?_)
  refine v0 (k := ?_)
  refine v0 (k := ?_)
  refine v0 (k := ?_)
  refine v0 (k := ?_)
  refine v0 (k := ?_)
  refine nil0 ?_
  refine cl [1, 3, 4] (k := ?_)
  repeat refine gwp_seq ?_
  refine gwp_region ?_
  refine v0 (k := ?_)
  refine pc0 (spec := r_short_t f hv w hS) (hent := ent21) (k := ?_)
  refine v0 (k := ?_)
  refine v0 (k := ?_)
  refine v0 (k := ?_)
  refine v0 (k := ?_)
  refine v0 (k := ?_)
  refine nil0 ?_
  refine cl [1, 3, 4, 5, 6] (k := ?_)
  repeat refine gwp_seq ?_
  refine gwp_region ?_
  refine v0 (k := ?_)
  refine pc0 (spec := li_t f hv w hw) (hent := ent22) (k := ?_)
  refine v0 (k := ?_)
  refine v0 (k := ?_)
  refine v0 (k := ?_)
  refine v0 (k := ?_)
  refine v0 (k := ?_)
  refine nil0 ?_
  refine cl [1, 3, 4, 5, 6, 7, 8] (k := ?_)
  repeat refine gwp_seq ?_
  refine gwp_region ?_
  refine v0 (k := ?_)
  refine pc0 (spec := r_lists_t f hv w hS) (hent := ent23) (k := ?_)
  refine v0 (k := ?_)
  refine v0 (k := ?_)
  refine v0 (k := ?_)
  refine v0 (k := ?_)
  refine v0 (k := ?_)
  refine nil0 ?_
  refine cl [1, 3, 4, 5, 6, 7, 8, 9, 10] (k := ?_)
  repeat refine gwp_seq ?_
  refine gwp_region ?_
  refine v0 (k := ?_)
  refine pc0 (spec := ne_t f hv hq) (hent := ent24) (k := ?_)
  refine v0 (k := ?_)
  refine v0 (k := ?_)
  refine v0 (k := ?_)
  refine v0 (k := ?_)
  refine v0 (k := ?_)
  refine nil0 ?_
  refine cl [1, 3, 4, 5, 6, 7, 8, 9, 10, 11, 12] (k := ?_)
  repeat refine gwp_seq ?_
  refine gwp_region ?_
  refine v0 (k := ?_)
  refine pc0 (spec := r_need_t f hv hqa) (hent := ent25) (k := ?_)
  refine v0 (k := ?_)
  refine v0 (k := ?_)
  refine v0 (k := ?_)
  refine v0 (k := ?_)
  refine v0 (k := ?_)
  refine nil0 ?_
  refine cl [1, 3, 4, 5, 6, 7, 8, 9, 10, 11, 12, 13, 14] (k := ?_)
  repeat refine gwp_seq ?_
  refine gwp_region ?_
  refine v0 (k := ?_)
  refine pc0 (spec := ap_t f hv hq) (hent := ent26) (k := ?_)
  refine v0 (k := ?_)
  refine v0 (k := ?_)
  refine v0 (k := ?_)
  refine v0 (k := ?_)
  refine v0 (k := ?_)
  refine nil0 ?_
  refine cl [1, 3, 4, 5, 6, 7, 8, 9, 10, 11, 12, 13, 14, 15, 16] (k := ?_)
  repeat refine gwp_seq ?_
  refine gwp_region ?_
  refine v0 (k := ?_)
  refine pc0 (spec := r_apart_t f hv hqa) (hent := ent27) (k := ?_)
  refine v0 (k := ?_)
  refine v0 (k := ?_)
  refine v0 (k := ?_)
  refine v0 (k := ?_)
  refine v0 (k := ?_)
  refine nil0 ?_
  refine cl [3, 4, 5, 6, 7, 8, 9, 10, 11, 12, 13, 14, 15, 16, 17, 18] (k := ?_)
  repeat refine gwp_seq ?_
  refine gwp_region ?_
  refine v0 (k := ?_)
  refine v0 (k := ?_)
  refine v0 (k := ?_)
  refine rb 64 true (h := by (first | rfl | decide | simp)) (k := ?_)
  refine v0 (k := ?_)
  refine w0 (k := ?_)
  refine w0 (k := ?_)
  refine w0 (k := ?_)
  refine rb 68 true (h := by (first | rfl | decide | simp)) (k := ?_)
  refine v0 (k := ?_)
  refine v0 (k := ?_)
  refine w0 (k := ?_)
  refine w0 (k := ?_)
  refine w0 (k := ?_)
  refine rb 73 true (h := by (first | rfl | decide | simp)) (k := ?_)
  refine v0 (k := ?_)
  refine v0 (k := ?_)
  refine w0 (k := ?_)
  refine w0 (k := ?_)
  refine w0 (k := ?_)
  refine rb 78 true (h := by (first | rfl | decide | simp)) (k := ?_)
  refine v0 (k := ?_)
  refine v0 (k := ?_)
  refine w0 (k := ?_)
  refine w0 (k := ?_)
  refine w0 (k := ?_)
  refine rb 83 true (h := by (first | rfl | decide | simp)) (k := ?_)
  refine v0 (k := ?_)
  refine v0 (k := ?_)
  refine w0 (k := ?_)
  refine w0 (k := ?_)
  refine w0 (k := ?_)
  refine rb 88 true (h := by (first | rfl | decide | simp)) (k := ?_)
  refine v0 (k := ?_)
  refine v0 (k := ?_)
  refine w0 (k := ?_)
  refine w0 (k := ?_)
  refine pcw (spec := r_places (apL f (allS f.ps.length)) (by omega)) (hent := ent28) (k := ?_)
  refine rb 93 true (h := by (rfl)) (k := ?_)
  refine v0 (k := ?_)
  refine v0 (k := ?_)
  refine w0 (k := ?_)
  refine w0 (k := ?_)
  refine w0 (k := ?_)
  refine rb 98 true (h := by (first | rfl | decide | simp)) (k := ?_)
  refine v0 (k := ?_)
  refine v0 (k := ?_)
  refine pcw (spec := l_awake) (hent := ent13) (k := ?_)
  refine v0 (k := ?_)
  refine v0 (k := ?_)
  refine nil0 ?_
  repeat refine gwp_seq ?_
  refine gwp_ret ?_
  repeat (first | refine gthen_ret ?_ | refine gblock_ret ?_ | refine gnoGoto_ret ?_)
  refine fin_ret ?_
  refine fp (hR := ?_)
  rfl
theorem l_lists (f : Fd) : PSpec Try.prog 4 [.agg [.list (f.ps.map pS), .int .i64 f.el, .int .i64 f.eh, .int .i64 f.nl, .int .i64 f.nh, .int .i64 f.dl, .int .i64 f.dh, .int .i64 f.dep, .int .i64 f.tm, .int .i64 f.gp]] (.ok (.bool true)) := by
  cases hh : hvyQ f 6 20 with
  | true => exact l_lists_x f hh
  | false =>
    cases hv : f.valid with
    | false => exact l_lists_a f hh hv
    | true =>
      cases hw : (setsL f).find? (listQ f) with
      | none => exact l_lists_b f hh hv hw
      | some w => exact l_lists_c f hh hv w hw
end Go.Proofs.Ytabeeaiilanmjaa

/- The statement CoverLists, for every input: the law returns true, and its arguments read as they did.  -/
namespace Go.Proofs.Ytabeeaiilanmjaa
open Go.Gh Go.ChangeShapes Go.WideShapes Go.ChangeAt Go.RowKit
set_option maxRecDepth 100000
theorem aj_lists : ∀ ps, FitAs [(true, fdSS)] ps → PSpec Try.prog 4 ps (.ok (.bool true)) := fun ps h => by
  simp only [FitAs] at h
  obtain ⟨_, _, rfl, q0, rfl⟩ := h
  obtain ⟨f, rfl, hf⟩ := fd_of q0
  exact l_lists f
theorem lists_lifted (os : Os) (started : os.Started) (H : Type) (enc : TypeId × Value → H) :
    ReturnsInHanded {} Try.checked os 4 .any (Rows.coverListsSpec.pre6 enc Try.prog Try.f4 Rows.coverListsRow.domain false) (Rows.coverListsSpec.post enc Try.prog Try.f4 false true false false) := by
  refine returnsInHanded_of_change (C := Try.checked) own started (by kernel_rfl) Try.func4
    (ChangeSpec.witness6 (enc := enc) (C := Try.checked) false ⟨#[], #[.agg #[.slice none 0 0, .int .i64 0, .int .i64 0, .int .i64 0, .int .i64 0, .int .i64 0, .int .i64 0, .int .i64 0, .int .i64 0, .int .i64 0]], []⟩ 8 (by kernel_rfl) (by kernel_rfl) (by kernel_rfl) (by kernel_rfl)) ?_
  intro W base args ds gs before hval hW _ _
  exact law_post (n := 9) (ss := [(true, fdSS)]) (b := 4) laidOut (by kernel_rfl) (by kernel_rfl) (by kernel_rfl) (by kernel_rfl) rfl
    (fun ds hd => by
      have hd' : ds.length = 1 := hd
      match ds, hd' with
      | [a], _ => rfl) aj_lists hval hW
theorem lists_holds : Rows.CoverListsSaid :=
  OpenClaim.holds_of_wide 4 Try.f4 rfl rfl rfl rfl rfl rfl rfl ⟨rfl, rfl, rfl, rfl, rfl⟩ rfl rfl rfl rfl rfl (by kernel_rfl) Try.func4 (by kernel_rfl)
    (of_decide_eq_true (by kernel_rfl)) (by unfold Func.isWrapper; first | (rw [if_pos (by decide +kernel)]; kernel_rfl) | (rw [if_neg (by decide +kernel)]; exact ⟨rfl, rfl⟩))
    (fun os started H enc _ => lists_lifted os started H enc)
end Go.Proofs.Ytabeeaiilanmjaa
