/- What functions of the program return, each for every input that its theorem names. -/
import Derived.Test.YtabeeaiilanmjaaB1
set_option linter.unusedVariables false
set_option linter.unusedSimpArgs false
/- The library: sorting a few numbers in place. -/
namespace Go.Proofs.Ytabeeaiilanmjaa
open Go.Gh
set_option maxRecDepth 100000
set_option maxHeartbeats 4000000
structure kVd1 (c : Prop) : Prop where
  h : c := by (first | exact True.intro | omega | (simp only [inI]; omega) | (simp [P.size, all_int] <;> first | omega | assumption))
structure kVd2 (c : Prop) : Prop where
  h : c := by (first | exact True.intro | omega | (simp only [inI]; omega) | (simp [P.size, pS, all_int, allOne_p, goods_p, allOne, goods, good, G.one, P.one, P.cells] <;> first | omega | assumption | simp_all))
theorem flat_int (l : List Int) : (l.map (P.int .i64)).flatMap P.cells = l.map (P.int .i64) := flat_one fun p hp => by
  obtain ⟨_, _, rfl⟩ := List.mem_map.1 hp; rfl
def lenL (n : Nat) : Nat := [0, 1, 2, 2, 3, 3, 3, 3, 4, 4, 4, 4, 4].getD n 0
theorem ent115 : Enters Try.prog 115 := Enters.mk Try.func115 (by kernel_rfl) rfl
theorem s_nan (x : Int) : PSpec Try.prog 115 [.int .i64 x] (.ok (.bool false)) := by
  refine pspec_of Try.func115 (rfl : Try.f115.body = some _) rfl ?_
  intro E A C hN hL
  replace hN : C.N = 6 := hN
  simp only [Gh.num, List.map_cons, List.map_nil, Nat.reduceAdd]
  repeat refine gwp_seq ?_
  refine gwp_region ?_
  refine v0 (k := ?_)
  refine nil0 ?_
  refine cl [0] (k := ?_)
  repeat refine gwp_seq ?_
  refine gwp_region ?_
  refine v0 (k := ?_)
  refine v0 (k := ?_)
  refine v0 (k := ?_)
  refine rb 5 false (h := by (first | rfl | simp)) (k := ?_)
  refine v0 (k := ?_)
  refine nil0 ?_
  repeat refine gwp_seq ?_
  refine gwp_ret ?_
  repeat (first | refine gthen_ret ?_ | refine gblock_ret ?_ | refine gnoGoto_ret ?_)
  refine fin_ret ?_
  refine fp (hR := ?_)
  rfl
theorem ent105 : Enters Try.prog 105 := Enters.mk Try.func105 (by kernel_rfl) rfl
theorem s_less (x y : Int) : PSpec Try.prog 105 [.int .i64 x, .int .i64 y] (.ok (.bool (decide (x < y)))) := by
  refine pspec_of Try.func105 (rfl : Try.f105.body = some _) rfl ?_
  intro E A C hN hL
  replace hN : C.N = 17 := hN
  simp only [Gh.num, List.map_cons, List.map_nil, Nat.reduceAdd]
  repeat refine gwp_seq ?_
  refine gwp_region ?_
  refine v0 (k := ?_)
  refine nil0 ?_
  refine cl [0, 1] (k := ?_)
  repeat refine gwp_seq ?_
  refine gwp_region ?_
  refine v0 (k := ?_)
  refine pc0 (spec := s_nan x) (hent := ent115) (k := ?_)
  refine rb 6 false (h := by (rfl)) (k := ?_)
  refine v0 (k := ?_)
  refine x0 (k := ?_)
  refine x0 (k := ?_)
  refine x0 (k := ?_)
  refine v0 (k := ?_)
  refine v0 (k := ?_)
  refine w0 (k := ?_)
  refine w0 (k := ?_)
  refine w0 (k := ?_)
  refine v0 (k := ?_)
  refine v0 (k := ?_)
  refine nil0 ?_
  repeat refine gwp_seq ?_
  refine gwp_ret ?_
  repeat (first | refine gthen_ret ?_ | refine gblock_ret ?_ | refine gnoGoto_ret ?_)
  refine fin_ret ?_
  refine fp (hR := ?_)
  rfl
theorem ent109 : Enters Try.prog 109 := Enters.mk Try.func109 (by kernel_rfl) rfl
theorem s_len64 (n : Nat) (h : n ≤ 12) : PSpec Try.prog 109 [.int .u64 (n : Nat)] (.ok (.int .i64 (lenL n : Nat))) := by
  refine pspec_of Try.func109 (rfl : Try.f109.body = some _) rfl ?_
  intro E A C hN hL
  replace hN : C.N = 25 := hN
  simp only [Gh.num, List.map_cons, List.map_nil, Nat.reduceAdd]
  have hdt : ∀ (i : Decidable True), @decide True i = true := fun i => decide_eq_true trivial
  have hdf : ∀ (i : Decidable False), @decide False i = false := fun i => decide_eq_false id
  repeat refine gwp_seq ?_
  refine gwp_region ?_
  refine v0 (k := ?_)
  refine nil0 ?_
  refine cl [0, 2] (k := ?_)
  repeat refine gwp_seq ?_
  refine gwp_region ?_
  refine v0 (k := ?_)
  refine v0 (k := ?_)
  refine rb 4 false (h := by (first | with_reducible rfl | exact decide_eq_false (by omega) | exact nd_f (by omega) | rfl | decide)) (k := ?_)
  refine nil0 ?_
  repeat refine gwp_seq ?_
  refine cF (k := ?_)
  repeat refine gwp_seq ?_
  refine gwp_skip ?_
  refine cl [0, 2] (k := ?_)
  repeat refine gwp_seq ?_
  refine gwp_region ?_
  refine v0 (k := ?_)
  refine v0 (k := ?_)
  refine rb 8 false (h := by (first | with_reducible rfl | exact decide_eq_false (by omega) | exact nd_f (by omega) | rfl | decide)) (k := ?_)
  refine nil0 ?_
  repeat refine gwp_seq ?_
  refine cF (k := ?_)
  repeat refine gwp_seq ?_
  refine gwp_skip ?_
  refine cl [0, 2] (k := ?_)
  repeat refine gwp_seq ?_
  refine gwp_region ?_
  refine v0 (k := ?_)
  refine v0 (k := ?_)
  refine rb 14 false (h := by (first | with_reducible rfl | exact decide_eq_false (by omega) | exact nd_f (by omega) | rfl | decide)) (k := ?_)
  refine nil0 ?_
  repeat refine gwp_seq ?_
  refine cF (k := ?_)
  repeat refine gwp_seq ?_
  refine gwp_skip ?_
  refine cl [0, 2] (k := ?_)
  repeat refine gwp_seq ?_
  rcases (show n = 0 ∨ n = 1 ∨ n = 2 ∨ n = 3 ∨ n = 4 ∨ n = 5 ∨ n = 6 ∨ n = 7 ∨ n = 8 ∨ n = 9 ∨ n = 10 ∨ n = 11 ∨ n = 12 from by omega) with rfl | rfl | rfl | rfl | rfl | rfl | rfl | rfl | rfl | rfl | rfl | rfl | rfl
  · repeat refine gwp_seq ?_
    refine gwp_region ?_
    refine v0 (k := ?_)
    refine v0 (k := ?_)
    refine v1 (hc := by (first | exact True.intro | decide | (simp only [inI]; decide))) (k := ?_)
    refine v1 (hc := by (first | exact True.intro | decide | (simp only [inI]; decide))) (k := ?_)
    refine v1 (hc := by (first | exact True.intro | decide | (simp only [inI]; decide))) (k := ?_)
    refine v1 (hc := by (first | exact True.intro | decide | (simp only [inI]; decide))) (k := ?_)
    refine v0 (k := ?_)
    refine nil0 ?_
    repeat refine gwp_seq ?_
    refine gwp_ret ?_
    repeat (first | refine gthen_ret ?_ | refine gblock_ret ?_ | refine gnoGoto_ret ?_)
    refine fin_ret ?_
    refine fp (hR := ?_)
    rfl
  · repeat refine gwp_seq ?_
    refine gwp_region ?_
    refine v0 (k := ?_)
    refine v0 (k := ?_)
    refine v1 (hc := by (first | exact True.intro | decide | (simp only [inI]; decide))) (k := ?_)
    refine v1 (hc := by (first | exact True.intro | decide | (simp only [inI]; decide))) (k := ?_)
    refine v1 (hc := by (first | exact True.intro | decide | (simp only [inI]; decide))) (k := ?_)
    refine v1 (hc := by (first | exact True.intro | decide | (simp only [inI]; decide))) (k := ?_)
    refine v0 (k := ?_)
    refine nil0 ?_
    repeat refine gwp_seq ?_
    refine gwp_ret ?_
    repeat (first | refine gthen_ret ?_ | refine gblock_ret ?_ | refine gnoGoto_ret ?_)
    refine fin_ret ?_
    refine fp (hR := ?_)
    rfl
  · repeat refine gwp_seq ?_
    refine gwp_region ?_
    refine v0 (k := ?_)
    refine v0 (k := ?_)
    refine v1 (hc := by (first | exact True.intro | decide | (simp only [inI]; decide))) (k := ?_)
    refine v1 (hc := by (first | exact True.intro | decide | (simp only [inI]; decide))) (k := ?_)
    refine v1 (hc := by (first | exact True.intro | decide | (simp only [inI]; decide))) (k := ?_)
    refine v1 (hc := by (first | exact True.intro | decide | (simp only [inI]; decide))) (k := ?_)
    refine v0 (k := ?_)
    refine nil0 ?_
    repeat refine gwp_seq ?_
    refine gwp_ret ?_
    repeat (first | refine gthen_ret ?_ | refine gblock_ret ?_ | refine gnoGoto_ret ?_)
    refine fin_ret ?_
    refine fp (hR := ?_)
    rfl
  · repeat refine gwp_seq ?_
    refine gwp_region ?_
    refine v0 (k := ?_)
    refine v0 (k := ?_)
    refine v1 (hc := by (first | exact True.intro | decide | (simp only [inI]; decide))) (k := ?_)
    refine v1 (hc := by (first | exact True.intro | decide | (simp only [inI]; decide))) (k := ?_)
    refine v1 (hc := by (first | exact True.intro | decide | (simp only [inI]; decide))) (k := ?_)
    refine v1 (hc := by (first | exact True.intro | decide | (simp only [inI]; decide))) (k := ?_)
    refine v0 (k := ?_)
    refine nil0 ?_
    repeat refine gwp_seq ?_
    refine gwp_ret ?_
    repeat (first | refine gthen_ret ?_ | refine gblock_ret ?_ | refine gnoGoto_ret ?_)
    refine fin_ret ?_
    refine fp (hR := ?_)
    rfl
  · repeat refine gwp_seq ?_
    refine gwp_region ?_
    refine v0 (k := ?_)
    refine v0 (k := ?_)
    refine v1 (hc := by (first | exact True.intro | decide | (simp only [inI]; decide))) (k := ?_)
    refine v1 (hc := by (first | exact True.intro | decide | (simp only [inI]; decide))) (k := ?_)
    refine v1 (hc := by (first | exact True.intro | decide | (simp only [inI]; decide))) (k := ?_)
    refine v1 (hc := by (first | exact True.intro | decide | (simp only [inI]; decide))) (k := ?_)
    refine v0 (k := ?_)
    refine nil0 ?_
    repeat refine gwp_seq ?_
    refine gwp_ret ?_
    repeat (first | refine gthen_ret ?_ | refine gblock_ret ?_ | refine gnoGoto_ret ?_)
    refine fin_ret ?_
    refine fp (hR := ?_)
    rfl
  · repeat refine gwp_seq ?_
    refine gwp_region ?_
    refine v0 (k := ?_)
    refine v0 (k := ?_)
    refine v1 (hc := by (first | exact True.intro | decide | (simp only [inI]; decide))) (k := ?_)
    refine v1 (hc := by (first | exact True.intro | decide | (simp only [inI]; decide))) (k := ?_)
    refine v1 (hc := by (first | exact True.intro | decide | (simp only [inI]; decide))) (k := ?_)
    refine v1 (hc := by (first | exact True.intro | decide | (simp only [inI]; decide))) (k := ?_)
    refine v0 (k := ?_)
    refine nil0 ?_
    repeat refine gwp_seq ?_
    refine gwp_ret ?_
    repeat (first | refine gthen_ret ?_ | refine gblock_ret ?_ | refine gnoGoto_ret ?_)
    refine fin_ret ?_
    refine fp (hR := ?_)
    rfl
  · repeat refine gwp_seq ?_
    refine gwp_region ?_
    refine v0 (k := ?_)
    refine v0 (k := ?_)
    refine v1 (hc := by (first | exact True.intro | decide | (simp only [inI]; decide))) (k := ?_)
    refine v1 (hc := by (first | exact True.intro | decide | (simp only [inI]; decide))) (k := ?_)
    refine v1 (hc := by (first | exact True.intro | decide | (simp only [inI]; decide))) (k := ?_)
    refine v1 (hc := by (first | exact True.intro | decide | (simp only [inI]; decide))) (k := ?_)
    refine v0 (k := ?_)
    refine nil0 ?_
    repeat refine gwp_seq ?_
    refine gwp_ret ?_
    repeat (first | refine gthen_ret ?_ | refine gblock_ret ?_ | refine gnoGoto_ret ?_)
    refine fin_ret ?_
    refine fp (hR := ?_)
    rfl
  · repeat refine gwp_seq ?_
    refine gwp_region ?_
    refine v0 (k := ?_)
    refine v0 (k := ?_)
    refine v1 (hc := by (first | exact True.intro | decide | (simp only [inI]; decide))) (k := ?_)
    refine v1 (hc := by (first | exact True.intro | decide | (simp only [inI]; decide))) (k := ?_)
    refine v1 (hc := by (first | exact True.intro | decide | (simp only [inI]; decide))) (k := ?_)
    refine v1 (hc := by (first | exact True.intro | decide | (simp only [inI]; decide))) (k := ?_)
    refine v0 (k := ?_)
    refine nil0 ?_
    repeat refine gwp_seq ?_
    refine gwp_ret ?_
    repeat (first | refine gthen_ret ?_ | refine gblock_ret ?_ | refine gnoGoto_ret ?_)
    refine fin_ret ?_
    refine fp (hR := ?_)
    rfl
  · repeat refine gwp_seq ?_
    refine gwp_region ?_
    refine v0 (k := ?_)
    refine v0 (k := ?_)
    refine v1 (hc := by (first | exact True.intro | decide | (simp only [inI]; decide))) (k := ?_)
    refine v1 (hc := by (first | exact True.intro | decide | (simp only [inI]; decide))) (k := ?_)
    refine v1 (hc := by (first | exact True.intro | decide | (simp only [inI]; decide))) (k := ?_)
    refine v1 (hc := by (first | exact True.intro | decide | (simp only [inI]; decide))) (k := ?_)
    refine v0 (k := ?_)
    refine nil0 ?_
    repeat refine gwp_seq ?_
    refine gwp_ret ?_
    repeat (first | refine gthen_ret ?_ | refine gblock_ret ?_ | refine gnoGoto_ret ?_)
    refine fin_ret ?_
    refine fp (hR := ?_)
    rfl
  · repeat refine gwp_seq ?_
    refine gwp_region ?_
    refine v0 (k := ?_)
    refine v0 (k := ?_)
    refine v1 (hc := by (first | exact True.intro | decide | (simp only [inI]; decide))) (k := ?_)
    refine v1 (hc := by (first | exact True.intro | decide | (simp only [inI]; decide))) (k := ?_)
    refine v1 (hc := by (first | exact True.intro | decide | (simp only [inI]; decide))) (k := ?_)
    refine v1 (hc := by (first | exact True.intro | decide | (simp only [inI]; decide))) (k := ?_)
    refine v0 (k := ?_)
    refine nil0 ?_
    repeat refine gwp_seq ?_
    refine gwp_ret ?_
    repeat (first | refine gthen_ret ?_ | refine gblock_ret ?_ | refine gnoGoto_ret ?_)
    refine fin_ret ?_
    refine fp (hR := ?_)
    rfl
  · repeat refine gwp_seq ?_
    refine gwp_region ?_
    refine v0 (k := ?_)
    refine v0 (k := ?_)
    refine v1 (hc := by (first | exact True.intro | decide | (simp only [inI]; decide))) (k := ?_)
    refine v1 (hc := by (first | exact True.intro | decide | (simp only [inI]; decide))) (k := ?_)
    refine v1 (hc := by (first | exact True.intro | decide | (simp only [inI]; decide))) (k := ?_)
    refine v1 (hc := by (first | exact True.intro | decide | (simp only [inI]; decide))) (k := ?_)
    refine v0 (k := ?_)
    refine nil0 ?_
    repeat refine gwp_seq ?_
    refine gwp_ret ?_
    repeat (first | refine gthen_ret ?_ | refine gblock_ret ?_ | refine gnoGoto_ret ?_)
    refine fin_ret ?_
    refine fp (hR := ?_)
    rfl
  · repeat refine gwp_seq ?_
    refine gwp_region ?_
    refine v0 (k := ?_)
    refine v0 (k := ?_)
    refine v1 (hc := by (first | exact True.intro | decide | (simp only [inI]; decide))) (k := ?_)
    refine v1 (hc := by (first | exact True.intro | decide | (simp only [inI]; decide))) (k := ?_)
    refine v1 (hc := by (first | exact True.intro | decide | (simp only [inI]; decide))) (k := ?_)
    refine v1 (hc := by (first | exact True.intro | decide | (simp only [inI]; decide))) (k := ?_)
    refine v0 (k := ?_)
    refine nil0 ?_
    repeat refine gwp_seq ?_
    refine gwp_ret ?_
    repeat (first | refine gthen_ret ?_ | refine gblock_ret ?_ | refine gnoGoto_ret ?_)
    refine fin_ret ?_
    refine fp (hR := ?_)
    rfl
  repeat refine gwp_seq ?_
  refine gwp_region ?_
  refine v0 (k := ?_)
  refine v0 (k := ?_)
  refine v1 (hc := by (first | exact True.intro | decide | (simp only [inI]; decide))) (k := ?_)
  refine v1 (hc := by (first | exact True.intro | decide | (simp only [inI]; decide))) (k := ?_)
  refine v1 (hc := by (first | exact True.intro | decide | (simp only [inI]; decide))) (k := ?_)
  refine v1 (hc := by (first | exact True.intro | decide | (simp only [inI]; decide))) (k := ?_)
  refine v0 (k := ?_)
  refine nil0 ?_
  repeat refine gwp_seq ?_
  refine gwp_ret ?_
  repeat (first | refine gthen_ret ?_ | refine gblock_ret ?_ | refine gnoGoto_ret ?_)
  refine fin_ret ?_
  refine fp (hR := ?_)
  rfl
theorem ent92 : Enters Try.prog 92 := Enters.mk Try.func92 (by kernel_rfl) rfl
theorem s_len (n : Nat) (h : n ≤ 12) : PSpec Try.prog 92 [.int .u64 (n : Nat)] (.ok (.int .i64 (lenL n : Nat))) := by
  refine pspec_of Try.func92 (rfl : Try.f92.body = some _) rfl ?_
  intro E A C hN hL
  replace hN : C.N = 8 := hN
  simp only [Gh.num, List.map_cons, List.map_nil, Nat.reduceAdd]
  repeat refine gwp_seq ?_
  refine gwp_region ?_
  refine v0 (k := ?_)
  refine nil0 ?_
  repeat refine gwp_seq ?_
  refine cF (k := ?_)
  repeat refine gwp_seq ?_
  refine gwp_skip ?_
  refine cl [0] (k := ?_)
  repeat refine gwp_seq ?_
  refine gwp_region ?_
  refine v0 (k := ?_)
  refine pc0 (spec := s_len64 n h) (hent := ent109) (k := ?_)
  refine v0 (k := ?_)
  refine nil0 ?_
  repeat refine gwp_seq ?_
  refine gwp_ret ?_
  repeat (first | refine gthen_ret ?_ | refine gblock_ret ?_ | refine gnoGoto_ret ?_)
  refine fin_ret ?_
  refine fp (hR := ?_)
  rfl
theorem one_sorted (xs : List Int) : (xs.take 1).Pairwise (· ≤ ·) := by
  cases xs <;> simp
theorem split_at (ys : List Int) (i : Nat) (h : i < ys.length) : ∃ s x r, ys = s ++ x :: r ∧ s.length = i :=
  ⟨ys.take i, ys[i], ys.drop (i + 1), by rw [← List.drop_eq_getElem_cons h, List.take_append_drop], by rw [List.length_take]; omega⟩
theorem ent99 : Enters Try.prog 99 := Enters.mk Try.func99 (by kernel_rfl) rfl
theorem s_ins {E : Env Try.prog} {A : E.α} (xs : List Int) (n : Nat) (hx1 : xs.length ≤ n) (hx2 : n ≤ xs.length) (hn : n ≤ 12) : Gh.Spec E 99 [.own 0 n, .p (.int .i64 0), .p (.int .i64 (n : Nat))] (mkHp [(0, .arr 3 1 (xs.map (.int .i64)) false)]) A (fun y => y = .ok (.p (.tuple [])) (mkHp [(0, .arr 3 1 ((sortI xs).map (.int .i64)) false)]) A) := by
  refine spec_of Try.func99 (rfl : Try.f99.body = some _) (Nat.le_of_ble_eq_true rfl) (fun id h => ?_) (fun j id h => ?_) ?_
  · exact wf1x h
  · exact wf2x h
  intro C hN hL
  replace hN : C.N = 49 := hN
  simp only [Gh.num, List.map_cons, List.map_nil, Nat.reduceAdd]
  have hdt : ∀ (i : Decidable True), @decide True i = true := fun i => decide_eq_true trivial
  have hdf : ∀ (i : Decidable False), @decide False i = false := fun i => decide_eq_false id
  have hfl : ∀ l : List Int, (l.map (P.int .i64)).flatMap P.cells = l.map (P.int .i64) := flat_int
  repeat refine gwp_seq ?_
  refine gwp_region ?_
  refine v0 (k := ?_)
  refine v1 (hc := kVd1.h {}) (k := ?_)
  refine v0 (k := ?_)
  refine nil0 ?_
  refine cl [0, 1, 2, 6] (k := ?_)
  repeat refine gwp_seq ?_
  refine gwp_block ?_
  repeat refine gwp_seq ?_
  refine gc_loop (fun mz σ => ∃ (i : Nat) (ys : List Int), (1 ≤ i) ∧ (i ≤ n + 1) ∧ (ys.length ≤ n) ∧ (n ≤ ys.length) ∧ (ys.Perm xs) ∧ ((ys.take i).Pairwise (· ≤ ·)) ∧ mz = n + 1 - i ∧ σ = (sg [(0, .own 0 n), (1, .p (.int .i64 0)), (2, .p (.int .i64 (n : Nat))), (6, .p (.int .i64 (i : Nat)))] [(0, .arr 3 1 (ys.map (.int .i64)) false)] A [] : Sg E)) ?_ (fun mz σ hI => ?_)
  · refine lbeg [0, 1, 2, 6] (hV := ?_)
    exact ⟨_, 1, xs, by omega, by omega, by omega, by omega, List.Perm.refl _, one_sorted xs, rfl, rfl⟩
  obtain ⟨i, ys, hi1, hi, hy1, hy2, hp, hs, hnn, rfl⟩ := hI
  repeat refine gwp_seq ?_
  refine gwp_region ?_
  refine v0 (k := ?_)
  refine v0 (k := ?_)
  refine v0 (k := ?_)
  refine nil0 ?_
  repeat refine gwp_seq ?_
  refine cB (k1 := fun hb1 => ?_) (k0 := fun hb1 => ?_)
  · replace hb1 := hB.h {} hb1
    try rw [eqI] at hb1
    repeat refine gwp_seq ?_
    refine gwp_skip ?_
    refine cl [0, 1, 2, 6] (k := ?_)
    repeat refine gwp_seq ?_
    refine gwp_block ?_
    repeat refine gwp_seq ?_
    obtain ⟨s, x, r, hsr, hsl⟩ := split_at ys i (by omega)
    have hs2 : s.Pairwise (· ≤ ·) := by rw [hsr, ← hsl, List.take_left] at hs; exact hs
    have hsl1 := Nat.le_of_eq hsl
    have hsl2 := Nat.le_of_eq hsl.symm
    have hyl : ys.length = s.length + 1 + r.length := by rw [hsr]; simp; omega
    refine gwp_region ?_
    refine v0 (k := ?_)
    refine v0 (k := ?_)
    refine nil0 ?_
    refine cl [0, 1, 2, 6, 7] (k := ?_)
    repeat refine gwp_seq ?_
    refine gwp_block ?_
    repeat refine gwp_seq ?_
    refine gc_loop (fun mz σ => ∃ j : Nat, (j ≤ s.length) ∧ (∀ z ∈ s.drop j, x < z) ∧ mz = j ∧ σ = (sg [(0, .own 0 n), (1, .p (.int .i64 0)), (2, .p (.int .i64 (n : Nat))), (6, .p (.int .i64 (i : Nat))), (7, .p (.int .i64 (j : Nat)))] [(0, .arr 3 1 ((mvL s x r j).map (.int .i64)) false)] A [] : Sg E)) ?_ (fun mz σ hI => ?_)
    · refine lbeg [0, 1, 2, 6, 7] (hV := ?_)
      exact ⟨_, s.length, Nat.le_refl _, fun z hz => by simp at hz, rfl, sgE (by rw [hsl]) (by rw [mvL_top, hsr])⟩
    obtain ⟨j, hj, hd, hnj, rfl⟩ := hI
    repeat refine gwp_seq ?_
    have hml := mvL_len s x r (j := j) (by omega)
    rcases Nat.eq_zero_or_pos j with hj0 | hj0
    · have hj1 : ¬ (0 : Int) < (j : Nat) := by omega
      have hj2 : j ≤ 0 := by omega
      clear hj0
      repeat refine gwp_seq ?_
      refine rd ?_
      refine da0 0 (k := ?_)
      refine da0 1 (k := ?_)
      refine d0 2 (k := ?_)
      refine da0 3 (k := ?_)
      refine dx0 4 (k := ?_)
      refine dx0 5 (k := ?_)
      refine dx0 6 (k := ?_)
      refine dx0 7 (k := ?_)
      refine dx0 8 (k := ?_)
      refine dx0 9 (k := ?_)
      refine dx0 10 (k := ?_)
      refine dx0 11 (k := ?_)
      refine dx0 12 (k := ?_)
      refine dx0 13 (k := ?_)
      refine da0 14 (k := ?_)
      refine dz 15 [0, 0, 3, 7, 15, 15, 63, 127, 15, 15, 527, 1807, 3855, 8191, 16383] (h := ?_)
      refine de 15 (h := ?_)
      repeat refine gwp_seq ?_
      refine cF (k := ?_)
      repeat refine gwp_seq ?_
      refine gwp_exit ?_
      repeat (first | refine gthen_exit ?_ | refine gnoGoto_exit ?_ | refine gblock_here ?_ | refine gblock_out rfl ?_)
      refine cl [0, 1, 2, 6] (k := ?_)
      repeat refine gwp_seq ?_
      refine gwp_region ?_
      refine v0 (k := ?_)
      refine v1 (hc := kVd1.h {}) (k := ?_)
      refine v0 (k := ?_)
      refine nil0 ?_
      refine lend [0, 1, 2, 6] (h := ?_) (hV := ?_) (n' := n + 1 - (i + 1))
      · omega
      have hml := mvL_len s x r (j := j) (by omega)
      first
      | exact ⟨i + 1, mvL s x r j, by omega, by omega, by omega, by omega, (mvL_perm s x r j).trans (hsr ▸ hp), by rw [← hsl]; exact mvL_sorted (by omega) hs2 hd (.inl (by omega)), by omega, rfl⟩
      | exact ⟨i + 1, mvL s x r j, by omega, by omega, by omega, by omega, (mvL_perm s x r j).trans (hsr ▸ hp), by rw [← hsl]; exact mvL_sorted (by omega) hs2 hd (.inr ⟨y, hy, by omega⟩), by omega, rfl⟩
    have hj1 : (0 : Int) < (j : Nat) := by omega
    obtain ⟨y, hy⟩ := getE (l := s) (k := j - 1) (by omega)
    have hx0 := mvL_at (s := s) (x := x) (r := r) (j := j) (by omega)
    have hy0 : (mvL s x r j)[((j : Int) - 1).toNat]? = some y := by rw [show ((j : Int) - 1).toNat = j - 1 by omega, mvL_below (by omega) (by omega)]; exact hy
    repeat refine gwp_seq ?_
    refine rd ?_
    refine da0 0 (k := ?_)
    refine da0 1 (k := ?_)
    refine d0 2 (k := ?_)
    refine da0 3 (k := ?_)
    refine dw0 4 (k := ?_)
    refine dw0 5 (k := ?_)
    refine dw1 6 (hc := kVd1.h {}) (k := ?_)
    refine dw1 7 (hc := by (first | omega | (simp <;> omega))) (k := ?_)
    refine dw0 8 (k := ?_)
    refine dw0 9 (k := ?_)
    refine dw1 10 (hc := kVd1.h {}) (k := ?_)
    refine dw1 11 (hc := kVd1.h {}) (k := ?_)
    refine dw1 12 (hc := by (first | omega | (simp <;> omega))) (k := ?_)
    refine dpcw 13 (spec := s_less x y) (hent := ent105) (k := ?_)
    refine da0 14 (k := ?_)
    refine dz 15 [0, 0, 3, 7, 15, 15, 63, 127, 15, 15, 527, 1807, 3855, 8191, 16383] (h := ?_)
    refine de 15 (h := ?_)
    repeat refine gwp_seq ?_
    refine cB (k1 := fun hb2 => ?_) (k0 := fun hb2 => ?_)
    · replace hb2 := hB.h {} hb2
      try rw [eqI] at hb2
      repeat refine gwp_seq ?_
      refine gwp_skip ?_
      refine cl [0, 1, 2, 6, 7] (k := ?_)
      repeat refine gwp_seq ?_
      refine gwp_block ?_
      repeat refine gwp_seq ?_
      refine rd ?_
      refine da0 0 (k := ?_)
      refine da0 1 (k := ?_)
      refine da0 2 (k := ?_)
      refine da0 3 (k := ?_)
      refine d1 4 (hc := kVd1.h {}) (k := ?_)
      refine da0 5 (k := ?_)
      refine da0 6 (k := ?_)
      refine d1 7 (hc := kVd1.h {}) (k := ?_)
      refine d1 8 (hc := kVd1.h {}) (k := ?_)
      refine d1 9 (hc := by (first | omega | (simp <;> omega))) (k := ?_)
      refine da0 10 (k := ?_)
      refine da0 11 (k := ?_)
      refine d1 12 (hc := kVd1.h {}) (k := ?_)
      refine d1 13 (hc := by (first | omega | (simp <;> omega))) (k := ?_)
      refine d1 14 (hc := kVd1.h {}) (k := ?_)
      refine ds1 15 (hc := kVd1.h {}) (k := ?_)
      refine d1 16 (hc := kVd1.h {}) (k := ?_)
      refine ds1 17 (hc := kVd1.h {}) (k := ?_)
      refine dz 18 [0, 0, 0, 0, 8, 0, 0, 64, 224, 480, 0, 0, 3072, 7168, 16355, 32739, 65535, 131071] (h := ?_)
      refine de 18 (h := ?_)
      refine cl [0, 1, 2, 6, 7] (k := ?_)
      repeat refine gwp_seq ?_
      refine gwp_region ?_
      refine v0 (k := ?_)
      refine v1 (hc := kVd1.h {}) (k := ?_)
      refine v0 (k := ?_)
      refine nil0 ?_
      refine lend [0, 1, 2, 6, 7] (h := ?_) (hV := ?_) (n' := j - 1)
      · omega
      obtain ⟨q, rfl⟩ : ∃ q, j = q + 1 := ⟨j - 1, by omega⟩
      have hsw := mvL_swap (s := s) (x := x) (r := r) (j := q) (y := y) (by omega) (by simpa using hy)
      exact ⟨q, by omega, drop_mem hd (by simpa using hy) (by omega), by omega, sgE (by rw [show ((q + 1 : Nat) : Int) - 1 = (q : Nat) by omega]) (by rw [show (((q + 1 : Nat) : Int) - 1).toNat = q by omega, hsw])⟩
    replace hb2 := hB.h {} hb2
    try rw [eqI] at hb2
    repeat refine gwp_seq ?_
    refine gwp_exit ?_
    repeat (first | refine gthen_exit ?_ | refine gnoGoto_exit ?_ | refine gblock_here ?_ | refine gblock_out rfl ?_)
    refine cl [0, 1, 2, 6] (k := ?_)
    repeat refine gwp_seq ?_
    refine gwp_region ?_
    refine v0 (k := ?_)
    refine v1 (hc := kVd1.h {}) (k := ?_)
    refine v0 (k := ?_)
    refine nil0 ?_
    refine lend [0, 1, 2, 6] (h := ?_) (hV := ?_) (n' := n + 1 - (i + 1))
    · omega
    have hml := mvL_len s x r (j := j) (by omega)
    first
    | exact ⟨i + 1, mvL s x r j, by omega, by omega, by omega, by omega, (mvL_perm s x r j).trans (hsr ▸ hp), by rw [← hsl]; exact mvL_sorted (by omega) hs2 hd (.inl (by omega)), by omega, rfl⟩
    | exact ⟨i + 1, mvL s x r j, by omega, by omega, by omega, by omega, (mvL_perm s x r j).trans (hsr ▸ hp), by rw [← hsl]; exact mvL_sorted (by omega) hs2 hd (.inr ⟨y, hy, by omega⟩), by omega, rfl⟩
  replace hb1 := hB.h {} hb1
  try rw [eqI] at hb1
  repeat refine gwp_seq ?_
  refine gwp_exit ?_
  repeat (first | refine gthen_exit ?_ | refine gnoGoto_exit ?_ | refine gblock_here ?_ | refine gblock_out rfl ?_)
  try refine gnoGoto_normal ?_
  refine fin_normal ?_
  refine fh0 [0] (hR := ?_)
  rw [← sort_unique hp (by rw [List.take_of_length_le (by omega)] at hs; exact hs)]
theorem ent91 : Enters Try.prog 91 := Enters.mk Try.func91 (by kernel_rfl) rfl
theorem s_pdq {E : Env Try.prog} {A : E.α} (xs : List Int) (n : Nat) (hx1 : xs.length ≤ n) (hx2 : n ≤ xs.length) (hn : n ≤ 12) (lim : Int) : Gh.Spec E 91 [.own 0 n, .p (.int .i64 0), .p (.int .i64 (n : Nat)), .p (.int .i64 lim)] (mkHp [(0, .arr 3 1 (xs.map (.int .i64)) false)]) A (fun y => y = .ok (.p (.tuple [])) (mkHp [(0, .arr 3 1 ((sortI xs).map (.int .i64)) false)]) A) := by
  refine spec_of Try.func91 (rfl : Try.f91.body = some _) (Nat.le_of_ble_eq_true rfl) (fun id h => ?_) (fun j id h => ?_) ?_
  · exact wf1x h
  · exact wf2x h
  intro C hN hL
  replace hN : C.N = 134 := hN
  simp only [Gh.num, List.map_cons, List.map_nil, Nat.reduceAdd]
  have hdt : ∀ (i : Decidable True), @decide True i = true := fun i => decide_eq_true trivial
  have hdf : ∀ (i : Decidable False), @decide False i = false := fun i => decide_eq_false id
  repeat refine gwp_seq ?_
  refine gwp_region ?_
  refine v0 (k := ?_)
  refine nil0 ?_
  refine cl [0, 1, 2, 3, 8] (k := ?_)
  repeat refine gwp_seq ?_
  refine gwp_region ?_
  refine v0 (k := ?_)
  refine nil0 ?_
  refine cl [0, 1, 2, 3, 8, 9] (k := ?_)
  repeat refine gwp_seq ?_
  refine gwp_block ?_
  repeat refine gwp_seq ?_
  refine gc_loop (fun mz σ => ∃ z : Nat, (z ≤ 0) ∧ mz = z ∧ σ = (sg [(0, .own 0 n), (1, .p (.int .i64 0)), (2, .p (.int .i64 (n : Nat))), (3, .p (.int .i64 lim)), (8, .p (.bool true)), (9, .p (.bool true))] [(0, .arr 3 1 (xs.map (.int .i64)) false)] A [] : Sg E)) ?_ (fun mz σ hI => ?_)
  · refine lbeg [0, 1, 2, 3, 8, 9] (hV := ?_)
    exact ⟨_, 0, by omega, rfl, rfl⟩
  obtain ⟨z, hz, hnz, rfl⟩ := hI
  repeat refine gwp_seq ?_
  refine gwp_block ?_
  repeat refine gwp_seq ?_
  refine gwp_region ?_
  refine v0 (k := ?_)
  refine v0 (k := ?_)
  refine v1 (hc := kVd2.h {}) (k := ?_)
  refine v0 (k := ?_)
  refine nil0 ?_
  refine cl [0, 1, 2, 3, 8, 9, 10] (k := ?_)
  repeat refine gwp_seq ?_
  refine gwp_region ?_
  refine v0 (k := ?_)
  refine v0 (k := ?_)
  refine rb 23 true (h := by (first | with_reducible rfl | exact decide_eq_true (by omega) | exact nd_t (by omega) | rfl | decide)) (k := ?_)
  refine nil0 ?_
  repeat refine gwp_seq ?_
  refine cT (k := ?_)
  repeat refine gwp_seq ?_
  refine gwp_region ?_
  refine v0 (k := ?_)
  refine v0 (k := ?_)
  refine v0 (k := ?_)
  refine oc0 [(0, 0)] [] [0, 0, 0] none (spec := s_ins xs n hx1 hx2 hn) (hent := ent99) (k := ?_)
  refine nil0 ?_
  repeat refine gwp_seq ?_
  refine gwp_ret ?_
  repeat (first | refine gthen_ret ?_ | refine gblock_ret ?_ | refine gnoGoto_ret ?_)
  refine fin_ret ?_
  refine fh0 [0] (hR := ?_)
  rfl
theorem ent72 : Enters Try.prog 72 := Enters.mk Try.func72 (by kernel_rfl) rfl
theorem s_sort {E : Env Try.prog} {A : E.α} (xs : List Int) (n : Nat) (hx1 : xs.length ≤ n) (hx2 : n ≤ xs.length) (hn : n ≤ 12) : Gh.Spec E 72 [.own 0 n] (mkHp [(0, .arr 3 1 (xs.map (.int .i64)) false)]) A (fun y => y = .ok (.p (.tuple [])) (mkHp [(0, .arr 3 1 ((sortI xs).map (.int .i64)) false)]) A) := by
  refine spec_of Try.func72 (rfl : Try.f72.body = some _) (Nat.le_of_ble_eq_true rfl) (fun id h => ?_) (fun j id h => ?_) ?_
  · exact wf1x h
  · exact wf2x h
  intro C hN hL
  replace hN : C.N = 11 := hN
  simp only [Gh.num, List.map_cons, List.map_nil, Nat.reduceAdd]
  have hw : IntKind.u64.wrap ((n : Nat) : Int) = ((n : Nat) : Int) := IntWalk.u64_in _ (by omega)
  repeat refine gwp_seq ?_
  refine gwp_region ?_
  refine v0 (k := ?_)
  refine v1 (hc := by (first | omega | (simp <;> omega))) (k := ?_)
  refine v0 (k := ?_)
  refine nil0 ?_
  refine cl [0, 2] (k := ?_)
  repeat refine gwp_seq ?_
  refine gwp_region ?_
  refine v0 (k := ?_)
  refine v0 (k := ?_)
  refine v0 (k := ?_)
  refine v1 (hc := kVd2.h {}) (k := ?_)
  refine pc0 (spec := s_len n hn) (hent := ent92) (k := ?_)
  refine oc0 [(0, 0)] [] [0, 0, 0, 0] none (spec := s_pdq xs n hx1 hx2 hn (lenL n : Nat)) (hent := ent91) (k := ?_)
  refine nil0 ?_
  try refine gnoGoto_normal ?_
  refine fin_normal ?_
  refine fh0 [0] (hR := ?_)
  rfl
end Go.Proofs.Ytabeeaiilanmjaa

/- The program: is a place served? -/
namespace Go.Proofs.Ytabeeaiilanmjaa
open Go.Gh
set_option maxRecDepth 100000
set_option maxHeartbeats 4000000
structure kVe1 (c : Prop) : Prop where
  h : c := by (first | exact True.intro | omega | (simp only [inI]; omega) | (simp [P.size, pS, all_int, allOne_p, goods_p, allOne, goods, good, G.one, P.one, P.cells] <;> first | omega | assumption | simp_all))
theorem days_next {ps : List Sk} {s k : Nat} {p : Sk} (hp : ps[k]? = some p) (h : s.testBit k = true) : daysN ps s (k + 1) = daysN ps s k ++ [p.day] := by
  rw [daysN, hp]; simp only []; rw [if_pos h]
theorem days_skip {ps : List Sk} {s k : Nat} {p : Sk} (hp : ps[k]? = some p) (h : s.testBit k = false) : daysN ps s (k + 1) = daysN ps s k := by
  rw [daysN, hp]; simp only []; rw [if_neg (by simp [h])]
theorem days_len (ps : List Sk) (s : Nat) : ∀ k, (daysN ps s k).length ≤ k
  | 0 => by simp [daysN]
  | k + 1 => by
    have := days_len ps s k
    rw [daysN]
    split
    · split
      · rw [List.length_append, List.length_cons, List.length_nil]; omega
      omega
    omega
theorem days_in {f : Fd} (hv : f.valid = true) (s : Nat) : ∀ k, ∀ d ∈ daysN f.ps s k, 0 ≤ d ∧ d ≤ 65536
  | 0, d, h => by simp [daysN] at h
  | k + 1, d, h => by
    rw [daysN] at h
    split at h
    · rename_i p hp
      split at h
      · rcases List.mem_append.1 h with h | h
        · exact days_in hv s k d h
        rw [List.mem_singleton] at h
        subst h
        exact (valid_ps hv (List.mem_of_getElem? hp)).2.2.1
      exact days_in hv s k d h
    exact days_in hv s k d h
/-- After some of the days. -/
def preG (gp : Int) (l : List Int) (j : Nat) : Int × Int := (l.take j).foldl (takeG gp) (0, 0)
theorem pre_next {gp : Int} {l : List Int} {j : Nat} {d : Int} (h : l[j]? = some d) : preG gp l (j + 1) = takeG gp (preG gp l j) d := by
  rw [preG, List.take_add_one, h, Option.toList_some, List.foldl_append]; rfl
theorem pre_all (gp : Int) (l : List Int) : preG gp l l.length = grd gp l := by rw [preG, List.take_length]; rfl
theorem pre_in {gp : Int} {l : List Int} (hl : ∀ d ∈ l, 0 ≤ d ∧ d ≤ 65536) : ∀ j, (0 ≤ (preG gp l j).1 ∧ (preG gp l j).1 ≤ j) ∧ 0 ≤ (preG gp l j).2 ∧ (preG gp l j).2 ≤ 65536
  | 0 => by simp [preG]
  | j + 1 => by
    have ih := pre_in (gp := gp) hl j
    cases h : l[j]? with
    | none =>
      have e : preG gp l (j + 1) = preG gp l j := by rw [preG, List.take_add_one, h]; simp [preG]
      rw [e]; omega
    | some d =>
      have hd := hl d (List.mem_of_getElem? h)
      rw [pre_next h, takeG]
      split
      · exact ⟨⟨by simp only; omega, by simp only; omega⟩, hd⟩
      omega
theorem tri (n x y : Int) : n = 0 ∨ (¬ n = 0 ∧ x ≤ y) ∨ (¬ n = 0 ∧ ¬ x ≤ y) := by omega
theorem ent73 : Enters Try.prog 73 := Enters.mk Try.func73 (by kernel_rfl) rfl
theorem s_take {E : Env Try.prog} {A : E.α} (f : Fd) (hv : f.valid = true) (n l d : Int) (hn : 0 ≤ n ∧ n ≤ 1000) (hl : 0 ≤ l ∧ l ≤ 65536) (hd : 0 ≤ d ∧ d ≤ 65536) : Gh.Spec E 73 [.p (.int .i64 d), .ref 0 0, .ref 1 0, .ptr [.ptr [.p (.list (f.ps.map pS)), .p (.int .i64 f.el), .p (.int .i64 f.eh), .p (.int .i64 f.nl), .p (.int .i64 f.nh), .p (.int .i64 f.dl), .p (.int .i64 f.dh), .p (.int .i64 f.dep), .p (.int .i64 f.tm), .p (.int .i64 f.gp)]]] (mkHp [(0, .cells [.p (.int .i64 n)] 0), (1, .cells [.p (.int .i64 l)] 0)]) A (fun y => y = .ok (.p (.tuple [])) (mkHp [(0, .cells [.p (.int .i64 (takeG f.gp (n, l) d).1)] 0), (1, .cells [.p (.int .i64 (takeG f.gp (n, l) d).2)] 0)]) A) := by
  refine spec_of Try.func73 (rfl : Try.f73.body = some _) (Nat.le_of_ble_eq_true rfl) (fun id h => ?_) (fun j id h => ?_) ?_
  · exact wf1x h
  · exact wf2x h
  intro C hN hL
  replace hN : C.N = 21 := hN
  simp only [Gh.num, List.map_cons, List.map_nil, Nat.reduceAdd]
  have hdt : ∀ (i : Decidable True), @decide True i = true := fun i => decide_eq_true trivial
  have hdf : ∀ (i : Decidable False), @decide False i = false := fun i => decide_eq_false id
  repeat refine gwp_seq ?_
  rcases tri n f.gp (d - l) with rfl | ⟨h1, h2⟩ | ⟨h1, h2⟩
  · repeat refine gwp_seq ?_
    refine rd ?_
    refine d0 0 (k := ?_)
    refine d0 1 (k := ?_)
    refine d0 2 (k := ?_)
    refine dx0 3 (k := ?_)
    refine dx0 4 (k := ?_)
    refine dx0 5 (k := ?_)
    refine dx0 6 (k := ?_)
    refine dx0 7 (k := ?_)
    refine dx0 8 (k := ?_)
    refine dx0 9 (k := ?_)
    refine dx0 10 (k := ?_)
    refine dx0 11 (k := ?_)
    refine d0 12 (k := ?_)
    refine dz 13 [0, 1, 3, 7, 7, 31, 7, 71, 199, 455, 967, 2047, 4095] (h := ?_)
    refine de 13 (h := ?_)
    repeat refine gwp_seq ?_
    refine cT (k := ?_)
    repeat refine gwp_seq ?_
    refine gwp_region ?_
    refine v0 (k := ?_)
    refine v1 (hc := kVe1.h {}) (k := ?_)
    refine v0 (k := ?_)
    refine s1 (hc := kVe1.h {}) (k := ?_)
    refine s1 (hc := kVe1.h {}) (k := ?_)
    refine nil0 ?_
    try refine gnoGoto_normal ?_
    refine fin_normal ?_
    first
    | (refine fh0 [0, 1] (hR := ?_)
       rw [takeG, if_pos (.inl rfl)]
       done)
    | (refine fh0 [0, 1] (hR := ?_)
       rw [takeG, if_pos (.inr h2)]
       done)
    | (refine fh0 [0, 1] (hR := ?_)
       rw [takeG, if_neg (by simp only; omega)]
       done)
  · repeat refine gwp_seq ?_
    refine rd ?_
    refine d0 0 (k := ?_)
    refine d0 1 (k := ?_)
    refine d0 2 (k := ?_)
    refine dw0 3 (k := ?_)
    refine dw0 4 (k := ?_)
    refine dw1 5 (hc := kVe1.h {}) (k := ?_)
    refine dw0 6 (k := ?_)
    refine dw0 7 (k := ?_)
    refine dw0 8 (k := ?_)
    refine dw0 9 (k := ?_)
    refine dw0 10 (k := ?_)
    refine dw0 11 (k := ?_)
    refine d0 12 (k := ?_)
    refine dz 13 [0, 1, 3, 7, 7, 31, 7, 71, 199, 455, 967, 2047, 4095] (h := ?_)
    refine de 13 (h := ?_)
    repeat refine gwp_seq ?_
    refine cT (k := ?_)
    repeat refine gwp_seq ?_
    refine gwp_region ?_
    refine v0 (k := ?_)
    refine v1 (hc := kVe1.h {}) (k := ?_)
    refine v0 (k := ?_)
    refine s1 (hc := kVe1.h {}) (k := ?_)
    refine s1 (hc := kVe1.h {}) (k := ?_)
    refine nil0 ?_
    try refine gnoGoto_normal ?_
    refine fin_normal ?_
    first
    | (refine fh0 [0, 1] (hR := ?_)
       rw [takeG, if_pos (.inl rfl)]
       done)
    | (refine fh0 [0, 1] (hR := ?_)
       rw [takeG, if_pos (.inr h2)]
       done)
    | (refine fh0 [0, 1] (hR := ?_)
       rw [takeG, if_neg (by simp only; omega)]
       done)
  repeat refine gwp_seq ?_
  refine rd ?_
  refine d0 0 (k := ?_)
  refine d0 1 (k := ?_)
  refine d0 2 (k := ?_)
  refine dw0 3 (k := ?_)
  refine dw0 4 (k := ?_)
  refine dw1 5 (hc := kVe1.h {}) (k := ?_)
  refine dw0 6 (k := ?_)
  refine dw0 7 (k := ?_)
  refine dw0 8 (k := ?_)
  refine dw0 9 (k := ?_)
  refine dw0 10 (k := ?_)
  refine dw0 11 (k := ?_)
  refine d0 12 (k := ?_)
  refine dz 13 [0, 1, 3, 7, 7, 31, 7, 71, 199, 455, 967, 2047, 4095] (h := ?_)
  refine de 13 (h := ?_)
  repeat refine gwp_seq ?_
  refine cF (k := ?_)
  repeat refine gwp_seq ?_
  refine gwp_skip ?_
  try refine gnoGoto_normal ?_
  refine fin_normal ?_
  first
  | (refine fh0 [0, 1] (hR := ?_)
     rw [takeG, if_pos (.inl rfl)]
     done)
  | (refine fh0 [0, 1] (hR := ?_)
     rw [takeG, if_pos (.inr h2)]
     done)
  | (refine fh0 [0, 1] (hR := ?_)
     rw [takeG, if_neg (by simp only; omega)]
     done)
theorem ent46 : Enters Try.prog 46 := Enters.mk Try.func46 (by kernel_rfl) rfl
theorem s_serves {E : Env Try.prog} {A : E.α} (f : Fd) (hv : f.valid = true) (s : Nat) (hs : s < 4096) : Gh.Spec E 46 [.ptr [.p (.list (f.ps.map pS)), .p (.int .i64 f.el), .p (.int .i64 f.eh), .p (.int .i64 f.nl), .p (.int .i64 f.nh), .p (.int .i64 f.dl), .p (.int .i64 f.dh), .p (.int .i64 f.dep), .p (.int .i64 f.tm), .p (.int .i64 f.gp)], .p (.int .u64 (s : Nat))] (mkHp []) A (fun y => y = .ok (.p (.bool (servQ f s))) (mkHp []) A) := by
  refine spec_of Try.func46 (rfl : Try.f46.body = some _) (Nat.le_of_ble_eq_true rfl) (fun id h => ?_) (fun j id h => ?_) ?_
  · exact wf1x h
  · exact wf2x h
  intro C hN hL
  replace hN : C.N = 53 := hN
  simp only [Gh.num, List.map_cons, List.map_nil, Nat.reduceAdd]
  have hn := valid_num hv
  have hfl : ∀ l : List Int, (l.map (P.int .i64)).flatMap P.cells = l.map (P.int .i64) := flat_int
  have hpS : ∀ p : Sk, pS p = P.agg [.int .i64 p.el, .int .i64 p.eh, .int .i64 p.nl, .int .i64 p.nh, .int .i64 p.day, .int .i64 p.dep] := fun _ => rfl
  repeat refine gwp_seq ?_
  refine gwp_region ?_
  refine n1 120 false (hc := kVe1.h {}) (k := ?_)
  refine v0 (k := ?_)
  refine nil0 ?_
  refine cl [1, 2] (k := ?_)
  repeat refine gwp_seq ?_
  refine gwp_region ?_
  refine v0 (k := ?_)
  refine nil0 ?_
  refine cl [1, 2, 5] (k := ?_)
  repeat refine gwp_seq ?_
  refine gc_adoptR 5 3000 3 1 false (by simp only [mkFr_cons, Nat.reduceEqDiff, reduceIte]) (by simp only [mkHp_cons, mkHp_nil, Nat.reduceEqDiff, reduceIte]) (by omega) ?_
  refine gwp_region ?_
  refine v0 (k := ?_)
  refine v0 (k := ?_)
  refine v0 (k := ?_)
  refine v0 (k := ?_)
  refine v0 (k := ?_)
  refine v0 (k := ?_)
  refine v0 (k := ?_)
  refine nil0 ?_
  refine cl [1, 2, 5, 17, 18, 19] (k := ?_)
  repeat refine gwp_seq ?_
  refine gwp_block ?_
  repeat refine gwp_seq ?_
  refine gc_loop (fun mz σ => ∃ k : Nat, (k ≤ f.ps.length) ∧ mz = f.ps.length - k ∧ σ = (sg [(1, .p (.int .u64 (s : Nat))), (2, .ref 120 0), (5, .own 3000 (daysN f.ps s k).length), (17, .p (.list (f.ps.map pS))), (18, .p (.int .i64 (f.ps.length : Nat))), (19, .p (.int .i64 (k : Nat)))] [(120, .cells [.ptr [.p (.list (f.ps.map pS)), .p (.int .i64 f.el), .p (.int .i64 f.eh), .p (.int .i64 f.nl), .p (.int .i64 f.nh), .p (.int .i64 f.dl), .p (.int .i64 f.dh), .p (.int .i64 f.dep), .p (.int .i64 f.tm), .p (.int .i64 f.gp)]] 0), (3000, .arr 3 1 ((daysN f.ps s k).map (.int .i64)) false)] A [] : Sg E)) ?_ (fun mz σ hI => ?_)
  · refine lbeg [1, 2, 5, 17, 18, 19] (hV := ?_)
    exact ⟨_, 0, by omega, rfl, rfl⟩
  obtain ⟨k, hk, hnn, rfl⟩ := hI
  repeat refine gwp_seq ?_
  refine gwp_region ?_
  refine v0 (k := ?_)
  refine nil0 ?_
  repeat refine gwp_seq ?_
  refine cB (k1 := fun hb1 => ?_) (k0 := fun hb1 => ?_)
  · replace hb1 := hB.h {} hb1
    try rw [eqI] at hb1
    repeat refine gwp_seq ?_
    refine gwp_skip ?_
    refine cl [1, 2, 5, 17, 18, 19] (k := ?_)
    repeat refine gwp_seq ?_
    refine gwp_block ?_
    repeat refine gwp_seq ?_
    obtain ⟨p, hp⟩ := getE (l := f.ps) (k := k) (by omega)
    have hdl := days_len f.ps s k
    refine gwp_region ?_
    refine v0 (k := ?_)
    refine v1 (hc := kVe1.h {}) (k := ?_)
    refine v0 (k := ?_)
    refine n1 170 false (hc := kVe1.h {}) (k := ?_)
    refine v0 (k := ?_)
    refine s1 (hc := kVe1.h {}) (k := ?_)
    refine nil0 ?_
    refine cl [1, 2, 5, 6, 7, 17, 18, 19] (k := ?_)
    repeat refine gwp_seq ?_
    refine gwp_region ?_
    refine v0 (k := ?_)
    refine v0 (k := ?_)
    refine pc0 (spec := s_has s k (by omega) (by omega)) (hent := ent55) (k := ?_)
    refine nil0 ?_
    repeat refine gwp_seq ?_
    refine cB (k1 := fun hb2 => ?_) (k0 := fun hb2 => ?_)
    · replace hb2 := hB.h {} hb2
      try rw [eqI] at hb2
      repeat refine gwp_seq ?_
      refine gwp_region ?_
      refine v0 (k := ?_)
      refine v0 (k := ?_)
      refine v0 (k := ?_)
      refine n1 400 false (hc := kVe1.h {}) (k := ?_)
      refine n1 410 false (hc := kVe1.h {}) (k := ?_)
      refine v0 (k := ?_)
      refine nil0 ?_
      refine cl [1, 2, 5, 17, 18, 19] (k := ?_)
      repeat refine gwp_seq ?_
      refine gwp_region ?_
      refine v1 (hc := kVe1.h {}) (k := ?_)
      refine v0 (k := ?_)
      refine nil0 ?_
      refine lend [1, 2, 5, 17, 18, 19] (h := ?_) (hV := ?_) (n' := f.ps.length - (k + 1))
      · omega
      first
      | exact ⟨k + 1, by omega, rfl, sgE (by rw [days_next hp (by assumption), List.length_append]; rfl) (by rw [days_next hp (by assumption), List.map_append]; rfl)⟩
      | exact ⟨k + 1, by omega, rfl, sgE (by rw [days_skip hp (by assumption)]; rfl) (by rw [days_skip hp (by assumption)])⟩
    replace hb2 := hB.h {} hb2
    try rw [eqI] at hb2
    repeat refine gwp_seq ?_
    refine gwp_skip ?_
    refine cl [1, 2, 5, 17, 18, 19] (k := ?_)
    repeat refine gwp_seq ?_
    refine gwp_region ?_
    refine v1 (hc := kVe1.h {}) (k := ?_)
    refine v0 (k := ?_)
    refine nil0 ?_
    refine lend [1, 2, 5, 17, 18, 19] (h := ?_) (hV := ?_) (n' := f.ps.length - (k + 1))
    · omega
    first
    | exact ⟨k + 1, by omega, rfl, sgE (by rw [days_next hp (by assumption), List.length_append]; rfl) (by rw [days_next hp (by assumption), List.map_append]; rfl)⟩
    | exact ⟨k + 1, by omega, rfl, sgE (by rw [days_skip hp (by assumption)]; rfl) (by rw [days_skip hp (by assumption)])⟩
  replace hb1 := hB.h {} hb1
  try rw [eqI] at hb1
  repeat refine gwp_seq ?_
  refine gwp_exit ?_
  repeat (first | refine gthen_exit ?_ | refine gnoGoto_exit ?_ | refine gblock_here ?_ | refine gblock_out rfl ?_)
  refine cl [2, 5] (k := ?_)
  repeat refine gwp_seq ?_
  obtain rfl : k = f.ps.length := by omega
  have hdl := days_len f.ps s f.ps.length
  have hdi := days_in hv s f.ps.length
  have hsl := sortI_len (daysN f.ps s f.ps.length)
  have hsl1 := Nat.le_of_eq hsl
  have hsl2 := Nat.le_of_eq hsl.symm
  clear hsl
  have hsi : ∀ d ∈ (sortI (daysN f.ps s f.ps.length)), 0 ≤ d ∧ d ≤ 65536 := fun d hd => hdi d ((sortI_perm _).subset hd)
  refine gwp_region ?_
  refine v0 (k := ?_)
  refine oc0 [(0, 3000)] [] [0] none (spec := s_sort (daysN f.ps s f.ps.length) (daysN f.ps s f.ps.length).length (Nat.le_refl _) (Nat.le_refl _) (by omega)) (hent := ent72) (k := ?_)
  refine nil0 ?_
  refine cl [2, 5] (k := ?_)
  repeat refine gwp_seq ?_
  refine gwp_region ?_
  refine n1 180 false (hc := kVe1.h {}) (k := ?_)
  refine n1 190 false (hc := kVe1.h {}) (k := ?_)
  refine s1 (hc := kVe1.h {}) (k := ?_)
  refine s1 (hc := kVe1.h {}) (k := ?_)
  refine nil0 ?_
  refine cl [2, 5, 8, 9] (k := ?_)
  repeat refine gwp_seq ?_
  refine fz 120 1 [.k] (k := ?_)
  refine gwp_region ?_
  refine v0 (k := ?_)
  refine v0 (k := ?_)
  refine nil0 ?_
  refine cl [2, 5, 8, 10] (k := ?_)
  repeat refine gwp_seq ?_
  refine cv 10 (.f [.k, .k, .n [.k]]) (k := ?_)
  refine cv 2 (.n [.k]) (k := ?_)
  refine gwp_region ?_
  refine v0 (k := ?_)
  refine v1 (hc := by (first | omega | (simp <;> omega))) (k := ?_)
  refine v0 (k := ?_)
  refine nil0 ?_
  refine cl [2, 8, 10, 36, 37, 38] (k := ?_)
  repeat refine gwp_seq ?_
  refine gwp_block ?_
  repeat refine gwp_seq ?_
  refine gc_loop (fun mz σ => ∃ j : Nat, (j ≤ (daysN f.ps s f.ps.length).length) ∧ mz = (daysN f.ps s f.ps.length).length - j ∧ σ = (sg [(2, .ptr [.ptr [.p (.list (f.ps.map pS)), .p (.int .i64 f.el), .p (.int .i64 f.eh), .p (.int .i64 f.nl), .p (.int .i64 f.nh), .p (.int .i64 f.dl), .p (.int .i64 f.dh), .p (.int .i64 f.dep), .p (.int .i64 f.tm), .p (.int .i64 f.gp)]]), (8, .ref 180 0), (10, .fn (.func 73) [] [.ref 180 0, .ref 190 0, .ptr [.ptr [.p (.list (f.ps.map pS)), .p (.int .i64 f.el), .p (.int .i64 f.eh), .p (.int .i64 f.nl), .p (.int .i64 f.nh), .p (.int .i64 f.dl), .p (.int .i64 f.dh), .p (.int .i64 f.dep), .p (.int .i64 f.tm), .p (.int .i64 f.gp)]]]), (36, .own 3000 (daysN f.ps s f.ps.length).length), (37, .p (.int .i64 ((daysN f.ps s f.ps.length).length : Nat))), (38, .p (.int .i64 (j : Nat)))] [(180, .cells [.p (.int .i64 (preG f.gp (sortI (daysN f.ps s f.ps.length)) j).1)] 0), (190, .cells [.p (.int .i64 (preG f.gp (sortI (daysN f.ps s f.ps.length)) j).2)] 0), (3000, .arr 3 1 ((sortI (daysN f.ps s f.ps.length)).map (.int .i64)) false)] A [] : Sg E)) ?_ (fun mz σ hI => ?_)
  · refine lbeg [2, 8, 10, 36, 37, 38] (hV := ?_)
    exact ⟨_, 0, by omega, rfl, rfl⟩
  obtain ⟨j, hj, hnj, rfl⟩ := hI
  repeat refine gwp_seq ?_
  refine gwp_region ?_
  refine v0 (k := ?_)
  refine nil0 ?_
  repeat refine gwp_seq ?_
  refine cB (k1 := fun hb3 => ?_) (k0 := fun hb3 => ?_)
  · replace hb3 := hB.h {} hb3
    try rw [eqI] at hb3
    repeat refine gwp_seq ?_
    refine gwp_skip ?_
    refine cl [2, 8, 10, 36, 37, 38] (k := ?_)
    repeat refine gwp_seq ?_
    refine gwp_block ?_
    repeat refine gwp_seq ?_
    obtain ⟨d, hd⟩ := getE (l := (sortI (daysN f.ps s f.ps.length))) (k := j) (by omega)
    have hdr := hsi d (List.mem_of_getElem? hd)
    have hpi := pre_in (gp := f.gp) hsi j
    refine gwp_region ?_
    refine v1 (hc := kVe1.h {}) (k := ?_)
    refine v1 (hc := by (first | omega | (simp <;> omega))) (k := ?_)
    refine v0 (k := ?_)
    refine nil0 ?_
    refine cl [2, 8, 10, 12, 36, 37, 38] (k := ?_)
    repeat refine gwp_seq ?_
    refine gwp_region ?_
    refine v0 (k := ?_)
    refine v0 (k := ?_)
    refine oc0 [(0, 180), (1, 190)] [] [0, 0, 0, 0] none (spec := s_take f hv (preG f.gp (sortI (daysN f.ps s f.ps.length)) j).1 (preG f.gp (sortI (daysN f.ps s f.ps.length)) j).2 d (by omega) (by omega) (by omega)) (hent := ent73) (k := ?_)
    refine nil0 ?_
    refine cl [2, 8, 10, 36, 37, 38] (k := ?_)
    repeat refine gwp_seq ?_
    refine gwp_region ?_
    refine v1 (hc := kVe1.h {}) (k := ?_)
    refine v0 (k := ?_)
    refine nil0 ?_
    refine lend [2, 8, 10, 36, 37, 38] (h := ?_) (hV := ?_) (n' := (daysN f.ps s f.ps.length).length - (j + 1))
    · omega
    exact ⟨j + 1, by omega, rfl, sgE rfl (by rw [pre_next hd])⟩
  replace hb3 := hB.h {} hb3
  try rw [eqI] at hb3
  repeat refine gwp_seq ?_
  refine gwp_exit ?_
  repeat (first | refine gthen_exit ?_ | refine gnoGoto_exit ?_ | refine gblock_here ?_ | refine gblock_out rfl ?_)
  refine cl [2, 8] (k := ?_)
  repeat refine gwp_seq ?_
  have hjl : j = (sortI (daysN f.ps s f.ps.length)).length := by omega
  rw [hjl, pre_all]
  clear hjl
  refine rd ?_
  refine d0 0 (k := ?_)
  refine d0 1 (k := ?_)
  refine d0 2 (k := ?_)
  refine d0 3 (k := ?_)
  refine d0 4 (k := ?_)
  refine d0 5 (k := ?_)
  refine d0 6 (k := ?_)
  refine d0 7 (k := ?_)
  refine dz 8 [0, 0, 2, 6, 14, 30, 63, 127] (h := ?_)
  refine de 8 (h := ?_)
  repeat refine gwp_seq ?_
  refine gwp_ret ?_
  repeat (first | refine gthen_ret ?_ | refine gblock_ret ?_ | refine gnoGoto_ret ?_)
  refine fin_ret ?_
  refine fp (hR := ?_)
  rfl
end Go.Proofs.Ytabeeaiilanmjaa

/- The places of a field one after the other; the sets of plates that have places. -/
namespace Go.Proofs.Ytabeeaiilanmjaa
open Go.Gh
set_option maxRecDepth 100000
def curL (f : Fd) (i j : Nat) : List (Int × Int) := plcL f i ++ rowL f (f.el + i) j
theorem cur_next (f : Fd) (i j : Nat) : curL f i (j + 1) = curL f i j ++ [(f.el + i, f.nl + j)] := by rw [curL, rowL, ← List.append_assoc]; rfl
theorem cur_zero (f : Fd) (i : Nat) : curL f i 0 = plcL f i := by rw [curL, rowL, List.append_nil]
theorem cur_row (f : Fd) (i : Nat) : curL f i (hgt f) = curL f (i + 1) 0 := by rw [cur_zero, curL, plcL]
theorem row_pre (f : Fd) (x : Int) (j : Nat) : ∀ m, ∃ t, rowL f x (j + m) = rowL f x j ++ t
  | 0 => ⟨[], by simp⟩
  | m + 1 => by
    obtain ⟨t, h⟩ := row_pre f x j m
    exact ⟨t ++ [(x, f.nl + ((j + m : Nat) : Int))], by rw [← Nat.add_assoc, rowL, h, List.append_assoc]⟩
theorem plc_pre (f : Fd) (i : Nat) : ∀ m, ∃ t, plcL f (i + m) = plcL f i ++ t
  | 0 => ⟨[], by simp⟩
  | m + 1 => by
    obtain ⟨t, h⟩ := plc_pre f i m
    exact ⟨t ++ rowL f (f.el + ((i + m : Nat) : Int)) (hgt f), by rw [← Nat.add_assoc, plcL, h, List.append_assoc]⟩
theorem cur_pre (f : Fd) {i j : Nat} (hi : i < wid f) (hj : j ≤ hgt f) : ∃ t, plsL f = curL f i j ++ t := by
  obtain ⟨t1, h1⟩ := row_pre f (f.el + i) j (hgt f - j)
  obtain ⟨t2, h2⟩ := plc_pre f (i + 1) (wid f - (i + 1))
  rw [show j + (hgt f - j) = hgt f by omega] at h1
  rw [show i + 1 + (wid f - (i + 1)) = wid f by omega] at h2
  exact ⟨t1 ++ t2, by rw [plsL, h2, plcL, h1, curL, List.append_assoc, List.append_assoc, List.append_assoc]⟩
theorem cur_at (f : Fd) {i j : Nat} (hi : i < wid f) (hj : j < hgt f) : (plsL f)[(curL f i j).length]? = some (f.el + (i : Nat), f.nl + (j : Nat)) := by
  obtain ⟨t, h⟩ := cur_pre f hi (show j + 1 ≤ hgt f by omega)
  rw [h, cur_next, List.append_assoc, List.getElem?_append_right (Nat.le_refl _), Nat.sub_self]; rfl
theorem cur_all (f : Fd) : curL f (wid f) 0 = plsL f := cur_zero f _
theorem row_mem {f : Fd} {x : Int} : ∀ {j : Nat} {e : Int × Int}, e ∈ rowL f x j → e.1 = x ∧ f.nl ≤ e.2 ∧ e.2 < f.nl + j
  | 0, e, h => by simp [rowL] at h
  | j + 1, e, h => by
    rw [rowL] at h
    rcases List.mem_append.1 h with h | h
    · have := row_mem h; omega
    rw [List.mem_singleton] at h
    subst h
    exact ⟨rfl, by simp only; omega, by simp only; omega⟩
theorem plc_mem {f : Fd} : ∀ {i : Nat} {e : Int × Int}, e ∈ plcL f i → (f.el ≤ e.1 ∧ e.1 < f.el + i) ∧ f.nl ≤ e.2 ∧ e.2 < f.nl + hgt f
  | 0, e, h => by simp [plcL] at h
  | i + 1, e, h => by
    rw [plcL] at h
    rcases List.mem_append.1 h with h | h
    · have := plc_mem h; omega
    have := row_mem h; omega
theorem pls_mem {f : Fd} {e : Int × Int} (h : e ∈ plsL f) : (f.el ≤ e.1 ∧ e.1 ≤ f.eh) ∧ f.nl ≤ e.2 ∧ e.2 ≤ f.nh := by
  have := plc_mem h
  simp only [wid, hgt] at this
  omega
theorem mem_row {f : Fd} {x y : Int} : ∀ {j : Nat}, f.nl ≤ y → y < f.nl + j → (x, y) ∈ rowL f x j
  | 0, h1, h2 => by omega
  | j + 1, h1, h2 => by
    rw [rowL]
    by_cases e : y = f.nl + j
    · subst e; exact List.mem_append_right _ (List.mem_singleton.2 rfl)
    exact List.mem_append_left _ (mem_row h1 (by omega))
theorem mem_plc {f : Fd} {x y : Int} (hy : f.nl ≤ y ∧ y < f.nl + hgt f) : ∀ {i : Nat}, f.el ≤ x → x < f.el + i → (x, y) ∈ plcL f i
  | 0, h1, h2 => by omega
  | i + 1, h1, h2 => by
    rw [plcL]
    by_cases e : x = f.el + i
    · subst e; exact List.mem_append_right _ (mem_row hy.1 hy.2)
    exact List.mem_append_left _ (mem_plc hy h1 (by omega))
theorem mem_pls {f : Fd} {x y : Int} (hx : f.el ≤ x ∧ x ≤ f.eh) (hy : f.nl ≤ y ∧ y ≤ f.nh) : (x, y) ∈ plsL f :=
  mem_plc (by simp only [hgt]; omega) hx.1 (by simp only [wid]; omega)
theorem at_lt {f : Fd} (hl : f.ps.length ≤ 12) (x y : Int) : atN f x y < 4096 := Nat.lt_of_lt_of_le (setN_lt2 _ _) (Nat.pow_le_pow_right (by omega) hl)
/-- The sets of plates that have places, each one once. -/
def kindF (ks : List Nat) (s : Nat) : List Nat := if ks.contains s = true then ks else ks ++ [s]
def kindK (f : Fd) (l : List (Int × Int)) : List Nat := l.foldl (fun ks e => kindF ks (atN f e.1 e.2)) []
def kindsL (f : Fd) : List Nat := kindK f (plsL f)
theorem kind_next {f : Fd} {l : List (Int × Int)} {e : Int × Int} : kindK f (l ++ [e]) = kindF (kindK f l) (atN f e.1 e.2) := by rw [kindK, List.foldl_append]; rfl
theorem kindF_mem {ks : List Nat} {s x : Nat} : x ∈ kindF ks s ↔ x ∈ ks ∨ x = s := by
  unfold kindF
  split
  · rename_i h
    have := List.contains_iff_mem.1 h
    exact ⟨.inl, fun h => h.elim id fun e => e ▸ this⟩
  simp
theorem kindK_mem {f : Fd} {x : Nat} : ∀ (l : List (Int × Int)) (ks : List Nat), x ∈ l.foldl (fun ks e => kindF ks (atN f e.1 e.2)) ks ↔ x ∈ ks ∨ ∃ e ∈ l, x = atN f e.1 e.2
  | [], ks => by simp
  | e :: l, ks => by
    rw [List.foldl_cons, kindK_mem l, kindF_mem]
    simp only [List.mem_cons, exists_eq_or_imp, or_assoc]
theorem kinds_mem {f : Fd} {x : Nat} : x ∈ kindsL f ↔ ∃ e ∈ plsL f, x = atN f e.1 e.2 := by rw [kindsL, kindK, kindK_mem]; simp
theorem kinds_lt {f : Fd} (hl : f.ps.length ≤ 12) : ∀ x ∈ kindsL f, x < 4096 := fun x hx => by
  obtain ⟨e, _, rfl⟩ := kinds_mem.1 hx
  exact at_lt hl _ _
theorem kindF_len (ks : List Nat) (s : Nat) : (kindF ks s).length ≤ ks.length + 1 := by
  unfold kindF; split
  · omega
  simp
theorem kindK_len (f : Fd) : ∀ (l : List (Int × Int)) (ks : List Nat), (l.foldl (fun ks e => kindF ks (atN f e.1 e.2)) ks).length ≤ ks.length + l.length
  | [], ks => by simp
  | e :: l, ks => by
    have h1 := kindK_len f l (kindF ks (atN f e.1 e.2))
    have h2 := kindF_len ks (atN f e.1 e.2)
    rw [List.foldl_cons, List.length_cons]; omega
theorem row_len (f : Fd) (x : Int) : ∀ j, (rowL f x j).length = j
  | 0 => rfl
  | j + 1 => by rw [rowL, List.length_append, row_len f x j]; rfl
theorem plc_len (f : Fd) : ∀ i, (plcL f i).length = i * hgt f
  | 0 => by simp [plcL]
  | i + 1 => by rw [plcL, List.length_append, plc_len f i, row_len, Nat.add_mul, Nat.one_mul]
theorem pls_len {f : Fd} (hv : f.valid = true) : (plsL f).length ≤ 1089 := by
  have hn := valid_num hv
  rw [plsL, plc_len]
  have h1 : wid f ≤ 33 := by simp only [wid]; omega
  have h2 : hgt f ≤ 33 := by simp only [hgt]; omega
  exact Nat.le_trans (Nat.mul_le_mul h1 h2) (by decide)
theorem kinds_len {f : Fd} (hv : f.valid = true) : (kindsL f).length ≤ 1089 := by
  have h1 := kindK_len f (plsL f) []
  have h2 := pls_len hv
  simp only [List.length_nil, Nat.zero_add] at h1
  exact Nat.le_trans h1 h2
/-- A list serves all places: all kinds. -/
theorem list_kinds (f : Fd) (s : Nat) : (kindsL f).any (fun k => !servQ f (k &&& s)) = !listQ f s := by
  rw [listQ, List.all_eq_not_any_not, Bool.not_not, Bool.eq_iff_iff, List.any_eq_true, List.any_eq_true]
  constructor
  · rintro ⟨x, hx, h⟩
    obtain ⟨e, he, rfl⟩ := kinds_mem.1 hx
    exact ⟨e, he, h⟩
  rintro ⟨e, he, h⟩
  exact ⟨_, kinds_mem.2 ⟨e, he, rfl⟩, h⟩
/-! The table of those that were seen -/
theorem und62 : Try.prog.underlying 62 = some (.int .u64) := by kernel_rfl
theorem geq_set (a b : Int) : geq Try.prog 6 62 (.int .u64 a) (.int .u64 b) = some (decide (a = b)) := by
  unfold geq
  rw [und62]
  rfl
def seenM (ks : List Nat) : List (P × P) := ks.map fun s => (P.int .u64 (s : Nat), P.bool true)
theorem seen_ok (ks : List Nat) (s : Nat) : keysOk (geq Try.prog 6 62) (.int .u64 (s : Nat)) (seenM ks) := by
  refine ⟨by rw [geq_set]; rfl, fun e he => ?_⟩
  obtain ⟨t, _, rfl⟩ := List.mem_map.1 he
  refine ⟨by rw [geq_set]; rfl, fun h => ?_⟩
  rw [geq_set] at h
  simp only [Option.some.injEq, decide_eq_true_eq] at h
  rw [show (s : Int) = (t : Int) from h]
theorem seen_t {s : Nat} : ∀ {ks : List Nat}, ks.contains s = true → mapGet (geq Try.prog 6 62) (.int .u64 (s : Nat)) (seenM ks) = some (.bool true)
  | [], h => by simp at h
  | k :: ks, h => by
    simp only [seenM, List.map_cons, mapGet, geq_set, Option.some.injEq, decide_eq_true_eq]
    by_cases e : (s : Int) = (k : Int)
    · rw [if_pos e]
    rw [if_neg e]
    refine seen_t (ks := ks) ?_
    rw [List.contains_cons] at h
    have : (s == k) = false := by simp; omega
    rw [this, Bool.false_or] at h; exact h
theorem seen_f {s : Nat} : ∀ {ks : List Nat}, ks.contains s = false → mapGet (geq Try.prog 6 62) (.int .u64 (s : Nat)) (seenM ks) = none ∧ ∀ v, mapPut (geq Try.prog 6 62) (.int .u64 (s : Nat)) v (seenM ks) = seenM ks ++ [(.int .u64 (s : Nat), v)]
  | [], _ => ⟨rfl, fun _ => rfl⟩
  | k :: ks, h => by
    rw [List.contains_cons, Bool.or_eq_false_iff] at h
    have e : ¬ (s : Int) = (k : Int) := by have := h.1; simp at this; omega
    obtain ⟨h1, h2⟩ := seen_f (ks := ks) h.2
    simp only [seenM, List.map_cons, mapGet, mapPut, geq_set, Option.some.injEq, decide_eq_true_eq]
    rw [if_neg e]
    refine ⟨h1, fun v => ?_⟩
    rw [if_neg e]
    exact congrArg _ (h2 v)
theorem seen_next (ks : List Nat) (s : Nat) (h : ks.contains s = false) : seenM (kindF ks s) = seenM ks ++ [(.int .u64 (s : Nat), .bool true)] := by
  rw [kindF, if_neg (by rw [h]; simp), seenM, List.map_append]; rfl
end Go.Proofs.Ytabeeaiilanmjaa

/- The program: places one after the other, and the sets of plates that have them. -/
namespace Go.Proofs.Ytabeeaiilanmjaa
open Go.Gh
set_option maxRecDepth 100000
set_option maxHeartbeats 4000000
structure kVf1 (c : Prop) : Prop where
  h : c := by (first | exact True.intro | omega | (simp only [inI]; omega) | (simp [P.size, pS, all_int, allOne_p, goods_p, allOne, goods, good, G.one, P.one, P.cells] <;> first | omega | assumption | simp_all))
structure kVf2 (c : Prop) : Prop where
  h : c := by (first | exact True.intro | omega | exact hko | exact hsk | exact ⟨trivial, hsk⟩ | (simp only [inI]; omega) | (simp [P.size, pS, all_int, allOne_p, goods_p, allOne, goods, good, G.one, P.one, P.cells] <;> first | omega | assumption | simp_all))
def allS (n : Nat) : Nat := 2 ^ n - 1
theorem allS_i (n : Nat) : ((2 ^ n : Nat) : Int) - 1 = (allS n : Nat) := by
  have := Nat.two_pow_pos n
  rw [allS]; omega
theorem allS_lt {n : Nat} (h : n ≤ 12) : allS n < 4096 := by
  have h1 : 2 ^ n ≤ 2 ^ 12 := Nat.pow_le_pow_right (by omega) h
  have := Nat.two_pow_pos n
  rw [allS]; omega
theorem ent58 : Enters Try.prog 58 := Enters.mk Try.func58 (by kernel_rfl) rfl
theorem s_all {E : Env Try.prog} {A : E.α} (f : Fd) (h : f.ps.length ≤ 12) : Gh.Spec E 58 [.ptr [.p (.list (f.ps.map pS))]] (mkHp []) A (fun y => y = .ok (.p (.int .u64 (allS f.ps.length : Nat))) (mkHp []) A) := by
  refine spec_of Try.func58 (rfl : Try.f58.body = some _) (Nat.le_of_ble_eq_true rfl) (fun id h => ?_) (fun j id h => ?_) ?_
  · exact wf1x h
  · exact wf2x h
  intro C hN hL
  replace hN : C.N = 11 := hN
  simp only [Gh.num, List.map_cons, List.map_nil, Nat.reduceAdd]
  repeat refine gwp_seq ?_
  refine gwp_region ?_
  refine v0 (k := ?_)
  refine nil0 ?_
  refine cl [0] (k := ?_)
  repeat refine gwp_seq ?_
  refine gwp_region ?_
  refine v0 (k := ?_)
  refine v0 (k := ?_)
  refine v0 (k := ?_)
  refine v0 (k := ?_)
  refine v0 (k := ?_)
  refine v0 (k := ?_)
  refine v1 (hc := kVf1.h {}) (k := ?_)
  refine v1 (hc := kVf1.h {}) (k := ?_)
  refine v0 (k := ?_)
  refine nil0 ?_
  repeat refine gwp_seq ?_
  refine gwp_ret ?_
  repeat (first | refine gthen_ret ?_ | refine gblock_ret ?_ | refine gnoGoto_ret ?_)
  refine fin_ret ?_
  refine fp (hR := ?_)
  rw [every_u64 _ (by omega), allS_i]
theorem ent44 : Enters Try.prog 44 := Enters.mk Try.func44 (by kernel_rfl) rfl
theorem s_isSet {E : Env Try.prog} {A : E.α} (f : Fd) (h : f.ps.length ≤ 12) (x : Int) : Gh.Spec E 44 [.ptr [.p (.list (f.ps.map pS))], .p (.int .i64 x)] (mkHp []) A (fun y => y = .ok (.p (.bool (inB x 0 (allS f.ps.length : Nat)))) (mkHp []) A) := by
  refine spec_of Try.func44 (rfl : Try.f44.body = some _) (Nat.le_of_ble_eq_true rfl) (fun id h => ?_) (fun j id h => ?_) ?_
  · exact wf1x h
  · exact wf2x h
  intro C hN hL
  replace hN : C.N = 10 := hN
  simp only [Gh.num, List.map_cons, List.map_nil, Nat.reduceAdd]
  have hal := allS_lt h
  repeat refine gwp_seq ?_
  refine gwp_region ?_
  refine v0 (k := ?_)
  refine nil0 ?_
  refine cl [0, 1] (k := ?_)
  repeat refine gwp_seq ?_
  refine gwp_region ?_
  refine v0 (k := ?_)
  refine v0 (k := ?_)
  refine oc0 [] [] [4] none (spec := s_all f h) (hent := ent58) (k := ?_)
  refine v1 (hc := kVf1.h {}) (k := ?_)
  refine pc0 (spec := s_within x 0 (allS f.ps.length : Nat)) (hent := ent45) (k := ?_)
  refine v0 (k := ?_)
  refine nil0 ?_
  repeat refine gwp_seq ?_
  refine gwp_ret ?_
  repeat (first | refine gthen_ret ?_ | refine gblock_ret ?_ | refine gnoGoto_ret ?_)
  refine fin_ret ?_
  refine fp (hR := ?_)
  rfl
theorem ent76 : Enters Try.prog 76 := Enters.mk Try.func76 (by kernel_rfl) rfl
theorem it_places (f : Fd) (hv : f.valid = true) :
    IterSpec Try.prog 76 [.abs, .ptr [.ptr [.p (.list (f.ps.map pS)), .p (.int .i64 f.el), .p (.int .i64 f.eh), .p (.int .i64 f.nl), .p (.int .i64 f.nh), .p (.int .i64 f.dl), .p (.int .i64 f.dh), .p (.int .i64 f.dep), .p (.int .i64 f.tm), .p (.int .i64 f.gp)]]] ((plsL f).map fun e => [P.agg [.int .i64 e.1, .int .i64 e.2]]) := by
  intro E J Z hcan hy A hA
  refine spec_of Try.func76 (rfl : Try.f76.body = some _) (Nat.le_of_ble_eq_true rfl) (fun id h => ?_) (fun j id h => ?_) ?_
  · exact wf1x h
  · exact wf2x h
  intro C hN hL
  replace hN : C.N = 43 := hN
  simp only [Gh.num, List.map_cons, List.map_nil, Nat.reduceAdd]
  have hn0 := valid_num hv
  have hw : (wid f : Int) = f.eh - f.el + 1 := by simp only [wid]; omega
  have hh : (hgt f : Int) = f.nh - f.nl + 1 := by simp only [hgt]; omega
  have hw1 := Int.le_of_eq hw
  have hw2 := Int.le_of_eq hw.symm
  have hh1 := Int.le_of_eq hh
  have hh2 := Int.le_of_eq hh.symm
  clear hw hh
  repeat refine gwp_seq ?_
  refine gwp_region ?_
  refine v0 (k := ?_)
  refine v0 (k := ?_)
  refine v0 (k := ?_)
  refine v0 (k := ?_)
  refine v0 (k := ?_)
  refine v0 (k := ?_)
  refine v0 (k := ?_)
  refine nil0 ?_
  refine cl [0, 1, 3] (k := ?_)
  repeat refine gwp_seq ?_
  refine gwp_block ?_
  repeat refine gwp_seq ?_
  refine gc_loop (fun mz σ => ∃ (i : Nat) (A2 : E.α), (i ≤ wid f) ∧ (J (curL f i 0).length A2) ∧ mz = wid f - i ∧ σ = (sg [(0, .abs), (1, .ptr [.ptr [.p (.list (f.ps.map pS)), .p (.int .i64 f.el), .p (.int .i64 f.eh), .p (.int .i64 f.nl), .p (.int .i64 f.nh), .p (.int .i64 f.dl), .p (.int .i64 f.dh), .p (.int .i64 f.dep), .p (.int .i64 f.tm), .p (.int .i64 f.gp)]]), (3, .p (.int .i64 (f.el + (i : Nat))))] [] A2 [] : Sg E)) ?_ (fun mz σ hI => ?_)
  · refine lbeg [0, 1, 3] (hV := ?_)
    exact ⟨_, 0, A, by omega, hA, rfl, sgE (by rw [Int.natCast_zero, Int.add_zero]) rfl⟩
  obtain ⟨i, A2, hi, hJ, hn, rfl⟩ := hI
  repeat refine gwp_seq ?_
  refine gwp_region ?_
  refine v0 (k := ?_)
  refine v0 (k := ?_)
  refine v0 (k := ?_)
  refine v0 (k := ?_)
  refine v0 (k := ?_)
  refine v0 (k := ?_)
  refine v0 (k := ?_)
  refine v0 (k := ?_)
  refine nil0 ?_
  repeat refine gwp_seq ?_
  refine cB (k1 := fun hb1 => ?_) (k0 := fun hb1 => ?_)
  · replace hb1 := hB.h {} hb1
    try rw [eqI] at hb1
    repeat refine gwp_seq ?_
    refine gwp_skip ?_
    refine cl [0, 1, 3] (k := ?_)
    repeat refine gwp_seq ?_
    refine gwp_block ?_
    repeat refine gwp_seq ?_
    refine gwp_region ?_
    refine v0 (k := ?_)
    refine v0 (k := ?_)
    refine v0 (k := ?_)
    refine v0 (k := ?_)
    refine v0 (k := ?_)
    refine v0 (k := ?_)
    refine v0 (k := ?_)
    refine nil0 ?_
    refine cl [0, 1, 3, 4] (k := ?_)
    repeat refine gwp_seq ?_
    refine gwp_block ?_
    repeat refine gwp_seq ?_
    refine gc_loop (fun mz σ => ∃ (j : Nat) (A3 : E.α), (j ≤ hgt f) ∧ (J (curL f i j).length A3) ∧ mz = hgt f - j ∧ σ = (sg [(0, .abs), (1, .ptr [.ptr [.p (.list (f.ps.map pS)), .p (.int .i64 f.el), .p (.int .i64 f.eh), .p (.int .i64 f.nl), .p (.int .i64 f.nh), .p (.int .i64 f.dl), .p (.int .i64 f.dh), .p (.int .i64 f.dep), .p (.int .i64 f.tm), .p (.int .i64 f.gp)]]), (3, .p (.int .i64 (f.el + (i : Nat)))), (4, .p (.int .i64 (f.nl + (j : Nat))))] [] A3 [] : Sg E)) ?_ (fun mz σ hI => ?_)
    · refine lbeg [0, 1, 3, 4] (hV := ?_)
      exact ⟨_, 0, A2, by omega, hJ, rfl, sgE (by rw [Int.natCast_zero, Int.add_zero]) rfl⟩
    obtain ⟨j, A3, hj, hJ2, hn2, rfl⟩ := hI
    repeat refine gwp_seq ?_
    refine gwp_region ?_
    refine v0 (k := ?_)
    refine v0 (k := ?_)
    refine v0 (k := ?_)
    refine v0 (k := ?_)
    refine v0 (k := ?_)
    refine v0 (k := ?_)
    refine v0 (k := ?_)
    refine v0 (k := ?_)
    refine nil0 ?_
    repeat refine gwp_seq ?_
    refine cB (k1 := fun hb2 => ?_) (k0 := fun hb2 => ?_)
    · replace hb2 := hB.h {} hb2
      try rw [eqI] at hb2
      repeat refine gwp_seq ?_
      refine gwp_skip ?_
      refine cl [0, 1, 3, 4] (k := ?_)
      repeat refine gwp_seq ?_
      refine gwp_block ?_
      repeat refine gwp_seq ?_
      refine gwp_region ?_
      refine v0 (k := ?_)
      refine v0 (k := ?_)
      refine v0 (k := ?_)
      refine v0 (k := ?_)
      refine y0 (xs := [P.agg [.int .i64 (f.el + (i : Nat)), .int .i64 (f.nl + (j : Nat))]]) (hcan := ?_) (k := fun b A3 hY => ?_) (kp := fun p A3 hY => ?_)
      · exact hcan _ _ _ hJ2 (by rw [List.getElem?_map, cur_at f (by omega) (by omega)]; rfl)
      · have hy2 := hy _ _ _ _ _ hJ2 (by rw [List.getElem?_map, cur_at f (by omega) (by omega)]; rfl) hY
        refine v0 (k := ?_)
        refine nil0 ?_
        repeat refine gwp_seq ?_
        refine cB (k1 := fun hb3 => ?_) (k0 := fun hb3 => ?_)
        · replace hb3 := hB.h {} hb3
          try rw [eqI] at hb3
          repeat refine gwp_seq ?_
          refine gwp_ret ?_
          repeat (first | refine gthen_ret ?_ | refine gblock_ret ?_ | refine gnoGoto_ret ?_)
          refine fin_ret ?_
          refine fp0 (hR := ?_)
          first
          | (obtain rfl : b = false := by simp_all
             exact ⟨_, _, _, rfl, .inr hy2⟩)
          | (obtain rfl : i = wid f := by omega
             exact ⟨_, _, _, rfl, .inl (by rw [List.length_map, ← cur_all]; exact hJ)⟩)
        replace hb3 := hB.h {} hb3
        try rw [eqI] at hb3
        repeat refine gwp_seq ?_
        refine gwp_skip ?_
        refine cl [0, 1, 3, 4] (k := ?_)
        repeat refine gwp_seq ?_
        refine gwp_region ?_
        refine v0 (k := ?_)
        refine v1 (hc := kVf1.h {}) (k := ?_)
        refine v0 (k := ?_)
        refine nil0 ?_
        refine lend [0, 1, 3, 4] (h := ?_) (hV := ?_) (n' := hgt f - (j + 1))
        · omega
        obtain rfl : b = true := by simp_all
        exact ⟨j + 1, A3, by omega, by rw [cur_next, List.length_append]; exact hy2, rfl, sgE (by rw [Int.natCast_add, Int.add_assoc]; rfl) rfl⟩
      exact (hy _ _ _ _ _ hJ2 (by rw [List.getElem?_map, cur_at f (by omega) (by omega)]; rfl) hY).elim
    replace hb2 := hB.h {} hb2
    try rw [eqI] at hb2
    repeat refine gwp_seq ?_
    refine gwp_exit ?_
    repeat (first | refine gthen_exit ?_ | refine gnoGoto_exit ?_ | refine gblock_here ?_ | refine gblock_out rfl ?_)
    refine cl [0, 1, 3] (k := ?_)
    repeat refine gwp_seq ?_
    refine gwp_region ?_
    refine v0 (k := ?_)
    refine v1 (hc := kVf1.h {}) (k := ?_)
    refine v0 (k := ?_)
    refine nil0 ?_
    refine lend [0, 1, 3] (h := ?_) (hV := ?_) (n' := wid f - (i + 1))
    · omega
    exact ⟨i + 1, A3, by omega, by rw [← cur_row, show hgt f = j by omega]; exact hJ2, rfl, sgE (by rw [Int.natCast_add, Int.add_assoc]; rfl) rfl⟩
  replace hb1 := hB.h {} hb1
  try rw [eqI] at hb1
  repeat refine gwp_seq ?_
  refine gwp_exit ?_
  repeat (first | refine gthen_exit ?_ | refine gnoGoto_exit ?_ | refine gblock_here ?_ | refine gblock_out rfl ?_)
  try refine gnoGoto_normal ?_
  refine fin_normal ?_
  refine fp0 (hR := ?_)
  first
  | (obtain rfl : b = false := by simp_all
     exact ⟨_, _, _, rfl, .inr hy2⟩)
  | (obtain rfl : i = wid f := by omega
     exact ⟨_, _, _, rfl, .inl (by rw [List.length_map, ← cur_all]; exact hJ)⟩)
theorem ent48 : Enters Try.prog 48 := Enters.mk Try.func48 (by kernel_rfl) rfl
theorem s_places {E : Env Try.prog} {A : E.α} (f : Fd) : Gh.Spec E 48 [.ptr [.p (.list (f.ps.map pS)), .p (.int .i64 f.el), .p (.int .i64 f.eh), .p (.int .i64 f.nl), .p (.int .i64 f.nh), .p (.int .i64 f.dl), .p (.int .i64 f.dh), .p (.int .i64 f.dep), .p (.int .i64 f.tm), .p (.int .i64 f.gp)]] (mkHp []) A (fun y => y = .ok (.fn (.func 76) [] [.ptr [.ptr [.p (.list (f.ps.map pS)), .p (.int .i64 f.el), .p (.int .i64 f.eh), .p (.int .i64 f.nl), .p (.int .i64 f.nh), .p (.int .i64 f.dl), .p (.int .i64 f.dh), .p (.int .i64 f.dep), .p (.int .i64 f.tm), .p (.int .i64 f.gp)]]]) (mkHp []) A) := by
  refine spec_of Try.func48 (rfl : Try.f48.body = some _) (Nat.le_of_ble_eq_true rfl) (fun id h => ?_) (fun j id h => ?_) ?_
  · exact wf1x h
  · exact wf2x h
  intro C hN hL
  replace hN : C.N = 4 := hN
  simp only [Gh.num, List.map_cons, List.map_nil, Nat.reduceAdd]
  repeat refine gwp_seq ?_
  refine gwp_region ?_
  refine n1 110 false (hc := kVf1.h {}) (k := ?_)
  refine v0 (k := ?_)
  refine nil0 ?_
  refine cl [1] (k := ?_)
  repeat refine gwp_seq ?_
  refine gwp_region ?_
  refine v0 (k := ?_)
  refine v0 (k := ?_)
  refine nil0 ?_
  repeat refine gwp_seq ?_
  refine fz 110 1 [.k] (k := ?_)
  refine cv 2 (.f [.n [.k]]) (k := ?_)
  refine gwp_ret ?_
  repeat (first | refine gthen_ret ?_ | refine gblock_ret ?_ | refine gnoGoto_ret ?_)
  refine fin_ret ?_
  refine fh [] (hR := ?_)
  rfl
theorem ent56 : Enters Try.prog 56 := Enters.mk Try.func56 (by kernel_rfl) rfl
theorem s_kinds {E : Env Try.prog} {A : E.α} (f : Fd) (hv : f.valid = true) : Gh.Spec E 56 [.ptr [.p (.list (f.ps.map pS)), .p (.int .i64 f.el), .p (.int .i64 f.eh), .p (.int .i64 f.nl), .p (.int .i64 f.nh), .p (.int .i64 f.dl), .p (.int .i64 f.dh), .p (.int .i64 f.dep), .p (.int .i64 f.tm), .p (.int .i64 f.gp), .p (.int .u64 (usedN f f.ps.length : Nat)), .map 0]] (mkHp [(0, .map (plM f f.ps.length))]) A (fun y => y = .ok (.p (.list ((kindsL f).map fun s : Nat => P.int .u64 (s : Int)))) (mkHp [(0, .map (plM f f.ps.length))]) A) := by
  refine specD_of Try.func56 (rfl : Try.f56.body = some _) (Nat.le_of_ble_eq_true rfl) (fun id h => ?_) (fun j id h => ?_) ?_
  · exact wf1x h
  · exact wf2x h
  intro C hN hL
  replace hN : C.N = 27 := hN
  simp only [Gh.num, List.map_cons, List.map_nil, Nat.reduceAdd]
  have hpS : ∀ p : Sk, pS p = P.agg [.int .i64 p.el, .int .i64 p.eh, .int .i64 p.nl, .int .i64 p.nh, .int .i64 p.day, .int .i64 p.dep] := fun _ => rfl
  have hn0 := valid_num hv
  have hpm : MK (plM f f.ps.length) := MK.pl _ (by omega)
  have hpl := pls_len hv
  repeat refine gwp_seq ?_
  refine gwp_region ?_
  refine n1 110 false (hc := kVf2.h {}) (k := ?_)
  refine n1 120 false (hc := kVf2.h {}) (k := ?_)
  refine nil0 ?_
  refine cl [0, 1, 2] (k := ?_)
  repeat refine gwp_seq ?_
  refine gwp_region ?_
  refine n1 160 false (hc := kVf2.h {}) (k := ?_)
  refine n1 130 false (hc := kVf2.h {}) (k := ?_)
  refine s1 (hc := kVf2.h {}) (k := ?_)
  refine nil0 ?_
  refine cl [0, 1, 2, 3] (k := ?_)
  repeat refine gwp_seq ?_
  refine gwp_region ?_
  refine v0 (k := ?_)
  refine oc0 [] [] [13] none (spec := s_places f) (hent := ent48) (k := ?_)
  refine nil0 ?_
  refine cl [0, 1, 2, 3, 8] (k := ?_)
  repeat refine gwp_seq ?_
  refine gwp_block ?_
  repeat refine gwp_seq ?_
  refine ad 120 0 3000 62 1 true (k := ?_)
  refine cl [0, 1, 2, 3, 8] (k := ?_)
  refine rf 10000 99001 [9] (fun k (z : List Nat) A1 => kindK f ((plsL f).take k) = z ∧ A1 = A) (fun z => [(0, .map (plM f f.ps.length)), (110, .cells [.ptr [.p (.list (f.ps.map pS)), .p (.int .i64 f.el), .p (.int .i64 f.eh), .p (.int .i64 f.nl), .p (.int .i64 f.nh), .p (.int .i64 f.dl), .p (.int .i64 f.dh), .p (.int .i64 f.dep), .p (.int .i64 f.tm), .p (.int .i64 f.gp), .p (.int .u64 (usedN f f.ps.length : Nat)), .map 0]] 0), (120, .cells [.own 3000 z.length] 0), (130, .cells [.map 160] 0), (3000, .arr 62 1 (z.map fun s : Nat => P.int .u64 (s : Int)) true), (160, .map (seenM z))]) (fun _ _ _ => False) (fun _ z => [(0, .map (plM f f.ps.length)), (110, .cells [.ptr [.p (.list (f.ps.map pS)), .p (.int .i64 f.el), .p (.int .i64 f.eh), .p (.int .i64 f.nl), .p (.int .i64 f.nh), .p (.int .i64 f.dl), .p (.int .i64 f.dh), .p (.int .i64 f.dep), .p (.int .i64 f.tm), .p (.int .i64 f.gp), .p (.int .u64 (usedN f f.ps.length : Nat)), .map 0]] 0), (120, .cells [.own 3000 z.length] 0), (130, .cells [.map 160] 0), (3000, .arr 62 1 (z.map fun s : Nat => P.int .u64 (s : Int)) true), (160, .map (seenM z))]) [] [.k] (it := it_places f hv) (hent := ent76) (xs := ((plsL f).map fun e => [P.agg [.int .i64 e.1, .int .i64 e.2]])) (hlen := fun x hx => by obtain ⟨w, _, rfl⟩ := List.mem_map.1 hx; rfl) (h0 := ?_) (round := fun k z A1 x hI hx lp bs C1 hN1 hL1 => ?_) (hK := fun e z A1 hK => ?_) (hI := fun z A1 hI => ?_)
  · exact ⟨[], ⟨rfl, rfl⟩, rfl⟩
  · obtain ⟨hz, rfl⟩ := hI
    rw [List.getElem?_map] at hx
    obtain ⟨e, he, rfl⟩ := Option.map_eq_some_iff.1 hx
    have hem := pls_mem (List.mem_of_getElem? he)
    have hat := look_at hv hem.1 hem.2
    have hlk := look_or hpm e.1 e.2
    have hko := hpm.ok e.1 e.2
    rw [hat] at hlk
    have hzl : z.length ≤ 1089 := by rw [← hz]; have h1 := kindK_len f ((plsL f).take k) []; have h2 := List.length_take_le k (plsL f); simp only [List.length_nil, Nat.zero_add] at h1; exact Nat.le_trans h1 (by rw [List.length_take]; omega)
    have hsk := seen_ok z (atN f e.1 e.2)
    have hst := fun h => seen_t (s := atN f e.1 e.2) (ks := z) h
    have hsf := fun h => seen_f (s := atN f e.1 e.2) (ks := z) h
    replace hN1 : C1.N = 27 := hN1.trans hN
    refine (?_ : gwp C1 (some lp) _ _ (sg ((9, .p (.agg [.int .i64 e.1, .int .i64 e.2])) :: _) [(0, .map (plM f f.ps.length)), (110, .cells [.ptr [.p (.list (f.ps.map pS)), .p (.int .i64 f.el), .p (.int .i64 f.eh), .p (.int .i64 f.nl), .p (.int .i64 f.nh), .p (.int .i64 f.dl), .p (.int .i64 f.dh), .p (.int .i64 f.dep), .p (.int .i64 f.tm), .p (.int .i64 f.gp), .p (.int .u64 (usedN f f.ps.length : Nat)), .map 0]] 0), (120, .cells [.own 3000 z.length] 0), (130, .cells [.map 160] 0), (3000, .arr 62 1 (z.map fun s : Nat => P.int .u64 (s : Int)) true), (160, .map (seenM z))] A1 []))
    repeat refine gwp_seq ?_
    refine gwp_region ?_
    refine n1 10140 false (hc := kVf2.h {}) (k := ?_)
    refine s1 (hc := kVf2.h {}) (k := ?_)
    refine nil0 ?_
    refine ⟨rfl, fun bs2 C2 hN2 hL2 hr2 => ?_⟩
    replace hN2 : C2.N = 27 := hN2.trans hN
    refine (?_ : gwp C2 (some lp) _ _ (sg _ _ _ []))
    repeat refine gwp_seq ?_
    refine gwp_block ?_
    repeat refine gwp_seq ?_
    refine rdJ 5 [(0, .map (plM f f.ps.length))] [] ?_
    refine j0 0 (k := ?_)
    refine ja0 1 (k := ?_)
    refine ja0 2 (k := ?_)
    refine j0 3 (k := ?_)
    refine j0 4 (k := ?_)
    refine jl 5 (hv := hlk) (hv2 := hlk) (hkk := hko) (hkk2 := hko) (k := ?_)
    refine ja0 6 (k := ?_)
    refine jz 7 [0, 1, 3, 7, 0, 31, 63] (h := ?_)
    refine de 7 (h := ?_)
    refine cl [0, 1, 2, 3, 5] (k := ?_)
    repeat refine gwp_seq ?_
    rcases hc : z.contains (atN f e.1 e.2) with _ | _
    · obtain ⟨hmg, hmp⟩ := hsf hc
      repeat refine gwp_seq ?_
      refine gwp_region ?_
      refine v0 (k := ?_)
      refine v0 (k := ?_)
      refine v1 (hc := kVf2.h {}) (k := ?_)
      refine rb 18 false (h := by (rfl)) (k := ?_)
      refine v0 (k := ?_)
      refine nil0 ?_
      repeat refine gwp_seq ?_
      refine cT (k := ?_)
      repeat refine gwp_seq ?_
      refine gwp_region ?_
      refine v0 (k := ?_)
      refine v0 (k := ?_)
      refine s1 (hc := kVf2.h {}) (k := ?_)
      refine nil0 ?_
      refine cl [0, 1, 2, 3, 5] (k := ?_)
      repeat refine gwp_seq ?_
      refine gwp_region ?_
      refine v0 (k := ?_)
      refine v0 (k := ?_)
      refine n1 10340 false (hc := kVf2.h {}) (k := ?_)
      refine n1 10350 false (hc := kVf2.h {}) (k := ?_)
      refine s1 (hc := kVf2.h {}) (k := ?_)
      refine nil0 ?_
      first
      | (refine ⟨_, z, lc [0, 110, 120, 130, 3000, 160], rfl, ?_, rfl⟩
         rw [List.take_add_one, he, Option.toList_some, kind_next, hz, kindF, if_pos hc])
      | (refine ⟨_, kindF z (atN f e.1 e.2), lc [0, 110, 120, 130, 3000, 160], ?_, ?_, rfl⟩
         · rw [seen_next _ _ hc, show kindF z (atN f e.1 e.2) = z ++ [atN f e.1 e.2] by rw [kindF, if_neg (by rw [hc]; simp)], List.map_append, List.length_append]; rfl
         rw [List.take_add_one, he, Option.toList_some, kind_next, hz])
    have hmg := hst hc
    repeat refine gwp_seq ?_
    refine gwp_region ?_
    refine v0 (k := ?_)
    refine v0 (k := ?_)
    refine v1 (hc := kVf2.h {}) (k := ?_)
    refine rb 18 true (h := by (rfl)) (k := ?_)
    refine v0 (k := ?_)
    refine nil0 ?_
    repeat refine gwp_seq ?_
    refine cF (k := ?_)
    repeat refine gwp_seq ?_
    refine gwp_skip ?_
    first
    | (refine ⟨_, z, lc [0, 110, 120, 130, 3000, 160], rfl, ?_, rfl⟩
       rw [List.take_add_one, he, Option.toList_some, kind_next, hz, kindF, if_pos hc])
    | (refine ⟨_, kindF z (atN f e.1 e.2), lc [0, 110, 120, 130, 3000, 160], ?_, ?_, rfl⟩
       · rw [seen_next _ _ hc, show kindF z (atN f e.1 e.2) = z ++ [atN f e.1 e.2] by rw [kindF, if_neg (by rw [hc]; simp)], List.map_append, List.length_append]; rfl
       rw [List.take_add_one, he, Option.toList_some, kind_next, hz])
  · exact hK.elim
  obtain ⟨hz, rfl⟩ := hI
  rw [List.length_map, List.take_length] at hz
  have hz : kindsL f = z := hz
  rw [← hz]
  clear hz
  refine cl [0, 2] (k := ?_)
  repeat refine gwp_seq ?_
  refine gwp_region ?_
  refine v0 (k := ?_)
  refine s1 (hc := kVf2.h {}) (k := ?_)
  refine nil0 ?_
  repeat refine gwp_seq ?_
  refine gwp_ret ?_
  repeat (first | refine gthen_ret ?_ | refine gblock_ret ?_ | refine gnoGoto_ret ?_)
  refine finD_ret ?_
  try refine om (h3 := by simp [hpIds, obIdl, G.idl, G.idls, idls_p, mkHp_cons, mkHp_nil]) (h := ?_)
  refine out_nil ?_
  refine fk1 [0] (hR := ?_)
  rfl
end Go.Proofs.Ytabeeaiilanmjaa

/- The sets of plates that are of use, by their sizes. -/
namespace Go.Proofs.Ytabeeaiilanmjaa
open Go.Gh
set_option maxRecDepth 100000
def okS (u z s : Nat) : Bool := decide (s &&& (2 ^ 64 - 1 - u) = 0) && decide (pop s = z)
def szL (u z : Nat) : Nat → List Nat
  | 0 => []
  | s + 1 => if okS u z s = true then szL u z s ++ [s] else szL u z s
def setL (u N : Nat) : Nat → List Nat
  | 0 => []
  | z + 1 => setL u N z ++ szL u z N
def setsL (f : Fd) : List Nat := setL (usedN f f.ps.length) (2 ^ f.ps.length) (pop (usedN f f.ps.length) + 1)
def curS (u N z s : Nat) : List Nat := setL u N z ++ szL u z s
theorem curS_next {u N z s : Nat} (h : okS u z s = true) : curS u N z (s + 1) = curS u N z s ++ [s] := by rw [curS, szL, if_pos h, ← List.append_assoc]; rfl
theorem curS_skip {u N z s : Nat} (h : okS u z s = false) : curS u N z (s + 1) = curS u N z s := by rw [curS, szL, if_neg (by simp [h])]; rfl
theorem curS_zero (u N z : Nat) : curS u N z 0 = setL u N z := by rw [curS, szL, List.append_nil]
theorem curS_row (u N z : Nat) : curS u N z N = curS u N (z + 1) 0 := by rw [curS_zero]; rfl
theorem sz_pre (u z s : Nat) : ∀ m, ∃ t, szL u z (s + m) = szL u z s ++ t
  | 0 => ⟨[], by simp⟩
  | m + 1 => by
    obtain ⟨t, h⟩ := sz_pre u z s m
    rw [← Nat.add_assoc, szL]
    split
    · exact ⟨t ++ [s + m], by rw [h, List.append_assoc]⟩
    exact ⟨t, h⟩
theorem set_pre (u N z : Nat) : ∀ m, ∃ t, setL u N (z + m) = setL u N z ++ t
  | 0 => ⟨[], by simp⟩
  | m + 1 => by
    obtain ⟨t, h⟩ := set_pre u N z m
    exact ⟨t ++ szL u (z + m) N, by rw [← Nat.add_assoc, setL, h, List.append_assoc]⟩
theorem curS_pre {u N z s Z : Nat} (hz : z < Z) (hs : s ≤ N) : ∃ t, setL u N Z = curS u N z s ++ t := by
  obtain ⟨t1, h1⟩ := sz_pre u z s (N - s)
  obtain ⟨t2, h2⟩ := set_pre u N (z + 1) (Z - (z + 1))
  rw [show s + (N - s) = N by omega] at h1
  rw [show z + 1 + (Z - (z + 1)) = Z by omega] at h2
  exact ⟨t1 ++ t2, by rw [h2, setL, h1, curS, List.append_assoc, List.append_assoc, List.append_assoc]⟩
theorem curS_at {u N z s Z : Nat} (hz : z < Z) (hs : s < N) (h : okS u z s = true) : (setL u N Z)[(curS u N z s).length]? = some s := by
  obtain ⟨t, e⟩ := curS_pre (u := u) hz (show s + 1 ≤ N by omega)
  rw [e, curS_next h, List.append_assoc, List.getElem?_append_right (Nat.le_refl _), Nat.sub_self]; rfl
theorem sz_mem {u z x : Nat} : ∀ {s : Nat}, x ∈ szL u z s ↔ x < s ∧ okS u z x = true
  | 0 => by simp [szL]
  | s + 1 => by
    rw [szL]
    split
    · rename_i h
      rw [List.mem_append, sz_mem, List.mem_singleton]
      constructor
      · rintro (h1 | rfl)
        · exact ⟨by omega, h1.2⟩
        exact ⟨by omega, h⟩
      rintro ⟨h1, h2⟩
      by_cases e : x = s
      · exact .inr e
      exact .inl ⟨by omega, h2⟩
    rename_i h
    rw [sz_mem]
    constructor
    · rintro ⟨h1, h2⟩; exact ⟨by omega, h2⟩
    rintro ⟨h1, h2⟩
    by_cases e : x = s
    · subst e; exact absurd h2 h
    exact ⟨by omega, h2⟩
theorem set_mem {u N x : Nat} : ∀ {Z : Nat}, x ∈ setL u N Z ↔ x < N ∧ ∃ z, z < Z ∧ okS u z x = true
  | 0 => by simp [setL]
  | Z + 1 => by
    rw [setL, List.mem_append, set_mem, sz_mem]
    constructor
    · rintro (⟨h1, z, h2, h3⟩ | ⟨h1, h2⟩)
      · exact ⟨h1, z, by omega, h3⟩
      exact ⟨h1, Z, by omega, h2⟩
    rintro ⟨h1, z, h2, h3⟩
    by_cases e : z = Z
    · subst e; exact .inr ⟨h1, h3⟩
    exact .inl ⟨h1, z, by omega, h3⟩
theorem sets_lt {f : Fd} (hl : f.ps.length ≤ 12) : ∀ x ∈ setsL f, x < 4096 := fun x hx => by
  have h := (set_mem.1 hx).1
  have h1 : 2 ^ f.ps.length ≤ 2 ^ 12 := Nat.pow_le_pow_right (by omega) hl
  omega
theorem pop_le12 : ∀ n, n < 4096 → pop n ≤ 12 := by decide +kernel
theorem ok_f1 {u z s : Nat} (h : ¬ s &&& (2 ^ 64 - 1 - u) = 0) : okS u z s = false := by rw [okS, decide_eq_false h]; rfl
theorem ok_f2 {u z s : Nat} (h : ¬ pop s = z) : okS u z s = false := by rw [okS, decide_eq_false h, Bool.and_false]
theorem ok_t {u z s : Nat} (h1 : s &&& (2 ^ 64 - 1 - u) = 0) (h2 : pop s = z) : okS u z s = true := by rw [okS, decide_eq_true h1, decide_eq_true h2]; rfl
theorem find_step {f : Fd} {k s : Nat} (h : ∀ x ∈ (setsL f).take k, listQ f x = false) (hs : (setsL f)[k]? = some s) (hn : listQ f s = false) : ∀ x ∈ (setsL f).take (k + 1), listQ f x = false := fun x hx => by
  rw [List.take_add_one, hs, Option.toList_some] at hx
  rcases List.mem_append.1 hx with hx | hx
  · exact h x hx
  rw [List.mem_singleton] at hx; subst hx; exact hn
theorem find_at {f : Fd} {k s : Nat} (h : ∀ x ∈ (setsL f).take k, listQ f x = false) (hs : (setsL f)[k]? = some s) (ht : listQ f s = true) : (setsL f).find? (listQ f) = some s := by
  obtain ⟨hk, e⟩ := List.getElem?_eq_some_iff.1 hs
  refine List.find?_eq_some_iff_append.2 ⟨ht, (setsL f).take k, (setsL f).drop (k + 1), ?_, fun x hx => by rw [h x hx]; rfl⟩
  rw [← e, ← List.drop_eq_getElem_cons hk, List.take_append_drop]
theorem find_no {f : Fd} (h : ∀ x ∈ setsL f, listQ f x = false) : (setsL f).find? (listQ f) = none := List.find?_eq_none.2 fun x hx => by rw [h x hx]; simp
end Go.Proofs.Ytabeeaiilanmjaa

/- What the program answers: the sets of plates that are needed, how many lists there are, what is missing. -/
namespace Go.Proofs.Ytabeeaiilanmjaa
open Go.Gh
set_option maxRecDepth 100000
theorem sz_len (u z : Nat) : ∀ s, (szL u z s).length ≤ s
  | 0 => by simp [szL]
  | s + 1 => by
    have := sz_len u z s
    rw [szL]; split
    · rw [List.length_append, List.length_cons, List.length_nil]; omega
    omega
theorem set_len (u N : Nat) : ∀ Z, (setL u N Z).length ≤ Z * N
  | 0 => by simp [setL]
  | Z + 1 => by
    have h1 := set_len u N Z
    have h2 := sz_len u Z N
    rw [setL, List.length_append, Nat.add_mul, Nat.one_mul]; omega
theorem sets_len {f : Fd} (hl : f.ps.length ≤ 12) : (setsL f).length ≤ 53248 := by
  have h1 := set_len (usedN f f.ps.length) (2 ^ f.ps.length) (pop (usedN f f.ps.length) + 1)
  have h2 := pop_le12 (usedN f f.ps.length) (used_lt f (by omega))
  have h3 : 2 ^ f.ps.length ≤ 2 ^ 12 := Nat.pow_le_pow_right (by omega) hl
  exact Nat.le_trans h1 (Nat.le_trans (Nat.mul_le_mul (show pop (usedN f f.ps.length) + 1 ≤ 13 by omega) h3) (by decide))
/-- Is a set as large as another one, and a list? -/
def sameQ (f : Fd) (w s : Nat) : Bool := decide (pop s = pop w) && listQ f s
def cntL (f : Fd) (w k : Nat) : Nat := ((setsL f).take k).countP (sameQ f w)
theorem cnt_t {f : Fd} {w k s : Nat} (hs : (setsL f)[k]? = some s) (h : sameQ f w s = true) : cntL f w (k + 1) = cntL f w k + 1 := by
  rw [cntL, List.take_add_one, hs, Option.toList_some, List.countP_append, List.countP_cons_of_pos h]; rfl
theorem cnt_f {f : Fd} {w k s : Nat} (hs : (setsL f)[k]? = some s) (h : sameQ f w s = false) : cntL f w (k + 1) = cntL f w k := by
  rw [cntL, List.take_add_one, hs, Option.toList_some, List.countP_append, List.countP_cons_of_neg (by simp [h])]; rfl
theorem cnt_le (f : Fd) (w k : Nat) : cntL f w k ≤ k := Nat.le_trans List.countP_le_length (by rw [List.length_take]; omega)
theorem same_t {f : Fd} {w s : Nat} (h1 : (pop s : Int) = pop w) (h2 : listQ f s = true) : sameQ f w s = true := by rw [sameQ, decide_eq_true (by omega), h2]; rfl
theorem same_f1 {f : Fd} {w s : Nat} (h1 : ¬ (pop s : Int) = pop w) : sameQ f w s = false := by rw [sameQ, decide_eq_false (by omega)]; rfl
theorem same_f2 {f : Fd} {w s : Nat} (h2 : listQ f s = false) : sameQ f w s = false := by rw [sameQ, h2, Bool.and_false]
def cntA (f : Fd) (w : Nat) : Nat := cntL f w (setsL f).length
/-- Is a plate needed? -/
def lessN (f : Fd) (i : Nat) : Nat := usedN f f.ps.length &&& (2 ^ 64 - 1 - 2 ^ i)
def needQ (f : Fd) (i : Nat) : Bool := (usedN f f.ps.length).testBit i && !listQ f (lessN f i)
def needN (f : Fd) (k : Nat) : Nat := setN (needQ f) k
theorem need_t {f : Fd} {k : Nat} (h1 : (usedN f f.ps.length).testBit k = true) (h2 : listQ f (lessN f k) = false) : needN f (k + 1) = needN f k ||| 2 ^ k := setN_next (by rw [needQ, h1, h2]; rfl)
theorem need_f1 {f : Fd} {k : Nat} (h1 : (usedN f f.ps.length).testBit k = false) : needN f (k + 1) = needN f k := setN_skip (by rw [needQ, h1]; rfl)
theorem need_f2 {f : Fd} {k : Nat} (h2 : listQ f (lessN f k) = true) : needN f (k + 1) = needN f k := setN_skip (by rw [needQ, h2, Bool.not_true, Bool.and_false])
theorem need_lt (f : Fd) {k : Nat} (hk : k ≤ 12) : needN f k < 4096 := Nat.lt_of_lt_of_le (setN_lt2 _ k) (Nat.pow_le_pow_right (by omega) hk)
/-- The places that are not served. -/
def misQ (f : Fd) (s : Nat) (e : Int × Int) : Bool := !servQ f (atN f e.1 e.2 &&& s)
def misK (f : Fd) (s k : Nat) : List (Int × Int) := ((plsL f).take k).filter (misQ f s)
def misL (f : Fd) (s : Nat) : List (Int × Int) := (plsL f).filter (misQ f s)
def hdL : List (Int × Int) → Int × Int
  | [] => (0, 0)
  | e :: _ => e
theorem mis_t {f : Fd} {s k : Nat} {e : Int × Int} (he : (plsL f)[k]? = some e) (h : servQ f (atN f e.1 e.2 &&& s) = false) : misK f s (k + 1) = misK f s k ++ [e] := by
  rw [misK, List.take_add_one, he, Option.toList_some, List.filter_append, List.filter_cons_of_pos (by rw [misQ, h]; rfl)]; rfl
theorem mis_f {f : Fd} {s k : Nat} {e : Int × Int} (he : (plsL f)[k]? = some e) (h : servQ f (atN f e.1 e.2 &&& s) = true) : misK f s (k + 1) = misK f s k := by
  rw [misK, List.take_add_one, he, Option.toList_some, List.filter_append, List.filter_cons_of_neg (by rw [misQ, h]; simp)]; simp [misK]
theorem mis_len (f : Fd) (s k : Nat) : (misK f s k).length ≤ (plsL f).length := Nat.le_trans (List.length_filter_le _ _) (by rw [List.length_take]; omega)
theorem mis_all (f : Fd) (s : Nat) : misK f s (plsL f).length = misL f s := by rw [misK, List.take_length]; rfl
theorem hd_app {z : List (Int × Int)} {e : Int × Int} (h : ¬ (z.length : Int) = 0) : hdL (z ++ [e]) = hdL z := by
  cases z with
  | nil => simp at h
  | cons _ _ => rfl
theorem hd_nil {z : List (Int × Int)} {e : Int × Int} (h : (z.length : Int) = 0) : hdL (z ++ [e]) = e ∧ z = [] := by
  cases z with
  | nil => exact ⟨rfl, rfl⟩
  | cons _ _ => simp at h; omega
end Go.Proofs.Ytabeeaiilanmjaa

/- The document's way to count the plates of a place: the days of those that can be chosen. -/
namespace Go.Proofs.Ytabeeaiilanmjaa
open Go.Gh
set_option maxRecDepth 100000
def atR (f : Fd) (s : Nat) (x y : Int) : Nat → List Sk
  | 0 => []
  | k + 1 => match f.ps[k]? with
    | some p => if (s.testBit k && (useQ f p && hasQ p x y)) = true then atR f s x y k ++ [p] else atR f s x y k
    | none => atR f s x y k
/-- All places up to one are served. -/
def allQ (f : Fd) (s : Nat) (l : List (Int × Int)) : Bool := l.all fun p => servQ f (atN f p.1 p.2 &&& s)
theorem bad_at {f : Fd} {k : Nat} {p : Sk} (hp : f.ps[k]? = some p) (h : badS p = true) : f.valid = false := by
  have : f.ps.any badS = true := List.any_eq_true.2 ⟨p, List.mem_of_getElem? hp, h⟩
  rw [Fd.valid, this]; simp
theorem any_next {f : Fd} {k : Nat} {p : Sk} (hp : f.ps[k]? = some p) (h : (f.ps.take k).any badS = false) (h2 : badS p = false) : (f.ps.take (k + 1)).any badS = false := by
  rw [List.take_add_one, hp, Option.toList_some, List.any_append, h, List.any_cons, h2]; rfl
end Go.Proofs.Ytabeeaiilanmjaa

/- A rule of written-out states: leaving with three results. -/
namespace Go.Proofs.Ytabeeaiilanmjaa
open Go.Gh
set_option maxRecDepth 100000
structure eH1 {α : Type} (a b : α) : Prop where
  h : a = b := by (simp only [gresult, gresL, gres1, tup_nil, tup_one, tup_two, gsem, gev, ofV, mkFr_cons, mkFr_nil, mkHp_cons, mkHp_nil, upd, yes, lift, gbinAt, gnilEq, gbin, gint, gshift, arith, gpick, gload, gstore, splice, gbox, gfill, placesL, gbuildSlice, gfieldAddr, gfield, gelem, gindexAddr, gindex, gbound, gslice, glen, gsource, gappend, gmin, gminL, gmax, gmaxL, mapGet, mapPut, zeroG, orZero, glookup, gmapUpdate, gmapEntry, gentryStore, Option.getD_none, Option.getD_some, gconvert, gtypeAssert, gextract, isConst, gnilCheck, gunOp, gmakeSlice, intOf, mkAgg, mkFn, mkIface, mkTuple, allP, G.cells, good, goods, allOne, G.one, P.one, allP_p, allOne_p, goods_p, toPs_p, all_int, take_all, isAggD, isIfaceD, toP, toPs, P.size, P.cells, List.map_cons, List.map_nil, List.take_succ_cons, List.take_zero, List.drop_succ_cons, List.drop_zero, List.take_nil, List.drop_nil, List.cons_append, List.nil_append, List.append_nil, List.length_cons, List.length_nil, List.getElem?_cons_zero, List.getElem?_cons_succ, List.getElem?_nil, List.set_cons_zero, List.set_cons_succ, List.flatMap_cons, List.flatMap_nil, List.getElem?_toArray, List.getElem?_map, List.length_map, Option.map_some, Option.map_none, Nat.mul_one, List.length_set, set_map_p, set_map_int, Nat.reduceEqDiff, Nat.reduceAdd, Nat.reduceMul, Nat.reduceSub, Nat.reduceLeDiff, Nat.add_zero, Nat.zero_add, Int.toNat_natCast, Int.reduceToNat, reduceIte, reduceCtorEq, eq_self, if_true, if_false, and_true, true_and, true_or, or_true, or_false, false_or, Bool.false_eq_true, ne_eq, not_true_eq_false, not_false_eq_true, cond_true, cond_false, Bool.and_true, Bool.true_and, Bool.and_false, Bool.false_and, Bool.or_true, Bool.true_or, Bool.or_false, Bool.false_or, Bool.not_true, Bool.not_false, ti_3, ti_4, ti_5, ti_9, ti_20, ti_22, ti_24, ti_26, ti_29, ti_37, ti_42, ti_44, ti_45, ti_48, ti_50, ti_51, ti_52, ti_55, ti_60, ti_61, ti_62, ti_63, ti_65, ti_66, ti_71, ti_73, ti_74, ti_75, ti_78, ti_79, ti_83, ti_85, ti_86, ti_90, ti_100, ti_102, ti_103, ti_105, ti_106, ti_108, ti_111, ti_114, ti_115, ti_117, ti_120, ti_125, ti_127, ti_130, ti_136, ti_140, ti_142] <;> rfl)
variable {E : Env Try.prog} {l : List (Nat × G)} {m : List (Nat × Ob)} {A : E.α} {g : G}
end Go.Proofs.Ytabeeaiilanmjaa

/- The document: which fields are valid; of what use a plate is; sets. -/
namespace Go.Proofs.Ytabeeaiilanmjaa
open Go.Gh
set_option maxRecDepth 100000
set_option maxHeartbeats 4000000
structure kWa1 (c : Prop) : Prop where
  h : c := by (first | exact True.intro | omega | (simp only [inI]; omega) | (simp [P.size, pS, all_int, allOne_p, goods_p, allOne, goods, good, G.one, P.one, P.cells] <;> first | omega | assumption | simp_all))
structure kWa2 (c : Prop) : Prop where
  h : c := by (first | exact True.intro | decide | (simp only [inI]; omega) | (refine ⟨?_, ?_⟩ <;> (try simp only [inI]) <;> omega))
theorem ent63 : Enters Try.prog 63 := Enters.mk Try.func63 (by kernel_rfl) rfl
theorem r_span (a b m : Int) : PSpec Try.prog 63 [.agg [.int .i64 a, .int .i64 b], .int .i64 0, .int .i64 m] (.ok (.bool (spB a b m))) := by
  refine pspec_of Try.func63 (rfl : Try.f63.body = some _) rfl ?_
  intro E A C hN hL
  replace hN : C.N = 24 := hN
  simp only [Gh.num, List.map_cons, List.map_nil, Nat.reduceAdd]
  repeat refine gwp_seq ?_
  refine gwp_region ?_
  refine n1 130 false (hc := kWa1.h {}) (k := ?_)
  refine v0 (k := ?_)
  refine nil0 ?_
  refine cl [1, 2, 3] (k := ?_)
  repeat refine gwp_seq ?_
  refine gwp_region ?_
  refine v0 (k := ?_)
  refine v0 (k := ?_)
  refine v0 (k := ?_)
  refine v0 (k := ?_)
  refine v0 (k := ?_)
  refine b0 (k1 := fun hb1 => ?_) (k0 := fun hb1 => ?_)
  · replace hb1 := hB.h {} hb1
    refine w0 (k := ?_)
    refine w0 (k := ?_)
    refine w0 (k := ?_)
    refine w0 (k := ?_)
    refine w0 (k := ?_)
    refine v0 (k := ?_)
    refine v0 (k := ?_)
    refine b0 (k1 := fun hb2 => ?_) (k0 := fun hb2 => ?_)
    · replace hb2 := hB.h {} hb2
      refine w0 (k := ?_)
      refine w0 (k := ?_)
      refine w0 (k := ?_)
      refine w0 (k := ?_)
      refine v0 (k := ?_)
      refine v0 (k := ?_)
      refine nil0 ?_
      repeat refine gwp_seq ?_
      refine gwp_ret ?_
      repeat (first | refine gthen_ret ?_ | refine gblock_ret ?_ | refine gnoGoto_ret ?_)
      refine fin_ret ?_
      refine fp (hR := ?_)
      simp_all [PRes.at, spB] <;> omega
    replace hb2 := hB.h {} hb2
    refine x0 (k := ?_)
    refine x0 (k := ?_)
    refine x0 (k := ?_)
    refine x0 (k := ?_)
    refine v0 (k := ?_)
    refine v0 (k := ?_)
    refine nil0 ?_
    repeat refine gwp_seq ?_
    refine gwp_ret ?_
    repeat (first | refine gthen_ret ?_ | refine gblock_ret ?_ | refine gnoGoto_ret ?_)
    refine fin_ret ?_
    refine fp (hR := ?_)
    simp_all [PRes.at, spB] <;> omega
  replace hb1 := hB.h {} hb1
  refine x0 (k := ?_)
  refine x0 (k := ?_)
  refine x0 (k := ?_)
  refine x0 (k := ?_)
  refine x0 (k := ?_)
  refine v0 (k := ?_)
  refine v0 (k := ?_)
  refine x0 (k := ?_)
  refine x0 (k := ?_)
  refine x0 (k := ?_)
  refine x0 (k := ?_)
  refine v0 (k := ?_)
  refine v0 (k := ?_)
  refine nil0 ?_
  repeat refine gwp_seq ?_
  refine gwp_ret ?_
  repeat (first | refine gthen_ret ?_ | refine gblock_ret ?_ | refine gnoGoto_ret ?_)
  refine fin_ret ?_
  refine fp (hR := ?_)
  simp_all [PRes.at, spB] <;> omega
theorem ent29 : Enters Try.prog 29 := Enters.mk Try.func29 (by kernel_rfl) rfl
theorem r_field (f : Fd) (hl : f.ps.length ≤ 1048576) : PSpec Try.prog 29 [.agg [.list (f.ps.map pS), .int .i64 f.el, .int .i64 f.eh, .int .i64 f.nl, .int .i64 f.nh, .int .i64 f.dl, .int .i64 f.dh, .int .i64 f.dep, .int .i64 f.tm, .int .i64 f.gp]] (.ok (.bool f.valid)) := by
  refine pspec_of Try.func29 (rfl : Try.f29.body = some _) rfl ?_
  intro E A C hN hL
  replace hN : C.N = 74 := hN
  simp only [Gh.num, List.map_cons, List.map_nil, Nat.reduceAdd]
  have hpS : ∀ p : Sk, pS p = P.agg [.int .i64 p.el, .int .i64 p.eh, .int .i64 p.nl, .int .i64 p.nh, .int .i64 p.day, .int .i64 p.dep] := fun _ => rfl
  repeat refine gwp_seq ?_
  refine gwp_region ?_
  refine n1 110 false (hc := kWa1.h {}) (k := ?_)
  refine v0 (k := ?_)
  refine nil0 ?_
  refine cl [1] (k := ?_)
  repeat refine gwp_seq ?_
  refine fz 110 10 [.k, .k, .k, .k, .k, .k, .k, .k, .k, .k] (k := ?_)
  refine gwp_region ?_
  refine v0 (k := ?_)
  refine nil0 ?_
  refine cl [1, 3] (k := ?_)
  repeat refine gwp_seq ?_
  refine gwp_block ?_
  repeat refine gwp_seq ?_
  refine gc_loop (fun mz σ => ∃ k : Nat, (k ≤ f.ps.length) ∧ ((f.ps.take k).any badS = false) ∧ mz = f.ps.length - k ∧ σ = (sg [(1, .ref 110 0), (3, .p (.int .i64 (k : Nat)))] [(110, .cells [.p (.list (f.ps.map pS)), .p (.int .i64 f.el), .p (.int .i64 f.eh), .p (.int .i64 f.nl), .p (.int .i64 f.nh), .p (.int .i64 f.dl), .p (.int .i64 f.dh), .p (.int .i64 f.dep), .p (.int .i64 f.tm), .p (.int .i64 f.gp)] 10)] A [] : Sg E)) ?_ (fun mz σ hI => ?_)
  · refine lbeg [1, 3] (hV := ?_)
    exact ⟨_, 0, by omega, rfl, rfl, rfl⟩
  obtain ⟨k, hk, hbad, hnn, rfl⟩ := hI
  repeat refine gwp_seq ?_
  refine gwp_region ?_
  refine v0 (k := ?_)
  refine v0 (k := ?_)
  refine v0 (k := ?_)
  refine v0 (k := ?_)
  refine v0 (k := ?_)
  refine nil0 ?_
  repeat refine gwp_seq ?_
  refine cB (k1 := fun hb1 => ?_) (k0 := fun hb1 => ?_)
  · replace hb1 := hB.h {} hb1
    repeat refine gwp_seq ?_
    refine gwp_skip ?_
    refine cl [1, 3] (k := ?_)
    repeat refine gwp_seq ?_
    refine gwp_block ?_
    repeat refine gwp_seq ?_
    obtain ⟨p, hx⟩ := getE (l := f.ps) (k := k) (by omega)
    refine gwp_region ?_
    refine v0 (k := ?_)
    refine v0 (k := ?_)
    refine v0 (k := ?_)
    refine v1 (hc := kWa1.h {}) (k := ?_)
    refine v0 (k := ?_)
    refine n1 140 false (hc := kWa1.h {}) (k := ?_)
    refine s1 (hc := kWa1.h {}) (k := ?_)
    refine nil0 ?_
    refine cl [1, 3, 4] (k := ?_)
    repeat refine gwp_seq ?_
    refine gwp_region ?_
    refine v0 (k := ?_)
    refine v0 (k := ?_)
    refine pc0 (spec := r_span p.el p.eh 32) (hent := ent63) (k := ?_)
    refine v0 (k := ?_)
    refine v0 (k := ?_)
    refine b0 (k1 := fun hb2 => ?_) (k0 := fun hb2 => ?_)
    · replace hb2 := hB.h {} hb2
      refine x0 (k := ?_)
      refine x0 (k := ?_)
      refine x0 (k := ?_)
      refine x0 (k := ?_)
      refine v0 (k := ?_)
      refine v0 (k := ?_)
      refine x0 (k := ?_)
      refine x0 (k := ?_)
      refine x0 (k := ?_)
      refine x0 (k := ?_)
      refine v0 (k := ?_)
      refine v0 (k := ?_)
      refine x0 (k := ?_)
      refine x0 (k := ?_)
      refine x0 (k := ?_)
      refine x0 (k := ?_)
      refine v0 (k := ?_)
      refine nil0 ?_
      repeat refine gwp_seq ?_
      refine cT (k := ?_)
      repeat refine gwp_seq ?_
      refine gwp_region ?_
      refine v0 (k := ?_)
      refine nil0 ?_
      repeat refine gwp_seq ?_
      refine gwp_ret ?_
      repeat (first | refine gthen_ret ?_ | refine gblock_ret ?_ | refine gnoGoto_ret ?_)
      refine fin_ret ?_
      refine fp (hR := ?_)
      first
      | (rw [bad_at hx (by simp_all [badS])]; rfl)
      | (simp only [Fd.valid, Fd.head, Fd.nums, hbad] at *; simp_all [PRes.at] <;> (intros; omega))
      | (simp only [Fd.valid, Fd.head, Fd.nums, hbad] at *; simp_all [PRes.at])
    replace hb2 := hB.h {} hb2
    refine w0 (k := ?_)
    refine w0 (k := ?_)
    refine pcw (spec := r_span p.nl p.nh 32) (hent := ent63) (k := ?_)
    refine w0 (k := ?_)
    refine v0 (k := ?_)
    refine v0 (k := ?_)
    refine b0 (k1 := fun hb3 => ?_) (k0 := fun hb3 => ?_)
    · replace hb3 := hB.h {} hb3
      refine x0 (k := ?_)
      refine x0 (k := ?_)
      refine x0 (k := ?_)
      refine x0 (k := ?_)
      refine v0 (k := ?_)
      refine v0 (k := ?_)
      refine x0 (k := ?_)
      refine x0 (k := ?_)
      refine x0 (k := ?_)
      refine x0 (k := ?_)
      refine v0 (k := ?_)
      refine nil0 ?_
      repeat refine gwp_seq ?_
      refine cT (k := ?_)
      repeat refine gwp_seq ?_
      refine gwp_region ?_
      refine v0 (k := ?_)
      refine nil0 ?_
      repeat refine gwp_seq ?_
      refine gwp_ret ?_
      repeat (first | refine gthen_ret ?_ | refine gblock_ret ?_ | refine gnoGoto_ret ?_)
      refine fin_ret ?_
      refine fp (hR := ?_)
      first
      | (rw [bad_at hx (by simp_all [badS])]; rfl)
      | (simp only [Fd.valid, Fd.head, Fd.nums, hbad] at *; simp_all [PRes.at] <;> (intros; omega))
      | (simp only [Fd.valid, Fd.head, Fd.nums, hbad] at *; simp_all [PRes.at])
    replace hb3 := hB.h {} hb3
    refine w0 (k := ?_)
    refine w0 (k := ?_)
    refine pcw (spec := s_in p.day 0 65536) (hent := ent64) (k := ?_)
    refine w0 (k := ?_)
    refine v0 (k := ?_)
    refine v0 (k := ?_)
    refine b0 (k1 := fun hb4 => ?_) (k0 := fun hb4 => ?_)
    · replace hb4 := hB.h {} hb4
      refine x0 (k := ?_)
      refine x0 (k := ?_)
      refine x0 (k := ?_)
      refine x0 (k := ?_)
      refine v0 (k := ?_)
      refine nil0 ?_
      repeat refine gwp_seq ?_
      refine cT (k := ?_)
      repeat refine gwp_seq ?_
      refine gwp_region ?_
      refine v0 (k := ?_)
      refine nil0 ?_
      repeat refine gwp_seq ?_
      refine gwp_ret ?_
      repeat (first | refine gthen_ret ?_ | refine gblock_ret ?_ | refine gnoGoto_ret ?_)
      refine fin_ret ?_
      refine fp (hR := ?_)
      first
      | (rw [bad_at hx (by simp_all [badS])]; rfl)
      | (simp only [Fd.valid, Fd.head, Fd.nums, hbad] at *; simp_all [PRes.at] <;> (intros; omega))
      | (simp only [Fd.valid, Fd.head, Fd.nums, hbad] at *; simp_all [PRes.at])
    replace hb4 := hB.h {} hb4
    refine w0 (k := ?_)
    refine w0 (k := ?_)
    refine pcw (spec := s_in p.dep 0 100) (hent := ent64) (k := ?_)
    refine w0 (k := ?_)
    refine v0 (k := ?_)
    refine nil0 ?_
    repeat refine gwp_seq ?_
    refine cB (k1 := fun hb5 => ?_) (k0 := fun hb5 => ?_)
    · replace hb5 := hB.h {} hb5
      repeat refine gwp_seq ?_
      refine gwp_region ?_
      refine v0 (k := ?_)
      refine nil0 ?_
      repeat refine gwp_seq ?_
      refine gwp_ret ?_
      repeat (first | refine gthen_ret ?_ | refine gblock_ret ?_ | refine gnoGoto_ret ?_)
      refine fin_ret ?_
      refine fp (hR := ?_)
      first
      | (rw [bad_at hx (by simp_all [badS])]; rfl)
      | (simp only [Fd.valid, Fd.head, Fd.nums, hbad] at *; simp_all [PRes.at] <;> (intros; omega))
      | (simp only [Fd.valid, Fd.head, Fd.nums, hbad] at *; simp_all [PRes.at])
    replace hb5 := hB.h {} hb5
    repeat refine gwp_seq ?_
    refine gwp_skip ?_
    refine cl [1, 3] (k := ?_)
    repeat refine gwp_seq ?_
    refine gwp_region ?_
    refine v0 (k := ?_)
    refine v1 (hc := kWa1.h {}) (k := ?_)
    refine v0 (k := ?_)
    refine nil0 ?_
    refine lend [1, 3] (h := ?_) (hV := ?_) (n' := f.ps.length - (k + 1))
    · omega
    exact ⟨k + 1, by omega, any_next hx hbad (by simp_all [badS]), rfl, rfl⟩
  replace hb1 := hB.h {} hb1
  repeat refine gwp_seq ?_
  refine gwp_exit ?_
  repeat (first | refine gthen_exit ?_ | refine gnoGoto_exit ?_ | refine gblock_here ?_ | refine gblock_out rfl ?_)
  refine cl [1] (k := ?_)
  repeat refine gwp_seq ?_
  obtain rfl : k = f.ps.length := by omega
  rw [List.take_length] at hbad
  refine gwp_region ?_
  refine v0 (k := ?_)
  refine v0 (k := ?_)
  refine v0 (k := ?_)
  refine v0 (k := ?_)
  refine v0 (k := ?_)
  refine b0 (k1 := fun hb6 => ?_) (k0 := fun hb6 => ?_)
  · replace hb6 := hB.h {} hb6
    refine x0 (k := ?_)
    refine x0 (k := ?_)
    refine x0 (k := ?_)
    refine x0 (k := ?_)
    refine v0 (k := ?_)
    refine v0 (k := ?_)
    refine x0 (k := ?_)
    refine x0 (k := ?_)
    refine x0 (k := ?_)
    refine x0 (k := ?_)
    refine v0 (k := ?_)
    refine v0 (k := ?_)
    refine x0 (k := ?_)
    refine x0 (k := ?_)
    refine x0 (k := ?_)
    refine x0 (k := ?_)
    refine v0 (k := ?_)
    refine nil0 ?_
    repeat refine gwp_seq ?_
    refine cT (k := ?_)
    repeat refine gwp_seq ?_
    refine gwp_region ?_
    refine v0 (k := ?_)
    refine nil0 ?_
    repeat refine gwp_seq ?_
    refine gwp_ret ?_
    repeat (first | refine gthen_ret ?_ | refine gblock_ret ?_ | refine gnoGoto_ret ?_)
    refine fin_ret ?_
    refine fp (hR := ?_)
    first
    | (rw [bad_at hx (by simp_all [badS])]; rfl)
    | (simp only [Fd.valid, Fd.head, Fd.nums, hbad] at *; simp_all [PRes.at] <;> (intros; omega))
    | (simp only [Fd.valid, Fd.head, Fd.nums, hbad] at *; simp_all [PRes.at])
  replace hb6 := hB.h {} hb6
  refine w0 (k := ?_)
  refine w0 (k := ?_)
  refine pcw (spec := r_span f.el f.eh 32) (hent := ent63) (k := ?_)
  refine w0 (k := ?_)
  refine v0 (k := ?_)
  refine v0 (k := ?_)
  refine b0 (k1 := fun hb7 => ?_) (k0 := fun hb7 => ?_)
  · replace hb7 := hB.h {} hb7
    refine x0 (k := ?_)
    refine x0 (k := ?_)
    refine x0 (k := ?_)
    refine x0 (k := ?_)
    refine v0 (k := ?_)
    refine v0 (k := ?_)
    refine x0 (k := ?_)
    refine x0 (k := ?_)
    refine x0 (k := ?_)
    refine x0 (k := ?_)
    refine v0 (k := ?_)
    refine nil0 ?_
    repeat refine gwp_seq ?_
    refine cT (k := ?_)
    repeat refine gwp_seq ?_
    refine gwp_region ?_
    refine v0 (k := ?_)
    refine nil0 ?_
    repeat refine gwp_seq ?_
    refine gwp_ret ?_
    repeat (first | refine gthen_ret ?_ | refine gblock_ret ?_ | refine gnoGoto_ret ?_)
    refine fin_ret ?_
    refine fp (hR := ?_)
    first
    | (rw [bad_at hx (by simp_all [badS])]; rfl)
    | (simp only [Fd.valid, Fd.head, Fd.nums, hbad] at *; simp_all [PRes.at] <;> (intros; omega))
    | (simp only [Fd.valid, Fd.head, Fd.nums, hbad] at *; simp_all [PRes.at])
  replace hb7 := hB.h {} hb7
  refine w0 (k := ?_)
  refine w0 (k := ?_)
  refine pcw (spec := r_span f.nl f.nh 32) (hent := ent63) (k := ?_)
  refine w0 (k := ?_)
  refine v0 (k := ?_)
  refine v0 (k := ?_)
  refine b0 (k1 := fun hb8 => ?_) (k0 := fun hb8 => ?_)
  · replace hb8 := hB.h {} hb8
    refine x0 (k := ?_)
    refine x0 (k := ?_)
    refine x0 (k := ?_)
    refine x0 (k := ?_)
    refine v0 (k := ?_)
    refine nil0 ?_
    repeat refine gwp_seq ?_
    refine cT (k := ?_)
    repeat refine gwp_seq ?_
    refine gwp_region ?_
    refine v0 (k := ?_)
    refine nil0 ?_
    repeat refine gwp_seq ?_
    refine gwp_ret ?_
    repeat (first | refine gthen_ret ?_ | refine gblock_ret ?_ | refine gnoGoto_ret ?_)
    refine fin_ret ?_
    refine fp (hR := ?_)
    first
    | (rw [bad_at hx (by simp_all [badS])]; rfl)
    | (simp only [Fd.valid, Fd.head, Fd.nums, hbad] at *; simp_all [PRes.at] <;> (intros; omega))
    | (simp only [Fd.valid, Fd.head, Fd.nums, hbad] at *; simp_all [PRes.at])
  replace hb8 := hB.h {} hb8
  refine w0 (k := ?_)
  refine w0 (k := ?_)
  refine pcw (spec := r_span f.dl f.dh 65536) (hent := ent63) (k := ?_)
  refine w0 (k := ?_)
  refine v0 (k := ?_)
  refine nil0 ?_
  repeat refine gwp_seq ?_
  refine cB (k1 := fun hb9 => ?_) (k0 := fun hb9 => ?_)
  · replace hb9 := hB.h {} hb9
    repeat refine gwp_seq ?_
    refine gwp_region ?_
    refine v0 (k := ?_)
    refine nil0 ?_
    repeat refine gwp_seq ?_
    refine gwp_ret ?_
    repeat (first | refine gthen_ret ?_ | refine gblock_ret ?_ | refine gnoGoto_ret ?_)
    refine fin_ret ?_
    refine fp (hR := ?_)
    first
    | (rw [bad_at hx (by simp_all [badS])]; rfl)
    | (simp only [Fd.valid, Fd.head, Fd.nums, hbad] at *; simp_all [PRes.at] <;> (intros; omega))
    | (simp only [Fd.valid, Fd.head, Fd.nums, hbad] at *; simp_all [PRes.at])
  replace hb9 := hB.h {} hb9
  repeat refine gwp_seq ?_
  refine gwp_skip ?_
  refine cl [1] (k := ?_)
  repeat refine gwp_seq ?_
  refine gwp_region ?_
  refine v0 (k := ?_)
  refine v0 (k := ?_)
  refine pc0 (spec := s_in f.dep 0 100) (hent := ent64) (k := ?_)
  refine v0 (k := ?_)
  refine b0 (k1 := fun hb10 => ?_) (k0 := fun hb10 => ?_)
  · replace hb10 := hB.h {} hb10
    refine w0 (k := ?_)
    refine w0 (k := ?_)
    refine pcw (spec := s_in f.tm 1 4) (hent := ent64) (k := ?_)
    refine v0 (k := ?_)
    refine v0 (k := ?_)
    refine b0 (k1 := fun hb11 => ?_) (k0 := fun hb11 => ?_)
    · replace hb11 := hB.h {} hb11
      refine w0 (k := ?_)
      refine w0 (k := ?_)
      refine pcw (spec := s_in f.gp 0 65536) (hent := ent64) (k := ?_)
      refine v0 (k := ?_)
      refine v0 (k := ?_)
      refine nil0 ?_
      repeat refine gwp_seq ?_
      refine gwp_ret ?_
      repeat (first | refine gthen_ret ?_ | refine gblock_ret ?_ | refine gnoGoto_ret ?_)
      refine fin_ret ?_
      refine fp (hR := ?_)
      first
      | (rw [bad_at hx (by simp_all [badS])]; rfl)
      | (simp only [Fd.valid, Fd.head, Fd.nums, hbad] at *; simp_all [PRes.at] <;> (intros; omega))
      | (simp only [Fd.valid, Fd.head, Fd.nums, hbad] at *; simp_all [PRes.at])
    replace hb11 := hB.h {} hb11
    refine x0 (k := ?_)
    refine x0 (k := ?_)
    refine x0 (k := ?_)
    refine v0 (k := ?_)
    refine v0 (k := ?_)
    refine nil0 ?_
    repeat refine gwp_seq ?_
    refine gwp_ret ?_
    repeat (first | refine gthen_ret ?_ | refine gblock_ret ?_ | refine gnoGoto_ret ?_)
    refine fin_ret ?_
    refine fp (hR := ?_)
    first
    | (rw [bad_at hx (by simp_all [badS])]; rfl)
    | (simp only [Fd.valid, Fd.head, Fd.nums, hbad] at *; simp_all [PRes.at] <;> (intros; omega))
    | (simp only [Fd.valid, Fd.head, Fd.nums, hbad] at *; simp_all [PRes.at])
  replace hb10 := hB.h {} hb10
  refine x0 (k := ?_)
  refine x0 (k := ?_)
  refine x0 (k := ?_)
  refine v0 (k := ?_)
  refine v0 (k := ?_)
  refine x0 (k := ?_)
  refine x0 (k := ?_)
  refine x0 (k := ?_)
  refine v0 (k := ?_)
  refine v0 (k := ?_)
  refine nil0 ?_
  repeat refine gwp_seq ?_
  refine gwp_ret ?_
  repeat (first | refine gthen_ret ?_ | refine gblock_ret ?_ | refine gnoGoto_ret ?_)
  refine fin_ret ?_
  refine fp (hR := ?_)
  first
  | (rw [bad_at hx (by simp_all [badS])]; rfl)
  | (simp only [Fd.valid, Fd.head, Fd.nums, hbad] at *; simp_all [PRes.at] <;> (intros; omega))
  | (simp only [Fd.valid, Fd.head, Fd.nums, hbad] at *; simp_all [PRes.at])
theorem pop_zero : pop 0 = 0 := by decide
theorem popF_le : ∀ (f n : Nat), popF f n ≤ f
  | 0, _ => Nat.le_refl _
  | f + 1, n => by
    have := popF_le f (n / 2)
    rw [popF]; omega
theorem pop_le (n : Nat) : pop n ≤ 64 := popF_le 64 n
theorem popF_zero : ∀ f, popF f 0 = 0
  | 0 => rfl
  | f + 1 => by rw [popF, Nat.zero_div, popF_zero f]
theorem popF_same : ∀ (f g n : Nat), n < 2 ^ f → n < 2 ^ g → popF f n = popF g n
  | 0, g, n, h, _ => by obtain rfl : n = 0 := by omega
                        rw [popF_zero, popF_zero]
  | f, 0, n, _, h => by obtain rfl : n = 0 := by omega
                        rw [popF_zero, popF_zero]
  | f + 1, g + 1, n, h1, h2 => by
    rw [popF, popF, popF_same f g (n / 2) (by rw [Nat.pow_succ] at h1; omega) (by rw [Nat.pow_succ] at h2; omega)]
theorem pop_half {m : Nat} (h : m < 4096) : pop m = m % 2 + pop (m / 2) := by
  have : pop m = m % 2 + popF 63 (m / 2) := rfl
  rw [this, pop, popF_same 63 64 (m / 2) (by omega) (by omega)]
theorem ent33 : Enters Try.prog 33 := Enters.mk Try.func33 (by kernel_rfl) rfl
theorem r_size (n : Nat) (h : n < 4096) : PSpec Try.prog 33 [.int .i64 (n : Nat)] (.ok (.int .i64 (pop n))) := by
  refine pspec_of Try.func33 (rfl : Try.f33.body = some _) rfl ?_
  intro E A C hN hL
  replace hN : C.N = 13 := hN
  simp only [Gh.num, List.map_cons, List.map_nil, Nat.reduceAdd]
  repeat refine gwp_seq ?_
  refine gwp_region ?_
  refine v0 (k := ?_)
  refine nil0 ?_
  refine cl [0] (k := ?_)
  repeat refine gwp_seq ?_
  refine gwp_region ?_
  refine v0 (k := ?_)
  refine nil0 ?_
  refine cl [0, 3] (k := ?_)
  repeat refine gwp_seq ?_
  refine gwp_block ?_
  repeat refine gwp_seq ?_
  refine gc_loop (fun mz σ => ∃ (c m : Nat), (c + pop m = pop n) ∧ (m ≤ n) ∧ mz = m ∧ σ = (sg [(0, .p (.int .i64 (m : Nat))), (3, .p (.int .i64 (c : Nat)))] [] A [] : Sg E)) ?_ (fun mz σ hI => ?_)
  · refine lbeg [0, 3] (hV := ?_)
    exact ⟨_, 0, n, by omega, by omega, rfl, rfl⟩
  obtain ⟨c, m, hc, hm, hnn, rfl⟩ := hI
  have hp1 := pop_half (m := m) (by omega)
  have hp2 := pop_le n
  have e1 : (m : Int).tmod 2 = ((m % 2 : Nat) : Int) := (Int.ofNat_tmod m 2).symm
  have e2 : (m : Int).tdiv 2 = ((m / 2 : Nat) : Int) := (Int.ofNat_tdiv m 2).symm
  repeat refine gwp_seq ?_
  refine gwp_region ?_
  refine v0 (k := ?_)
  refine v0 (k := ?_)
  refine nil0 ?_
  repeat refine gwp_seq ?_
  refine cB (k1 := fun hb1 => ?_) (k0 := fun hb1 => ?_)
  · replace hb1 := hB.h {} hb1
    repeat refine gwp_seq ?_
    refine gwp_skip ?_
    refine cl [0, 3] (k := ?_)
    repeat refine gwp_seq ?_
    refine gwp_block ?_
    repeat refine gwp_seq ?_
    refine gwp_region ?_
    refine v0 (k := ?_)
    refine v0 (k := ?_)
    refine v1 (hc := kWa2.h {}) (k := ?_)
    refine v1 (hc := kWa2.h {}) (k := ?_)
    refine v0 (k := ?_)
    refine nil0 ?_
    refine cl [0, 3] (k := ?_)
    repeat refine gwp_seq ?_
    refine gwp_region ?_
    refine v0 (k := ?_)
    refine v1 (hc := kWa2.h {}) (k := ?_)
    refine v0 (k := ?_)
    refine nil0 ?_
    repeat refine gblock_normal ?_
    refine lend [0, 3] (h := ?_) (hV := ?_) (n' := m / 2)
    · omega
    exact ⟨c + m % 2, m / 2, by omega, by omega, rfl, rfl⟩
  replace hb1 := hB.h {} hb1
  repeat refine gwp_seq ?_
  refine gwp_exit ?_
  repeat (first | refine gthen_exit ?_ | refine gnoGoto_exit ?_ | refine gblock_here ?_ | refine gblock_out rfl ?_)
  refine cl [3] (k := ?_)
  repeat refine gwp_seq ?_
  refine gwp_region ?_
  refine v0 (k := ?_)
  refine v0 (k := ?_)
  refine nil0 ?_
  repeat refine gwp_seq ?_
  refine gwp_ret ?_
  repeat (first | refine gthen_ret ?_ | refine gblock_ret ?_ | refine gnoGoto_ret ?_)
  refine fin_ret ?_
  refine fp (hR := ?_)
  obtain rfl : m = 0 := by omega
  rw [← hc, pop_zero]
  rfl
end Go.Proofs.Ytabeeaiilanmjaa

/- The document: the plates of a place; which places are served. -/
namespace Go.Proofs.Ytabeeaiilanmjaa
open Go.Gh
set_option maxRecDepth 100000
set_option maxHeartbeats 4000000
structure kWb1 (c : Prop) : Prop where
  h : c := by (first | exact True.intro | omega | (simp only [inI]; omega) | (simp [P.size, pS, all_int, allOne_p, goods_p, allOne, goods, good, G.one, P.one, P.cells] <;> first | omega | assumption | simp_all))
end Go.Proofs.Ytabeeaiilanmjaa

/- A rule of written-out states: leaving with four results. -/
namespace Go.Proofs.Ytabeeaiilanmjaa
open Go.Gh
set_option maxRecDepth 100000
structure eN1 {α : Type} (a b : α) : Prop where
  h : a = b := by (simp only [gresult, gresL, gres1, tup_nil, tup_one, tup_two, gsem, gev, ofV, mkFr_cons, mkFr_nil, mkHp_cons, mkHp_nil, upd, yes, lift, gbinAt, gnilEq, gbin, gint, gshift, arith, gpick, gload, gstore, splice, gbox, gfill, placesL, gbuildSlice, gfieldAddr, gfield, gelem, gindexAddr, gindex, gbound, gslice, glen, gsource, gappend, gmin, gminL, gmax, gmaxL, mapGet, mapPut, zeroG, orZero, glookup, gmapUpdate, gmapEntry, gentryStore, Option.getD_none, Option.getD_some, gconvert, gtypeAssert, gextract, isConst, gnilCheck, gunOp, gmakeSlice, intOf, mkAgg, mkFn, mkIface, mkTuple, allP, G.cells, good, goods, allOne, G.one, P.one, allP_p, allOne_p, goods_p, toPs_p, all_int, take_all, isAggD, isIfaceD, toP, toPs, P.size, P.cells, List.map_cons, List.map_nil, List.take_succ_cons, List.take_zero, List.drop_succ_cons, List.drop_zero, List.take_nil, List.drop_nil, List.cons_append, List.nil_append, List.append_nil, List.length_cons, List.length_nil, List.getElem?_cons_zero, List.getElem?_cons_succ, List.getElem?_nil, List.set_cons_zero, List.set_cons_succ, List.flatMap_cons, List.flatMap_nil, List.getElem?_toArray, List.getElem?_map, List.length_map, Option.map_some, Option.map_none, Nat.mul_one, List.length_set, set_map_p, set_map_int, Nat.reduceEqDiff, Nat.reduceAdd, Nat.reduceMul, Nat.reduceSub, Nat.reduceLeDiff, Nat.add_zero, Nat.zero_add, Int.toNat_natCast, Int.reduceToNat, reduceIte, reduceCtorEq, eq_self, if_true, if_false, and_true, true_and, true_or, or_true, or_false, false_or, Bool.false_eq_true, ne_eq, not_true_eq_false, not_false_eq_true, cond_true, cond_false, Bool.and_true, Bool.true_and, Bool.and_false, Bool.false_and, Bool.or_true, Bool.true_or, Bool.or_false, Bool.false_or, Bool.not_true, Bool.not_false, ti_3, ti_4, ti_5, ti_9, ti_20, ti_22, ti_24, ti_26, ti_29, ti_37, ti_42, ti_44, ti_45, ti_48, ti_50, ti_51, ti_52, ti_55, ti_60, ti_61, ti_62, ti_63, ti_65, ti_66, ti_71, ti_73, ti_74, ti_75, ti_78, ti_79, ti_83, ti_85, ti_86, ti_90, ti_100, ti_102, ti_103, ti_105, ti_106, ti_108, ti_111, ti_114, ti_115, ti_117, ti_120, ti_125, ti_127, ti_130, ti_136, ti_140, ti_142] <;> rfl)
variable {E : Env Try.prog} {l : List (Nat × G)} {m : List (Nat × Ob)} {A : E.α} {g : G}
theorem fp4 {fn : Func} {R : GRes E → Prop} {d d' : Prop} {v : P} {x1 x2 x3 x4 : ResultVar} (hrs : fn.results.toList = [x1, x2, x3, x4] := by rfl) (hg : gresult Try.prog (mkHp m) (mkFr l) [x1, x2, x3, x4] = some (d, g) := by exact eN1.h {})
    (hp : toP (mkHp m) g = some (d', v) := by (simp only [toP, toPs, mkHp_cons, mkHp_nil, Nat.reduceEqDiff, reduceIte, and_true, true_and] <;> rfl)) (hR : R (.ok (.p v) (mkHp []) A)) (hd : d := by simp) (hd' : d' := by simp) : Fin Try.prog fn R (sg l m A []) := fin_p (by rw [hrs]; exact hg) hd hp hd' hR
end Go.Proofs.Ytabeeaiilanmjaa

/- The document: which places are served, lists, what is missing. -/
namespace Go.Proofs.Ytabeeaiilanmjaa
open Go.Gh
set_option maxRecDepth 100000
set_option maxHeartbeats 4000000
structure kWc1 (c : Prop) : Prop where
  h : c := by (first | exact True.intro | omega | (simp only [inI]; omega) | (simp [P.size, pS, all_int, allOne_p, goods_p, allOne, goods, good, G.one, P.one, P.cells] <;> first | omega | assumption | simp_all))
/-- What is missing among the places up to one. -/
def misC (f : Fd) (s i j : Nat) : List (Int × Int) := (curL f i j).filter (misQ f s)
end Go.Proofs.Ytabeeaiilanmjaa

/- The document: of use, served, missing, the shortest list, how many, needed. -/
namespace Go.Proofs.Ytabeeaiilanmjaa
open Go.Gh
set_option maxRecDepth 100000
set_option maxHeartbeats 4000000
structure kWd1 (c : Prop) : Prop where
  h : c := by (first | exact True.intro | omega | (simp only [inI]; omega) | (simp [P.size, pS, all_int, allOne_p, goods_p, allOne, goods, good, G.one, P.one, P.cells] <;> first | omega | assumption | simp_all))
end Go.Proofs.Ytabeeaiilanmjaa

/- The program: lists of plates, and the first one. -/
namespace Go.Proofs.Ytabeeaiilanmjaa
open Go.Gh
set_option maxRecDepth 100000
set_option maxHeartbeats 4000000
structure kVg1 (c : Prop) : Prop where
  h : c := by (first | exact True.intro | omega | (simp only [inI]; omega) | (simp [P.size, pS, all_int, allOne_p, goods_p, allOne, goods, good, G.one, P.one, P.cells] <;> first | omega | assumption | simp_all))
theorem and_lt {k s : Nat} (h : s < 4096) : k &&& s < 4096 := Nat.lt_of_le_of_lt Nat.and_le_right h
theorem ent80 : Enters Try.prog 80 := Enters.mk Try.func80 (by kernel_rfl) rfl
theorem s_noserve {E : Env Try.prog} {A : E.α} (f : Fd) (hv : f.valid = true) (k s : Nat) (hk : k < 4096) (hs : s < 4096) : Gh.Spec E 80 [.p (.int .u64 (k : Nat)), .ptr [.ptr [.p (.list (f.ps.map pS)), .p (.int .i64 f.el), .p (.int .i64 f.eh), .p (.int .i64 f.nl), .p (.int .i64 f.nh), .p (.int .i64 f.dl), .p (.int .i64 f.dh), .p (.int .i64 f.dep), .p (.int .i64 f.tm), .p (.int .i64 f.gp)]], .ptr [.p (.int .u64 (s : Nat))]] (mkHp []) A (fun y => y = .ok (.p (.bool (!servQ f (k &&& s)))) (mkHp []) A) := by
  refine spec_of Try.func80 (rfl : Try.f80.body = some _) (Nat.le_of_ble_eq_true rfl) (fun id h => ?_) (fun j id h => ?_) ?_
  · exact wf1x h
  · exact wf2x h
  intro C hN hL
  replace hN : C.N = 11 := hN
  simp only [Gh.num, List.map_cons, List.map_nil, Nat.reduceAdd]
  have hba := bitop_and_u64 k s (by omega) (by omega)
  repeat refine gwp_seq ?_
  refine gwp_region ?_
  refine v0 (k := ?_)
  refine nil0 ?_
  refine cl [0, 1, 2] (k := ?_)
  repeat refine gwp_seq ?_
  refine gwp_region ?_
  refine v0 (k := ?_)
  refine v0 (k := ?_)
  refine v0 (k := ?_)
  refine v0 (k := ?_)
  refine oc0 [] [] [0, 0] none (spec := s_serves f hv (k &&& s) (and_lt hs)) (hent := ent46) (k := ?_)
  refine v0 (k := ?_)
  refine v0 (k := ?_)
  refine nil0 ?_
  repeat refine gwp_seq ?_
  refine gwp_ret ?_
  repeat (first | refine gthen_ret ?_ | refine gblock_ret ?_ | refine gnoGoto_ret ?_)
  refine fin_ret ?_
  refine fp (hR := ?_)
  rfl
theorem ent95 : Enters Try.prog 95 := Enters.mk Try.func95 (by kernel_rfl) rfl
theorem s_kidx {E : Env Try.prog} {A : E.α} (f : Fd) (hv : f.valid = true) (s : Nat) (hs : s < 4096) (l : List Nat) (hl : l.length ≤ 1048576) (hlt : ∀ x ∈ l, x < 4096) : Gh.Spec E 95 [.p (.list (l.map fun s : Nat => P.int .u64 (s : Int))), .fn (.func 80) [] [.ptr [.ptr [.p (.list (f.ps.map pS)), .p (.int .i64 f.el), .p (.int .i64 f.eh), .p (.int .i64 f.nl), .p (.int .i64 f.nh), .p (.int .i64 f.dl), .p (.int .i64 f.dh), .p (.int .i64 f.dep), .p (.int .i64 f.tm), .p (.int .i64 f.gp)]], .ptr [.p (.int .u64 (s : Nat))]]] (mkHp []) A (fun y => y = .ok (.p (.int .i64 (idxP (fun k => !servQ f (k &&& s)) l 0))) (mkHp []) A) := by
  refine spec_of Try.func95 (rfl : Try.f95.body = some _) (Nat.le_of_ble_eq_true rfl) (fun id h => ?_) (fun j id h => ?_) ?_
  · exact wf1x h
  · exact wf2x h
  intro C hN hL
  replace hN : C.N = 19 := hN
  simp only [Gh.num, List.map_cons, List.map_nil, Nat.reduceAdd]
  repeat refine gwp_seq ?_
  refine gwp_region ?_
  refine v0 (k := ?_)
  refine nil0 ?_
  refine cl [0, 1] (k := ?_)
  repeat refine gwp_seq ?_
  refine gwp_region ?_
  refine v0 (k := ?_)
  refine v0 (k := ?_)
  refine v0 (k := ?_)
  refine nil0 ?_
  refine cl [0, 1, 7, 8] (k := ?_)
  repeat refine gwp_seq ?_
  refine gwp_block ?_
  repeat refine gwp_seq ?_
  refine gc_loop (fun mz σ => ∃ k : Nat, (k ≤ l.length) ∧ (idxP (fun k => !servQ f (k &&& s)) l 0 = idxP (fun k => !servQ f (k &&& s)) (l.drop k) k) ∧ mz = l.length - k ∧ σ = (sg [(0, .p (.list (l.map fun s : Nat => P.int .u64 (s : Int)))), (1, .fn (.func 80) [] [.ptr [.ptr [.p (.list (f.ps.map pS)), .p (.int .i64 f.el), .p (.int .i64 f.eh), .p (.int .i64 f.nl), .p (.int .i64 f.nh), .p (.int .i64 f.dl), .p (.int .i64 f.dh), .p (.int .i64 f.dep), .p (.int .i64 f.tm), .p (.int .i64 f.gp)]], .ptr [.p (.int .u64 (s : Nat))]]), (7, .p (.int .i64 (l.length : Nat))), (8, .p (.int .i64 (k : Nat)))] [] A [] : Sg E)) ?_ (fun mz σ hI => ?_)
  · refine lbeg [0, 1, 7, 8] (hV := ?_)
    exact ⟨_, 0, by omega, by simp, rfl, rfl⟩
  obtain ⟨k, hk, hi, hn, rfl⟩ := hI
  repeat refine gwp_seq ?_
  refine gwp_region ?_
  refine v0 (k := ?_)
  refine nil0 ?_
  repeat refine gwp_seq ?_
  refine cB (k1 := fun hb1 => ?_) (k0 := fun hb1 => ?_)
  · replace hb1 := hB.h {} hb1
    repeat refine gwp_seq ?_
    refine gwp_skip ?_
    refine cl [0, 1, 7, 8] (k := ?_)
    repeat refine gwp_seq ?_
    refine gwp_block ?_
    repeat refine gwp_seq ?_
    refine gwp_region ?_
    refine v0 (k := ?_)
    refine v0 (k := ?_)
    refine nil0 ?_
    refine cl [0, 1, 5, 7, 8] (k := ?_)
    repeat refine gwp_seq ?_
    obtain ⟨x, hx⟩ := getE (l := l) (k := k) (by omega)
    refine gwp_region ?_
    refine v0 (k := ?_)
    refine v0 (k := ?_)
    refine v0 (k := ?_)
    refine v1 (hc := kVg1.h {}) (k := ?_)
    refine v0 (k := ?_)
    refine oc0 [] [] [0, 0, 0] none (spec := s_noserve f hv x s (hlt x (List.mem_of_getElem? hx)) hs) (hent := ent80) (k := ?_)
    refine nil0 ?_
    repeat refine gwp_seq ?_
    refine cB (k1 := fun hb2 => ?_) (k0 := fun hb2 => ?_)
    · replace hb2 := hB.h {} hb2
      repeat refine gwp_seq ?_
      refine gwp_region ?_
      refine v0 (k := ?_)
      refine v0 (k := ?_)
      refine nil0 ?_
      repeat refine gwp_seq ?_
      refine gwp_ret ?_
      repeat (first | refine gthen_ret ?_ | refine gblock_ret ?_ | refine gnoGoto_ret ?_)
      refine fin_ret ?_
      refine fp (hR := ?_)
      simp only [PRes.at, GRes.ok.injEq, G.p.injEq, P.int.injEq, true_and, and_true]
      first
      | (rw [hi, idxP_at hx]; simp_all; done)
      | (rw [hi, List.drop_eq_nil_of_le (by omega)]; rfl)
    replace hb2 := hB.h {} hb2
    repeat refine gwp_seq ?_
    refine gwp_skip ?_
    refine cl [0, 1, 7, 8] (k := ?_)
    repeat refine gwp_seq ?_
    refine gwp_region ?_
    refine v1 (hc := kVg1.h {}) (k := ?_)
    refine v0 (k := ?_)
    refine nil0 ?_
    refine lend [0, 1, 7, 8] (h := ?_) (hV := ?_) (n' := l.length - (k + 1))
    · omega
    exact ⟨k + 1, by omega, by rw [hi, idxP_at hx]; simp_all, rfl, rfl⟩
  replace hb1 := hB.h {} hb1
  repeat refine gwp_seq ?_
  refine gwp_exit ?_
  repeat (first | refine gthen_exit ?_ | refine gnoGoto_exit ?_ | refine gblock_here ?_ | refine gblock_out rfl ?_)
  refine cl [] (k := ?_)
  repeat refine gwp_seq ?_
  refine gwp_region ?_
  refine v0 (k := ?_)
  refine nil0 ?_
  repeat refine gwp_seq ?_
  refine gwp_ret ?_
  repeat (first | refine gthen_ret ?_ | refine gblock_ret ?_ | refine gnoGoto_ret ?_)
  refine fin_ret ?_
  refine fp (hR := ?_)
  simp only [PRes.at, GRes.ok.injEq, G.p.injEq, P.int.injEq, true_and, and_true]
  first
  | (rw [hi, idxP_at hx]; simp_all; done)
  | (rw [hi, List.drop_eq_nil_of_le (by omega)]; rfl)
theorem ent79 : Enters Try.prog 79 := Enters.mk Try.func79 (by kernel_rfl) rfl
theorem s_kany {E : Env Try.prog} {A : E.α} (f : Fd) (hv : f.valid = true) (s : Nat) (hs : s < 4096) (l : List Nat) (hl : l.length ≤ 1048576) (hlt : ∀ x ∈ l, x < 4096) : Gh.Spec E 79 [.p (.list (l.map fun s : Nat => P.int .u64 (s : Int))), .fn (.func 80) [] [.ptr [.ptr [.p (.list (f.ps.map pS)), .p (.int .i64 f.el), .p (.int .i64 f.eh), .p (.int .i64 f.nl), .p (.int .i64 f.nh), .p (.int .i64 f.dl), .p (.int .i64 f.dh), .p (.int .i64 f.dep), .p (.int .i64 f.tm), .p (.int .i64 f.gp)]], .ptr [.p (.int .u64 (s : Nat))]]] (mkHp []) A (fun y => y = .ok (.p (.bool (l.any (fun k => !servQ f (k &&& s))))) (mkHp []) A) := by
  refine spec_of Try.func79 (rfl : Try.f79.body = some _) (Nat.le_of_ble_eq_true rfl) (fun id h => ?_) (fun j id h => ?_) ?_
  · exact wf1x h
  · exact wf2x h
  intro C hN hL
  replace hN : C.N = 9 := hN
  simp only [Gh.num, List.map_cons, List.map_nil, Nat.reduceAdd]
  repeat refine gwp_seq ?_
  refine gwp_region ?_
  refine v0 (k := ?_)
  refine nil0 ?_
  refine cl [0, 1] (k := ?_)
  repeat refine gwp_seq ?_
  refine gwp_region ?_
  refine v0 (k := ?_)
  refine v0 (k := ?_)
  refine oc0 [] [] [0, 0] none (spec := s_kidx f hv s hs l hl hlt) (hent := ent95) (k := ?_)
  refine v0 (k := ?_)
  refine v0 (k := ?_)
  refine nil0 ?_
  repeat refine gwp_seq ?_
  refine gwp_ret ?_
  repeat (first | refine gthen_ret ?_ | refine gblock_ret ?_ | refine gnoGoto_ret ?_)
  refine fin_ret ?_
  refine fp (hR := ?_)
  rw [← idxP_sign (fun k => !servQ f (k &&& s)) l 0]
theorem ent78 : Enters Try.prog 78 := Enters.mk Try.func78 (by kernel_rfl) rfl
theorem s_isList {E : Env Try.prog} {A : E.α} (f : Fd) (hv : f.valid = true) (s : Nat) (hs : s < 4096) : Gh.Spec E 78 [.p (.int .u64 (s : Nat)), .ptr [.p (.list ((kindsL f).map fun s : Nat => P.int .u64 (s : Int)))], .ptr [.ptr [.p (.list (f.ps.map pS)), .p (.int .i64 f.el), .p (.int .i64 f.eh), .p (.int .i64 f.nl), .p (.int .i64 f.nh), .p (.int .i64 f.dl), .p (.int .i64 f.dh), .p (.int .i64 f.dep), .p (.int .i64 f.tm), .p (.int .i64 f.gp)]]] (mkHp []) A (fun y => y = .ok (.p (.bool (listQ f s))) (mkHp []) A) := by
  refine spec_of Try.func78 (rfl : Try.f78.body = some _) (Nat.le_of_ble_eq_true rfl) (fun id h => ?_) (fun j id h => ?_) ?_
  · exact wf1x h
  · exact wf2x h
  intro C hN hL
  replace hN : C.N = 9 := hN
  simp only [Gh.num, List.map_cons, List.map_nil, Nat.reduceAdd]
  have hn0 := valid_num hv
  have hkl := kinds_len hv
  repeat refine gwp_seq ?_
  refine gwp_region ?_
  refine n1 130 false (hc := kVg1.h {}) (k := ?_)
  refine v0 (k := ?_)
  refine nil0 ?_
  refine cl [1, 2, 3] (k := ?_)
  repeat refine gwp_seq ?_
  refine fz 130 1 [.k] (k := ?_)
  refine gwp_region ?_
  refine v0 (k := ?_)
  refine v0 (k := ?_)
  refine ocv 6 (.f [.k, .n [.k]]) (k := ?_)
  refine oc0 [] [] [0, 0] none (spec := s_kany f hv s hs (kindsL f) (by omega) (kinds_lt (by omega))) (hent := ent79) (k := ?_)
  refine v0 (k := ?_)
  refine v0 (k := ?_)
  refine nil0 ?_
  repeat refine gwp_seq ?_
  refine gwp_ret ?_
  repeat (first | refine gthen_ret ?_ | refine gblock_ret ?_ | refine gnoGoto_ret ?_)
  refine fin_ret ?_
  refine fp (hR := ?_)
  rw [list_kinds, Bool.not_not]
theorem ent51 : Enters Try.prog 51 := Enters.mk Try.func51 (by kernel_rfl) rfl
theorem s_mkList {E : Env Try.prog} {A : E.α} (f : Fd) (hv : f.valid = true) : Gh.Spec E 51 [.ptr [.p (.list (f.ps.map pS)), .p (.int .i64 f.el), .p (.int .i64 f.eh), .p (.int .i64 f.nl), .p (.int .i64 f.nh), .p (.int .i64 f.dl), .p (.int .i64 f.dh), .p (.int .i64 f.dep), .p (.int .i64 f.tm), .p (.int .i64 f.gp), .p (.int .u64 (usedN f f.ps.length : Nat)), .map 0]] (mkHp [(0, .map (plM f f.ps.length))]) A (fun y => y = .ok (.fn (.func 78) [] [.ptr [.p (.list ((kindsL f).map fun s : Nat => P.int .u64 (s : Int)))], .ptr [.ptr [.p (.list (f.ps.map pS)), .p (.int .i64 f.el), .p (.int .i64 f.eh), .p (.int .i64 f.nl), .p (.int .i64 f.nh), .p (.int .i64 f.dl), .p (.int .i64 f.dh), .p (.int .i64 f.dep), .p (.int .i64 f.tm), .p (.int .i64 f.gp)]]]) (mkHp [(0, .map (plM f f.ps.length))]) A) := by
  refine spec_of Try.func51 (rfl : Try.f51.body = some _) (Nat.le_of_ble_eq_true rfl) (fun id h => ?_) (fun j id h => ?_) ?_
  · exact wf1x h
  · exact wf2x h
  intro C hN hL
  replace hN : C.N = 7 := hN
  simp only [Gh.num, List.map_cons, List.map_nil, Nat.reduceAdd]
  repeat refine gwp_seq ?_
  refine gwp_region ?_
  refine n1 110 false (hc := kVg1.h {}) (k := ?_)
  refine v0 (k := ?_)
  refine nil0 ?_
  refine cl [0, 1] (k := ?_)
  repeat refine gwp_seq ?_
  refine gwp_region ?_
  refine v0 (k := ?_)
  refine oc0 [(0, 0)] [] [0] none (spec := s_kinds f hv) (hent := ent56) (k := ?_)
  refine n1 130 false (hc := kVg1.h {}) (k := ?_)
  refine s1 (hc := kVg1.h {}) (k := ?_)
  refine nil0 ?_
  refine cl [0, 1, 3] (k := ?_)
  repeat refine gwp_seq ?_
  refine gwp_region ?_
  refine v0 (k := ?_)
  refine v0 (k := ?_)
  refine nil0 ?_
  repeat refine gwp_seq ?_
  refine fz 110 1 [.n [.k, .k, .k, .k, .k, .k, .k, .k, .k, .k]] (k := ?_)
  refine fz 130 1 [.k] (k := ?_)
  refine cv 2 (.f [.n [.k], .n [.k]]) (k := ?_)
  refine gwp_ret ?_
  repeat (first | refine gthen_ret ?_ | refine gblock_ret ?_ | refine gnoGoto_ret ?_)
  refine fin_ret ?_
  refine fh [0] (hR := ?_)
  rfl
theorem ent77 : Enters Try.prog 77 := Enters.mk Try.func77 (by kernel_rfl) rfl
theorem it_sets (f : Fd) (hv : f.valid = true) :
    IterSpec Try.prog 77 [.abs, .ptr [.ptr [.p (.list (f.ps.map pS)), .p (.int .i64 f.el), .p (.int .i64 f.eh), .p (.int .i64 f.nl), .p (.int .i64 f.nh), .p (.int .i64 f.dl), .p (.int .i64 f.dh), .p (.int .i64 f.dep), .p (.int .i64 f.tm), .p (.int .i64 f.gp), .p (.int .u64 (usedN f f.ps.length : Nat))]]] ((setsL f).map fun s : Nat => [P.int .u64 (s : Int)]) := by
  intro E J Z hcan hy A hA
  refine spec_of Try.func77 (rfl : Try.f77.body = some _) (Nat.le_of_ble_eq_true rfl) (fun id h => ?_) (fun j id h => ?_) ?_
  · exact wf1x h
  · exact wf2x h
  intro C hN hL
  replace hN : C.N = 39 := hN
  simp only [Gh.num, List.map_cons, List.map_nil, Nat.reduceAdd]
  have hn0 := valid_num hv
  have hu := used_lt f (k := f.ps.length) (by omega)
  have hpu := pop_le12 (usedN f f.ps.length) hu
  have hNp := Nat.two_pow_pos f.ps.length
  have hN12 : 2 ^ f.ps.length ≤ 2 ^ 12 := Nat.pow_le_pow_right (by omega) (by omega)
  have hwN : IntKind.u64.wrap ((allS f.ps.length : Int) + 1) = ((2 ^ f.ps.length : Nat) : Int) := by rw [← allS_i, show ((2 ^ f.ps.length : Nat) : Int) - 1 + 1 = ((2 ^ f.ps.length : Nat) : Int) by omega]; exact IntWalk.u64_in _ (by omega)
  repeat refine gwp_seq ?_
  refine gwp_region ?_
  refine v0 (k := ?_)
  refine v0 (k := ?_)
  refine v0 (k := ?_)
  refine v0 (k := ?_)
  refine pc0 (spec := s_size (usedN f f.ps.length) hu) (hent := ent54) (k := ?_)
  refine v1 (hc := kVg1.h {}) (k := ?_)
  refine v0 (k := ?_)
  refine nil0 ?_
  refine cl [0, 1, 10, 11] (k := ?_)
  repeat refine gwp_seq ?_
  refine gwp_block ?_
  repeat refine gwp_seq ?_
  refine gc_loop (fun mz σ => ∃ (z : Nat) (A2 : E.α), (z ≤ pop (usedN f f.ps.length) + 1) ∧ (J (curS (usedN f f.ps.length) (2 ^ f.ps.length) z 0).length A2) ∧ mz = pop (usedN f f.ps.length) + 1 - z ∧ σ = (sg [(0, .abs), (1, .ptr [.ptr [.p (.list (f.ps.map pS)), .p (.int .i64 f.el), .p (.int .i64 f.eh), .p (.int .i64 f.nl), .p (.int .i64 f.nh), .p (.int .i64 f.dl), .p (.int .i64 f.dh), .p (.int .i64 f.dep), .p (.int .i64 f.tm), .p (.int .i64 f.gp), .p (.int .u64 (usedN f f.ps.length : Nat))]]), (10, .p (.int .i64 ((pop (usedN f f.ps.length) : Int) + 1))), (11, .p (.int .i64 (z : Nat)))] [] A2 [] : Sg E)) ?_ (fun mz σ hI => ?_)
  · refine lbeg [0, 1, 10, 11] (hV := ?_)
    exact ⟨_, 0, A, by omega, hA, rfl, rfl⟩
  obtain ⟨z, A2, hz, hJ, hn, rfl⟩ := hI
  repeat refine gwp_seq ?_
  refine gwp_region ?_
  refine v0 (k := ?_)
  refine nil0 ?_
  repeat refine gwp_seq ?_
  refine cB (k1 := fun hb1 => ?_) (k0 := fun hb1 => ?_)
  · replace hb1 := hB.h {} hb1
    try rw [eqI] at hb1
    repeat refine gwp_seq ?_
    refine gwp_skip ?_
    refine cl [0, 1, 10, 11] (k := ?_)
    repeat refine gwp_seq ?_
    refine gwp_block ?_
    repeat refine gwp_seq ?_
    refine gwp_region ?_
    refine v0 (k := ?_)
    refine v0 (k := ?_)
    refine nil0 ?_
    refine cl [0, 1, 3, 10, 11] (k := ?_)
    repeat refine gwp_seq ?_
    refine gwp_scope ?_
    repeat refine gwp_seq ?_
    refine gwp_label ?_
    repeat refine gwp_seq ?_
    refine gwp_region ?_
    refine v0 (k := ?_)
    refine oc0 [] [] [4] none (spec := s_all f (by omega)) (hent := ent58) (k := ?_)
    refine v1 (hc := kVg1.h {}) (k := ?_)
    refine v0 (k := ?_)
    refine nil0 ?_
    refine cl [0, 1, 3, 10, 11, 16, 17] (k := ?_)
    repeat refine gwp_seq ?_
    refine gwp_block ?_
    repeat refine gwp_seq ?_
    refine gc_loop (fun mz σ => ∃ (s : Nat) (A3 : E.α), (s ≤ (2 ^ f.ps.length)) ∧ (J (curS (usedN f f.ps.length) (2 ^ f.ps.length) z s).length A3) ∧ mz = (2 ^ f.ps.length) - s ∧ σ = (sg [(0, .abs), (1, .ptr [.ptr [.p (.list (f.ps.map pS)), .p (.int .i64 f.el), .p (.int .i64 f.eh), .p (.int .i64 f.nl), .p (.int .i64 f.nh), .p (.int .i64 f.dl), .p (.int .i64 f.dh), .p (.int .i64 f.dep), .p (.int .i64 f.tm), .p (.int .i64 f.gp), .p (.int .u64 (usedN f f.ps.length : Nat))]]), (3, .p (.int .i64 (z : Nat))), (10, .p (.int .i64 ((pop (usedN f f.ps.length) : Int) + 1))), (11, .p (.int .i64 (z : Nat))), (16, .p (.int .u64 ((2 ^ f.ps.length) : Nat))), (17, .p (.int .u64 (s : Nat)))] [] A3 [] : Sg E)) ?_ (fun mz σ hI => ?_)
    · refine lbeg [0, 1, 3, 10, 11, 16, 17] (hV := ?_)
      exact ⟨_, 0, A2, by omega, hJ, rfl, sgE rfl rfl⟩
    obtain ⟨s, A3, hs, hJ2, hn2, rfl⟩ := hI
    repeat refine gwp_seq ?_
    refine gwp_region ?_
    refine v0 (k := ?_)
    refine nil0 ?_
    repeat refine gwp_seq ?_
    refine cB (k1 := fun hb2 => ?_) (k0 := fun hb2 => ?_)
    · replace hb2 := hB.h {} hb2
      try rw [eqI] at hb2
      repeat refine gwp_seq ?_
      refine gwp_skip ?_
      refine cl [0, 1, 3, 10, 11, 16, 17] (k := ?_)
      repeat refine gwp_seq ?_
      refine gwp_block ?_
      repeat refine gwp_seq ?_
      have hws : IntKind.u64.wrap ((s : Nat) + 1) = ((s + 1 : Nat) : Int) := IntWalk.u64_in _ (by omega)
      have han := bitop_andNot_u64 s (usedN f f.ps.length) (by omega) (by omega)
      refine gwp_region ?_
      refine v0 (k := ?_)
      refine v0 (k := ?_)
      refine nil0 ?_
      refine cl [0, 1, 3, 4, 10, 11, 16, 17] (k := ?_)
      repeat refine gwp_seq ?_
      refine gwp_region ?_
      refine v0 (k := ?_)
      refine v0 (k := ?_)
      refine v0 (k := ?_)
      refine v0 (k := ?_)
      refine v0 (k := ?_)
      refine v0 (k := ?_)
      refine v0 (k := ?_)
      refine v0 (k := ?_)
      refine b0 (k1 := fun hb3 => ?_) (k0 := fun hb3 => ?_)
      · replace hb3 := hB.h {} hb3
        try rw [eqI] at hb3
        refine x0 (k := ?_)
        refine x0 (k := ?_)
        refine x0 (k := ?_)
        refine x0 (k := ?_)
        refine v0 (k := ?_)
        refine nil0 ?_
        repeat refine gwp_seq ?_
        refine cT (k := ?_)
        repeat refine gwp_seq ?_
        refine gwp_exit ?_
        repeat (first | refine gthen_exit ?_ | refine gnoGoto_exit ?_ | refine gblock_here ?_ | refine gblock_out rfl ?_)
        refine cl [0, 1, 3, 10, 11, 16, 17] (k := ?_)
        repeat refine gwp_seq ?_
        refine gwp_region ?_
        refine v1 (hc := kVg1.h {}) (k := ?_)
        refine v0 (k := ?_)
        refine nil0 ?_
        refine lend [0, 1, 3, 10, 11, 16, 17] (h := ?_) (hV := ?_) (n' := (2 ^ f.ps.length) - (s + 1))
        · omega
        first
        | (obtain rfl : b = true := by simp_all
           exact ⟨s + 1, A3, by omega, by rw [curS_next (ok_t (by omega) (by omega)), List.length_append]; exact hy2, rfl, sgE rfl rfl⟩)
        | exact ⟨s + 1, A3, by omega, by rw [curS_skip (ok_f1 (by omega))]; exact hJ2, rfl, sgE rfl rfl⟩
        | exact ⟨s + 1, A3, by omega, by rw [curS_skip (ok_f2 (by omega))]; exact hJ2, rfl, sgE rfl rfl⟩
      replace hb3 := hB.h {} hb3
      try rw [eqI] at hb3
      refine w0 (k := ?_)
      refine pcw (spec := s_size s (by omega)) (hent := ent54) (k := ?_)
      refine w0 (k := ?_)
      refine w0 (k := ?_)
      refine v0 (k := ?_)
      refine nil0 ?_
      repeat refine gwp_seq ?_
      refine cB (k1 := fun hb4 => ?_) (k0 := fun hb4 => ?_)
      · replace hb4 := hB.h {} hb4
        try rw [eqI] at hb4
        repeat refine gwp_seq ?_
        refine gwp_exit ?_
        repeat (first | refine gthen_exit ?_ | refine gnoGoto_exit ?_ | refine gblock_here ?_ | refine gblock_out rfl ?_)
        refine cl [0, 1, 3, 10, 11, 16, 17] (k := ?_)
        repeat refine gwp_seq ?_
        refine gwp_region ?_
        refine v1 (hc := kVg1.h {}) (k := ?_)
        refine v0 (k := ?_)
        refine nil0 ?_
        refine lend [0, 1, 3, 10, 11, 16, 17] (h := ?_) (hV := ?_) (n' := (2 ^ f.ps.length) - (s + 1))
        · omega
        first
        | (obtain rfl : b = true := by simp_all
           exact ⟨s + 1, A3, by omega, by rw [curS_next (ok_t (by omega) (by omega)), List.length_append]; exact hy2, rfl, sgE rfl rfl⟩)
        | exact ⟨s + 1, A3, by omega, by rw [curS_skip (ok_f1 (by omega))]; exact hJ2, rfl, sgE rfl rfl⟩
        | exact ⟨s + 1, A3, by omega, by rw [curS_skip (ok_f2 (by omega))]; exact hJ2, rfl, sgE rfl rfl⟩
      replace hb4 := hB.h {} hb4
      try rw [eqI] at hb4
      repeat refine gwp_seq ?_
      refine gwp_skip ?_
      refine cl [0, 1, 3, 4, 10, 11, 16, 17] (k := ?_)
      repeat refine gwp_seq ?_
      refine gwp_region ?_
      refine v0 (k := ?_)
      refine v0 (k := ?_)
      refine y0 (xs := [P.int .u64 (s : Nat)]) (hcan := ?_) (k := fun b A3 hY => ?_) (kp := fun p A3 hY => ?_)
      · exact hcan _ _ _ hJ2 (by rw [List.getElem?_map, setsL, curS_at (by omega) (by omega) (ok_t (by omega) (by omega))]; rfl)
      · have hy2 := hy _ _ _ _ _ hJ2 (by rw [List.getElem?_map, setsL, curS_at (by omega) (by omega) (ok_t (by omega) (by omega))]; rfl) hY
        refine v0 (k := ?_)
        refine nil0 ?_
        repeat refine gwp_seq ?_
        refine cB (k1 := fun hb5 => ?_) (k0 := fun hb5 => ?_)
        · replace hb5 := hB.h {} hb5
          try rw [eqI] at hb5
          repeat refine gwp_seq ?_
          refine gwp_ret ?_
          repeat (first | refine gthen_ret ?_ | refine gblock_ret ?_ | refine gnoGoto_ret ?_)
          refine fin_ret ?_
          refine fp0 (hR := ?_)
          first
          | (obtain rfl : b = false := by simp_all
             exact ⟨_, _, _, rfl, .inr hy2⟩)
          | (obtain rfl : z = pop (usedN f f.ps.length) + 1 := by omega
             exact ⟨_, _, _, rfl, .inl (by rw [List.length_map, setsL, ← curS_zero]; exact hJ)⟩)
        replace hb5 := hB.h {} hb5
        try rw [eqI] at hb5
        repeat refine gwp_seq ?_
        refine gwp_skip ?_
        refine cl [0, 1, 3, 10, 11, 16, 17] (k := ?_)
        repeat refine gwp_seq ?_
        refine gwp_region ?_
        refine v1 (hc := kVg1.h {}) (k := ?_)
        refine v0 (k := ?_)
        refine nil0 ?_
        refine lend [0, 1, 3, 10, 11, 16, 17] (h := ?_) (hV := ?_) (n' := (2 ^ f.ps.length) - (s + 1))
        · omega
        first
        | (obtain rfl : b = true := by simp_all
           exact ⟨s + 1, A3, by omega, by rw [curS_next (ok_t (by omega) (by omega)), List.length_append]; exact hy2, rfl, sgE rfl rfl⟩)
        | exact ⟨s + 1, A3, by omega, by rw [curS_skip (ok_f1 (by omega))]; exact hJ2, rfl, sgE rfl rfl⟩
        | exact ⟨s + 1, A3, by omega, by rw [curS_skip (ok_f2 (by omega))]; exact hJ2, rfl, sgE rfl rfl⟩
      exact (hy _ _ _ _ _ hJ2 (by rw [List.getElem?_map, setsL, curS_at (by omega) (by omega) (ok_t (by omega) (by omega))]; rfl) hY).elim
    replace hb2 := hB.h {} hb2
    try rw [eqI] at hb2
    repeat refine gwp_seq ?_
    refine gwp_exit ?_
    repeat (first | refine gthen_exit ?_ | refine gnoGoto_exit ?_ | refine gblock_here ?_ | refine gblock_out rfl ?_)
    refine cl [0, 1, 10, 11] (k := ?_)
    repeat refine gwp_seq ?_
    refine gwp_region ?_
    refine v1 (hc := kVg1.h {}) (k := ?_)
    refine v0 (k := ?_)
    refine nil0 ?_
    refine lend [0, 1, 10, 11] (h := ?_) (hV := ?_) (n' := pop (usedN f f.ps.length) + 1 - (z + 1))
    · omega
    have e9 : s = 2 ^ f.ps.length := by omega
    rw [e9] at hJ2
    exact ⟨z + 1, A3, by omega, by rw [← curS_row]; exact hJ2, rfl, rfl⟩
  replace hb1 := hB.h {} hb1
  try rw [eqI] at hb1
  repeat refine gwp_seq ?_
  refine gwp_exit ?_
  repeat (first | refine gthen_exit ?_ | refine gnoGoto_exit ?_ | refine gblock_here ?_ | refine gblock_out rfl ?_)
  try refine gnoGoto_normal ?_
  refine fin_normal ?_
  refine fp0 (hR := ?_)
  first
  | (obtain rfl : b = false := by simp_all
     exact ⟨_, _, _, rfl, .inr hy2⟩)
  | (obtain rfl : z = pop (usedN f f.ps.length) + 1 := by omega
     exact ⟨_, _, _, rfl, .inl (by rw [List.length_map, setsL, ← curS_zero]; exact hJ)⟩)
theorem ent50 : Enters Try.prog 50 := Enters.mk Try.func50 (by kernel_rfl) rfl
theorem s_sets {E : Env Try.prog} {A : E.α} (f : Fd) : Gh.Spec E 50 [.ptr [.p (.list (f.ps.map pS)), .p (.int .i64 f.el), .p (.int .i64 f.eh), .p (.int .i64 f.nl), .p (.int .i64 f.nh), .p (.int .i64 f.dl), .p (.int .i64 f.dh), .p (.int .i64 f.dep), .p (.int .i64 f.tm), .p (.int .i64 f.gp), .p (.int .u64 (usedN f f.ps.length : Nat))]] (mkHp []) A (fun y => y = .ok (.fn (.func 77) [] [.ptr [.ptr [.p (.list (f.ps.map pS)), .p (.int .i64 f.el), .p (.int .i64 f.eh), .p (.int .i64 f.nl), .p (.int .i64 f.nh), .p (.int .i64 f.dl), .p (.int .i64 f.dh), .p (.int .i64 f.dep), .p (.int .i64 f.tm), .p (.int .i64 f.gp), .p (.int .u64 (usedN f f.ps.length : Nat))]]]) (mkHp []) A) := by
  refine spec_of Try.func50 (rfl : Try.f50.body = some _) (Nat.le_of_ble_eq_true rfl) (fun id h => ?_) (fun j id h => ?_) ?_
  · exact wf1x h
  · exact wf2x h
  intro C hN hL
  replace hN : C.N = 4 := hN
  simp only [Gh.num, List.map_cons, List.map_nil, Nat.reduceAdd]
  repeat refine gwp_seq ?_
  refine gwp_region ?_
  refine n1 110 false (hc := kVg1.h {}) (k := ?_)
  refine v0 (k := ?_)
  refine nil0 ?_
  refine cl [1] (k := ?_)
  repeat refine gwp_seq ?_
  refine gwp_region ?_
  refine v0 (k := ?_)
  refine v0 (k := ?_)
  refine nil0 ?_
  repeat refine gwp_seq ?_
  refine fz 110 1 [.k] (k := ?_)
  refine cv 2 (.f [.n [.k]]) (k := ?_)
  refine gwp_ret ?_
  repeat (first | refine gthen_ret ?_ | refine gblock_ret ?_ | refine gnoGoto_ret ?_)
  refine fin_ret ?_
  refine fh [] (hR := ?_)
  rfl
end Go.Proofs.Ytabeeaiilanmjaa

/- Rules of written-out states: a look at a map whose answer is told. -/
namespace Go.Proofs.Ytabeeaiilanmjaa
open Go.Gh
set_option maxRecDepth 100000
structure eM1 {α : Type} (a b : α) : Prop where
  h : a = b := by (simp only [ti_3, ti_4, ti_5, ti_9, ti_20, ti_22, ti_24, ti_26, ti_29, ti_37, ti_42, ti_44, ti_45, ti_48, ti_50, ti_51, ti_52, ti_55, ti_60, ti_61, ti_62, ti_63, ti_65, ti_66, ti_71, ti_73, ti_74, ti_75, ti_78, ti_79, ti_83, ti_85, ti_86, ti_90, ti_100, ti_102, ti_103, ti_105, ti_106, ti_108, ti_111, ti_114, ti_115, ti_117, ti_120, ti_125, ti_127, ti_130, ti_136, ti_140, ti_142] <;> rfl)
variable {E : Env Try.prog} {C : Cx E} {r : Option Nat} {ops : Array Oper} {Q : GE → Sg E → Prop} {rest lst : List Oper} {l l' : List (Nat × G)} {m : List (Nat × Ob)} {A : E.α} {df : List GD}
variable {t : Nat} {op : Op} {ty : TypeId} {pos : String} {af : Array Edge} {c : Prop} {g : G} {ob : Ob} {i j : Nat}
variable {lo : Nat} {σ0 : Sg E} {ids ids' : List (List Nat × List Nat)} {I : List Nat}
theorem eff_look {mt kt vt : TypeId} {x k0 : Operand} {ok : Bool} {iid : Nat} {kp : P} {es : List (P × P)} {b : Bool} {ii z : TI} {o : Oper} (ho : o.op = .lookup mt x k0 ok) (hw : gwant ops (mkFr l) o = some true) (hti : ti Try.prog mt = some ii) (hd : ii.desc = .map kt vt) (hz : ti Try.prog vt = some z)
    (hm : gev (mkFr l) x = .map iid) (hk : gev (mkFr l) k0 = .p kp) (hh : mkHp m iid = .map es) (hv : orZero (zeroG z) (mapGet (geq Try.prog 6 kt) kp es) = some (b, g)) (hkk : keysOk (geq Try.prog 6 kt) kp es) (hd0 : mkHp m 99999 = .none) (ht : ∀ t, o.dst = some t → t < C.N) :
    Eff C r ops o (sg l m A df) [99999, iid] (if ok = true then mkTuple [g, .p (.bool b)] else g) [] :=
  eff_op (mu := false) (d := 99999) (I := [iid]) (c := keysOk (geq Try.prog 6 kt) kp es) (out := ⟨if ok = true then mkTuple [g, .p (.bool b)] else g, none⟩) hw (by simp only [ho, gsem, hti, hd, hz, glookup, hm, hk, rhp, List.mem_singleton, if_true, hh, hv]) hkk hd0 (by have := C.limOk; omega) (fun p e => by cases e) ht
theorem vl {mt kt vt : TypeId} {x k0 : Operand} {ok : Bool} {iid : Nat} {kp : P} {es : List (P × P)} {b : Bool} {ii z : TI} {g' : G}
    (hti : ti Try.prog mt = some ii := by exact eM1.h {}) (hd : ii.desc = .map kt vt := by rfl) (hz : ti Try.prog vt = some z := by exact eM1.h {}) (hm : gev (mkFr l) x = .map iid := by (simp only [gev, mkFr_cons, Nat.reduceEqDiff, reduceIte] <;> rfl)) (hk : gev (mkFr l) k0 = .p kp := by (simp only [gev, mkFr_cons, Nat.reduceEqDiff, reduceIte] <;> rfl)) (hh : mkHp m iid = .map es := by (simp only [mkHp_cons, mkHp_nil, Nat.reduceEqDiff, reduceIte] <;> rfl))
    (hv : orZero (zeroG z) (mapGet (geq Try.prog 6 kt) kp es) = some (b, g)) (hkk : keysOk (geq Try.prog 6 kt) kp es) (hd0 : mkHp m 99999 = .none := by (simp only [mkHp_cons, mkHp_nil, Nat.reduceEqDiff, reduceIte])) (ht : t < C.N := by omega) (hg' : (if ok = true then mkTuple [g, .p (.bool b)] else g) = g' := by rfl)
    (k : gops C r ops Q rest (sg ((t, g') :: l) m A df)) : gops C r ops Q (⟨some t, .lookup mt x k0 ok, ty, pos, af, none⟩ :: rest) (sg l m A df) := by
  subst hg'
  exact gops_eff (eff_look (C := C) rfl (gwant_plain rfl) hti hd hz hm hk hh hv hkk hd0 (fun t' e => by cases e; exact ht)) k
theorem dl (n : Nat) {mt kt vt : TypeId} {x k0 : Operand} {ok : Bool} {iid : Nat} {kp : P} {es : List (P × P)} {b : Bool} {ii z : TI} {g' : G} (hn : ids.length = n := by rfl) (ho : ops[lo + n]? = some ⟨some t, .lookup mt x k0 ok, ty, pos, af, none⟩ := by rfl)
    (hti : ti Try.prog mt = some ii := by exact eM1.h {}) (hd : ii.desc = .map kt vt := by rfl) (hz : ti Try.prog vt = some z := by exact eM1.h {}) (hm : gev (mkFr l) x = .map iid := by (simp only [gev, mkFr_cons, Nat.reduceEqDiff, reduceIte] <;> rfl)) (hk : gev (mkFr l) k0 = .p kp := by (simp only [gev, mkFr_cons, Nat.reduceEqDiff, reduceIte] <;> rfl)) (hh : mkHp m iid = .map es := by (simp only [mkHp_cons, mkHp_nil, Nat.reduceEqDiff, reduceIte] <;> rfl))
    (hv : orZero (zeroG z) (mapGet (geq Try.prog 6 kt) kp es) = some (b, g)) (hkk : keysOk (geq Try.prog 6 kt) kp es) (hd0 : mkHp m 99999 = .none := by (simp only [mkHp_cons, mkHp_nil, Nat.reduceEqDiff, reduceIte])) (ht : t < C.N := by omega) (hg' : (if ok = true then mkTuple [g, .p (.bool b)] else g) = g' := by rfl)
    (hids : ids ++ [([99999, iid], [])] = ids' := by (simp only [List.cons_append, List.nil_append] <;> rfl)) (k : segK C r ops (GPost C Q) lo σ0 ids' (sg ((t, g') :: l) m A df)) : segK C r ops (GPost C Q) lo σ0 ids (sg l m A df) := by
  subst hg'
  exact segK.step (pi := []) hn ho (eff_look (C := C) rfl (gwant_plain rfl) hti hd hz hm hk hh hv hkk hd0 (fun t' e => by cases e; exact ht)) rfl (by rw [hids]; exact k)
end Go.Proofs.Ytabeeaiilanmjaa

/- The program: Useful, Served, Shortest. -/
namespace Go.Proofs.Ytabeeaiilanmjaa
open Go.Gh
set_option maxRecDepth 100000
set_option maxHeartbeats 4000000
structure kVh1 (c : Prop) : Prop where
  h : c := by (first | exact True.intro | omega | (simp only [inI]; omega) | (simp [P.size, pS, all_int, allOne_p, goods_p, allOne, goods, good, G.one, P.one, P.cells] <;> first | omega | assumption | simp_all))
theorem and3 {a b c : Bool} (h : (a && (b && c)) = false) : a = false ∨ (a = true ∧ b = false) ∨ (a = true ∧ b = true ∧ c = false) := by cases a <;> cases b <;> cases c <;> simp_all
theorem ent49 : Enters Try.prog 49 := Enters.mk Try.func49 (by kernel_rfl) rfl
theorem s_first_t {E : Env Try.prog} {A : E.α} (f : Fd) (hv : f.valid = true) (w : Nat) (hw : (setsL f).find? (listQ f) = some w) : Gh.Spec E 49 [.fn (.func 77) [] [.ptr [.ptr [.p (.list (f.ps.map pS)), .p (.int .i64 f.el), .p (.int .i64 f.eh), .p (.int .i64 f.nl), .p (.int .i64 f.nh), .p (.int .i64 f.dl), .p (.int .i64 f.dh), .p (.int .i64 f.dep), .p (.int .i64 f.tm), .p (.int .i64 f.gp), .p (.int .u64 (usedN f f.ps.length : Nat))]]], .fn (.func 78) [] [.ptr [.p (.list ((kindsL f).map fun s : Nat => P.int .u64 (s : Int)))], .ptr [.ptr [.p (.list (f.ps.map pS)), .p (.int .i64 f.el), .p (.int .i64 f.eh), .p (.int .i64 f.nl), .p (.int .i64 f.nh), .p (.int .i64 f.dl), .p (.int .i64 f.dh), .p (.int .i64 f.dep), .p (.int .i64 f.tm), .p (.int .i64 f.gp)]]]] (mkHp []) A (fun y => y = .ok (.p (.int .u64 (w : Nat))) (mkHp []) A) := by
  refine specD_of Try.func49 (rfl : Try.f49.body = some _) (Nat.le_of_ble_eq_true rfl) (fun id h => ?_) (fun j id h => ?_) ?_
  · exact wf1x h
  · exact wf2x h
  intro C hN hL
  replace hN : C.N = 14 := hN
  simp only [Gh.num, List.map_cons, List.map_nil, Nat.reduceAdd]
  have hn := valid_num hv
  repeat refine gwp_seq ?_
  refine gwp_region ?_
  refine n1 130 false (hc := kVh1.h {}) (k := ?_)
  refine n1 140 false (hc := kVh1.h {}) (k := ?_)
  refine nil0 ?_
  refine cl [0, 3, 4] (k := ?_)
  repeat refine gwp_seq ?_
  refine gwp_region ?_
  refine v0 (k := ?_)
  refine nil0 ?_
  refine cl [3, 4, 6] (k := ?_)
  repeat refine gwp_seq ?_
  refine gwp_block ?_
  repeat refine gwp_seq ?_
  refine rf 10000 99001 [7] (fun k (_ : Nat) A1 => (∀ x ∈ (setsL f).take k, listQ f x = false) ∧ A1 = A) (fun _ => [(130, .cells [.fn (.func 78) [] [.ptr [.p (.list ((kindsL f).map fun s : Nat => P.int .u64 (s : Int)))], .ptr [.ptr [.p (.list (f.ps.map pS)), .p (.int .i64 f.el), .p (.int .i64 f.eh), .p (.int .i64 f.nl), .p (.int .i64 f.nh), .p (.int .i64 f.dl), .p (.int .i64 f.dh), .p (.int .i64 f.dep), .p (.int .i64 f.tm), .p (.int .i64 f.gp)]]]] 0), (140, .cells [.p (.int .u64 0)] 0)]) (fun e z A1 => e = .ret ∧ (setsL f).find? (listQ f) = some z ∧ A1 = A) (fun _ z => [(130, .cells [.fn (.func 78) [] [.ptr [.p (.list ((kindsL f).map fun s : Nat => P.int .u64 (s : Int)))], .ptr [.ptr [.p (.list (f.ps.map pS)), .p (.int .i64 f.el), .p (.int .i64 f.eh), .p (.int .i64 f.nl), .p (.int .i64 f.nh), .p (.int .i64 f.dl), .p (.int .i64 f.dh), .p (.int .i64 f.dep), .p (.int .i64 f.tm), .p (.int .i64 f.gp)]]]] 0), (140, .cells [.p (.int .u64 (z : Nat))] 0)]) [] [.k] (it := it_sets f hv) (hent := ent77) (xs := ((setsL f).map fun s : Nat => [P.int .u64 (s : Int)])) (hlen := fun x hx => by obtain ⟨w, _, rfl⟩ := List.mem_map.1 hx; rfl) (h0 := ?_) (round := fun k z A1 x hI hx lp bs C1 hN1 hL1 => ?_) (hK := fun e z A1 hK => ?_) (hI := fun z A1 hI => ?_)
  · exact ⟨0, ⟨fun x hx => by simp at hx, rfl⟩, rfl⟩
  · obtain ⟨hfa, rfl⟩ := hI
    rw [List.getElem?_map] at hx
    obtain ⟨s, hs, rfl⟩ := Option.map_eq_some_iff.1 hx
    have hsl := sets_lt (f := f) (by omega) s (List.mem_of_getElem? hs)
    replace hN1 : C1.N = 14 := hN1.trans hN
    refine (?_ : gwp C1 (some lp) _ _ (sg ((7, .p (.int .u64 (s : Nat))) :: _) [(130, .cells [.fn (.func 78) [] [.ptr [.p (.list ((kindsL f).map fun s : Nat => P.int .u64 (s : Int)))], .ptr [.ptr [.p (.list (f.ps.map pS)), .p (.int .i64 f.el), .p (.int .i64 f.eh), .p (.int .i64 f.nl), .p (.int .i64 f.nh), .p (.int .i64 f.dl), .p (.int .i64 f.dh), .p (.int .i64 f.dep), .p (.int .i64 f.tm), .p (.int .i64 f.gp)]]]] 0), (140, .cells [.p (.int .u64 0)] 0)] A1 []))
    repeat refine gwp_seq ?_
    refine gwp_region ?_
    refine v0 (k := ?_)
    refine nil0 ?_
    refine ⟨rfl, fun bs2 C2 hN2 hL2 hr2 => ?_⟩
    replace hN2 : C2.N = 14 := hN2.trans hN
    refine (?_ : gwp C2 (some lp) _ _ (sg _ _ _ []))
    repeat refine gwp_seq ?_
    refine gwp_block ?_
    repeat refine gwp_seq ?_
    refine gwp_region ?_
    refine v0 (k := ?_)
    refine v0 (k := ?_)
    refine oc0 [] [] [0, 0, 0] none (spec := s_isList f hv s hsl) (hent := ent78) (k := ?_)
    refine nil0 ?_
    repeat refine gwp_seq ?_
    refine cB (k1 := fun hb1 => ?_) (k0 := fun hb1 => ?_)
    · replace hb1 := hB.h {} hb1
      try rw [eqI] at hb1
      repeat refine gwp_seq ?_
      refine gwp_region ?_
      refine v0 (k := ?_)
      refine s1 (hc := kVh1.h {}) (k := ?_)
      refine nil0 ?_
      repeat refine gwp_seq ?_
      refine gwp_ret ?_
      repeat (first | refine gthen_ret ?_ | refine gblock_ret ?_ | refine gnoGoto_ret ?_)
      refine ⟨_, s, lc [130, 140], rfl, rfl, find_at hfa hs (by assumption), rfl⟩
    replace hb1 := hB.h {} hb1
    try rw [eqI] at hb1
    repeat refine gwp_seq ?_
    refine gwp_skip ?_
    refine ⟨_, 0, lc [130, 140], rfl, find_step hfa hs (by assumption), rfl⟩
  · obtain ⟨rfl, hz, rfl⟩ := hK
    obtain rfl : w = z := by rw [hw] at hz; exact Option.some.inj hz
    repeat (first | refine gthen_ret ?_ | refine gblock_ret ?_ | refine gnoGoto_ret ?_)
    refine finD_ret ?_
    try refine om (h3 := by simp [hpIds, obIdl, G.idl, G.idls, idls_p, mkHp_cons, mkHp_nil]) (h := ?_)
    refine out_nil ?_
    refine fp (hR := ?_)
    rfl
  obtain ⟨hfa, rfl⟩ := hI
  rw [List.length_map, List.take_length] at hfa
  rw [find_no hfa] at hw
  cases hw
theorem s_first_n {E : Env Try.prog} {A : E.α} (f : Fd) (hv : f.valid = true) (hw : (setsL f).find? (listQ f) = none) : Gh.Spec E 49 [.fn (.func 77) [] [.ptr [.ptr [.p (.list (f.ps.map pS)), .p (.int .i64 f.el), .p (.int .i64 f.eh), .p (.int .i64 f.nl), .p (.int .i64 f.nh), .p (.int .i64 f.dl), .p (.int .i64 f.dh), .p (.int .i64 f.dep), .p (.int .i64 f.tm), .p (.int .i64 f.gp), .p (.int .u64 (usedN f f.ps.length : Nat))]]], .fn (.func 78) [] [.ptr [.p (.list ((kindsL f).map fun s : Nat => P.int .u64 (s : Int)))], .ptr [.ptr [.p (.list (f.ps.map pS)), .p (.int .i64 f.el), .p (.int .i64 f.eh), .p (.int .i64 f.nl), .p (.int .i64 f.nh), .p (.int .i64 f.dl), .p (.int .i64 f.dh), .p (.int .i64 f.dep), .p (.int .i64 f.tm), .p (.int .i64 f.gp)]]]] (mkHp []) A (fun y => y = .panic (.iface 100 (.agg [.int .i64 4])) (mkHp []) A) := by
  refine specD_of Try.func49 (rfl : Try.f49.body = some _) (Nat.le_of_ble_eq_true rfl) (fun id h => ?_) (fun j id h => ?_) ?_
  · exact wf1x h
  · exact wf2x h
  intro C hN hL
  replace hN : C.N = 14 := hN
  simp only [Gh.num, List.map_cons, List.map_nil, Nat.reduceAdd]
  have hn := valid_num hv
  repeat refine gwp_seq ?_
  refine gwp_region ?_
  refine n1 130 false (hc := kVh1.h {}) (k := ?_)
  refine n1 140 false (hc := kVh1.h {}) (k := ?_)
  refine nil0 ?_
  refine cl [0, 3, 4] (k := ?_)
  repeat refine gwp_seq ?_
  refine gwp_region ?_
  refine v0 (k := ?_)
  refine nil0 ?_
  refine cl [3, 4, 6] (k := ?_)
  repeat refine gwp_seq ?_
  refine gwp_block ?_
  repeat refine gwp_seq ?_
  refine rf 10000 99001 [7] (fun k (_ : Nat) A1 => (∀ x ∈ (setsL f).take k, listQ f x = false) ∧ A1 = A) (fun _ => [(130, .cells [.fn (.func 78) [] [.ptr [.p (.list ((kindsL f).map fun s : Nat => P.int .u64 (s : Int)))], .ptr [.ptr [.p (.list (f.ps.map pS)), .p (.int .i64 f.el), .p (.int .i64 f.eh), .p (.int .i64 f.nl), .p (.int .i64 f.nh), .p (.int .i64 f.dl), .p (.int .i64 f.dh), .p (.int .i64 f.dep), .p (.int .i64 f.tm), .p (.int .i64 f.gp)]]]] 0), (140, .cells [.p (.int .u64 0)] 0)]) (fun e z A1 => e = .ret ∧ (setsL f).find? (listQ f) = some z ∧ A1 = A) (fun _ z => [(130, .cells [.fn (.func 78) [] [.ptr [.p (.list ((kindsL f).map fun s : Nat => P.int .u64 (s : Int)))], .ptr [.ptr [.p (.list (f.ps.map pS)), .p (.int .i64 f.el), .p (.int .i64 f.eh), .p (.int .i64 f.nl), .p (.int .i64 f.nh), .p (.int .i64 f.dl), .p (.int .i64 f.dh), .p (.int .i64 f.dep), .p (.int .i64 f.tm), .p (.int .i64 f.gp)]]]] 0), (140, .cells [.p (.int .u64 (z : Nat))] 0)]) [] [.k] (it := it_sets f hv) (hent := ent77) (xs := ((setsL f).map fun s : Nat => [P.int .u64 (s : Int)])) (hlen := fun x hx => by obtain ⟨w, _, rfl⟩ := List.mem_map.1 hx; rfl) (h0 := ?_) (round := fun k z A1 x hI hx lp bs C1 hN1 hL1 => ?_) (hK := fun e z A1 hK => ?_) (hI := fun z A1 hI => ?_)
  · exact ⟨0, ⟨fun x hx => by simp at hx, rfl⟩, rfl⟩
  · obtain ⟨hfa, rfl⟩ := hI
    rw [List.getElem?_map] at hx
    obtain ⟨s, hs, rfl⟩ := Option.map_eq_some_iff.1 hx
    have hsl := sets_lt (f := f) (by omega) s (List.mem_of_getElem? hs)
    replace hN1 : C1.N = 14 := hN1.trans hN
    refine (?_ : gwp C1 (some lp) _ _ (sg ((7, .p (.int .u64 (s : Nat))) :: _) [(130, .cells [.fn (.func 78) [] [.ptr [.p (.list ((kindsL f).map fun s : Nat => P.int .u64 (s : Int)))], .ptr [.ptr [.p (.list (f.ps.map pS)), .p (.int .i64 f.el), .p (.int .i64 f.eh), .p (.int .i64 f.nl), .p (.int .i64 f.nh), .p (.int .i64 f.dl), .p (.int .i64 f.dh), .p (.int .i64 f.dep), .p (.int .i64 f.tm), .p (.int .i64 f.gp)]]]] 0), (140, .cells [.p (.int .u64 0)] 0)] A1 []))
    repeat refine gwp_seq ?_
    refine gwp_region ?_
    refine v0 (k := ?_)
    refine nil0 ?_
    refine ⟨rfl, fun bs2 C2 hN2 hL2 hr2 => ?_⟩
    replace hN2 : C2.N = 14 := hN2.trans hN
    refine (?_ : gwp C2 (some lp) _ _ (sg _ _ _ []))
    repeat refine gwp_seq ?_
    refine gwp_block ?_
    repeat refine gwp_seq ?_
    refine gwp_region ?_
    refine v0 (k := ?_)
    refine v0 (k := ?_)
    refine oc0 [] [] [0, 0, 0] none (spec := s_isList f hv s hsl) (hent := ent78) (k := ?_)
    refine nil0 ?_
    repeat refine gwp_seq ?_
    refine cB (k1 := fun hb1 => ?_) (k0 := fun hb1 => ?_)
    · replace hb1 := hB.h {} hb1
      try rw [eqI] at hb1
      repeat refine gwp_seq ?_
      refine gwp_region ?_
      refine v0 (k := ?_)
      refine s1 (hc := kVh1.h {}) (k := ?_)
      refine nil0 ?_
      repeat refine gwp_seq ?_
      refine gwp_ret ?_
      repeat (first | refine gthen_ret ?_ | refine gblock_ret ?_ | refine gnoGoto_ret ?_)
      refine ⟨_, s, lc [130, 140], rfl, rfl, find_at hfa hs (by assumption), rfl⟩
    replace hb1 := hB.h {} hb1
    try rw [eqI] at hb1
    repeat refine gwp_seq ?_
    refine gwp_skip ?_
    refine ⟨_, 0, lc [130, 140], rfl, find_step hfa hs (by assumption), rfl⟩
  · obtain ⟨rfl, hz, rfl⟩ := hK
    rw [hw] at hz
    cases hz
  obtain ⟨hfa, rfl⟩ := hI
  refine cl [4] (k := ?_)
  repeat refine gwp_seq ?_
  refine gwp_region ?_
  refine v0 (k := ?_)
  refine v0 (k := ?_)
  refine pn0 (k := ?_)
  repeat (first | refine gthen_panic ?_ | refine gblock_panic ?_)
  refine finD_panic ?_
  try refine om (h3 := by simp [hpIds, obIdl, G.idl, G.idls, idls_p, mkHp_cons, mkHp_nil]) (h := ?_)
  refine out_panic ?_
  rfl
theorem ent14 : Enters Try.prog 14 := Enters.mk Try.func14 (by kernel_rfl) rfl
theorem p_useful_t {E : Env Try.prog} {A : E.α} (f : Fd) (hv : f.valid = true) : Gh.Spec E 14 [.p (.agg [.list (f.ps.map pS), .int .i64 f.el, .int .i64 f.eh, .int .i64 f.nl, .int .i64 f.nh, .int .i64 f.dl, .int .i64 f.dh, .int .i64 f.dep, .int .i64 f.tm, .int .i64 f.gp])] (mkHp []) A (fun y => y = .ok (.p (.tuple [.int .i64 (usedN f f.ps.length : Nat), .int .i64 0])) (mkHp []) A) := by
  refine specD_of Try.func14 (rfl : Try.f14.body = some _) (Nat.le_of_ble_eq_true rfl) (fun id h => ?_) (fun j id h => ?_) ?_
  · exact wf1x h
  · exact wf2x h
  intro C hN hL
  replace hN : C.N = 10 := hN
  simp only [Gh.num, List.map_cons, List.map_nil, Nat.reduceAdd]
  have hn := valid_num hv
  have hu := used_lt f (k := f.ps.length) (by omega)
  repeat refine gwp_seq ?_
  refine gwp_region ?_
  refine n1 110 false (hc := kVh1.h {}) (k := ?_)
  refine v0 (k := ?_)
  refine n1 130 false (hc := kVh1.h {}) (k := ?_)
  refine nil0 ?_
  refine cl [1, 2, 3] (k := ?_)
  repeat refine gwp_seq ?_
  refine gwp_region ?_
  refine df0 (k := ?_)
  refine nil0 ?_
  refine cl [1, 2, 3] (k := ?_)
  repeat refine gwp_seq ?_
  refine gwp_region ?_
  refine v0 (k := ?_)
  refine oc0 [(220, 5000)] [] [0] none (spec := s_open_t f hv) (hent := ent40) (hgr := by (simp only [G.ren, G.rens, rens_p, Gh.look, Nat.reduceEqDiff, reduceIte] <;> rfl)) (k := ?_)
  refine v0 (k := ?_)
  refine v0 (k := ?_)
  refine v0 (k := ?_)
  refine v1 (hc := kVh1.h {}) (k := ?_)
  refine v0 (k := ?_)
  refine s1 (hc := kVh1.h {}) (k := ?_)
  refine nil0 ?_
  repeat refine gwp_seq ?_
  refine gwp_ret ?_
  repeat (first | refine gthen_ret ?_ | refine gblock_ret ?_ | refine gnoGoto_ret ?_)
  refine finD_ret ?_
  refine ocall [130] [(0, 130)] (spec := d_none 0) (hent := ent39) (h := ?_)
  refine out_nil ?_
  refine fp2 (hR := ?_)
  rfl
theorem p_useful_f {E : Env Try.prog} {A : E.α} (f : Fd) (hl : f.ps.length ≤ 1048576) (hv : f.valid = false) : Gh.Spec E 14 [.p (.agg [.list (f.ps.map pS), .int .i64 f.el, .int .i64 f.eh, .int .i64 f.nl, .int .i64 f.nh, .int .i64 f.dl, .int .i64 f.dh, .int .i64 f.dep, .int .i64 f.tm, .int .i64 f.gp])] (mkHp []) A (fun y => y = .ok (.p (.tuple [.int .i64 0, .int .i64 1])) (mkHp []) A) := by
  refine specD_of Try.func14 (rfl : Try.f14.body = some _) (Nat.le_of_ble_eq_true rfl) (fun id h => ?_) (fun j id h => ?_) ?_
  · exact wf1x h
  · exact wf2x h
  intro C hN hL
  replace hN : C.N = 10 := hN
  simp only [Gh.num, List.map_cons, List.map_nil, Nat.reduceAdd]
  repeat refine gwp_seq ?_
  refine gwp_region ?_
  refine n1 110 false (hc := kVh1.h {}) (k := ?_)
  refine v0 (k := ?_)
  refine n1 130 false (hc := kVh1.h {}) (k := ?_)
  refine nil0 ?_
  refine cl [1, 2, 3] (k := ?_)
  repeat refine gwp_seq ?_
  refine gwp_region ?_
  refine df0 (k := ?_)
  refine nil0 ?_
  refine cl [1, 2, 3] (k := ?_)
  repeat refine gwp_seq ?_
  refine gwp_region ?_
  refine v0 (k := ?_)
  refine op0 [] [] [0] none (spec := s_open_f f hl hv) (hent := ent40) (k := ?_)
  repeat (first | refine gthen_panic ?_ | refine gblock_panic ?_)
  refine finD_panic ?_
  refine ocall [130] [(0, 130)] (spec := d_some 0 1) (hent := ent39) (h := ?_)
  refine out_nil ?_
  refine fp2 (hR := ?_)
  rfl
theorem ent16 : Enters Try.prog 16 := Enters.mk Try.func16 (by kernel_rfl) rfl
theorem p_served_t {E : Env Try.prog} {A : E.α} (f : Fd) (hv : f.valid = true) (s : Nat) (a b : Int) (h1 : (inB (s : Nat) 0 (allS f.ps.length : Nat)) = true) (h2 : (inB a f.el f.eh) = true) (h3 : (inB b f.nl f.nh) = true) : Gh.Spec E 16 [.p (.agg [.list (f.ps.map pS), .int .i64 f.el, .int .i64 f.eh, .int .i64 f.nl, .int .i64 f.nh, .int .i64 f.dl, .int .i64 f.dh, .int .i64 f.dep, .int .i64 f.tm, .int .i64 f.gp]), .p (.int .i64 (s : Nat)), .p (.int .i64 a), .p (.int .i64 b)] (mkHp []) A (fun y => y = .ok (.p (.tuple [.bool (servQ f (atN f a b &&& s)), .int .i64 0])) (mkHp []) A) := by
  refine specD_of Try.func16 (rfl : Try.f16.body = some _) (Nat.le_of_ble_eq_true rfl) (fun id h => ?_) (fun j id h => ?_) ?_
  · exact wf1x h
  · exact wf2x h
  intro C hN hL
  replace hN : C.N = 50 := hN
  simp only [Gh.num, List.map_cons, List.map_nil, Nat.reduceAdd]
  have hn := valid_num hv
  have hs12 := allS_lt (n := f.ps.length) (by omega)
  have hq1 := h1
  have hq2 := h2
  have hq3 := h3
  simp only [inB, Bool.and_eq_true, decide_eq_true_eq] at hq1 hq2 hq3
  have hcw : IntKind.u64.wrap ((s : Nat) : Int) = ((s : Nat) : Int) := IntWalk.u64_in _ (by omega)
  have hpm : MK (plM f f.ps.length) := MK.pl _ (by omega)
  have hat := look_at hv (x := a) (y := b) (by omega) (by omega)
  have hlk := look_or hpm a b
  rw [hat] at hlk
  have hko := hpm.ok a b
  have hal := at_lt (f := f) (by omega) a b
  have hba := bitop_and_u64 (atN f a b) s (by omega) (by omega)
  repeat refine gwp_seq ?_
  refine gwp_region ?_
  refine n1 140 false (hc := kVh1.h {}) (k := ?_)
  refine v0 (k := ?_)
  refine n1 190 false (hc := kVh1.h {}) (k := ?_)
  refine nil0 ?_
  refine cl [1, 2, 3, 4, 8, 9] (k := ?_)
  repeat refine gwp_seq ?_
  refine gwp_region ?_
  refine df0 (k := ?_)
  refine nil0 ?_
  refine cl [1, 2, 3, 4, 8, 9] (k := ?_)
  repeat refine gwp_seq ?_
  refine gwp_region ?_
  refine v0 (k := ?_)
  refine oc0 [(220, 5000)] [] [0] none (spec := s_open_t f hv) (hent := ent40) (hgr := by (simp only [G.ren, G.rens, rens_p, Gh.look, Nat.reduceEqDiff, reduceIte] <;> rfl)) (k := ?_)
  refine v0 (k := ?_)
  refine nil0 ?_
  refine cl [1, 2, 3, 4, 8, 9, 10] (k := ?_)
  repeat refine gwp_seq ?_
  refine gwp_region ?_
  refine v0 (k := ?_)
  refine v0 (k := ?_)
  refine oc0 [] [] [4, 0] none (spec := s_isSet f (by omega) (s : Nat)) (hent := ent44) (k := ?_)
  refine rb 15 true (h := by (exact h1)) (k := ?_)
  refine v0 (k := ?_)
  refine w0 (k := ?_)
  refine w0 (k := ?_)
  refine w0 (k := ?_)
  refine w0 (k := ?_)
  refine w0 (k := ?_)
  refine w0 (k := ?_)
  refine w0 (k := ?_)
  refine pcw (spec := s_within a f.el f.eh) (hent := ent45) (k := ?_)
  refine rb 24 true (h := by (exact h2)) (k := ?_)
  refine v0 (k := ?_)
  refine v0 (k := ?_)
  refine w0 (k := ?_)
  refine w0 (k := ?_)
  refine w0 (k := ?_)
  refine w0 (k := ?_)
  refine w0 (k := ?_)
  refine w0 (k := ?_)
  refine w0 (k := ?_)
  refine pcw (spec := s_within b f.nl f.nh) (hent := ent45) (k := ?_)
  refine rb 34 true (h := by (exact h3)) (k := ?_)
  refine v0 (k := ?_)
  refine pc0 (spec := s_must_t _) (hent := ent43) (k := ?_)
  refine nil0 ?_
  refine cl [1, 2, 3, 8, 9, 10] (k := ?_)
  repeat refine gwp_seq ?_
  refine gwp_region ?_
  refine v0 (k := ?_)
  refine v0 (k := ?_)
  refine v0 (k := ?_)
  refine v0 (k := ?_)
  refine v0 (k := ?_)
  refine v0 (k := ?_)
  refine v0 (k := ?_)
  refine v0 (k := ?_)
  refine vl (hv := hlk) (hkk := hko) (k := ?_)
  refine v0 (k := ?_)
  refine v1 (hc := kVh1.h {}) (k := ?_)
  refine v0 (k := ?_)
  refine oc0 [] [] [13, 0] none (spec := s_serves f hv (atN f a b &&& s) (and_lt (by omega))) (hent := ent46) (k := ?_)
  refine v0 (k := ?_)
  refine s1 (hc := kVh1.h {}) (k := ?_)
  refine nil0 ?_
  repeat refine gwp_seq ?_
  refine gwp_ret ?_
  repeat (first | refine gthen_ret ?_ | refine gblock_ret ?_ | refine gnoGoto_ret ?_)
  refine finD_ret ?_
  refine ocall [190] [(0, 190)] (spec := d_none 0) (hent := ent39) (h := ?_)
  refine out_nil ?_
  refine fp2 (hR := ?_)
  rfl
theorem p_served_r {E : Env Try.prog} {A : E.α} (f : Fd) (hv : f.valid = true) (s a b : Int) (hq : (inB s 0 (allS f.ps.length : Nat) && (inB a f.el f.eh && inB b f.nl f.nh)) = false) : Gh.Spec E 16 [.p (.agg [.list (f.ps.map pS), .int .i64 f.el, .int .i64 f.eh, .int .i64 f.nl, .int .i64 f.nh, .int .i64 f.dl, .int .i64 f.dh, .int .i64 f.dep, .int .i64 f.tm, .int .i64 f.gp]), .p (.int .i64 s), .p (.int .i64 a), .p (.int .i64 b)] (mkHp []) A (fun y => y = .ok (.p (.tuple [.bool false, .int .i64 2])) (mkHp []) A) := by
  refine specD_of Try.func16 (rfl : Try.f16.body = some _) (Nat.le_of_ble_eq_true rfl) (fun id h => ?_) (fun j id h => ?_) ?_
  · exact wf1x h
  · exact wf2x h
  intro C hN hL
  replace hN : C.N = 50 := hN
  simp only [Gh.num, List.map_cons, List.map_nil, Nat.reduceAdd]
  have hn := valid_num hv
  repeat refine gwp_seq ?_
  refine gwp_region ?_
  refine n1 140 false (hc := kVh1.h {}) (k := ?_)
  refine v0 (k := ?_)
  refine n1 190 false (hc := kVh1.h {}) (k := ?_)
  refine nil0 ?_
  refine cl [1, 2, 3, 4, 8, 9] (k := ?_)
  repeat refine gwp_seq ?_
  refine gwp_region ?_
  refine df0 (k := ?_)
  refine nil0 ?_
  refine cl [1, 2, 3, 4, 8, 9] (k := ?_)
  repeat refine gwp_seq ?_
  refine gwp_region ?_
  refine v0 (k := ?_)
  refine oc0 [(220, 5000)] [] [0] none (spec := s_open_t f hv) (hent := ent40) (hgr := by (simp only [G.ren, G.rens, rens_p, Gh.look, Nat.reduceEqDiff, reduceIte] <;> rfl)) (k := ?_)
  refine v0 (k := ?_)
  refine nil0 ?_
  refine cl [1, 2, 3, 4, 8, 9, 10] (k := ?_)
  repeat refine gwp_seq ?_
  rcases and3 hq with h1 | ⟨h1, h2⟩ | ⟨h1, h2, h3⟩
  · repeat refine gwp_seq ?_
    refine gwp_region ?_
    refine v0 (k := ?_)
    refine v0 (k := ?_)
    refine oc0 [] [] [4, 0] none (spec := s_isSet f (by omega) s) (hent := ent44) (k := ?_)
    refine rb 15 false (h := by (exact h1)) (k := ?_)
    refine v0 (k := ?_)
    refine x0 (k := ?_)
    refine x0 (k := ?_)
    refine x0 (k := ?_)
    refine x0 (k := ?_)
    refine x0 (k := ?_)
    refine x0 (k := ?_)
    refine x0 (k := ?_)
    refine x0 (k := ?_)
    refine v0 (k := ?_)
    refine v0 (k := ?_)
    refine x0 (k := ?_)
    refine x0 (k := ?_)
    refine x0 (k := ?_)
    refine x0 (k := ?_)
    refine x0 (k := ?_)
    refine x0 (k := ?_)
    refine x0 (k := ?_)
    refine x0 (k := ?_)
    refine v0 (k := ?_)
    refine pp0 (spec := s_must_f _) (hent := ent43) (k := ?_)
    repeat (first | refine gthen_panic ?_ | refine gblock_panic ?_)
    refine finD_panic ?_
    refine ocall [190] [(0, 190)] (spec := d_some 0 2) (hent := ent39) (h := ?_)
    refine out_nil ?_
    refine fp2 (hR := ?_)
    rfl
  · repeat refine gwp_seq ?_
    refine gwp_region ?_
    refine v0 (k := ?_)
    refine v0 (k := ?_)
    refine oc0 [] [] [4, 0] none (spec := s_isSet f (by omega) s) (hent := ent44) (k := ?_)
    refine rb 15 true (h := by (exact h1)) (k := ?_)
    refine v0 (k := ?_)
    refine w0 (k := ?_)
    refine w0 (k := ?_)
    refine w0 (k := ?_)
    refine w0 (k := ?_)
    refine w0 (k := ?_)
    refine w0 (k := ?_)
    refine w0 (k := ?_)
    refine pcw (spec := s_within a f.el f.eh) (hent := ent45) (k := ?_)
    refine rb 24 false (h := by (exact h2)) (k := ?_)
    refine v0 (k := ?_)
    refine v0 (k := ?_)
    refine x0 (k := ?_)
    refine x0 (k := ?_)
    refine x0 (k := ?_)
    refine x0 (k := ?_)
    refine x0 (k := ?_)
    refine x0 (k := ?_)
    refine x0 (k := ?_)
    refine x0 (k := ?_)
    refine v0 (k := ?_)
    refine pp0 (spec := s_must_f _) (hent := ent43) (k := ?_)
    repeat (first | refine gthen_panic ?_ | refine gblock_panic ?_)
    refine finD_panic ?_
    refine ocall [190] [(0, 190)] (spec := d_some 0 2) (hent := ent39) (h := ?_)
    refine out_nil ?_
    refine fp2 (hR := ?_)
    rfl
  repeat refine gwp_seq ?_
  refine gwp_region ?_
  refine v0 (k := ?_)
  refine v0 (k := ?_)
  refine oc0 [] [] [4, 0] none (spec := s_isSet f (by omega) s) (hent := ent44) (k := ?_)
  refine rb 15 true (h := by (exact h1)) (k := ?_)
  refine v0 (k := ?_)
  refine w0 (k := ?_)
  refine w0 (k := ?_)
  refine w0 (k := ?_)
  refine w0 (k := ?_)
  refine w0 (k := ?_)
  refine w0 (k := ?_)
  refine w0 (k := ?_)
  refine pcw (spec := s_within a f.el f.eh) (hent := ent45) (k := ?_)
  refine rb 24 true (h := by (exact h2)) (k := ?_)
  refine v0 (k := ?_)
  refine v0 (k := ?_)
  refine w0 (k := ?_)
  refine w0 (k := ?_)
  refine w0 (k := ?_)
  refine w0 (k := ?_)
  refine w0 (k := ?_)
  refine w0 (k := ?_)
  refine w0 (k := ?_)
  refine pcw (spec := s_within b f.nl f.nh) (hent := ent45) (k := ?_)
  refine rb 34 false (h := by (exact h3)) (k := ?_)
  refine v0 (k := ?_)
  refine pp0 (spec := s_must_f _) (hent := ent43) (k := ?_)
  repeat (first | refine gthen_panic ?_ | refine gblock_panic ?_)
  refine finD_panic ?_
  refine ocall [190] [(0, 190)] (spec := d_some 0 2) (hent := ent39) (h := ?_)
  refine out_nil ?_
  refine fp2 (hR := ?_)
  rfl
theorem p_served_f {E : Env Try.prog} {A : E.α} (f : Fd) (hl : f.ps.length ≤ 1048576) (hv : f.valid = false) (s a b : Int) : Gh.Spec E 16 [.p (.agg [.list (f.ps.map pS), .int .i64 f.el, .int .i64 f.eh, .int .i64 f.nl, .int .i64 f.nh, .int .i64 f.dl, .int .i64 f.dh, .int .i64 f.dep, .int .i64 f.tm, .int .i64 f.gp]), .p (.int .i64 s), .p (.int .i64 a), .p (.int .i64 b)] (mkHp []) A (fun y => y = .ok (.p (.tuple [.bool false, .int .i64 1])) (mkHp []) A) := by
  refine specD_of Try.func16 (rfl : Try.f16.body = some _) (Nat.le_of_ble_eq_true rfl) (fun id h => ?_) (fun j id h => ?_) ?_
  · exact wf1x h
  · exact wf2x h
  intro C hN hL
  replace hN : C.N = 50 := hN
  simp only [Gh.num, List.map_cons, List.map_nil, Nat.reduceAdd]
  repeat refine gwp_seq ?_
  refine gwp_region ?_
  refine n1 140 false (hc := kVh1.h {}) (k := ?_)
  refine v0 (k := ?_)
  refine n1 190 false (hc := kVh1.h {}) (k := ?_)
  refine nil0 ?_
  refine cl [1, 2, 3, 4, 8, 9] (k := ?_)
  repeat refine gwp_seq ?_
  refine gwp_region ?_
  refine df0 (k := ?_)
  refine nil0 ?_
  refine cl [1, 2, 3, 4, 8, 9] (k := ?_)
  repeat refine gwp_seq ?_
  refine gwp_region ?_
  refine v0 (k := ?_)
  refine op0 [] [] [0] none (spec := s_open_f f hl hv) (hent := ent40) (k := ?_)
  repeat (first | refine gthen_panic ?_ | refine gblock_panic ?_)
  refine finD_panic ?_
  refine ocall [190] [(0, 190)] (spec := d_some 0 1) (hent := ent39) (h := ?_)
  refine out_nil ?_
  refine fp2 (hR := ?_)
  rfl
theorem ent20 : Enters Try.prog 20 := Enters.mk Try.func20 (by kernel_rfl) rfl
theorem p_short_t {E : Env Try.prog} {A : E.α} (f : Fd) (hv : f.valid = true) (w : Nat) (hw : (setsL f).find? (listQ f) = some w) : Gh.Spec E 20 [.p (.agg [.list (f.ps.map pS), .int .i64 f.el, .int .i64 f.eh, .int .i64 f.nl, .int .i64 f.nh, .int .i64 f.dl, .int .i64 f.dh, .int .i64 f.dep, .int .i64 f.tm, .int .i64 f.gp])] (mkHp []) A (fun y => y = .ok (.p (.tuple [.int .i64 (w : Nat), .int .i64 0])) (mkHp []) A) := by
  refine specD_of Try.func20 (rfl : Try.f20.body = some _) (Nat.le_of_ble_eq_true rfl) (fun id h => ?_) (fun j id h => ?_) ?_
  · exact wf1x h
  · exact wf2x h
  intro C hN hL
  replace hN : C.N = 13 := hN
  simp only [Gh.num, List.map_cons, List.map_nil, Nat.reduceAdd]
  have hn := valid_num hv
  have hwl := sets_lt (f := f) (by omega) w (List.mem_of_find?_eq_some hw)
  repeat refine gwp_seq ?_
  refine gwp_region ?_
  refine n1 110 false (hc := kVh1.h {}) (k := ?_)
  refine v0 (k := ?_)
  refine n1 130 false (hc := kVh1.h {}) (k := ?_)
  refine nil0 ?_
  refine cl [1, 2, 3] (k := ?_)
  repeat refine gwp_seq ?_
  refine gwp_region ?_
  refine df0 (k := ?_)
  refine nil0 ?_
  refine cl [1, 2, 3] (k := ?_)
  repeat refine gwp_seq ?_
  refine gwp_region ?_
  refine v0 (k := ?_)
  refine oc0 [(220, 5000)] [] [0] none (spec := s_open_t f hv) (hent := ent40) (hgr := by (simp only [G.ren, G.rens, rens_p, Gh.look, Nat.reduceEqDiff, reduceIte] <;> rfl)) (k := ?_)
  refine v0 (k := ?_)
  refine nil0 ?_
  refine cl [2, 3, 4] (k := ?_)
  repeat refine gwp_seq ?_
  refine gwp_region ?_
  refine v0 (k := ?_)
  refine oc0 [] [] [14] none (spec := s_sets f) (hent := ent50) (k := ?_)
  refine v0 (k := ?_)
  refine oc0 [(0, 5000)] [] [0] none (spec := s_mkList f hv) (hent := ent51) (k := ?_)
  refine oc0 [] [] [0, 0] none (spec := s_first_t f hv w hw) (hent := ent49) (k := ?_)
  refine v1 (hc := kVh1.h {}) (k := ?_)
  refine v0 (k := ?_)
  refine s1 (hc := kVh1.h {}) (k := ?_)
  refine nil0 ?_
  repeat refine gwp_seq ?_
  refine gwp_ret ?_
  repeat (first | refine gthen_ret ?_ | refine gblock_ret ?_ | refine gnoGoto_ret ?_)
  refine finD_ret ?_
  refine ocall [130] [(0, 130)] (spec := d_none 0) (hent := ent39) (h := ?_)
  refine out_nil ?_
  refine fp2 (hR := ?_)
  rfl
theorem p_short_n {E : Env Try.prog} {A : E.α} (f : Fd) (hv : f.valid = true) (hw : (setsL f).find? (listQ f) = none) : Gh.Spec E 20 [.p (.agg [.list (f.ps.map pS), .int .i64 f.el, .int .i64 f.eh, .int .i64 f.nl, .int .i64 f.nh, .int .i64 f.dl, .int .i64 f.dh, .int .i64 f.dep, .int .i64 f.tm, .int .i64 f.gp])] (mkHp []) A (fun y => y = .ok (.p (.tuple [.int .i64 0, .int .i64 4])) (mkHp []) A) := by
  refine specD_of Try.func20 (rfl : Try.f20.body = some _) (Nat.le_of_ble_eq_true rfl) (fun id h => ?_) (fun j id h => ?_) ?_
  · exact wf1x h
  · exact wf2x h
  intro C hN hL
  replace hN : C.N = 13 := hN
  simp only [Gh.num, List.map_cons, List.map_nil, Nat.reduceAdd]
  have hn := valid_num hv
  repeat refine gwp_seq ?_
  refine gwp_region ?_
  refine n1 110 false (hc := kVh1.h {}) (k := ?_)
  refine v0 (k := ?_)
  refine n1 130 false (hc := kVh1.h {}) (k := ?_)
  refine nil0 ?_
  refine cl [1, 2, 3] (k := ?_)
  repeat refine gwp_seq ?_
  refine gwp_region ?_
  refine df0 (k := ?_)
  refine nil0 ?_
  refine cl [1, 2, 3] (k := ?_)
  repeat refine gwp_seq ?_
  refine gwp_region ?_
  refine v0 (k := ?_)
  refine oc0 [(220, 5000)] [] [0] none (spec := s_open_t f hv) (hent := ent40) (hgr := by (simp only [G.ren, G.rens, rens_p, Gh.look, Nat.reduceEqDiff, reduceIte] <;> rfl)) (k := ?_)
  refine v0 (k := ?_)
  refine nil0 ?_
  refine cl [2, 3, 4] (k := ?_)
  repeat refine gwp_seq ?_
  refine gwp_region ?_
  refine v0 (k := ?_)
  refine oc0 [] [] [14] none (spec := s_sets f) (hent := ent50) (k := ?_)
  refine v0 (k := ?_)
  refine oc0 [(0, 5000)] [] [0] none (spec := s_mkList f hv) (hent := ent51) (k := ?_)
  refine op0 [] [] [0, 0] none (spec := s_first_n f hv hw) (hent := ent49) (k := ?_)
  repeat (first | refine gthen_panic ?_ | refine gblock_panic ?_)
  refine finD_panic ?_
  refine ocall [130] [(0, 130)] (spec := d_some 0 4) (hent := ent39) (h := ?_)
  refine out_nil ?_
  refine fp2 (hR := ?_)
  rfl
theorem p_short_f {E : Env Try.prog} {A : E.α} (f : Fd) (hl : f.ps.length ≤ 1048576) (hv : f.valid = false) : Gh.Spec E 20 [.p (.agg [.list (f.ps.map pS), .int .i64 f.el, .int .i64 f.eh, .int .i64 f.nl, .int .i64 f.nh, .int .i64 f.dl, .int .i64 f.dh, .int .i64 f.dep, .int .i64 f.tm, .int .i64 f.gp])] (mkHp []) A (fun y => y = .ok (.p (.tuple [.int .i64 0, .int .i64 1])) (mkHp []) A) := by
  refine specD_of Try.func20 (rfl : Try.f20.body = some _) (Nat.le_of_ble_eq_true rfl) (fun id h => ?_) (fun j id h => ?_) ?_
  · exact wf1x h
  · exact wf2x h
  intro C hN hL
  replace hN : C.N = 13 := hN
  simp only [Gh.num, List.map_cons, List.map_nil, Nat.reduceAdd]
  repeat refine gwp_seq ?_
  refine gwp_region ?_
  refine n1 110 false (hc := kVh1.h {}) (k := ?_)
  refine v0 (k := ?_)
  refine n1 130 false (hc := kVh1.h {}) (k := ?_)
  refine nil0 ?_
  refine cl [1, 2, 3] (k := ?_)
  repeat refine gwp_seq ?_
  refine gwp_region ?_
  refine df0 (k := ?_)
  refine nil0 ?_
  refine cl [1, 2, 3] (k := ?_)
  repeat refine gwp_seq ?_
  refine gwp_region ?_
  refine v0 (k := ?_)
  refine op0 [] [] [0] none (spec := s_open_f f hl hv) (hent := ent40) (k := ?_)
  repeat (first | refine gthen_panic ?_ | refine gblock_panic ?_)
  refine finD_panic ?_
  refine ocall [130] [(0, 130)] (spec := d_some 0 1) (hent := ent39) (h := ?_)
  refine out_nil ?_
  refine fp2 (hR := ?_)
  rfl
end Go.Proofs.Ytabeeaiilanmjaa

/- Rules of written-out states: a call that panics in a region in any order. -/
namespace Go.Proofs.Ytabeeaiilanmjaa
open Go.Gh
set_option maxRecDepth 100000
structure eO1 {α : Type} (a b : α) : Prop where
  h : a = b := by (simp only [opIds, Op.operands, gev, mkFr_cons, Nat.reduceEqDiff, reduceIte, List.flatMap_cons, List.flatMap_nil, List.map_cons, List.map_nil, G.idl, G.idls, idls_p, List.append_nil, List.nil_append, List.cons_append, ofV, Call.operands, List.append_toArray, Array.toList_append, Option.toArray_none, Option.toArray_some] <;> rfl)
structure eO2 {α : Type} (a b : α) : Prop where
  h : a = b := by (simp only [rhp, List.mem_cons, List.not_mem_nil, gsem, gev, ofV, mkFr_cons, mkFr_nil, mkHp_cons, mkHp_nil, upd, yes, lift, gbinAt, gnilEq, gbin, gint, gshift, arith, gpick, gload, gstore, splice, gbox, gfill, placesL, gbuildSlice, gfieldAddr, gfield, gelem, gindexAddr, gindex, gbound, gslice, glen, gsource, gappend, gmin, gminL, gmax, gmaxL, mapGet, mapPut, zeroG, orZero, glookup, gmapUpdate, gmapEntry, gentryStore, Option.getD_none, Option.getD_some, gconvert, gtypeAssert, gextract, isConst, gnilCheck, gunOp, gmakeSlice, intOf, mkAgg, mkFn, mkIface, mkTuple, allP, G.cells, good, goods, allOne, G.one, P.one, allP_p, allOne_p, goods_p, toPs_p, all_int, take_all, isAggD, isIfaceD, toP, toPs, P.size, P.cells, List.map_cons, List.map_nil, List.take_succ_cons, List.take_zero, List.drop_succ_cons, List.drop_zero, List.take_nil, List.drop_nil, List.cons_append, List.nil_append, List.append_nil, List.length_cons, List.length_nil, List.getElem?_cons_zero, List.getElem?_cons_succ, List.getElem?_nil, List.set_cons_zero, List.set_cons_succ, List.flatMap_cons, List.flatMap_nil, List.getElem?_toArray, List.getElem?_map, List.length_map, Option.map_some, Option.map_none, Nat.mul_one, List.length_set, set_map_p, set_map_int, Nat.reduceEqDiff, Nat.reduceAdd, Nat.reduceMul, Nat.reduceSub, Nat.reduceLeDiff, Nat.add_zero, Nat.zero_add, Int.toNat_natCast, Int.reduceToNat, reduceIte, reduceCtorEq, eq_self, if_true, if_false, and_true, true_and, true_or, or_true, or_false, false_or, Bool.false_eq_true, ne_eq, not_true_eq_false, not_false_eq_true, cond_true, cond_false, Bool.and_true, Bool.true_and, Bool.and_false, Bool.false_and, Bool.or_true, Bool.true_or, Bool.or_false, Bool.false_or, Bool.not_true, Bool.not_false, ti_3, ti_4, ti_5, ti_9, ti_20, ti_22, ti_24, ti_26, ti_29, ti_37, ti_42, ti_44, ti_45, ti_48, ti_50, ti_51, ti_52, ti_55, ti_60, ti_61, ti_62, ti_63, ti_65, ti_66, ti_71, ti_73, ti_74, ti_75, ti_78, ti_79, ti_83, ti_85, ti_86, ti_90, ti_100, ti_102, ti_103, ti_105, ti_106, ti_108, ti_111, ti_114, ti_115, ti_117, ti_120, ti_125, ti_127, ti_130, ti_136, ti_140, ti_142, *] <;> rfl)
structure eO3 {α : Type} (a b : α) : Prop where
  h : a = b := by (simp only [gcallee, gev, mkFr_cons, Nat.reduceEqDiff, reduceIte, List.map_cons, List.map_nil, List.cons_append, List.nil_append, List.append_nil, toP, toPs, toPs_p, ofV, rhp, mkHp_cons, mkHp_nil, List.mem_cons, List.not_mem_nil, or_false, and_true, true_and] <;> rfl)
structure eO4 {α : Type} (a b : α) : Prop where
  h : a = b := by (simp only [cvtsM, cvtM, Option.map_some, Option.map_none, G.rens, G.ren, rens_p, Gh.look, Nat.reduceAdd, Nat.zero_add, List.take_succ_cons, List.take_zero, List.drop_succ_cons, List.drop_zero, gev, mkFr_cons, Nat.reduceEqDiff, reduceIte, List.map_cons, List.map_nil, List.cons_append, List.nil_append, List.append_nil, toP, toPs, toPs_p, ofV, rhp, mkHp_cons, mkHp_nil, List.mem_cons, List.not_mem_nil, or_false, and_true, true_and] <;> rfl)
variable {E : Env Try.prog} {C : Cx E} {r : Option Nat} {ops : Array Oper} {Q : GE → Sg E → Prop} {l l' : List (Nat × G)} {m : List (Nat × Ob)} {A : E.α} {df : List GD} {K : Sg E → Prop}
variable {t : Nat} {op : Op} {ty : TypeId} {pos : String} {af : Array Edge} {c : Prop} {g : G} {ob : Ob} {i j : Nat} {f : FuncId} {gs : List G}
variable {lo : Nat} {σ0 : Sg E} {ids ids' : List (List Nat × List Nat)} {I : List Nat}
theorem dp1 (n q d : Nat) (tab : List Nat) (mu : Bool) {oj : Oper} (hn : ids.length = n := by rfl) (hnf : n < q := by decide) (hoj : ops[lo + n]? = some oj := by rfl) (ho : ops[lo + q]? = some ⟨some t, op, ty, pos, af, none⟩ := by rfl) (hI : opIds (gev (mkFr l)) op = I := by exact eO1.h {})
    (hg : gsem Try.prog mu d (gev (mkFr l)) (rhp (mkHp m) I) op = some (c, ⟨g, some (i, ob)⟩) := by exact eO2.h {}) (hd : mkHp m d = .none := by (simp only [mkHp_cons, mkHp_nil, Nat.reduceEqDiff, reduceIte])) (hd2 : C.lim ≤ d := by omega) (ht : t < C.N := by omega) 
    (hi : i ∈ d :: I := by simp) (hwt : waitsB tab ops.toList 0 = true := by kernel_rfl) (hp : panB tab ops.toList lo n q ids (d :: I, [i]) = true := by kernel_rfl) (hc : c)
    (k1 : EffN C r ops oj (sg l m A df) (fun _ => False) Q) (k2 : EffN C r ops oj (sg ((t, g) :: l) ((i, ob) :: m) A df) (fun _ => False) Q) : segK C r ops (GPost C Q) lo σ0 ids (sg l m A df) :=
  segK.pan1 (pi := [i]) tab hn hnf hoj ho (eff_op (d := d) (out := ⟨g, some (i, ob)⟩) (gwant_plain rfl) hg hc hd hd2 (fun p e => by cases e; exact hi) (fun t' e => by cases e; exact ht)) rfl hwt hp k1 k2
theorem dpe (L : List (Nat × Nat)) (J : List Nat) (ks : List Nat) (ad : Option (Nat × Ob)) {cc : Call} {gargs : List G} {mc mr m2 ps : List (Nat × Ob)} {v : P} (spec : Gh.Spec E f gargs (mkHp mc) A fun y => y = .panic v (mkHp mr) A) (hent : Enters Try.prog f) (hg : gcallee Try.prog (mkFr l) cc = some (f, gs) := by exact eO3.h {})
    (ha : AdoptOk C.lim (mkHp m) L ad := by (first | exact True.intro | (refine ⟨by (simp only [mkHp_cons, mkHp_nil, Nat.reduceEqDiff, reduceIte]), by omega, ⟨_, _, _, rfl⟩, by simp⟩))) (hcv : cvtsM (rhp (mkHp m) J) (ad.map (·.1)) ks gs = some (c, G.rens (Gh.look L) gargs) := by exact eO4.h {}) (hc : c := by simp)
    (n1 : (L.map (·.1)).Nodup := by decide) (n2 : (L.map (·.2)).Nodup := by decide) (n3 : (mc.map (·.1)).Nodup := by simp) (hp1 : pairsP L (adoptH (mkHp m) ad) mc := by (simp only [pairsP, adoptH, Gh.look, Ob.ren, G.rens, G.ren, rens_p, upd, mkHp_cons, mkHp_nil, Nat.reduceEqDiff, reduceIte] <;> simp)) (hp2 : newP C.lim (adoptH (mkHp m) ad) mc L := by (simp [newP, adoptH, upd, mkHp_cons, mkHp_nil] <;> omega))
    (hdis : ∀ d ob, ad = some (d, ob) → d ∉ J := by (intro d ob e; simp at e <;> simp [← e.1])) (hk : keysP L mr := by simp [keysP, Gh.look]) (hs : stayP mr mc := by simp [stayP, mkHp_cons, mkHp_nil]) (ht : t < C.N := by omega) (hps : putsOf L (mkHp mr) = ps := by (simp only [putsOf, List.map_cons, List.map_nil, mkHp_cons, mkHp_nil, Nat.reduceEqDiff, reduceIte, Ob.ren, G.ren, G.rens, rens_p, Gh.look] <;> rfl))
    (hm2 : ps.reverse ++ m = m2 := by (simp only [List.reverse_cons, List.reverse_nil, List.nil_append, List.cons_append] <;> rfl)) (k : Q (.panic v) (sg l m2 A df)) : EffN C r ops ⟨some t, .call cc, ty, pos, af, none⟩ (sg l m A df) K Q :=
  effN_callp2 spec hent (gwant_plain rfl) hg ha hcv hc (pairs_mk n1 n2 n3 hp1 hp2) hdis (pairsB_mk hk hs) ht (by rw [hps]; show Q (.panic v) (⟨mkFr l, putsH (mkHp m) ps, A, df⟩ : Sg E); rw [putsH_mk, hm2]; exact k)
theorem dpg (n : Nat) (tab : List Nat) {oj : Oper} (ho : ops[n]? = some oj := by rfl) (hwt : waitsB tab ops.toList 0 = true := by kernel_rfl) (hct : cutB tab n 1 ops.size = true := by kernel_rfl) (k : ∀ K : Sg E → Prop, EffN C r ops oj (sg l m A df) K Q) : gany C r ops (GPost C Q) n (sg l m A df) :=
  gany_go tab ho hwt hct fun K _ => k K
end Go.Proofs.Ytabeeaiilanmjaa

/- The program: Lists, Needed, Missing. -/
namespace Go.Proofs.Ytabeeaiilanmjaa
open Go.Gh
set_option maxRecDepth 100000
set_option maxHeartbeats 4000000
structure kVi1 (c : Prop) : Prop where
  h : c := by (first | exact True.intro | omega | (simp only [inI]; omega) | (simp [P.size, pS, all_int, allOne_p, goods_p, allOne, goods, good, G.one, P.one, P.cells] <;> first | omega | assumption | simp_all))
theorem ent22 : Enters Try.prog 22 := Enters.mk Try.func22 (by kernel_rfl) rfl
theorem p_lists_t {E : Env Try.prog} {A : E.α} (f : Fd) (hv : f.valid = true) (w : Nat) (hw : (setsL f).find? (listQ f) = some w) : Gh.Spec E 22 [.p (.agg [.list (f.ps.map pS), .int .i64 f.el, .int .i64 f.eh, .int .i64 f.nl, .int .i64 f.nh, .int .i64 f.dl, .int .i64 f.dh, .int .i64 f.dep, .int .i64 f.tm, .int .i64 f.gp])] (mkHp []) A (fun y => y = .ok (.p (.tuple [.int .i64 (cntA f w : Nat), .int .i64 0])) (mkHp []) A) := by
  refine specD_of Try.func22 (rfl : Try.f22.body = some _) (Nat.le_of_ble_eq_true rfl) (fun id h => ?_) (fun j id h => ?_) ?_
  · exact wf1x h
  · exact wf2x h
  intro C hN hL
  replace hN : C.N = 32 := hN
  simp only [Gh.num, List.map_cons, List.map_nil, Nat.reduceAdd]
  have hn := valid_num hv
  have hwl := sets_lt (f := f) (by omega) w (List.mem_of_find?_eq_some hw)
  have hsn := sets_len (f := f) (by omega)
  repeat refine gwp_seq ?_
  refine gwp_region ?_
  refine n1 110 false (hc := kVi1.h {}) (k := ?_)
  refine n1 120 false (hc := kVi1.h {}) (k := ?_)
  refine n1 130 false (hc := kVi1.h {}) (k := ?_)
  refine nil0 ?_
  refine cl [1, 2, 3] (k := ?_)
  repeat refine gwp_seq ?_
  refine gwp_region ?_
  refine df0 (k := ?_)
  refine nil0 ?_
  refine cl [1, 2, 3] (k := ?_)
  repeat refine gwp_seq ?_
  refine gwp_region ?_
  refine v0 (k := ?_)
  refine oc0 [(220, 5000)] [] [0] none (spec := s_open_t f hv) (hent := ent40) (hgr := by (simp only [G.ren, G.rens, rens_p, Gh.look, Nat.reduceEqDiff, reduceIte] <;> rfl)) (k := ?_)
  refine v0 (k := ?_)
  refine nil0 ?_
  refine cl [2, 3, 4] (k := ?_)
  repeat refine gwp_seq ?_
  refine gwp_region ?_
  refine v0 (k := ?_)
  refine oc0 [(0, 5000)] [] [0] none (spec := s_mkList f hv) (hent := ent51) (k := ?_)
  refine n1 150 false (hc := kVi1.h {}) (k := ?_)
  refine s1 (hc := kVi1.h {}) (k := ?_)
  refine nil0 ?_
  refine cl [2, 3, 4, 5] (k := ?_)
  repeat refine gwp_seq ?_
  refine rd ?_
  refine da0 0 (k := ?_)
  refine doc0 1 [] [] [14] none (spec := s_sets f) (hent := ent50) (k := ?_)
  refine d0 2 (k := ?_)
  refine doc0 3 [] [] [0, 0] none (spec := s_first_t f hv w hw) (hent := ent49) (k := ?_)
  refine dpc0 4 (spec := s_size w hwl) (hent := ent54) (k := ?_)
  refine dn1 5 160 false (hc := kVi1.h {}) (k := ?_)
  refine ds1 6 (hc := kVi1.h {}) (k := ?_)
  refine dz 7 [0, 1, 0, 7, 15, 0, 63] (h := ?_)
  refine de 7 (h := ?_)
  refine cl [2, 3, 4, 5, 6] (k := ?_)
  repeat refine gwp_seq ?_
  refine gwp_region ?_
  refine v0 (k := ?_)
  refine oc0 [] [] [14] none (spec := s_sets f) (hent := ent50) (k := ?_)
  refine nil0 ?_
  refine cl [2, 3, 5, 6, 18] (k := ?_)
  repeat refine gwp_seq ?_
  refine gwp_block ?_
  repeat refine gwp_seq ?_
  refine cl [2, 3, 5, 6, 18] (k := ?_)
  refine rf 10000 99001 [19] (fun k (z : Nat) A1 => cntL f w k = z ∧ A1 = A) (fun z => [(120, .cells [.p (.int .i64 (z : Nat))] 0), (130, .cells [.p (.int .i64 0)] 0), (150, .cells [.fn (.func 78) [] [.ptr [.p (.list ((kindsL f).map fun s : Nat => P.int .u64 (s : Int)))], .ptr [.ptr [.p (.list (f.ps.map pS)), .p (.int .i64 f.el), .p (.int .i64 f.eh), .p (.int .i64 f.nl), .p (.int .i64 f.nh), .p (.int .i64 f.dl), .p (.int .i64 f.dh), .p (.int .i64 f.dep), .p (.int .i64 f.tm), .p (.int .i64 f.gp)]]]] 0), (160, .cells [.p (.int .i64 (pop w : Nat))] 0)]) (fun _ _ _ => False) (fun _ z => [(120, .cells [.p (.int .i64 (z : Nat))] 0), (130, .cells [.p (.int .i64 0)] 0), (150, .cells [.fn (.func 78) [] [.ptr [.p (.list ((kindsL f).map fun s : Nat => P.int .u64 (s : Int)))], .ptr [.ptr [.p (.list (f.ps.map pS)), .p (.int .i64 f.el), .p (.int .i64 f.eh), .p (.int .i64 f.nl), .p (.int .i64 f.nh), .p (.int .i64 f.dl), .p (.int .i64 f.dh), .p (.int .i64 f.dep), .p (.int .i64 f.tm), .p (.int .i64 f.gp)]]]] 0), (160, .cells [.p (.int .i64 (pop w : Nat))] 0)]) [] [.k] (it := it_sets f hv) (hent := ent77) (xs := ((setsL f).map fun s : Nat => [P.int .u64 (s : Int)])) (hlen := fun x hx => by obtain ⟨w, _, rfl⟩ := List.mem_map.1 hx; rfl) (h0 := ?_) (round := fun k z A1 x hI hx lp bs C1 hN1 hL1 => ?_) (hK := fun e z A1 hK => ?_) (hI := fun z A1 hI => ?_)
  · exact ⟨0, ⟨rfl, rfl⟩, rfl⟩
  · obtain ⟨hz, rfl⟩ := hI
    rw [List.getElem?_map] at hx
    obtain ⟨s, hs, rfl⟩ := Option.map_eq_some_iff.1 hx
    have hsm := List.mem_of_getElem? hs
    have hsl := sets_lt (f := f) (by omega) s hsm
    have hkl := (List.getElem?_eq_some_iff.1 hs).1
    have hzk := cnt_le f w k
    rw [hz] at hzk
    replace hN1 : C1.N = 32 := hN1.trans hN
    refine (?_ : gwp C1 (some lp) _ _ (sg ((19, .p (.int .u64 (s : Nat))) :: _) [(120, .cells [.p (.int .i64 (z : Nat))] 0), (130, .cells [.p (.int .i64 0)] 0), (150, .cells [.fn (.func 78) [] [.ptr [.p (.list ((kindsL f).map fun s : Nat => P.int .u64 (s : Int)))], .ptr [.ptr [.p (.list (f.ps.map pS)), .p (.int .i64 f.el), .p (.int .i64 f.eh), .p (.int .i64 f.nl), .p (.int .i64 f.nh), .p (.int .i64 f.dl), .p (.int .i64 f.dh), .p (.int .i64 f.dep), .p (.int .i64 f.tm), .p (.int .i64 f.gp)]]]] 0), (160, .cells [.p (.int .i64 (pop w : Nat))] 0)] A1 []))
    repeat refine gwp_seq ?_
    refine gwp_region ?_
    refine v0 (k := ?_)
    refine nil0 ?_
    refine ⟨rfl, fun bs2 C2 hN2 hL2 hr2 => ?_⟩
    replace hN2 : C2.N = 32 := hN2.trans hN
    refine (?_ : gwp C2 (some lp) _ _ (sg _ _ _ []))
    repeat refine gwp_seq ?_
    refine gwp_block ?_
    repeat refine gwp_seq ?_
    refine rd ?_
    refine da0 0 (k := ?_)
    refine dpc0 1 (spec := s_size s hsl) (hent := ent54) (k := ?_)
    refine d0 2 (k := ?_)
    refine d0 3 (k := ?_)
    refine da0 4 (k := ?_)
    refine db0 5 24 (k1 := fun hb1 => ?_) (k0 := fun hb1 => ?_)
    · replace hb1 := hB.h {} hb1
      try rw [eqI] at hb1
      refine dw0 5 (k := ?_)
      refine dw0 6 (k := ?_)
      refine docw 7 [] [] [0, 0, 0] none (spec := s_isList f hv s hsl) (hent := ent78) (j := 4) (b := true) (i' := 24) (k := ?_)
      refine da0 8 (k := ?_)
      refine dz 9 [0, 1, 0, 7, 15, 31, 31, 127, 255] (h := ?_)
      refine de 9 (h := ?_)
      repeat refine gwp_seq ?_
      refine cB (k1 := fun hb2 => ?_) (k0 := fun hb2 => ?_)
      · replace hb2 := hB.h {} hb2
        try rw [eqI] at hb2
        repeat refine gwp_seq ?_
        refine gwp_region ?_
        refine v0 (k := ?_)
        refine v1 (hc := kVi1.h {}) (k := ?_)
        refine s1 (hc := kVi1.h {}) (k := ?_)
        refine nil0 ?_
        first
        | (refine ⟨_, z + 1, lc [120, 130, 150, 160], rfl, ?_, rfl⟩
           rw [cnt_t hs (same_t (by omega) (by assumption)), hz])
        | (refine ⟨_, z, lc [120, 130, 150, 160], rfl, ?_, rfl⟩
           rw [cnt_f hs (same_f1 (by omega)), hz])
        | (refine ⟨_, z, lc [120, 130, 150, 160], rfl, ?_, rfl⟩
           rw [cnt_f hs (same_f2 (by assumption)), hz])
      replace hb2 := hB.h {} hb2
      try rw [eqI] at hb2
      repeat refine gwp_seq ?_
      refine gwp_skip ?_
      first
      | (refine ⟨_, z + 1, lc [120, 130, 150, 160], rfl, ?_, rfl⟩
         rw [cnt_t hs (same_t (by omega) (by assumption)), hz])
      | (refine ⟨_, z, lc [120, 130, 150, 160], rfl, ?_, rfl⟩
         rw [cnt_f hs (same_f1 (by omega)), hz])
      | (refine ⟨_, z, lc [120, 130, 150, 160], rfl, ?_, rfl⟩
         rw [cnt_f hs (same_f2 (by assumption)), hz])
    replace hb1 := hB.h {} hb1
    try rw [eqI] at hb1
    refine dx0 5 (k := ?_)
    refine dx0 6 (k := ?_)
    refine dx0 7 (k := ?_)
    refine da0 8 (k := ?_)
    refine dz 9 [0, 1, 0, 7, 15, 31, 31, 127, 255] (h := ?_)
    refine de 9 (h := ?_)
    repeat refine gwp_seq ?_
    refine cF (k := ?_)
    repeat refine gwp_seq ?_
    refine gwp_skip ?_
    first
    | (refine ⟨_, z + 1, lc [120, 130, 150, 160], rfl, ?_, rfl⟩
       rw [cnt_t hs (same_t (by omega) (by assumption)), hz])
    | (refine ⟨_, z, lc [120, 130, 150, 160], rfl, ?_, rfl⟩
       rw [cnt_f hs (same_f1 (by omega)), hz])
    | (refine ⟨_, z, lc [120, 130, 150, 160], rfl, ?_, rfl⟩
       rw [cnt_f hs (same_f2 (by assumption)), hz])
  · exact hK.elim
  obtain ⟨hz, rfl⟩ := hI
  rw [List.length_map] at hz
  have hz : cntA f w = z := hz
  rw [← hz]
  clear hz
  refine cl [2, 3] (k := ?_)
  repeat refine gwp_seq ?_
  refine gwp_region ?_
  refine v0 (k := ?_)
  refine s1 (hc := kVi1.h {}) (k := ?_)
  refine s1 (hc := kVi1.h {}) (k := ?_)
  refine nil0 ?_
  repeat refine gwp_seq ?_
  refine gwp_ret ?_
  repeat (first | refine gthen_ret ?_ | refine gblock_ret ?_ | refine gnoGoto_ret ?_)
  refine finD_ret ?_
  try refine om (h3 := by simp [hpIds, obIdl, G.idl, G.idls, idls_p, mkHp_cons, mkHp_nil]) (h := ?_)
  refine ocall [130] [(0, 130)] (spec := d_none 0) (hent := ent39) (h := ?_)
  refine out_nil ?_
  refine fp2 (hR := ?_)
  rfl
theorem p_lists_n {E : Env Try.prog} {A : E.α} (f : Fd) (hv : f.valid = true) (hw : (setsL f).find? (listQ f) = none) : Gh.Spec E 22 [.p (.agg [.list (f.ps.map pS), .int .i64 f.el, .int .i64 f.eh, .int .i64 f.nl, .int .i64 f.nh, .int .i64 f.dl, .int .i64 f.dh, .int .i64 f.dep, .int .i64 f.tm, .int .i64 f.gp])] (mkHp []) A (fun y => y = .ok (.p (.tuple [.int .i64 0, .int .i64 4])) (mkHp []) A) := by
  refine specD_of Try.func22 (rfl : Try.f22.body = some _) (Nat.le_of_ble_eq_true rfl) (fun id h => ?_) (fun j id h => ?_) ?_
  · exact wf1x h
  · exact wf2x h
  intro C hN hL
  replace hN : C.N = 32 := hN
  simp only [Gh.num, List.map_cons, List.map_nil, Nat.reduceAdd]
  have hn := valid_num hv
  repeat refine gwp_seq ?_
  refine gwp_region ?_
  refine n1 110 false (hc := kVi1.h {}) (k := ?_)
  refine n1 120 false (hc := kVi1.h {}) (k := ?_)
  refine n1 130 false (hc := kVi1.h {}) (k := ?_)
  refine nil0 ?_
  refine cl [1, 2, 3] (k := ?_)
  repeat refine gwp_seq ?_
  refine gwp_region ?_
  refine df0 (k := ?_)
  refine nil0 ?_
  refine cl [1, 2, 3] (k := ?_)
  repeat refine gwp_seq ?_
  refine gwp_region ?_
  refine v0 (k := ?_)
  refine oc0 [(220, 5000)] [] [0] none (spec := s_open_t f hv) (hent := ent40) (hgr := by (simp only [G.ren, G.rens, rens_p, Gh.look, Nat.reduceEqDiff, reduceIte] <;> rfl)) (k := ?_)
  refine v0 (k := ?_)
  refine nil0 ?_
  refine cl [2, 3, 4] (k := ?_)
  repeat refine gwp_seq ?_
  refine gwp_region ?_
  refine v0 (k := ?_)
  refine oc0 [(0, 5000)] [] [0] none (spec := s_mkList f hv) (hent := ent51) (k := ?_)
  refine n1 150 false (hc := kVi1.h {}) (k := ?_)
  refine s1 (hc := kVi1.h {}) (k := ?_)
  refine nil0 ?_
  refine cl [2, 3, 4, 5] (k := ?_)
  repeat refine gwp_seq ?_
  refine rd ?_
  refine d0 0 (k := ?_)
  refine doc0 1 [] [] [14] none (spec := s_sets f) (hent := ent50) (k := ?_)
  refine d0 2 (k := ?_)
  refine dp1 3 5 160 [0, 1, 0, 7, 15, 0, 63] false (hc := by (first | exact True.intro | omega | (simp only [inI]; omega) | (simp [P.size, pS, all_int, allOne_p, goods_p, allOne, goods, good, G.one, P.one, P.cells] <;> first | omega | assumption | simp_all))) (k1 := ?_) (k2 := ?_)
  · refine dpe [] [] [0, 0] none (spec := s_first_n f hv hw) (hent := ent49) (k := ?_)
    repeat (first | refine gthen_panic ?_ | refine gblock_panic ?_)
    refine finD_panic ?_
    refine ocall [130] [(0, 130)] (spec := d_some 0 4) (hent := ent39) (h := ?_)
    refine out_nil ?_
    refine fp2 (hR := ?_)
    rfl
  refine dpe [] [] [0, 0] none (spec := s_first_n f hv hw) (hent := ent49) (k := ?_)
  repeat (first | refine gthen_panic ?_ | refine gblock_panic ?_)
  refine finD_panic ?_
  refine ocall [130] [(0, 130)] (spec := d_some 0 4) (hent := ent39) (h := ?_)
  refine out_nil ?_
  refine fp2 (hR := ?_)
  rfl
theorem p_lists_f {E : Env Try.prog} {A : E.α} (f : Fd) (hl : f.ps.length ≤ 1048576) (hv : f.valid = false) : Gh.Spec E 22 [.p (.agg [.list (f.ps.map pS), .int .i64 f.el, .int .i64 f.eh, .int .i64 f.nl, .int .i64 f.nh, .int .i64 f.dl, .int .i64 f.dh, .int .i64 f.dep, .int .i64 f.tm, .int .i64 f.gp])] (mkHp []) A (fun y => y = .ok (.p (.tuple [.int .i64 0, .int .i64 1])) (mkHp []) A) := by
  refine specD_of Try.func22 (rfl : Try.f22.body = some _) (Nat.le_of_ble_eq_true rfl) (fun id h => ?_) (fun j id h => ?_) ?_
  · exact wf1x h
  · exact wf2x h
  intro C hN hL
  replace hN : C.N = 32 := hN
  simp only [Gh.num, List.map_cons, List.map_nil, Nat.reduceAdd]
  repeat refine gwp_seq ?_
  refine gwp_region ?_
  refine n1 110 false (hc := kVi1.h {}) (k := ?_)
  refine n1 120 false (hc := kVi1.h {}) (k := ?_)
  refine n1 130 false (hc := kVi1.h {}) (k := ?_)
  refine nil0 ?_
  refine cl [1, 2, 3] (k := ?_)
  repeat refine gwp_seq ?_
  refine gwp_region ?_
  refine df0 (k := ?_)
  refine nil0 ?_
  refine cl [1, 2, 3] (k := ?_)
  repeat refine gwp_seq ?_
  refine gwp_region ?_
  refine v0 (k := ?_)
  refine op0 [] [] [0] none (spec := s_open_f f hl hv) (hent := ent40) (k := ?_)
  repeat (first | refine gthen_panic ?_ | refine gblock_panic ?_)
  refine finD_panic ?_
  refine ocall [130] [(0, 130)] (spec := d_some 0 1) (hent := ent39) (h := ?_)
  refine out_nil ?_
  refine fp2 (hR := ?_)
  rfl
theorem less_lt (f : Fd) {k : Nat} (hu : usedN f f.ps.length < 4096) : lessN f k < 4096 := Nat.lt_of_le_of_lt Nat.and_le_left hu
theorem need_or {s k : Nat} (hs : s < 4096) (hk : k < 12) : bitop .or .i64 (s : Int) (IntKind.i64.wrap (1 * 2 ^ min k IntKind.i64.bits)) = ((s ||| 2 ^ k : Nat) : Int) := by
  have h2 : 2 ^ k < 2 ^ 12 := Nat.pow_lt_pow_right (by omega) hk
  rw [shl_b k (by omega)]
  exact bitop_or_i64 s (2 ^ k) (by omega) (by omega)
theorem ent24 : Enters Try.prog 24 := Enters.mk Try.func24 (by kernel_rfl) rfl
theorem p_need_t {E : Env Try.prog} {A : E.α} (f : Fd) (hv : f.valid = true) (hq : (listQ f (usedN f f.ps.length)) = true) : Gh.Spec E 24 [.p (.agg [.list (f.ps.map pS), .int .i64 f.el, .int .i64 f.eh, .int .i64 f.nl, .int .i64 f.nh, .int .i64 f.dl, .int .i64 f.dh, .int .i64 f.dep, .int .i64 f.tm, .int .i64 f.gp])] (mkHp []) A (fun y => y = .ok (.p (.tuple [.int .i64 (needN f f.ps.length : Nat), .int .i64 0])) (mkHp []) A) := by
  refine specD_of Try.func24 (rfl : Try.f24.body = some _) (Nat.le_of_ble_eq_true rfl) (fun id h => ?_) (fun j id h => ?_) ?_
  · exact wf1x h
  · exact wf2x h
  intro C hN hL
  replace hN : C.N = 51 := hN
  simp only [Gh.num, List.map_cons, List.map_nil, Nat.reduceAdd]
  have hn := valid_num hv
  have hu := used_lt f (k := f.ps.length) (by omega)
  repeat refine gwp_seq ?_
  refine gwp_region ?_
  refine n1 110 false (hc := kVi1.h {}) (k := ?_)
  refine v0 (k := ?_)
  refine n1 130 false (hc := kVi1.h {}) (k := ?_)
  refine nil0 ?_
  refine cl [1, 2, 3] (k := ?_)
  repeat refine gwp_seq ?_
  refine gwp_region ?_
  refine df0 (k := ?_)
  refine nil0 ?_
  refine cl [1, 2, 3] (k := ?_)
  repeat refine gwp_seq ?_
  refine gwp_region ?_
  refine v0 (k := ?_)
  refine oc0 [(220, 5000)] [] [0] none (spec := s_open_t f hv) (hent := ent40) (hgr := by (simp only [G.ren, G.rens, rens_p, Gh.look, Nat.reduceEqDiff, reduceIte] <;> rfl)) (k := ?_)
  refine v0 (k := ?_)
  refine nil0 ?_
  refine cl [1, 2, 3, 4] (k := ?_)
  repeat refine gwp_seq ?_
  refine rd ?_
  refine da0 0 (k := ?_)
  refine doc0 1 [(0, 5000)] [] [0] none (spec := s_mkList f hv) (hent := ent51) (k := ?_)
  refine da0 2 (k := ?_)
  refine da0 3 (k := ?_)
  refine da0 4 (k := ?_)
  refine da0 5 (k := ?_)
  refine d0 6 (k := ?_)
  refine da0 7 (k := ?_)
  refine da0 8 (k := ?_)
  refine dz 9 [0, 1, 0, 4, 12, 28, 60, 3, 255] (h := ?_)
  refine de 9 (h := ?_)
  refine cl [1, 2, 3, 4, 5, 6] (k := ?_)
  repeat refine gwp_seq ?_
  refine gwp_region ?_
  refine v0 (k := ?_)
  refine v0 (k := ?_)
  refine v0 (k := ?_)
  refine v0 (k := ?_)
  refine v0 (k := ?_)
  refine oc0 [] [] [0, 0, 0] none (spec := s_isList f hv (usedN f f.ps.length) hu) (hent := ent78) (k := ?_)
  refine rb 22 true (h := by (exact hq)) (k := ?_)
  refine pc0 (spec := s_must_t _) (hent := ent43) (k := ?_)
  refine nil0 ?_
  refine cl [1, 2, 3, 4, 5, 6] (k := ?_)
  repeat refine gwp_seq ?_
  refine gwp_region ?_
  refine v0 (k := ?_)
  refine v0 (k := ?_)
  refine v0 (k := ?_)
  refine v0 (k := ?_)
  refine nil0 ?_
  refine cl [2, 3, 4, 5, 6, 26, 27] (k := ?_)
  repeat refine gwp_seq ?_
  refine gwp_block ?_
  repeat refine gwp_seq ?_
  refine gc_loop (fun mz σ => ∃ k : Nat, (k ≤ f.ps.length) ∧ mz = f.ps.length - k ∧ σ = (sg [(2, .p (.int .i64 (needN f k : Nat))), (3, .ref 130 0), (4, .ptr [.p (.list (f.ps.map pS)), .p (.int .i64 f.el), .p (.int .i64 f.eh), .p (.int .i64 f.nl), .p (.int .i64 f.nh), .p (.int .i64 f.dl), .p (.int .i64 f.dh), .p (.int .i64 f.dep), .p (.int .i64 f.tm), .p (.int .i64 f.gp), .p (.int .u64 (usedN f f.ps.length : Nat)), .map 5000]), (5, .fn (.func 78) [] [.ptr [.p (.list ((kindsL f).map fun s : Nat => P.int .u64 (s : Int)))], .ptr [.ptr [.p (.list (f.ps.map pS)), .p (.int .i64 f.el), .p (.int .i64 f.eh), .p (.int .i64 f.nl), .p (.int .i64 f.nh), .p (.int .i64 f.dl), .p (.int .i64 f.dh), .p (.int .i64 f.dep), .p (.int .i64 f.tm), .p (.int .i64 f.gp)]]]), (6, .p (.fn (.func 55) [.int .u64 ((usedN f f.ps.length) : Nat)] [])), (26, .p (.int .i64 (f.ps.length : Nat))), (27, .p (.int .i64 (k : Nat)))] [(130, .cells [.p (.int .i64 0)] 0), (5000, .map (plM f f.ps.length))] A [.call 39 [.ref 130 0] []] : Sg E)) ?_ (fun mz σ hI => ?_)
  · refine lbeg [2, 3, 4, 5, 6, 26, 27] (hV := ?_)
    exact ⟨_, 0, by omega, rfl, rfl⟩
  obtain ⟨k, hk, hnn, rfl⟩ := hI
  repeat refine gwp_seq ?_
  refine gwp_region ?_
  refine v0 (k := ?_)
  refine nil0 ?_
  repeat refine gwp_seq ?_
  refine cB (k1 := fun hb1 => ?_) (k0 := fun hb1 => ?_)
  · replace hb1 := hB.h {} hb1
    try rw [eqI] at hb1
    repeat refine gwp_seq ?_
    refine gwp_skip ?_
    refine cl [2, 3, 4, 5, 6, 26, 27] (k := ?_)
    repeat refine gwp_seq ?_
    refine gwp_block ?_
    repeat refine gwp_seq ?_
    have hsl := need_lt f (k := k) (by omega)
    have hor := need_or hsl (show k < 12 by omega)
    have hll := less_lt f (k := k) hu
    refine gwp_region ?_
    refine v0 (k := ?_)
    refine v0 (k := ?_)
    refine nil0 ?_
    refine cl [2, 3, 4, 5, 6, 7, 26, 27] (k := ?_)
    repeat refine gwp_seq ?_
    have hsh : IntKind.u64.wrap (1 * 2 ^ min k IntKind.u64.bits) = ((2 ^ k : Nat) : Int) := shl1_u64 k (by omega)
    have hpk : 2 ^ k < 2 ^ 62 := Nat.pow_lt_pow_right (by omega) (by omega)
    have han : bitop .andNot .u64 ((usedN f f.ps.length) : Nat) ((2 ^ k : Nat) : Int) = (lessN f k : Nat) := bitop_andNot_u64 (usedN f f.ps.length) (2 ^ k) (by omega) (by omega)
    refine rd ?_
    refine da0 0 (k := ?_)
    refine da0 1 (k := ?_)
    refine dpc0 2 (spec := s_has (usedN f f.ps.length) k (by omega) (by omega)) (hent := ent55) (k := ?_)
    refine da0 3 (k := ?_)
    refine db0 4 33 (k1 := fun hb2 => ?_) (k0 := fun hb2 => ?_)
    · replace hb2 := hB.h {} hb2
      try rw [eqI] at hb2
      refine dw0 4 (k := ?_)
      refine dw0 5 (k := ?_)
      refine dw0 6 (k := ?_)
      refine dw0 7 (k := ?_)
      refine dw0 8 (k := ?_)
      refine dw0 9 (k := ?_)
      refine dw1 10 (hc := kVi1.h {}) (k := ?_)
      refine dw0 11 (k := ?_)
      refine docw 12 [] [] [0, 0, 0] none (spec := s_isList f hv (lessN f k) hll) (hent := ent78) (j := 3) (b := true) (i' := 33) (k := ?_)
      refine dw0 13 (k := ?_)
      refine da0 14 (k := ?_)
      refine dz 15 [0, 0, 3, 7, 15, 15, 47, 111, 239, 15, 527, 2031, 4095, 8191, 16383] (h := ?_)
      refine de 15 (h := ?_)
      repeat refine gwp_seq ?_
      refine cB (k1 := fun hb3 => ?_) (k0 := fun hb3 => ?_)
      · replace hb3 := hB.h {} hb3
        try rw [eqI] at hb3
        repeat refine gwp_seq ?_
        refine gwp_region ?_
        refine v0 (k := ?_)
        refine v0 (k := ?_)
        refine v1 (hc := kVi1.h {}) (k := ?_)
        refine v0 (k := ?_)
        refine v0 (k := ?_)
        refine nil0 ?_
        refine cl [2, 3, 4, 5, 6, 26, 27] (k := ?_)
        repeat refine gwp_seq ?_
        refine gwp_region ?_
        refine v1 (hc := kVi1.h {}) (k := ?_)
        refine v0 (k := ?_)
        refine nil0 ?_
        refine lend [2, 3, 4, 5, 6, 26, 27] (h := ?_) (hV := ?_) (n' := f.ps.length - (k + 1))
        · omega
        first
        | exact ⟨k + 1, by omega, rfl, sgE (by rw [need_t (by assumption) (by assumption), ← hor]; rfl) rfl⟩
        | exact ⟨k + 1, by omega, rfl, sgE (by rw [need_f1 (by assumption)]; rfl) rfl⟩
        | exact ⟨k + 1, by omega, rfl, sgE (by rw [need_f2 (by assumption)]; rfl) rfl⟩
      replace hb3 := hB.h {} hb3
      try rw [eqI] at hb3
      repeat refine gwp_seq ?_
      refine gwp_skip ?_
      refine cl [2, 3, 4, 5, 6, 26, 27] (k := ?_)
      repeat refine gwp_seq ?_
      refine gwp_region ?_
      refine v1 (hc := kVi1.h {}) (k := ?_)
      refine v0 (k := ?_)
      refine nil0 ?_
      refine lend [2, 3, 4, 5, 6, 26, 27] (h := ?_) (hV := ?_) (n' := f.ps.length - (k + 1))
      · omega
      first
      | exact ⟨k + 1, by omega, rfl, sgE (by rw [need_t (by assumption) (by assumption), ← hor]; rfl) rfl⟩
      | exact ⟨k + 1, by omega, rfl, sgE (by rw [need_f1 (by assumption)]; rfl) rfl⟩
      | exact ⟨k + 1, by omega, rfl, sgE (by rw [need_f2 (by assumption)]; rfl) rfl⟩
    replace hb2 := hB.h {} hb2
    try rw [eqI] at hb2
    refine dx0 4 (k := ?_)
    refine dx0 5 (k := ?_)
    refine dx0 6 (k := ?_)
    refine dx0 7 (k := ?_)
    refine dx0 8 (k := ?_)
    refine dx0 9 (k := ?_)
    refine dx0 10 (k := ?_)
    refine dx0 11 (k := ?_)
    refine dx0 12 (k := ?_)
    refine dx0 13 (k := ?_)
    refine da0 14 (k := ?_)
    refine dz 15 [0, 0, 3, 7, 15, 15, 47, 111, 239, 15, 527, 2031, 4095, 8191, 16383] (h := ?_)
    refine de 15 (h := ?_)
    repeat refine gwp_seq ?_
    refine cF (k := ?_)
    repeat refine gwp_seq ?_
    refine gwp_skip ?_
    refine cl [2, 3, 4, 5, 6, 26, 27] (k := ?_)
    repeat refine gwp_seq ?_
    refine gwp_region ?_
    refine v1 (hc := kVi1.h {}) (k := ?_)
    refine v0 (k := ?_)
    refine nil0 ?_
    refine lend [2, 3, 4, 5, 6, 26, 27] (h := ?_) (hV := ?_) (n' := f.ps.length - (k + 1))
    · omega
    first
    | exact ⟨k + 1, by omega, rfl, sgE (by rw [need_t (by assumption) (by assumption), ← hor]; rfl) rfl⟩
    | exact ⟨k + 1, by omega, rfl, sgE (by rw [need_f1 (by assumption)]; rfl) rfl⟩
    | exact ⟨k + 1, by omega, rfl, sgE (by rw [need_f2 (by assumption)]; rfl) rfl⟩
  replace hb1 := hB.h {} hb1
  try rw [eqI] at hb1
  repeat refine gwp_seq ?_
  refine gwp_exit ?_
  repeat (first | refine gthen_exit ?_ | refine gnoGoto_exit ?_ | refine gblock_here ?_ | refine gblock_out rfl ?_)
  refine cl [2, 3] (k := ?_)
  repeat refine gwp_seq ?_
  obtain rfl : k = f.ps.length := by omega
  refine gwp_region ?_
  refine v0 (k := ?_)
  refine v0 (k := ?_)
  refine s1 (hc := kVi1.h {}) (k := ?_)
  refine nil0 ?_
  repeat refine gwp_seq ?_
  refine gwp_ret ?_
  repeat (first | refine gthen_ret ?_ | refine gblock_ret ?_ | refine gnoGoto_ret ?_)
  refine finD_ret ?_
  refine ocall [130] [(0, 130)] (spec := d_none 0) (hent := ent39) (h := ?_)
  refine out_nil ?_
  refine fp2 (hR := ?_)
  rfl
theorem p_need_n {E : Env Try.prog} {A : E.α} (f : Fd) (hv : f.valid = true) (hq : (listQ f (usedN f f.ps.length)) = false) : Gh.Spec E 24 [.p (.agg [.list (f.ps.map pS), .int .i64 f.el, .int .i64 f.eh, .int .i64 f.nl, .int .i64 f.nh, .int .i64 f.dl, .int .i64 f.dh, .int .i64 f.dep, .int .i64 f.tm, .int .i64 f.gp])] (mkHp []) A (fun y => y = .ok (.p (.tuple [.int .i64 0, .int .i64 4])) (mkHp []) A) := by
  refine specD_of Try.func24 (rfl : Try.f24.body = some _) (Nat.le_of_ble_eq_true rfl) (fun id h => ?_) (fun j id h => ?_) ?_
  · exact wf1x h
  · exact wf2x h
  intro C hN hL
  replace hN : C.N = 51 := hN
  simp only [Gh.num, List.map_cons, List.map_nil, Nat.reduceAdd]
  have hn := valid_num hv
  have hu := used_lt f (k := f.ps.length) (by omega)
  repeat refine gwp_seq ?_
  refine gwp_region ?_
  refine n1 110 false (hc := kVi1.h {}) (k := ?_)
  refine v0 (k := ?_)
  refine n1 130 false (hc := kVi1.h {}) (k := ?_)
  refine nil0 ?_
  refine cl [1, 2, 3] (k := ?_)
  repeat refine gwp_seq ?_
  refine gwp_region ?_
  refine df0 (k := ?_)
  refine nil0 ?_
  refine cl [1, 2, 3] (k := ?_)
  repeat refine gwp_seq ?_
  refine gwp_region ?_
  refine v0 (k := ?_)
  refine oc0 [(220, 5000)] [] [0] none (spec := s_open_t f hv) (hent := ent40) (hgr := by (simp only [G.ren, G.rens, rens_p, Gh.look, Nat.reduceEqDiff, reduceIte] <;> rfl)) (k := ?_)
  refine v0 (k := ?_)
  refine nil0 ?_
  refine cl [1, 2, 3, 4] (k := ?_)
  repeat refine gwp_seq ?_
  refine rd ?_
  refine da0 0 (k := ?_)
  refine doc0 1 [(0, 5000)] [] [0] none (spec := s_mkList f hv) (hent := ent51) (k := ?_)
  refine da0 2 (k := ?_)
  refine da0 3 (k := ?_)
  refine da0 4 (k := ?_)
  refine da0 5 (k := ?_)
  refine d0 6 (k := ?_)
  refine da0 7 (k := ?_)
  refine da0 8 (k := ?_)
  refine dz 9 [0, 1, 0, 4, 12, 28, 60, 3, 255] (h := ?_)
  refine de 9 (h := ?_)
  refine cl [1, 2, 3, 4, 5, 6] (k := ?_)
  repeat refine gwp_seq ?_
  refine gwp_region ?_
  refine v0 (k := ?_)
  refine v0 (k := ?_)
  refine v0 (k := ?_)
  refine v0 (k := ?_)
  refine v0 (k := ?_)
  refine oc0 [] [] [0, 0, 0] none (spec := s_isList f hv (usedN f f.ps.length) hu) (hent := ent78) (k := ?_)
  refine rb 22 false (h := by (exact hq)) (k := ?_)
  refine pp0 (spec := s_must_f _) (hent := ent43) (k := ?_)
  repeat (first | refine gthen_panic ?_ | refine gblock_panic ?_)
  refine finD_panic ?_
  refine ocall [130] [(0, 130)] (spec := d_some 0 4) (hent := ent39) (h := ?_)
  refine out_nil ?_
  refine fp2 (hR := ?_)
  rfl
theorem p_need_f {E : Env Try.prog} {A : E.α} (f : Fd) (hl : f.ps.length ≤ 1048576) (hv : f.valid = false) : Gh.Spec E 24 [.p (.agg [.list (f.ps.map pS), .int .i64 f.el, .int .i64 f.eh, .int .i64 f.nl, .int .i64 f.nh, .int .i64 f.dl, .int .i64 f.dh, .int .i64 f.dep, .int .i64 f.tm, .int .i64 f.gp])] (mkHp []) A (fun y => y = .ok (.p (.tuple [.int .i64 0, .int .i64 1])) (mkHp []) A) := by
  refine specD_of Try.func24 (rfl : Try.f24.body = some _) (Nat.le_of_ble_eq_true rfl) (fun id h => ?_) (fun j id h => ?_) ?_
  · exact wf1x h
  · exact wf2x h
  intro C hN hL
  replace hN : C.N = 51 := hN
  simp only [Gh.num, List.map_cons, List.map_nil, Nat.reduceAdd]
  repeat refine gwp_seq ?_
  refine gwp_region ?_
  refine n1 110 false (hc := kVi1.h {}) (k := ?_)
  refine v0 (k := ?_)
  refine n1 130 false (hc := kVi1.h {}) (k := ?_)
  refine nil0 ?_
  refine cl [1, 2, 3] (k := ?_)
  repeat refine gwp_seq ?_
  refine gwp_region ?_
  refine df0 (k := ?_)
  refine nil0 ?_
  refine cl [1, 2, 3] (k := ?_)
  repeat refine gwp_seq ?_
  refine gwp_region ?_
  refine v0 (k := ?_)
  refine op0 [] [] [0] none (spec := s_open_f f hl hv) (hent := ent40) (k := ?_)
  repeat (first | refine gthen_panic ?_ | refine gblock_panic ?_)
  refine finD_panic ?_
  refine ocall [130] [(0, 130)] (spec := d_some 0 1) (hent := ent39) (h := ?_)
  refine out_nil ?_
  refine fp2 (hR := ?_)
  rfl
end Go.Proofs.Ytabeeaiilanmjaa
