/- The statement ChainMore: the call returns true for every input, and its arguments read as before; no condition. -/
import Derived.Test.YtagdholenfkeaaaC1
set_option linter.unusedVariables false
set_option linter.unusedSimpArgs false
/- The statement ChainMore. -/
namespace Go.Proofs.Ytagdholenfkeaaa
open Go.Gh
set_option maxRecDepth 100000
set_option maxHeartbeats 4000000
structure kLm1 (c : Prop) : Prop where
  h : c := by (first | exact True.intro | omega | (simp [List.length_append] <;> omega) | (simp only [inI]; omega) | (simp [P.size, pr, pk, all_int, allOne_p, goods_p, allOne, goods, good, G.one, P.one, P.cells] <;> first | omega | assumption | simp_all))
theorem nd_t {p : Prop} [Decidable p] (h : ¬ p) : (!decide p) = true := by rw [decide_eq_false h]; rfl
theorem nd_f {p : Prop} [Decidable p] (h : p) : (!decide p) = false := by rw [decide_eq_true h]; rfl
theorem x_chain (c : Ch) (z : Kw) (h1 : c.kn.length ≤ 60) (h2 : c.rs.length ≤ 60) : PSpec Try.prog 35 [.agg [.int .i64 c.pl, .int .i64 c.ps, .list (c.kn.map pk ++ [.agg [.int .i64 z.a, .int .i64 z.b]]), .list (c.rs.map pr), .int .i64 c.ms]] (.ok (.bool (c.wide z).valid)) := by
  have h := r_chain (c.wide z) (by simp only [Ch.wide, List.length_append, List.length_cons, List.length_nil]; omega) (by simp only [Ch.wide]; omega)
  simp only [Ch.wide, List.map_append, List.map_cons, List.map_nil] at h ⊢
  exact h
theorem x_path (c : Ch) (z : Kw) (h1 : c.kn.length ≤ 60) (h2 : c.rs.length ≤ 60) (x w : Int) : PSpec Try.prog 19 [.agg [.int .i64 c.pl, .int .i64 c.ps, .list (c.kn.map pk ++ [.agg [.int .i64 z.a, .int .i64 z.b]]), .list (c.rs.map pr), .int .i64 c.ms], .int .i64 x, .int .i64 w] (.ok (.tuple [.list (intL (pathA (c.wide z) x w).1), .int .i64 (pathA (c.wide z) x w).2])) := by
  have h := c_path (c.wide z) (by simp only [Ch.wide, List.length_append, List.length_cons, List.length_nil]; omega) (by simp only [Ch.wide]; omega) x w
  simp only [Ch.wide, List.map_append, List.map_cons, List.map_nil] at h ⊢
  exact h
theorem x_least (c : Ch) (z : Kw) (h1 : c.kn.length ≤ 60) (h2 : c.rs.length ≤ 60) : PSpec Try.prog 21 [.agg [.int .i64 c.pl, .int .i64 c.ps, .list (c.kn.map pk ++ [.agg [.int .i64 z.a, .int .i64 z.b]]), .list (c.rs.map pr), .int .i64 c.ms]] (.ok (.tuple [.int .i64 (leastA (c.wide z)).1, .int .i64 (leastA (c.wide z)).2])) := by
  have h := c_least (c.wide z) (by simp only [Ch.wide, List.length_append, List.length_cons, List.length_nil]; omega) (by simp only [Ch.wide]; omega)
  simp only [Ch.wide, List.map_append, List.map_cons, List.map_nil] at h ⊢
  exact h
theorem bxn (b : Bool) : (!(b == b)) = false := by cases b <;> rfl
theorem ent11 : Enters Try.prog 11 := Enters.mk Try.func11 (by kernel_rfl) rfl
theorem l_more (c : Ch) (z : Kw) (x y : Int) : PSpec Try.prog 11 [.agg [.int .i64 c.pl, .int .i64 c.ps, .list (c.kn.map pk), .list (c.rs.map pr), .int .i64 c.ms], .agg [.int .i64 z.a, .int .i64 z.b], .int .i64 x, .int .i64 y] (.ok (.bool true)) := by
  refine pspec_of Try.func11 (rfl : Try.f11.body = some _) rfl ?_
  intro E A C hN hL
  replace hN : C.N = 222 := hN
  simp only [Gh.num, List.map_cons, List.map_nil, Nat.reduceAdd]
  have hdt : ∀ (i : Decidable True), @decide True i = true := fun i => decide_eq_true trivial
  have hdf : ∀ (i : Decidable False), @decide False i = false := fun i => decide_eq_false id
  have hbt : (true == true) = true := rfl
  have hbf : (false == false) = true := rfl
  have htf : (true == false) = false := rfl
  have hft : (false == true) = false := rfl
  have hpk : ∀ k : Kw, pk k = P.agg [.int .i64 k.a, .int .i64 k.b] := fun _ => rfl
  have hpr : ∀ r : Rc, pr r = P.agg [.int .i64 r.p, .int .i64 r.f, .int .i64 r.t] := fun _ => rfl
  repeat refine gwp_seq ?_
  refine gwp_region ?_
  refine n1 140 false (hc := kLm1.h {}) (k := ?_)
  refine n1 150 false (hc := kLm1.h {}) (k := ?_)
  refine v0 (k := ?_)
  refine nil0 ?_
  refine cl [2, 3, 4, 5] (k := ?_)
  repeat refine gwp_seq ?_
  refine gwp_region ?_
  refine v0 (k := ?_)
  refine pc0 (spec := l_great c 9) (hent := ent13) (k := ?_)
  refine v0 (k := ?_)
  refine b0 (k1 := fun hb1 => ?_) (k0 := fun hb1 => ?_)
  · replace hb1 := hB.h {} hb1
    try rw [eqI] at hb1
    refine x0 (k := ?_)
    refine x0 (k := ?_)
    refine x0 (k := ?_)
    refine v0 (k := ?_)
    refine nil0 ?_
    repeat refine gwp_seq ?_
    refine cT (k := ?_)
    repeat refine gwp_seq ?_
    refine gwp_region ?_
    refine pc0 (spec := l_alive) (hent := ent14) (k := ?_)
    refine v0 (k := ?_)
    refine nil0 ?_
    repeat refine gwp_seq ?_
    refine gwp_ret ?_
    repeat (first | refine gthen_ret ?_ | refine gblock_ret ?_ | refine gnoGoto_ret ?_)
    refine fin_ret ?_
    refine fp (hR := ?_)
    rfl
  · replace hb1 := hB.h {} hb1
    try rw [eqI] at hb1
    obtain ⟨hk6, hr6⟩ := great_len (by assumption)
    refine w0 (k := ?_)
    refine pcw (spec := r_chain c (by omega) (by omega)) (hent := ent35) (k := ?_)
    refine w0 (k := ?_)
    refine v0 (k := ?_)
    refine nil0 ?_
    repeat refine gwp_seq ?_
    refine cB (k1 := fun hb2 => ?_) (k0 := fun hb2 => ?_)
    · replace hb2 := hB.h {} hb2
      try rw [eqI] at hb2
      repeat refine gwp_seq ?_
      refine gwp_region ?_
      refine pc0 (spec := l_alive) (hent := ent14) (k := ?_)
      refine v0 (k := ?_)
      refine nil0 ?_
      repeat refine gwp_seq ?_
      refine gwp_ret ?_
      repeat (first | refine gthen_ret ?_ | refine gblock_ret ?_ | refine gnoGoto_ret ?_)
      refine fin_ret ?_
      refine fp (hR := ?_)
      rfl
    · replace hb2 := hB.h {} hb2
      try rw [eqI] at hb2
      repeat refine gwp_seq ?_
      refine gwp_skip ?_
      refine cl [2, 3, 4, 5] (k := ?_)
      repeat refine gwp_seq ?_
      have hv : c.valid = true := by assumption
      have hvm := more_valid hv
      have h1m : c.more.kn.length ≤ 1048576 := by show c.kn.length ≤ 1048576; omega
      have h2m : c.more.rs.length ≤ 1048576 := by show c.rs.length ≤ 1048576; omega
      obtain ⟨hw1, hw2, h128, h0⟩ := more_whr hv x
      have hn := valid_num hv
      have hdp := drop_more hv
      have hd1 : dropV c < 4096 := Nat.lt_of_le_of_lt (drop_min hv).1 (allS_lt (by omega))
      have hd2 : dropV c.more < 4096 := Nat.lt_of_le_of_lt (drop_min hvm).1 (allS_lt (show c.rs.length ≤ 12 by omega))
      refine rd ?_
      refine d0 0 (k := ?_)
      refine d0 1 (k := ?_)
      refine dn1 2 190 false (hc := kLm1.h {}) (k := ?_)
      refine dn1 3 200 false (hc := kLm1.h {}) (k := ?_)
      refine ds1 4 (hc := kLm1.h {}) (k := ?_)
      refine ds1 5 (hc := kLm1.h {}) (k := ?_)
      refine dz 6 [0, 0, 0, 0, 13, 31] (h := ?_)
      refine de 6 (h := ?_)
      refine cl [2, 3, 4, 5, 9, 10] (k := ?_)
      repeat refine gwp_seq ?_
      refine gwp_region ?_
      refine v0 (k := ?_)
      refine v0 (k := ?_)
      refine v1 (hc := kLm1.h {}) (k := ?_)
      refine v0 (k := ?_)
      refine v0 (k := ?_)
      refine s1 (hc := kLm1.h {}) (k := ?_)
      refine nil0 ?_
      refine cl [2, 3, 4, 5, 9, 10] (k := ?_)
      repeat refine gwp_seq ?_
      refine rd ?_
      refine dn1 0 580 false (hc := kLm1.h {}) (k := ?_)
      refine d0 1 (k := ?_)
      refine d0 2 (k := ?_)
      refine dn1 3 610 false (hc := kLm1.h {}) (k := ?_)
      refine d0 4 (k := ?_)
      refine dn1 5 630 false (hc := kLm1.h {}) (k := ?_)
      refine dn1 6 640 false (hc := kLm1.h {}) (k := ?_)
      refine d0 7 (k := ?_)
      refine ds1 8 (hc := kLm1.h {}) (k := ?_)
      refine dz 9 [0, 0, 2, 7, 0, 16, 63, 127, 255] (h := ?_)
      refine de 9 (h := ?_)
      refine cl [2, 3, 4, 9, 10] (k := ?_)
      repeat refine gwp_seq ?_
      refine gwp_region ?_
      refine v0 (k := ?_)
      refine v0 (k := ?_)
      refine pc0 (spec := c_where c (by omega) (by omega) x) (hent := ent24) (k := ?_)
      refine v0 (k := ?_)
      refine v0 (k := ?_)
      refine v0 (k := ?_)
      refine v0 (k := ?_)
      refine v0 (k := ?_)
      refine nil0 ?_
      refine cl [2, 3, 4, 9, 10, 11, 12] (k := ?_)
      repeat refine gwp_seq ?_
      refine gwp_region ?_
      refine v0 (k := ?_)
      refine v0 (k := ?_)
      refine pc0 (spec := c_where c.more h1m h2m x) (hent := ent24) (k := ?_)
      refine v0 (k := ?_)
      refine v0 (k := ?_)
      refine v0 (k := ?_)
      refine v0 (k := ?_)
      refine v0 (k := ?_)
      refine nil0 ?_
      refine cl [2, 3, 4, 9, 10, 11, 12, 13, 14] (k := ?_)
      repeat refine gwp_seq ?_
      refine gwp_region ?_
      refine v0 (k := ?_)
      refine v0 (k := ?_)
      refine pc0 (spec := c_hands c (by omega) (by omega) x) (hent := ent26) (k := ?_)
      refine v0 (k := ?_)
      refine v0 (k := ?_)
      refine v0 (k := ?_)
      refine v0 (k := ?_)
      refine v0 (k := ?_)
      refine v0 (k := ?_)
      refine v0 (k := ?_)
      refine nil0 ?_
      refine cl [2, 3, 4, 9, 10, 11, 12, 13, 14, 15, 16, 17] (k := ?_)
      repeat refine gwp_seq ?_
      refine gwp_region ?_
      refine v0 (k := ?_)
      refine v0 (k := ?_)
      refine pc0 (spec := c_hands c.more h1m h2m x) (hent := ent26) (k := ?_)
      refine v0 (k := ?_)
      refine v0 (k := ?_)
      refine v0 (k := ?_)
      refine v0 (k := ?_)
      refine v0 (k := ?_)
      refine v0 (k := ?_)
      refine v0 (k := ?_)
      refine nil0 ?_
      refine cl [2, 3, 4, 9, 10, 11, 12, 13, 14, 15, 16, 17, 18, 19, 20] (k := ?_)
      repeat refine gwp_seq ?_
      refine gwp_region ?_
      refine v0 (k := ?_)
      refine pc0 (spec := w_drop c hv) (hent := ent30) (k := ?_)
      refine v0 (k := ?_)
      refine v0 (k := ?_)
      refine v0 (k := ?_)
      refine v0 (k := ?_)
      refine v0 (k := ?_)
      refine nil0 ?_
      refine cl [2, 3, 4, 9, 10, 11, 12, 13, 14, 15, 16, 17, 18, 19, 20, 21, 22] (k := ?_)
      repeat refine gwp_seq ?_
      refine gwp_region ?_
      refine v0 (k := ?_)
      refine pc0 (spec := w_drop c.more hvm) (hent := ent30) (k := ?_)
      refine v0 (k := ?_)
      refine v0 (k := ?_)
      refine v0 (k := ?_)
      refine v0 (k := ?_)
      refine v0 (k := ?_)
      refine nil0 ?_
      refine cl [2, 3, 4, 10, 11, 12, 13, 14, 15, 16, 17, 18, 19, 20, 21, 22, 23, 24] (k := ?_)
      repeat refine gwp_seq ?_
      refine gwp_region ?_
      refine v0 (k := ?_)
      refine v0 (k := ?_)
      refine v0 (k := ?_)
      refine rb 94 false (h := by (first | with_reducible rfl | exact decide_eq_false (by omega) | exact nd_f (by omega) | rfl | decide)) (k := ?_)
      refine v0 (k := ?_)
      refine w0 (k := ?_)
      refine w0 (k := ?_)
      refine w0 (k := ?_)
      refine rb 98 false (h := by (first | with_reducible rfl | exact decide_eq_false (by omega) | exact nd_f (by omega) | rfl | decide)) (k := ?_)
      refine v0 (k := ?_)
      refine v0 (k := ?_)
      refine w0 (k := ?_)
      refine w0 (k := ?_)
      refine rb 102 false (h := by (first | with_reducible rfl | exact decide_eq_false (by omega) | exact nd_f (by omega) | rfl | decide)) (k := ?_)
      refine v0 (k := ?_)
      refine v0 (k := ?_)
      refine w0 (k := ?_)
      refine w0 (k := ?_)
      refine rb 106 false (h := by (first | with_reducible rfl | exact decide_eq_false (by omega) | exact nd_f (by omega) | rfl | decide)) (k := ?_)
      refine v0 (k := ?_)
      refine v0 (k := ?_)
      refine w0 (k := ?_)
      refine w0 (k := ?_)
      refine rb 110 false (h := by (first | with_reducible rfl | exact decide_eq_false (by omega) | exact nd_f (by omega) | rfl | decide)) (k := ?_)
      refine v0 (k := ?_)
      refine v0 (k := ?_)
      refine w0 (k := ?_)
      refine w0 (k := ?_)
      refine rb 114 false (h := by (first | with_reducible rfl | exact decide_eq_false (by omega) | exact nd_f (by omega) | rfl | decide)) (k := ?_)
      refine v0 (k := ?_)
      refine v0 (k := ?_)
      refine w0 (k := ?_)
      refine pcw (spec := r_size (dropV c.more) hd2) (hent := ent38) (k := ?_)
      refine w0 (k := ?_)
      refine pcw (spec := r_size (dropV c) hd1) (hent := ent38) (k := ?_)
      refine w0 (k := ?_)
      refine rb 121 false (h := by (first | with_reducible rfl | exact decide_eq_false (by omega) | exact nd_f (by omega) | rfl | decide)) (k := ?_)
      refine v0 (k := ?_)
      refine v0 (k := ?_)
      refine w0 (k := ?_)
      refine w0 (k := ?_)
      refine w0 (k := ?_)
      refine w0 (k := ?_)
      refine w0 (k := ?_)
      refine rb 128 false (h := by (first | (rw [h128]; exact bxn _) | (rw [← h128]; exact bxn _))) (k := ?_)
      refine v0 (k := ?_)
      refine v0 (k := ?_)
      refine w0 (k := ?_)
      refine w0 (k := ?_)
      refine w0 (k := ?_)
      refine b0 (k1 := fun hb3 => ?_) (k0 := fun hb3 => ?_)
      · replace hb3 := hB.h {} hb3
        try rw [eqI] at hb3
        obtain ⟨h135, h140, h146, h152⟩ := h0 (by omega)
        clear h0
        refine w0 (k := ?_)
        refine w0 (k := ?_)
        refine rb 135 false (h := by (first | with_reducible rfl | exact decide_eq_false (by omega) | exact nd_f (by omega) | rfl | decide)) (k := ?_)
        refine w0 (k := ?_)
        refine w0 (k := ?_)
        refine w0 (k := ?_)
        refine w0 (k := ?_)
        refine w0 (k := ?_)
        refine rb 140 false (h := by (first | with_reducible rfl | exact decide_eq_false (by omega) | exact nd_f (by omega) | rfl | decide)) (k := ?_)
        refine w0 (k := ?_)
        refine w0 (k := ?_)
        refine w0 (k := ?_)
        refine w0 (k := ?_)
        refine w0 (k := ?_)
        refine w0 (k := ?_)
        refine rb 146 false (h := by (first | with_reducible rfl | exact decide_eq_false (by omega) | exact nd_f (by omega) | rfl | decide)) (k := ?_)
        refine w0 (k := ?_)
        refine w0 (k := ?_)
        refine w0 (k := ?_)
        refine w0 (k := ?_)
        refine w0 (k := ?_)
        refine w0 (k := ?_)
        refine rb 152 false (h := by (first | with_reducible rfl | exact decide_eq_false (by omega) | exact nd_f (by omega) | rfl | decide)) (k := ?_)
        refine w0 (k := ?_)
        refine w0 (k := ?_)
        refine v0 (k := ?_)
        refine nil0 ?_
        repeat refine gwp_seq ?_
        refine cF (k := ?_)
        repeat refine gwp_seq ?_
        refine gwp_skip ?_
        refine cl [2, 3, 4, 10] (k := ?_)
        repeat refine gwp_seq ?_
        refine gwp_region ?_
        refine v0 (k := ?_)
        refine pc0 (spec := x_chain c z hk6 hr6) (hent := ent35) (k := ?_)
        refine v0 (k := ?_)
        refine nil0 ?_
        repeat refine gwp_seq ?_
        refine cB (k1 := fun hb4 => ?_) (k0 := fun hb4 => ?_)
        · replace hb4 := hB.h {} hb4
          try rw [eqI] at hb4
          repeat refine gwp_seq ?_
          refine gwp_region ?_
          refine pc0 (spec := l_alive) (hent := ent14) (k := ?_)
          refine v0 (k := ?_)
          refine nil0 ?_
          repeat refine gwp_seq ?_
          refine gwp_ret ?_
          repeat (first | refine gthen_ret ?_ | refine gblock_ret ?_ | refine gnoGoto_ret ?_)
          refine fin_ret ?_
          refine fp (hR := ?_)
          rfl
        · replace hb4 := hB.h {} hb4
          try rw [eqI] at hb4
          repeat refine gwp_seq ?_
          refine gwp_skip ?_
          refine cl [2, 3, 4, 10] (k := ?_)
          repeat refine gwp_seq ?_
          have hw : (c.wide z).valid = true := by assumption
          rcases path_wide2 hv hw x y with hp | hp | hp <;> rcases least_wide2 hv hw with hl | hl
          · repeat refine gwp_seq ?_
            refine gwp_region ?_
            refine v0 (k := ?_)
            refine v0 (k := ?_)
            refine v0 (k := ?_)
            refine pc0 (spec := c_path c (by omega) (by omega) x y) (hent := ent19) (k := ?_)
            refine v0 (k := ?_)
            refine v0 (k := ?_)
            refine v0 (k := ?_)
            refine v0 (k := ?_)
            refine v0 (k := ?_)
            refine nil0 ?_
            refine cl [2, 3, 4, 10, 25, 26] (k := ?_)
            repeat refine gwp_seq ?_
            refine gwp_region ?_
            refine v0 (k := ?_)
            refine v0 (k := ?_)
            refine v0 (k := ?_)
            refine pc0 (spec := x_path c z hk6 hr6 x y) (hent := ent19) (k := ?_)
            refine v0 (k := ?_)
            refine v0 (k := ?_)
            refine v0 (k := ?_)
            refine v0 (k := ?_)
            refine v0 (k := ?_)
            refine nil0 ?_
            refine cl [4, 10, 25, 26, 27, 28] (k := ?_)
            repeat refine gwp_seq ?_
            refine gwp_region ?_
            refine v0 (k := ?_)
            refine pc0 (spec := c_least c (by omega) (by omega)) (hent := ent21) (k := ?_)
            refine v0 (k := ?_)
            refine v0 (k := ?_)
            refine v0 (k := ?_)
            refine v0 (k := ?_)
            refine v0 (k := ?_)
            refine nil0 ?_
            refine cl [10, 25, 26, 27, 28, 29, 30] (k := ?_)
            repeat refine gwp_seq ?_
            refine gwp_region ?_
            refine v0 (k := ?_)
            refine pc0 (spec := x_least c z hk6 hr6) (hent := ent21) (k := ?_)
            refine v0 (k := ?_)
            refine v0 (k := ?_)
            refine v0 (k := ?_)
            refine v0 (k := ?_)
            refine v0 (k := ?_)
            refine nil0 ?_
            refine cl [25, 26, 27, 28, 29, 30, 31, 32] (k := ?_)
            repeat refine gwp_seq ?_
            refine gwp_region ?_
            refine v0 (k := ?_)
            refine v0 (k := ?_)
            refine rb 185 false (h := by (first | with_reducible rfl | exact decide_eq_false (by omega) | exact nd_f (by omega) | rfl | decide)) (k := ?_)
            refine v0 (k := ?_)
            refine w0 (k := ?_)
            refine w0 (k := ?_)
            refine rb 188 true (h := by (first | with_reducible rfl | exact decide_eq_true (by omega) | exact nd_t (by omega) | rfl | decide)) (k := ?_)
            refine w0 (k := ?_)
            refine w0 (k := ?_)
            refine w0 (k := ?_)
            refine w0 (k := ?_)
            refine w0 (k := ?_)
            refine w0 (k := ?_)
            refine rb 194 true (h := by (first | with_reducible rfl | exact decide_eq_true (by omega) | exact nd_t (by omega) | rfl | decide)) (k := ?_)
            refine w0 (k := ?_)
            refine v0 (k := ?_)
            refine v0 (k := ?_)
            refine w0 (k := ?_)
            refine w0 (k := ?_)
            refine rb 199 true (h := by (first | with_reducible rfl | exact decide_eq_true (by omega) | exact nd_t (by omega) | rfl | decide)) (k := ?_)
            refine w0 (k := ?_)
            refine x0 (k := ?_)
            refine x0 (k := ?_)
            refine x0 (k := ?_)
            refine w0 (k := ?_)
            refine v0 (k := ?_)
            refine v0 (k := ?_)
            refine w0 (k := ?_)
            refine w0 (k := ?_)
            refine rb 208 false (h := by (first | with_reducible rfl | exact decide_eq_false (by omega) | exact nd_f (by omega) | rfl | decide)) (k := ?_)
            refine w0 (k := ?_)
            refine w0 (k := ?_)
            refine w0 (k := ?_)
            refine rb 211 true (h := by (first | with_reducible rfl | exact decide_eq_true (by omega) | exact nd_t (by omega) | rfl | decide)) (k := ?_)
            refine w0 (k := ?_)
            refine w0 (k := ?_)
            refine w0 (k := ?_)
            refine w0 (k := ?_)
            refine rb 215 true (h := by (first | with_reducible rfl | exact decide_eq_true (by omega) | exact nd_t (by omega) | rfl | decide)) (k := ?_)
            refine w0 (k := ?_)
            refine w0 (k := ?_)
            refine v0 (k := ?_)
            refine v0 (k := ?_)
            refine pcw (spec := l_alive) (hent := ent14) (k := ?_)
            refine v0 (k := ?_)
            refine v0 (k := ?_)
            refine nil0 ?_
            repeat refine gwp_seq ?_
            refine gwp_ret ?_
            repeat (first | refine gthen_ret ?_ | refine gblock_ret ?_ | refine gnoGoto_ret ?_)
            refine fin_ret ?_
            refine fp (hR := ?_)
            rfl
          · repeat refine gwp_seq ?_
            refine gwp_region ?_
            refine v0 (k := ?_)
            refine v0 (k := ?_)
            refine v0 (k := ?_)
            refine pc0 (spec := c_path c (by omega) (by omega) x y) (hent := ent19) (k := ?_)
            refine v0 (k := ?_)
            refine v0 (k := ?_)
            refine v0 (k := ?_)
            refine v0 (k := ?_)
            refine v0 (k := ?_)
            refine nil0 ?_
            refine cl [2, 3, 4, 10, 25, 26] (k := ?_)
            repeat refine gwp_seq ?_
            refine gwp_region ?_
            refine v0 (k := ?_)
            refine v0 (k := ?_)
            refine v0 (k := ?_)
            refine pc0 (spec := x_path c z hk6 hr6 x y) (hent := ent19) (k := ?_)
            refine v0 (k := ?_)
            refine v0 (k := ?_)
            refine v0 (k := ?_)
            refine v0 (k := ?_)
            refine v0 (k := ?_)
            refine nil0 ?_
            refine cl [4, 10, 25, 26, 27, 28] (k := ?_)
            repeat refine gwp_seq ?_
            refine gwp_region ?_
            refine v0 (k := ?_)
            refine pc0 (spec := c_least c (by omega) (by omega)) (hent := ent21) (k := ?_)
            refine v0 (k := ?_)
            refine v0 (k := ?_)
            refine v0 (k := ?_)
            refine v0 (k := ?_)
            refine v0 (k := ?_)
            refine nil0 ?_
            refine cl [10, 25, 26, 27, 28, 29, 30] (k := ?_)
            repeat refine gwp_seq ?_
            refine gwp_region ?_
            refine v0 (k := ?_)
            refine pc0 (spec := x_least c z hk6 hr6) (hent := ent21) (k := ?_)
            refine v0 (k := ?_)
            refine v0 (k := ?_)
            refine v0 (k := ?_)
            refine v0 (k := ?_)
            refine v0 (k := ?_)
            refine nil0 ?_
            refine cl [25, 26, 27, 28, 29, 30, 31, 32] (k := ?_)
            repeat refine gwp_seq ?_
            refine gwp_region ?_
            refine v0 (k := ?_)
            refine v0 (k := ?_)
            refine rb 185 false (h := by (first | with_reducible rfl | exact decide_eq_false (by omega) | exact nd_f (by omega) | rfl | decide)) (k := ?_)
            refine v0 (k := ?_)
            refine w0 (k := ?_)
            refine w0 (k := ?_)
            refine rb 188 true (h := by (first | with_reducible rfl | exact decide_eq_true (by omega) | exact nd_t (by omega) | rfl | decide)) (k := ?_)
            refine w0 (k := ?_)
            refine w0 (k := ?_)
            refine w0 (k := ?_)
            refine w0 (k := ?_)
            refine w0 (k := ?_)
            refine w0 (k := ?_)
            refine rb 194 true (h := by (first | with_reducible rfl | exact decide_eq_true (by omega) | exact nd_t (by omega) | rfl | decide)) (k := ?_)
            refine w0 (k := ?_)
            refine v0 (k := ?_)
            refine v0 (k := ?_)
            refine w0 (k := ?_)
            refine w0 (k := ?_)
            refine rb 199 true (h := by (first | with_reducible rfl | exact decide_eq_true (by omega) | exact nd_t (by omega) | rfl | decide)) (k := ?_)
            refine w0 (k := ?_)
            refine x0 (k := ?_)
            refine x0 (k := ?_)
            refine x0 (k := ?_)
            refine w0 (k := ?_)
            refine v0 (k := ?_)
            refine v0 (k := ?_)
            refine w0 (k := ?_)
            refine w0 (k := ?_)
            refine rb 208 true (h := by (first | with_reducible rfl | exact decide_eq_true (by omega) | exact nd_t (by omega) | rfl | decide)) (k := ?_)
            refine w0 (k := ?_)
            refine x0 (k := ?_)
            refine x0 (k := ?_)
            refine x0 (k := ?_)
            refine x1 (k := ?_)
            refine x1 (k := ?_)
            refine x1 (k := ?_)
            refine x0 (k := ?_)
            refine w0 (k := ?_)
            refine v0 (k := ?_)
            refine v0 (k := ?_)
            refine pcw (spec := l_alive) (hent := ent14) (k := ?_)
            refine v0 (k := ?_)
            refine v0 (k := ?_)
            refine nil0 ?_
            repeat refine gwp_seq ?_
            refine gwp_ret ?_
            repeat (first | refine gthen_ret ?_ | refine gblock_ret ?_ | refine gnoGoto_ret ?_)
            refine fin_ret ?_
            refine fp (hR := ?_)
            rfl
          · repeat refine gwp_seq ?_
            refine gwp_region ?_
            refine v0 (k := ?_)
            refine v0 (k := ?_)
            refine v0 (k := ?_)
            refine pc0 (spec := c_path c (by omega) (by omega) x y) (hent := ent19) (k := ?_)
            refine v0 (k := ?_)
            refine v0 (k := ?_)
            refine v0 (k := ?_)
            refine v0 (k := ?_)
            refine v0 (k := ?_)
            refine nil0 ?_
            refine cl [2, 3, 4, 10, 25, 26] (k := ?_)
            repeat refine gwp_seq ?_
            refine gwp_region ?_
            refine v0 (k := ?_)
            refine v0 (k := ?_)
            refine v0 (k := ?_)
            refine pc0 (spec := x_path c z hk6 hr6 x y) (hent := ent19) (k := ?_)
            refine v0 (k := ?_)
            refine v0 (k := ?_)
            refine v0 (k := ?_)
            refine v0 (k := ?_)
            refine v0 (k := ?_)
            refine nil0 ?_
            refine cl [4, 10, 25, 26, 27, 28] (k := ?_)
            repeat refine gwp_seq ?_
            refine gwp_region ?_
            refine v0 (k := ?_)
            refine pc0 (spec := c_least c (by omega) (by omega)) (hent := ent21) (k := ?_)
            refine v0 (k := ?_)
            refine v0 (k := ?_)
            refine v0 (k := ?_)
            refine v0 (k := ?_)
            refine v0 (k := ?_)
            refine nil0 ?_
            refine cl [10, 25, 26, 27, 28, 29, 30] (k := ?_)
            repeat refine gwp_seq ?_
            refine gwp_region ?_
            refine v0 (k := ?_)
            refine pc0 (spec := x_least c z hk6 hr6) (hent := ent21) (k := ?_)
            refine v0 (k := ?_)
            refine v0 (k := ?_)
            refine v0 (k := ?_)
            refine v0 (k := ?_)
            refine v0 (k := ?_)
            refine nil0 ?_
            refine cl [25, 26, 27, 28, 29, 30, 31, 32] (k := ?_)
            repeat refine gwp_seq ?_
            refine gwp_region ?_
            refine v0 (k := ?_)
            refine v0 (k := ?_)
            refine rb 185 true (h := by (first | with_reducible rfl | exact decide_eq_true (by omega) | exact nd_t (by omega) | rfl | decide)) (k := ?_)
            refine v0 (k := ?_)
            refine x0 (k := ?_)
            refine x0 (k := ?_)
            refine x0 (k := ?_)
            refine x1 (k := ?_)
            refine x1 (k := ?_)
            refine x1 (k := ?_)
            refine x1 (k := ?_)
            refine x1 (k := ?_)
            refine x0 (k := ?_)
            refine v0 (k := ?_)
            refine v0 (k := ?_)
            refine w0 (k := ?_)
            refine w0 (k := ?_)
            refine rb 199 false (h := by (first | with_reducible rfl | exact decide_eq_false (by omega) | exact nd_f (by omega) | rfl | decide)) (k := ?_)
            refine w0 (k := ?_)
            refine w0 (k := ?_)
            refine w0 (k := ?_)
            refine w0 (k := ?_)
            refine rb 203 true (h := by (first | with_reducible rfl | exact decide_eq_true (by omega) | exact nd_t (by omega) | rfl | decide)) (k := ?_)
            refine w0 (k := ?_)
            refine v0 (k := ?_)
            refine v0 (k := ?_)
            refine w0 (k := ?_)
            refine w0 (k := ?_)
            refine rb 208 false (h := by (first | with_reducible rfl | exact decide_eq_false (by omega) | exact nd_f (by omega) | rfl | decide)) (k := ?_)
            refine w0 (k := ?_)
            refine w0 (k := ?_)
            refine w0 (k := ?_)
            refine rb 211 true (h := by (first | with_reducible rfl | exact decide_eq_true (by omega) | exact nd_t (by omega) | rfl | decide)) (k := ?_)
            refine w0 (k := ?_)
            refine w0 (k := ?_)
            refine w0 (k := ?_)
            refine w0 (k := ?_)
            refine rb 215 true (h := by (first | with_reducible rfl | exact decide_eq_true (by omega) | exact nd_t (by omega) | rfl | decide)) (k := ?_)
            refine w0 (k := ?_)
            refine w0 (k := ?_)
            refine v0 (k := ?_)
            refine v0 (k := ?_)
            refine pcw (spec := l_alive) (hent := ent14) (k := ?_)
            refine v0 (k := ?_)
            refine v0 (k := ?_)
            refine nil0 ?_
            repeat refine gwp_seq ?_
            refine gwp_ret ?_
            repeat (first | refine gthen_ret ?_ | refine gblock_ret ?_ | refine gnoGoto_ret ?_)
            refine fin_ret ?_
            refine fp (hR := ?_)
            rfl
          · repeat refine gwp_seq ?_
            refine gwp_region ?_
            refine v0 (k := ?_)
            refine v0 (k := ?_)
            refine v0 (k := ?_)
            refine pc0 (spec := c_path c (by omega) (by omega) x y) (hent := ent19) (k := ?_)
            refine v0 (k := ?_)
            refine v0 (k := ?_)
            refine v0 (k := ?_)
            refine v0 (k := ?_)
            refine v0 (k := ?_)
            refine nil0 ?_
            refine cl [2, 3, 4, 10, 25, 26] (k := ?_)
            repeat refine gwp_seq ?_
            refine gwp_region ?_
            refine v0 (k := ?_)
            refine v0 (k := ?_)
            refine v0 (k := ?_)
            refine pc0 (spec := x_path c z hk6 hr6 x y) (hent := ent19) (k := ?_)
            refine v0 (k := ?_)
            refine v0 (k := ?_)
            refine v0 (k := ?_)
            refine v0 (k := ?_)
            refine v0 (k := ?_)
            refine nil0 ?_
            refine cl [4, 10, 25, 26, 27, 28] (k := ?_)
            repeat refine gwp_seq ?_
            refine gwp_region ?_
            refine v0 (k := ?_)
            refine pc0 (spec := c_least c (by omega) (by omega)) (hent := ent21) (k := ?_)
            refine v0 (k := ?_)
            refine v0 (k := ?_)
            refine v0 (k := ?_)
            refine v0 (k := ?_)
            refine v0 (k := ?_)
            refine nil0 ?_
            refine cl [10, 25, 26, 27, 28, 29, 30] (k := ?_)
            repeat refine gwp_seq ?_
            refine gwp_region ?_
            refine v0 (k := ?_)
            refine pc0 (spec := x_least c z hk6 hr6) (hent := ent21) (k := ?_)
            refine v0 (k := ?_)
            refine v0 (k := ?_)
            refine v0 (k := ?_)
            refine v0 (k := ?_)
            refine v0 (k := ?_)
            refine nil0 ?_
            refine cl [25, 26, 27, 28, 29, 30, 31, 32] (k := ?_)
            repeat refine gwp_seq ?_
            refine gwp_region ?_
            refine v0 (k := ?_)
            refine v0 (k := ?_)
            refine rb 185 true (h := by (first | with_reducible rfl | exact decide_eq_true (by omega) | exact nd_t (by omega) | rfl | decide)) (k := ?_)
            refine v0 (k := ?_)
            refine x0 (k := ?_)
            refine x0 (k := ?_)
            refine x0 (k := ?_)
            refine x1 (k := ?_)
            refine x1 (k := ?_)
            refine x1 (k := ?_)
            refine x1 (k := ?_)
            refine x1 (k := ?_)
            refine x0 (k := ?_)
            refine v0 (k := ?_)
            refine v0 (k := ?_)
            refine w0 (k := ?_)
            refine w0 (k := ?_)
            refine rb 199 false (h := by (first | with_reducible rfl | exact decide_eq_false (by omega) | exact nd_f (by omega) | rfl | decide)) (k := ?_)
            refine w0 (k := ?_)
            refine w0 (k := ?_)
            refine w0 (k := ?_)
            refine w0 (k := ?_)
            refine rb 203 true (h := by (first | with_reducible rfl | exact decide_eq_true (by omega) | exact nd_t (by omega) | rfl | decide)) (k := ?_)
            refine w0 (k := ?_)
            refine v0 (k := ?_)
            refine v0 (k := ?_)
            refine w0 (k := ?_)
            refine w0 (k := ?_)
            refine rb 208 true (h := by (first | with_reducible rfl | exact decide_eq_true (by omega) | exact nd_t (by omega) | rfl | decide)) (k := ?_)
            refine w0 (k := ?_)
            refine x0 (k := ?_)
            refine x0 (k := ?_)
            refine x0 (k := ?_)
            refine x1 (k := ?_)
            refine x1 (k := ?_)
            refine x1 (k := ?_)
            refine x0 (k := ?_)
            refine w0 (k := ?_)
            refine v0 (k := ?_)
            refine v0 (k := ?_)
            refine pcw (spec := l_alive) (hent := ent14) (k := ?_)
            refine v0 (k := ?_)
            refine v0 (k := ?_)
            refine nil0 ?_
            repeat refine gwp_seq ?_
            refine gwp_ret ?_
            repeat (first | refine gthen_ret ?_ | refine gblock_ret ?_ | refine gnoGoto_ret ?_)
            refine fin_ret ?_
            refine fp (hR := ?_)
            rfl
          · repeat refine gwp_seq ?_
            refine gwp_region ?_
            refine v0 (k := ?_)
            refine v0 (k := ?_)
            refine v0 (k := ?_)
            refine pc0 (spec := c_path c (by omega) (by omega) x y) (hent := ent19) (k := ?_)
            refine v0 (k := ?_)
            refine v0 (k := ?_)
            refine v0 (k := ?_)
            refine v0 (k := ?_)
            refine v0 (k := ?_)
            refine nil0 ?_
            refine cl [2, 3, 4, 10, 25, 26] (k := ?_)
            repeat refine gwp_seq ?_
            refine gwp_region ?_
            refine v0 (k := ?_)
            refine v0 (k := ?_)
            refine v0 (k := ?_)
            refine pc0 (spec := x_path c z hk6 hr6 x y) (hent := ent19) (k := ?_)
            refine v0 (k := ?_)
            refine v0 (k := ?_)
            refine v0 (k := ?_)
            refine v0 (k := ?_)
            refine v0 (k := ?_)
            refine nil0 ?_
            refine cl [4, 10, 25, 26, 27, 28] (k := ?_)
            repeat refine gwp_seq ?_
            refine gwp_region ?_
            refine v0 (k := ?_)
            refine pc0 (spec := c_least c (by omega) (by omega)) (hent := ent21) (k := ?_)
            refine v0 (k := ?_)
            refine v0 (k := ?_)
            refine v0 (k := ?_)
            refine v0 (k := ?_)
            refine v0 (k := ?_)
            refine nil0 ?_
            refine cl [10, 25, 26, 27, 28, 29, 30] (k := ?_)
            repeat refine gwp_seq ?_
            refine gwp_region ?_
            refine v0 (k := ?_)
            refine pc0 (spec := x_least c z hk6 hr6) (hent := ent21) (k := ?_)
            refine v0 (k := ?_)
            refine v0 (k := ?_)
            refine v0 (k := ?_)
            refine v0 (k := ?_)
            refine v0 (k := ?_)
            refine nil0 ?_
            refine cl [25, 26, 27, 28, 29, 30, 31, 32] (k := ?_)
            repeat refine gwp_seq ?_
            refine gwp_region ?_
            refine v0 (k := ?_)
            refine v0 (k := ?_)
            refine rb 185 true (h := by (first | with_reducible rfl | exact decide_eq_true (by omega) | exact nd_t (by omega) | rfl | decide)) (k := ?_)
            refine v0 (k := ?_)
            refine x0 (k := ?_)
            refine x0 (k := ?_)
            refine x0 (k := ?_)
            refine x1 (k := ?_)
            refine x1 (k := ?_)
            refine x1 (k := ?_)
            refine x1 (k := ?_)
            refine x1 (k := ?_)
            refine x0 (k := ?_)
            refine v0 (k := ?_)
            refine v0 (k := ?_)
            refine w0 (k := ?_)
            refine w0 (k := ?_)
            refine rb 199 true (h := by (first | with_reducible rfl | exact decide_eq_true (by omega) | exact nd_t (by omega) | rfl | decide)) (k := ?_)
            refine w0 (k := ?_)
            refine x0 (k := ?_)
            refine x0 (k := ?_)
            refine x0 (k := ?_)
            refine w0 (k := ?_)
            refine v0 (k := ?_)
            refine v0 (k := ?_)
            refine w0 (k := ?_)
            refine w0 (k := ?_)
            refine rb 208 false (h := by (first | with_reducible rfl | exact decide_eq_false (by omega) | exact nd_f (by omega) | rfl | decide)) (k := ?_)
            refine w0 (k := ?_)
            refine w0 (k := ?_)
            refine w0 (k := ?_)
            refine rb 211 true (h := by (first | with_reducible rfl | exact decide_eq_true (by omega) | exact nd_t (by omega) | rfl | decide)) (k := ?_)
            refine w0 (k := ?_)
            refine w0 (k := ?_)
            refine w0 (k := ?_)
            refine w0 (k := ?_)
            refine rb 215 true (h := by (first | with_reducible rfl | exact decide_eq_true (by omega) | exact nd_t (by omega) | rfl | decide)) (k := ?_)
            refine w0 (k := ?_)
            refine w0 (k := ?_)
            refine v0 (k := ?_)
            refine v0 (k := ?_)
            refine pcw (spec := l_alive) (hent := ent14) (k := ?_)
            refine v0 (k := ?_)
            refine v0 (k := ?_)
            refine nil0 ?_
            repeat refine gwp_seq ?_
            refine gwp_ret ?_
            repeat (first | refine gthen_ret ?_ | refine gblock_ret ?_ | refine gnoGoto_ret ?_)
            refine fin_ret ?_
            refine fp (hR := ?_)
            rfl
          · repeat refine gwp_seq ?_
            refine gwp_region ?_
            refine v0 (k := ?_)
            refine v0 (k := ?_)
            refine v0 (k := ?_)
            refine pc0 (spec := c_path c (by omega) (by omega) x y) (hent := ent19) (k := ?_)
            refine v0 (k := ?_)
            refine v0 (k := ?_)
            refine v0 (k := ?_)
            refine v0 (k := ?_)
            refine v0 (k := ?_)
            refine nil0 ?_
            refine cl [2, 3, 4, 10, 25, 26] (k := ?_)
            repeat refine gwp_seq ?_
            refine gwp_region ?_
            refine v0 (k := ?_)
            refine v0 (k := ?_)
            refine v0 (k := ?_)
            refine pc0 (spec := x_path c z hk6 hr6 x y) (hent := ent19) (k := ?_)
            refine v0 (k := ?_)
            refine v0 (k := ?_)
            refine v0 (k := ?_)
            refine v0 (k := ?_)
            refine v0 (k := ?_)
            refine nil0 ?_
            refine cl [4, 10, 25, 26, 27, 28] (k := ?_)
            repeat refine gwp_seq ?_
            refine gwp_region ?_
            refine v0 (k := ?_)
            refine pc0 (spec := c_least c (by omega) (by omega)) (hent := ent21) (k := ?_)
            refine v0 (k := ?_)
            refine v0 (k := ?_)
            refine v0 (k := ?_)
            refine v0 (k := ?_)
            refine v0 (k := ?_)
            refine nil0 ?_
            refine cl [10, 25, 26, 27, 28, 29, 30] (k := ?_)
            repeat refine gwp_seq ?_
            refine gwp_region ?_
            refine v0 (k := ?_)
            refine pc0 (spec := x_least c z hk6 hr6) (hent := ent21) (k := ?_)
            refine v0 (k := ?_)
            refine v0 (k := ?_)
            refine v0 (k := ?_)
            refine v0 (k := ?_)
            refine v0 (k := ?_)
            refine nil0 ?_
            refine cl [25, 26, 27, 28, 29, 30, 31, 32] (k := ?_)
            repeat refine gwp_seq ?_
            refine gwp_region ?_
            refine v0 (k := ?_)
            refine v0 (k := ?_)
            refine rb 185 true (h := by (first | with_reducible rfl | exact decide_eq_true (by omega) | exact nd_t (by omega) | rfl | decide)) (k := ?_)
            refine v0 (k := ?_)
            refine x0 (k := ?_)
            refine x0 (k := ?_)
            refine x0 (k := ?_)
            refine x1 (k := ?_)
            refine x1 (k := ?_)
            refine x1 (k := ?_)
            refine x1 (k := ?_)
            refine x1 (k := ?_)
            refine x0 (k := ?_)
            refine v0 (k := ?_)
            refine v0 (k := ?_)
            refine w0 (k := ?_)
            refine w0 (k := ?_)
            refine rb 199 true (h := by (first | with_reducible rfl | exact decide_eq_true (by omega) | exact nd_t (by omega) | rfl | decide)) (k := ?_)
            refine w0 (k := ?_)
            refine x0 (k := ?_)
            refine x0 (k := ?_)
            refine x0 (k := ?_)
            refine w0 (k := ?_)
            refine v0 (k := ?_)
            refine v0 (k := ?_)
            refine w0 (k := ?_)
            refine w0 (k := ?_)
            refine rb 208 true (h := by (first | with_reducible rfl | exact decide_eq_true (by omega) | exact nd_t (by omega) | rfl | decide)) (k := ?_)
            refine w0 (k := ?_)
            refine x0 (k := ?_)
            refine x0 (k := ?_)
            refine x0 (k := ?_)
            refine x1 (k := ?_)
            refine x1 (k := ?_)
            refine x1 (k := ?_)
            refine x0 (k := ?_)
            refine w0 (k := ?_)
            refine v0 (k := ?_)
            refine v0 (k := ?_)
            refine pcw (spec := l_alive) (hent := ent14) (k := ?_)
            refine v0 (k := ?_)
            refine v0 (k := ?_)
            refine nil0 ?_
            repeat refine gwp_seq ?_
            refine gwp_ret ?_
            repeat (first | refine gthen_ret ?_ | refine gblock_ret ?_ | refine gnoGoto_ret ?_)
            refine fin_ret ?_
            refine fp (hR := ?_)
            rfl
      · replace hb3 := hB.h {} hb3
        try rw [eqI] at hb3
        refine x0 (k := ?_)
        refine x0 (k := ?_)
        refine x0 (k := ?_)
        refine x1 (k := ?_)
        refine x1 (k := ?_)
        refine x1 (k := ?_)
        refine x1 (k := ?_)
        refine x0 (k := ?_)
        refine x0 (k := ?_)
        refine x1 (k := ?_)
        refine x1 (k := ?_)
        refine x1 (k := ?_)
        refine x1 (k := ?_)
        refine x0 (k := ?_)
        refine x0 (k := ?_)
        refine x1 (k := ?_)
        refine x1 (k := ?_)
        refine x1 (k := ?_)
        refine x1 (k := ?_)
        refine x0 (k := ?_)
        refine w0 (k := ?_)
        refine v0 (k := ?_)
        refine nil0 ?_
        repeat refine gwp_seq ?_
        refine cF (k := ?_)
        repeat refine gwp_seq ?_
        refine gwp_skip ?_
        refine cl [2, 3, 4, 10] (k := ?_)
        repeat refine gwp_seq ?_
        refine gwp_region ?_
        refine v0 (k := ?_)
        refine pc0 (spec := x_chain c z hk6 hr6) (hent := ent35) (k := ?_)
        refine v0 (k := ?_)
        refine nil0 ?_
        repeat refine gwp_seq ?_
        refine cB (k1 := fun hb5 => ?_) (k0 := fun hb5 => ?_)
        · replace hb5 := hB.h {} hb5
          try rw [eqI] at hb5
          repeat refine gwp_seq ?_
          refine gwp_region ?_
          refine pc0 (spec := l_alive) (hent := ent14) (k := ?_)
          refine v0 (k := ?_)
          refine nil0 ?_
          repeat refine gwp_seq ?_
          refine gwp_ret ?_
          repeat (first | refine gthen_ret ?_ | refine gblock_ret ?_ | refine gnoGoto_ret ?_)
          refine fin_ret ?_
          refine fp (hR := ?_)
          rfl
        · replace hb5 := hB.h {} hb5
          try rw [eqI] at hb5
          repeat refine gwp_seq ?_
          refine gwp_skip ?_
          refine cl [2, 3, 4, 10] (k := ?_)
          repeat refine gwp_seq ?_
          have hw : (c.wide z).valid = true := by assumption
          rcases path_wide2 hv hw x y with hp | hp | hp <;> rcases least_wide2 hv hw with hl | hl
          · repeat refine gwp_seq ?_
            refine gwp_region ?_
            refine v0 (k := ?_)
            refine v0 (k := ?_)
            refine v0 (k := ?_)
            refine pc0 (spec := c_path c (by omega) (by omega) x y) (hent := ent19) (k := ?_)
            refine v0 (k := ?_)
            refine v0 (k := ?_)
            refine v0 (k := ?_)
            refine v0 (k := ?_)
            refine v0 (k := ?_)
            refine nil0 ?_
            refine cl [2, 3, 4, 10, 25, 26] (k := ?_)
            repeat refine gwp_seq ?_
            refine gwp_region ?_
            refine v0 (k := ?_)
            refine v0 (k := ?_)
            refine v0 (k := ?_)
            refine pc0 (spec := x_path c z hk6 hr6 x y) (hent := ent19) (k := ?_)
            refine v0 (k := ?_)
            refine v0 (k := ?_)
            refine v0 (k := ?_)
            refine v0 (k := ?_)
            refine v0 (k := ?_)
            refine nil0 ?_
            refine cl [4, 10, 25, 26, 27, 28] (k := ?_)
            repeat refine gwp_seq ?_
            refine gwp_region ?_
            refine v0 (k := ?_)
            refine pc0 (spec := c_least c (by omega) (by omega)) (hent := ent21) (k := ?_)
            refine v0 (k := ?_)
            refine v0 (k := ?_)
            refine v0 (k := ?_)
            refine v0 (k := ?_)
            refine v0 (k := ?_)
            refine nil0 ?_
            refine cl [10, 25, 26, 27, 28, 29, 30] (k := ?_)
            repeat refine gwp_seq ?_
            refine gwp_region ?_
            refine v0 (k := ?_)
            refine pc0 (spec := x_least c z hk6 hr6) (hent := ent21) (k := ?_)
            refine v0 (k := ?_)
            refine v0 (k := ?_)
            refine v0 (k := ?_)
            refine v0 (k := ?_)
            refine v0 (k := ?_)
            refine nil0 ?_
            refine cl [25, 26, 27, 28, 29, 30, 31, 32] (k := ?_)
            repeat refine gwp_seq ?_
            refine gwp_region ?_
            refine v0 (k := ?_)
            refine v0 (k := ?_)
            refine rb 185 false (h := by (first | with_reducible rfl | exact decide_eq_false (by omega) | exact nd_f (by omega) | rfl | decide)) (k := ?_)
            refine v0 (k := ?_)
            refine w0 (k := ?_)
            refine w0 (k := ?_)
            refine rb 188 true (h := by (first | with_reducible rfl | exact decide_eq_true (by omega) | exact nd_t (by omega) | rfl | decide)) (k := ?_)
            refine w0 (k := ?_)
            refine w0 (k := ?_)
            refine w0 (k := ?_)
            refine w0 (k := ?_)
            refine w0 (k := ?_)
            refine w0 (k := ?_)
            refine rb 194 true (h := by (first | with_reducible rfl | exact decide_eq_true (by omega) | exact nd_t (by omega) | rfl | decide)) (k := ?_)
            refine w0 (k := ?_)
            refine v0 (k := ?_)
            refine v0 (k := ?_)
            refine w0 (k := ?_)
            refine w0 (k := ?_)
            refine rb 199 true (h := by (first | with_reducible rfl | exact decide_eq_true (by omega) | exact nd_t (by omega) | rfl | decide)) (k := ?_)
            refine w0 (k := ?_)
            refine x0 (k := ?_)
            refine x0 (k := ?_)
            refine x0 (k := ?_)
            refine w0 (k := ?_)
            refine v0 (k := ?_)
            refine v0 (k := ?_)
            refine w0 (k := ?_)
            refine w0 (k := ?_)
            refine rb 208 false (h := by (first | with_reducible rfl | exact decide_eq_false (by omega) | exact nd_f (by omega) | rfl | decide)) (k := ?_)
            refine w0 (k := ?_)
            refine w0 (k := ?_)
            refine w0 (k := ?_)
            refine rb 211 true (h := by (first | with_reducible rfl | exact decide_eq_true (by omega) | exact nd_t (by omega) | rfl | decide)) (k := ?_)
            refine w0 (k := ?_)
            refine w0 (k := ?_)
            refine w0 (k := ?_)
            refine w0 (k := ?_)
            refine rb 215 true (h := by (first | with_reducible rfl | exact decide_eq_true (by omega) | exact nd_t (by omega) | rfl | decide)) (k := ?_)
            refine w0 (k := ?_)
            refine w0 (k := ?_)
            refine v0 (k := ?_)
            refine v0 (k := ?_)
            refine pcw (spec := l_alive) (hent := ent14) (k := ?_)
            refine v0 (k := ?_)
            refine v0 (k := ?_)
            refine nil0 ?_
            repeat refine gwp_seq ?_
            refine gwp_ret ?_
            repeat (first | refine gthen_ret ?_ | refine gblock_ret ?_ | refine gnoGoto_ret ?_)
            refine fin_ret ?_
            refine fp (hR := ?_)
            rfl
          · repeat refine gwp_seq ?_
            refine gwp_region ?_
            refine v0 (k := ?_)
            refine v0 (k := ?_)
            refine v0 (k := ?_)
            refine pc0 (spec := c_path c (by omega) (by omega) x y) (hent := ent19) (k := ?_)
            refine v0 (k := ?_)
            refine v0 (k := ?_)
            refine v0 (k := ?_)
            refine v0 (k := ?_)
            refine v0 (k := ?_)
            refine nil0 ?_
            refine cl [2, 3, 4, 10, 25, 26] (k := ?_)
            repeat refine gwp_seq ?_
            refine gwp_region ?_
            refine v0 (k := ?_)
            refine v0 (k := ?_)
            refine v0 (k := ?_)
            refine pc0 (spec := x_path c z hk6 hr6 x y) (hent := ent19) (k := ?_)
            refine v0 (k := ?_)
            refine v0 (k := ?_)
            refine v0 (k := ?_)
            refine v0 (k := ?_)
            refine v0 (k := ?_)
            refine nil0 ?_
            refine cl [4, 10, 25, 26, 27, 28] (k := ?_)
            repeat refine gwp_seq ?_
            refine gwp_region ?_
            refine v0 (k := ?_)
            refine pc0 (spec := c_least c (by omega) (by omega)) (hent := ent21) (k := ?_)
            refine v0 (k := ?_)
            refine v0 (k := ?_)
            refine v0 (k := ?_)
            refine v0 (k := ?_)
            refine v0 (k := ?_)
            refine nil0 ?_
            refine cl [10, 25, 26, 27, 28, 29, 30] (k := ?_)
            repeat refine gwp_seq ?_
            refine gwp_region ?_
            refine v0 (k := ?_)
            refine pc0 (spec := x_least c z hk6 hr6) (hent := ent21) (k := ?_)
            refine v0 (k := ?_)
            refine v0 (k := ?_)
            refine v0 (k := ?_)
            refine v0 (k := ?_)
            refine v0 (k := ?_)
            refine nil0 ?_
            refine cl [25, 26, 27, 28, 29, 30, 31, 32] (k := ?_)
            repeat refine gwp_seq ?_
            refine gwp_region ?_
            refine v0 (k := ?_)
            refine v0 (k := ?_)
            refine rb 185 false (h := by (first | with_reducible rfl | exact decide_eq_false (by omega) | exact nd_f (by omega) | rfl | decide)) (k := ?_)
            refine v0 (k := ?_)
            refine w0 (k := ?_)
            refine w0 (k := ?_)
            refine rb 188 true (h := by (first | with_reducible rfl | exact decide_eq_true (by omega) | exact nd_t (by omega) | rfl | decide)) (k := ?_)
            refine w0 (k := ?_)
            refine w0 (k := ?_)
            refine w0 (k := ?_)
            refine w0 (k := ?_)
            refine w0 (k := ?_)
            refine w0 (k := ?_)
            refine rb 194 true (h := by (first | with_reducible rfl | exact decide_eq_true (by omega) | exact nd_t (by omega) | rfl | decide)) (k := ?_)
            refine w0 (k := ?_)
            refine v0 (k := ?_)
            refine v0 (k := ?_)
            refine w0 (k := ?_)
            refine w0 (k := ?_)
            refine rb 199 true (h := by (first | with_reducible rfl | exact decide_eq_true (by omega) | exact nd_t (by omega) | rfl | decide)) (k := ?_)
            refine w0 (k := ?_)
            refine x0 (k := ?_)
            refine x0 (k := ?_)
            refine x0 (k := ?_)
            refine w0 (k := ?_)
            refine v0 (k := ?_)
            refine v0 (k := ?_)
            refine w0 (k := ?_)
            refine w0 (k := ?_)
            refine rb 208 true (h := by (first | with_reducible rfl | exact decide_eq_true (by omega) | exact nd_t (by omega) | rfl | decide)) (k := ?_)
            refine w0 (k := ?_)
            refine x0 (k := ?_)
            refine x0 (k := ?_)
            refine x0 (k := ?_)
            refine x1 (k := ?_)
            refine x1 (k := ?_)
            refine x1 (k := ?_)
            refine x0 (k := ?_)
            refine w0 (k := ?_)
            refine v0 (k := ?_)
            refine v0 (k := ?_)
            refine pcw (spec := l_alive) (hent := ent14) (k := ?_)
            refine v0 (k := ?_)
            refine v0 (k := ?_)
            refine nil0 ?_
            repeat refine gwp_seq ?_
            refine gwp_ret ?_
            repeat (first | refine gthen_ret ?_ | refine gblock_ret ?_ | refine gnoGoto_ret ?_)
            refine fin_ret ?_
            refine fp (hR := ?_)
            rfl
          · repeat refine gwp_seq ?_
            refine gwp_region ?_
            refine v0 (k := ?_)
            refine v0 (k := ?_)
            refine v0 (k := ?_)
            refine pc0 (spec := c_path c (by omega) (by omega) x y) (hent := ent19) (k := ?_)
            refine v0 (k := ?_)
            refine v0 (k := ?_)
            refine v0 (k := ?_)
            refine v0 (k := ?_)
            refine v0 (k := ?_)
            refine nil0 ?_
            refine cl [2, 3, 4, 10, 25, 26] (k := ?_)
            repeat refine gwp_seq ?_
            refine gwp_region ?_
            refine v0 (k := ?_)
            refine v0 (k := ?_)
            refine v0 (k := ?_)
            refine pc0 (spec := x_path c z hk6 hr6 x y) (hent := ent19) (k := ?_)
            refine v0 (k := ?_)
            refine v0 (k := ?_)
            refine v0 (k := ?_)
            refine v0 (k := ?_)
            refine v0 (k := ?_)
            refine nil0 ?_
            refine cl [4, 10, 25, 26, 27, 28] (k := ?_)
            repeat refine gwp_seq ?_
            refine gwp_region ?_
            refine v0 (k := ?_)
            refine pc0 (spec := c_least c (by omega) (by omega)) (hent := ent21) (k := ?_)
            refine v0 (k := ?_)
            refine v0 (k := ?_)
            refine v0 (k := ?_)
            refine v0 (k := ?_)
            refine v0 (k := ?_)
            refine nil0 ?_
            refine cl [10, 25, 26, 27, 28, 29, 30] (k := ?_)
            repeat refine gwp_seq ?_
            refine gwp_region ?_
            refine v0 (k := ?_)
            refine pc0 (spec := x_least c z hk6 hr6) (hent := ent21) (k := ?_)
            refine v0 (k := ?_)
            refine v0 (k := ?_)
            refine v0 (k := ?_)
            refine v0 (k := ?_)
            refine v0 (k := ?_)
            refine nil0 ?_
            refine cl [25, 26, 27, 28, 29, 30, 31, 32] (k := ?_)
            repeat refine gwp_seq ?_
            refine gwp_region ?_
            refine v0 (k := ?_)
            refine v0 (k := ?_)
            refine rb 185 true (h := by (first | with_reducible rfl | exact decide_eq_true (by omega) | exact nd_t (by omega) | rfl | decide)) (k := ?_)
            refine v0 (k := ?_)
            refine x0 (k := ?_)
            refine x0 (k := ?_)
            refine x0 (k := ?_)
            refine x1 (k := ?_)
            refine x1 (k := ?_)
            refine x1 (k := ?_)
            refine x1 (k := ?_)
            refine x1 (k := ?_)
            refine x0 (k := ?_)
            refine v0 (k := ?_)
            refine v0 (k := ?_)
            refine w0 (k := ?_)
            refine w0 (k := ?_)
            refine rb 199 false (h := by (first | with_reducible rfl | exact decide_eq_false (by omega) | exact nd_f (by omega) | rfl | decide)) (k := ?_)
            refine w0 (k := ?_)
            refine w0 (k := ?_)
            refine w0 (k := ?_)
            refine w0 (k := ?_)
            refine rb 203 true (h := by (first | with_reducible rfl | exact decide_eq_true (by omega) | exact nd_t (by omega) | rfl | decide)) (k := ?_)
            refine w0 (k := ?_)
            refine v0 (k := ?_)
            refine v0 (k := ?_)
            refine w0 (k := ?_)
            refine w0 (k := ?_)
            refine rb 208 false (h := by (first | with_reducible rfl | exact decide_eq_false (by omega) | exact nd_f (by omega) | rfl | decide)) (k := ?_)
            refine w0 (k := ?_)
            refine w0 (k := ?_)
            refine w0 (k := ?_)
            refine rb 211 true (h := by (first | with_reducible rfl | exact decide_eq_true (by omega) | exact nd_t (by omega) | rfl | decide)) (k := ?_)
            refine w0 (k := ?_)
            refine w0 (k := ?_)
            refine w0 (k := ?_)
            refine w0 (k := ?_)
            refine rb 215 true (h := by (first | with_reducible rfl | exact decide_eq_true (by omega) | exact nd_t (by omega) | rfl | decide)) (k := ?_)
            refine w0 (k := ?_)
            refine w0 (k := ?_)
            refine v0 (k := ?_)
            refine v0 (k := ?_)
            refine pcw (spec := l_alive) (hent := ent14) (k := ?_)
            refine v0 (k := ?_)
            refine v0 (k := ?_)
            refine nil0 ?_
            repeat refine gwp_seq ?_
            refine gwp_ret ?_
            repeat (first | refine gthen_ret ?_ | refine gblock_ret ?_ | refine gnoGoto_ret ?_)
            refine fin_ret ?_
            refine fp (hR := ?_)
            rfl
          · repeat refine gwp_seq ?_
            refine gwp_region ?_
            refine v0 (k := ?_)
            refine v0 (k := ?_)
            refine v0 (k := ?_)
            refine pc0 (spec := c_path c (by omega) (by omega) x y) (hent := ent19) (k := ?_)
            refine v0 (k := ?_)
            refine v0 (k := ?_)
            refine v0 (k := ?_)
            refine v0 (k := ?_)
            refine v0 (k := ?_)
            refine nil0 ?_
            refine cl [2, 3, 4, 10, 25, 26] (k := ?_)
            repeat refine gwp_seq ?_
            refine gwp_region ?_
            refine v0 (k := ?_)
            refine v0 (k := ?_)
            refine v0 (k := ?_)
            refine pc0 (spec := x_path c z hk6 hr6 x y) (hent := ent19) (k := ?_)
            refine v0 (k := ?_)
            refine v0 (k := ?_)
            refine v0 (k := ?_)
            refine v0 (k := ?_)
            refine v0 (k := ?_)
            refine nil0 ?_
            refine cl [4, 10, 25, 26, 27, 28] (k := ?_)
            repeat refine gwp_seq ?_
            refine gwp_region ?_
            refine v0 (k := ?_)
            refine pc0 (spec := c_least c (by omega) (by omega)) (hent := ent21) (k := ?_)
            refine v0 (k := ?_)
            refine v0 (k := ?_)
            refine v0 (k := ?_)
            refine v0 (k := ?_)
            refine v0 (k := ?_)
            refine nil0 ?_
            refine cl [10, 25, 26, 27, 28, 29, 30] (k := ?_)
            repeat refine gwp_seq ?_
            refine gwp_region ?_
            refine v0 (k := ?_)
            refine pc0 (spec := x_least c z hk6 hr6) (hent := ent21) (k := ?_)
            refine v0 (k := ?_)
            refine v0 (k := ?_)
            refine v0 (k := ?_)
            refine v0 (k := ?_)
            refine v0 (k := ?_)
            refine nil0 ?_
            refine cl [25, 26, 27, 28, 29, 30, 31, 32] (k := ?_)
            repeat refine gwp_seq ?_
            refine gwp_region ?_
            refine v0 (k := ?_)
            refine v0 (k := ?_)
            refine rb 185 true (h := by (first | with_reducible rfl | exact decide_eq_true (by omega) | exact nd_t (by omega) | rfl | decide)) (k := ?_)
            refine v0 (k := ?_)
            refine x0 (k := ?_)
            refine x0 (k := ?_)
            refine x0 (k := ?_)
            refine x1 (k := ?_)
            refine x1 (k := ?_)
            refine x1 (k := ?_)
            refine x1 (k := ?_)
            refine x1 (k := ?_)
            refine x0 (k := ?_)
            refine v0 (k := ?_)
            refine v0 (k := ?_)
            refine w0 (k := ?_)
            refine w0 (k := ?_)
            refine rb 199 false (h := by (first | with_reducible rfl | exact decide_eq_false (by omega) | exact nd_f (by omega) | rfl | decide)) (k := ?_)
            refine w0 (k := ?_)
            refine w0 (k := ?_)
            refine w0 (k := ?_)
            refine w0 (k := ?_)
            refine rb 203 true (h := by (first | with_reducible rfl | exact decide_eq_true (by omega) | exact nd_t (by omega) | rfl | decide)) (k := ?_)
            refine w0 (k := ?_)
            refine v0 (k := ?_)
            refine v0 (k := ?_)
            refine w0 (k := ?_)
            refine w0 (k := ?_)
            refine rb 208 true (h := by (first | with_reducible rfl | exact decide_eq_true (by omega) | exact nd_t (by omega) | rfl | decide)) (k := ?_)
            refine w0 (k := ?_)
            refine x0 (k := ?_)
            refine x0 (k := ?_)
            refine x0 (k := ?_)
            refine x1 (k := ?_)
            refine x1 (k := ?_)
            refine x1 (k := ?_)
            refine x0 (k := ?_)
            refine w0 (k := ?_)
            refine v0 (k := ?_)
            refine v0 (k := ?_)
            refine pcw (spec := l_alive) (hent := ent14) (k := ?_)
            refine v0 (k := ?_)
            refine v0 (k := ?_)
            refine nil0 ?_
            repeat refine gwp_seq ?_
            refine gwp_ret ?_
            repeat (first | refine gthen_ret ?_ | refine gblock_ret ?_ | refine gnoGoto_ret ?_)
            refine fin_ret ?_
            refine fp (hR := ?_)
            rfl
          · repeat refine gwp_seq ?_
            refine gwp_region ?_
            refine v0 (k := ?_)
            refine v0 (k := ?_)
            refine v0 (k := ?_)
            refine pc0 (spec := c_path c (by omega) (by omega) x y) (hent := ent19) (k := ?_)
            refine v0 (k := ?_)
            refine v0 (k := ?_)
            refine v0 (k := ?_)
            refine v0 (k := ?_)
            refine v0 (k := ?_)
            refine nil0 ?_
            refine cl [2, 3, 4, 10, 25, 26] (k := ?_)
            repeat refine gwp_seq ?_
            refine gwp_region ?_
            refine v0 (k := ?_)
            refine v0 (k := ?_)
            refine v0 (k := ?_)
            refine pc0 (spec := x_path c z hk6 hr6 x y) (hent := ent19) (k := ?_)
            refine v0 (k := ?_)
            refine v0 (k := ?_)
            refine v0 (k := ?_)
            refine v0 (k := ?_)
            refine v0 (k := ?_)
            refine nil0 ?_
            refine cl [4, 10, 25, 26, 27, 28] (k := ?_)
            repeat refine gwp_seq ?_
            refine gwp_region ?_
            refine v0 (k := ?_)
            refine pc0 (spec := c_least c (by omega) (by omega)) (hent := ent21) (k := ?_)
            refine v0 (k := ?_)
            refine v0 (k := ?_)
            refine v0 (k := ?_)
            refine v0 (k := ?_)
            refine v0 (k := ?_)
            refine nil0 ?_
            refine cl [10, 25, 26, 27, 28, 29, 30] (k := ?_)
            repeat refine gwp_seq ?_
            refine gwp_region ?_
            refine v0 (k := ?_)
            refine pc0 (spec := x_least c z hk6 hr6) (hent := ent21) (k := ?_)
            refine v0 (k := ?_)
            refine v0 (k := ?_)
            refine v0 (k := ?_)
            refine v0 (k := ?_)
            refine v0 (k := ?_)
            refine nil0 ?_
            refine cl [25, 26, 27, 28, 29, 30, 31, 32] (k := ?_)
            repeat refine gwp_seq ?_
            refine gwp_region ?_
            refine v0 (k := ?_)
            refine v0 (k := ?_)
            refine rb 185 true (h := by (first | with_reducible rfl | exact decide_eq_true (by omega) | exact nd_t (by omega) | rfl | decide)) (k := ?_)
            refine v0 (k := ?_)
            refine x0 (k := ?_)
            refine x0 (k := ?_)
            refine x0 (k := ?_)
            refine x1 (k := ?_)
            refine x1 (k := ?_)
            refine x1 (k := ?_)
            refine x1 (k := ?_)
            refine x1 (k := ?_)
            refine x0 (k := ?_)
            refine v0 (k := ?_)
            refine v0 (k := ?_)
            refine w0 (k := ?_)
            refine w0 (k := ?_)
            refine rb 199 true (h := by (first | with_reducible rfl | exact decide_eq_true (by omega) | exact nd_t (by omega) | rfl | decide)) (k := ?_)
            refine w0 (k := ?_)
            refine x0 (k := ?_)
            refine x0 (k := ?_)
            refine x0 (k := ?_)
            refine w0 (k := ?_)
            refine v0 (k := ?_)
            refine v0 (k := ?_)
            refine w0 (k := ?_)
            refine w0 (k := ?_)
            refine rb 208 false (h := by (first | with_reducible rfl | exact decide_eq_false (by omega) | exact nd_f (by omega) | rfl | decide)) (k := ?_)
            refine w0 (k := ?_)
            refine w0 (k := ?_)
            refine w0 (k := ?_)
            refine rb 211 true (h := by (first | with_reducible rfl | exact decide_eq_true (by omega) | exact nd_t (by omega) | rfl | decide)) (k := ?_)
            refine w0 (k := ?_)
            refine w0 (k := ?_)
            refine w0 (k := ?_)
            refine w0 (k := ?_)
            refine rb 215 true (h := by (first | with_reducible rfl | exact decide_eq_true (by omega) | exact nd_t (by omega) | rfl | decide)) (k := ?_)
            refine w0 (k := ?_)
            refine w0 (k := ?_)
            refine v0 (k := ?_)
            refine v0 (k := ?_)
            refine pcw (spec := l_alive) (hent := ent14) (k := ?_)
            refine v0 (k := ?_)
            refine v0 (k := ?_)
            refine nil0 ?_
            repeat refine gwp_seq ?_
            refine gwp_ret ?_
            repeat (first | refine gthen_ret ?_ | refine gblock_ret ?_ | refine gnoGoto_ret ?_)
            refine fin_ret ?_
            refine fp (hR := ?_)
            rfl
          · repeat refine gwp_seq ?_
            refine gwp_region ?_
            refine v0 (k := ?_)
            refine v0 (k := ?_)
            refine v0 (k := ?_)
            refine pc0 (spec := c_path c (by omega) (by omega) x y) (hent := ent19) (k := ?_)
            refine v0 (k := ?_)
            refine v0 (k := ?_)
            refine v0 (k := ?_)
            refine v0 (k := ?_)
            refine v0 (k := ?_)
            refine nil0 ?_
            refine cl [2, 3, 4, 10, 25, 26] (k := ?_)
            repeat refine gwp_seq ?_
            refine gwp_region ?_
            refine v0 (k := ?_)
            refine v0 (k := ?_)
            refine v0 (k := ?_)
            refine pc0 (spec := x_path c z hk6 hr6 x y) (hent := ent19) (k := ?_)
            refine v0 (k := ?_)
            refine v0 (k := ?_)
            refine v0 (k := ?_)
            refine v0 (k := ?_)
            refine v0 (k := ?_)
            refine nil0 ?_
            refine cl [4, 10, 25, 26, 27, 28] (k := ?_)
            repeat refine gwp_seq ?_
            refine gwp_region ?_
            refine v0 (k := ?_)
            refine pc0 (spec := c_least c (by omega) (by omega)) (hent := ent21) (k := ?_)
            refine v0 (k := ?_)
            refine v0 (k := ?_)
            refine v0 (k := ?_)
            refine v0 (k := ?_)
            refine v0 (k := ?_)
            refine nil0 ?_
            refine cl [10, 25, 26, 27, 28, 29, 30] (k := ?_)
            repeat refine gwp_seq ?_
            refine gwp_region ?_
            refine v0 (k := ?_)
            refine pc0 (spec := x_least c z hk6 hr6) (hent := ent21) (k := ?_)
            refine v0 (k := ?_)
            refine v0 (k := ?_)
            refine v0 (k := ?_)
            refine v0 (k := ?_)
            refine v0 (k := ?_)
            refine nil0 ?_
            refine cl [25, 26, 27, 28, 29, 30, 31, 32] (k := ?_)
            repeat refine gwp_seq ?_
            refine gwp_region ?_
            refine v0 (k := ?_)
            refine v0 (k := ?_)
            refine rb 185 true (h := by (first | with_reducible rfl | exact decide_eq_true (by omega) | exact nd_t (by omega) | rfl | decide)) (k := ?_)
            refine v0 (k := ?_)
            refine x0 (k := ?_)
            refine x0 (k := ?_)
            refine x0 (k := ?_)
            refine x1 (k := ?_)
            refine x1 (k := ?_)
            refine x1 (k := ?_)
            refine x1 (k := ?_)
            refine x1 (k := ?_)
            refine x0 (k := ?_)
            refine v0 (k := ?_)
            refine v0 (k := ?_)
            refine w0 (k := ?_)
            refine w0 (k := ?_)
            refine rb 199 true (h := by (first | with_reducible rfl | exact decide_eq_true (by omega) | exact nd_t (by omega) | rfl | decide)) (k := ?_)
            refine w0 (k := ?_)
            refine x0 (k := ?_)
            refine x0 (k := ?_)
            refine x0 (k := ?_)
            refine w0 (k := ?_)
            refine v0 (k := ?_)
            refine v0 (k := ?_)
            refine w0 (k := ?_)
            refine w0 (k := ?_)
            refine rb 208 true (h := by (first | with_reducible rfl | exact decide_eq_true (by omega) | exact nd_t (by omega) | rfl | decide)) (k := ?_)
            refine w0 (k := ?_)
            refine x0 (k := ?_)
            refine x0 (k := ?_)
            refine x0 (k := ?_)
            refine x1 (k := ?_)
            refine x1 (k := ?_)
            refine x1 (k := ?_)
            refine x0 (k := ?_)
            refine w0 (k := ?_)
            refine v0 (k := ?_)
            refine v0 (k := ?_)
            refine pcw (spec := l_alive) (hent := ent14) (k := ?_)
            refine v0 (k := ?_)
            refine v0 (k := ?_)
            refine nil0 ?_
            repeat refine gwp_seq ?_
            refine gwp_ret ?_
            repeat (first | refine gthen_ret ?_ | refine gblock_ret ?_ | refine gnoGoto_ret ?_)
            refine fin_ret ?_
            refine fp (hR := ?_)
            rfl
end Go.Proofs.Ytagdholenfkeaaa

/- The statement ChainMore, for every input: the law returns true, and its arguments read as they did.  -/
namespace Go.Proofs.Ytagdholenfkeaaa
open Go.Gh Go.ChangeShapes Go.WideShapes Go.ChangeAt Go.RowKit
set_option maxRecDepth 100000
theorem aj_more : ∀ ps, FitAs [(true, chSS), (true, [.int .i64, .int .i64]), (false, [.int .i64]), (false, [.int .i64])] ps → PSpec Try.prog 11 ps (.ok (.bool true)) := fun ps h => by
  simp only [FitAs] at h
  obtain ⟨_, _, rfl, q0, _, _, rfl, q1, _, _, rfl, q2, _, _, rfl, q3, rfl⟩ := h
  obtain ⟨c, rfl, hc1, hc2, hc3, hc4, hc5, hc6, hc7⟩ := ch_of q0
  obtain ⟨z, rfl, hz⟩ := pair_of q1
  obtain ⟨x, rfl, hx⟩ := int_of q2
  obtain ⟨y, rfl, hy⟩ := int_of q3
  exact l_more c z x y
theorem more_lifted (os : Os) (started : os.Started) (H : Type) (enc : TypeId × Value → H) :
    ReturnsInHanded {} Try.checked os 11 .any (Rows.chainMoreSpec.pre6 enc Try.prog Try.f11 Rows.chainMoreRow.domain false) (Rows.chainMoreSpec.post enc Try.prog Try.f11 false true false false) := by
  refine returnsInHanded_of_change (C := Try.checked) own started (by kernel_rfl) Try.func11
    (ChangeSpec.witness6 (enc := enc) (C := Try.checked) false ⟨#[], #[.agg #[.int .i64 0, .int .i64 0, .slice none 0 0, .slice none 0 0, .int .i64 0], .agg #[.int .i64 0, .int .i64 0], .int .i64 0, .int .i64 0], []⟩ 8 (by kernel_rfl) (by kernel_rfl) (by kernel_rfl) (by kernel_rfl)) ?_
  intro W base args ds gs before hval hW _ _
  exact law_post (n := 9) (ss := [(true, chSS), (true, [.int .i64, .int .i64]), (false, [.int .i64]), (false, [.int .i64])]) (b := 4) laidOut (by kernel_rfl) (by kernel_rfl) (by kernel_rfl) (by kernel_rfl) rfl
    (fun ds hd => by
      have hd' : ds.length = 4 := hd
      match ds, hd' with
      | [a, b, c, d], _ => rfl) aj_more hval hW
theorem more_holds : Rows.ChainMoreSaid :=
  OpenClaim.holds_of_wide 11 Try.f11 rfl rfl rfl rfl rfl rfl rfl ⟨rfl, rfl, rfl, rfl, rfl⟩ rfl rfl rfl rfl rfl (by kernel_rfl) Try.func11 (by kernel_rfl)
    (of_decide_eq_true (by kernel_rfl)) (by unfold Func.isWrapper; first | (rw [if_pos (by decide +kernel)]; kernel_rfl) | (rw [if_neg (by decide +kernel)]; exact ⟨rfl, rfl⟩))
    (fun os started H enc _ => more_lifted os started H enc)
end Go.Proofs.Ytagdholenfkeaaa
