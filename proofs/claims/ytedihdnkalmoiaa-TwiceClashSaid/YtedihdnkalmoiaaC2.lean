/- The statement TwiceClashSaid: the call returns true for every input, and its arguments read as before; no condition. -/
import Derived.Test.YtedihdnkalmoiaaC1
set_option linter.unusedVariables false
set_option linter.unusedSimpArgs false
/- The statement TwiceClash: the walk. -/
namespace Go.Proofs.Ytedihdnkalmoiaa
open Go.Gh
set_option maxRecDepth 100000
set_option maxHeartbeats 4000000
theorem ent8 : Enters Try.prog 8 := Enters.mk Try.func8 (by kernel_rfl) rfl
theorem clash_two {s : Sh} (hl : s.notes.length ≤ 12) (h0 : canR s 0 = true) : (decide (((clashR s : Nat) : Int) = 0) = true ∧ decide (0 < ((wA s).length : Int)) = true ∧ decide (((dropR s : Nat) : Int) = 0) = true) ∨
    (decide (((clashR s : Nat) : Int) = 0) = false ∧ decide (0 < ((wA s).length : Int)) = false ∧ decide (((dropR s : Nat) : Int) = 0) = false ∧ canR s (clashR s) = false) := by
  have h1 := clash_zero h0
  have h2 := drop_zero hl h0
  by_cases h : wA s = []
  · right
    have e1 : ¬ clashR s = 0 := fun e => h1.1 e h
    have e2 : ¬ dropR s = 0 := fun e => h2.1 e h
    rw [h]
    exact ⟨decide_eq_false (by omega), rfl, decide_eq_false (by omega), clash_not h0 e1⟩
  · left
    have := List.length_pos_iff.2 h
    exact ⟨decide_eq_true (by have := h1.2 h; omega), decide_eq_true (by omega), decide_eq_true (by have := h2.2 h; omega)⟩
theorem clash_four {s : Sh} (h0 : canR s 0 = true) {t : Nat} (ht : t ≤ everyN s) : decide (((clashR s : Nat) : Int) = 0) = true ∨ (decide (((clashR s : Nat) : Int) = 0) = false ∧ canR s t = true) ∨
    (decide (((clashR s : Nat) : Int) = 0) = false ∧ canR s t = false ∧ decide ((pop t : Int) < (pop (clashR s) : Int)) = false ∧ decide ((pop t : Int) = (pop (clashR s) : Int)) = false) ∨
    (decide (((clashR s : Nat) : Int) = 0) = false ∧ canR s t = false ∧ decide ((pop t : Int) < (pop (clashR s) : Int)) = false ∧ decide ((pop t : Int) = (pop (clashR s) : Int)) = true ∧ decide ((t : Int) < (clashR s : Int)) = false) := by
  by_cases h : clashR s = 0
  · exact .inl (decide_eq_true (by omega))
  · right
    have e : decide (((clashR s : Nat) : Int) = 0) = false := decide_eq_false (by omega)
    cases hc : canR s t with
    | true => exact .inl ⟨e, rfl⟩
    | false =>
      right
      rcases clash_min h0 h ht hc with h1 | ⟨h1, h2⟩
      · exact .inl ⟨e, rfl, decide_eq_false (by omega), decide_eq_false (by omega)⟩
      · exact .inr ⟨e, rfl, decide_eq_false (by omega), decide_eq_true (by omega), decide_eq_false (by omega)⟩
theorem drop_four {s : Sh} (hl : s.notes.length ≤ 12) (h0 : canR s 0 = true) {t : Nat} (ht : t ≤ everyN s) : canR s (lessS (everyN s) t) = false ∨
    (canR s (lessS (everyN s) t) = true ∧ decide ((pop t : Int) < (pop (dropR s) : Int)) = false ∧ decide ((pop t : Int) = (pop (dropR s) : Int)) = false) ∨
    (canR s (lessS (everyN s) t) = true ∧ decide ((pop t : Int) < (pop (dropR s) : Int)) = false ∧ decide ((pop t : Int) = (pop (dropR s) : Int)) = true ∧ decide ((t : Int) < (dropR s : Int)) = false) := by
  cases hc : canR s (lessS (everyN s) t) with
  | false => exact .inl rfl
  | true =>
    right
    rcases drop_min hl h0 ht hc with h1 | ⟨h1, h2⟩
    · exact .inl ⟨rfl, decide_eq_false (by omega), decide_eq_false (by omega)⟩
    · exact .inr ⟨rfl, decide_eq_false (by omega), decide_eq_true (by omega), decide_eq_false (by omega)⟩
theorem l_clash (s : Sh) (ot : Nat) (hot : ot ≤ 65535) : PSpec Try.prog 8 [.agg [.int .i64 s.num, .list (s.sizes.map (.int .i64)), .int .i64 s.lo, .int .i64 s.hi, .list (s.notes.map pn)], .int .u16 (ot : Nat)] (.ok (.bool true)) := by
  refine pspec_of Try.func8 (rfl : Try.f8.body = some _) rfl ?_
  intro E A C hN hL
  replace hN : C.N = 224 := hN
  simp only [Gh.num, List.map_cons, List.map_nil, Nat.reduceAdd]
  have hdt : ∀ (i : Decidable True), @decide True i = true := fun i => decide_eq_true trivial
  have hdf : ∀ (i : Decidable False), @decide False i = false := fun i => decide_eq_false id
  have hpn : ∀ n : Nt, pn n = P.agg [.int .i64 n.a, .int .i64 n.b, .bool n.s] := fun _ => rfl
  have hbt : (true == true) = true := rfl
  have hbf : (false == false) = true := rfl
  have htf : (true == false) = false := rfl
  have hft : (false == true) = false := rfl
  have h10 : ¬ (1 : Int) = 0 := by decide
  have h01 : ¬ (0 : Int) = 1 := by decide
  repeat refine gwp_seq ?_
  refine gwp_region ?_
  refine n1 120 false (hc := by (first | exact True.intro | omega | with_reducible exact ⟨by omega, by omega, by assumption⟩ | with_reducible exact ⟨trivial, by omega, by omega, by assumption⟩ | (simp only [inI]; omega) | (simp [P.size, nt, wP, pn, all_int, allOne_p, goods_p, allOne, goods, good, G.one, P.one, P.cells] <;> first | omega | assumption | simp_all))) (k := ?_)
  refine v0 (k := ?_)
  refine nil0 ?_
  refine cl [1, 2] (k := ?_)
  repeat refine gwp_seq ?_
  refine gwp_region ?_
  refine v0 (k := ?_)
  refine pc0 (spec := l_heavy s 6 12) (hent := ent12) (k := ?_)
  refine nil0 ?_
  repeat refine gwp_seq ?_
  refine cB (k1 := fun hb1 => ?_) (k0 := fun hb1 => ?_)
  · try simp only [decide_eq_true_eq, decide_eq_false_iff_not, Int.not_lt, Int.not_le, Bool.not_eq_eq_eq_not, Bool.not_true, Bool.not_false, Bool.and_eq_true, Bool.and_eq_false_iff, Bool.or_eq_true, Bool.or_eq_false_iff] at hb1
    repeat refine gwp_seq ?_
    refine gwp_region ?_
    refine pc0 (spec := l_awake) (hent := ent13) (k := ?_)
    refine v0 (k := ?_)
    refine nil0 ?_
    repeat refine gwp_seq ?_
    refine gwp_ret ?_
    repeat (first | refine gthen_ret ?_ | refine gblock_ret ?_ | refine gnoGoto_ret ?_)
    refine fin_ret ?_
    refine fp (hR := ?_)
    rfl
  · try simp only [decide_eq_true_eq, decide_eq_false_iff_not, Int.not_lt, Int.not_le, Bool.not_eq_eq_eq_not, Bool.not_true, Bool.not_false, Bool.and_eq_true, Bool.and_eq_false_iff, Bool.or_eq_true, Bool.or_eq_false_iff] at hb1
    repeat refine gwp_seq ?_
    refine gwp_skip ?_
    refine cl [1, 2] (k := ?_)
    repeat refine gwp_seq ?_
    cases hv : s.valid
    · repeat refine gwp_seq ?_
      refine gwp_region ?_
      refine v0 (k := ?_)
      refine pc0 (spec := c_clash_f s (heavy_len hb1).1 (heavy_len hb1).2 hv) (hent := ent25) (k := ?_)
      refine v0 (k := ?_)
      refine v0 (k := ?_)
      refine v0 (k := ?_)
      refine v0 (k := ?_)
      refine v0 (k := ?_)
      refine nil0 ?_
      refine cl [1, 2, 5, 6] (k := ?_)
      repeat refine gwp_seq ?_
      refine gwp_region ?_
      refine v0 (k := ?_)
      refine pc0 (spec := c_drop_f s (heavy_len hb1).1 (heavy_len hb1).2 hv) (hent := ent27) (k := ?_)
      refine v0 (k := ?_)
      refine v0 (k := ?_)
      refine v0 (k := ?_)
      refine v0 (k := ?_)
      refine v0 (k := ?_)
      refine nil0 ?_
      refine cl [1, 2, 5, 6, 7, 8] (k := ?_)
      repeat refine gwp_seq ?_
      refine gwp_region ?_
      refine v0 (k := ?_)
      refine pc0 (spec := c_count_f s (heavy_len hb1).1 (heavy_len hb1).2 hv) (hent := ent16) (k := ?_)
      refine v0 (k := ?_)
      refine v0 (k := ?_)
      refine v0 (k := ?_)
      refine v0 (k := ?_)
      refine v0 (k := ?_)
      refine nil0 ?_
      refine cl [1, 2, 5, 6, 7, 8, 9, 10] (k := ?_)
      repeat refine gwp_seq ?_
      refine gwp_region ?_
      refine v0 (k := ?_)
      refine pc0 (spec := s_Shelf s (heavy_len hb1).1 (heavy_len hb1).2) (hent := ent33) (k := ?_)
      refine v0 (k := ?_)
      refine rb 36 true (h := by (first | with_reducible rfl | with_reducible assumption | with_reducible exact decide_eq_false (by omega) | with_reducible exact decide_eq_true (by omega) | with_reducible exact nd_f (by omega) | with_reducible exact nd_t (by omega) | (simp only [*]; done) | (simp [*]; done))) (k := ?_)
      refine nil0 ?_
      repeat refine gwp_seq ?_
      refine cT (k := ?_)
      repeat refine gwp_seq ?_
      refine gwp_region ?_
      refine v0 (k := ?_)
      refine v0 (k := ?_)
      refine rb 38 true (h := by (first | with_reducible rfl | with_reducible assumption | with_reducible exact decide_eq_false (by omega) | with_reducible exact decide_eq_true (by omega) | with_reducible exact nd_f (by omega) | with_reducible exact nd_t (by omega) | (simp only [*]; done) | (simp [*]; done))) (k := ?_)
      refine v0 (k := ?_)
      refine w0 (k := ?_)
      refine w0 (k := ?_)
      refine w0 (k := ?_)
      refine rb 42 true (h := by (first | with_reducible rfl | with_reducible assumption | with_reducible exact decide_eq_false (by omega) | with_reducible exact decide_eq_true (by omega) | with_reducible exact nd_f (by omega) | with_reducible exact nd_t (by omega) | (simp only [*]; done) | (simp [*]; done))) (k := ?_)
      refine v0 (k := ?_)
      refine v0 (k := ?_)
      refine w0 (k := ?_)
      refine w0 (k := ?_)
      refine w0 (k := ?_)
      refine rb 47 true (h := by (first | with_reducible rfl | with_reducible assumption | with_reducible exact decide_eq_false (by omega) | with_reducible exact decide_eq_true (by omega) | with_reducible exact nd_f (by omega) | with_reducible exact nd_t (by omega) | (simp only [*]; done) | (simp [*]; done))) (k := ?_)
      refine v0 (k := ?_)
      refine v0 (k := ?_)
      refine w0 (k := ?_)
      refine w0 (k := ?_)
      refine rb 51 true (h := by (first | with_reducible rfl | with_reducible assumption | with_reducible exact decide_eq_false (by omega) | with_reducible exact decide_eq_true (by omega) | with_reducible exact nd_f (by omega) | with_reducible exact nd_t (by omega) | (simp only [*]; done) | (simp [*]; done))) (k := ?_)
      refine v0 (k := ?_)
      refine v0 (k := ?_)
      refine w0 (k := ?_)
      refine w0 (k := ?_)
      refine rb 55 true (h := by (first | with_reducible rfl | with_reducible assumption | with_reducible exact decide_eq_false (by omega) | with_reducible exact decide_eq_true (by omega) | with_reducible exact nd_f (by omega) | with_reducible exact nd_t (by omega) | (simp only [*]; done) | (simp [*]; done))) (k := ?_)
      refine v0 (k := ?_)
      refine v0 (k := ?_)
      refine pcw (spec := l_awake) (hent := ent13) (k := ?_)
      refine v0 (k := ?_)
      refine v0 (k := ?_)
      refine nil0 ?_
      repeat refine gwp_seq ?_
      refine gwp_ret ?_
      repeat (first | refine gthen_ret ?_ | refine gblock_ret ?_ | refine gnoGoto_ret ?_)
      refine fin_ret ?_
      refine fp (hR := ?_)
      rfl
    · have hn := valid_num hv
      have hcl := clash_le (s := s)
      have hdl := drop_le (s := s)
      have hel := every_lt2 (s := s) (by omega)
      have hcz := bit_toNat
      repeat refine gwp_seq ?_
      refine gwp_region ?_
      refine v0 (k := ?_)
      refine pc0 (spec := c_clash s hv) (hent := ent25) (k := ?_)
      refine v0 (k := ?_)
      refine v0 (k := ?_)
      refine v0 (k := ?_)
      refine v0 (k := ?_)
      refine v0 (k := ?_)
      refine nil0 ?_
      refine cl [1, 2, 5, 6] (k := ?_)
      repeat refine gwp_seq ?_
      refine gwp_region ?_
      refine v0 (k := ?_)
      refine pc0 (spec := c_drop s hv) (hent := ent27) (k := ?_)
      refine v0 (k := ?_)
      refine v0 (k := ?_)
      refine v0 (k := ?_)
      refine v0 (k := ?_)
      refine v0 (k := ?_)
      refine nil0 ?_
      refine cl [1, 2, 5, 6, 7, 8] (k := ?_)
      repeat refine gwp_seq ?_
      refine gwp_region ?_
      refine v0 (k := ?_)
      refine pc0 (spec := c_count s hv) (hent := ent16) (k := ?_)
      refine v0 (k := ?_)
      refine v0 (k := ?_)
      refine v0 (k := ?_)
      refine v0 (k := ?_)
      refine v0 (k := ?_)
      refine nil0 ?_
      refine cl [1, 2, 5, 6, 7, 8, 9, 10] (k := ?_)
      repeat refine gwp_seq ?_
      refine gwp_region ?_
      refine v0 (k := ?_)
      refine pc0 (spec := s_Shelf s (heavy_len hb1).1 (heavy_len hb1).2) (hent := ent33) (k := ?_)
      refine v0 (k := ?_)
      refine rb 36 false (h := by (first | with_reducible rfl | with_reducible assumption | with_reducible exact decide_eq_false (by omega) | with_reducible exact decide_eq_true (by omega) | with_reducible exact nd_f (by omega) | with_reducible exact nd_t (by omega) | (simp only [*]; done) | (simp [*]; done))) (k := ?_)
      refine nil0 ?_
      repeat refine gwp_seq ?_
      refine cF (k := ?_)
      repeat refine gwp_seq ?_
      refine gwp_skip ?_
      refine cl [1, 2, 5, 6, 7, 8, 9, 10] (k := ?_)
      repeat refine gwp_seq ?_
      refine gwp_region ?_
      refine v0 (k := ?_)
      refine v0 (k := ?_)
      refine nil0 ?_
      refine cl [1, 2, 5, 6, 7, 8, 9, 10, 11] (k := ?_)
      repeat refine gwp_seq ?_
      refine gwp_region ?_
      refine v0 (k := ?_)
      refine pc0 (spec := s_NotesE s hv) (hent := ent34) (k := ?_)
      refine v0 (k := ?_)
      refine nil0 ?_
      refine cl [1, 2, 5, 6, 7, 8, 9, 10, 11, 12] (k := ?_)
      repeat refine gwp_seq ?_
      refine gwp_region ?_
      refine v0 (k := ?_)
      refine v0 (k := ?_)
      refine rb 64 false (h := by (first | with_reducible rfl | with_reducible assumption | with_reducible exact decide_eq_false (by omega) | with_reducible exact decide_eq_true (by omega) | with_reducible exact nd_f (by omega) | with_reducible exact nd_t (by omega) | (simp only [*]; done) | (simp [*]; done))) (k := ?_)
      refine v0 (k := ?_)
      refine w0 (k := ?_)
      refine w0 (k := ?_)
      refine rb 67 false (h := by (first | with_reducible rfl | with_reducible assumption | with_reducible exact decide_eq_false (by omega) | with_reducible exact decide_eq_true (by omega) | with_reducible exact nd_f (by omega) | with_reducible exact nd_t (by omega) | (simp only [*]; done) | (simp [*]; done))) (k := ?_)
      refine v0 (k := ?_)
      refine v0 (k := ?_)
      refine w0 (k := ?_)
      refine w0 (k := ?_)
      refine rb 71 false (h := by (first | with_reducible rfl | with_reducible assumption | with_reducible exact decide_eq_false (by omega) | with_reducible exact decide_eq_true (by omega) | with_reducible exact nd_f (by omega) | with_reducible exact nd_t (by omega) | (simp only [*]; done) | (simp [*]; done))) (k := ?_)
      refine v0 (k := ?_)
      refine v0 (k := ?_)
      refine w0 (k := ?_)
      refine w0 (k := ?_)
      refine rb 75 false (h := by (first | with_reducible rfl | with_reducible assumption | with_reducible exact decide_eq_false (by omega) | with_reducible exact decide_eq_true (by omega) | with_reducible exact nd_f (by omega) | with_reducible exact nd_t (by omega) | (simp only [*]; done) | (simp [*]; done))) (k := ?_)
      refine v0 (k := ?_)
      refine v0 (k := ?_)
      refine w0 (k := ?_)
      refine w0 (k := ?_)
      refine rb 79 false (h := by (first | with_reducible rfl | with_reducible assumption | with_reducible exact decide_eq_false (by omega) | with_reducible exact decide_eq_true (by omega) | with_reducible exact nd_f (by omega) | with_reducible exact nd_t (by omega) | (simp only [*]; done) | (simp [*]; done))) (k := ?_)
      refine v0 (k := ?_)
      refine v0 (k := ?_)
      refine w0 (k := ?_)
      refine w0 (k := ?_)
      refine w0 (k := ?_)
      refine rb 84 false (h := by (first | with_reducible rfl | with_reducible assumption | with_reducible exact decide_eq_false (by omega) | with_reducible exact decide_eq_true (by omega) | with_reducible exact nd_f (by omega) | with_reducible exact nd_t (by omega) | (simp only [*]; done) | (simp [*]; done))) (k := ?_)
      refine v0 (k := ?_)
      refine v0 (k := ?_)
      refine w0 (k := ?_)
      refine w0 (k := ?_)
      refine w0 (k := ?_)
      refine rb 89 false (h := by (first | with_reducible rfl | with_reducible assumption | with_reducible exact decide_eq_false (by omega) | with_reducible exact decide_eq_true (by omega) | with_reducible exact nd_f (by omega) | with_reducible exact nd_t (by omega) | (simp only [*]; done) | (simp [*]; done))) (k := ?_)
      refine v0 (k := ?_)
      refine nil0 ?_
      repeat refine gwp_seq ?_
      refine cF (k := ?_)
      repeat refine gwp_seq ?_
      refine gwp_skip ?_
      refine cl [1, 2, 5, 7, 9, 11, 12] (k := ?_)
      repeat refine gwp_seq ?_
      refine gwp_region ?_
      refine v0 (k := ?_)
      refine oc0 [(0, 120)] [] [0, 0] none (spec := c_can s hv 0 (by omega)) (hent := ent36) (k := ?_)
      refine v0 (k := ?_)
      refine nil0 ?_
      repeat refine gwp_seq ?_
      refine cB (k1 := fun hb2 => ?_) (k0 := fun hb2 => ?_)
      · try simp only [decide_eq_true_eq, decide_eq_false_iff_not, Int.not_lt, Int.not_le, Bool.not_eq_eq_eq_not, Bool.not_true, Bool.not_false, Bool.and_eq_true, Bool.and_eq_false_iff, Bool.or_eq_true, Bool.or_eq_false_iff] at hb2
        repeat refine gwp_seq ?_
        obtain ⟨hz1, hz2, hz3⟩ := clash_none (s := s) (by assumption)
        refine gwp_region ?_
        refine v0 (k := ?_)
        refine v0 (k := ?_)
        refine rb 95 true (h := by (first | with_reducible rfl | with_reducible assumption | with_reducible exact decide_eq_false (by omega) | with_reducible exact decide_eq_true (by omega) | with_reducible exact nd_f (by omega) | with_reducible exact nd_t (by omega) | (simp only [*]; done) | (simp [*]; done))) (k := ?_)
        refine v0 (k := ?_)
        refine w0 (k := ?_)
        refine w0 (k := ?_)
        refine rb 98 true (h := by (first | with_reducible rfl | with_reducible assumption | with_reducible exact decide_eq_false (by omega) | with_reducible exact decide_eq_true (by omega) | with_reducible exact nd_f (by omega) | with_reducible exact nd_t (by omega) | (simp only [*]; done) | (simp [*]; done))) (k := ?_)
        refine v0 (k := ?_)
        refine v0 (k := ?_)
        refine w0 (k := ?_)
        refine w0 (k := ?_)
        refine rb 102 true (h := by (first | with_reducible rfl | with_reducible assumption | with_reducible exact decide_eq_false (by omega) | with_reducible exact decide_eq_true (by omega) | with_reducible exact nd_f (by omega) | with_reducible exact nd_t (by omega) | (simp only [*]; done) | (simp [*]; done))) (k := ?_)
        refine v0 (k := ?_)
        refine v0 (k := ?_)
        refine pcw (spec := l_awake) (hent := ent13) (k := ?_)
        refine v0 (k := ?_)
        refine v0 (k := ?_)
        refine nil0 ?_
        repeat refine gwp_seq ?_
        refine gwp_ret ?_
        repeat (first | refine gthen_ret ?_ | refine gblock_ret ?_ | refine gnoGoto_ret ?_)
        refine fin_ret ?_
        refine fp (hR := ?_)
        rfl
      · try simp only [decide_eq_true_eq, decide_eq_false_iff_not, Int.not_lt, Int.not_le, Bool.not_eq_eq_eq_not, Bool.not_true, Bool.not_false, Bool.and_eq_true, Bool.and_eq_false_iff, Bool.or_eq_true, Bool.or_eq_false_iff] at hb2
        repeat refine gwp_seq ?_
        refine gwp_skip ?_
        refine cl [1, 2, 5, 7, 9, 11, 12] (k := ?_)
        repeat refine gwp_seq ?_
        have h0 : canR s 0 = true := by assumption
        refine gwp_cut (l1 := ?_) (m1 := ?_) ?_ ?_
        rotate_left 2
        · have han := bitop_andNot_i64 (everyN s) (dropR s) (by omega) (by omega)
          have hdc := drop_can (s := s) (by omega) h0
          have hdcl := lessS_le (everyN s) (dropR s)
          rcases clash_two (s := s) (by omega) h0 with ⟨hq1, hq2, hq3⟩ | ⟨hq1, hq2, hq3, hq4⟩
          · refine gwp_region ?_
            refine v0 (k := ?_)
            refine v0 (k := ?_)
            refine rb 108 true (h := by (first | with_reducible rfl | with_reducible assumption | with_reducible exact decide_eq_false (by omega) | with_reducible exact decide_eq_true (by omega) | with_reducible exact nd_f (by omega) | with_reducible exact nd_t (by omega) | (simp only [*]; done) | (simp [*]; done))) (k := ?_)
            refine v0 (k := ?_)
            refine v0 (k := ?_)
            refine rb 110 true (h := by (first | with_reducible rfl | with_reducible assumption | with_reducible exact decide_eq_false (by omega) | with_reducible exact decide_eq_true (by omega) | with_reducible exact nd_f (by omega) | with_reducible exact nd_t (by omega) | (simp only [*]; done) | (simp [*]; done))) (k := ?_)
            refine v0 (k := ?_)
            refine rb 111 false (h := by (first | with_reducible rfl | with_reducible assumption | with_reducible exact decide_eq_false (by omega) | with_reducible exact decide_eq_true (by omega) | with_reducible exact nd_f (by omega) | with_reducible exact nd_t (by omega) | (simp only [*]; done) | (simp [*]; done))) (k := ?_)
            refine v0 (k := ?_)
            refine w0 (k := ?_)
            refine w0 (k := ?_)
            refine rb 114 true (h := by (first | with_reducible rfl | with_reducible assumption | with_reducible exact decide_eq_false (by omega) | with_reducible exact decide_eq_true (by omega) | with_reducible exact nd_f (by omega) | with_reducible exact nd_t (by omega) | (simp only [*]; done) | (simp [*]; done))) (k := ?_)
            refine w0 (k := ?_)
            refine w0 (k := ?_)
            refine rb 116 true (h := by (first | with_reducible rfl | with_reducible assumption | with_reducible exact decide_eq_false (by omega) | with_reducible exact decide_eq_true (by omega) | with_reducible exact nd_f (by omega) | with_reducible exact nd_t (by omega) | (simp only [*]; done) | (simp [*]; done))) (k := ?_)
            refine w0 (k := ?_)
            refine rb 117 false (h := by (first | with_reducible rfl | with_reducible assumption | with_reducible exact decide_eq_false (by omega) | with_reducible exact decide_eq_true (by omega) | with_reducible exact nd_f (by omega) | with_reducible exact nd_t (by omega) | (simp only [*]; done) | (simp [*]; done))) (k := ?_)
            refine v0 (k := ?_)
            refine v0 (k := ?_)
            refine w0 (k := ?_)
            refine w0 (k := ?_)
            refine rb 121 false (h := by (first | with_reducible rfl | with_reducible assumption | with_reducible exact decide_eq_false (by omega) | with_reducible exact decide_eq_true (by omega) | with_reducible exact nd_f (by omega) | with_reducible exact nd_t (by omega) | (simp only [*]; done) | (simp [*]; done))) (k := ?_)
            refine w0 (k := ?_)
            refine x0 (k := ?_)
            refine x0 (k := ?_)
            refine x0 (k := ?_)
            refine w0 (k := ?_)
            refine v0 (k := ?_)
            refine v0 (k := ?_)
            refine w0 (k := ?_)
            refine w0 (k := ?_)
            refine w0 (k := ?_)
            refine w0 (k := ?_)
            refine ocw [(0, 120)] [] [0, 0] none (spec := c_can s hv (lessS (everyN s) (dropR s)) (by omega)) (hent := ent36) (k := ?_)
            refine rb 133 true (h := by (first | with_reducible rfl | with_reducible assumption | with_reducible exact decide_eq_false (by omega) | with_reducible exact decide_eq_true (by omega) | with_reducible exact nd_f (by omega) | with_reducible exact nd_t (by omega) | (simp only [*]; done) | (simp [*]; done))) (k := ?_)
            refine w0 (k := ?_)
            refine rb 134 false (h := by (first | with_reducible rfl | with_reducible assumption | with_reducible exact decide_eq_false (by omega) | with_reducible exact decide_eq_true (by omega) | with_reducible exact nd_f (by omega) | with_reducible exact nd_t (by omega) | (simp only [*]; done) | (simp [*]; done))) (k := ?_)
            refine v0 (k := ?_)
            refine nil0 ?_
            refine lcut [1, 2, 5, 7, 11, 12, 135]
          · refine gwp_region ?_
            refine v0 (k := ?_)
            refine v0 (k := ?_)
            refine rb 108 false (h := by (first | with_reducible rfl | with_reducible assumption | with_reducible exact decide_eq_false (by omega) | with_reducible exact decide_eq_true (by omega) | with_reducible exact nd_f (by omega) | with_reducible exact nd_t (by omega) | (simp only [*]; done) | (simp [*]; done))) (k := ?_)
            refine v0 (k := ?_)
            refine v0 (k := ?_)
            refine rb 110 false (h := by (first | with_reducible rfl | with_reducible assumption | with_reducible exact decide_eq_false (by omega) | with_reducible exact decide_eq_true (by omega) | with_reducible exact nd_f (by omega) | with_reducible exact nd_t (by omega) | (simp only [*]; done) | (simp [*]; done))) (k := ?_)
            refine v0 (k := ?_)
            refine rb 111 false (h := by (first | with_reducible rfl | with_reducible assumption | with_reducible exact decide_eq_false (by omega) | with_reducible exact decide_eq_true (by omega) | with_reducible exact nd_f (by omega) | with_reducible exact nd_t (by omega) | (simp only [*]; done) | (simp [*]; done))) (k := ?_)
            refine v0 (k := ?_)
            refine w0 (k := ?_)
            refine w0 (k := ?_)
            refine rb 114 false (h := by (first | with_reducible rfl | with_reducible assumption | with_reducible exact decide_eq_false (by omega) | with_reducible exact decide_eq_true (by omega) | with_reducible exact nd_f (by omega) | with_reducible exact nd_t (by omega) | (simp only [*]; done) | (simp [*]; done))) (k := ?_)
            refine w0 (k := ?_)
            refine w0 (k := ?_)
            refine rb 116 false (h := by (first | with_reducible rfl | with_reducible assumption | with_reducible exact decide_eq_false (by omega) | with_reducible exact decide_eq_true (by omega) | with_reducible exact nd_f (by omega) | with_reducible exact nd_t (by omega) | (simp only [*]; done) | (simp [*]; done))) (k := ?_)
            refine w0 (k := ?_)
            refine rb 117 false (h := by (first | with_reducible rfl | with_reducible assumption | with_reducible exact decide_eq_false (by omega) | with_reducible exact decide_eq_true (by omega) | with_reducible exact nd_f (by omega) | with_reducible exact nd_t (by omega) | (simp only [*]; done) | (simp [*]; done))) (k := ?_)
            refine v0 (k := ?_)
            refine v0 (k := ?_)
            refine w0 (k := ?_)
            refine w0 (k := ?_)
            refine rb 121 true (h := by (first | with_reducible rfl | with_reducible assumption | with_reducible exact decide_eq_false (by omega) | with_reducible exact decide_eq_true (by omega) | with_reducible exact nd_f (by omega) | with_reducible exact nd_t (by omega) | (simp only [*]; done) | (simp [*]; done))) (k := ?_)
            refine w0 (k := ?_)
            refine w0 (k := ?_)
            refine w0 (k := ?_)
            refine ocw [(0, 120)] [] [0, 0] none (spec := c_can s hv (clashR s) (by omega)) (hent := ent36) (k := ?_)
            refine rb 125 false (h := by (first | with_reducible rfl | with_reducible assumption | with_reducible exact decide_eq_false (by omega) | with_reducible exact decide_eq_true (by omega) | with_reducible exact nd_f (by omega) | with_reducible exact nd_t (by omega) | (simp only [*]; done) | (simp [*]; done))) (k := ?_)
            refine w0 (k := ?_)
            refine v0 (k := ?_)
            refine v0 (k := ?_)
            refine w0 (k := ?_)
            refine w0 (k := ?_)
            refine w0 (k := ?_)
            refine w0 (k := ?_)
            refine ocw [(0, 120)] [] [0, 0] none (spec := c_can s hv (lessS (everyN s) (dropR s)) (by omega)) (hent := ent36) (k := ?_)
            refine rb 133 true (h := by (first | with_reducible rfl | with_reducible assumption | with_reducible exact decide_eq_false (by omega) | with_reducible exact decide_eq_true (by omega) | with_reducible exact nd_f (by omega) | with_reducible exact nd_t (by omega) | (simp only [*]; done) | (simp [*]; done))) (k := ?_)
            refine w0 (k := ?_)
            refine rb 134 false (h := by (first | with_reducible rfl | with_reducible assumption | with_reducible exact decide_eq_false (by omega) | with_reducible exact decide_eq_true (by omega) | with_reducible exact nd_f (by omega) | with_reducible exact nd_t (by omega) | (simp only [*]; done) | (simp [*]; done))) (k := ?_)
            refine v0 (k := ?_)
            refine nil0 ?_
            refine lcut [1, 2, 5, 7, 11, 12, 135]
        · repeat refine gwp_seq ?_
          refine cF (k := ?_)
          repeat refine gwp_seq ?_
          refine gwp_skip ?_
          refine cl [1, 2, 5, 7, 11, 12] (k := ?_)
          repeat refine gwp_seq ?_
          refine gwp_region ?_
          refine v0 (k := ?_)
          refine v0 (k := ?_)
          refine v0 (k := ?_)
          refine v0 (k := ?_)
          refine nil0 ?_
          refine cl [1, 5, 7, 11, 12, 138, 139] (k := ?_)
          repeat refine gwp_seq ?_
          refine gwp_block ?_
          repeat refine gwp_seq ?_
          refine gc_loop (fun mz σ => ∃ k : Nat, (k ≤ s.notes.length) ∧ mz = s.notes.length - k ∧ σ = (sg [(1, .p (.int .u16 (ot : Nat))), (5, .p (.int .i64 (clashR s : Nat))), (7, .p (.int .i64 (dropR s : Nat))), (11, .fn (.func 36) [] [.ref 120 0]), (12, .p (.int .i64 (everyN s : Nat))), (138, .p (.int .i64 s.notes.length)), (139, .p (.int .i64 k))] [(120, .cells [.p (.int .i64 s.num), .p (.list (s.sizes.map (.int .i64))), .p (.int .i64 s.lo), .p (.int .i64 s.hi), .p (.list (s.notes.map pn))] 0)] A [] : Sg E)) ?_ (fun mz σ hI => ?_)
          · refine lbeg [1, 5, 7, 11, 12, 138, 139] (hV := ?_)
            exact ⟨_, 0, by omega, rfl, sgE rfl rfl⟩
          obtain ⟨k, hk, hnnk, rfl⟩ := hI
          repeat refine gwp_seq ?_
          refine gwp_region ?_
          refine v0 (k := ?_)
          refine nil0 ?_
          repeat refine gwp_seq ?_
          refine cB (k1 := fun hb3 => ?_) (k0 := fun hb3 => ?_)
          · try simp only [decide_eq_true_eq, decide_eq_false_iff_not, Int.not_lt, Int.not_le, Bool.not_eq_eq_eq_not, Bool.not_true, Bool.not_false, Bool.and_eq_true, Bool.and_eq_false_iff, Bool.or_eq_true, Bool.or_eq_false_iff] at hb3
            repeat refine gwp_seq ?_
            refine gwp_skip ?_
            refine cl [1, 5, 7, 11, 12, 138, 139] (k := ?_)
            repeat refine gwp_seq ?_
            refine gwp_block ?_
            repeat refine gwp_seq ?_
            refine gwp_region ?_
            refine v0 (k := ?_)
            refine v0 (k := ?_)
            refine nil0 ?_
            refine cl [1, 5, 7, 11, 12, 13, 138, 139] (k := ?_)
            repeat refine gwp_seq ?_
            refine gwp_cut (l1 := ?_) (m1 := ?_) ?_ ?_
            rotate_left 2
            · have hbi := bit_i64 (clashR s) k (by omega) (by omega)
              have hbn := bit_toNat ((clashR s).testBit k)
              have hsh := shl_i64 (n := k) (by omega)
              have hpk : 2 ^ k < 2 ^ 40 := Nat.pow_lt_pow_right (by omega) (by omega)
              have han := bitop_andNot_i64 (clashR s) (2 ^ k) (by omega) (by omega)
              have hle := lessS_le (clashR s) (2 ^ k)
              cases hb : (clashR s).testBit k
              · refine gwp_region ?_
                refine v0 (k := ?_)
                refine v0 (k := ?_)
                refine v1 (hc := by (first | exact True.intro | omega | with_reducible exact ⟨by omega, by omega, by assumption⟩ | with_reducible exact ⟨trivial, by omega, by omega, by assumption⟩ | (simp only [inI]; omega) | (simp [P.size, nt, wP, pn, all_int, allOne_p, goods_p, allOne, goods, good, G.one, P.one, P.cells] <;> first | omega | assumption | simp_all))) (k := ?_)
                refine v0 (k := ?_)
                refine v0 (k := ?_)
                refine rb 146 false (h := by (first | with_reducible rfl | with_reducible assumption | with_reducible exact decide_eq_false (by omega) | with_reducible exact decide_eq_true (by omega) | with_reducible exact nd_f (by omega) | with_reducible exact nd_t (by omega) | (simp only [*]; done) | (simp [*]; done))) (k := ?_)
                refine v0 (k := ?_)
                refine x0 (k := ?_)
                refine x0 (k := ?_)
                refine x0 (k := ?_)
                refine x0 (k := ?_)
                refine x0 (k := ?_)
                refine x0 (k := ?_)
                refine x0 (k := ?_)
                refine v0 (k := ?_)
                refine nil0 ?_
                refine lcut [1, 5, 7, 11, 12, 138, 139, 155]
              · have hce := clash_each (s := s) (by omega) h0 (by omega) hb
                refine gwp_region ?_
                refine v0 (k := ?_)
                refine v0 (k := ?_)
                refine v1 (hc := by (first | exact True.intro | omega | with_reducible exact ⟨by omega, by omega, by assumption⟩ | with_reducible exact ⟨trivial, by omega, by omega, by assumption⟩ | (simp only [inI]; omega) | (simp [P.size, nt, wP, pn, all_int, allOne_p, goods_p, allOne, goods, good, G.one, P.one, P.cells] <;> first | omega | assumption | simp_all))) (k := ?_)
                refine v0 (k := ?_)
                refine v0 (k := ?_)
                refine rb 146 true (h := by (first | with_reducible rfl | with_reducible assumption | with_reducible exact decide_eq_false (by omega) | with_reducible exact decide_eq_true (by omega) | with_reducible exact nd_f (by omega) | with_reducible exact nd_t (by omega) | (simp only [*]; done) | (simp [*]; done))) (k := ?_)
                refine v0 (k := ?_)
                refine w0 (k := ?_)
                refine w0 (k := ?_)
                refine w0 (k := ?_)
                refine w1 (hc := by (first | exact True.intro | omega | with_reducible exact ⟨by omega, by omega, by assumption⟩ | with_reducible exact ⟨trivial, by omega, by omega, by assumption⟩ | (simp only [inI]; omega) | (simp [P.size, nt, wP, pn, all_int, allOne_p, goods_p, allOne, goods, good, G.one, P.one, P.cells] <;> first | omega | assumption | simp_all))) (k := ?_)
                refine w0 (k := ?_)
                refine ocw [(0, 120)] [] [0, 0] none (spec := c_can s hv (lessS (clashR s) (2 ^ k)) (by omega)) (hent := ent36) (k := ?_)
                refine rb 153 true (h := by (first | with_reducible rfl | with_reducible assumption | with_reducible exact decide_eq_false (by omega) | with_reducible exact decide_eq_true (by omega) | with_reducible exact nd_f (by omega) | with_reducible exact nd_t (by omega) | (simp only [*]; done) | (simp [*]; done))) (k := ?_)
                refine w0 (k := ?_)
                refine rb 154 false (h := by (first | with_reducible rfl | with_reducible assumption | with_reducible exact decide_eq_false (by omega) | with_reducible exact decide_eq_true (by omega) | with_reducible exact nd_f (by omega) | with_reducible exact nd_t (by omega) | (simp only [*]; done) | (simp [*]; done))) (k := ?_)
                refine v0 (k := ?_)
                refine nil0 ?_
                refine lcut [1, 5, 7, 11, 12, 138, 139, 155]
            · repeat refine gwp_seq ?_
              refine cF (k := ?_)
              repeat refine gwp_seq ?_
              refine gwp_skip ?_
              refine cl [1, 5, 7, 11, 12, 138, 139] (k := ?_)
              repeat refine gwp_seq ?_
              refine gwp_region ?_
              refine v1 (hc := by (first | exact True.intro | omega | with_reducible exact ⟨by omega, by omega, by assumption⟩ | with_reducible exact ⟨trivial, by omega, by omega, by assumption⟩ | (simp only [inI]; omega) | (simp [P.size, nt, wP, pn, all_int, allOne_p, goods_p, allOne, goods, good, G.one, P.one, P.cells] <;> first | omega | assumption | simp_all))) (k := ?_)
              refine v0 (k := ?_)
              refine nil0 ?_
              refine lend [1, 5, 7, 11, 12, 138, 139] (h := ?_) (hV := ?_) (n' := s.notes.length - (k + 1))
              · omega
              exact ⟨k + 1, by omega, rfl, sgE rfl rfl⟩
          · try simp only [decide_eq_true_eq, decide_eq_false_iff_not, Int.not_lt, Int.not_le, Bool.not_eq_eq_eq_not, Bool.not_true, Bool.not_false, Bool.and_eq_true, Bool.and_eq_false_iff, Bool.or_eq_true, Bool.or_eq_false_iff] at hb3
            repeat refine gwp_seq ?_
            refine gwp_exit ?_
            repeat (first | refine gthen_exit ?_ | refine gnoGoto_exit ?_ | refine gblock_here ?_ | refine gblock_out rfl ?_)
            refine cl [1, 5, 7, 11, 12] (k := ?_)
            repeat refine gwp_seq ?_
            have hoa := bitop_and_i64 ot (everyN s) (by omega) (by omega)
            have how : (ot &&& everyN s) ≤ everyN s := Nat.and_le_right
            refine gwp_region ?_
            refine v0 (k := ?_)
            refine v1 (hc := by (first | exact True.intro | omega | with_reducible exact ⟨by omega, by omega, by assumption⟩ | with_reducible exact ⟨trivial, by omega, by omega, by assumption⟩ | (simp only [inI]; omega) | (simp [P.size, nt, wP, pn, all_int, allOne_p, goods_p, allOne, goods, good, G.one, P.one, P.cells] <;> first | omega | assumption | simp_all))) (k := ?_)
            refine v0 (k := ?_)
            refine v0 (k := ?_)
            refine v0 (k := ?_)
            refine nil0 ?_
            refine cl [5, 7, 11, 12, 14] (k := ?_)
            repeat refine gwp_seq ?_
            refine gwp_region ?_
            refine v0 (k := ?_)
            refine nil0 ?_
            refine cl [5, 7, 11, 12, 14, 15] (k := ?_)
            repeat refine gwp_seq ?_
            refine gwp_cut (l1 := ?_) (m1 := ?_) ?_ ?_
            rotate_left 2
            · rcases clash_four (s := s) h0 how with hq | ⟨hq, h1⟩ | ⟨hq, h1, h2, h3⟩ | ⟨hq, h1, h2, h3, h4⟩
              · refine gwp_region ?_
                refine v0 (k := ?_)
                refine v0 (k := ?_)
                refine rb 162 false (h := by (first | with_reducible rfl | with_reducible assumption | with_reducible exact decide_eq_false (by omega) | with_reducible exact decide_eq_true (by omega) | with_reducible exact nd_f (by omega) | with_reducible exact nd_t (by omega) | (simp only [*]; done) | (simp [*]; done))) (k := ?_)
                refine v0 (k := ?_)
                refine x0 (k := ?_)
                refine x0 (k := ?_)
                refine x0 (k := ?_)
                refine x0 (k := ?_)
                refine v0 (k := ?_)
                refine v0 (k := ?_)
                refine x0 (k := ?_)
                refine x0 (k := ?_)
                refine x0 (k := ?_)
                refine x0 (k := ?_)
                refine x0 (k := ?_)
                refine x0 (k := ?_)
                refine x0 (k := ?_)
                refine x0 (k := ?_)
                refine x1 (k := ?_)
                refine x1 (k := ?_)
                refine x1 (k := ?_)
                refine x1 (k := ?_)
                refine x1 (k := ?_)
                refine x1 (k := ?_)
                refine x1 (k := ?_)
                refine x1 (k := ?_)
                refine x1 (k := ?_)
                refine x1 (k := ?_)
                refine x1 (k := ?_)
                refine x1 (k := ?_)
                refine x0 (k := ?_)
                refine v0 (k := ?_)
                refine nil0 ?_
                refine lcut [7, 11, 12, 14, 15, 191]
              · refine gwp_region ?_
                refine v0 (k := ?_)
                refine v0 (k := ?_)
                refine rb 162 true (h := by (first | with_reducible rfl | with_reducible assumption | with_reducible exact decide_eq_false (by omega) | with_reducible exact decide_eq_true (by omega) | with_reducible exact nd_f (by omega) | with_reducible exact nd_t (by omega) | (simp only [*]; done) | (simp [*]; done))) (k := ?_)
                refine v0 (k := ?_)
                refine w0 (k := ?_)
                refine w0 (k := ?_)
                refine ocw [(0, 120)] [] [0, 0] none (spec := c_can s hv (ot &&& everyN s) (by omega)) (hent := ent36) (k := ?_)
                refine rb 166 true (h := by (first | with_reducible rfl | with_reducible assumption | with_reducible exact decide_eq_false (by omega) | with_reducible exact decide_eq_true (by omega) | with_reducible exact nd_f (by omega) | with_reducible exact nd_t (by omega) | (simp only [*]; done) | (simp [*]; done))) (k := ?_)
                refine w0 (k := ?_)
                refine rb 167 false (h := by (first | with_reducible rfl | with_reducible assumption | with_reducible exact decide_eq_false (by omega) | with_reducible exact decide_eq_true (by omega) | with_reducible exact nd_f (by omega) | with_reducible exact nd_t (by omega) | (simp only [*]; done) | (simp [*]; done))) (k := ?_)
                refine v0 (k := ?_)
                refine v0 (k := ?_)
                refine x0 (k := ?_)
                refine x0 (k := ?_)
                refine x0 (k := ?_)
                refine x0 (k := ?_)
                refine x0 (k := ?_)
                refine x0 (k := ?_)
                refine x0 (k := ?_)
                refine x0 (k := ?_)
                refine x1 (k := ?_)
                refine x1 (k := ?_)
                refine x1 (k := ?_)
                refine x1 (k := ?_)
                refine x1 (k := ?_)
                refine x1 (k := ?_)
                refine x1 (k := ?_)
                refine x1 (k := ?_)
                refine x1 (k := ?_)
                refine x1 (k := ?_)
                refine x1 (k := ?_)
                refine x1 (k := ?_)
                refine x0 (k := ?_)
                refine v0 (k := ?_)
                refine nil0 ?_
                refine lcut [7, 11, 12, 14, 15, 191]
              · refine gwp_region ?_
                refine v0 (k := ?_)
                refine v0 (k := ?_)
                refine rb 162 true (h := by (first | with_reducible rfl | with_reducible assumption | with_reducible exact decide_eq_false (by omega) | with_reducible exact decide_eq_true (by omega) | with_reducible exact nd_f (by omega) | with_reducible exact nd_t (by omega) | (simp only [*]; done) | (simp [*]; done))) (k := ?_)
                refine v0 (k := ?_)
                refine w0 (k := ?_)
                refine w0 (k := ?_)
                refine ocw [(0, 120)] [] [0, 0] none (spec := c_can s hv (ot &&& everyN s) (by omega)) (hent := ent36) (k := ?_)
                refine rb 166 false (h := by (first | with_reducible rfl | with_reducible assumption | with_reducible exact decide_eq_false (by omega) | with_reducible exact decide_eq_true (by omega) | with_reducible exact nd_f (by omega) | with_reducible exact nd_t (by omega) | (simp only [*]; done) | (simp [*]; done))) (k := ?_)
                refine w0 (k := ?_)
                refine rb 167 true (h := by (first | with_reducible rfl | with_reducible assumption | with_reducible exact decide_eq_false (by omega) | with_reducible exact decide_eq_true (by omega) | with_reducible exact nd_f (by omega) | with_reducible exact nd_t (by omega) | (simp only [*]; done) | (simp [*]; done))) (k := ?_)
                refine v0 (k := ?_)
                refine v0 (k := ?_)
                refine w0 (k := ?_)
                refine w0 (k := ?_)
                refine pcw (spec := r_Size (ot &&& everyN s) (by omega)) (hent := ent38) (k := ?_)
                refine w0 (k := ?_)
                refine w0 (k := ?_)
                refine pcw (spec := r_Size (clashR s) (by omega)) (hent := ent38) (k := ?_)
                refine w0 (k := ?_)
                refine rb 176 false (h := by (first | with_reducible rfl | with_reducible assumption | with_reducible exact decide_eq_false (by omega) | with_reducible exact decide_eq_true (by omega) | with_reducible exact nd_f (by omega) | with_reducible exact nd_t (by omega) | (simp only [*]; done) | (simp [*]; done))) (k := ?_)
                refine w0 (k := ?_)
                refine w0 (k := ?_)
                refine w0 (k := ?_)
                refine pcw (spec := r_Size (ot &&& everyN s) (by omega)) (hent := ent38) (k := ?_)
                refine w0 (k := ?_)
                refine w0 (k := ?_)
                refine pcw (spec := r_Size (clashR s) (by omega)) (hent := ent38) (k := ?_)
                refine w0 (k := ?_)
                refine rb 184 false (h := by (first | with_reducible rfl | with_reducible assumption | with_reducible exact decide_eq_false (by omega) | with_reducible exact decide_eq_true (by omega) | with_reducible exact nd_f (by omega) | with_reducible exact nd_t (by omega) | (simp only [*]; done) | (simp [*]; done))) (k := ?_)
                refine w0 (k := ?_)
                refine x0 (k := ?_)
                refine x0 (k := ?_)
                refine x0 (k := ?_)
                refine w0 (k := ?_)
                refine w0 (k := ?_)
                refine v0 (k := ?_)
                refine nil0 ?_
                refine lcut [7, 11, 12, 14, 15, 191]
              · refine gwp_region ?_
                refine v0 (k := ?_)
                refine v0 (k := ?_)
                refine rb 162 true (h := by (first | with_reducible rfl | with_reducible assumption | with_reducible exact decide_eq_false (by omega) | with_reducible exact decide_eq_true (by omega) | with_reducible exact nd_f (by omega) | with_reducible exact nd_t (by omega) | (simp only [*]; done) | (simp [*]; done))) (k := ?_)
                refine v0 (k := ?_)
                refine w0 (k := ?_)
                refine w0 (k := ?_)
                refine ocw [(0, 120)] [] [0, 0] none (spec := c_can s hv (ot &&& everyN s) (by omega)) (hent := ent36) (k := ?_)
                refine rb 166 false (h := by (first | with_reducible rfl | with_reducible assumption | with_reducible exact decide_eq_false (by omega) | with_reducible exact decide_eq_true (by omega) | with_reducible exact nd_f (by omega) | with_reducible exact nd_t (by omega) | (simp only [*]; done) | (simp [*]; done))) (k := ?_)
                refine w0 (k := ?_)
                refine rb 167 true (h := by (first | with_reducible rfl | with_reducible assumption | with_reducible exact decide_eq_false (by omega) | with_reducible exact decide_eq_true (by omega) | with_reducible exact nd_f (by omega) | with_reducible exact nd_t (by omega) | (simp only [*]; done) | (simp [*]; done))) (k := ?_)
                refine v0 (k := ?_)
                refine v0 (k := ?_)
                refine w0 (k := ?_)
                refine w0 (k := ?_)
                refine pcw (spec := r_Size (ot &&& everyN s) (by omega)) (hent := ent38) (k := ?_)
                refine w0 (k := ?_)
                refine w0 (k := ?_)
                refine pcw (spec := r_Size (clashR s) (by omega)) (hent := ent38) (k := ?_)
                refine w0 (k := ?_)
                refine rb 176 false (h := by (first | with_reducible rfl | with_reducible assumption | with_reducible exact decide_eq_false (by omega) | with_reducible exact decide_eq_true (by omega) | with_reducible exact nd_f (by omega) | with_reducible exact nd_t (by omega) | (simp only [*]; done) | (simp [*]; done))) (k := ?_)
                refine w0 (k := ?_)
                refine w0 (k := ?_)
                refine w0 (k := ?_)
                refine pcw (spec := r_Size (ot &&& everyN s) (by omega)) (hent := ent38) (k := ?_)
                refine w0 (k := ?_)
                refine w0 (k := ?_)
                refine pcw (spec := r_Size (clashR s) (by omega)) (hent := ent38) (k := ?_)
                refine w0 (k := ?_)
                refine rb 184 true (h := by (first | with_reducible rfl | with_reducible assumption | with_reducible exact decide_eq_false (by omega) | with_reducible exact decide_eq_true (by omega) | with_reducible exact nd_f (by omega) | with_reducible exact nd_t (by omega) | (simp only [*]; done) | (simp [*]; done))) (k := ?_)
                refine w0 (k := ?_)
                refine w0 (k := ?_)
                refine w0 (k := ?_)
                refine w0 (k := ?_)
                refine rb 188 false (h := by (first | with_reducible rfl | with_reducible assumption | with_reducible exact decide_eq_false (by omega) | with_reducible exact decide_eq_true (by omega) | with_reducible exact nd_f (by omega) | with_reducible exact nd_t (by omega) | (simp only [*]; done) | (simp [*]; done))) (k := ?_)
                refine w0 (k := ?_)
                refine w0 (k := ?_)
                refine v0 (k := ?_)
                refine nil0 ?_
                refine lcut [7, 11, 12, 14, 15, 191]
            · repeat refine gwp_seq ?_
              refine cF (k := ?_)
              repeat refine gwp_seq ?_
              refine gwp_skip ?_
              refine cl [7, 11, 12, 14, 15] (k := ?_)
              repeat refine gwp_seq ?_
              have hlt := lessS_le (everyN s) (ot &&& everyN s)
              have han := bitop_andNot_i64 (everyN s) (ot &&& everyN s) (by omega) (by omega)
              rcases drop_four (s := s) (by omega) h0 how with hq | ⟨hq, h1, h2⟩ | ⟨hq, h1, h2, h3⟩
              · repeat refine gwp_seq ?_
                refine gwp_region ?_
                refine v0 (k := ?_)
                refine v0 (k := ?_)
                refine v0 (k := ?_)
                refine v0 (k := ?_)
                refine oc0 [(0, 120)] [] [0, 0] none (spec := c_can s hv (lessS (everyN s) (ot &&& everyN s)) (by omega)) (hent := ent36) (k := ?_)
                refine rb 196 false (h := by (first | with_reducible rfl | with_reducible assumption | with_reducible exact decide_eq_false (by omega) | with_reducible exact decide_eq_true (by omega) | with_reducible exact nd_f (by omega) | with_reducible exact nd_t (by omega) | (simp only [*]; done) | (simp [*]; done))) (k := ?_)
                refine v0 (k := ?_)
                refine x0 (k := ?_)
                refine x0 (k := ?_)
                refine x0 (k := ?_)
                refine x0 (k := ?_)
                refine x0 (k := ?_)
                refine x0 (k := ?_)
                refine x0 (k := ?_)
                refine x0 (k := ?_)
                refine x1 (k := ?_)
                refine x1 (k := ?_)
                refine x1 (k := ?_)
                refine x1 (k := ?_)
                refine x1 (k := ?_)
                refine x1 (k := ?_)
                refine x1 (k := ?_)
                refine x1 (k := ?_)
                refine x1 (k := ?_)
                refine x1 (k := ?_)
                refine x1 (k := ?_)
                refine x1 (k := ?_)
                refine x0 (k := ?_)
                refine v0 (k := ?_)
                refine v0 (k := ?_)
                refine v0 (k := ?_)
                refine pcw (spec := l_awake) (hent := ent13) (k := ?_)
                refine v0 (k := ?_)
                refine v0 (k := ?_)
                refine nil0 ?_
                repeat refine gwp_seq ?_
                refine gwp_ret ?_
                repeat (first | refine gthen_ret ?_ | refine gblock_ret ?_ | refine gnoGoto_ret ?_)
                refine fin_ret ?_
                refine fp (hR := ?_)
                rfl
              · repeat refine gwp_seq ?_
                refine gwp_region ?_
                refine v0 (k := ?_)
                refine v0 (k := ?_)
                refine v0 (k := ?_)
                refine v0 (k := ?_)
                refine oc0 [(0, 120)] [] [0, 0] none (spec := c_can s hv (lessS (everyN s) (ot &&& everyN s)) (by omega)) (hent := ent36) (k := ?_)
                refine rb 196 true (h := by (first | with_reducible rfl | with_reducible assumption | with_reducible exact decide_eq_false (by omega) | with_reducible exact decide_eq_true (by omega) | with_reducible exact nd_f (by omega) | with_reducible exact nd_t (by omega) | (simp only [*]; done) | (simp [*]; done))) (k := ?_)
                refine v0 (k := ?_)
                refine w0 (k := ?_)
                refine w0 (k := ?_)
                refine pcw (spec := r_Size (ot &&& everyN s) (by omega)) (hent := ent38) (k := ?_)
                refine w0 (k := ?_)
                refine w0 (k := ?_)
                refine pcw (spec := r_Size (dropR s) (by omega)) (hent := ent38) (k := ?_)
                refine w0 (k := ?_)
                refine rb 204 false (h := by (first | with_reducible rfl | with_reducible assumption | with_reducible exact decide_eq_false (by omega) | with_reducible exact decide_eq_true (by omega) | with_reducible exact nd_f (by omega) | with_reducible exact nd_t (by omega) | (simp only [*]; done) | (simp [*]; done))) (k := ?_)
                refine w0 (k := ?_)
                refine w0 (k := ?_)
                refine w0 (k := ?_)
                refine pcw (spec := r_Size (ot &&& everyN s) (by omega)) (hent := ent38) (k := ?_)
                refine w0 (k := ?_)
                refine w0 (k := ?_)
                refine pcw (spec := r_Size (dropR s) (by omega)) (hent := ent38) (k := ?_)
                refine w0 (k := ?_)
                refine rb 212 false (h := by (first | with_reducible rfl | with_reducible assumption | with_reducible exact decide_eq_false (by omega) | with_reducible exact decide_eq_true (by omega) | with_reducible exact nd_f (by omega) | with_reducible exact nd_t (by omega) | (simp only [*]; done) | (simp [*]; done))) (k := ?_)
                refine w0 (k := ?_)
                refine x0 (k := ?_)
                refine x0 (k := ?_)
                refine x0 (k := ?_)
                refine w0 (k := ?_)
                refine w0 (k := ?_)
                refine v0 (k := ?_)
                refine v0 (k := ?_)
                refine v0 (k := ?_)
                refine pcw (spec := l_awake) (hent := ent13) (k := ?_)
                refine v0 (k := ?_)
                refine v0 (k := ?_)
                refine nil0 ?_
                repeat refine gwp_seq ?_
                refine gwp_ret ?_
                repeat (first | refine gthen_ret ?_ | refine gblock_ret ?_ | refine gnoGoto_ret ?_)
                refine fin_ret ?_
                refine fp (hR := ?_)
                rfl
              · repeat refine gwp_seq ?_
                refine gwp_region ?_
                refine v0 (k := ?_)
                refine v0 (k := ?_)
                refine v0 (k := ?_)
                refine v0 (k := ?_)
                refine oc0 [(0, 120)] [] [0, 0] none (spec := c_can s hv (lessS (everyN s) (ot &&& everyN s)) (by omega)) (hent := ent36) (k := ?_)
                refine rb 196 true (h := by (first | with_reducible rfl | with_reducible assumption | with_reducible exact decide_eq_false (by omega) | with_reducible exact decide_eq_true (by omega) | with_reducible exact nd_f (by omega) | with_reducible exact nd_t (by omega) | (simp only [*]; done) | (simp [*]; done))) (k := ?_)
                refine v0 (k := ?_)
                refine w0 (k := ?_)
                refine w0 (k := ?_)
                refine pcw (spec := r_Size (ot &&& everyN s) (by omega)) (hent := ent38) (k := ?_)
                refine w0 (k := ?_)
                refine w0 (k := ?_)
                refine pcw (spec := r_Size (dropR s) (by omega)) (hent := ent38) (k := ?_)
                refine w0 (k := ?_)
                refine rb 204 false (h := by (first | with_reducible rfl | with_reducible assumption | with_reducible exact decide_eq_false (by omega) | with_reducible exact decide_eq_true (by omega) | with_reducible exact nd_f (by omega) | with_reducible exact nd_t (by omega) | (simp only [*]; done) | (simp [*]; done))) (k := ?_)
                refine w0 (k := ?_)
                refine w0 (k := ?_)
                refine w0 (k := ?_)
                refine pcw (spec := r_Size (ot &&& everyN s) (by omega)) (hent := ent38) (k := ?_)
                refine w0 (k := ?_)
                refine w0 (k := ?_)
                refine pcw (spec := r_Size (dropR s) (by omega)) (hent := ent38) (k := ?_)
                refine w0 (k := ?_)
                refine rb 212 true (h := by (first | with_reducible rfl | with_reducible assumption | with_reducible exact decide_eq_false (by omega) | with_reducible exact decide_eq_true (by omega) | with_reducible exact nd_f (by omega) | with_reducible exact nd_t (by omega) | (simp only [*]; done) | (simp [*]; done))) (k := ?_)
                refine w0 (k := ?_)
                refine w0 (k := ?_)
                refine w0 (k := ?_)
                refine w0 (k := ?_)
                refine rb 216 false (h := by (first | with_reducible rfl | with_reducible assumption | with_reducible exact decide_eq_false (by omega) | with_reducible exact decide_eq_true (by omega) | with_reducible exact nd_f (by omega) | with_reducible exact nd_t (by omega) | (simp only [*]; done) | (simp [*]; done))) (k := ?_)
                refine w0 (k := ?_)
                refine w0 (k := ?_)
                refine v0 (k := ?_)
                refine v0 (k := ?_)
                refine v0 (k := ?_)
                refine pcw (spec := l_awake) (hent := ent13) (k := ?_)
                refine v0 (k := ?_)
                refine v0 (k := ?_)
                refine nil0 ?_
                repeat refine gwp_seq ?_
                refine gwp_ret ?_
                repeat (first | refine gthen_ret ?_ | refine gblock_ret ?_ | refine gnoGoto_ret ?_)
                refine fin_ret ?_
                refine fp (hR := ?_)
                rfl
end Go.Proofs.Ytedihdnkalmoiaa

/- The statement TwiceClash, for every input: the law returns true, and its arguments read as they did.  -/
namespace Go.Proofs.Ytedihdnkalmoiaa
open Go.Gh Go.ChangeShapes Go.WideShapes Go.ChangeAt Go.RowKit
set_option maxRecDepth 100000
theorem aj_clash : ∀ ps, FitAs [(true, shSS), (false, [.int .u16])] ps → PSpec Try.prog 8 ps (.ok (.bool true)) := fun ps h => by
  simp only [FitAs] at h
  obtain ⟨_, _, rfl, q0, _, _, rfl, q1, rfl⟩ := h
  obtain ⟨s, rfl, hi1, hi2, hi3, hi4, hi5⟩ := sh_of q0
  obtain ⟨o, rfl, ho⟩ := u16_of q1
  exact l_clash s o ho
theorem clash_lifted (os : Os) (started : os.Started) (H : Type) (enc : TypeId × Value → H) :
    ReturnsInHanded {} Try.checked os 8 .any (Rows.twiceClashSpec.pre6 enc Try.prog Try.f8 Rows.twiceClashRow.domain false) (Rows.twiceClashSpec.post enc Try.prog Try.f8 false true false false) := by
  refine returnsInHanded_of_change (C := Try.checked) own started (by kernel_rfl) Try.func8
    (ChangeSpec.witness6 (enc := enc) (C := Try.checked) false ⟨#[], #[.agg #[.int .i64 0, .slice none 0 0, .int .i64 0, .int .i64 0, .slice none 0 0], .int .u16 0], []⟩ 8 (by kernel_rfl) (by kernel_rfl) (by kernel_rfl) (by kernel_rfl)) ?_
  intro W base args ds gs before hval hW _ _
  exact law_post (n := 9) (ss := [(true, shSS), (false, [.int .u16])]) (b := 4) laidOut (by kernel_rfl) (by kernel_rfl) (by kernel_rfl) (by kernel_rfl) rfl
    (fun ds hd => by
      have hd' : ds.length = 2 := hd
      match ds, hd' with
      | [a, b], _ => rfl) aj_clash hval hW
theorem clash_holds : Rows.TwiceClashSaid :=
  OpenClaim.holds_of_wide 8 Try.f8 rfl rfl rfl rfl rfl rfl rfl ⟨rfl, rfl, rfl, rfl, rfl⟩ rfl rfl rfl rfl rfl (by kernel_rfl) Try.func8 (by kernel_rfl)
    (of_decide_eq_true (by kernel_rfl)) (by unfold Func.isWrapper; first | (rw [if_pos (by decide +kernel)]; kernel_rfl) | (rw [if_neg (by decide +kernel)]; exact ⟨rfl, rfl⟩))
    (fun os started H enc _ => clash_lifted os started H enc)
end Go.Proofs.Ytedihdnkalmoiaa
