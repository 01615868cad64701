/- The statement TwiceEqualSaid: the call returns true for every input, and its arguments read as before; no condition. -/
import Derived.Test.YtedihdnkalmoiaaC1
set_option linter.unusedVariables false
set_option linter.unusedSimpArgs false
/- The statement TwiceEqual: the walk. -/
namespace Go.Proofs.Ytedihdnkalmoiaa
open Go.Gh
set_option maxRecDepth 100000
set_option maxHeartbeats 4000000
def rowP (s : Sh) (a : Nat) : List P := (List.range s.num.toNat).map fun (b : Nat) => .int .i64 (sameA s a b)
def rowsP (s : Sh) : List P := (List.range s.num.toNat).map fun a => .list (rowP s a)
def rowT (s : Sh) (a k : Nat) : List P := (rowP s a).take k
def rowsT (s : Sh) (k : Nat) : List P := (rowsP s).take k
theorem rowP_get {s : Sh} {a k : Nat} (h : k < s.num.toNat) : (rowP s a)[k]? = some (.int .i64 (sameA s a k)) := by
  rw [rowP, List.getElem?_map, List.getElem?_range h]; rfl
theorem rowsP_get {s : Sh} {k : Nat} (h : k < s.num.toNat) : (rowsP s)[k]? = some (.list (rowP s k)) := by
  rw [rowsP, List.getElem?_map, List.getElem?_range h]; rfl
theorem rowP_len (s : Sh) (a : Nat) : (rowP s a).length = s.num.toNat := by simp [rowP]
theorem rowsP_len (s : Sh) : (rowsP s).length = s.num.toNat := by simp [rowsP]
theorem rowT_len {s : Sh} {a k : Nat} (h : k ≤ s.num.toNat) : (rowT s a k).length = k := by simp [rowT, rowP_len]; omega
theorem rowsT_len {s : Sh} {k : Nat} (h : k ≤ s.num.toNat) : (rowsT s k).length = k := by simp [rowsT, rowsP_len]; omega
theorem rowT_succ {s : Sh} {a k : Nat} (h : k < s.num.toNat) : rowT s a (k + 1) = rowT s a k ++ [.int .i64 (sameA s a k)] := by
  rw [rowT, List.take_add_one, rowP_get h]; rfl
theorem rowsT_succ {s : Sh} {k : Nat} (h : k < s.num.toNat) : rowsT s (k + 1) = rowsT s k ++ [.list (rowP s k)] := by
  rw [rowsT, List.take_add_one, rowsP_get h]; rfl
theorem rowT_all (s : Sh) (a : Nat) : rowT s a s.num.toNat = rowP s a := by rw [rowT, List.take_of_length_le (by rw [rowP_len]; omega)]
theorem rowsT_all (s : Sh) : rowsT s s.num.toNat = rowsP s := by rw [rowsT, List.take_of_length_le (by rw [rowsP_len]; omega)]
theorem rowP_one (s : Sh) (a : Nat) : ∀ x ∈ rowP s a, x.one = true ∧ x.size = 1 := fun x hx => by
  simp only [rowP, List.mem_map] at hx
  obtain ⟨_, _, rfl⟩ := hx
  exact ⟨rfl, rfl⟩
theorem rowsP_one (s : Sh) : ∀ x ∈ rowsP s, x.one = true ∧ x.size = 1 := fun x hx => by
  simp only [rowsP, List.mem_map] at hx
  obtain ⟨_, _, rfl⟩ := hx
  exact ⟨rfl, rfl⟩
theorem told_fin (s : Sh) : toldC (rowsT s s.num.toNat) [] (s.num.toNat - s.num.toNat) = (rowsP s).map .p := by rw [Nat.sub_self, told_end, rowsT_all]
theorem one_map {ps : List P} (h : ∀ x ∈ ps, x.one = true) (n : Nat) : allOne ((ps.map G.p).take n) = true := by
  rw [← List.map_take, allOne_p, List.all_eq_true]
  exact fun x hx => h x (List.mem_of_mem_take hx)
theorem err_cases (s : Sh) : (wA s ≠ [] ∧ errA s = 0) ∨ (errA s = 10 ∧ ∀ a b, sameA s a b = 0) := by
  by_cases h : wA s = []
  · exact .inr ⟨errA_no h, sameA_no h⟩
  · exact .inl ⟨h, errA_ok h⟩
theorem four (s : Sh) (a b : Int) : errA s = 10 ∨ (errA s = 0 ∧ sameA s a b = 0) ∨ (errA s = 0 ∧ sameA s a b = 1) ∨ (errA s = 0 ∧ sameA s a b = 2) := by
  have h1 := err_cases s
  have h2 := sameA_range s a b
  rcases h1 with ⟨_, h1⟩ | ⟨h1, _⟩ <;> omega
theorem six (i j : Nat) (p q : Int) : (¬ (i : Int) = (j : Int) ∧ p = 0) ∨ (¬ (i : Int) = (j : Int) ∧ ¬ p = 0 ∧ q = 0) ∨ (¬ (i : Int) = (j : Int) ∧ ¬ p = 0 ∧ ¬ q = 0 ∧ p = q) ∨ (¬ (i : Int) = (j : Int) ∧ ¬ p = 0 ∧ ¬ q = 0 ∧ ¬ p = q) ∨ (i = j ∧ p = 0) ∨ (i = j ∧ ¬ p = 0) := by omega
theorem told_mk (n : Nat) : ((List.range n).map fun i => [G.nils].getD (i % 1) G.undef) = toldC [] [] n := by have := told_make n; rwa [Nat.mul_one] at this
theorem ent6 : Enters Try.prog 6 := Enters.mk Try.func6 (by kernel_rfl) rfl
theorem l_equal (s : Sh) : PSpec Try.prog 6 [.agg [.int .i64 s.num, .list (s.sizes.map (.int .i64)), .int .i64 s.lo, .int .i64 s.hi, .list (s.notes.map pn)]] (.ok (.bool true)) := by
  refine pspec_of Try.func6 (rfl : Try.f6.body = some _) rfl ?_
  intro E A C hN hL
  replace hN : C.N = 243 := hN
  simp only [Gh.num, List.map_cons, List.map_nil, Nat.reduceAdd]
  have hgs := geq_span
  have hdt : ∀ (i : Decidable True), @decide True i = true := fun i => decide_eq_true trivial
  have hdf : ∀ (i : Decidable False), @decide False i = false := fun i => decide_eq_false id
  have hpn : ∀ n : Nt, pn n = P.agg [.int .i64 n.a, .int .i64 n.b, .bool n.s] := fun _ => rfl
  repeat refine gwp_seq ?_
  refine gwp_region ?_
  refine n1 110 false (hc := by (first | exact True.intro | omega | exact ⟨by omega, by omega, hz0⟩ | exact ⟨by omega, by omega, hzi⟩ | exact ⟨by omega, by omega, hzj⟩ | exact ⟨by omega, by omega, hza⟩ | with_reducible exact ⟨by omega, by omega, by assumption⟩ | with_reducible exact ⟨trivial, by omega, by omega, by assumption⟩ | (simp only [inI]; omega) | (simp [P.size, nt, wP, pn, all_int, allOne_p, goods_p, allOne, goods, good, G.one, P.one, P.cells] <;> first | omega | assumption | simp_all))) (k := ?_)
  refine v0 (k := ?_)
  refine nil0 ?_
  refine clx [1] (k := ?_)
  repeat refine gwp_seq ?_
  refine gwp_region ?_
  refine v0 (k := ?_)
  refine pc0 (spec := l_heavy s 8 12) (hent := ent12) (k := ?_)
  refine v0 (k := ?_)
  refine b0 (k1 := fun hb1 => ?_) (k0 := fun hb1 => ?_)
  · try simp only [decide_eq_true_eq, decide_eq_false_iff_not, Int.not_lt, Int.not_le, Bool.not_eq_eq_eq_not, Bool.not_true, Bool.not_false, Bool.and_eq_true, Bool.and_eq_false_iff, Bool.or_eq_true, Bool.or_eq_false_iff] at hb1
    refine x0 (k := ?_)
    refine x0 (k := ?_)
    refine x0 (k := ?_)
    refine v0 (k := ?_)
    refine v0 (k := ?_)
    refine x0 (k := ?_)
    refine x0 (k := ?_)
    refine x0 (k := ?_)
    refine v0 (k := ?_)
    refine nil0 ?_
    repeat refine gwp_seq ?_
    refine cT (k := ?_)
    repeat refine gwp_seq ?_
    refine gwp_region ?_
    refine pc0 (spec := l_awake) (hent := ent13) (k := ?_)
    refine v0 (k := ?_)
    refine nil0 ?_
    repeat refine gwp_seq ?_
    refine gwp_ret ?_
    repeat (first | refine gthen_ret ?_ | refine gblock_ret ?_ | refine gnoGoto_ret ?_)
    refine fin_ret ?_
    refine fp (hR := ?_)
    rfl
  · try simp only [decide_eq_true_eq, decide_eq_false_iff_not, Int.not_lt, Int.not_le, Bool.not_eq_eq_eq_not, Bool.not_true, Bool.not_false, Bool.and_eq_true, Bool.and_eq_false_iff, Bool.or_eq_true, Bool.or_eq_false_iff] at hb1
    refine w0 (k := ?_)
    refine pcw (spec := s_Shelf s (heavy_len hb1).1 (heavy_len hb1).2) (hent := ent33) (k := ?_)
    refine w0 (k := ?_)
    refine v0 (k := ?_)
    refine v0 (k := ?_)
    refine b0 (k1 := fun hb2 => ?_) (k0 := fun hb2 => ?_)
    · try simp only [decide_eq_true_eq, decide_eq_false_iff_not, Int.not_lt, Int.not_le, Bool.not_eq_eq_eq_not, Bool.not_true, Bool.not_false, Bool.and_eq_true, Bool.and_eq_false_iff, Bool.or_eq_true, Bool.or_eq_false_iff] at hb2
      refine x0 (k := ?_)
      refine x0 (k := ?_)
      refine x0 (k := ?_)
      refine v0 (k := ?_)
      refine nil0 ?_
      repeat refine gwp_seq ?_
      refine cT (k := ?_)
      repeat refine gwp_seq ?_
      refine gwp_region ?_
      refine pc0 (spec := l_awake) (hent := ent13) (k := ?_)
      refine v0 (k := ?_)
      refine nil0 ?_
      repeat refine gwp_seq ?_
      refine gwp_ret ?_
      repeat (first | refine gthen_ret ?_ | refine gblock_ret ?_ | refine gnoGoto_ret ?_)
      refine fin_ret ?_
      refine fp (hR := ?_)
      rfl
    · try simp only [decide_eq_true_eq, decide_eq_false_iff_not, Int.not_lt, Int.not_le, Bool.not_eq_eq_eq_not, Bool.not_true, Bool.not_false, Bool.and_eq_true, Bool.and_eq_false_iff, Bool.or_eq_true, Bool.or_eq_false_iff] at hb2
      refine w0 (k := ?_)
      refine w0 (k := ?_)
      refine w0 (k := ?_)
      refine v0 (k := ?_)
      refine nil0 ?_
      repeat refine gwp_seq ?_
      refine cB (k1 := fun hb3 => ?_) (k0 := fun hb3 => ?_)
      · try simp only [decide_eq_true_eq, decide_eq_false_iff_not, Int.not_lt, Int.not_le, Bool.not_eq_eq_eq_not, Bool.not_true, Bool.not_false, Bool.and_eq_true, Bool.and_eq_false_iff, Bool.or_eq_true, Bool.or_eq_false_iff] at hb3
        repeat refine gwp_seq ?_
        refine gwp_region ?_
        refine pc0 (spec := l_awake) (hent := ent13) (k := ?_)
        refine v0 (k := ?_)
        refine nil0 ?_
        repeat refine gwp_seq ?_
        refine gwp_ret ?_
        repeat (first | refine gthen_ret ?_ | refine gblock_ret ?_ | refine gnoGoto_ret ?_)
        refine fin_ret ?_
        refine fp (hR := ?_)
        rfl
      · try simp only [decide_eq_true_eq, decide_eq_false_iff_not, Int.not_lt, Int.not_le, Bool.not_eq_eq_eq_not, Bool.not_true, Bool.not_false, Bool.and_eq_true, Bool.and_eq_false_iff, Bool.or_eq_true, Bool.or_eq_false_iff] at hb3
        repeat refine gwp_seq ?_
        refine gwp_skip ?_
        refine clx [1] (k := ?_)
        repeat refine gwp_seq ?_
        have hn := valid_num hb2
        refine gwp_region ?_
        refine v0 (k := ?_)
        refine v0 (k := ?_)
        refine v0 (k := ?_)
        refine nil0 ?_
        refine clx [1, 3] (k := ?_)
        repeat refine gwp_seq ?_
        refine gwp_region ?_
        refine v0 (k := ?_)
        refine n1 420 false (hc := by (first | exact True.intro | omega | exact ⟨by omega, by omega, hz0⟩ | exact ⟨by omega, by omega, hzi⟩ | exact ⟨by omega, by omega, hzj⟩ | exact ⟨by omega, by omega, hza⟩ | with_reducible exact ⟨by omega, by omega, by assumption⟩ | with_reducible exact ⟨trivial, by omega, by omega, by assumption⟩ | (simp only [inI]; omega) | (simp [P.size, nt, wP, pn, all_int, allOne_p, goods_p, allOne, goods, good, G.one, P.one, P.cells] <;> first | omega | assumption | simp_all))) (k := ?_)
        rw [told_mk]
        refine v0 (k := ?_)
        refine nil0 ?_
        refine clx [1, 3, 4] (k := ?_)
        repeat refine gwp_seq ?_
        refine gwp_region ?_
        refine v0 (k := ?_)
        refine pc0 (spec := c_first s hb2) (hent := ent18) (k := ?_)
        refine v0 (k := ?_)
        refine v0 (k := ?_)
        refine v0 (k := ?_)
        refine v0 (k := ?_)
        refine v0 (k := ?_)
        refine nil0 ?_
        refine clx [1, 3, 4, 6] (k := ?_)
        repeat refine gwp_seq ?_
        refine gwp_region ?_
        refine v0 (k := ?_)
        refine v0 (k := ?_)
        refine nil0 ?_
        refine clx [1, 3, 4, 6, 38, 39] (k := ?_)
        repeat refine gwp_seq ?_
        refine gwp_block ?_
        repeat refine gwp_seq ?_
        refine gc_loop (fun mz σ => ∃ i : Nat, ((i : Int) ≤ s.num) ∧ mz = s.num.toNat - i ∧ σ = (sg [(1, .ref 110 0), (3, .p (.int .i64 s.num)), (4, .fsl 420 0 s.num.toNat), (6, .p (.int .i64 (errA s))), (38, .p (.int .i64 s.num)), (39, .p (.int .i64 i))] [(110, .cells [.p (.int .i64 s.num), .p (.list (s.sizes.map (.int .i64))), .p (.int .i64 s.lo), .p (.int .i64 s.hi), .p (.list (s.notes.map pn))] 0), (420, .cells (toldC (rowsT s i) [] (s.num.toNat - i)) 0)] A [] : Sg E)) ?_ (fun mz σ hI => ?_)
        · refine lbegx [1, 3, 4, 6, 38, 39] (hV := ?_)
          exact ⟨_, 0, by omega, rfl, sgE rfl rfl⟩
        obtain ⟨i, hi, hnni, rfl⟩ := hI
        repeat refine gwp_seq ?_
        refine gwp_region ?_
        refine v0 (k := ?_)
        refine nil0 ?_
        repeat refine gwp_seq ?_
        refine cB (k1 := fun hb4 => ?_) (k0 := fun hb4 => ?_)
        · try simp only [decide_eq_true_eq, decide_eq_false_iff_not, Int.not_lt, Int.not_le, Bool.not_eq_eq_eq_not, Bool.not_true, Bool.not_false, Bool.and_eq_true, Bool.and_eq_false_iff, Bool.or_eq_true, Bool.or_eq_false_iff] at hb4
          repeat refine gwp_seq ?_
          refine gwp_skip ?_
          refine clx [1, 3, 4, 6, 38, 39] (k := ?_)
          repeat refine gwp_seq ?_
          refine gwp_block ?_
          repeat refine gwp_seq ?_
          refine gwp_region ?_
          refine v0 (k := ?_)
          refine v0 (k := ?_)
          refine nil0 ?_
          refine clx [1, 3, 4, 6, 7, 38, 39] (k := ?_)
          repeat refine gwp_seq ?_
          have hlen : (rowsT s i).length = i := rowsT_len (by omega)
          have hdec : s.num.toNat - i = (s.num.toNat - (i + 1)) + 1 := by omega
          refine gc_adopt 420 i 3000 3 1 true (cs := toldC (rowsT s i) [] (s.num.toNat - i)) (cs2 := toldC (rowsT s i) [.own 3000 0] (s.num.toNat - (i + 1))) (fz := 0) (by simp only [mkHp_cons, mkHp_nil, Nat.reduceEqDiff, reduceIte]) (by rw [hdec, told_next]; exact told_get hlen) (by rw [hdec, told_next]; exact told_set hlen _) (by simp only [mkHp_cons, mkHp_nil, Nat.reduceEqDiff, reduceIte]) (by omega) ?_
          clear hdec hlen
          refine gwp_region ?_
          refine v0 (k := ?_)
          refine v0 (k := ?_)
          refine nil0 ?_
          refine clx [1, 3, 4, 6, 7, 38, 39, 42, 43] (k := ?_)
          repeat refine gwp_seq ?_
          refine gwp_block ?_
          repeat refine gwp_seq ?_
          refine gc_loop (fun mz σ => ∃ j : Nat, ((j : Int) ≤ s.num) ∧ mz = s.num.toNat - j ∧ σ = (sg [(1, .ref 110 0), (3, .p (.int .i64 s.num)), (4, .fsl 420 0 s.num.toNat), (6, .p (.int .i64 (errA s))), (7, .p (.int .i64 i)), (38, .p (.int .i64 s.num)), (39, .p (.int .i64 i)), (42, .p (.int .i64 s.num)), (43, .p (.int .i64 j))] [(110, .cells [.p (.int .i64 s.num), .p (.list (s.sizes.map (.int .i64))), .p (.int .i64 s.lo), .p (.int .i64 s.hi), .p (.list (s.notes.map pn))] 0), (420, .cells (toldC (rowsT s i) [.own 3000 j] (s.num.toNat - (i + 1))) 0), (3000, .arr 3 1 (rowT s i j) true)] A [] : Sg E)) ?_ (fun mz σ hI => ?_)
          · refine lbegx [1, 3, 4, 6, 7, 38, 39, 42, 43] (hV := ?_)
            exact ⟨_, 0, by omega, rfl, rfl⟩
          obtain ⟨j, hj, hnnj, rfl⟩ := hI
          repeat refine gwp_seq ?_
          refine gwp_region ?_
          refine v0 (k := ?_)
          refine nil0 ?_
          repeat refine gwp_seq ?_
          refine cB (k1 := fun hb5 => ?_) (k0 := fun hb5 => ?_)
          · try simp only [decide_eq_true_eq, decide_eq_false_iff_not, Int.not_lt, Int.not_le, Bool.not_eq_eq_eq_not, Bool.not_true, Bool.not_false, Bool.and_eq_true, Bool.and_eq_false_iff, Bool.or_eq_true, Bool.or_eq_false_iff] at hb5
            repeat refine gwp_seq ?_
            refine gwp_skip ?_
            refine clx [1, 3, 4, 6, 7, 38, 39, 42, 43] (k := ?_)
            repeat refine gwp_seq ?_
            refine gwp_block ?_
            repeat refine gwp_seq ?_
            refine gwp_region ?_
            refine v0 (k := ?_)
            refine v0 (k := ?_)
            refine nil0 ?_
            refine clx [1, 3, 4, 6, 7, 8, 38, 39, 42, 43] (k := ?_)
            repeat refine gwp_seq ?_
            refine gwp_region ?_
            refine v0 (k := ?_)
            refine v0 (k := ?_)
            refine v0 (k := ?_)
            refine pc0 (spec := c_same s hb2 (a := i) (b := j) (by omega) (by omega)) (hent := ent14) (k := ?_)
            refine v0 (k := ?_)
            refine v0 (k := ?_)
            refine v0 (k := ?_)
            refine v0 (k := ?_)
            refine v0 (k := ?_)
            refine nil0 ?_
            refine clx [1, 3, 4, 6, 7, 9, 10, 38, 39, 42, 43] (k := ?_)
            repeat refine gwp_seq ?_
            refine gwp_cut (l1 := ?_) (m1 := ?_) ?_ ?_
            rotate_left 2
            · rcases err_cases s with ⟨_, he⟩ | ⟨he, hs0⟩
              · refine gwp_region ?_
                refine v0 (k := ?_)
                refine v0 (k := ?_)
                refine v0 (k := ?_)
                refine rb 55 false (h := by (first | with_reducible rfl | with_reducible assumption | with_reducible exact decide_eq_false (by omega) | with_reducible exact decide_eq_true (by omega) | with_reducible exact nd_f (by omega) | with_reducible exact nd_t (by omega) | (simp only [*]; done) | (simp [*]; done))) (k := ?_)
                refine v0 (k := ?_)
                refine w0 (k := ?_)
                refine w0 (k := ?_)
                refine rb 58 false (h := by (first | with_reducible rfl | with_reducible assumption | with_reducible exact decide_eq_false (by omega) | with_reducible exact decide_eq_true (by omega) | with_reducible exact nd_f (by omega) | with_reducible exact nd_t (by omega) | (simp only [*]; done) | (simp [*]; done))) (k := ?_)
                refine w0 (k := ?_)
                refine x0 (k := ?_)
                refine x0 (k := ?_)
                refine x0 (k := ?_)
                refine x1 (k := ?_)
                refine x1 (k := ?_)
                refine x0 (k := ?_)
                refine w0 (k := ?_)
                refine v0 (k := ?_)
                refine nil0 ?_
                refine lcut [1, 3, 4, 6, 7, 9, 10, 38, 39, 42, 43, 67]
              · refine gwp_region ?_
                refine v0 (k := ?_)
                refine v0 (k := ?_)
                refine v0 (k := ?_)
                refine rb 55 false (h := by (first | with_reducible rfl | with_reducible assumption | with_reducible exact decide_eq_false (by omega) | with_reducible exact decide_eq_true (by omega) | with_reducible exact nd_f (by omega) | with_reducible exact nd_t (by omega) | (simp only [*]; done) | (simp [*]; done))) (k := ?_)
                refine v0 (k := ?_)
                refine w0 (k := ?_)
                refine w0 (k := ?_)
                refine rb 58 true (h := by (first | with_reducible rfl | with_reducible assumption | with_reducible exact decide_eq_false (by omega) | with_reducible exact decide_eq_true (by omega) | with_reducible exact nd_f (by omega) | with_reducible exact nd_t (by omega) | (simp only [*]; done) | (simp [*]; done))) (k := ?_)
                refine w0 (k := ?_)
                refine w0 (k := ?_)
                refine w0 (k := ?_)
                refine rb 61 false (h := by (first | with_reducible rfl | with_reducible assumption | with_reducible exact decide_eq_false (by omega) | with_reducible exact decide_eq_true (by omega) | with_reducible exact nd_f (by omega) | with_reducible exact nd_t (by omega) | (simp only [*]; done) | (simp [*]; done))) (k := ?_)
                refine w0 (k := ?_)
                refine w0 (k := ?_)
                refine w0 (k := ?_)
                refine rb 64 false (h := by (first | with_reducible rfl | with_reducible assumption | with_reducible exact decide_eq_false (by omega) | with_reducible exact decide_eq_true (by omega) | with_reducible exact nd_f (by omega) | with_reducible exact nd_t (by omega) | (simp only [*]; done) | (simp [*]; done))) (k := ?_)
                refine w0 (k := ?_)
                refine w0 (k := ?_)
                refine v0 (k := ?_)
                refine nil0 ?_
                refine lcut [1, 3, 4, 6, 7, 9, 10, 38, 39, 42, 43, 67]
            · repeat refine gwp_seq ?_
              refine cF (k := ?_)
              repeat refine gwp_seq ?_
              refine gwp_skip ?_
              refine clx [1, 3, 4, 6, 7, 9, 10, 38, 39, 42, 43] (k := ?_)
              repeat refine gwp_seq ?_
              refine gwp_cut (l1 := ?_) (m1 := ?_) ?_ ?_
              rotate_left 2
              · rcases four s i j with he | ⟨he, hs⟩ | ⟨he, hs⟩ | ⟨he, hs⟩
                · refine gwp_region ?_
                  refine v0 (k := ?_)
                  refine v0 (k := ?_)
                  refine rb 69 false (h := by (first | with_reducible rfl | with_reducible assumption | with_reducible exact decide_eq_false (by omega) | with_reducible exact decide_eq_true (by omega) | with_reducible exact nd_f (by omega) | with_reducible exact nd_t (by omega) | (simp only [*]; done) | (simp [*]; done))) (k := ?_)
                  refine v0 (k := ?_)
                  refine x0 (k := ?_)
                  refine x0 (k := ?_)
                  refine v0 (k := ?_)
                  refine v0 (k := ?_)
                  refine x0 (k := ?_)
                  refine x0 (k := ?_)
                  refine v0 (k := ?_)
                  refine v0 (k := ?_)
                  refine x0 (k := ?_)
                  refine x0 (k := ?_)
                  refine v0 (k := ?_)
                  refine nil0 ?_
                  refine lcut [1, 3, 4, 6, 7, 9, 38, 39, 42, 43, 81]
                · refine gwp_region ?_
                  refine v0 (k := ?_)
                  refine v0 (k := ?_)
                  refine rb 69 true (h := by (first | with_reducible rfl | with_reducible assumption | with_reducible exact decide_eq_false (by omega) | with_reducible exact decide_eq_true (by omega) | with_reducible exact nd_f (by omega) | with_reducible exact nd_t (by omega) | (simp only [*]; done) | (simp [*]; done))) (k := ?_)
                  refine v0 (k := ?_)
                  refine w0 (k := ?_)
                  refine w0 (k := ?_)
                  refine rb 72 true (h := by (first | with_reducible rfl | with_reducible assumption | with_reducible exact decide_eq_false (by omega) | with_reducible exact decide_eq_true (by omega) | with_reducible exact nd_f (by omega) | with_reducible exact nd_t (by omega) | (simp only [*]; done) | (simp [*]; done))) (k := ?_)
                  refine v0 (k := ?_)
                  refine v0 (k := ?_)
                  refine w0 (k := ?_)
                  refine w0 (k := ?_)
                  refine rb 76 false (h := by (first | with_reducible rfl | with_reducible assumption | with_reducible exact decide_eq_false (by omega) | with_reducible exact decide_eq_true (by omega) | with_reducible exact nd_f (by omega) | with_reducible exact nd_t (by omega) | (simp only [*]; done) | (simp [*]; done))) (k := ?_)
                  refine v0 (k := ?_)
                  refine v0 (k := ?_)
                  refine x0 (k := ?_)
                  refine x0 (k := ?_)
                  refine v0 (k := ?_)
                  refine nil0 ?_
                  refine lcut [1, 3, 4, 6, 7, 9, 38, 39, 42, 43, 81]
                · refine gwp_region ?_
                  refine v0 (k := ?_)
                  refine v0 (k := ?_)
                  refine rb 69 true (h := by (first | with_reducible rfl | with_reducible assumption | with_reducible exact decide_eq_false (by omega) | with_reducible exact decide_eq_true (by omega) | with_reducible exact nd_f (by omega) | with_reducible exact nd_t (by omega) | (simp only [*]; done) | (simp [*]; done))) (k := ?_)
                  refine v0 (k := ?_)
                  refine w0 (k := ?_)
                  refine w0 (k := ?_)
                  refine rb 72 false (h := by (first | with_reducible rfl | with_reducible assumption | with_reducible exact decide_eq_false (by omega) | with_reducible exact decide_eq_true (by omega) | with_reducible exact nd_f (by omega) | with_reducible exact nd_t (by omega) | (simp only [*]; done) | (simp [*]; done))) (k := ?_)
                  refine v0 (k := ?_)
                  refine v0 (k := ?_)
                  refine x0 (k := ?_)
                  refine x0 (k := ?_)
                  refine v0 (k := ?_)
                  refine v0 (k := ?_)
                  refine x0 (k := ?_)
                  refine x0 (k := ?_)
                  refine v0 (k := ?_)
                  refine nil0 ?_
                  refine lcut [1, 3, 4, 6, 7, 9, 38, 39, 42, 43, 81]
                · refine gwp_region ?_
                  refine v0 (k := ?_)
                  refine v0 (k := ?_)
                  refine rb 69 true (h := by (first | with_reducible rfl | with_reducible assumption | with_reducible exact decide_eq_false (by omega) | with_reducible exact decide_eq_true (by omega) | with_reducible exact nd_f (by omega) | with_reducible exact nd_t (by omega) | (simp only [*]; done) | (simp [*]; done))) (k := ?_)
                  refine v0 (k := ?_)
                  refine w0 (k := ?_)
                  refine w0 (k := ?_)
                  refine rb 72 true (h := by (first | with_reducible rfl | with_reducible assumption | with_reducible exact decide_eq_false (by omega) | with_reducible exact decide_eq_true (by omega) | with_reducible exact nd_f (by omega) | with_reducible exact nd_t (by omega) | (simp only [*]; done) | (simp [*]; done))) (k := ?_)
                  refine v0 (k := ?_)
                  refine v0 (k := ?_)
                  refine w0 (k := ?_)
                  refine w0 (k := ?_)
                  refine rb 76 true (h := by (first | with_reducible rfl | with_reducible assumption | with_reducible exact decide_eq_false (by omega) | with_reducible exact decide_eq_true (by omega) | with_reducible exact nd_f (by omega) | with_reducible exact nd_t (by omega) | (simp only [*]; done) | (simp [*]; done))) (k := ?_)
                  refine v0 (k := ?_)
                  refine v0 (k := ?_)
                  refine w0 (k := ?_)
                  refine w0 (k := ?_)
                  refine rb 80 false (h := by (first | with_reducible rfl | with_reducible assumption | with_reducible exact decide_eq_false (by omega) | with_reducible exact decide_eq_true (by omega) | with_reducible exact nd_f (by omega) | with_reducible exact nd_t (by omega) | (simp only [*]; done) | (simp [*]; done))) (k := ?_)
                  refine v0 (k := ?_)
                  refine nil0 ?_
                  refine lcut [1, 3, 4, 6, 7, 9, 38, 39, 42, 43, 81]
              · repeat refine gwp_seq ?_
                refine cF (k := ?_)
                repeat refine gwp_seq ?_
                refine gwp_skip ?_
                refine clx [1, 3, 4, 6, 7, 9, 38, 39, 42, 43] (k := ?_)
                repeat refine gwp_seq ?_
                have hget := told_get (x := .own 3000 j) (m := s.num.toNat - (i + 1)) (rowsT_len (s := s) (k := i) (by omega))
                have hcl := told_len (rowsT s i) [.own 3000 j] (s.num.toNat - (i + 1))
                have hrl := rowT_len (s := s) (a := i) (k := j) (by omega)
                have hset := told_set (x := .own 3000 j) (m := s.num.toNat - (i + 1)) (rowsT_len (s := s) (k := i) (by omega)) (.own 3000 (j + 1))
                have hrl2 := rowsT_len (s := s) (k := i) (by omega)
                refine gwp_region ?_
                refine v0 (k := ?_)
                refine v0 (k := ?_)
                refine v0 (k := ?_)
                refine v0 (k := ?_)
                refine v1 (hc := by (first | exact True.intro | omega | exact ⟨by omega, by omega, hz0⟩ | exact ⟨by omega, by omega, hzi⟩ | exact ⟨by omega, by omega, hzj⟩ | exact ⟨by omega, by omega, hza⟩ | with_reducible exact ⟨by omega, by omega, by assumption⟩ | with_reducible exact ⟨trivial, by omega, by omega, by assumption⟩ | (simp only [inI]; omega) | (simp [P.size, nt, wP, pn, all_int, allOne_p, goods_p, allOne, goods, good, G.one, P.one, P.cells] <;> first | omega | assumption | simp_all))) (k := ?_)
                refine v0 (k := ?_)
                refine v0 (k := ?_)
                refine n1 990 false (hc := by (first | exact True.intro | omega | exact ⟨by omega, by omega, hz0⟩ | exact ⟨by omega, by omega, hzi⟩ | exact ⟨by omega, by omega, hzj⟩ | exact ⟨by omega, by omega, hza⟩ | with_reducible exact ⟨by omega, by omega, by assumption⟩ | with_reducible exact ⟨trivial, by omega, by omega, by assumption⟩ | (simp only [inI]; omega) | (simp [P.size, nt, wP, pn, all_int, allOne_p, goods_p, allOne, goods, good, G.one, P.one, P.cells] <;> first | omega | assumption | simp_all))) (k := ?_)
                refine n1 1000 false (hc := by (first | exact True.intro | omega | exact ⟨by omega, by omega, hz0⟩ | exact ⟨by omega, by omega, hzi⟩ | exact ⟨by omega, by omega, hzj⟩ | exact ⟨by omega, by omega, hza⟩ | with_reducible exact ⟨by omega, by omega, by assumption⟩ | with_reducible exact ⟨trivial, by omega, by omega, by assumption⟩ | (simp only [inI]; omega) | (simp [P.size, nt, wP, pn, all_int, allOne_p, goods_p, allOne, goods, good, G.one, P.one, P.cells] <;> first | omega | assumption | simp_all))) (k := ?_)
                refine v1 (hc := by (first | exact True.intro | omega | exact ⟨by omega, by omega, hz0⟩ | exact ⟨by omega, by omega, hzi⟩ | exact ⟨by omega, by omega, hzj⟩ | exact ⟨by omega, by omega, hza⟩ | with_reducible exact ⟨by omega, by omega, by assumption⟩ | with_reducible exact ⟨trivial, by omega, by omega, by assumption⟩ | (simp only [inI]; omega) | (simp [P.size, nt, wP, pn, all_int, allOne_p, goods_p, allOne, goods, good, G.one, P.one, P.cells] <;> first | omega | assumption | simp_all))) (k := ?_)
                refine s1 (hc := by (first | exact True.intro | omega | exact ⟨by omega, by omega, hz0⟩ | exact ⟨by omega, by omega, hzi⟩ | exact ⟨by omega, by omega, hzj⟩ | exact ⟨by omega, by omega, hza⟩ | with_reducible exact ⟨by omega, by omega, by assumption⟩ | with_reducible exact ⟨trivial, by omega, by omega, by assumption⟩ | (simp only [inI]; omega) | (simp [P.size, nt, wP, pn, all_int, allOne_p, goods_p, allOne, goods, good, G.one, P.one, P.cells] <;> first | omega | assumption | simp_all))) (k := ?_)
                refine nil0 ?_
                refine clx [1, 3, 4, 6, 7, 38, 39, 42, 43] (k := ?_)
                repeat refine gwp_seq ?_
                refine gwp_region ?_
                refine v1 (hc := by (first | exact True.intro | omega | exact ⟨by omega, by omega, hz0⟩ | exact ⟨by omega, by omega, hzi⟩ | exact ⟨by omega, by omega, hzj⟩ | exact ⟨by omega, by omega, hza⟩ | with_reducible exact ⟨by omega, by omega, by assumption⟩ | with_reducible exact ⟨trivial, by omega, by omega, by assumption⟩ | (simp only [inI]; omega) | (simp [P.size, nt, wP, pn, all_int, allOne_p, goods_p, allOne, goods, good, G.one, P.one, P.cells] <;> first | omega | assumption | simp_all))) (k := ?_)
                refine v0 (k := ?_)
                refine nil0 ?_
                refine lendx [1, 3, 4, 6, 7, 38, 39, 42, 43] (h := ?_) (hV := ?_) (n' := s.num.toNat - (j + 1))
                · omega
                exact ⟨j + 1, by omega, rfl, sgE rfl (by rw [rowT_succ (s := s) (a := i) (k := j) (by omega)])⟩
          · try simp only [decide_eq_true_eq, decide_eq_false_iff_not, Int.not_lt, Int.not_le, Bool.not_eq_eq_eq_not, Bool.not_true, Bool.not_false, Bool.and_eq_true, Bool.and_eq_false_iff, Bool.or_eq_true, Bool.or_eq_false_iff] at hb5
            repeat refine gwp_seq ?_
            refine gwp_exit ?_
            repeat (first | refine gthen_exit ?_ | refine gnoGoto_exit ?_ | refine gblock_here ?_ | refine gblock_out rfl ?_)
            refine clx [1, 3, 4, 6, 38, 39] (k := ?_)
            repeat refine gwp_seq ?_
            obtain rfl : j = s.num.toNat := by omega
            refine gc_cell 420 i .p (cs := toldC (rowsT s i) [.own 3000 s.num.toNat] (s.num.toNat - (i + 1))) (cs2 := toldC (rowsT s i) [.p (.list (rowT s i s.num.toNat))] (s.num.toNat - (i + 1))) (fz := 0) (by simp only [mkHp_cons, mkHp_nil, Nat.reduceEqDiff, reduceIte]) (told_get (rowsT_len (by omega))) (by simp only [cvS, toP, mkHp_cons, mkHp_nil, Nat.reduceEqDiff, reduceIte] <;> rfl) (rowT_len (by omega)) rfl (told_set (rowsT_len (by omega)) _) ?_
            refine gwp_region ?_
            refine v1 (hc := by (first | exact True.intro | omega | exact ⟨by omega, by omega, hz0⟩ | exact ⟨by omega, by omega, hzi⟩ | exact ⟨by omega, by omega, hzj⟩ | exact ⟨by omega, by omega, hza⟩ | with_reducible exact ⟨by omega, by omega, by assumption⟩ | with_reducible exact ⟨trivial, by omega, by omega, by assumption⟩ | (simp only [inI]; omega) | (simp [P.size, nt, wP, pn, all_int, allOne_p, goods_p, allOne, goods, good, G.one, P.one, P.cells] <;> first | omega | assumption | simp_all))) (k := ?_)
            refine v0 (k := ?_)
            refine nil0 ?_
            refine lendx [1, 3, 4, 6, 38, 39] (h := ?_) (hV := ?_) (n' := s.num.toNat - (i + 1))
            · omega
            exact ⟨i + 1, by omega, rfl, sgE rfl (by rw [told_done, rowT_all, ← rowsT_succ (s := s) (k := i) (by omega)])⟩
        · try simp only [decide_eq_true_eq, decide_eq_false_iff_not, Int.not_lt, Int.not_le, Bool.not_eq_eq_eq_not, Bool.not_true, Bool.not_false, Bool.and_eq_true, Bool.and_eq_false_iff, Bool.or_eq_true, Bool.or_eq_false_iff] at hb4
          repeat refine gwp_seq ?_
          refine gwp_exit ?_
          repeat (first | refine gthen_exit ?_ | refine gnoGoto_exit ?_ | refine gblock_here ?_ | refine gblock_out rfl ?_)
          refine clx [1, 3, 4, 6] (k := ?_)
          repeat refine gwp_seq ?_
          refine gwp_region ?_
          refine v0 (k := ?_)
          refine v0 (k := ?_)
          refine nil0 ?_
          repeat refine gwp_seq ?_
          refine cB (k1 := fun hb6 => ?_) (k0 := fun hb6 => ?_)
          · try simp only [decide_eq_true_eq, decide_eq_false_iff_not, Int.not_lt, Int.not_le, Bool.not_eq_eq_eq_not, Bool.not_true, Bool.not_false, Bool.and_eq_true, Bool.and_eq_false_iff, Bool.or_eq_true, Bool.or_eq_false_iff] at hb6
            repeat refine gwp_seq ?_
            refine gwp_region ?_
            refine pc0 (spec := l_awake) (hent := ent13) (k := ?_)
            refine v0 (k := ?_)
            refine nil0 ?_
            repeat refine gwp_seq ?_
            refine gwp_ret ?_
            repeat (first | refine gthen_ret ?_ | refine gblock_ret ?_ | refine gnoGoto_ret ?_)
            refine fin_ret ?_
            refine fp (hR := ?_)
            rfl
          · try simp only [decide_eq_true_eq, decide_eq_false_iff_not, Int.not_lt, Int.not_le, Bool.not_eq_eq_eq_not, Bool.not_true, Bool.not_false, Bool.and_eq_true, Bool.and_eq_false_iff, Bool.or_eq_true, Bool.or_eq_false_iff] at hb6
            repeat refine gwp_seq ?_
            refine gwp_skip ?_
            refine clx [1, 3, 4] (k := ?_)
            repeat refine gwp_seq ?_
            have hne : wA s ≠ [] := fun e => by have := errA_no e; omega
            refine gwp_region ?_
            obtain rfl : i = s.num.toNat := by omega
            rw [told_fin]
            refine go_freezeK 420 s.num.toNat (cs := (rowsP s).map .p) (fz := 0) (by simp only [mkHp_cons, mkHp_nil, Nat.reduceEqDiff, reduceIte]) (Nat.zero_le _) (by rw [List.length_map, rowsP_len]; omega) (one_map (fun x hx => (rowsP_one s x hx).1) _) ?_
            refine go_fsl 4 (off := 0) (len := s.num.toNat) (fz := s.num.toNat) (id := 420) (cs := (rowsP s).map .p) (ps := rowsP s) (by simp only [mkFr_cons, Nat.reduceEqDiff, reduceIte]) (by simp only [mkHp_cons, mkHp_nil, Nat.reduceEqDiff, reduceIte]) (by omega) (by rw [List.drop_zero, List.take_of_length_le (by rw [List.length_map, rowsP_len]; omega)]) (rowsP_len s) (fun x hx => (rowsP_one s x hx).1) ?_
            refine v0 (k := ?_)
            refine v0 (k := ?_)
            refine nil0 ?_
            refine clx [1, 3, 4, 97, 98] (k := ?_)
            repeat refine gwp_seq ?_
            refine gwp_block ?_
            repeat refine gwp_seq ?_
            refine gc_loop (fun mz σ => ∃ i : Nat, ((i : Int) ≤ s.num) ∧ mz = s.num.toNat - i ∧ σ = (sg [(1, .ref 110 0), (3, .p (.int .i64 s.num)), (4, .p (.list (rowsP s))), (97, .p (.int .i64 s.num)), (98, .p (.int .i64 i))] [(110, .cells [.p (.int .i64 s.num), .p (.list (s.sizes.map (.int .i64))), .p (.int .i64 s.lo), .p (.int .i64 s.hi), .p (.list (s.notes.map pn))] 0)] A [] : Sg E)) ?_ (fun mz σ hI => ?_)
            · refine lbegx [1, 3, 4, 97, 98] (hV := ?_)
              exact ⟨_, 0, by omega, rfl, rfl⟩
            obtain ⟨i, hi, hnni, rfl⟩ := hI
            repeat refine gwp_seq ?_
            refine gwp_region ?_
            refine v0 (k := ?_)
            refine nil0 ?_
            repeat refine gwp_seq ?_
            refine cB (k1 := fun hb7 => ?_) (k0 := fun hb7 => ?_)
            · try simp only [decide_eq_true_eq, decide_eq_false_iff_not, Int.not_lt, Int.not_le, Bool.not_eq_eq_eq_not, Bool.not_true, Bool.not_false, Bool.and_eq_true, Bool.and_eq_false_iff, Bool.or_eq_true, Bool.or_eq_false_iff] at hb7
              repeat refine gwp_seq ?_
              refine gwp_skip ?_
              refine clx [1, 3, 4, 97, 98] (k := ?_)
              repeat refine gwp_seq ?_
              refine gwp_block ?_
              repeat refine gwp_seq ?_
              refine gwp_region ?_
              refine v0 (k := ?_)
              refine v0 (k := ?_)
              refine nil0 ?_
              refine clx [1, 3, 4, 11, 97, 98] (k := ?_)
              repeat refine gwp_seq ?_
              refine gwp_region ?_
              refine v0 (k := ?_)
              refine v0 (k := ?_)
              refine nil0 ?_
              refine clx [1, 3, 4, 11, 97, 98, 101, 102] (k := ?_)
              repeat refine gwp_seq ?_
              refine gwp_block ?_
              repeat refine gwp_seq ?_
              refine gc_loop (fun mz σ => ∃ j : Nat, ((j : Int) ≤ s.num) ∧ mz = s.num.toNat - j ∧ σ = (sg [(1, .ref 110 0), (3, .p (.int .i64 s.num)), (4, .p (.list (rowsP s))), (11, .p (.int .i64 i)), (97, .p (.int .i64 s.num)), (98, .p (.int .i64 i)), (101, .p (.int .i64 s.num)), (102, .p (.int .i64 j))] [(110, .cells [.p (.int .i64 s.num), .p (.list (s.sizes.map (.int .i64))), .p (.int .i64 s.lo), .p (.int .i64 s.hi), .p (.list (s.notes.map pn))] 0)] A [] : Sg E)) ?_ (fun mz σ hI => ?_)
              · refine lbegx [1, 3, 4, 11, 97, 98, 101, 102] (hV := ?_)
                exact ⟨_, 0, by omega, rfl, rfl⟩
              obtain ⟨j, hj, hnnj, rfl⟩ := hI
              repeat refine gwp_seq ?_
              refine gwp_region ?_
              refine v0 (k := ?_)
              refine nil0 ?_
              repeat refine gwp_seq ?_
              refine cB (k1 := fun hb8 => ?_) (k0 := fun hb8 => ?_)
              · try simp only [decide_eq_true_eq, decide_eq_false_iff_not, Int.not_lt, Int.not_le, Bool.not_eq_eq_eq_not, Bool.not_true, Bool.not_false, Bool.and_eq_true, Bool.and_eq_false_iff, Bool.or_eq_true, Bool.or_eq_false_iff] at hb8
                repeat refine gwp_seq ?_
                refine gwp_skip ?_
                refine clx [1, 3, 4, 11, 97, 98, 101, 102] (k := ?_)
                repeat refine gwp_seq ?_
                refine gwp_block ?_
                repeat refine gwp_seq ?_
                refine gwp_region ?_
                refine v0 (k := ?_)
                refine v0 (k := ?_)
                refine nil0 ?_
                refine clx [1, 3, 4, 11, 12, 97, 98, 101, 102] (k := ?_)
                repeat refine gwp_seq ?_
                refine gwp_cut (l1 := ?_) (m1 := ?_) ?_ ?_
                rotate_left 2
                · have hl0 := rowsP_len s
                  have hz0 := fun x hx => (rowsP_one s x hx).2
                  have hri := rowsP_get (s := s) (k := i) (by omega)
                  have hli := rowP_len s i
                  have hzi := fun x hx => (rowP_one s i x hx).2
                  have hrj := rowsP_get (s := s) (k := j) (by omega)
                  have hlj := rowP_len s j
                  have hzj := fun x hx => (rowP_one s j x hx).2
                  have hrij := rowP_get (s := s) (a := i) (k := j) (by omega)
                  have hrji := rowP_get (s := s) (a := j) (k := i) (by omega)
                  obtain ⟨p, hp⟩ := getE (l := s.sizes) (k := i) (by omega)
                  obtain ⟨q, hq⟩ := getE (l := s.sizes) (k := j) (by omega)
                  have hcm := sameA_comm s i j
                  rcases six i j p q with ⟨hij, h1⟩ | ⟨hij, h1, h2⟩ | ⟨hij, h1, h2, h3⟩ | ⟨hij, h1, h2, h3⟩ | ⟨rfl, h1⟩ | ⟨rfl, h1⟩
                  · refine rd ?_
                    refine d0 0 (k := ?_)
                    refine d0 1 (k := ?_)
                    refine d1 2 (hc := by (first | exact True.intro | omega | exact ⟨by omega, by omega, hz0⟩ | exact ⟨by omega, by omega, hzi⟩ | exact ⟨by omega, by omega, hzj⟩ | exact ⟨by omega, by omega, hza⟩ | with_reducible exact ⟨by omega, by omega, by assumption⟩ | with_reducible exact ⟨trivial, by omega, by omega, by assumption⟩ | (simp only [inI]; omega) | (simp [P.size, nt, wP, pn, all_int, allOne_p, goods_p, allOne, goods, good, G.one, P.one, P.cells] <;> first | omega | assumption | simp_all))) (k := ?_)
                    refine d0 3 (k := ?_)
                    refine d0 4 (k := ?_)
                    refine d1 5 (hc := by (first | exact True.intro | omega | exact ⟨by omega, by omega, hz0⟩ | exact ⟨by omega, by omega, hzi⟩ | exact ⟨by omega, by omega, hzj⟩ | exact ⟨by omega, by omega, hza⟩ | with_reducible exact ⟨by omega, by omega, by assumption⟩ | with_reducible exact ⟨trivial, by omega, by omega, by assumption⟩ | (simp only [inI]; omega) | (simp [P.size, nt, wP, pn, all_int, allOne_p, goods_p, allOne, goods, good, G.one, P.one, P.cells] <;> first | omega | assumption | simp_all))) (k := ?_)
                    refine d0 6 (k := ?_)
                    refine d0 7 (k := ?_)
                    refine d0 8 (k := ?_)
                    refine d1 9 (hc := by (first | exact True.intro | omega | exact ⟨by omega, by omega, hz0⟩ | exact ⟨by omega, by omega, hzi⟩ | exact ⟨by omega, by omega, hzj⟩ | exact ⟨by omega, by omega, hza⟩ | with_reducible exact ⟨by omega, by omega, by assumption⟩ | with_reducible exact ⟨trivial, by omega, by omega, by assumption⟩ | (simp only [inI]; omega) | (simp [P.size, nt, wP, pn, all_int, allOne_p, goods_p, allOne, goods, good, G.one, P.one, P.cells] <;> first | omega | assumption | simp_all))) (k := ?_)
                    refine d0 10 (k := ?_)
                    refine d0 11 (k := ?_)
                    refine d1 12 (hc := by (first | exact True.intro | omega | exact ⟨by omega, by omega, hz0⟩ | exact ⟨by omega, by omega, hzi⟩ | exact ⟨by omega, by omega, hzj⟩ | exact ⟨by omega, by omega, hza⟩ | with_reducible exact ⟨by omega, by omega, by assumption⟩ | with_reducible exact ⟨trivial, by omega, by omega, by assumption⟩ | (simp only [inI]; omega) | (simp [P.size, nt, wP, pn, all_int, allOne_p, goods_p, allOne, goods, good, G.one, P.one, P.cells] <;> first | omega | assumption | simp_all))) (k := ?_)
                    refine d0 13 (k := ?_)
                    refine d0 14 (k := ?_)
                    refine d0 15 (k := ?_)
                    refine dw0 16 (k := ?_)
                    refine dw0 17 (k := ?_)
                    refine dw0 18 (k := ?_)
                    refine dw0 19 (k := ?_)
                    refine dx0 20 (k := ?_)
                    refine dx0 21 (k := ?_)
                    refine dx0 22 (k := ?_)
                    refine dx0 23 (k := ?_)
                    refine dx0 24 (k := ?_)
                    refine dx0 25 (k := ?_)
                    refine dx0 26 (k := ?_)
                    refine dx0 27 (k := ?_)
                    refine dw0 28 (k := ?_)
                    refine d0 29 (k := ?_)
                    refine d0 30 (k := ?_)
                    refine dw0 31 (k := ?_)
                    refine dw0 32 (k := ?_)
                    refine dw0 33 (k := ?_)
                    refine dw1 34 (hc := by (first | exact True.intro | omega | exact ⟨by omega, by omega, hz0⟩ | exact ⟨by omega, by omega, hzi⟩ | exact ⟨by omega, by omega, hzj⟩ | exact ⟨by omega, by omega, hza⟩ | with_reducible exact ⟨by omega, by omega, by assumption⟩ | with_reducible exact ⟨trivial, by omega, by omega, by assumption⟩ | (simp only [inI]; omega) | (simp [P.size, nt, wP, pn, all_int, allOne_p, goods_p, allOne, goods, good, G.one, P.one, P.cells] <;> first | omega | assumption | simp_all))) (k := ?_)
                    refine dw0 35 (k := ?_)
                    refine dw0 36 (k := ?_)
                    refine dw0 37 (k := ?_)
                    refine dx0 38 (k := ?_)
                    refine dx0 39 (k := ?_)
                    refine dx0 40 (k := ?_)
                    refine dx0 41 (k := ?_)
                    refine dx0 42 (k := ?_)
                    refine dx0 43 (k := ?_)
                    refine dw0 44 (k := ?_)
                    refine dw0 45 (k := ?_)
                    refine dx0 46 (k := ?_)
                    refine dx0 47 (k := ?_)
                    refine dx0 48 (k := ?_)
                    refine dx0 49 (k := ?_)
                    refine dx0 50 (k := ?_)
                    refine dx0 51 (k := ?_)
                    refine dx0 52 (k := ?_)
                    refine dx0 53 (k := ?_)
                    refine dx0 54 (k := ?_)
                    refine dx0 55 (k := ?_)
                    refine dx0 56 (k := ?_)
                    refine dw0 57 (k := ?_)
                    refine dw0 58 (k := ?_)
                    refine dx0 59 (k := ?_)
                    refine dx0 60 (k := ?_)
                    refine dx0 61 (k := ?_)
                    refine dx0 62 (k := ?_)
                    refine dx0 63 (k := ?_)
                    refine dx0 64 (k := ?_)
                    refine dx0 65 (k := ?_)
                    refine dx0 66 (k := ?_)
                    refine dw0 67 (k := ?_)
                    refine d0 68 (k := ?_)
                    refine dz 69 [0, 0, 3, 7, 0, 31, 63, 0, 0, 384, 896, 0, 3968, 8064, 16383, 32767, 65535, 65535, 262143, 524287, 1048575, 1048575, 4194303, 8388607, 1048575, 33554431, 67108863, 134217727, 268435455, 536870911, 1073741823, 2147483647, 4294967295, 2147483647, 17179869183, 34359738367, 68719476735, 137438953471, 274877906943, 549755813887, 274877906943, 2199023255551, 4398046511103, 8796093022207, 17592186044415, 35184372088831, 70368744177663, 140737488355327, 70368744177663, 562949953421311, 1125899906842623, 70368744177663, 2322168557862911, 70368744177663, 15832967439974399, 33847365949456383, 72057594037927935, 144115188075855871, 288230376151711743, 576460752303423487, 576460752303423487, 2305843009213693951, 4611686018427387903, 576460752303423487, 18446744073709551615, 36893488147419103231, 73786976294838206463, 147573952589676412927, 295147905179352825855] (h := ?_)
                    refine de 69 (h := ?_)
                    refine lcut [1, 3, 4, 11, 12, 97, 98, 101, 102, 173]
                  · refine rd ?_
                    refine d0 0 (k := ?_)
                    refine d0 1 (k := ?_)
                    refine d1 2 (hc := by (first | exact True.intro | omega | exact ⟨by omega, by omega, hz0⟩ | exact ⟨by omega, by omega, hzi⟩ | exact ⟨by omega, by omega, hzj⟩ | exact ⟨by omega, by omega, hza⟩ | with_reducible exact ⟨by omega, by omega, by assumption⟩ | with_reducible exact ⟨trivial, by omega, by omega, by assumption⟩ | (simp only [inI]; omega) | (simp [P.size, nt, wP, pn, all_int, allOne_p, goods_p, allOne, goods, good, G.one, P.one, P.cells] <;> first | omega | assumption | simp_all))) (k := ?_)
                    refine d0 3 (k := ?_)
                    refine d0 4 (k := ?_)
                    refine d1 5 (hc := by (first | exact True.intro | omega | exact ⟨by omega, by omega, hz0⟩ | exact ⟨by omega, by omega, hzi⟩ | exact ⟨by omega, by omega, hzj⟩ | exact ⟨by omega, by omega, hza⟩ | with_reducible exact ⟨by omega, by omega, by assumption⟩ | with_reducible exact ⟨trivial, by omega, by omega, by assumption⟩ | (simp only [inI]; omega) | (simp [P.size, nt, wP, pn, all_int, allOne_p, goods_p, allOne, goods, good, G.one, P.one, P.cells] <;> first | omega | assumption | simp_all))) (k := ?_)
                    refine d0 6 (k := ?_)
                    refine d0 7 (k := ?_)
                    refine d0 8 (k := ?_)
                    refine d1 9 (hc := by (first | exact True.intro | omega | exact ⟨by omega, by omega, hz0⟩ | exact ⟨by omega, by omega, hzi⟩ | exact ⟨by omega, by omega, hzj⟩ | exact ⟨by omega, by omega, hza⟩ | with_reducible exact ⟨by omega, by omega, by assumption⟩ | with_reducible exact ⟨trivial, by omega, by omega, by assumption⟩ | (simp only [inI]; omega) | (simp [P.size, nt, wP, pn, all_int, allOne_p, goods_p, allOne, goods, good, G.one, P.one, P.cells] <;> first | omega | assumption | simp_all))) (k := ?_)
                    refine d0 10 (k := ?_)
                    refine d0 11 (k := ?_)
                    refine d1 12 (hc := by (first | exact True.intro | omega | exact ⟨by omega, by omega, hz0⟩ | exact ⟨by omega, by omega, hzi⟩ | exact ⟨by omega, by omega, hzj⟩ | exact ⟨by omega, by omega, hza⟩ | with_reducible exact ⟨by omega, by omega, by assumption⟩ | with_reducible exact ⟨trivial, by omega, by omega, by assumption⟩ | (simp only [inI]; omega) | (simp [P.size, nt, wP, pn, all_int, allOne_p, goods_p, allOne, goods, good, G.one, P.one, P.cells] <;> first | omega | assumption | simp_all))) (k := ?_)
                    refine d0 13 (k := ?_)
                    refine d0 14 (k := ?_)
                    refine d0 15 (k := ?_)
                    refine dw0 16 (k := ?_)
                    refine dw0 17 (k := ?_)
                    refine dw0 18 (k := ?_)
                    refine dw0 19 (k := ?_)
                    refine dx0 20 (k := ?_)
                    refine dx0 21 (k := ?_)
                    refine dx0 22 (k := ?_)
                    refine dx0 23 (k := ?_)
                    refine dx0 24 (k := ?_)
                    refine dx0 25 (k := ?_)
                    refine dx0 26 (k := ?_)
                    refine dx0 27 (k := ?_)
                    refine dw0 28 (k := ?_)
                    refine d0 29 (k := ?_)
                    refine d0 30 (k := ?_)
                    refine dw0 31 (k := ?_)
                    refine dw0 32 (k := ?_)
                    refine dw0 33 (k := ?_)
                    refine dw1 34 (hc := by (first | exact True.intro | omega | exact ⟨by omega, by omega, hz0⟩ | exact ⟨by omega, by omega, hzi⟩ | exact ⟨by omega, by omega, hzj⟩ | exact ⟨by omega, by omega, hza⟩ | with_reducible exact ⟨by omega, by omega, by assumption⟩ | with_reducible exact ⟨trivial, by omega, by omega, by assumption⟩ | (simp only [inI]; omega) | (simp [P.size, nt, wP, pn, all_int, allOne_p, goods_p, allOne, goods, good, G.one, P.one, P.cells] <;> first | omega | assumption | simp_all))) (k := ?_)
                    refine dw0 35 (k := ?_)
                    refine dw0 36 (k := ?_)
                    refine dw0 37 (k := ?_)
                    refine dw0 38 (k := ?_)
                    refine dw0 39 (k := ?_)
                    refine dw0 40 (k := ?_)
                    refine dw1 41 (hc := by (first | exact True.intro | omega | exact ⟨by omega, by omega, hz0⟩ | exact ⟨by omega, by omega, hzi⟩ | exact ⟨by omega, by omega, hzj⟩ | exact ⟨by omega, by omega, hza⟩ | with_reducible exact ⟨by omega, by omega, by assumption⟩ | with_reducible exact ⟨trivial, by omega, by omega, by assumption⟩ | (simp only [inI]; omega) | (simp [P.size, nt, wP, pn, all_int, allOne_p, goods_p, allOne, goods, good, G.one, P.one, P.cells] <;> first | omega | assumption | simp_all))) (k := ?_)
                    refine dw0 42 (k := ?_)
                    refine dw0 43 (k := ?_)
                    refine dw0 44 (k := ?_)
                    refine dw0 45 (k := ?_)
                    refine dx0 46 (k := ?_)
                    refine dx0 47 (k := ?_)
                    refine dx0 48 (k := ?_)
                    refine dx0 49 (k := ?_)
                    refine dx0 50 (k := ?_)
                    refine dx0 51 (k := ?_)
                    refine dx0 52 (k := ?_)
                    refine dx0 53 (k := ?_)
                    refine dx0 54 (k := ?_)
                    refine dx0 55 (k := ?_)
                    refine dx0 56 (k := ?_)
                    refine dw0 57 (k := ?_)
                    refine dw0 58 (k := ?_)
                    refine dx0 59 (k := ?_)
                    refine dx0 60 (k := ?_)
                    refine dx0 61 (k := ?_)
                    refine dx0 62 (k := ?_)
                    refine dx0 63 (k := ?_)
                    refine dx0 64 (k := ?_)
                    refine dx0 65 (k := ?_)
                    refine dx0 66 (k := ?_)
                    refine dw0 67 (k := ?_)
                    refine d0 68 (k := ?_)
                    refine dz 69 [0, 0, 3, 7, 0, 31, 63, 0, 0, 384, 896, 0, 3968, 8064, 16383, 32767, 65535, 65535, 262143, 524287, 1048575, 1048575, 4194303, 8388607, 1048575, 33554431, 67108863, 134217727, 268435455, 536870911, 1073741823, 2147483647, 4294967295, 2147483647, 17179869183, 34359738367, 68719476735, 137438953471, 274877906943, 549755813887, 274877906943, 2199023255551, 4398046511103, 8796093022207, 17592186044415, 35184372088831, 70368744177663, 140737488355327, 70368744177663, 562949953421311, 1125899906842623, 70368744177663, 2322168557862911, 70368744177663, 15832967439974399, 33847365949456383, 72057594037927935, 144115188075855871, 288230376151711743, 576460752303423487, 576460752303423487, 2305843009213693951, 4611686018427387903, 576460752303423487, 18446744073709551615, 36893488147419103231, 73786976294838206463, 147573952589676412927, 295147905179352825855] (h := ?_)
                    refine de 69 (h := ?_)
                    refine lcut [1, 3, 4, 11, 12, 97, 98, 101, 102, 173]
                  · refine rd ?_
                    refine d0 0 (k := ?_)
                    refine d0 1 (k := ?_)
                    refine d1 2 (hc := by (first | exact True.intro | omega | exact ⟨by omega, by omega, hz0⟩ | exact ⟨by omega, by omega, hzi⟩ | exact ⟨by omega, by omega, hzj⟩ | exact ⟨by omega, by omega, hza⟩ | with_reducible exact ⟨by omega, by omega, by assumption⟩ | with_reducible exact ⟨trivial, by omega, by omega, by assumption⟩ | (simp only [inI]; omega) | (simp [P.size, nt, wP, pn, all_int, allOne_p, goods_p, allOne, goods, good, G.one, P.one, P.cells] <;> first | omega | assumption | simp_all))) (k := ?_)
                    refine d0 3 (k := ?_)
                    refine d0 4 (k := ?_)
                    refine d1 5 (hc := by (first | exact True.intro | omega | exact ⟨by omega, by omega, hz0⟩ | exact ⟨by omega, by omega, hzi⟩ | exact ⟨by omega, by omega, hzj⟩ | exact ⟨by omega, by omega, hza⟩ | with_reducible exact ⟨by omega, by omega, by assumption⟩ | with_reducible exact ⟨trivial, by omega, by omega, by assumption⟩ | (simp only [inI]; omega) | (simp [P.size, nt, wP, pn, all_int, allOne_p, goods_p, allOne, goods, good, G.one, P.one, P.cells] <;> first | omega | assumption | simp_all))) (k := ?_)
                    refine d0 6 (k := ?_)
                    refine d0 7 (k := ?_)
                    refine d0 8 (k := ?_)
                    refine d1 9 (hc := by (first | exact True.intro | omega | exact ⟨by omega, by omega, hz0⟩ | exact ⟨by omega, by omega, hzi⟩ | exact ⟨by omega, by omega, hzj⟩ | exact ⟨by omega, by omega, hza⟩ | with_reducible exact ⟨by omega, by omega, by assumption⟩ | with_reducible exact ⟨trivial, by omega, by omega, by assumption⟩ | (simp only [inI]; omega) | (simp [P.size, nt, wP, pn, all_int, allOne_p, goods_p, allOne, goods, good, G.one, P.one, P.cells] <;> first | omega | assumption | simp_all))) (k := ?_)
                    refine d0 10 (k := ?_)
                    refine d0 11 (k := ?_)
                    refine d1 12 (hc := by (first | exact True.intro | omega | exact ⟨by omega, by omega, hz0⟩ | exact ⟨by omega, by omega, hzi⟩ | exact ⟨by omega, by omega, hzj⟩ | exact ⟨by omega, by omega, hza⟩ | with_reducible exact ⟨by omega, by omega, by assumption⟩ | with_reducible exact ⟨trivial, by omega, by omega, by assumption⟩ | (simp only [inI]; omega) | (simp [P.size, nt, wP, pn, all_int, allOne_p, goods_p, allOne, goods, good, G.one, P.one, P.cells] <;> first | omega | assumption | simp_all))) (k := ?_)
                    refine d0 13 (k := ?_)
                    refine d0 14 (k := ?_)
                    refine d0 15 (k := ?_)
                    refine dw0 16 (k := ?_)
                    refine dw0 17 (k := ?_)
                    refine dw0 18 (k := ?_)
                    refine dw0 19 (k := ?_)
                    refine dx0 20 (k := ?_)
                    refine dx0 21 (k := ?_)
                    refine dx0 22 (k := ?_)
                    refine dx0 23 (k := ?_)
                    refine dx0 24 (k := ?_)
                    refine dx0 25 (k := ?_)
                    refine dx0 26 (k := ?_)
                    refine dx0 27 (k := ?_)
                    refine dw0 28 (k := ?_)
                    refine d0 29 (k := ?_)
                    refine d0 30 (k := ?_)
                    refine dw0 31 (k := ?_)
                    refine dw0 32 (k := ?_)
                    refine dw0 33 (k := ?_)
                    refine dw1 34 (hc := by (first | exact True.intro | omega | exact ⟨by omega, by omega, hz0⟩ | exact ⟨by omega, by omega, hzi⟩ | exact ⟨by omega, by omega, hzj⟩ | exact ⟨by omega, by omega, hza⟩ | with_reducible exact ⟨by omega, by omega, by assumption⟩ | with_reducible exact ⟨trivial, by omega, by omega, by assumption⟩ | (simp only [inI]; omega) | (simp [P.size, nt, wP, pn, all_int, allOne_p, goods_p, allOne, goods, good, G.one, P.one, P.cells] <;> first | omega | assumption | simp_all))) (k := ?_)
                    refine dw0 35 (k := ?_)
                    refine dw0 36 (k := ?_)
                    refine dw0 37 (k := ?_)
                    refine dw0 38 (k := ?_)
                    refine dw0 39 (k := ?_)
                    refine dw0 40 (k := ?_)
                    refine dw1 41 (hc := by (first | exact True.intro | omega | exact ⟨by omega, by omega, hz0⟩ | exact ⟨by omega, by omega, hzi⟩ | exact ⟨by omega, by omega, hzj⟩ | exact ⟨by omega, by omega, hza⟩ | with_reducible exact ⟨by omega, by omega, by assumption⟩ | with_reducible exact ⟨trivial, by omega, by omega, by assumption⟩ | (simp only [inI]; omega) | (simp [P.size, nt, wP, pn, all_int, allOne_p, goods_p, allOne, goods, good, G.one, P.one, P.cells] <;> first | omega | assumption | simp_all))) (k := ?_)
                    refine dw0 42 (k := ?_)
                    refine dw0 43 (k := ?_)
                    refine dw0 44 (k := ?_)
                    refine dw0 45 (k := ?_)
                    refine dw0 46 (k := ?_)
                    refine dw0 47 (k := ?_)
                    refine dw0 48 (k := ?_)
                    refine dw1 49 (hc := by (first | exact True.intro | omega | exact ⟨by omega, by omega, hz0⟩ | exact ⟨by omega, by omega, hzi⟩ | exact ⟨by omega, by omega, hzj⟩ | exact ⟨by omega, by omega, hza⟩ | with_reducible exact ⟨by omega, by omega, by assumption⟩ | with_reducible exact ⟨trivial, by omega, by omega, by assumption⟩ | (simp only [inI]; omega) | (simp [P.size, nt, wP, pn, all_int, allOne_p, goods_p, allOne, goods, good, G.one, P.one, P.cells] <;> first | omega | assumption | simp_all))) (k := ?_)
                    refine dw0 50 (k := ?_)
                    refine dw0 51 (k := ?_)
                    refine dw0 52 (k := ?_)
                    refine dw0 53 (k := ?_)
                    refine dw1 54 (hc := by (first | exact True.intro | omega | exact ⟨by omega, by omega, hz0⟩ | exact ⟨by omega, by omega, hzi⟩ | exact ⟨by omega, by omega, hzj⟩ | exact ⟨by omega, by omega, hza⟩ | with_reducible exact ⟨by omega, by omega, by assumption⟩ | with_reducible exact ⟨trivial, by omega, by omega, by assumption⟩ | (simp only [inI]; omega) | (simp [P.size, nt, wP, pn, all_int, allOne_p, goods_p, allOne, goods, good, G.one, P.one, P.cells] <;> first | omega | assumption | simp_all))) (k := ?_)
                    refine dw0 55 (k := ?_)
                    refine dw0 56 (k := ?_)
                    refine dw0 57 (k := ?_)
                    refine dw0 58 (k := ?_)
                    refine dx0 59 (k := ?_)
                    refine dx0 60 (k := ?_)
                    refine dx0 61 (k := ?_)
                    refine dx0 62 (k := ?_)
                    refine dx0 63 (k := ?_)
                    refine dx0 64 (k := ?_)
                    refine dx0 65 (k := ?_)
                    refine dx0 66 (k := ?_)
                    refine dw0 67 (k := ?_)
                    refine d0 68 (k := ?_)
                    refine dz 69 [0, 0, 3, 7, 0, 31, 63, 0, 0, 384, 896, 0, 3968, 8064, 16383, 32767, 65535, 65535, 262143, 524287, 1048575, 1048575, 4194303, 8388607, 1048575, 33554431, 67108863, 134217727, 268435455, 536870911, 1073741823, 2147483647, 4294967295, 2147483647, 17179869183, 34359738367, 68719476735, 137438953471, 274877906943, 549755813887, 274877906943, 2199023255551, 4398046511103, 8796093022207, 17592186044415, 35184372088831, 70368744177663, 140737488355327, 70368744177663, 562949953421311, 1125899906842623, 70368744177663, 2322168557862911, 70368744177663, 15832967439974399, 33847365949456383, 72057594037927935, 144115188075855871, 288230376151711743, 576460752303423487, 576460752303423487, 2305843009213693951, 4611686018427387903, 576460752303423487, 18446744073709551615, 36893488147419103231, 73786976294838206463, 147573952589676412927, 295147905179352825855] (h := ?_)
                    refine de 69 (h := ?_)
                    refine lcut [1, 3, 4, 11, 12, 97, 98, 101, 102, 173]
                  · have hs0 := sameA_sizes hb2 hne hp hq h1 h2 h3
                    rw [sameA_comm] at hs0
                    refine rd ?_
                    refine d0 0 (k := ?_)
                    refine d0 1 (k := ?_)
                    refine d1 2 (hc := by (first | exact True.intro | omega | exact ⟨by omega, by omega, hz0⟩ | exact ⟨by omega, by omega, hzi⟩ | exact ⟨by omega, by omega, hzj⟩ | exact ⟨by omega, by omega, hza⟩ | with_reducible exact ⟨by omega, by omega, by assumption⟩ | with_reducible exact ⟨trivial, by omega, by omega, by assumption⟩ | (simp only [inI]; omega) | (simp [P.size, nt, wP, pn, all_int, allOne_p, goods_p, allOne, goods, good, G.one, P.one, P.cells] <;> first | omega | assumption | simp_all))) (k := ?_)
                    refine d0 3 (k := ?_)
                    refine d0 4 (k := ?_)
                    refine d1 5 (hc := by (first | exact True.intro | omega | exact ⟨by omega, by omega, hz0⟩ | exact ⟨by omega, by omega, hzi⟩ | exact ⟨by omega, by omega, hzj⟩ | exact ⟨by omega, by omega, hza⟩ | with_reducible exact ⟨by omega, by omega, by assumption⟩ | with_reducible exact ⟨trivial, by omega, by omega, by assumption⟩ | (simp only [inI]; omega) | (simp [P.size, nt, wP, pn, all_int, allOne_p, goods_p, allOne, goods, good, G.one, P.one, P.cells] <;> first | omega | assumption | simp_all))) (k := ?_)
                    refine d0 6 (k := ?_)
                    refine d0 7 (k := ?_)
                    refine d0 8 (k := ?_)
                    refine d1 9 (hc := by (first | exact True.intro | omega | exact ⟨by omega, by omega, hz0⟩ | exact ⟨by omega, by omega, hzi⟩ | exact ⟨by omega, by omega, hzj⟩ | exact ⟨by omega, by omega, hza⟩ | with_reducible exact ⟨by omega, by omega, by assumption⟩ | with_reducible exact ⟨trivial, by omega, by omega, by assumption⟩ | (simp only [inI]; omega) | (simp [P.size, nt, wP, pn, all_int, allOne_p, goods_p, allOne, goods, good, G.one, P.one, P.cells] <;> first | omega | assumption | simp_all))) (k := ?_)
                    refine d0 10 (k := ?_)
                    refine d0 11 (k := ?_)
                    refine d1 12 (hc := by (first | exact True.intro | omega | exact ⟨by omega, by omega, hz0⟩ | exact ⟨by omega, by omega, hzi⟩ | exact ⟨by omega, by omega, hzj⟩ | exact ⟨by omega, by omega, hza⟩ | with_reducible exact ⟨by omega, by omega, by assumption⟩ | with_reducible exact ⟨trivial, by omega, by omega, by assumption⟩ | (simp only [inI]; omega) | (simp [P.size, nt, wP, pn, all_int, allOne_p, goods_p, allOne, goods, good, G.one, P.one, P.cells] <;> first | omega | assumption | simp_all))) (k := ?_)
                    refine d0 13 (k := ?_)
                    refine d0 14 (k := ?_)
                    refine d0 15 (k := ?_)
                    refine dw0 16 (k := ?_)
                    refine dw0 17 (k := ?_)
                    refine dw0 18 (k := ?_)
                    refine dw0 19 (k := ?_)
                    refine dx0 20 (k := ?_)
                    refine dx0 21 (k := ?_)
                    refine dx0 22 (k := ?_)
                    refine dx0 23 (k := ?_)
                    refine dx0 24 (k := ?_)
                    refine dx0 25 (k := ?_)
                    refine dx0 26 (k := ?_)
                    refine dx0 27 (k := ?_)
                    refine dw0 28 (k := ?_)
                    refine d0 29 (k := ?_)
                    refine d0 30 (k := ?_)
                    refine dw0 31 (k := ?_)
                    refine dw0 32 (k := ?_)
                    refine dw0 33 (k := ?_)
                    refine dw1 34 (hc := by (first | exact True.intro | omega | exact ⟨by omega, by omega, hz0⟩ | exact ⟨by omega, by omega, hzi⟩ | exact ⟨by omega, by omega, hzj⟩ | exact ⟨by omega, by omega, hza⟩ | with_reducible exact ⟨by omega, by omega, by assumption⟩ | with_reducible exact ⟨trivial, by omega, by omega, by assumption⟩ | (simp only [inI]; omega) | (simp [P.size, nt, wP, pn, all_int, allOne_p, goods_p, allOne, goods, good, G.one, P.one, P.cells] <;> first | omega | assumption | simp_all))) (k := ?_)
                    refine dw0 35 (k := ?_)
                    refine dw0 36 (k := ?_)
                    refine dw0 37 (k := ?_)
                    refine dw0 38 (k := ?_)
                    refine dw0 39 (k := ?_)
                    refine dw0 40 (k := ?_)
                    refine dw1 41 (hc := by (first | exact True.intro | omega | exact ⟨by omega, by omega, hz0⟩ | exact ⟨by omega, by omega, hzi⟩ | exact ⟨by omega, by omega, hzj⟩ | exact ⟨by omega, by omega, hza⟩ | with_reducible exact ⟨by omega, by omega, by assumption⟩ | with_reducible exact ⟨trivial, by omega, by omega, by assumption⟩ | (simp only [inI]; omega) | (simp [P.size, nt, wP, pn, all_int, allOne_p, goods_p, allOne, goods, good, G.one, P.one, P.cells] <;> first | omega | assumption | simp_all))) (k := ?_)
                    refine dw0 42 (k := ?_)
                    refine dw0 43 (k := ?_)
                    refine dw0 44 (k := ?_)
                    refine dw0 45 (k := ?_)
                    refine dw0 46 (k := ?_)
                    refine dw0 47 (k := ?_)
                    refine dw0 48 (k := ?_)
                    refine dw1 49 (hc := by (first | exact True.intro | omega | exact ⟨by omega, by omega, hz0⟩ | exact ⟨by omega, by omega, hzi⟩ | exact ⟨by omega, by omega, hzj⟩ | exact ⟨by omega, by omega, hza⟩ | with_reducible exact ⟨by omega, by omega, by assumption⟩ | with_reducible exact ⟨trivial, by omega, by omega, by assumption⟩ | (simp only [inI]; omega) | (simp [P.size, nt, wP, pn, all_int, allOne_p, goods_p, allOne, goods, good, G.one, P.one, P.cells] <;> first | omega | assumption | simp_all))) (k := ?_)
                    refine dw0 50 (k := ?_)
                    refine dw0 51 (k := ?_)
                    refine dw0 52 (k := ?_)
                    refine dw0 53 (k := ?_)
                    refine dw1 54 (hc := by (first | exact True.intro | omega | exact ⟨by omega, by omega, hz0⟩ | exact ⟨by omega, by omega, hzi⟩ | exact ⟨by omega, by omega, hzj⟩ | exact ⟨by omega, by omega, hza⟩ | with_reducible exact ⟨by omega, by omega, by assumption⟩ | with_reducible exact ⟨trivial, by omega, by omega, by assumption⟩ | (simp only [inI]; omega) | (simp [P.size, nt, wP, pn, all_int, allOne_p, goods_p, allOne, goods, good, G.one, P.one, P.cells] <;> first | omega | assumption | simp_all))) (k := ?_)
                    refine dw0 55 (k := ?_)
                    refine dw0 56 (k := ?_)
                    refine dw0 57 (k := ?_)
                    refine dw0 58 (k := ?_)
                    refine dw0 59 (k := ?_)
                    refine dw0 60 (k := ?_)
                    refine dw1 61 (hc := by (first | exact True.intro | omega | exact ⟨by omega, by omega, hz0⟩ | exact ⟨by omega, by omega, hzi⟩ | exact ⟨by omega, by omega, hzj⟩ | exact ⟨by omega, by omega, hza⟩ | with_reducible exact ⟨by omega, by omega, by assumption⟩ | with_reducible exact ⟨trivial, by omega, by omega, by assumption⟩ | (simp only [inI]; omega) | (simp [P.size, nt, wP, pn, all_int, allOne_p, goods_p, allOne, goods, good, G.one, P.one, P.cells] <;> first | omega | assumption | simp_all))) (k := ?_)
                    refine dw0 62 (k := ?_)
                    refine dw0 63 (k := ?_)
                    refine dw1 64 (hc := by (first | exact True.intro | omega | exact ⟨by omega, by omega, hz0⟩ | exact ⟨by omega, by omega, hzi⟩ | exact ⟨by omega, by omega, hzj⟩ | exact ⟨by omega, by omega, hza⟩ | with_reducible exact ⟨by omega, by omega, by assumption⟩ | with_reducible exact ⟨trivial, by omega, by omega, by assumption⟩ | (simp only [inI]; omega) | (simp [P.size, nt, wP, pn, all_int, allOne_p, goods_p, allOne, goods, good, G.one, P.one, P.cells] <;> first | omega | assumption | simp_all))) (k := ?_)
                    refine dw0 65 (k := ?_)
                    refine dw0 66 (k := ?_)
                    refine dw0 67 (k := ?_)
                    refine d0 68 (k := ?_)
                    refine dz 69 [0, 0, 3, 7, 0, 31, 63, 0, 0, 384, 896, 0, 3968, 8064, 16383, 32767, 65535, 65535, 262143, 524287, 1048575, 1048575, 4194303, 8388607, 1048575, 33554431, 67108863, 134217727, 268435455, 536870911, 1073741823, 2147483647, 4294967295, 2147483647, 17179869183, 34359738367, 68719476735, 137438953471, 274877906943, 549755813887, 274877906943, 2199023255551, 4398046511103, 8796093022207, 17592186044415, 35184372088831, 70368744177663, 140737488355327, 70368744177663, 562949953421311, 1125899906842623, 70368744177663, 2322168557862911, 70368744177663, 15832967439974399, 33847365949456383, 72057594037927935, 144115188075855871, 288230376151711743, 576460752303423487, 576460752303423487, 2305843009213693951, 4611686018427387903, 576460752303423487, 18446744073709551615, 36893488147419103231, 73786976294838206463, 147573952589676412927, 295147905179352825855] (h := ?_)
                    refine de 69 (h := ?_)
                    refine lcut [1, 3, 4, 11, 12, 97, 98, 101, 102, 173]
                  · obtain rfl : p = q := Option.some.inj (hp.symm.trans hq)
                    have hse := sameA_self hne i
                    refine rd ?_
                    refine d0 0 (k := ?_)
                    refine d0 1 (k := ?_)
                    refine d1 2 (hc := by (first | exact True.intro | omega | exact ⟨by omega, by omega, hz0⟩ | exact ⟨by omega, by omega, hzi⟩ | exact ⟨by omega, by omega, hzj⟩ | exact ⟨by omega, by omega, hza⟩ | with_reducible exact ⟨by omega, by omega, by assumption⟩ | with_reducible exact ⟨trivial, by omega, by omega, by assumption⟩ | (simp only [inI]; omega) | (simp [P.size, nt, wP, pn, all_int, allOne_p, goods_p, allOne, goods, good, G.one, P.one, P.cells] <;> first | omega | assumption | simp_all))) (k := ?_)
                    refine d0 3 (k := ?_)
                    refine d0 4 (k := ?_)
                    refine d1 5 (hc := by (first | exact True.intro | omega | exact ⟨by omega, by omega, hz0⟩ | exact ⟨by omega, by omega, hzi⟩ | exact ⟨by omega, by omega, hzj⟩ | exact ⟨by omega, by omega, hza⟩ | with_reducible exact ⟨by omega, by omega, by assumption⟩ | with_reducible exact ⟨trivial, by omega, by omega, by assumption⟩ | (simp only [inI]; omega) | (simp [P.size, nt, wP, pn, all_int, allOne_p, goods_p, allOne, goods, good, G.one, P.one, P.cells] <;> first | omega | assumption | simp_all))) (k := ?_)
                    refine d0 6 (k := ?_)
                    refine d0 7 (k := ?_)
                    refine d0 8 (k := ?_)
                    refine d1 9 (hc := by (first | exact True.intro | omega | exact ⟨by omega, by omega, hz0⟩ | exact ⟨by omega, by omega, hzi⟩ | exact ⟨by omega, by omega, hzj⟩ | exact ⟨by omega, by omega, hza⟩ | with_reducible exact ⟨by omega, by omega, by assumption⟩ | with_reducible exact ⟨trivial, by omega, by omega, by assumption⟩ | (simp only [inI]; omega) | (simp [P.size, nt, wP, pn, all_int, allOne_p, goods_p, allOne, goods, good, G.one, P.one, P.cells] <;> first | omega | assumption | simp_all))) (k := ?_)
                    refine d0 10 (k := ?_)
                    refine d0 11 (k := ?_)
                    refine d1 12 (hc := by (first | exact True.intro | omega | exact ⟨by omega, by omega, hz0⟩ | exact ⟨by omega, by omega, hzi⟩ | exact ⟨by omega, by omega, hzj⟩ | exact ⟨by omega, by omega, hza⟩ | with_reducible exact ⟨by omega, by omega, by assumption⟩ | with_reducible exact ⟨trivial, by omega, by omega, by assumption⟩ | (simp only [inI]; omega) | (simp [P.size, nt, wP, pn, all_int, allOne_p, goods_p, allOne, goods, good, G.one, P.one, P.cells] <;> first | omega | assumption | simp_all))) (k := ?_)
                    refine d0 13 (k := ?_)
                    refine d0 14 (k := ?_)
                    refine d0 15 (k := ?_)
                    refine dw0 16 (k := ?_)
                    refine dw0 17 (k := ?_)
                    refine dw0 18 (k := ?_)
                    refine dw0 19 (k := ?_)
                    refine dw0 20 (k := ?_)
                    refine dw0 21 (k := ?_)
                    refine dw1 22 (hc := by (first | exact True.intro | omega | exact ⟨by omega, by omega, hz0⟩ | exact ⟨by omega, by omega, hzi⟩ | exact ⟨by omega, by omega, hzj⟩ | exact ⟨by omega, by omega, hza⟩ | with_reducible exact ⟨by omega, by omega, by assumption⟩ | with_reducible exact ⟨trivial, by omega, by omega, by assumption⟩ | (simp only [inI]; omega) | (simp [P.size, nt, wP, pn, all_int, allOne_p, goods_p, allOne, goods, good, G.one, P.one, P.cells] <;> first | omega | assumption | simp_all))) (k := ?_)
                    refine dw0 23 (k := ?_)
                    refine dw0 24 (k := ?_)
                    refine dw1 25 (hc := by (first | exact True.intro | omega | exact ⟨by omega, by omega, hz0⟩ | exact ⟨by omega, by omega, hzi⟩ | exact ⟨by omega, by omega, hzj⟩ | exact ⟨by omega, by omega, hza⟩ | with_reducible exact ⟨by omega, by omega, by assumption⟩ | with_reducible exact ⟨trivial, by omega, by omega, by assumption⟩ | (simp only [inI]; omega) | (simp [P.size, nt, wP, pn, all_int, allOne_p, goods_p, allOne, goods, good, G.one, P.one, P.cells] <;> first | omega | assumption | simp_all))) (k := ?_)
                    refine dw0 26 (k := ?_)
                    refine dw0 27 (k := ?_)
                    refine dw0 28 (k := ?_)
                    refine d0 29 (k := ?_)
                    refine d0 30 (k := ?_)
                    refine dw0 31 (k := ?_)
                    refine dw0 32 (k := ?_)
                    refine dw0 33 (k := ?_)
                    refine dw1 34 (hc := by (first | exact True.intro | omega | exact ⟨by omega, by omega, hz0⟩ | exact ⟨by omega, by omega, hzi⟩ | exact ⟨by omega, by omega, hzj⟩ | exact ⟨by omega, by omega, hza⟩ | with_reducible exact ⟨by omega, by omega, by assumption⟩ | with_reducible exact ⟨trivial, by omega, by omega, by assumption⟩ | (simp only [inI]; omega) | (simp [P.size, nt, wP, pn, all_int, allOne_p, goods_p, allOne, goods, good, G.one, P.one, P.cells] <;> first | omega | assumption | simp_all))) (k := ?_)
                    refine dw0 35 (k := ?_)
                    refine dw0 36 (k := ?_)
                    refine dw0 37 (k := ?_)
                    refine dx0 38 (k := ?_)
                    refine dx0 39 (k := ?_)
                    refine dx0 40 (k := ?_)
                    refine dx0 41 (k := ?_)
                    refine dx0 42 (k := ?_)
                    refine dx0 43 (k := ?_)
                    refine dw0 44 (k := ?_)
                    refine dw0 45 (k := ?_)
                    refine dx0 46 (k := ?_)
                    refine dx0 47 (k := ?_)
                    refine dx0 48 (k := ?_)
                    refine dx0 49 (k := ?_)
                    refine dx0 50 (k := ?_)
                    refine dx0 51 (k := ?_)
                    refine dx0 52 (k := ?_)
                    refine dx0 53 (k := ?_)
                    refine dx0 54 (k := ?_)
                    refine dx0 55 (k := ?_)
                    refine dx0 56 (k := ?_)
                    refine dw0 57 (k := ?_)
                    refine dw0 58 (k := ?_)
                    refine dx0 59 (k := ?_)
                    refine dx0 60 (k := ?_)
                    refine dx0 61 (k := ?_)
                    refine dx0 62 (k := ?_)
                    refine dx0 63 (k := ?_)
                    refine dx0 64 (k := ?_)
                    refine dx0 65 (k := ?_)
                    refine dx0 66 (k := ?_)
                    refine dw0 67 (k := ?_)
                    refine d0 68 (k := ?_)
                    refine dz 69 [0, 0, 3, 7, 0, 31, 63, 0, 0, 384, 896, 0, 3968, 8064, 16383, 32767, 65535, 65535, 262143, 524287, 1048575, 1048575, 4194303, 8388607, 1048575, 33554431, 67108863, 134217727, 268435455, 536870911, 1073741823, 2147483647, 4294967295, 2147483647, 17179869183, 34359738367, 68719476735, 137438953471, 274877906943, 549755813887, 274877906943, 2199023255551, 4398046511103, 8796093022207, 17592186044415, 35184372088831, 70368744177663, 140737488355327, 70368744177663, 562949953421311, 1125899906842623, 70368744177663, 2322168557862911, 70368744177663, 15832967439974399, 33847365949456383, 72057594037927935, 144115188075855871, 288230376151711743, 576460752303423487, 576460752303423487, 2305843009213693951, 4611686018427387903, 576460752303423487, 18446744073709551615, 36893488147419103231, 73786976294838206463, 147573952589676412927, 295147905179352825855] (h := ?_)
                    refine de 69 (h := ?_)
                    refine lcut [1, 3, 4, 11, 12, 97, 98, 101, 102, 173]
                  · obtain rfl : p = q := Option.some.inj (hp.symm.trans hq)
                    have hse := sameA_self hne i
                    refine rd ?_
                    refine d0 0 (k := ?_)
                    refine d0 1 (k := ?_)
                    refine d1 2 (hc := by (first | exact True.intro | omega | exact ⟨by omega, by omega, hz0⟩ | exact ⟨by omega, by omega, hzi⟩ | exact ⟨by omega, by omega, hzj⟩ | exact ⟨by omega, by omega, hza⟩ | with_reducible exact ⟨by omega, by omega, by assumption⟩ | with_reducible exact ⟨trivial, by omega, by omega, by assumption⟩ | (simp only [inI]; omega) | (simp [P.size, nt, wP, pn, all_int, allOne_p, goods_p, allOne, goods, good, G.one, P.one, P.cells] <;> first | omega | assumption | simp_all))) (k := ?_)
                    refine d0 3 (k := ?_)
                    refine d0 4 (k := ?_)
                    refine d1 5 (hc := by (first | exact True.intro | omega | exact ⟨by omega, by omega, hz0⟩ | exact ⟨by omega, by omega, hzi⟩ | exact ⟨by omega, by omega, hzj⟩ | exact ⟨by omega, by omega, hza⟩ | with_reducible exact ⟨by omega, by omega, by assumption⟩ | with_reducible exact ⟨trivial, by omega, by omega, by assumption⟩ | (simp only [inI]; omega) | (simp [P.size, nt, wP, pn, all_int, allOne_p, goods_p, allOne, goods, good, G.one, P.one, P.cells] <;> first | omega | assumption | simp_all))) (k := ?_)
                    refine d0 6 (k := ?_)
                    refine d0 7 (k := ?_)
                    refine d0 8 (k := ?_)
                    refine d1 9 (hc := by (first | exact True.intro | omega | exact ⟨by omega, by omega, hz0⟩ | exact ⟨by omega, by omega, hzi⟩ | exact ⟨by omega, by omega, hzj⟩ | exact ⟨by omega, by omega, hza⟩ | with_reducible exact ⟨by omega, by omega, by assumption⟩ | with_reducible exact ⟨trivial, by omega, by omega, by assumption⟩ | (simp only [inI]; omega) | (simp [P.size, nt, wP, pn, all_int, allOne_p, goods_p, allOne, goods, good, G.one, P.one, P.cells] <;> first | omega | assumption | simp_all))) (k := ?_)
                    refine d0 10 (k := ?_)
                    refine d0 11 (k := ?_)
                    refine d1 12 (hc := by (first | exact True.intro | omega | exact ⟨by omega, by omega, hz0⟩ | exact ⟨by omega, by omega, hzi⟩ | exact ⟨by omega, by omega, hzj⟩ | exact ⟨by omega, by omega, hza⟩ | with_reducible exact ⟨by omega, by omega, by assumption⟩ | with_reducible exact ⟨trivial, by omega, by omega, by assumption⟩ | (simp only [inI]; omega) | (simp [P.size, nt, wP, pn, all_int, allOne_p, goods_p, allOne, goods, good, G.one, P.one, P.cells] <;> first | omega | assumption | simp_all))) (k := ?_)
                    refine d0 13 (k := ?_)
                    refine d0 14 (k := ?_)
                    refine d0 15 (k := ?_)
                    refine dw0 16 (k := ?_)
                    refine dw0 17 (k := ?_)
                    refine dw0 18 (k := ?_)
                    refine dw0 19 (k := ?_)
                    refine dw0 20 (k := ?_)
                    refine dw0 21 (k := ?_)
                    refine dw1 22 (hc := by (first | exact True.intro | omega | exact ⟨by omega, by omega, hz0⟩ | exact ⟨by omega, by omega, hzi⟩ | exact ⟨by omega, by omega, hzj⟩ | exact ⟨by omega, by omega, hza⟩ | with_reducible exact ⟨by omega, by omega, by assumption⟩ | with_reducible exact ⟨trivial, by omega, by omega, by assumption⟩ | (simp only [inI]; omega) | (simp [P.size, nt, wP, pn, all_int, allOne_p, goods_p, allOne, goods, good, G.one, P.one, P.cells] <;> first | omega | assumption | simp_all))) (k := ?_)
                    refine dw0 23 (k := ?_)
                    refine dw0 24 (k := ?_)
                    refine dw1 25 (hc := by (first | exact True.intro | omega | exact ⟨by omega, by omega, hz0⟩ | exact ⟨by omega, by omega, hzi⟩ | exact ⟨by omega, by omega, hzj⟩ | exact ⟨by omega, by omega, hza⟩ | with_reducible exact ⟨by omega, by omega, by assumption⟩ | with_reducible exact ⟨trivial, by omega, by omega, by assumption⟩ | (simp only [inI]; omega) | (simp [P.size, nt, wP, pn, all_int, allOne_p, goods_p, allOne, goods, good, G.one, P.one, P.cells] <;> first | omega | assumption | simp_all))) (k := ?_)
                    refine dw0 26 (k := ?_)
                    refine dw0 27 (k := ?_)
                    refine dw0 28 (k := ?_)
                    refine d0 29 (k := ?_)
                    refine d0 30 (k := ?_)
                    refine dw0 31 (k := ?_)
                    refine dw0 32 (k := ?_)
                    refine dw0 33 (k := ?_)
                    refine dw1 34 (hc := by (first | exact True.intro | omega | exact ⟨by omega, by omega, hz0⟩ | exact ⟨by omega, by omega, hzi⟩ | exact ⟨by omega, by omega, hzj⟩ | exact ⟨by omega, by omega, hza⟩ | with_reducible exact ⟨by omega, by omega, by assumption⟩ | with_reducible exact ⟨trivial, by omega, by omega, by assumption⟩ | (simp only [inI]; omega) | (simp [P.size, nt, wP, pn, all_int, allOne_p, goods_p, allOne, goods, good, G.one, P.one, P.cells] <;> first | omega | assumption | simp_all))) (k := ?_)
                    refine dw0 35 (k := ?_)
                    refine dw0 36 (k := ?_)
                    refine dw0 37 (k := ?_)
                    refine dw0 38 (k := ?_)
                    refine dw0 39 (k := ?_)
                    refine dw0 40 (k := ?_)
                    refine dw1 41 (hc := by (first | exact True.intro | omega | exact ⟨by omega, by omega, hz0⟩ | exact ⟨by omega, by omega, hzi⟩ | exact ⟨by omega, by omega, hzj⟩ | exact ⟨by omega, by omega, hza⟩ | with_reducible exact ⟨by omega, by omega, by assumption⟩ | with_reducible exact ⟨trivial, by omega, by omega, by assumption⟩ | (simp only [inI]; omega) | (simp [P.size, nt, wP, pn, all_int, allOne_p, goods_p, allOne, goods, good, G.one, P.one, P.cells] <;> first | omega | assumption | simp_all))) (k := ?_)
                    refine dw0 42 (k := ?_)
                    refine dw0 43 (k := ?_)
                    refine dw0 44 (k := ?_)
                    refine dw0 45 (k := ?_)
                    refine dw0 46 (k := ?_)
                    refine dw0 47 (k := ?_)
                    refine dw0 48 (k := ?_)
                    refine dw1 49 (hc := by (first | exact True.intro | omega | exact ⟨by omega, by omega, hz0⟩ | exact ⟨by omega, by omega, hzi⟩ | exact ⟨by omega, by omega, hzj⟩ | exact ⟨by omega, by omega, hza⟩ | with_reducible exact ⟨by omega, by omega, by assumption⟩ | with_reducible exact ⟨trivial, by omega, by omega, by assumption⟩ | (simp only [inI]; omega) | (simp [P.size, nt, wP, pn, all_int, allOne_p, goods_p, allOne, goods, good, G.one, P.one, P.cells] <;> first | omega | assumption | simp_all))) (k := ?_)
                    refine dw0 50 (k := ?_)
                    refine dw0 51 (k := ?_)
                    refine dw0 52 (k := ?_)
                    refine dw0 53 (k := ?_)
                    refine dw1 54 (hc := by (first | exact True.intro | omega | exact ⟨by omega, by omega, hz0⟩ | exact ⟨by omega, by omega, hzi⟩ | exact ⟨by omega, by omega, hzj⟩ | exact ⟨by omega, by omega, hza⟩ | with_reducible exact ⟨by omega, by omega, by assumption⟩ | with_reducible exact ⟨trivial, by omega, by omega, by assumption⟩ | (simp only [inI]; omega) | (simp [P.size, nt, wP, pn, all_int, allOne_p, goods_p, allOne, goods, good, G.one, P.one, P.cells] <;> first | omega | assumption | simp_all))) (k := ?_)
                    refine dw0 55 (k := ?_)
                    refine dw0 56 (k := ?_)
                    refine dw0 57 (k := ?_)
                    refine dw0 58 (k := ?_)
                    refine dx0 59 (k := ?_)
                    refine dx0 60 (k := ?_)
                    refine dx0 61 (k := ?_)
                    refine dx0 62 (k := ?_)
                    refine dx0 63 (k := ?_)
                    refine dx0 64 (k := ?_)
                    refine dx0 65 (k := ?_)
                    refine dx0 66 (k := ?_)
                    refine dw0 67 (k := ?_)
                    refine d0 68 (k := ?_)
                    refine dz 69 [0, 0, 3, 7, 0, 31, 63, 0, 0, 384, 896, 0, 3968, 8064, 16383, 32767, 65535, 65535, 262143, 524287, 1048575, 1048575, 4194303, 8388607, 1048575, 33554431, 67108863, 134217727, 268435455, 536870911, 1073741823, 2147483647, 4294967295, 2147483647, 17179869183, 34359738367, 68719476735, 137438953471, 274877906943, 549755813887, 274877906943, 2199023255551, 4398046511103, 8796093022207, 17592186044415, 35184372088831, 70368744177663, 140737488355327, 70368744177663, 562949953421311, 1125899906842623, 70368744177663, 2322168557862911, 70368744177663, 15832967439974399, 33847365949456383, 72057594037927935, 144115188075855871, 288230376151711743, 576460752303423487, 576460752303423487, 2305843009213693951, 4611686018427387903, 576460752303423487, 18446744073709551615, 36893488147419103231, 73786976294838206463, 147573952589676412927, 295147905179352825855] (h := ?_)
                    refine de 69 (h := ?_)
                    refine lcut [1, 3, 4, 11, 12, 97, 98, 101, 102, 173]
                · repeat refine gwp_seq ?_
                  refine cF (k := ?_)
                  repeat refine gwp_seq ?_
                  refine gwp_skip ?_
                  refine clx [1, 3, 4, 11, 12, 97, 98, 101, 102] (k := ?_)
                  repeat refine gwp_seq ?_
                  refine gwp_region ?_
                  refine v0 (k := ?_)
                  refine v0 (k := ?_)
                  refine nil0 ?_
                  refine clx [1, 3, 4, 11, 12, 97, 98, 101, 102, 174, 175] (k := ?_)
                  repeat refine gwp_seq ?_
                  refine gwp_block ?_
                  repeat refine gwp_seq ?_
                  refine gc_loop (fun mz σ => ∃ k : Nat, ((k : Int) ≤ s.num) ∧ mz = s.num.toNat - k ∧ σ = (sg [(1, .ref 110 0), (3, .p (.int .i64 s.num)), (4, .p (.list (rowsP s))), (11, .p (.int .i64 i)), (12, .p (.int .i64 j)), (97, .p (.int .i64 s.num)), (98, .p (.int .i64 i)), (101, .p (.int .i64 s.num)), (102, .p (.int .i64 j)), (174, .p (.int .i64 s.num)), (175, .p (.int .i64 k))] [(110, .cells [.p (.int .i64 s.num), .p (.list (s.sizes.map (.int .i64))), .p (.int .i64 s.lo), .p (.int .i64 s.hi), .p (.list (s.notes.map pn))] 0)] A [] : Sg E)) ?_ (fun mz σ hI => ?_)
                  · refine lbegx [1, 3, 4, 11, 12, 97, 98, 101, 102, 174, 175] (hV := ?_)
                    exact ⟨_, 0, by omega, rfl, rfl⟩
                  obtain ⟨k, hk, hnnk, rfl⟩ := hI
                  repeat refine gwp_seq ?_
                  refine gwp_region ?_
                  refine v0 (k := ?_)
                  refine nil0 ?_
                  repeat refine gwp_seq ?_
                  refine cB (k1 := fun hb9 => ?_) (k0 := fun hb9 => ?_)
                  · try simp only [decide_eq_true_eq, decide_eq_false_iff_not, Int.not_lt, Int.not_le, Bool.not_eq_eq_eq_not, Bool.not_true, Bool.not_false, Bool.and_eq_true, Bool.and_eq_false_iff, Bool.or_eq_true, Bool.or_eq_false_iff] at hb9
                    repeat refine gwp_seq ?_
                    refine gwp_skip ?_
                    refine clx [1, 3, 4, 11, 12, 97, 98, 101, 102, 174, 175] (k := ?_)
                    repeat refine gwp_seq ?_
                    refine gwp_block ?_
                    repeat refine gwp_seq ?_
                    refine gwp_region ?_
                    refine v0 (k := ?_)
                    refine v0 (k := ?_)
                    refine nil0 ?_
                    refine clx [1, 3, 4, 11, 12, 13, 97, 98, 101, 102, 174, 175] (k := ?_)
                    repeat refine gwp_seq ?_
                    refine gwp_cut (l1 := ?_) (m1 := ?_) ?_ ?_
                    rotate_left 2
                    · have hl0 := rowsP_len s
                      have hz0 := fun x hx => (rowsP_one s x hx).2
                      have hri := rowsP_get (s := s) (k := i) (by omega)
                      have hli := rowP_len s i
                      have hzi := fun x hx => (rowP_one s i x hx).2
                      have hrj := rowsP_get (s := s) (k := j) (by omega)
                      have hlj := rowP_len s j
                      have hzj := fun x hx => (rowP_one s j x hx).2
                      have hrij := rowP_get (s := s) (a := i) (k := j) (by omega)
                      have hrjk := rowP_get (s := s) (a := j) (k := k) (by omega)
                      have hrik := rowP_get (s := s) (a := i) (k := k) (by omega)
                      by_cases h1 : sameA s i j = 1
                      · have htr := sameA_trans hne k h1
                        refine rd ?_
                        refine d0 0 (k := ?_)
                        refine d0 1 (k := ?_)
                        refine d1 2 (hc := by (first | exact True.intro | omega | exact ⟨by omega, by omega, hz0⟩ | exact ⟨by omega, by omega, hzi⟩ | exact ⟨by omega, by omega, hzj⟩ | exact ⟨by omega, by omega, hza⟩ | with_reducible exact ⟨by omega, by omega, by assumption⟩ | with_reducible exact ⟨trivial, by omega, by omega, by assumption⟩ | (simp only [inI]; omega) | (simp [P.size, nt, wP, pn, all_int, allOne_p, goods_p, allOne, goods, good, G.one, P.one, P.cells] <;> first | omega | assumption | simp_all))) (k := ?_)
                        refine d0 3 (k := ?_)
                        refine d0 4 (k := ?_)
                        refine d1 5 (hc := by (first | exact True.intro | omega | exact ⟨by omega, by omega, hz0⟩ | exact ⟨by omega, by omega, hzi⟩ | exact ⟨by omega, by omega, hzj⟩ | exact ⟨by omega, by omega, hza⟩ | with_reducible exact ⟨by omega, by omega, by assumption⟩ | with_reducible exact ⟨trivial, by omega, by omega, by assumption⟩ | (simp only [inI]; omega) | (simp [P.size, nt, wP, pn, all_int, allOne_p, goods_p, allOne, goods, good, G.one, P.one, P.cells] <;> first | omega | assumption | simp_all))) (k := ?_)
                        refine d0 6 (k := ?_)
                        refine d0 7 (k := ?_)
                        refine d0 8 (k := ?_)
                        refine dw0 9 (k := ?_)
                        refine dw0 10 (k := ?_)
                        refine dw1 11 (hc := by (first | exact True.intro | omega | exact ⟨by omega, by omega, hz0⟩ | exact ⟨by omega, by omega, hzi⟩ | exact ⟨by omega, by omega, hzj⟩ | exact ⟨by omega, by omega, hza⟩ | with_reducible exact ⟨by omega, by omega, by assumption⟩ | with_reducible exact ⟨trivial, by omega, by omega, by assumption⟩ | (simp only [inI]; omega) | (simp [P.size, nt, wP, pn, all_int, allOne_p, goods_p, allOne, goods, good, G.one, P.one, P.cells] <;> first | omega | assumption | simp_all))) (k := ?_)
                        refine dw0 12 (k := ?_)
                        refine dw0 13 (k := ?_)
                        refine dw1 14 (hc := by (first | exact True.intro | omega | exact ⟨by omega, by omega, hz0⟩ | exact ⟨by omega, by omega, hzi⟩ | exact ⟨by omega, by omega, hzj⟩ | exact ⟨by omega, by omega, hza⟩ | with_reducible exact ⟨by omega, by omega, by assumption⟩ | with_reducible exact ⟨trivial, by omega, by omega, by assumption⟩ | (simp only [inI]; omega) | (simp [P.size, nt, wP, pn, all_int, allOne_p, goods_p, allOne, goods, good, G.one, P.one, P.cells] <;> first | omega | assumption | simp_all))) (k := ?_)
                        refine dw0 15 (k := ?_)
                        refine dw0 16 (k := ?_)
                        refine dw0 17 (k := ?_)
                        refine dw1 18 (hc := by (first | exact True.intro | omega | exact ⟨by omega, by omega, hz0⟩ | exact ⟨by omega, by omega, hzi⟩ | exact ⟨by omega, by omega, hzj⟩ | exact ⟨by omega, by omega, hza⟩ | with_reducible exact ⟨by omega, by omega, by assumption⟩ | with_reducible exact ⟨trivial, by omega, by omega, by assumption⟩ | (simp only [inI]; omega) | (simp [P.size, nt, wP, pn, all_int, allOne_p, goods_p, allOne, goods, good, G.one, P.one, P.cells] <;> first | omega | assumption | simp_all))) (k := ?_)
                        refine dw0 19 (k := ?_)
                        refine dw0 20 (k := ?_)
                        refine dw1 21 (hc := by (first | exact True.intro | omega | exact ⟨by omega, by omega, hz0⟩ | exact ⟨by omega, by omega, hzi⟩ | exact ⟨by omega, by omega, hzj⟩ | exact ⟨by omega, by omega, hza⟩ | with_reducible exact ⟨by omega, by omega, by assumption⟩ | with_reducible exact ⟨trivial, by omega, by omega, by assumption⟩ | (simp only [inI]; omega) | (simp [P.size, nt, wP, pn, all_int, allOne_p, goods_p, allOne, goods, good, G.one, P.one, P.cells] <;> first | omega | assumption | simp_all))) (k := ?_)
                        refine dw0 22 (k := ?_)
                        refine dw0 23 (k := ?_)
                        refine d0 24 (k := ?_)
                        refine dz 25 [0, 0, 3, 7, 0, 31, 63, 127, 255, 511, 511, 2047, 4095, 511, 16383, 32767, 511, 511, 197119, 459263, 511, 2032127, 4129279, 8388607, 16777215] (h := ?_)
                        refine de 25 (h := ?_)
                        refine lcut [1, 3, 4, 11, 12, 97, 98, 101, 102, 174, 175, 202]
                      · refine rd ?_
                        refine d0 0 (k := ?_)
                        refine d0 1 (k := ?_)
                        refine d1 2 (hc := by (first | exact True.intro | omega | exact ⟨by omega, by omega, hz0⟩ | exact ⟨by omega, by omega, hzi⟩ | exact ⟨by omega, by omega, hzj⟩ | exact ⟨by omega, by omega, hza⟩ | with_reducible exact ⟨by omega, by omega, by assumption⟩ | with_reducible exact ⟨trivial, by omega, by omega, by assumption⟩ | (simp only [inI]; omega) | (simp [P.size, nt, wP, pn, all_int, allOne_p, goods_p, allOne, goods, good, G.one, P.one, P.cells] <;> first | omega | assumption | simp_all))) (k := ?_)
                        refine d0 3 (k := ?_)
                        refine d0 4 (k := ?_)
                        refine d1 5 (hc := by (first | exact True.intro | omega | exact ⟨by omega, by omega, hz0⟩ | exact ⟨by omega, by omega, hzi⟩ | exact ⟨by omega, by omega, hzj⟩ | exact ⟨by omega, by omega, hza⟩ | with_reducible exact ⟨by omega, by omega, by assumption⟩ | with_reducible exact ⟨trivial, by omega, by omega, by assumption⟩ | (simp only [inI]; omega) | (simp [P.size, nt, wP, pn, all_int, allOne_p, goods_p, allOne, goods, good, G.one, P.one, P.cells] <;> first | omega | assumption | simp_all))) (k := ?_)
                        refine d0 6 (k := ?_)
                        refine d0 7 (k := ?_)
                        refine d0 8 (k := ?_)
                        refine dx0 9 (k := ?_)
                        refine dx0 10 (k := ?_)
                        refine dx0 11 (k := ?_)
                        refine dx0 12 (k := ?_)
                        refine dx0 13 (k := ?_)
                        refine dx0 14 (k := ?_)
                        refine dx0 15 (k := ?_)
                        refine dx0 16 (k := ?_)
                        refine dx0 17 (k := ?_)
                        refine dx0 18 (k := ?_)
                        refine dx0 19 (k := ?_)
                        refine dx0 20 (k := ?_)
                        refine dx0 21 (k := ?_)
                        refine dx0 22 (k := ?_)
                        refine dx0 23 (k := ?_)
                        refine d0 24 (k := ?_)
                        refine dz 25 [0, 0, 3, 7, 0, 31, 63, 127, 255, 511, 511, 2047, 4095, 511, 16383, 32767, 511, 511, 197119, 459263, 511, 2032127, 4129279, 8388607, 16777215] (h := ?_)
                        refine de 25 (h := ?_)
                        refine lcut [1, 3, 4, 11, 12, 97, 98, 101, 102, 174, 175, 202]
                    · repeat refine gwp_seq ?_
                      refine cF (k := ?_)
                      repeat refine gwp_seq ?_
                      refine gwp_skip ?_
                      refine clx [1, 3, 4, 11, 12, 97, 98, 101, 102, 174, 175] (k := ?_)
                      repeat refine gwp_seq ?_
                      refine gwp_region ?_
                      refine v1 (hc := by (first | exact True.intro | omega | exact ⟨by omega, by omega, hz0⟩ | exact ⟨by omega, by omega, hzi⟩ | exact ⟨by omega, by omega, hzj⟩ | exact ⟨by omega, by omega, hza⟩ | with_reducible exact ⟨by omega, by omega, by assumption⟩ | with_reducible exact ⟨trivial, by omega, by omega, by assumption⟩ | (simp only [inI]; omega) | (simp [P.size, nt, wP, pn, all_int, allOne_p, goods_p, allOne, goods, good, G.one, P.one, P.cells] <;> first | omega | assumption | simp_all))) (k := ?_)
                      refine v0 (k := ?_)
                      refine nil0 ?_
                      refine lendx [1, 3, 4, 11, 12, 97, 98, 101, 102, 174, 175] (h := ?_) (hV := ?_) (n' := s.num.toNat - (k + 1))
                      · omega
                      exact ⟨k + 1, by omega, rfl, rfl⟩
                  · try simp only [decide_eq_true_eq, decide_eq_false_iff_not, Int.not_lt, Int.not_le, Bool.not_eq_eq_eq_not, Bool.not_true, Bool.not_false, Bool.and_eq_true, Bool.and_eq_false_iff, Bool.or_eq_true, Bool.or_eq_false_iff] at hb9
                    repeat refine gwp_seq ?_
                    refine gwp_exit ?_
                    repeat (first | refine gthen_exit ?_ | refine gnoGoto_exit ?_ | refine gblock_here ?_ | refine gblock_out rfl ?_)
                    refine clx [1, 3, 4, 11, 97, 98, 101, 102] (k := ?_)
                    repeat refine gwp_seq ?_
                    refine gwp_region ?_
                    refine v1 (hc := by (first | exact True.intro | omega | exact ⟨by omega, by omega, hz0⟩ | exact ⟨by omega, by omega, hzi⟩ | exact ⟨by omega, by omega, hzj⟩ | exact ⟨by omega, by omega, hza⟩ | with_reducible exact ⟨by omega, by omega, by assumption⟩ | with_reducible exact ⟨trivial, by omega, by omega, by assumption⟩ | (simp only [inI]; omega) | (simp [P.size, nt, wP, pn, all_int, allOne_p, goods_p, allOne, goods, good, G.one, P.one, P.cells] <;> first | omega | assumption | simp_all))) (k := ?_)
                    refine v0 (k := ?_)
                    refine nil0 ?_
                    refine lendx [1, 3, 4, 11, 97, 98, 101, 102] (h := ?_) (hV := ?_) (n' := s.num.toNat - (j + 1))
                    · omega
                    exact ⟨j + 1, by omega, rfl, rfl⟩
              · try simp only [decide_eq_true_eq, decide_eq_false_iff_not, Int.not_lt, Int.not_le, Bool.not_eq_eq_eq_not, Bool.not_true, Bool.not_false, Bool.and_eq_true, Bool.and_eq_false_iff, Bool.or_eq_true, Bool.or_eq_false_iff] at hb8
                repeat refine gwp_seq ?_
                refine gwp_exit ?_
                repeat (first | refine gthen_exit ?_ | refine gnoGoto_exit ?_ | refine gblock_here ?_ | refine gblock_out rfl ?_)
                refine clx [1, 3, 4, 97, 98] (k := ?_)
                repeat refine gwp_seq ?_
                refine gwp_region ?_
                refine v1 (hc := by (first | exact True.intro | omega | exact ⟨by omega, by omega, hz0⟩ | exact ⟨by omega, by omega, hzi⟩ | exact ⟨by omega, by omega, hzj⟩ | exact ⟨by omega, by omega, hza⟩ | with_reducible exact ⟨by omega, by omega, by assumption⟩ | with_reducible exact ⟨trivial, by omega, by omega, by assumption⟩ | (simp only [inI]; omega) | (simp [P.size, nt, wP, pn, all_int, allOne_p, goods_p, allOne, goods, good, G.one, P.one, P.cells] <;> first | omega | assumption | simp_all))) (k := ?_)
                refine v0 (k := ?_)
                refine nil0 ?_
                refine lendx [1, 3, 4, 97, 98] (h := ?_) (hV := ?_) (n' := s.num.toNat - (i + 1))
                · omega
                exact ⟨i + 1, by omega, rfl, rfl⟩
            · try simp only [decide_eq_true_eq, decide_eq_false_iff_not, Int.not_lt, Int.not_le, Bool.not_eq_eq_eq_not, Bool.not_true, Bool.not_false, Bool.and_eq_true, Bool.and_eq_false_iff, Bool.or_eq_true, Bool.or_eq_false_iff] at hb7
              repeat refine gwp_seq ?_
              refine gwp_exit ?_
              repeat (first | refine gthen_exit ?_ | refine gnoGoto_exit ?_ | refine gblock_here ?_ | refine gblock_out rfl ?_)
              refine clx [1, 4] (k := ?_)
              repeat refine gwp_seq ?_
              refine gwp_region ?_
              refine v0 (k := ?_)
              refine v0 (k := ?_)
              refine v0 (k := ?_)
              refine v0 (k := ?_)
              refine nil0 ?_
              refine clx [4, 207, 208, 209] (k := ?_)
              repeat refine gwp_seq ?_
              refine gwp_block ?_
              repeat refine gwp_seq ?_
              refine gc_loop (fun mz σ => ∃ k : Nat, (k ≤ s.notes.length) ∧ mz = s.notes.length - k ∧ σ = (sg [(4, .p (.list (rowsP s))), (207, .p (.list (s.notes.map pn))), (208, .p (.int .i64 s.notes.length)), (209, .p (.int .i64 k))] [] A [] : Sg E)) ?_ (fun mz σ hI => ?_)
              · refine lbegx [4, 207, 208, 209] (hV := ?_)
                exact ⟨_, 0, by omega, rfl, rfl⟩
              obtain ⟨k, hk, hnnk, rfl⟩ := hI
              repeat refine gwp_seq ?_
              refine gwp_region ?_
              refine v0 (k := ?_)
              refine nil0 ?_
              repeat refine gwp_seq ?_
              refine cB (k1 := fun hb10 => ?_) (k0 := fun hb10 => ?_)
              · try simp only [decide_eq_true_eq, decide_eq_false_iff_not, Int.not_lt, Int.not_le, Bool.not_eq_eq_eq_not, Bool.not_true, Bool.not_false, Bool.and_eq_true, Bool.and_eq_false_iff, Bool.or_eq_true, Bool.or_eq_false_iff] at hb10
                repeat refine gwp_seq ?_
                refine gwp_skip ?_
                refine clx [4, 207, 208, 209] (k := ?_)
                repeat refine gwp_seq ?_
                refine gwp_block ?_
                repeat refine gwp_seq ?_
                obtain ⟨⟨xa, xb, xs⟩, hx⟩ := getE (l := s.notes) (k := k) (by omega)
                have hxn := valid_note hb2 hx
                simp only at hxn
                obtain ⟨a, rfl⟩ : ∃ a : Nat, xa = a := ⟨xa.toNat, by omega⟩
                obtain ⟨b, rfl⟩ : ∃ b : Nat, xb = b := ⟨xb.toNat, by omega⟩
                have hsn := sameA_note hne hx
                simp only at hsn
                refine gwp_region ?_
                refine v1 (hc := by (first | exact True.intro | omega | exact ⟨by omega, by omega, hz0⟩ | exact ⟨by omega, by omega, hzi⟩ | exact ⟨by omega, by omega, hzj⟩ | exact ⟨by omega, by omega, hza⟩ | with_reducible exact ⟨by omega, by omega, by assumption⟩ | with_reducible exact ⟨trivial, by omega, by omega, by assumption⟩ | (simp only [inI]; omega) | (simp [P.size, nt, wP, pn, all_int, allOne_p, goods_p, allOne, goods, good, G.one, P.one, P.cells] <;> first | omega | assumption | simp_all))) (k := ?_)
                refine v0 (k := ?_)
                refine n1 250 false (hc := by (first | exact True.intro | omega | exact ⟨by omega, by omega, hz0⟩ | exact ⟨by omega, by omega, hzi⟩ | exact ⟨by omega, by omega, hzj⟩ | exact ⟨by omega, by omega, hza⟩ | with_reducible exact ⟨by omega, by omega, by assumption⟩ | with_reducible exact ⟨trivial, by omega, by omega, by assumption⟩ | (simp only [inI]; omega) | (simp [P.size, nt, wP, pn, all_int, allOne_p, goods_p, allOne, goods, good, G.one, P.one, P.cells] <;> first | omega | assumption | simp_all))) (k := ?_)
                refine s1 (hc := by (first | exact True.intro | omega | exact ⟨by omega, by omega, hz0⟩ | exact ⟨by omega, by omega, hzi⟩ | exact ⟨by omega, by omega, hzj⟩ | exact ⟨by omega, by omega, hza⟩ | with_reducible exact ⟨by omega, by omega, by assumption⟩ | with_reducible exact ⟨trivial, by omega, by omega, by assumption⟩ | (simp only [inI]; omega) | (simp [P.size, nt, wP, pn, all_int, allOne_p, goods_p, allOne, goods, good, G.one, P.one, P.cells] <;> first | omega | assumption | simp_all))) (k := ?_)
                refine nil0 ?_
                refine clx [4, 15, 207, 208, 209] (k := ?_)
                repeat refine gwp_seq ?_
                refine gwp_cut (l1 := ?_) (m1 := ?_) ?_ ?_
                rotate_left 2
                · have hbt : (true == true) = true := rfl
                  have hbf : (false == false) = true := rfl
                  have htf : (true == false) = false := rfl
                  have hft : (false == true) = false := rfl
                  have h10 : ¬ (1 : Int) = 0 := by decide
                  have h01 : ¬ (0 : Int) = 1 := by decide
                  have hl0 := rowsP_len s
                  have hz0 := fun x hx => (rowsP_one s x hx).2
                  have hra := rowsP_get (s := s) (k := a) (by omega)
                  have hla := rowP_len s a
                  have hza := fun x hx => (rowP_one s a x hx).2
                  have hrab := rowP_get (s := s) (a := a) (k := b) (by omega)
                  cases xs
                  · replace hsn : sameA s a b = 0 := hsn
                    refine rd ?_
                    refine d0 0 (k := ?_)
                    refine d0 1 (k := ?_)
                    refine d0 2 (k := ?_)
                    refine d1 3 (hc := by (first | exact hz0 | exact ⟨by omega, hz0⟩ | exact ⟨by omega, by omega, hz0⟩)) (k := ?_)
                    refine d0 4 (k := ?_)
                    refine d0 5 (k := ?_)
                    refine d0 6 (k := ?_)
                    refine d1 7 (hc := by (first | exact hza | exact ⟨by omega, hza⟩ | exact ⟨by omega, by omega, hza⟩)) (k := ?_)
                    refine d0 8 (k := ?_)
                    refine d0 9 (k := ?_)
                    refine d0 10 (k := ?_)
                    refine d0 11 (k := ?_)
                    refine d0 12 (k := ?_)
                    refine d0 13 (k := ?_)
                    refine dw0 14 (k := ?_)
                    refine dw0 15 (k := ?_)
                    refine dw0 16 (k := ?_)
                    refine dw1 17 (hc := by (first | exact hz0 | exact ⟨by omega, hz0⟩ | exact ⟨by omega, by omega, hz0⟩)) (k := ?_)
                    refine dw0 18 (k := ?_)
                    refine dw0 19 (k := ?_)
                    refine dw0 20 (k := ?_)
                    refine dw1 21 (hc := by (first | exact hza | exact ⟨by omega, hza⟩ | exact ⟨by omega, by omega, hza⟩)) (k := ?_)
                    refine dw0 22 (k := ?_)
                    refine dw0 23 (k := ?_)
                    refine dw0 24 (k := ?_)
                    refine dw0 25 (k := ?_)
                    refine dw0 26 (k := ?_)
                    refine d0 27 (k := ?_)
                    refine dz 28 [0, 0, 2, 7, 15, 0, 32, 127, 255, 511, 0, 1024, 4095, 8191, 16383, 16383, 49151, 131071, 262143, 16383, 540671, 2097151, 4194303, 8388607, 16383, 16793599, 67108863, 134217727] (h := ?_)
                    refine de 28 (h := ?_)
                    refine lcut [4, 207, 208, 209, 240]
                  · replace hsn : sameA s a b = 1 := hsn
                    refine rd ?_
                    refine d0 0 (k := ?_)
                    refine d0 1 (k := ?_)
                    refine d0 2 (k := ?_)
                    refine d1 3 (hc := by (first | exact hz0 | exact ⟨by omega, hz0⟩ | exact ⟨by omega, by omega, hz0⟩)) (k := ?_)
                    refine d0 4 (k := ?_)
                    refine d0 5 (k := ?_)
                    refine d0 6 (k := ?_)
                    refine d1 7 (hc := by (first | exact hza | exact ⟨by omega, hza⟩ | exact ⟨by omega, by omega, hza⟩)) (k := ?_)
                    refine d0 8 (k := ?_)
                    refine d0 9 (k := ?_)
                    refine d0 10 (k := ?_)
                    refine d0 11 (k := ?_)
                    refine d0 12 (k := ?_)
                    refine d0 13 (k := ?_)
                    refine dw0 14 (k := ?_)
                    refine dw0 15 (k := ?_)
                    refine dw0 16 (k := ?_)
                    refine dw1 17 (hc := by (first | exact hz0 | exact ⟨by omega, hz0⟩ | exact ⟨by omega, by omega, hz0⟩)) (k := ?_)
                    refine dw0 18 (k := ?_)
                    refine dw0 19 (k := ?_)
                    refine dw0 20 (k := ?_)
                    refine dw1 21 (hc := by (first | exact hza | exact ⟨by omega, hza⟩ | exact ⟨by omega, by omega, hza⟩)) (k := ?_)
                    refine dw0 22 (k := ?_)
                    refine dw0 23 (k := ?_)
                    refine dw0 24 (k := ?_)
                    refine dw0 25 (k := ?_)
                    refine dw0 26 (k := ?_)
                    refine d0 27 (k := ?_)
                    refine dz 28 [0, 0, 2, 7, 15, 0, 32, 127, 255, 511, 0, 1024, 4095, 8191, 16383, 16383, 49151, 131071, 262143, 16383, 540671, 2097151, 4194303, 8388607, 16383, 16793599, 67108863, 134217727] (h := ?_)
                    refine de 28 (h := ?_)
                    refine lcut [4, 207, 208, 209, 240]
                · repeat refine gwp_seq ?_
                  refine cF (k := ?_)
                  repeat refine gwp_seq ?_
                  refine gwp_skip ?_
                  refine clx [4, 207, 208, 209] (k := ?_)
                  repeat refine gwp_seq ?_
                  refine gwp_region ?_
                  refine v1 (hc := by (first | exact True.intro | omega | exact ⟨by omega, by omega, hz0⟩ | exact ⟨by omega, by omega, hzi⟩ | exact ⟨by omega, by omega, hzj⟩ | exact ⟨by omega, by omega, hza⟩ | with_reducible exact ⟨by omega, by omega, by assumption⟩ | with_reducible exact ⟨trivial, by omega, by omega, by assumption⟩ | (simp only [inI]; omega) | (simp [P.size, nt, wP, pn, all_int, allOne_p, goods_p, allOne, goods, good, G.one, P.one, P.cells] <;> first | omega | assumption | simp_all))) (k := ?_)
                  refine v0 (k := ?_)
                  refine nil0 ?_
                  refine lendx [4, 207, 208, 209] (h := ?_) (hV := ?_) (n' := s.notes.length - (k + 1))
                  · omega
                  exact ⟨k + 1, by omega, rfl, rfl⟩
              · try simp only [decide_eq_true_eq, decide_eq_false_iff_not, Int.not_lt, Int.not_le, Bool.not_eq_eq_eq_not, Bool.not_true, Bool.not_false, Bool.and_eq_true, Bool.and_eq_false_iff, Bool.or_eq_true, Bool.or_eq_false_iff] at hb10
                repeat refine gwp_seq ?_
                refine gwp_exit ?_
                repeat (first | refine gthen_exit ?_ | refine gnoGoto_exit ?_ | refine gblock_here ?_ | refine gblock_out rfl ?_)
                refine clx [] (k := ?_)
                repeat refine gwp_seq ?_
                refine gwp_region ?_
                refine pc0 (spec := l_awake) (hent := ent13) (k := ?_)
                refine v0 (k := ?_)
                refine nil0 ?_
                repeat refine gwp_seq ?_
                refine gwp_ret ?_
                repeat (first | refine gthen_ret ?_ | refine gblock_ret ?_ | refine gnoGoto_ret ?_)
                refine fin_ret ?_
                refine fp (hR := ?_)
                rfl
end Go.Proofs.Ytedihdnkalmoiaa

/- The statement TwiceEqual, for every input: the law returns true, and its arguments read as they did.  -/
namespace Go.Proofs.Ytedihdnkalmoiaa
open Go.Gh Go.ChangeShapes Go.WideShapes Go.ChangeAt Go.RowKit
set_option maxRecDepth 100000
theorem aj_equal : ∀ ps, FitAs [(true, shSS)] ps → PSpec Try.prog 6 ps (.ok (.bool true)) := fun ps h => by
  simp only [FitAs] at h
  obtain ⟨_, _, rfl, q0, rfl⟩ := h
  obtain ⟨s, rfl, hi1, hi2, hi3, hi4, hi5⟩ := sh_of q0
  exact l_equal s
theorem equal_lifted (os : Os) (started : os.Started) (H : Type) (enc : TypeId × Value → H) :
    ReturnsInHanded {} Try.checked os 6 .any (Rows.twiceEqualSpec.pre6 enc Try.prog Try.f6 Rows.twiceEqualRow.domain false) (Rows.twiceEqualSpec.post enc Try.prog Try.f6 false true false false) := by
  refine returnsInHanded_of_change (C := Try.checked) own started (by kernel_rfl) Try.func6
    (ChangeSpec.witness6 (enc := enc) (C := Try.checked) false ⟨#[], #[.agg #[.int .i64 0, .slice none 0 0, .int .i64 0, .int .i64 0, .slice none 0 0]], []⟩ 8 (by kernel_rfl) (by kernel_rfl) (by kernel_rfl) (by kernel_rfl)) ?_
  intro W base args ds gs before hval hW _ _
  exact law_post (n := 9) (ss := [(true, shSS)]) (b := 4) laidOut (by kernel_rfl) (by kernel_rfl) (by kernel_rfl) (by kernel_rfl) rfl
    (fun ds hd => by
      have hd' : ds.length = 1 := hd
      match ds, hd' with
      | [a], _ => rfl) aj_equal hval hW
theorem equal_holds : Rows.TwiceEqualSaid :=
  OpenClaim.holds_of_wide 6 Try.f6 rfl rfl rfl rfl rfl rfl rfl ⟨rfl, rfl, rfl, rfl, rfl⟩ rfl rfl rfl rfl rfl (by kernel_rfl) Try.func6 (by kernel_rfl)
    (of_decide_eq_true (by kernel_rfl)) (by unfold Func.isWrapper; first | (rw [if_pos (by decide +kernel)]; kernel_rfl) | (rw [if_neg (by decide +kernel)]; exact ⟨rfl, rfl⟩))
    (fun os started H enc _ => equal_lifted os started H enc)
end Go.Proofs.Ytedihdnkalmoiaa
