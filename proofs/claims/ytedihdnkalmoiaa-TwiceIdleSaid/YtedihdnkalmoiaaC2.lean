/- The statement TwiceIdleSaid: the call returns true for every input, and its arguments read as before; no condition. -/
import Derived.Test.YtedihdnkalmoiaaC1
set_option linter.unusedVariables false
set_option linter.unusedSimpArgs false
/- The statement TwiceIdle: the walk. -/
namespace Go.Proofs.Ytedihdnkalmoiaa
open Go.Gh
set_option maxRecDepth 100000
set_option maxHeartbeats 4000000
theorem ent9 : Enters Try.prog 9 := Enters.mk Try.func9 (by kernel_rfl) rfl
theorem c_idle_add (s : Sh) (x : Nt) (hv : (addN s (revN x)).valid = true) : PSpec Try.prog 22 [.agg [.int .i64 s.num, .list (s.sizes.map (.int .i64)), .int .i64 s.lo, .int .i64 s.hi, .list (s.notes.map pn ++ [.agg [.int .i64 x.b, .int .i64 x.a, .bool x.s]])]] (.ok (.tuple [.int .i64 (idleA (addN s (revN x))), .int .i64 (errA (addN s (revN x)))])) := by
  have h := c_idle (addN s (revN x)) hv
  simp only [addN, revN, List.map_append, List.map_cons, List.map_nil] at h
  exact h
theorem count_cases (s : Sh) : (decide (errA s = 0) = false ∧ decide (0 < ((wA s).length : Int)) = false) ∨ (decide (errA s = 0) = true ∧ decide (0 < ((wA s).length : Int)) = true) := by
  by_cases h : wA s = []
  · left; rw [errA_no h, h]; exact ⟨rfl, rfl⟩
  · right
    have := List.length_pos_iff.2 h
    rw [errA_ok h]; exact ⟨rfl, decide_eq_true (by omega)⟩
theorem err_cases2 (s : Sh) : errA s = 0 ∨ (errA s = 10 ∧ wA s = []) := by
  by_cases h : wA s = []
  · exact .inr ⟨errA_no h, h⟩
  · exact .inl (errA_ok h)
theorem idleA_no {s : Sh} (h : wA s = []) : idleA s = 0 := if_pos h
theorem heavy_more {s : Sh} {n m : Int} (h : heavyB s n m = false) (hv : s.valid = true) : s.num ≤ n ∧ (s.notes.length : Int) ≤ m := by
  simp only [heavyB, hv, Bool.or_eq_false_iff, Bool.true_and, decide_eq_false_iff_not] at h
  omega
theorem num_pos {s : Sh} (hv : s.valid = true) (h : 0 < s.notes.length) : 0 < s.num := by
  obtain ⟨x, hx⟩ : ∃ x, s.notes[0]? = some x := ⟨_, List.getElem?_eq_getElem h⟩
  have := valid_note hv hx
  have := valid_num hv
  omega
theorem tm1 (a b : Nat) : (a : Int).tmod (b : Int) = ((a % b : Nat) : Int) := (Int.ofNat_tmod a b).symm
theorem l_idle (s : Sh) (wh a b : Nat) (hwh : wh ≤ 255) (ha : a ≤ 255) (hb : b ≤ 255) : PSpec Try.prog 9 [.agg [.int .i64 s.num, .list (s.sizes.map (.int .i64)), .int .i64 s.lo, .int .i64 s.hi, .list (s.notes.map pn)], .int .u8 (wh : Nat), .int .u8 (a : Nat), .int .u8 (b : Nat)] (.ok (.bool true)) := by
  refine pspec_of Try.func9 (rfl : Try.f9.body = some _) rfl ?_
  intro E A C hN hL
  replace hN : C.N = 210 := hN
  simp only [Gh.num, List.map_cons, List.map_nil, Nat.reduceAdd]
  have hgs := geq_span
  have hdt : ∀ (i : Decidable True), @decide True i = true := fun i => decide_eq_true trivial
  have hdf : ∀ (i : Decidable False), @decide False i = false := fun i => decide_eq_false id
  have hpn : ∀ n : Nt, pn n = P.agg [.int .i64 n.a, .int .i64 n.b, .bool n.s] := fun _ => rfl
  have hbt : (true == true) = true := rfl
  have hbf : (false == false) = true := rfl
  have htf : (true == false) = false := rfl
  have hft : (false == true) = false := rfl
  have h10 : ¬ (1 : Int) = 0 := by decide
  have h01 : ¬ (0 : Int) = 1 := by decide
  repeat refine gwp_seq ?_
  refine gwp_region ?_
  refine n1 140 false (hc := by (first | exact True.intro | omega | with_reducible exact ⟨by omega, by omega, by assumption⟩ | with_reducible exact ⟨trivial, by omega, by omega, by assumption⟩ | (simp only [inI]; omega) | (simp [P.size, nt, wP, pn, all_int, allOne_p, goods_p, allOne, goods, good, G.one, P.one, P.cells] <;> first | omega | assumption | simp_all))) (k := ?_)
  refine v0 (k := ?_)
  refine nil0 ?_
  refine cl [1, 2, 3, 4] (k := ?_)
  repeat refine gwp_seq ?_
  refine gwp_region ?_
  refine v0 (k := ?_)
  refine pc0 (spec := l_heavy s 7 11) (hent := ent12) (k := ?_)
  refine v0 (k := ?_)
  refine b0 (k1 := fun hb1 => ?_) (k0 := fun hb1 => ?_)
  · try simp only [decide_eq_true_eq, decide_eq_false_iff_not, Int.not_lt, Int.not_le, Bool.not_eq_eq_eq_not, Bool.not_true, Bool.not_false, Bool.and_eq_true, Bool.and_eq_false_iff, Bool.or_eq_true, Bool.or_eq_false_iff] at hb1
    refine x0 (k := ?_)
    refine x0 (k := ?_)
    refine x0 (k := ?_)
    refine v0 (k := ?_)
    refine v0 (k := ?_)
    refine x0 (k := ?_)
    refine x0 (k := ?_)
    refine x0 (k := ?_)
    refine x0 (k := ?_)
    refine v0 (k := ?_)
    refine nil0 ?_
    repeat refine gwp_seq ?_
    refine cT (k := ?_)
    repeat refine gwp_seq ?_
    refine gwp_region ?_
    refine pc0 (spec := l_awake) (hent := ent13) (k := ?_)
    refine v0 (k := ?_)
    refine nil0 ?_
    repeat refine gwp_seq ?_
    refine gwp_ret ?_
    repeat (first | refine gthen_ret ?_ | refine gblock_ret ?_ | refine gnoGoto_ret ?_)
    refine fin_ret ?_
    refine fp (hR := ?_)
    rfl
  · try simp only [decide_eq_true_eq, decide_eq_false_iff_not, Int.not_lt, Int.not_le, Bool.not_eq_eq_eq_not, Bool.not_true, Bool.not_false, Bool.and_eq_true, Bool.and_eq_false_iff, Bool.or_eq_true, Bool.or_eq_false_iff] at hb1
    refine w0 (k := ?_)
    refine pcw (spec := s_Shelf s (heavy_len hb1).1 (heavy_len hb1).2) (hent := ent33) (k := ?_)
    refine w0 (k := ?_)
    refine v0 (k := ?_)
    refine v0 (k := ?_)
    refine b0 (k1 := fun hb2 => ?_) (k0 := fun hb2 => ?_)
    · try simp only [decide_eq_true_eq, decide_eq_false_iff_not, Int.not_lt, Int.not_le, Bool.not_eq_eq_eq_not, Bool.not_true, Bool.not_false, Bool.and_eq_true, Bool.and_eq_false_iff, Bool.or_eq_true, Bool.or_eq_false_iff] at hb2
      refine x0 (k := ?_)
      refine x0 (k := ?_)
      refine x0 (k := ?_)
      refine x0 (k := ?_)
      refine v0 (k := ?_)
      refine nil0 ?_
      repeat refine gwp_seq ?_
      refine cT (k := ?_)
      repeat refine gwp_seq ?_
      refine gwp_region ?_
      refine pc0 (spec := l_awake) (hent := ent13) (k := ?_)
      refine v0 (k := ?_)
      refine nil0 ?_
      repeat refine gwp_seq ?_
      refine gwp_ret ?_
      repeat (first | refine gthen_ret ?_ | refine gblock_ret ?_ | refine gnoGoto_ret ?_)
      refine fin_ret ?_
      refine fp (hR := ?_)
      rfl
    · try simp only [decide_eq_true_eq, decide_eq_false_iff_not, Int.not_lt, Int.not_le, Bool.not_eq_eq_eq_not, Bool.not_true, Bool.not_false, Bool.and_eq_true, Bool.and_eq_false_iff, Bool.or_eq_true, Bool.or_eq_false_iff] at hb2
      refine w0 (k := ?_)
      refine w0 (k := ?_)
      refine w0 (k := ?_)
      refine w0 (k := ?_)
      refine v0 (k := ?_)
      refine nil0 ?_
      repeat refine gwp_seq ?_
      refine cB (k1 := fun hb3 => ?_) (k0 := fun hb3 => ?_)
      · try simp only [decide_eq_true_eq, decide_eq_false_iff_not, Int.not_lt, Int.not_le, Bool.not_eq_eq_eq_not, Bool.not_true, Bool.not_false, Bool.and_eq_true, Bool.and_eq_false_iff, Bool.or_eq_true, Bool.or_eq_false_iff] at hb3
        repeat refine gwp_seq ?_
        refine gwp_region ?_
        refine pc0 (spec := l_awake) (hent := ent13) (k := ?_)
        refine v0 (k := ?_)
        refine nil0 ?_
        repeat refine gwp_seq ?_
        refine gwp_ret ?_
        repeat (first | refine gthen_ret ?_ | refine gblock_ret ?_ | refine gnoGoto_ret ?_)
        refine fin_ret ?_
        refine fp (hR := ?_)
        rfl
      · try simp only [decide_eq_true_eq, decide_eq_false_iff_not, Int.not_lt, Int.not_le, Bool.not_eq_eq_eq_not, Bool.not_true, Bool.not_false, Bool.and_eq_true, Bool.and_eq_false_iff, Bool.or_eq_true, Bool.or_eq_false_iff] at hb3
        repeat refine gwp_seq ?_
        refine gwp_skip ?_
        refine cl [1, 2, 3, 4] (k := ?_)
        repeat refine gwp_seq ?_
        have hn := valid_num hb2
        have hil := idleA_le (s := s)
        have hel := every_lt2 (s := s) (by omega)
        have hhv := heavy_more hb1 hb2
        refine gwp_region ?_
        refine v0 (k := ?_)
        refine pc0 (spec := c_idle s hb2) (hent := ent22) (k := ?_)
        refine v0 (k := ?_)
        refine v0 (k := ?_)
        refine v0 (k := ?_)
        refine v0 (k := ?_)
        refine v0 (k := ?_)
        refine nil0 ?_
        refine cl [1, 2, 3, 4, 9, 10] (k := ?_)
        repeat refine gwp_seq ?_
        refine gwp_region ?_
        refine v0 (k := ?_)
        refine pc0 (spec := c_count s hb2) (hent := ent16) (k := ?_)
        refine v0 (k := ?_)
        refine v0 (k := ?_)
        refine v0 (k := ?_)
        refine v0 (k := ?_)
        refine v0 (k := ?_)
        refine nil0 ?_
        refine cl [1, 2, 3, 4, 9, 10, 11, 12] (k := ?_)
        repeat refine gwp_seq ?_
        refine gwp_cut (l1 := ?_) (m1 := ?_) ?_ ?_
        rotate_left 2
        · rcases count_cases s with ⟨hq1, hq2⟩ | ⟨hq1, hq2⟩
          · refine gwp_region ?_
            refine v0 (k := ?_)
            refine v0 (k := ?_)
            refine rb 52 false (h := by (first | with_reducible rfl | with_reducible assumption | with_reducible exact decide_eq_false (by omega) | with_reducible exact decide_eq_true (by omega) | with_reducible exact nd_f (by omega) | with_reducible exact nd_t (by omega) | (simp only [*]; done) | (simp [*]; done))) (k := ?_)
            refine v0 (k := ?_)
            refine w0 (k := ?_)
            refine w0 (k := ?_)
            refine w0 (k := ?_)
            refine w0 (k := ?_)
            refine w0 (k := ?_)
            refine rb 58 false (h := by (first | with_reducible rfl | with_reducible assumption | with_reducible exact decide_eq_false (by omega) | with_reducible exact decide_eq_true (by omega) | with_reducible exact nd_f (by omega) | with_reducible exact nd_t (by omega) | (simp only [*]; done) | (simp [*]; done))) (k := ?_)
            refine v0 (k := ?_)
            refine nil0 ?_
            refine lcut [1, 2, 3, 4, 9, 10, 11, 59]
          · refine gwp_region ?_
            refine v0 (k := ?_)
            refine v0 (k := ?_)
            refine rb 52 false (h := by (first | with_reducible rfl | with_reducible assumption | with_reducible exact decide_eq_false (by omega) | with_reducible exact decide_eq_true (by omega) | with_reducible exact nd_f (by omega) | with_reducible exact nd_t (by omega) | (simp only [*]; done) | (simp [*]; done))) (k := ?_)
            refine v0 (k := ?_)
            refine w0 (k := ?_)
            refine w0 (k := ?_)
            refine w0 (k := ?_)
            refine w0 (k := ?_)
            refine w0 (k := ?_)
            refine rb 58 false (h := by (first | with_reducible rfl | with_reducible assumption | with_reducible exact decide_eq_false (by omega) | with_reducible exact decide_eq_true (by omega) | with_reducible exact nd_f (by omega) | with_reducible exact nd_t (by omega) | (simp only [*]; done) | (simp [*]; done))) (k := ?_)
            refine v0 (k := ?_)
            refine nil0 ?_
            refine lcut [1, 2, 3, 4, 9, 10, 11, 59]
        · repeat refine gwp_seq ?_
          refine cF (k := ?_)
          repeat refine gwp_seq ?_
          refine gwp_skip ?_
          refine cl [1, 2, 3, 4, 9, 10, 11] (k := ?_)
          repeat refine gwp_seq ?_
          refine gwp_region ?_
          refine v0 (k := ?_)
          refine v0 (k := ?_)
          refine nil0 ?_
          repeat refine gwp_seq ?_
          refine cB (k1 := fun hb4 => ?_) (k0 := fun hb4 => ?_)
          · try simp only [decide_eq_true_eq, decide_eq_false_iff_not, Int.not_lt, Int.not_le, Bool.not_eq_eq_eq_not, Bool.not_true, Bool.not_false, Bool.and_eq_true, Bool.and_eq_false_iff, Bool.or_eq_true, Bool.or_eq_false_iff] at hb4
            repeat refine gwp_seq ?_
            obtain ⟨he10, hnil⟩ := (err_cases2 s).resolve_left (by omega)
            have hz := idleA_no hnil
            refine gwp_region ?_
            refine v0 (k := ?_)
            refine v0 (k := ?_)
            refine rb 63 true (h := by (first | with_reducible rfl | with_reducible assumption | with_reducible exact decide_eq_false (by omega) | with_reducible exact decide_eq_true (by omega) | with_reducible exact nd_f (by omega) | with_reducible exact nd_t (by omega) | (simp only [*]; done) | (simp [*]; done))) (k := ?_)
            refine v0 (k := ?_)
            refine w0 (k := ?_)
            refine w0 (k := ?_)
            refine rb 66 true (h := by (first | with_reducible rfl | with_reducible assumption | with_reducible exact decide_eq_false (by omega) | with_reducible exact decide_eq_true (by omega) | with_reducible exact nd_f (by omega) | with_reducible exact nd_t (by omega) | (simp only [*]; done) | (simp [*]; done))) (k := ?_)
            refine v0 (k := ?_)
            refine v0 (k := ?_)
            refine pcw (spec := l_awake) (hent := ent13) (k := ?_)
            refine v0 (k := ?_)
            refine v0 (k := ?_)
            refine nil0 ?_
            repeat refine gwp_seq ?_
            refine gwp_ret ?_
            repeat (first | refine gthen_ret ?_ | refine gblock_ret ?_ | refine gnoGoto_ret ?_)
            refine fin_ret ?_
            refine fp (hR := ?_)
            rfl
          · try simp only [decide_eq_true_eq, decide_eq_false_iff_not, Int.not_lt, Int.not_le, Bool.not_eq_eq_eq_not, Bool.not_true, Bool.not_false, Bool.and_eq_true, Bool.and_eq_false_iff, Bool.or_eq_true, Bool.or_eq_false_iff] at hb4
            repeat refine gwp_seq ?_
            refine gwp_skip ?_
            refine cl [1, 2, 3, 4, 9, 11] (k := ?_)
            repeat refine gwp_seq ?_
            have hne : wA s ≠ [] := fun e => by have := errA_no e; omega
            obtain ⟨k, hk⟩ : ∃ q, wh % s.notes.length = q := ⟨_, rfl⟩
            have hkl : k < s.notes.length := hk ▸ Nat.mod_lt wh (by omega)
            have hm1 := tm1 wh s.notes.length
            rw [hk] at hm1
            refine gwp_region ?_
            refine v0 (k := ?_)
            refine v1 (hc := by (first | exact True.intro | omega | with_reducible exact ⟨by omega, by omega, by assumption⟩ | with_reducible exact ⟨trivial, by omega, by omega, by assumption⟩ | (simp only [inI]; omega) | (simp [P.size, nt, wP, pn, all_int, allOne_p, goods_p, allOne, goods, good, G.one, P.one, P.cells] <;> first | omega | assumption | simp_all))) (k := ?_)
            refine v0 (k := ?_)
            refine v0 (k := ?_)
            refine v0 (k := ?_)
            refine v1 (hc := by (first | exact True.intro | omega | with_reducible exact ⟨by omega, by omega, by assumption⟩ | with_reducible exact ⟨trivial, by omega, by omega, by assumption⟩ | (simp only [inI]; omega) | (simp [P.size, nt, wP, pn, all_int, allOne_p, goods_p, allOne, goods, good, G.one, P.one, P.cells] <;> first | omega | assumption | simp_all))) (k := ?_)
            refine v0 (k := ?_)
            refine nil0 ?_
            refine cl [2, 3, 4, 9, 11, 13] (k := ?_)
            repeat refine gwp_seq ?_
            refine gwp_region ?_
            refine v0 (k := ?_)
            refine pc0 (spec := s_NotesE s hb2) (hent := ent34) (k := ?_)
            refine v0 (k := ?_)
            refine nil0 ?_
            refine cl [2, 3, 4, 9, 11, 13, 14] (k := ?_)
            repeat refine gwp_seq ?_
            have hsh := shl_i64 (n := k) (by omega)
            have hpk := pow_le_every (s := s) (k := k) (by omega)
            have han := bitop_andNot_i64 (everyN s) (2 ^ k) (by omega) (by omega)
            have hle := lessS_le (everyN s) (2 ^ k)
            refine rd ?_
            refine d0 0 (k := ?_)
            refine d0 1 (k := ?_)
            refine d0 2 (k := ?_)
            refine d1 3 (hc := by (first | exact True.intro | omega | with_reducible exact ⟨by omega, by omega, by assumption⟩ | with_reducible exact ⟨trivial, by omega, by omega, by assumption⟩ | (simp only [inI]; omega) | (simp [P.size, nt, wP, pn, all_int, allOne_p, goods_p, allOne, goods, good, G.one, P.one, P.cells] <;> first | omega | assumption | simp_all))) (k := ?_)
            refine d0 4 (k := ?_)
            refine dpc0 5 (spec := s_part s (lessS (everyN s) (2 ^ k)) (by omega) (by omega)) (hent := ent37) (k := ?_)
            refine dn1 6 250 false (hc := by (first | exact True.intro | omega | with_reducible exact ⟨by omega, by omega, by assumption⟩ | with_reducible exact ⟨trivial, by omega, by omega, by assumption⟩ | (simp only [inI]; omega) | (simp [P.size, nt, wP, pn, all_int, allOne_p, goods_p, allOne, goods, good, G.one, P.one, P.cells] <;> first | omega | assumption | simp_all))) (k := ?_)
            refine ds1 7 (hc := by (first | exact True.intro | omega | with_reducible exact ⟨by omega, by omega, by assumption⟩ | with_reducible exact ⟨trivial, by omega, by omega, by assumption⟩ | (simp only [inI]; omega) | (simp [P.size, nt, wP, pn, all_int, allOne_p, goods_p, allOne, goods, good, G.one, P.one, P.cells] <;> first | omega | assumption | simp_all))) (k := ?_)
            refine dz 8 [0, 0, 0, 4, 14, 31, 0, 127] (h := ?_)
            refine de 8 (h := ?_)
            refine cl [2, 3, 4, 9, 11, 13, 14, 15] (k := ?_)
            repeat refine gwp_seq ?_
            refine gwp_region ?_
            refine v0 (k := ?_)
            refine pc0 (spec := c_count (partS s (lessS (everyN s) (2 ^ k))) (valid_part hb2 _)) (hent := ent16) (k := ?_)
            refine v0 (k := ?_)
            refine v0 (k := ?_)
            refine v0 (k := ?_)
            refine v0 (k := ?_)
            refine v0 (k := ?_)
            refine nil0 ?_
            refine cl [2, 3, 4, 9, 11, 13, 14, 15, 16, 17] (k := ?_)
            repeat refine gwp_seq ?_
            refine gwp_cut (l1 := ?_) (m1 := ?_) ?_ ?_
            rotate_left 2
            · have hw1 := less_ways (s := s) (k := k)
              have hw2 := wA_part s (lessS (everyN s) (2 ^ k))
              rw [less_every (by omega) hpk] at hw2
              have hw3 : ((wA s).length : Int) ≤ ((wA (partS s (lessS (everyN s) (2 ^ k)))).length : Int) := by rw [less_every (by omega) hpk, hw2]; exact_mod_cast hw1
              have hmn : decide (((wA (partS s (lessS (everyN s) (2 ^ k)))).length : Int) = ((wA s).length : Int)) = (idleA s).testBit k := by rw [idleA_bit hne (by omega), less_every (by omega) hpk, hw2]; exact decide_eq_decide.2 (by omega)
              have hbi := bit_i64 (idleA s) k (by omega) (by omega)
              have hbn := bit_toNat ((idleA s).testBit k)
              have hbb : ((idleA s).testBit k == (idleA s).testBit k) = true := by simp
              · refine gwp_region ?_
                refine v0 (k := ?_)
                refine v0 (k := ?_)
                refine rb 91 false (h := by (first | with_reducible rfl | with_reducible assumption | with_reducible exact decide_eq_false (by omega) | with_reducible exact decide_eq_true (by omega) | with_reducible exact nd_f (by omega) | with_reducible exact nd_t (by omega) | (simp only [*]; done) | (simp [*]; done))) (k := ?_)
                refine v0 (k := ?_)
                refine w0 (k := ?_)
                refine w0 (k := ?_)
                refine w0 (k := ?_)
                refine rb 95 false (h := by (first | with_reducible rfl | with_reducible assumption | with_reducible exact decide_eq_false (by omega) | with_reducible exact decide_eq_true (by omega) | with_reducible exact nd_f (by omega) | with_reducible exact nd_t (by omega) | (simp only [*]; done) | (simp [*]; done))) (k := ?_)
                refine v0 (k := ?_)
                refine v0 (k := ?_)
                refine w0 (k := ?_)
                refine w0 (k := ?_)
                refine rb 99 false (h := by (first | with_reducible rfl | with_reducible assumption | with_reducible exact decide_eq_false (by omega) | with_reducible exact decide_eq_true (by omega) | with_reducible exact nd_f (by omega) | with_reducible exact nd_t (by omega) | (simp only [*]; done) | (simp [*]; done))) (k := ?_)
                refine v0 (k := ?_)
                refine v0 (k := ?_)
                refine w0 (k := ?_)
                refine w0 (k := ?_)
                refine w0 (k := ?_)
                refine rb 104 false (h := by (first | with_reducible rfl | with_reducible assumption | with_reducible exact decide_eq_false (by omega) | with_reducible exact decide_eq_true (by omega) | with_reducible exact nd_f (by omega) | with_reducible exact nd_t (by omega) | (simp only [*]; done) | (simp [*]; done))) (k := ?_)
                refine v0 (k := ?_)
                refine v0 (k := ?_)
                refine w0 (k := ?_)
                refine w0 (k := ?_)
                refine w0 (k := ?_)
                refine w0 (k := ?_)
                refine w0 (k := ?_)
                refine w1 (hc := by (first | exact True.intro | omega | with_reducible exact ⟨by omega, by omega, by assumption⟩ | with_reducible exact ⟨trivial, by omega, by omega, by assumption⟩ | (simp only [inI]; omega) | (simp [P.size, nt, wP, pn, all_int, allOne_p, goods_p, allOne, goods, good, G.one, P.one, P.cells] <;> first | omega | assumption | simp_all))) (k := ?_)
                refine w0 (k := ?_)
                refine w0 (k := ?_)
                refine w0 (k := ?_)
                refine rb 115 false (h := by (first | with_reducible rfl | with_reducible assumption | with_reducible exact decide_eq_false (by omega) | with_reducible exact decide_eq_true (by omega) | with_reducible exact nd_f (by omega) | with_reducible exact nd_t (by omega) | (simp only [*]; done) | (simp [*]; done))) (k := ?_)
                refine v0 (k := ?_)
                refine nil0 ?_
                refine lcut [2, 3, 4, 11, 13, 15, 16, 116]
            · repeat refine gwp_seq ?_
              refine cF (k := ?_)
              repeat refine gwp_seq ?_
              refine gwp_skip ?_
              refine cl [2, 3, 4, 11, 13, 15, 16] (k := ?_)
              repeat refine gwp_seq ?_
              refine gwp_region ?_
              refine v0 (k := ?_)
              refine n1 280 false (hc := by (first | exact True.intro | omega | with_reducible exact ⟨by omega, by omega, by assumption⟩ | with_reducible exact ⟨trivial, by omega, by omega, by assumption⟩ | (simp only [inI]; omega) | (simp [P.size, nt, wP, pn, all_int, allOne_p, goods_p, allOne, goods, good, G.one, P.one, P.cells] <;> first | omega | assumption | simp_all))) (k := ?_)
              refine s1 (hc := by (first | exact True.intro | omega | with_reducible exact ⟨by omega, by omega, by assumption⟩ | with_reducible exact ⟨trivial, by omega, by omega, by assumption⟩ | (simp only [inI]; omega) | (simp [P.size, nt, wP, pn, all_int, allOne_p, goods_p, allOne, goods, good, G.one, P.one, P.cells] <;> first | omega | assumption | simp_all))) (k := ?_)
              refine nil0 ?_
              refine cl [2, 3, 4, 11, 13, 15, 16, 18] (k := ?_)
              repeat refine gwp_seq ?_
              obtain ⟨x, hx⟩ := getE (l := s.notes) (k := k) (by omega)
              have hxv := okN_of hb2 hx
              have hvx := valid_add hb2 (x := revN x) (by omega) (okN_rev hxv)
              refine rd ?_
              refine dn1 0 1280 false (hc := by (first | exact True.intro | omega | with_reducible exact ⟨by omega, by omega, by assumption⟩ | with_reducible exact ⟨trivial, by omega, by omega, by assumption⟩ | (simp only [inI]; omega) | (simp [P.size, nt, wP, pn, all_int, allOne_p, goods_p, allOne, goods, good, G.one, P.one, P.cells] <;> first | omega | assumption | simp_all))) (k := ?_)
              refine d0 1 (k := ?_)
              refine d0 2 (k := ?_)
              refine dn1 3 1310 false (hc := by (first | exact True.intro | omega | with_reducible exact ⟨by omega, by omega, by assumption⟩ | with_reducible exact ⟨trivial, by omega, by omega, by assumption⟩ | (simp only [inI]; omega) | (simp [P.size, nt, wP, pn, all_int, allOne_p, goods_p, allOne, goods, good, G.one, P.one, P.cells] <;> first | omega | assumption | simp_all))) (k := ?_)
              refine d0 4 (k := ?_)
              refine d0 5 (k := ?_)
              refine d0 6 (k := ?_)
              refine d1 7 (hc := by (first | exact True.intro | omega | with_reducible exact ⟨by omega, by omega, by assumption⟩ | with_reducible exact ⟨trivial, by omega, by omega, by assumption⟩ | (simp only [inI]; omega) | (simp [P.size, nt, wP, pn, all_int, allOne_p, goods_p, allOne, goods, good, G.one, P.one, P.cells] <;> first | omega | assumption | simp_all))) (k := ?_)
              refine d0 8 (k := ?_)
              refine d0 9 (k := ?_)
              refine d0 10 (k := ?_)
              refine d0 11 (k := ?_)
              refine d0 12 (k := ?_)
              refine d1 13 (hc := by (first | exact True.intro | omega | with_reducible exact ⟨by omega, by omega, by assumption⟩ | with_reducible exact ⟨trivial, by omega, by omega, by assumption⟩ | (simp only [inI]; omega) | (simp [P.size, nt, wP, pn, all_int, allOne_p, goods_p, allOne, goods, good, G.one, P.one, P.cells] <;> first | omega | assumption | simp_all))) (k := ?_)
              refine d0 14 (k := ?_)
              refine d0 15 (k := ?_)
              refine d0 16 (k := ?_)
              refine d0 17 (k := ?_)
              refine d0 18 (k := ?_)
              refine d1 19 (hc := by (first | exact True.intro | omega | with_reducible exact ⟨by omega, by omega, by assumption⟩ | with_reducible exact ⟨trivial, by omega, by omega, by assumption⟩ | (simp only [inI]; omega) | (simp [P.size, nt, wP, pn, all_int, allOne_p, goods_p, allOne, goods, good, G.one, P.one, P.cells] <;> first | omega | assumption | simp_all))) (k := ?_)
              refine d0 20 (k := ?_)
              refine d0 21 (k := ?_)
              refine d0 22 (k := ?_)
              refine dn1 23 1510 false (hc := by (first | exact True.intro | omega | with_reducible exact ⟨by omega, by omega, by assumption⟩ | with_reducible exact ⟨trivial, by omega, by omega, by assumption⟩ | (simp only [inI]; omega) | (simp [P.size, nt, wP, pn, all_int, allOne_p, goods_p, allOne, goods, good, G.one, P.one, P.cells] <;> first | omega | assumption | simp_all))) (k := ?_)
              refine dn1 24 1520 false (hc := by (first | exact True.intro | omega | with_reducible exact ⟨by omega, by omega, by assumption⟩ | with_reducible exact ⟨trivial, by omega, by omega, by assumption⟩ | (simp only [inI]; omega) | (simp [P.size, nt, wP, pn, all_int, allOne_p, goods_p, allOne, goods, good, G.one, P.one, P.cells] <;> first | omega | assumption | simp_all))) (k := ?_)
              refine d0 25 (k := ?_)
              refine ds1 26 (hc := by (first | exact True.intro | omega | with_reducible exact ⟨by omega, by omega, by assumption⟩ | with_reducible exact ⟨trivial, by omega, by omega, by assumption⟩ | (simp only [inI]; omega) | (simp [P.size, nt, wP, pn, all_int, allOne_p, goods_p, allOne, goods, good, G.one, P.one, P.cells] <;> first | omega | assumption | simp_all))) (k := ?_)
              refine dz 27 [0, 0, 2, 7, 0, 16, 0, 112, 240, 496, 0, 1024, 0, 7168, 15360, 31744, 0, 65536, 0, 458752, 983040, 2031616, 4194288, 8388592, 16777215, 33554431, 67108863] (h := ?_)
              refine de 27 (h := ?_)
              refine cl [2, 3, 4, 11, 13, 15, 16, 18] (k := ?_)
              repeat refine gwp_seq ?_
              refine gwp_region ?_
              refine v0 (k := ?_)
              refine pc0 (spec := c_idle_add s x hvx) (hent := ent22) (k := ?_)
              refine v0 (k := ?_)
              refine v0 (k := ?_)
              refine v0 (k := ?_)
              refine v0 (k := ?_)
              refine v0 (k := ?_)
              refine nil0 ?_
              refine cl [2, 3, 4, 11, 13, 15, 16, 19, 20] (k := ?_)
              repeat refine gwp_seq ?_
              have hex : errA (addN s (revN x)) = 0 := errA_ok (by rw [wA_twice hx]; exact hne)
              have hle2 := idleA_le (s := addN s (revN x))
              have hlx : (addN s (revN x)).notes.length = s.notes.length + 1 := by simp [addN]
              have hel2 := every_lt2 (s := addN s (revN x)) (by omega)
              refine gwp_cut (l1 := ?_) (m1 := ?_) ?_ ?_
              rotate_left 2
              · have hi1 : bitop .and .i64 ((idleA (addN s (revN x)) : Int).fdiv (2 ^ min k IntKind.i64.bits)) 1 = 1 := by rw [bit_i64 _ k (by omega) (by omega), twice_idle hb2 (by omega) hx (.inl rfl) hne]; rfl
                have hi2 : bitop .and .i64 ((idleA (addN s (revN x)) : Int).fdiv (2 ^ min s.notes.length IntKind.i64.bits)) 1 = 1 := by rw [bit_i64 _ s.notes.length (by omega) (by omega), twice_idle hb2 (by omega) hx (.inr rfl) hne]; rfl
                · refine gwp_region ?_
                  refine v0 (k := ?_)
                  refine v0 (k := ?_)
                  refine rb 150 false (h := by (first | with_reducible rfl | with_reducible assumption | with_reducible exact decide_eq_false (by omega) | with_reducible exact decide_eq_true (by omega) | with_reducible exact nd_f (by omega) | with_reducible exact nd_t (by omega) | (simp only [*]; done) | (simp [*]; done))) (k := ?_)
                  refine v0 (k := ?_)
                  refine w0 (k := ?_)
                  refine w0 (k := ?_)
                  refine w1 (hc := by (first | exact True.intro | omega | with_reducible exact ⟨by omega, by omega, by assumption⟩ | with_reducible exact ⟨trivial, by omega, by omega, by assumption⟩ | (simp only [inI]; omega) | (simp [P.size, nt, wP, pn, all_int, allOne_p, goods_p, allOne, goods, good, G.one, P.one, P.cells] <;> first | omega | assumption | simp_all))) (k := ?_)
                  refine w0 (k := ?_)
                  refine w0 (k := ?_)
                  refine rb 156 false (h := by (first | with_reducible rfl | with_reducible assumption | with_reducible exact decide_eq_false (by omega) | with_reducible exact decide_eq_true (by omega) | with_reducible exact nd_f (by omega) | with_reducible exact nd_t (by omega) | (simp only [*]; done) | (simp [*]; done))) (k := ?_)
                  refine v0 (k := ?_)
                  refine v0 (k := ?_)
                  refine w0 (k := ?_)
                  refine w0 (k := ?_)
                  refine w0 (k := ?_)
                  refine w0 (k := ?_)
                  refine w1 (hc := by (first | exact True.intro | omega | with_reducible exact ⟨by omega, by omega, by assumption⟩ | with_reducible exact ⟨trivial, by omega, by omega, by assumption⟩ | (simp only [inI]; omega) | (simp [P.size, nt, wP, pn, all_int, allOne_p, goods_p, allOne, goods, good, G.one, P.one, P.cells] <;> first | omega | assumption | simp_all))) (k := ?_)
                  refine w0 (k := ?_)
                  refine w0 (k := ?_)
                  refine rb 165 false (h := by (first | with_reducible rfl | with_reducible assumption | with_reducible exact decide_eq_false (by omega) | with_reducible exact decide_eq_true (by omega) | with_reducible exact nd_f (by omega) | with_reducible exact nd_t (by omega) | (simp only [*]; done) | (simp [*]; done))) (k := ?_)
                  refine v0 (k := ?_)
                  refine nil0 ?_
                  refine lcut [2, 3, 4, 11, 15, 16, 166]
              · repeat refine gwp_seq ?_
                refine cF (k := ?_)
                repeat refine gwp_seq ?_
                refine gwp_skip ?_
                refine cl [2, 3, 4, 11, 15, 16] (k := ?_)
                repeat refine gwp_seq ?_
                refine gwp_region ?_
                refine v0 (k := ?_)
                refine v0 (k := ?_)
                refine v0 (k := ?_)
                refine nil0 ?_
                repeat refine gwp_seq ?_
                refine cB (k1 := fun hb5 => ?_) (k0 := fun hb5 => ?_)
                · try simp only [decide_eq_true_eq, decide_eq_false_iff_not, Int.not_lt, Int.not_le, Bool.not_eq_eq_eq_not, Bool.not_true, Bool.not_false, Bool.and_eq_true, Bool.and_eq_false_iff, Bool.or_eq_true, Bool.or_eq_false_iff] at hb5
                  repeat refine gwp_seq ?_
                  refine gwp_region ?_
                  refine pc0 (spec := l_awake) (hent := ent13) (k := ?_)
                  refine v0 (k := ?_)
                  refine nil0 ?_
                  repeat refine gwp_seq ?_
                  refine gwp_ret ?_
                  repeat (first | refine gthen_ret ?_ | refine gblock_ret ?_ | refine gnoGoto_ret ?_)
                  refine fin_ret ?_
                  refine fp (hR := ?_)
                  rfl
                · try simp only [decide_eq_true_eq, decide_eq_false_iff_not, Int.not_lt, Int.not_le, Bool.not_eq_eq_eq_not, Bool.not_true, Bool.not_false, Bool.and_eq_true, Bool.and_eq_false_iff, Bool.or_eq_true, Bool.or_eq_false_iff] at hb5
                  repeat refine gwp_seq ?_
                  refine gwp_skip ?_
                  refine cl [2, 3, 4, 15] (k := ?_)
                  repeat refine gwp_seq ?_
                  have hmq : ((wA (partS s (lessS (everyN s) (2 ^ k)))).length : Int) = ((wA s).length : Int) := by omega
                  have hws : wA (partS s (lessS (everyN s) (2 ^ k))) = wA s := by rw [wA_part, less_every (by omega) hpk] at hmq ⊢; exact idle_same (by exact_mod_cast hmq)
                  have hnp : 0 < s.num := num_pos hb2 (by omega)
                  obtain ⟨n, hnn⟩ : ∃ n : Nat, s.num = n := ⟨s.num.toNat, by omega⟩
                  obtain ⟨i, hi⟩ : ∃ q, a % n = q := ⟨_, rfl⟩
                  obtain ⟨j, hj⟩ : ∃ q, b % n = q := ⟨_, rfl⟩
                  have hil2 : i < n := hi ▸ Nat.mod_lt a (by omega)
                  have hjl2 : j < n := hj ▸ Nat.mod_lt b (by omega)
                  have hm2 : (a : Int).tmod s.num = i := by rw [hnn, tm1, hi]
                  have hm3 : (b : Int).tmod s.num = j := by rw [hnn, tm1, hj]
                  have hil3 : (i : Int) < s.num := by omega
                  have hjl3 : (j : Int) < s.num := by omega
                  clear hnn
                  refine rd ?_
                  refine d0 0 (k := ?_)
                  refine d1 1 (hc := by (first | exact True.intro | omega | with_reducible exact ⟨by omega, by omega, by assumption⟩ | with_reducible exact ⟨trivial, by omega, by omega, by assumption⟩ | (simp only [inI]; omega) | (simp [P.size, nt, wP, pn, all_int, allOne_p, goods_p, allOne, goods, good, G.one, P.one, P.cells] <;> first | omega | assumption | simp_all))) (k := ?_)
                  refine d0 2 (k := ?_)
                  refine d0 3 (k := ?_)
                  refine d1 4 (hc := by (first | exact True.intro | omega | with_reducible exact ⟨by omega, by omega, by assumption⟩ | with_reducible exact ⟨trivial, by omega, by omega, by assumption⟩ | (simp only [inI]; omega) | (simp [P.size, nt, wP, pn, all_int, allOne_p, goods_p, allOne, goods, good, G.one, P.one, P.cells] <;> first | omega | assumption | simp_all))) (k := ?_)
                  refine d0 5 (k := ?_)
                  refine d1 6 (hc := by (first | exact True.intro | omega | with_reducible exact ⟨by omega, by omega, by assumption⟩ | with_reducible exact ⟨trivial, by omega, by omega, by assumption⟩ | (simp only [inI]; omega) | (simp [P.size, nt, wP, pn, all_int, allOne_p, goods_p, allOne, goods, good, G.one, P.one, P.cells] <;> first | omega | assumption | simp_all))) (k := ?_)
                  refine d0 7 (k := ?_)
                  refine d0 8 (k := ?_)
                  refine d1 9 (hc := by (first | exact True.intro | omega | with_reducible exact ⟨by omega, by omega, by assumption⟩ | with_reducible exact ⟨trivial, by omega, by omega, by assumption⟩ | (simp only [inI]; omega) | (simp [P.size, nt, wP, pn, all_int, allOne_p, goods_p, allOne, goods, good, G.one, P.one, P.cells] <;> first | omega | assumption | simp_all))) (k := ?_)
                  refine d0 10 (k := ?_)
                  refine d0 11 (k := ?_)
                  refine dz 12 [0, 1, 0, 4, 15, 0, 32, 0, 128, 480, 31, 2047] (h := ?_)
                  refine de 12 (h := ?_)
                  refine cl [4, 15, 21, 22] (k := ?_)
                  repeat refine gwp_seq ?_
                  refine gwp_region ?_
                  refine v0 (k := ?_)
                  refine v0 (k := ?_)
                  refine v0 (k := ?_)
                  refine pc0 (spec := c_same s hb2 (a := i) (b := j) (by omega) (by omega)) (hent := ent14) (k := ?_)
                  refine v0 (k := ?_)
                  refine v0 (k := ?_)
                  refine v0 (k := ?_)
                  refine v0 (k := ?_)
                  refine v0 (k := ?_)
                  refine nil0 ?_
                  refine cl [15, 21, 22, 23, 24] (k := ?_)
                  repeat refine gwp_seq ?_
                  refine gwp_region ?_
                  refine v0 (k := ?_)
                  refine v0 (k := ?_)
                  refine v0 (k := ?_)
                  refine pc0 (spec := c_same (partS s (lessS (everyN s) (2 ^ k))) (valid_part hb2 _) (a := i) (b := j) (by simp only [partS]; omega) (by simp only [partS]; omega)) (hent := ent14) (k := ?_)
                  refine v0 (k := ?_)
                  refine v0 (k := ?_)
                  refine v0 (k := ?_)
                  refine v0 (k := ?_)
                  refine v0 (k := ?_)
                  refine nil0 ?_
                  refine cl [23, 24, 25, 26] (k := ?_)
                  repeat refine gwp_seq ?_
                  have hsame : sameA (partS s (lessS (everyN s) (2 ^ k))) i j = sameA s i j := by simp only [sameA, hws]
                  have hers : errA (partS s (lessS (everyN s) (2 ^ k))) = errA s := by simp only [errA, hws]
                  have he0 : errA s = 0 := errA_ok hne
                  refine gwp_region ?_
                  refine v0 (k := ?_)
                  refine v0 (k := ?_)
                  refine v0 (k := ?_)
                  refine rb 197 true (h := by (first | with_reducible rfl | with_reducible assumption | with_reducible exact decide_eq_false (by omega) | with_reducible exact decide_eq_true (by omega) | with_reducible exact nd_f (by omega) | with_reducible exact nd_t (by omega) | (simp only [*]; done) | (simp [*]; done))) (k := ?_)
                  refine v0 (k := ?_)
                  refine w0 (k := ?_)
                  refine w0 (k := ?_)
                  refine w0 (k := ?_)
                  refine rb 201 true (h := by (first | with_reducible rfl | with_reducible assumption | with_reducible exact decide_eq_false (by omega) | with_reducible exact decide_eq_true (by omega) | with_reducible exact nd_f (by omega) | with_reducible exact nd_t (by omega) | (simp only [*]; done) | (simp [*]; done))) (k := ?_)
                  refine v0 (k := ?_)
                  refine v0 (k := ?_)
                  refine w0 (k := ?_)
                  refine w0 (k := ?_)
                  refine rb 205 true (h := by (first | with_reducible rfl | with_reducible assumption | with_reducible exact decide_eq_false (by omega) | with_reducible exact decide_eq_true (by omega) | with_reducible exact nd_f (by omega) | with_reducible exact nd_t (by omega) | (simp only [*]; done) | (simp [*]; done))) (k := ?_)
                  refine v0 (k := ?_)
                  refine v0 (k := ?_)
                  refine pcw (spec := l_awake) (hent := ent13) (k := ?_)
                  refine v0 (k := ?_)
                  refine v0 (k := ?_)
                  refine nil0 ?_
                  repeat refine gwp_seq ?_
                  refine gwp_ret ?_
                  repeat (first | refine gthen_ret ?_ | refine gblock_ret ?_ | refine gnoGoto_ret ?_)
                  refine fin_ret ?_
                  refine fp (hR := ?_)
                  rfl
end Go.Proofs.Ytedihdnkalmoiaa

/- The statement TwiceIdle, for every input: the law returns true, and its arguments read as they did.  -/
namespace Go.Proofs.Ytedihdnkalmoiaa
open Go.Gh Go.ChangeShapes Go.WideShapes Go.ChangeAt Go.RowKit
set_option maxRecDepth 100000
theorem aj_idle : ∀ ps, FitAs [(true, shSS), (false, [.int .u8]), (false, [.int .u8]), (false, [.int .u8])] ps → PSpec Try.prog 9 ps (.ok (.bool true)) := fun ps h => by
  simp only [FitAs] at h
  obtain ⟨_, _, rfl, q0, _, _, rfl, q1, _, _, rfl, q2, _, _, rfl, q3, rfl⟩ := h
  obtain ⟨s, rfl, hi1, hi2, hi3, hi4, hi5⟩ := sh_of q0
  obtain ⟨w, rfl, hw⟩ := u8_of q1
  obtain ⟨a, rfl, ha⟩ := u8_of q2
  obtain ⟨b, rfl, hb⟩ := u8_of q3
  exact l_idle s w a b hw ha hb
theorem idle_lifted (os : Os) (started : os.Started) (H : Type) (enc : TypeId × Value → H) :
    ReturnsInHanded {} Try.checked os 9 .any (Rows.twiceIdleSpec.pre6 enc Try.prog Try.f9 Rows.twiceIdleRow.domain false) (Rows.twiceIdleSpec.post enc Try.prog Try.f9 false true false false) := by
  refine returnsInHanded_of_change (C := Try.checked) own started (by kernel_rfl) Try.func9
    (ChangeSpec.witness6 (enc := enc) (C := Try.checked) false ⟨#[], #[.agg #[.int .i64 0, .slice none 0 0, .int .i64 0, .int .i64 0, .slice none 0 0], .int .u8 0, .int .u8 0, .int .u8 0], []⟩ 8 (by kernel_rfl) (by kernel_rfl) (by kernel_rfl) (by kernel_rfl)) ?_
  intro W base args ds gs before hval hW _ _
  exact law_post (n := 9) (ss := [(true, shSS), (false, [.int .u8]), (false, [.int .u8]), (false, [.int .u8])]) (b := 4) laidOut (by kernel_rfl) (by kernel_rfl) (by kernel_rfl) (by kernel_rfl) rfl
    (fun ds hd => by
      have hd' : ds.length = 4 := hd
      match ds, hd' with
      | [a, b, c, d], _ => rfl) aj_idle hval hW
theorem idle_holds : Rows.TwiceIdleSaid :=
  OpenClaim.holds_of_wide 9 Try.f9 rfl rfl rfl rfl rfl rfl rfl ⟨rfl, rfl, rfl, rfl, rfl⟩ rfl rfl rfl rfl rfl (by kernel_rfl) Try.func9 (by kernel_rfl)
    (of_decide_eq_true (by kernel_rfl)) (by unfold Func.isWrapper; first | (rw [if_pos (by decide +kernel)]; kernel_rfl) | (rw [if_neg (by decide +kernel)]; exact ⟨rfl, rfl⟩))
    (fun os started H enc _ => idle_lifted os started H enc)
end Go.Proofs.Ytedihdnkalmoiaa
