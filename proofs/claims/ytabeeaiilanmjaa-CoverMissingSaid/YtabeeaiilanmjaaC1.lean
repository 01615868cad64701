/- The statement CoverMissing: the call returns true for every input, and its arguments read as before; no condition. -/
import Derived.Test.YtabeeaiilanmjaaB4
set_option linter.unusedVariables false
set_option linter.unusedSimpArgs false
/- The statement CoverReads: what the program says is what the document says. -/
namespace Go.Proofs.Ytabeeaiilanmjaa
open Go.Gh
set_option maxRecDepth 100000
set_option maxHeartbeats 4000000
theorem ent3 : Enters Try.prog 3 := Enters.mk Try.func3 (by kernel_rfl) rfl
theorem l_reads (f : Fd) (s a b : Int) : PSpec Try.prog 3 [.agg [.list (f.ps.map pS), .int .i64 f.el, .int .i64 f.eh, .int .i64 f.nl, .int .i64 f.nh, .int .i64 f.dl, .int .i64 f.dh, .int .i64 f.dep, .int .i64 f.tm, .int .i64 f.gp], .int .i64 s, .int .i64 a, .int .i64 b] (.ok (.bool true)) := by
  refine pspec_of Try.func3 (rfl : Try.f3.body = some _) rfl ?_
  intro E A C hN hL
  replace hN : C.N = 111 := hN
  simp only [Gh.num, List.map_cons, List.map_nil, Nat.reduceAdd]
  have hdt : ∀ (i : Decidable True), @decide True i = true := fun i => decide_eq_true trivial
  have hdf : ∀ (i : Decidable False), @decide False i = false := fun i => decide_eq_false id
  repeat refine gwp_seq ?_
  refine gwp_region ?_
  refine n1 140 false (hc := by (first | exact True.intro | omega | (simp only [inI]; omega) | (simp [P.size, pS, all_int, allOne_p, goods_p, allOne, goods, good, G.one, P.one, P.cells] <;> first | omega | assumption | simp_all))) (k := ?_)
  refine v0 (k := ?_)
  refine nil0 ?_
  refine cl [1, 2, 3, 4] (k := ?_)
  repeat refine gwp_seq ?_
  refine gwp_region ?_
  refine v0 (k := ?_)
  refine pc0 (spec := l_heavy f 8 60) (hent := ent12) (k := ?_)
  refine nil0 ?_
  repeat refine gwp_seq ?_
  refine cB (k1 := fun hb1 => ?_) (k0 := fun hb1 => ?_)
  · replace hb1 := hB.h {} hb1
    repeat refine gwp_seq ?_
    refine gwp_region ?_
    refine pc0 (spec := l_awake) (hent := ent13) (k := ?_)
    refine v0 (k := ?_)
    refine nil0 ?_
    repeat refine gwp_seq ?_
    refine gwp_ret ?_
    repeat (first | refine gthen_ret ?_ | refine gblock_ret ?_ | refine gnoGoto_ret ?_)
    refine fin_ret ?_
    refine fp (hR := ?_)
    rfl
  · replace hb1 := hB.h {} hb1
    repeat refine gwp_seq ?_
    refine gwp_skip ?_
    refine cl [1, 2, 3, 4] (k := ?_)
    repeat refine gwp_seq ?_
    have hl : f.ps.length ≤ 1048576 := by have := hvy_len (by assumption); omega
    refine gwp_region ?_
    refine v0 (k := ?_)
    refine pc0 (spec := c_use f hl) (hent := ent14) (k := ?_)
    refine v0 (k := ?_)
    refine v0 (k := ?_)
    refine v0 (k := ?_)
    refine v0 (k := ?_)
    refine v0 (k := ?_)
    refine nil0 ?_
    refine cl [1, 2, 3, 4, 9, 10] (k := ?_)
    repeat refine gwp_seq ?_
    refine gwp_region ?_
    refine v0 (k := ?_)
    refine pc0 (spec := d_use f hl) (hent := ent15) (k := ?_)
    refine v0 (k := ?_)
    refine v0 (k := ?_)
    refine v0 (k := ?_)
    refine v0 (k := ?_)
    refine v0 (k := ?_)
    refine nil0 ?_
    refine cl [1, 2, 3, 4, 9, 10, 11, 12] (k := ?_)
    repeat refine gwp_seq ?_
    refine gwp_region ?_
    refine v0 (k := ?_)
    refine v0 (k := ?_)
    refine v0 (k := ?_)
    refine v0 (k := ?_)
    refine pc0 (spec := c_srv f hl s a b) (hent := ent16) (k := ?_)
    refine v0 (k := ?_)
    refine v0 (k := ?_)
    refine v0 (k := ?_)
    refine v0 (k := ?_)
    refine v0 (k := ?_)
    refine nil0 ?_
    refine cl [1, 2, 3, 4, 9, 10, 11, 12, 13, 14] (k := ?_)
    repeat refine gwp_seq ?_
    refine gwp_region ?_
    refine v0 (k := ?_)
    refine v0 (k := ?_)
    refine v0 (k := ?_)
    refine v0 (k := ?_)
    refine pc0 (spec := d_srv f hl s a b) (hent := ent17) (k := ?_)
    refine v0 (k := ?_)
    refine v0 (k := ?_)
    refine v0 (k := ?_)
    refine v0 (k := ?_)
    refine v0 (k := ?_)
    refine nil0 ?_
    refine cl [1, 4, 9, 10, 11, 12, 13, 14, 15, 16] (k := ?_)
    repeat refine gwp_seq ?_
    refine gwp_region ?_
    refine v0 (k := ?_)
    refine v0 (k := ?_)
    refine pc0 (spec := c_mis f hl s) (hent := ent18) (k := ?_)
    refine v0 (k := ?_)
    refine v0 (k := ?_)
    refine v0 (k := ?_)
    refine v0 (k := ?_)
    refine v0 (k := ?_)
    refine v0 (k := ?_)
    refine v0 (k := ?_)
    refine v0 (k := ?_)
    refine v0 (k := ?_)
    refine nil0 ?_
    refine cl [1, 4, 9, 10, 11, 12, 13, 14, 15, 16, 17, 18, 19, 20] (k := ?_)
    repeat refine gwp_seq ?_
    refine gwp_region ?_
    refine v0 (k := ?_)
    refine v0 (k := ?_)
    refine pc0 (spec := d_mis f hl s) (hent := ent19) (k := ?_)
    refine v0 (k := ?_)
    refine v0 (k := ?_)
    refine v0 (k := ?_)
    refine v0 (k := ?_)
    refine v0 (k := ?_)
    refine v0 (k := ?_)
    refine v0 (k := ?_)
    refine v0 (k := ?_)
    refine v0 (k := ?_)
    refine nil0 ?_
    refine cl [9, 10, 11, 12, 13, 14, 15, 16, 17, 18, 19, 20, 21, 22, 23, 24] (k := ?_)
    repeat refine gwp_seq ?_
    refine gwp_region ?_
    refine v0 (k := ?_)
    refine v0 (k := ?_)
    refine v0 (k := ?_)
    refine rb 72 true (h := by (first | rfl | decide | simp)) (k := ?_)
    refine v0 (k := ?_)
    refine w0 (k := ?_)
    refine w0 (k := ?_)
    refine w0 (k := ?_)
    refine rb 76 true (h := by (first | rfl | decide | simp)) (k := ?_)
    refine v0 (k := ?_)
    refine v0 (k := ?_)
    refine w0 (k := ?_)
    refine w0 (k := ?_)
    refine w0 (k := ?_)
    refine rb 81 true (h := by (first | rfl | decide | simp)) (k := ?_)
    refine v0 (k := ?_)
    refine v0 (k := ?_)
    refine w0 (k := ?_)
    refine w0 (k := ?_)
    refine w0 (k := ?_)
    refine rb 86 true (h := by (first | rfl | decide | simp)) (k := ?_)
    refine v0 (k := ?_)
    refine v0 (k := ?_)
    refine w0 (k := ?_)
    refine w0 (k := ?_)
    refine w0 (k := ?_)
    refine rb 91 true (h := by (first | rfl | decide | simp)) (k := ?_)
    refine v0 (k := ?_)
    refine v0 (k := ?_)
    refine w0 (k := ?_)
    refine w0 (k := ?_)
    refine w0 (k := ?_)
    refine rb 96 true (h := by (first | rfl | decide | simp)) (k := ?_)
    refine v0 (k := ?_)
    refine v0 (k := ?_)
    refine w0 (k := ?_)
    refine w0 (k := ?_)
    refine w0 (k := ?_)
    refine rb 101 true (h := by (first | rfl | decide | simp)) (k := ?_)
    refine v0 (k := ?_)
    refine v0 (k := ?_)
    refine w0 (k := ?_)
    refine w0 (k := ?_)
    refine w0 (k := ?_)
    refine rb 106 true (h := by (first | rfl | decide | simp)) (k := ?_)
    refine v0 (k := ?_)
    refine v0 (k := ?_)
    refine pcw (spec := l_awake) (hent := ent13) (k := ?_)
    refine rb 109 true (h := by (rfl)) (k := ?_)
    refine v0 (k := ?_)
    refine v0 (k := ?_)
    refine nil0 ?_
    repeat refine gwp_seq ?_
    refine gwp_ret ?_
    repeat (first | refine gthen_ret ?_ | refine gblock_ret ?_ | refine gnoGoto_ret ?_)
    refine fin_ret ?_
    refine fp (hR := ?_)
    rfl
end Go.Proofs.Ytabeeaiilanmjaa

/- The statement CoverMissing: what is missing is not served, all places looked at one by one. -/
namespace Go.Proofs.Ytabeeaiilanmjaa
open Go.Gh
set_option maxRecDepth 100000
set_option maxHeartbeats 4000000
structure kLf1 (c : Prop) : Prop where
  h : c := by (first | exact True.intro | omega | (simp only [inI]; omega) | (simp [P.size, pS, all_int, allOne_p, goods_p, allOne, goods, good, G.one, P.one, P.cells] <;> first | omega | assumption | simp_all))
def misE (f : Fd) (s : Nat) : Int := match misL f s with | [] => 4 | _ :: _ => 0
theorem m_good (f : Fd) (hv : f.valid = true) (n : Nat) (h1 : inB (n : Nat) 0 (allS f.ps.length : Nat) = true) : PSpec Try.prog 18 [.agg [.list (f.ps.map pS), .int .i64 f.el, .int .i64 f.eh, .int .i64 f.nl, .int .i64 f.nh, .int .i64 f.dl, .int .i64 f.dh, .int .i64 f.dep, .int .i64 f.tm, .int .i64 f.gp], .int .i64 (n : Nat)] (.ok (.tuple [.int .i64 (hdL (misL f n)).1, .int .i64 (hdL (misL f n)).2, .int .i64 ((misL f n).length : Nat), .int .i64 (misE f n)])) := by
  rw [misE]
  rcases hm : misL f n with _ | ⟨e, l⟩
  · exact fun E A => p_miss_n f hv n h1 hm
  · have h := fun (E : Env Try.prog) (A : E.α) => p_miss_t (E := E) (A := A) f hv n h1 (by rw [hm]; simp)
    rw [hm] at h
    exact fun E A => h E A
theorem m_bad (f : Fd) (hv : f.valid = true) (s : Int) (h1 : inB s 0 (allS f.ps.length : Nat) = false) : PSpec Try.prog 18 [.agg [.list (f.ps.map pS), .int .i64 f.el, .int .i64 f.eh, .int .i64 f.nl, .int .i64 f.nh, .int .i64 f.dl, .int .i64 f.dh, .int .i64 f.dep, .int .i64 f.tm, .int .i64 f.gp], .int .i64 s] (.ok (.tuple [.int .i64 0, .int .i64 0, .int .i64 0, .int .i64 2])) := fun E A => p_miss_r f hv s h1
theorem m_none (f : Fd) (hl : f.ps.length ≤ 1048576) (hv : f.valid = false) (s : Int) : PSpec Try.prog 18 [.agg [.list (f.ps.map pS), .int .i64 f.el, .int .i64 f.eh, .int .i64 f.nl, .int .i64 f.nh, .int .i64 f.dl, .int .i64 f.dh, .int .i64 f.dep, .int .i64 f.tm, .int .i64 f.gp], .int .i64 s] (.ok (.tuple [.int .i64 0, .int .i64 0, .int .i64 0, .int .i64 1])) := fun E A => p_miss_f f hl hv s
theorem s_good (f : Fd) (hv : f.valid = true) (n : Nat) (a b : Int) (h1 : inB (n : Nat) 0 (allS f.ps.length : Nat) = true) (h2 : f.el ≤ a ∧ a ≤ f.eh) (h3 : f.nl ≤ b ∧ b ≤ f.nh) : PSpec Try.prog 16 [.agg [.list (f.ps.map pS), .int .i64 f.el, .int .i64 f.eh, .int .i64 f.nl, .int .i64 f.nh, .int .i64 f.dl, .int .i64 f.dh, .int .i64 f.dep, .int .i64 f.tm, .int .i64 f.gp], .int .i64 (n : Nat), .int .i64 a, .int .i64 b] (.ok (.tuple [.bool (servQ f (atN f a b &&& n)), .int .i64 0])) :=
  fun E A => p_served_t f hv n a b h1 (by simp only [inB, Bool.and_eq_true, decide_eq_true_eq]; exact h2) (by simp only [inB, Bool.and_eq_true, decide_eq_true_eq]; exact h3)
theorem mis_first {f : Fd} {s i j : Nat} (hi : i < wid f) (hj : j < hgt f) (h : servQ f (atN f (f.el + i) (f.nl + j) &&& s) = false) (h0 : (misC f s i j).length = 0) : (hdL (misL f s)).1 = f.el + i ∧ (hdL (misL f s)).2 = f.nl + j := by
  obtain ⟨t, ht⟩ := cur_pre f hi (show j + 1 ≤ hgt f by omega)
  have h1 : misC f s i (j + 1) = [(f.el + (i : Nat), f.nl + (j : Nat))] := by rw [misC_t h, List.eq_nil_of_length_eq_zero h0]; rfl
  have h2 : misL f s = misC f s i (j + 1) ++ t.filter (misQ f s) := by rw [misL, ht, List.filter_append]; rfl
  rw [h2, h1]
  exact ⟨rfl, rfl⟩
theorem ent6 : Enters Try.prog 6 := Enters.mk Try.func6 (by kernel_rfl) rfl
theorem l_missing (f : Fd) (s : Int) : PSpec Try.prog 6 [.agg [.list (f.ps.map pS), .int .i64 f.el, .int .i64 f.eh, .int .i64 f.nl, .int .i64 f.nh, .int .i64 f.dl, .int .i64 f.dh, .int .i64 f.dep, .int .i64 f.tm, .int .i64 f.gp], .int .i64 s] (.ok (.bool true)) := by
  refine pspec_of Try.func6 (rfl : Try.f6.body = some _) rfl ?_
  intro E A C hN hL
  replace hN : C.N = 137 := hN
  simp only [Gh.num, List.map_cons, List.map_nil, Nat.reduceAdd]
  have hdt : ∀ (i : Decidable True), @decide True i = true := fun i => decide_eq_true trivial
  have hdf : ∀ (i : Decidable False), @decide False i = false := fun i => decide_eq_false id
  have hpS : ∀ p : Sk, pS p = P.agg [.int .i64 p.el, .int .i64 p.eh, .int .i64 p.nl, .int .i64 p.nh, .int .i64 p.day, .int .i64 p.dep] := fun _ => rfl
  repeat refine gwp_seq ?_
  refine gwp_region ?_
  refine n1 120 false (hc := kLf1.h {}) (k := ?_)
  refine v0 (k := ?_)
  refine nil0 ?_
  refine cl [1, 2] (k := ?_)
  repeat refine gwp_seq ?_
  refine gwp_region ?_
  refine v0 (k := ?_)
  refine pc0 (spec := l_heavy f 12 300) (hent := ent12) (k := ?_)
  refine nil0 ?_
  repeat refine gwp_seq ?_
  refine cB (k1 := fun hb1 => ?_) (k0 := fun hb1 => ?_)
  · replace hb1 := hB.h {} hb1
    try rw [eqI] at hb1
    repeat refine gwp_seq ?_
    refine gwp_region ?_
    refine pc0 (spec := l_awake) (hent := ent13) (k := ?_)
    refine v0 (k := ?_)
    refine nil0 ?_
    repeat refine gwp_seq ?_
    refine gwp_ret ?_
    repeat (first | refine gthen_ret ?_ | refine gblock_ret ?_ | refine gnoGoto_ret ?_)
    refine fin_ret ?_
    refine fp (hR := ?_)
    rfl
  · replace hb1 := hB.h {} hb1
    try rw [eqI] at hb1
    repeat refine gwp_seq ?_
    refine gwp_skip ?_
    refine cl [1, 2] (k := ?_)
    repeat refine gwp_seq ?_
    have hl : f.ps.length ≤ 1048576 := by have := hvy_len (by assumption); omega
    rcases (by cases hv : f.valid with | false => exact .inl rfl | true => cases hse : (inB s 0 (allS f.ps.length : Nat)) with | false => exact .inr (.inl ⟨rfl, rfl⟩) | true => exact .inr (.inr ⟨rfl, rfl⟩) : f.valid = false ∨ (f.valid = true ∧ (inB s 0 (allS f.ps.length : Nat)) = false) ∨ (f.valid = true ∧ (inB s 0 (allS f.ps.length : Nat)) = true)) with hv | ⟨hv, hse⟩ | ⟨hv, hse⟩
    · repeat refine gwp_seq ?_
      refine gwp_region ?_
      refine v0 (k := ?_)
      refine v0 (k := ?_)
      refine pc0 (spec := m_none f hl hv s) (hent := ent18) (k := ?_)
      refine v0 (k := ?_)
      refine v0 (k := ?_)
      refine v0 (k := ?_)
      refine v0 (k := ?_)
      refine v0 (k := ?_)
      refine v0 (k := ?_)
      refine v0 (k := ?_)
      refine v0 (k := ?_)
      refine v0 (k := ?_)
      refine nil0 ?_
      refine cl [1, 2, 5, 6, 7, 8] (k := ?_)
      repeat refine gwp_seq ?_
      refine gwp_region ?_
      refine v0 (k := ?_)
      refine pc0 (spec := r_field f hl) (hent := ent29) (k := ?_)
      refine v0 (k := ?_)
      refine rb 27 true (h := by (rfl)) (k := ?_)
      refine v0 (k := ?_)
      refine x0 (k := ?_)
      refine x0 (k := ?_)
      refine x0 (k := ?_)
      refine x0 (k := ?_)
      refine v0 (k := ?_)
      refine nil0 ?_
      repeat refine gwp_seq ?_
      refine cT (k := ?_)
      repeat refine gwp_seq ?_
      refine gwp_region ?_
      refine v0 (k := ?_)
      refine v0 (k := ?_)
      refine rb 35 true (h := by (first | rfl | decide | simp)) (k := ?_)
      refine v0 (k := ?_)
      refine w0 (k := ?_)
      refine w0 (k := ?_)
      refine rb 38 true (h := by (first | rfl | decide | simp)) (k := ?_)
      refine v0 (k := ?_)
      refine v0 (k := ?_)
      refine w0 (k := ?_)
      refine w0 (k := ?_)
      refine rb 42 true (h := by (first | rfl | decide | simp)) (k := ?_)
      refine v0 (k := ?_)
      refine v0 (k := ?_)
      refine w0 (k := ?_)
      refine w0 (k := ?_)
      refine rb 46 true (h := by (first | rfl | decide | simp)) (k := ?_)
      refine w0 (k := ?_)
      refine pcw (spec := r_field f hl) (hent := ent29) (k := ?_)
      refine w0 (k := ?_)
      refine rb 49 true (h := by (rfl)) (k := ?_)
      refine w0 (k := ?_)
      refine rb 50 true (h := by (first | rfl | decide | simp)) (k := ?_)
      refine v0 (k := ?_)
      refine v0 (k := ?_)
      refine w0 (k := ?_)
      refine w0 (k := ?_)
      refine rb 54 true (h := by (first | rfl | decide | simp)) (k := ?_)
      refine w0 (k := ?_)
      refine x0 (k := ?_)
      refine x0 (k := ?_)
      refine w0 (k := ?_)
      refine v0 (k := ?_)
      refine v0 (k := ?_)
      refine pcw (spec := l_awake) (hent := ent13) (k := ?_)
      refine rb 61 true (h := by (rfl)) (k := ?_)
      refine v0 (k := ?_)
      refine v0 (k := ?_)
      refine nil0 ?_
      repeat refine gwp_seq ?_
      refine gwp_ret ?_
      repeat (first | refine gthen_ret ?_ | refine gblock_ret ?_ | refine gnoGoto_ret ?_)
      refine fin_ret ?_
      refine fp (hR := ?_)
      rfl
    · have hn := valid_num hv
      repeat refine gwp_seq ?_
      refine gwp_region ?_
      refine v0 (k := ?_)
      refine v0 (k := ?_)
      refine pc0 (spec := m_bad f hv s hse) (hent := ent18) (k := ?_)
      refine v0 (k := ?_)
      refine v0 (k := ?_)
      refine v0 (k := ?_)
      refine v0 (k := ?_)
      refine v0 (k := ?_)
      refine v0 (k := ?_)
      refine v0 (k := ?_)
      refine v0 (k := ?_)
      refine v0 (k := ?_)
      refine nil0 ?_
      refine cl [1, 2, 5, 6, 7, 8] (k := ?_)
      repeat refine gwp_seq ?_
      refine gwp_region ?_
      refine v0 (k := ?_)
      refine pc0 (spec := r_field f hl) (hent := ent29) (k := ?_)
      refine v0 (k := ?_)
      refine rb 27 false (h := by (rfl)) (k := ?_)
      refine v0 (k := ?_)
      refine w0 (k := ?_)
      refine w0 (k := ?_)
      refine pcw (spec := r_set f (by omega) s) (hent := ent31) (k := ?_)
      refine w0 (k := ?_)
      refine rb 32 true (h := by (rfl)) (k := ?_)
      refine v0 (k := ?_)
      refine nil0 ?_
      repeat refine gwp_seq ?_
      refine cT (k := ?_)
      repeat refine gwp_seq ?_
      refine gwp_region ?_
      refine v0 (k := ?_)
      refine v0 (k := ?_)
      refine rb 35 true (h := by (first | rfl | decide | simp)) (k := ?_)
      refine v0 (k := ?_)
      refine w0 (k := ?_)
      refine w0 (k := ?_)
      refine rb 38 true (h := by (first | rfl | decide | simp)) (k := ?_)
      refine v0 (k := ?_)
      refine v0 (k := ?_)
      refine w0 (k := ?_)
      refine w0 (k := ?_)
      refine rb 42 true (h := by (first | rfl | decide | simp)) (k := ?_)
      refine v0 (k := ?_)
      refine v0 (k := ?_)
      refine w0 (k := ?_)
      refine w0 (k := ?_)
      refine rb 46 false (h := by (first | rfl | decide)) (k := ?_)
      refine w0 (k := ?_)
      refine pcw (spec := r_field f hl) (hent := ent29) (k := ?_)
      refine w0 (k := ?_)
      refine rb 49 false (h := by (rfl)) (k := ?_)
      refine w0 (k := ?_)
      refine rb 50 true (h := by (first | rfl | decide | simp)) (k := ?_)
      refine v0 (k := ?_)
      refine v0 (k := ?_)
      refine w0 (k := ?_)
      refine w0 (k := ?_)
      refine rb 54 false (h := by (first | rfl | decide)) (k := ?_)
      refine w0 (k := ?_)
      refine w0 (k := ?_)
      refine w0 (k := ?_)
      refine rb 57 true (h := by (first | rfl | decide)) (k := ?_)
      refine w0 (k := ?_)
      refine v0 (k := ?_)
      refine v0 (k := ?_)
      refine pcw (spec := l_awake) (hent := ent13) (k := ?_)
      refine rb 61 true (h := by (rfl)) (k := ?_)
      refine v0 (k := ?_)
      refine v0 (k := ?_)
      refine nil0 ?_
      repeat refine gwp_seq ?_
      refine gwp_ret ?_
      repeat (first | refine gthen_ret ?_ | refine gblock_ret ?_ | refine gnoGoto_ret ?_)
      refine fin_ret ?_
      refine fp (hR := ?_)
      rfl
    · have hn := valid_num hv
      have hw : (wid f : Int) = f.eh - f.el + 1 := by simp only [wid]; omega
      have hh : (hgt f : Int) = f.nh - f.nl + 1 := by simp only [hgt]; omega
      have hw1 := Int.le_of_eq hw
      have hw2 := Int.le_of_eq hw.symm
      have hh1 := Int.le_of_eq hh
      have hh2 := Int.le_of_eq hh.symm
      clear hw hh
      obtain ⟨n, rfl⟩ : ∃ n : Nat, s = n := ⟨s.toNat, by simp only [inB, Bool.and_eq_true, decide_eq_true_eq] at hse; omega⟩
      repeat refine gwp_seq ?_
      refine gwp_region ?_
      refine v0 (k := ?_)
      refine v0 (k := ?_)
      refine pc0 (spec := m_good f hv n hse) (hent := ent18) (k := ?_)
      refine v0 (k := ?_)
      refine v0 (k := ?_)
      refine v0 (k := ?_)
      refine v0 (k := ?_)
      refine v0 (k := ?_)
      refine v0 (k := ?_)
      refine v0 (k := ?_)
      refine v0 (k := ?_)
      refine v0 (k := ?_)
      refine nil0 ?_
      refine cl [1, 2, 5, 6, 7, 8] (k := ?_)
      repeat refine gwp_seq ?_
      refine gwp_region ?_
      refine v0 (k := ?_)
      refine pc0 (spec := r_field f hl) (hent := ent29) (k := ?_)
      refine v0 (k := ?_)
      refine rb 27 false (h := by (rfl)) (k := ?_)
      refine v0 (k := ?_)
      refine w0 (k := ?_)
      refine w0 (k := ?_)
      refine pcw (spec := r_set f (by omega) (n : Nat)) (hent := ent31) (k := ?_)
      refine w0 (k := ?_)
      refine rb 32 false (h := by (rfl)) (k := ?_)
      refine v0 (k := ?_)
      refine nil0 ?_
      repeat refine gwp_seq ?_
      refine cF (k := ?_)
      repeat refine gwp_seq ?_
      refine gwp_skip ?_
      refine cl [1, 2, 5, 6, 7, 8] (k := ?_)
      repeat refine gwp_seq ?_
      refine fz 120 10 [.k, .k, .k, .k, .k, .k, .k, .k, .k, .k] (k := ?_)
      refine gwp_region ?_
      refine v0 (k := ?_)
      refine nil0 ?_
      refine cl [1, 2, 5, 6, 7, 8, 9] (k := ?_)
      repeat refine gwp_seq ?_
      refine gwp_region ?_
      refine v0 (k := ?_)
      refine v0 (k := ?_)
      refine v0 (k := ?_)
      refine v0 (k := ?_)
      refine nil0 ?_
      refine cl [1, 2, 5, 6, 7, 8, 9, 10] (k := ?_)
      repeat refine gwp_seq ?_
      refine gwp_block ?_
      repeat refine gwp_seq ?_
      refine gc_loop (fun mz σ => ∃ i : Nat, (i ≤ wid f) ∧ mz = wid f - i ∧ σ = (sg [(1, .p (.int .i64 (n : Nat))), (2, .ref 120 0), (5, .p (.int .i64 (hdL (misL f n)).1)), (6, .p (.int .i64 (hdL (misL f n)).2)), (7, .p (.int .i64 ((misL f n).length : Nat))), (8, .p (.int .i64 (misE f n))), (9, .p (.int .i64 ((misC f n i 0).length : Nat))), (10, .p (.int .i64 (f.el + (i : Nat))))] [(120, .cells [.p (.list (f.ps.map pS)), .p (.int .i64 f.el), .p (.int .i64 f.eh), .p (.int .i64 f.nl), .p (.int .i64 f.nh), .p (.int .i64 f.dl), .p (.int .i64 f.dh), .p (.int .i64 f.dep), .p (.int .i64 f.tm), .p (.int .i64 f.gp)] 10)] A [] : Sg E)) ?_ (fun mz σ hI => ?_)
      · refine lbeg [1, 2, 5, 6, 7, 8, 9, 10] (hV := ?_)
        exact ⟨_, 0, by omega, rfl, sgE (by rw [Int.natCast_zero, Int.add_zero]; rfl) rfl⟩
      obtain ⟨i, hi, hnn, rfl⟩ := hI
      repeat refine gwp_seq ?_
      refine gwp_region ?_
      refine v0 (k := ?_)
      refine v0 (k := ?_)
      refine v0 (k := ?_)
      refine v0 (k := ?_)
      refine v0 (k := ?_)
      refine nil0 ?_
      repeat refine gwp_seq ?_
      refine cB (k1 := fun hb2 => ?_) (k0 := fun hb2 => ?_)
      · replace hb2 := hB.h {} hb2
        try rw [eqI] at hb2
        repeat refine gwp_seq ?_
        refine gwp_skip ?_
        refine cl [1, 2, 5, 6, 7, 8, 9, 10] (k := ?_)
        repeat refine gwp_seq ?_
        refine gwp_block ?_
        repeat refine gwp_seq ?_
        refine gwp_region ?_
        refine v0 (k := ?_)
        refine v0 (k := ?_)
        refine v0 (k := ?_)
        refine v0 (k := ?_)
        refine nil0 ?_
        refine cl [1, 2, 5, 6, 7, 8, 9, 10, 11] (k := ?_)
        repeat refine gwp_seq ?_
        refine gwp_block ?_
        repeat refine gwp_seq ?_
        refine gc_loop (fun mz σ => ∃ j : Nat, (j ≤ hgt f) ∧ mz = hgt f - j ∧ σ = (sg [(1, .p (.int .i64 (n : Nat))), (2, .ref 120 0), (5, .p (.int .i64 (hdL (misL f n)).1)), (6, .p (.int .i64 (hdL (misL f n)).2)), (7, .p (.int .i64 ((misL f n).length : Nat))), (8, .p (.int .i64 (misE f n))), (9, .p (.int .i64 ((misC f n i j).length : Nat))), (10, .p (.int .i64 (f.el + (i : Nat)))), (11, .p (.int .i64 (f.nl + (j : Nat))))] [(120, .cells [.p (.list (f.ps.map pS)), .p (.int .i64 f.el), .p (.int .i64 f.eh), .p (.int .i64 f.nl), .p (.int .i64 f.nh), .p (.int .i64 f.dl), .p (.int .i64 f.dh), .p (.int .i64 f.dep), .p (.int .i64 f.tm), .p (.int .i64 f.gp)] 10)] A [] : Sg E)) ?_ (fun mz σ hI => ?_)
        · refine lbeg [1, 2, 5, 6, 7, 8, 9, 10, 11] (hV := ?_)
          exact ⟨_, 0, by omega, rfl, sgE (by rw [Int.natCast_zero, Int.add_zero]) rfl⟩
        obtain ⟨j, hj, hnn2, rfl⟩ := hI
        repeat refine gwp_seq ?_
        refine gwp_region ?_
        refine v0 (k := ?_)
        refine v0 (k := ?_)
        refine v0 (k := ?_)
        refine v0 (k := ?_)
        refine v0 (k := ?_)
        refine nil0 ?_
        repeat refine gwp_seq ?_
        refine cB (k1 := fun hb3 => ?_) (k0 := fun hb3 => ?_)
        · replace hb3 := hB.h {} hb3
          try rw [eqI] at hb3
          repeat refine gwp_seq ?_
          refine gwp_skip ?_
          refine cl [1, 2, 5, 6, 7, 8, 9, 10, 11] (k := ?_)
          repeat refine gwp_seq ?_
          refine gwp_block ?_
          repeat refine gwp_seq ?_
          refine gwp_region ?_
          refine v0 (k := ?_)
          refine v0 (k := ?_)
          refine v0 (k := ?_)
          refine v0 (k := ?_)
          refine pc0 (spec := s_good f hv n (f.el + (i : Nat)) (f.nl + (j : Nat)) hse (by omega) (by omega)) (hent := ent16) (k := ?_)
          refine v0 (k := ?_)
          refine v0 (k := ?_)
          refine v0 (k := ?_)
          refine v0 (k := ?_)
          refine v0 (k := ?_)
          refine nil0 ?_
          refine cl [1, 2, 5, 6, 7, 8, 9, 10, 11, 12, 13] (k := ?_)
          repeat refine gwp_seq ?_
          have hcl := misC_len hv n (i := i) (j := j) (by omega) (by omega)
          refine gwp_region ?_
          refine v0 (k := ?_)
          refine v0 (k := ?_)
          refine rb 92 false (h := by (first | rfl | decide)) (k := ?_)
          refine nil0 ?_
          repeat refine gwp_seq ?_
          refine cF (k := ?_)
          repeat refine gwp_seq ?_
          refine gwp_skip ?_
          refine cl [1, 2, 5, 6, 7, 8, 9, 10, 11, 12] (k := ?_)
          repeat refine gwp_seq ?_
          refine gwp_region ?_
          refine v0 (k := ?_)
          refine nil0 ?_
          repeat refine gwp_seq ?_
          refine cB (k1 := fun hb4 => ?_) (k0 := fun hb4 => ?_)
          · replace hb4 := hB.h {} hb4
            try rw [eqI] at hb4
            repeat refine gwp_seq ?_
            refine gwp_exit ?_
            repeat (first | refine gthen_exit ?_ | refine gnoGoto_exit ?_ | refine gblock_here ?_ | refine gblock_out rfl ?_)
            refine cl [1, 2, 5, 6, 7, 8, 9, 10, 11] (k := ?_)
            repeat refine gwp_seq ?_
            refine gwp_region ?_
            refine v0 (k := ?_)
            refine v1 (hc := kLf1.h {}) (k := ?_)
            refine v0 (k := ?_)
            refine nil0 ?_
            refine lend [1, 2, 5, 6, 7, 8, 9, 10, 11] (h := ?_) (hV := ?_) (n' := hgt f - (j + 1))
            · omega
            first
            | exact ⟨j + 1, by omega, rfl, sgE (by rw [misC_f (by assumption), Int.natCast_add, Int.add_assoc]; rfl) rfl⟩
            | exact ⟨j + 1, by omega, rfl, sgE (by rw [misC_t (by assumption), List.length_append, Int.natCast_add j 1, Int.add_assoc]; rfl) rfl⟩
          · replace hb4 := hB.h {} hb4
            try rw [eqI] at hb4
            repeat refine gwp_seq ?_
            refine gwp_skip ?_
            refine cl [1, 2, 5, 6, 7, 8, 9, 10, 11] (k := ?_)
            repeat refine gwp_seq ?_
            have hfst := fun h => mis_first (f := f) (s := n) (i := i) (j := j) (by omega) (by omega) (by assumption) h
            refine gwp_region ?_
            refine v0 (k := ?_)
            refine v0 (k := ?_)
            refine v0 (k := ?_)
            refine b0 (k1 := fun hb5 => ?_) (k0 := fun hb5 => ?_)
            · replace hb5 := hB.h {} hb5
              try rw [eqI] at hb5
              refine w0 (k := ?_)
              refine w0 (k := ?_)
              refine w0 (k := ?_)
              refine rb 99 false (h := by (first | (simp [(hfst (by omega)).1]; done) | (simp [(hfst (by omega)).2]; done))) (k := ?_)
              refine w0 (k := ?_)
              refine w0 (k := ?_)
              refine w0 (k := ?_)
              refine w0 (k := ?_)
              refine rb 103 false (h := by (first | (simp [(hfst (by omega)).1]; done) | (simp [(hfst (by omega)).2]; done))) (k := ?_)
              refine w0 (k := ?_)
              refine v0 (k := ?_)
              refine nil0 ?_
              repeat refine gwp_seq ?_
              refine cF (k := ?_)
              repeat refine gwp_seq ?_
              refine gwp_skip ?_
              refine cl [1, 2, 5, 6, 7, 8, 9, 10, 11] (k := ?_)
              repeat refine gwp_seq ?_
              refine gwp_region ?_
              refine v0 (k := ?_)
              refine v1 (hc := kLf1.h {}) (k := ?_)
              refine v0 (k := ?_)
              refine nil0 ?_
              refine cl [1, 2, 5, 6, 7, 8, 9, 10, 11] (k := ?_)
              repeat refine gwp_seq ?_
              refine gwp_region ?_
              refine v0 (k := ?_)
              refine v1 (hc := kLf1.h {}) (k := ?_)
              refine v0 (k := ?_)
              refine nil0 ?_
              refine lend [1, 2, 5, 6, 7, 8, 9, 10, 11] (h := ?_) (hV := ?_) (n' := hgt f - (j + 1))
              · omega
              first
              | exact ⟨j + 1, by omega, rfl, sgE (by rw [misC_f (by assumption), Int.natCast_add, Int.add_assoc]; rfl) rfl⟩
              | exact ⟨j + 1, by omega, rfl, sgE (by rw [misC_t (by assumption), List.length_append, Int.natCast_add j 1, Int.add_assoc]; rfl) rfl⟩
            · replace hb5 := hB.h {} hb5
              try rw [eqI] at hb5
              refine x0 (k := ?_)
              refine x0 (k := ?_)
              refine x0 (k := ?_)
              refine x0 (k := ?_)
              refine x1 (k := ?_)
              refine x1 (k := ?_)
              refine x1 (k := ?_)
              refine x0 (k := ?_)
              refine v0 (k := ?_)
              refine nil0 ?_
              repeat refine gwp_seq ?_
              refine cF (k := ?_)
              repeat refine gwp_seq ?_
              refine gwp_skip ?_
              refine cl [1, 2, 5, 6, 7, 8, 9, 10, 11] (k := ?_)
              repeat refine gwp_seq ?_
              refine gwp_region ?_
              refine v0 (k := ?_)
              refine v1 (hc := kLf1.h {}) (k := ?_)
              refine v0 (k := ?_)
              refine nil0 ?_
              refine cl [1, 2, 5, 6, 7, 8, 9, 10, 11] (k := ?_)
              repeat refine gwp_seq ?_
              refine gwp_region ?_
              refine v0 (k := ?_)
              refine v1 (hc := kLf1.h {}) (k := ?_)
              refine v0 (k := ?_)
              refine nil0 ?_
              refine lend [1, 2, 5, 6, 7, 8, 9, 10, 11] (h := ?_) (hV := ?_) (n' := hgt f - (j + 1))
              · omega
              first
              | exact ⟨j + 1, by omega, rfl, sgE (by rw [misC_f (by assumption), Int.natCast_add, Int.add_assoc]; rfl) rfl⟩
              | exact ⟨j + 1, by omega, rfl, sgE (by rw [misC_t (by assumption), List.length_append, Int.natCast_add j 1, Int.add_assoc]; rfl) rfl⟩
        · replace hb3 := hB.h {} hb3
          try rw [eqI] at hb3
          repeat refine gwp_seq ?_
          refine gwp_exit ?_
          repeat (first | refine gthen_exit ?_ | refine gnoGoto_exit ?_ | refine gblock_here ?_ | refine gblock_out rfl ?_)
          refine cl [1, 2, 5, 6, 7, 8, 9, 10] (k := ?_)
          repeat refine gwp_seq ?_
          refine gwp_region ?_
          refine v0 (k := ?_)
          refine v1 (hc := kLf1.h {}) (k := ?_)
          refine v0 (k := ?_)
          refine nil0 ?_
          refine lend [1, 2, 5, 6, 7, 8, 9, 10] (h := ?_) (hV := ?_) (n' := wid f - (i + 1))
          · omega
          exact ⟨i + 1, by omega, rfl, sgE (by rw [← misC_row, show hgt f = j by omega, Int.natCast_add, Int.add_assoc]; rfl) rfl⟩
      · replace hb2 := hB.h {} hb2
        try rw [eqI] at hb2
        repeat refine gwp_seq ?_
        refine gwp_exit ?_
        repeat (first | refine gthen_exit ?_ | refine gnoGoto_exit ?_ | refine gblock_here ?_ | refine gblock_out rfl ?_)
        refine cl [5, 6, 7, 8, 9] (k := ?_)
        repeat refine gwp_seq ?_
        obtain rfl : i = wid f := by omega
        rw [misC_all]
        rcases hm : misL f n with _ | ⟨e, l⟩
        · have hme : misE f n = 4 := by rw [misE, hm]
          repeat refine gwp_seq ?_
          refine gwp_region ?_
          refine v0 (k := ?_)
          refine v0 (k := ?_)
          refine rb 109 true (h := by (rfl)) (k := ?_)
          refine nil0 ?_
          repeat refine gwp_seq ?_
          refine cT (k := ?_)
          repeat refine gwp_seq ?_
          refine gwp_region ?_
          refine v0 (k := ?_)
          refine v0 (k := ?_)
          refine rb 111 true (h := by (first | rfl | decide | simp)) (k := ?_)
          refine v0 (k := ?_)
          refine w0 (k := ?_)
          refine w0 (k := ?_)
          refine rb 114 true (h := by (first | rfl | decide | simp)) (k := ?_)
          refine v0 (k := ?_)
          refine v0 (k := ?_)
          refine w0 (k := ?_)
          refine w0 (k := ?_)
          refine rb 118 true (h := by (first | rfl | decide | simp)) (k := ?_)
          refine v0 (k := ?_)
          refine v0 (k := ?_)
          refine w0 (k := ?_)
          refine w0 (k := ?_)
          refine rb 122 true (h := by (first | rfl | decide | simp)) (k := ?_)
          refine v0 (k := ?_)
          refine v0 (k := ?_)
          refine pcw (spec := l_awake) (hent := ent13) (k := ?_)
          refine rb 125 true (h := by (rfl)) (k := ?_)
          refine v0 (k := ?_)
          refine v0 (k := ?_)
          refine nil0 ?_
          repeat refine gwp_seq ?_
          refine gwp_ret ?_
          repeat (first | refine gthen_ret ?_ | refine gblock_ret ?_ | refine gnoGoto_ret ?_)
          refine fin_ret ?_
          refine fp (hR := ?_)
          rfl
        · have hme : misE f n = 0 := by rw [misE, hm]
          repeat refine gwp_seq ?_
          refine gwp_region ?_
          refine v0 (k := ?_)
          refine v0 (k := ?_)
          refine rb 109 false (h := by (first | (exact decide_eq_false (by simp; omega)) | (simp; omega))) (k := ?_)
          refine nil0 ?_
          repeat refine gwp_seq ?_
          refine cF (k := ?_)
          repeat refine gwp_seq ?_
          refine gwp_skip ?_
          refine cl [7, 8, 9] (k := ?_)
          repeat refine gwp_seq ?_
          refine gwp_region ?_
          refine v0 (k := ?_)
          refine v0 (k := ?_)
          refine rb 128 true (h := by (first | rfl | decide | simp)) (k := ?_)
          refine v0 (k := ?_)
          refine w0 (k := ?_)
          refine w0 (k := ?_)
          refine w0 (k := ?_)
          refine rb 132 true (h := by (first | rfl | decide | simp)) (k := ?_)
          refine v0 (k := ?_)
          refine v0 (k := ?_)
          refine pcw (spec := l_awake) (hent := ent13) (k := ?_)
          refine rb 135 true (h := by (rfl)) (k := ?_)
          refine v0 (k := ?_)
          refine v0 (k := ?_)
          refine nil0 ?_
          repeat refine gwp_seq ?_
          refine gwp_ret ?_
          repeat (first | refine gthen_ret ?_ | refine gblock_ret ?_ | refine gnoGoto_ret ?_)
          refine fin_ret ?_
          refine fp (hR := ?_)
          rfl
end Go.Proofs.Ytabeeaiilanmjaa

/- The statement CoverMissing, for every input: the law returns true, and its arguments read as they did.  -/
namespace Go.Proofs.Ytabeeaiilanmjaa
open Go.Gh Go.ChangeShapes Go.WideShapes Go.ChangeAt Go.RowKit
set_option maxRecDepth 100000
theorem aj_missing : ∀ ps, FitAs [(true, fdSS), (false, [.int .i64])] ps → PSpec Try.prog 6 ps (.ok (.bool true)) := fun ps h => by
  simp only [FitAs] at h
  obtain ⟨_, _, rfl, q0, _, _, rfl, q1, rfl⟩ := h
  obtain ⟨f, rfl, hf⟩ := fd_of q0
  obtain ⟨s, rfl, hs⟩ := int_of q1
  exact l_missing f s
theorem missing_lifted (os : Os) (started : os.Started) (H : Type) (enc : TypeId × Value → H) :
    ReturnsInHanded {} Try.checked os 6 .any (Rows.coverMissingSpec.pre6 enc Try.prog Try.f6 Rows.coverMissingRow.domain false) (Rows.coverMissingSpec.post enc Try.prog Try.f6 false true false false) := by
  refine returnsInHanded_of_change (C := Try.checked) own started (by kernel_rfl) Try.func6
    (ChangeSpec.witness6 (enc := enc) (C := Try.checked) false ⟨#[], #[.agg #[.slice none 0 0, .int .i64 0, .int .i64 0, .int .i64 0, .int .i64 0, .int .i64 0, .int .i64 0, .int .i64 0, .int .i64 0, .int .i64 0], .int .i64 0], []⟩ 8 (by kernel_rfl) (by kernel_rfl) (by kernel_rfl) (by kernel_rfl)) ?_
  intro W base args ds gs before hval hW _ _
  exact law_post (n := 9) (ss := [(true, fdSS), (false, [.int .i64])]) (b := 4) laidOut (by kernel_rfl) (by kernel_rfl) (by kernel_rfl) (by kernel_rfl) rfl
    (fun ds hd => by
      have hd' : ds.length = 2 := hd
      match ds, hd' with
      | [a, b], _ => rfl) aj_missing hval hW
theorem missing_holds : Rows.CoverMissingSaid :=
  OpenClaim.holds_of_wide 6 Try.f6 rfl rfl rfl rfl rfl rfl rfl ⟨rfl, rfl, rfl, rfl, rfl⟩ rfl rfl rfl rfl rfl (by kernel_rfl) Try.func6 (by kernel_rfl)
    (of_decide_eq_true (by kernel_rfl)) (by unfold Func.isWrapper; first | (rw [if_pos (by decide +kernel)]; kernel_rfl) | (rw [if_neg (by decide +kernel)]; exact ⟨rfl, rfl⟩))
    (fun os started H enc _ => missing_lifted os started H enc)
end Go.Proofs.Ytabeeaiilanmjaa
