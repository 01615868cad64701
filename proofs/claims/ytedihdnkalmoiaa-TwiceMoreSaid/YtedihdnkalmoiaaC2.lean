/- The statement TwiceMoreSaid: the call returns true for every input, and its arguments read as before; no condition. -/
import Derived.Test.YtedihdnkalmoiaaC1
set_option linter.unusedVariables false
set_option linter.unusedSimpArgs false
/- The statement TwiceMore: the walk. -/
namespace Go.Proofs.Ytedihdnkalmoiaa
open Go.Gh
set_option maxRecDepth 100000
set_option maxHeartbeats 4000000
theorem ent10 : Enters Try.prog 10 := Enters.mk Try.func10 (by kernel_rfl) rfl
def pS (y : Sh) : P := .agg [.int .i64 y.num, .list (y.sizes.map (.int .i64)), .int .i64 y.lo, .int .i64 y.hi, .list (y.notes.map pn)]
theorem pS_size (l : List Sh) : ∀ x ∈ l.map pS, x.size = 5 := fun x hx => by
  obtain ⟨y, _, rfl⟩ := List.mem_map.1 hx
  rfl
theorem flat_int (l : List Int) : (l.map (P.int .i64)).flatMap P.cells = l.map (P.int .i64) := by
  induction l with
  | nil => rfl
  | cons a l ih => rw [List.map_cons, List.flatMap_cons, ih]; rfl
theorem errY {y : Sh} (h : wA y ≠ []) : errA y = 0 := errA_ok h
theorem heavy_more {s : Sh} {n m : Int} (h : heavyB s n m = false) (hv : s.valid = true) : s.num ≤ n ∧ (s.notes.length : Int) ≤ m := by
  simp only [heavyB, hv, Bool.or_eq_false_iff, Bool.true_and, decide_eq_false_iff_not] at h
  omega
def ysL (s : Sh) (x : Nt) (z : List Int) (r : Int) : List Sh := [addN s x, setS s z, thinS s r]
@[simp] theorem ysL_len (s : Sh) (x : Nt) (z : List Int) (r : Int) : (ysL s x z r).length = 3 := rfl
theorem ys_less {s : Sh} {x : Nt} {z : List Int} {r : Int} (h1 : Less s (setS s z)) (hr : 0 ≤ r) (hs : s.lo ≤ s.hi) (hn : s.notes.length ≤ 9) : ∀ (k : Nat) y, (ysL s x z r)[k]? = some y → Less s y ∧ y.notes.length ≤ 10
  | 0, y, h => by simp [ysL] at h; subst h; exact ⟨less_note s x, by simp [addN]; omega⟩
  | 1, y, h => by simp [ysL] at h; subst h; exact ⟨h1, by simp only [setS]; omega⟩
  | 2, y, h => by simp [ysL] at h; subst h; exact ⟨less_thin s hr hs, by simp only [thinS]; omega⟩
  | k + 3, y, h => by simp [ysL] at h
theorem l_more (s : Sh) (x : Nt) (w b : Nat) (hx : inI x.a ∧ inI x.b) (hw : w ≤ 255) (hb : b ≤ 255) : PSpec Try.prog 10 [.agg [.int .i64 s.num, .list (s.sizes.map (.int .i64)), .int .i64 s.lo, .int .i64 s.hi, .list (s.notes.map pn)], .agg [.int .i64 x.a, .int .i64 x.b, .bool x.s], .int .u8 (w : Nat), .int .u8 (b : Nat)] (.ok (.bool true)) := by
  refine pspec_of Try.func10 (rfl : Try.f10.body = some _) rfl ?_
  intro E A C hN hL
  replace hN : C.N = 241 := hN
  simp only [Gh.num, List.map_cons, List.map_nil, Nat.reduceAdd]
  have hgs := geq_span
  have hdt : ∀ (i : Decidable True), @decide True i = true := fun i => decide_eq_true trivial
  have hdf : ∀ (i : Decidable False), @decide False i = false := fun i => decide_eq_false id
  have hpn : ∀ n : Nt, pn n = P.agg [.int .i64 n.a, .int .i64 n.b, .bool n.s] := fun _ => rfl
  have hbt : (true == true) = true := rfl
  have hbf : (false == false) = true := rfl
  have htf : (true == false) = false := rfl
  have hft : (false == true) = false := rfl
  have h10 : ¬ (1 : Int) = 0 := by decide
  have h01 : ¬ (0 : Int) = 1 := by decide
  repeat refine gwp_seq ?_
  refine gwp_region ?_
  refine n1 140 false (hc := by (first | exact True.intro | exact pS_size _ | exact ⟨by omega, by omega, pS_size _⟩ | omega | with_reducible exact ⟨by omega, by omega, by assumption⟩ | with_reducible exact ⟨trivial, by omega, by omega, by assumption⟩ | (simp only [inI]; omega) | (simp [P.size, nt, wP, pn, all_int, allOne_p, goods_p, allOne, goods, good, G.one, P.one, P.cells] <;> first | omega | assumption | simp_all))) (k := ?_)
  refine n1 150 false (hc := by (first | exact True.intro | exact pS_size _ | exact ⟨by omega, by omega, pS_size _⟩ | omega | with_reducible exact ⟨by omega, by omega, by assumption⟩ | with_reducible exact ⟨trivial, by omega, by omega, by assumption⟩ | (simp only [inI]; omega) | (simp [P.size, nt, wP, pn, all_int, allOne_p, goods_p, allOne, goods, good, G.one, P.one, P.cells] <;> first | omega | assumption | simp_all))) (k := ?_)
  refine v0 (k := ?_)
  refine nil0 ?_
  refine cl [2, 3, 4, 5] (k := ?_)
  repeat refine gwp_seq ?_
  refine gwp_region ?_
  refine v0 (k := ?_)
  refine pc0 (spec := l_heavy s 6 9) (hent := ent12) (k := ?_)
  refine v0 (k := ?_)
  refine b0 (k1 := fun hb1 => ?_) (k0 := fun hb1 => ?_)
  · try simp only [decide_eq_true_eq, decide_eq_false_iff_not, Int.not_lt, Int.not_le, Bool.not_eq_eq_eq_not, Bool.not_true, Bool.not_false, Bool.and_eq_true, Bool.and_eq_false_iff, Bool.or_eq_true, Bool.or_eq_false_iff] at hb1
    refine x0 (k := ?_)
    refine x0 (k := ?_)
    refine x0 (k := ?_)
    refine v0 (k := ?_)
    refine v0 (k := ?_)
    refine x0 (k := ?_)
    refine x0 (k := ?_)
    refine x0 (k := ?_)
    refine v0 (k := ?_)
    refine nil0 ?_
    repeat refine gwp_seq ?_
    refine cT (k := ?_)
    repeat refine gwp_seq ?_
    refine gwp_region ?_
    refine pc0 (spec := l_awake) (hent := ent13) (k := ?_)
    refine v0 (k := ?_)
    refine nil0 ?_
    repeat refine gwp_seq ?_
    refine gwp_ret ?_
    repeat (first | refine gthen_ret ?_ | refine gblock_ret ?_ | refine gnoGoto_ret ?_)
    refine fin_ret ?_
    refine fp (hR := ?_)
    rfl
  · try simp only [decide_eq_true_eq, decide_eq_false_iff_not, Int.not_lt, Int.not_le, Bool.not_eq_eq_eq_not, Bool.not_true, Bool.not_false, Bool.and_eq_true, Bool.and_eq_false_iff, Bool.or_eq_true, Bool.or_eq_false_iff] at hb1
    refine w0 (k := ?_)
    refine pcw (spec := s_Shelf s (heavy_len hb1).1 (heavy_len hb1).2) (hent := ent33) (k := ?_)
    refine w0 (k := ?_)
    refine v0 (k := ?_)
    refine v0 (k := ?_)
    refine b0 (k1 := fun hb2 => ?_) (k0 := fun hb2 => ?_)
    · try simp only [decide_eq_true_eq, decide_eq_false_iff_not, Int.not_lt, Int.not_le, Bool.not_eq_eq_eq_not, Bool.not_true, Bool.not_false, Bool.and_eq_true, Bool.and_eq_false_iff, Bool.or_eq_true, Bool.or_eq_false_iff] at hb2
      refine x0 (k := ?_)
      refine x0 (k := ?_)
      refine x0 (k := ?_)
      refine v0 (k := ?_)
      refine nil0 ?_
      repeat refine gwp_seq ?_
      refine cT (k := ?_)
      repeat refine gwp_seq ?_
      refine gwp_region ?_
      refine pc0 (spec := l_awake) (hent := ent13) (k := ?_)
      refine v0 (k := ?_)
      refine nil0 ?_
      repeat refine gwp_seq ?_
      refine gwp_ret ?_
      repeat (first | refine gthen_ret ?_ | refine gblock_ret ?_ | refine gnoGoto_ret ?_)
      refine fin_ret ?_
      refine fp (hR := ?_)
      rfl
    · try simp only [decide_eq_true_eq, decide_eq_false_iff_not, Int.not_lt, Int.not_le, Bool.not_eq_eq_eq_not, Bool.not_true, Bool.not_false, Bool.and_eq_true, Bool.and_eq_false_iff, Bool.or_eq_true, Bool.or_eq_false_iff] at hb2
      refine w0 (k := ?_)
      refine w0 (k := ?_)
      refine w0 (k := ?_)
      refine v0 (k := ?_)
      refine nil0 ?_
      repeat refine gwp_seq ?_
      refine cB (k1 := fun hb3 => ?_) (k0 := fun hb3 => ?_)
      · try simp only [decide_eq_true_eq, decide_eq_false_iff_not, Int.not_lt, Int.not_le, Bool.not_eq_eq_eq_not, Bool.not_true, Bool.not_false, Bool.and_eq_true, Bool.and_eq_false_iff, Bool.or_eq_true, Bool.or_eq_false_iff] at hb3
        repeat refine gwp_seq ?_
        refine gwp_region ?_
        refine pc0 (spec := l_awake) (hent := ent13) (k := ?_)
        refine v0 (k := ?_)
        refine nil0 ?_
        repeat refine gwp_seq ?_
        refine gwp_ret ?_
        repeat (first | refine gthen_ret ?_ | refine gblock_ret ?_ | refine gnoGoto_ret ?_)
        refine fin_ret ?_
        refine fp (hR := ?_)
        rfl
      · try simp only [decide_eq_true_eq, decide_eq_false_iff_not, Int.not_lt, Int.not_le, Bool.not_eq_eq_eq_not, Bool.not_true, Bool.not_false, Bool.and_eq_true, Bool.and_eq_false_iff, Bool.or_eq_true, Bool.or_eq_false_iff] at hb3
        repeat refine gwp_seq ?_
        refine gwp_skip ?_
        refine cl [2, 3, 4, 5] (k := ?_)
        repeat refine gwp_seq ?_
        have hn := valid_num hb2
        have hdl := drop_le (s := s)
        have hel := every_lt2 (s := s) (by omega)
        have hhv := heavy_more hb1 hb2
        obtain ⟨n, hnn⟩ : ∃ n : Nat, s.num = n := ⟨s.num.toNat, by omega⟩
        obtain ⟨kk, hkk⟩ : ∃ q, w % n = q := ⟨_, rfl⟩
        obtain ⟨j, hj⟩ : ∃ q, b % n = q := ⟨_, rfl⟩
        have hkl : kk < n := hkk ▸ Nat.mod_lt w (by omega)
        have hjl : j < n := hj ▸ Nat.mod_lt b (by omega)
        have hm1 : (w : Int).tmod s.num = kk := by rw [hnn, tm1, hkk]
        have hm2 : (b : Int).tmod s.num = j := by rw [hnn, tm1, hj]
        have hm9 : (b : Int).tmod 9 = ((b % 9 : Nat) : Int) := tm1 b 9
        have hm3 : (b : Int).tmod 2 = ((b % 2 : Nat) : Int) := tm1 b 2
        have hkl2 : (kk : Int) < s.num := by omega
        have hjl2 : (j : Int) < s.num := by omega
        clear hnn
        refine rd ?_
        refine d0 0 (k := ?_)
        refine d0 1 (k := ?_)
        refine d0 2 (k := ?_)
        refine dn1 3 190 false (hc := by (first | exact True.intro | exact pS_size _ | exact ⟨by omega, by omega, pS_size _⟩ | omega | with_reducible exact ⟨by omega, by omega, by assumption⟩ | with_reducible exact ⟨trivial, by omega, by omega, by assumption⟩ | (simp only [inI]; omega) | (simp [P.size, nt, wP, pn, all_int, allOne_p, goods_p, allOne, goods, good, G.one, P.one, P.cells] <;> first | omega | assumption | simp_all))) (k := ?_)
        refine dn1 4 200 false (hc := by (first | exact True.intro | exact pS_size _ | exact ⟨by omega, by omega, pS_size _⟩ | omega | with_reducible exact ⟨by omega, by omega, by assumption⟩ | with_reducible exact ⟨trivial, by omega, by omega, by assumption⟩ | (simp only [inI]; omega) | (simp [P.size, nt, wP, pn, all_int, allOne_p, goods_p, allOne, goods, good, G.one, P.one, P.cells] <;> first | omega | assumption | simp_all))) (k := ?_)
        refine dn1 5 210 false (hc := by (first | exact True.intro | exact pS_size _ | exact ⟨by omega, by omega, pS_size _⟩ | omega | with_reducible exact ⟨by omega, by omega, by assumption⟩ | with_reducible exact ⟨trivial, by omega, by omega, by assumption⟩ | (simp only [inI]; omega) | (simp [P.size, nt, wP, pn, all_int, allOne_p, goods_p, allOne, goods, good, G.one, P.one, P.cells] <;> first | omega | assumption | simp_all))) (k := ?_)
        refine ds1 6 (hc := by (first | exact True.intro | exact pS_size _ | exact ⟨by omega, by omega, pS_size _⟩ | omega | with_reducible exact ⟨by omega, by omega, by assumption⟩ | with_reducible exact ⟨trivial, by omega, by omega, by assumption⟩ | (simp only [inI]; omega) | (simp [P.size, nt, wP, pn, all_int, allOne_p, goods_p, allOne, goods, good, G.one, P.one, P.cells] <;> first | omega | assumption | simp_all))) (k := ?_)
        refine ds1 7 (hc := by (first | exact True.intro | exact pS_size _ | exact ⟨by omega, by omega, pS_size _⟩ | omega | with_reducible exact ⟨by omega, by omega, by assumption⟩ | with_reducible exact ⟨trivial, by omega, by omega, by assumption⟩ | (simp only [inI]; omega) | (simp [P.size, nt, wP, pn, all_int, allOne_p, goods_p, allOne, goods, good, G.one, P.one, P.cells] <;> first | omega | assumption | simp_all))) (k := ?_)
        refine ds1 8 (hc := by (first | exact True.intro | exact pS_size _ | exact ⟨by omega, by omega, pS_size _⟩ | omega | with_reducible exact ⟨by omega, by omega, by assumption⟩ | with_reducible exact ⟨trivial, by omega, by omega, by assumption⟩ | (simp only [inI]; omega) | (simp [P.size, nt, wP, pn, all_int, allOne_p, goods_p, allOne, goods, good, G.one, P.one, P.cells] <;> first | omega | assumption | simp_all))) (k := ?_)
        refine dz 9 [0, 0, 0, 0, 0, 0, 57, 123, 255] (h := ?_)
        refine de 9 (h := ?_)
        refine cl [2, 3, 4, 5, 9, 10, 11] (k := ?_)
        repeat refine gwp_seq ?_
        refine rd ?_
        refine dn1 0 600 false (hc := by (first | exact True.intro | exact pS_size _ | exact ⟨by omega, by omega, pS_size _⟩ | omega | with_reducible exact ⟨by omega, by omega, by assumption⟩ | with_reducible exact ⟨trivial, by omega, by omega, by assumption⟩ | (simp only [inI]; omega) | (simp [P.size, nt, wP, pn, all_int, allOne_p, goods_p, allOne, goods, good, G.one, P.one, P.cells] <;> first | omega | assumption | simp_all))) (k := ?_)
        refine d0 1 (k := ?_)
        refine d0 2 (k := ?_)
        refine dn1 3 630 false (hc := by (first | exact True.intro | exact pS_size _ | exact ⟨by omega, by omega, pS_size _⟩ | omega | with_reducible exact ⟨by omega, by omega, by assumption⟩ | with_reducible exact ⟨trivial, by omega, by omega, by assumption⟩ | (simp only [inI]; omega) | (simp [P.size, nt, wP, pn, all_int, allOne_p, goods_p, allOne, goods, good, G.one, P.one, P.cells] <;> first | omega | assumption | simp_all))) (k := ?_)
        refine d0 4 (k := ?_)
        refine dn1 5 650 false (hc := by (first | exact True.intro | exact pS_size _ | exact ⟨by omega, by omega, pS_size _⟩ | omega | with_reducible exact ⟨by omega, by omega, by assumption⟩ | with_reducible exact ⟨trivial, by omega, by omega, by assumption⟩ | (simp only [inI]; omega) | (simp [P.size, nt, wP, pn, all_int, allOne_p, goods_p, allOne, goods, good, G.one, P.one, P.cells] <;> first | omega | assumption | simp_all))) (k := ?_)
        refine dn1 6 660 false (hc := by (first | exact True.intro | exact pS_size _ | exact ⟨by omega, by omega, pS_size _⟩ | omega | with_reducible exact ⟨by omega, by omega, by assumption⟩ | with_reducible exact ⟨trivial, by omega, by omega, by assumption⟩ | (simp only [inI]; omega) | (simp [P.size, nt, wP, pn, all_int, allOne_p, goods_p, allOne, goods, good, G.one, P.one, P.cells] <;> first | omega | assumption | simp_all))) (k := ?_)
        refine d0 7 (k := ?_)
        refine ds1 8 (hc := by (first | exact True.intro | exact pS_size _ | exact ⟨by omega, by omega, pS_size _⟩ | omega | with_reducible exact ⟨by omega, by omega, by assumption⟩ | with_reducible exact ⟨trivial, by omega, by omega, by assumption⟩ | (simp only [inI]; omega) | (simp [P.size, nt, wP, pn, all_int, allOne_p, goods_p, allOne, goods, good, G.one, P.one, P.cells] <;> first | omega | assumption | simp_all))) (k := ?_)
        refine dz 9 [0, 0, 2, 7, 0, 16, 63, 127, 255] (h := ?_)
        refine de 9 (h := ?_)
        refine cl [2, 3, 4, 9, 10, 11] (k := ?_)
        repeat refine gwp_seq ?_
        refine gwp_region ?_
        refine n1 680 true (hc := by (first | exact True.intro | exact pS_size _ | exact ⟨by omega, by omega, pS_size _⟩ | omega | with_reducible exact ⟨by omega, by omega, by assumption⟩ | with_reducible exact ⟨trivial, by omega, by omega, by assumption⟩ | (simp only [inI]; omega) | (simp [P.size, nt, wP, pn, all_int, allOne_p, goods_p, allOne, goods, good, G.one, P.one, P.cells] <;> first | omega | assumption | simp_all))) (k := ?_)
        refine v0 (k := ?_)
        refine v0 (k := ?_)
        refine n1 710 false (hc := by (first | exact True.intro | exact pS_size _ | exact ⟨by omega, by omega, pS_size _⟩ | omega | with_reducible exact ⟨by omega, by omega, by assumption⟩ | with_reducible exact ⟨trivial, by omega, by omega, by assumption⟩ | (simp only [inI]; omega) | (simp [P.size, nt, wP, pn, all_int, allOne_p, goods_p, allOne, goods, good, G.one, P.one, P.cells] <;> first | omega | assumption | simp_all))) (k := ?_)
        refine v0 (k := ?_)
        refine s1 (hc := by (first | exact True.intro | exact pS_size _ | exact ⟨by omega, by omega, pS_size _⟩ | omega | with_reducible exact ⟨by omega, by omega, by assumption⟩ | with_reducible exact ⟨trivial, by omega, by omega, by assumption⟩ | (simp only [inI]; omega) | (simp [P.size, nt, wP, pn, all_int, allOne_p, goods_p, allOne, goods, good, G.one, P.one, P.cells] <;> first | omega | assumption | simp_all))) (k := ?_)
        refine nil0 ?_
        refine cl [2, 3, 4, 9, 10, 11] (k := ?_)
        repeat refine gwp_seq ?_
        refine gwp_region ?_
        refine v0 (k := ?_)
        refine v1 (hc := by (first | exact True.intro | exact pS_size _ | exact ⟨by omega, by omega, pS_size _⟩ | omega | with_reducible exact ⟨by omega, by omega, by assumption⟩ | with_reducible exact ⟨trivial, by omega, by omega, by assumption⟩ | (simp only [inI]; omega) | (simp [P.size, nt, wP, pn, all_int, allOne_p, goods_p, allOne, goods, good, G.one, P.one, P.cells] <;> first | omega | assumption | simp_all))) (k := ?_)
        refine v0 (k := ?_)
        refine v0 (k := ?_)
        refine v1 (hc := by (first | exact True.intro | exact pS_size _ | exact ⟨by omega, by omega, pS_size _⟩ | omega | with_reducible exact ⟨by omega, by omega, by assumption⟩ | with_reducible exact ⟨trivial, by omega, by omega, by assumption⟩ | (simp only [inI]; omega) | (simp [P.size, nt, wP, pn, all_int, allOne_p, goods_p, allOne, goods, good, G.one, P.one, P.cells] <;> first | omega | assumption | simp_all))) (k := ?_)
        refine v0 (k := ?_)
        refine nil0 ?_
        refine cl [3, 4, 9, 10, 11, 12] (k := ?_)
        repeat refine gwp_seq ?_
        have hfm := flat_int s.sizes
        obtain ⟨p, hp⟩ := getE (l := s.sizes) (k := kk) (by omega)
        refine gwp_region ?_
        refine v0 (k := ?_)
        refine v0 (k := ?_)
        refine v0 (k := ?_)
        refine v1 (hc := by (first | exact True.intro | exact pS_size _ | exact ⟨by omega, by omega, pS_size _⟩ | omega | with_reducible exact ⟨by omega, by omega, by assumption⟩ | with_reducible exact ⟨trivial, by omega, by omega, by assumption⟩ | (simp only [inI]; omega) | (simp [P.size, nt, wP, pn, all_int, allOne_p, goods_p, allOne, goods, good, G.one, P.one, P.cells] <;> first | omega | assumption | simp_all))) (k := ?_)
        refine v0 (k := ?_)
        refine v0 (k := ?_)
        refine nil0 ?_
        repeat refine gwp_seq ?_
        refine gwp_cutE (Z := List Int) (fun z => Less s (setS s z) ∧ z.length = s.sizes.length) (fun _ => [(3, .p (.int .u8 (b : Nat))), (4, .ref 140 0), (9, .ref 190 0), (10, .ref 200 0), (11, .ref 210 0)]) (fun z => [(140, .cells [.p (.int .i64 s.num), .p (.list (s.sizes.map (.int .i64))), .p (.int .i64 s.lo), .p (.int .i64 s.hi), .p (.list (s.notes.map pn))] 0), (190, .cells [.p (.int .i64 s.num), .p (.list (s.sizes.map (.int .i64))), .p (.int .i64 s.lo), .p (.int .i64 s.hi), .own 600 (s.notes.length + 1)] 0), (200, .cells [.p (.int .i64 s.num), .own 680 s.sizes.length, .p (.int .i64 s.lo), .p (.int .i64 s.hi), .p (.list (s.notes.map pn))] 0), (210, .cells [.p (.int .i64 s.num), .p (.list (s.sizes.map (.int .i64))), .p (.int .i64 s.lo), .p (.int .i64 s.hi), .p (.list (s.notes.map pn))] 0), (600, .arr 50 3 (s.notes.map pn ++ [.agg [.int .i64 x.a, .int .i64 x.b, .bool x.s]]) true), (680, .arr 3 1 (z.map (.int .i64)) false)]) ?_ (fun z ⟨hz, hzl⟩ => ?_)
        · refine cB (k1 := fun hb4 => ?_) (k0 := fun hb4 => ?_)
          · try simp only [decide_eq_true_eq, decide_eq_false_iff_not, Int.not_lt, Int.not_le, Bool.not_eq_eq_eq_not, Bool.not_true, Bool.not_false, Bool.and_eq_true, Bool.and_eq_false_iff, Bool.or_eq_true, Bool.or_eq_false_iff] at hb4
            repeat refine gwp_seq ?_
            refine gwp_region ?_
            refine v0 (k := ?_)
            refine v0 (k := ?_)
            refine v0 (k := ?_)
            refine v0 (k := ?_)
            refine v1 (hc := by (first | exact True.intro | exact pS_size _ | exact ⟨by omega, by omega, pS_size _⟩ | omega | with_reducible exact ⟨by omega, by omega, by assumption⟩ | with_reducible exact ⟨trivial, by omega, by omega, by assumption⟩ | (simp only [inI]; omega) | (simp [P.size, nt, wP, pn, all_int, allOne_p, goods_p, allOne, goods, good, G.one, P.one, P.cells] <;> first | omega | assumption | simp_all))) (k := ?_)
            refine v1 (hc := by (first | exact True.intro | exact pS_size _ | exact ⟨by omega, by omega, pS_size _⟩ | omega | with_reducible exact ⟨by omega, by omega, by assumption⟩ | with_reducible exact ⟨trivial, by omega, by omega, by assumption⟩ | (simp only [inI]; omega) | (simp [P.size, nt, wP, pn, all_int, allOne_p, goods_p, allOne, goods, good, G.one, P.one, P.cells] <;> first | omega | assumption | simp_all))) (k := ?_)
            refine v1 (hc := by (first | exact True.intro | exact pS_size _ | exact ⟨by omega, by omega, pS_size _⟩ | omega | with_reducible exact ⟨by omega, by omega, by assumption⟩ | with_reducible exact ⟨trivial, by omega, by omega, by assumption⟩ | (simp only [inI]; omega) | (simp [P.size, nt, wP, pn, all_int, allOne_p, goods_p, allOne, goods, good, G.one, P.one, P.cells] <;> first | omega | assumption | simp_all))) (k := ?_)
            refine v1 (hc := by (first | exact True.intro | exact pS_size _ | exact ⟨by omega, by omega, pS_size _⟩ | omega | with_reducible exact ⟨by omega, by omega, by assumption⟩ | with_reducible exact ⟨trivial, by omega, by omega, by assumption⟩ | (simp only [inI]; omega) | (simp [P.size, nt, wP, pn, all_int, allOne_p, goods_p, allOne, goods, good, G.one, P.one, P.cells] <;> first | omega | assumption | simp_all))) (k := ?_)
            refine s1 (hc := by (first | exact True.intro | exact pS_size _ | exact ⟨by omega, by omega, pS_size _⟩ | omega | with_reducible exact ⟨by omega, by omega, by assumption⟩ | with_reducible exact ⟨trivial, by omega, by omega, by assumption⟩ | (simp only [inI]; omega) | (simp [P.size, nt, wP, pn, all_int, allOne_p, goods_p, allOne, goods, good, G.one, P.one, P.cells] <;> first | omega | assumption | simp_all))) (k := ?_)
            refine nil0 ?_
            first
            | exact ⟨s.sizes.set kk (1 + ((b % 9 : Nat) : Int)), ⟨less_size s hb2 _ (by rw [hp]; congr 1), by simp⟩, lce [3, 4, 9, 10, 11]⟩
            | exact ⟨s.sizes, ⟨less_refl s, rfl⟩, lce [3, 4, 9, 10, 11]⟩
          · try simp only [decide_eq_true_eq, decide_eq_false_iff_not, Int.not_lt, Int.not_le, Bool.not_eq_eq_eq_not, Bool.not_true, Bool.not_false, Bool.and_eq_true, Bool.and_eq_false_iff, Bool.or_eq_true, Bool.or_eq_false_iff] at hb4
            repeat refine gwp_seq ?_
            refine gwp_skip ?_
            first
            | exact ⟨s.sizes.set kk (1 + ((b % 9 : Nat) : Int)), ⟨less_size s hb2 _ (by rw [hp]; congr 1), by simp⟩, lce [3, 4, 9, 10, 11]⟩
            | exact ⟨s.sizes, ⟨less_refl s, rfl⟩, lce [3, 4, 9, 10, 11]⟩
        · repeat refine gwp_seq ?_
          refine gwp_region ?_
          refine v0 (k := ?_)
          refine v0 (k := ?_)
          refine v0 (k := ?_)
          refine v0 (k := ?_)
          refine v0 (k := ?_)
          refine v0 (k := ?_)
          refine v0 (k := ?_)
          refine v1 (hc := by (first | exact True.intro | exact pS_size _ | exact ⟨by omega, by omega, pS_size _⟩ | omega | with_reducible exact ⟨by omega, by omega, by assumption⟩ | with_reducible exact ⟨trivial, by omega, by omega, by assumption⟩ | (simp only [inI]; omega) | (simp [P.size, nt, wP, pn, all_int, allOne_p, goods_p, allOne, goods, good, G.one, P.one, P.cells] <;> first | omega | assumption | simp_all))) (k := ?_)
          refine v1 (hc := by (first | exact True.intro | exact pS_size _ | exact ⟨by omega, by omega, pS_size _⟩ | omega | with_reducible exact ⟨by omega, by omega, by assumption⟩ | with_reducible exact ⟨trivial, by omega, by omega, by assumption⟩ | (simp only [inI]; omega) | (simp [P.size, nt, wP, pn, all_int, allOne_p, goods_p, allOne, goods, good, G.one, P.one, P.cells] <;> first | omega | assumption | simp_all))) (k := ?_)
          refine v1 (hc := by (first | exact True.intro | exact pS_size _ | exact ⟨by omega, by omega, pS_size _⟩ | omega | with_reducible exact ⟨by omega, by omega, by assumption⟩ | with_reducible exact ⟨trivial, by omega, by omega, by assumption⟩ | (simp only [inI]; omega) | (simp [P.size, nt, wP, pn, all_int, allOne_p, goods_p, allOne, goods, good, G.one, P.one, P.cells] <;> first | omega | assumption | simp_all))) (k := ?_)
          refine v0 (k := ?_)
          refine v0 (k := ?_)
          refine v0 (k := ?_)
          refine v0 (k := ?_)
          refine pc0 (spec := l_span _ _) (hent := ent39) (k := ?_)
          refine v0 (k := ?_)
          refine s1 (hc := by (first | exact True.intro | exact pS_size _ | exact ⟨by omega, by omega, pS_size _⟩ | omega | with_reducible exact ⟨by omega, by omega, by assumption⟩ | with_reducible exact ⟨trivial, by omega, by omega, by assumption⟩ | (simp only [inI]; omega) | (simp [P.size, nt, wP, pn, all_int, allOne_p, goods_p, allOne, goods, good, G.one, P.one, P.cells] <;> first | omega | assumption | simp_all))) (k := ?_)
          refine nil0 ?_
          refine cl [3, 4, 9, 10, 11] (k := ?_)
          repeat refine gwp_seq ?_
          refine gwp_region ?_
          refine v0 (k := ?_)
          refine pc0 (spec := c_count s hb2) (hent := ent16) (k := ?_)
          refine v0 (k := ?_)
          refine v0 (k := ?_)
          refine v0 (k := ?_)
          refine v0 (k := ?_)
          refine v0 (k := ?_)
          refine nil0 ?_
          refine cl [3, 4, 9, 10, 11, 13, 14] (k := ?_)
          repeat refine gwp_seq ?_
          refine gwp_region ?_
          refine v0 (k := ?_)
          refine pc0 (spec := c_drop s hb2) (hent := ent27) (k := ?_)
          refine v0 (k := ?_)
          refine v0 (k := ?_)
          refine v0 (k := ?_)
          refine v0 (k := ?_)
          refine v0 (k := ?_)
          refine nil0 ?_
          refine cl [3, 4, 9, 10, 11, 13, 14, 15, 16] (k := ?_)
          repeat refine gwp_seq ?_
          refine gwp_region ?_
          refine v0 (k := ?_)
          refine pc0 (spec := c_plates s hb2) (hent := ent20) (k := ?_)
          refine v0 (k := ?_)
          refine v0 (k := ?_)
          refine v0 (k := ?_)
          refine n1 270 false (hc := by (first | exact True.intro | exact pS_size _ | exact ⟨by omega, by omega, pS_size _⟩ | omega | with_reducible exact ⟨by omega, by omega, by assumption⟩ | with_reducible exact ⟨trivial, by omega, by omega, by assumption⟩ | (simp only [inI]; omega) | (simp [P.size, nt, wP, pn, all_int, allOne_p, goods_p, allOne, goods, good, G.one, P.one, P.cells] <;> first | omega | assumption | simp_all))) (k := ?_)
          refine s1 (hc := by (first | exact True.intro | exact pS_size _ | exact ⟨by omega, by omega, pS_size _⟩ | omega | with_reducible exact ⟨by omega, by omega, by assumption⟩ | with_reducible exact ⟨trivial, by omega, by omega, by assumption⟩ | (simp only [inI]; omega) | (simp [P.size, nt, wP, pn, all_int, allOne_p, goods_p, allOne, goods, good, G.one, P.one, P.cells] <;> first | omega | assumption | simp_all))) (k := ?_)
          refine v0 (k := ?_)
          refine nil0 ?_
          refine cl [3, 4, 9, 10, 11, 13, 14, 15, 16, 17, 18] (k := ?_)
          repeat refine gwp_seq ?_
          refine gwp_region ?_
          refine v0 (k := ?_)
          refine v0 (k := ?_)
          refine v0 (k := ?_)
          refine go_arr 680 (by simp only [mkHp_cons, mkHp_nil, Nat.reduceEqDiff, reduceIte] <;> rfl) ?_
          refine n1 1260 false (hc := by (first | exact True.intro | exact pS_size _ | exact ⟨by omega, by omega, pS_size _⟩ | omega | with_reducible exact ⟨by omega, by omega, by assumption⟩ | with_reducible exact ⟨trivial, by omega, by omega, by assumption⟩ | (simp only [inI]; omega) | (simp [P.size, nt, wP, pn, all_int, allOne_p, goods_p, allOne, goods, good, G.one, P.one, P.cells] <;> first | omega | assumption | simp_all))) (k := ?_)
          refine v0 (k := ?_)
          refine v0 (k := ?_)
          refine nil0 ?_
          refine cl [3, 4, 13, 14, 15, 16, 17, 18, 116, 117, 118] (k := ?_)
          repeat refine gwp_seq ?_
          refine gwp_block ?_
          repeat refine gwp_seq ?_
          refine gc_loop (fun mz σ => ∃ k : Nat, (k ≤ 3) ∧ mz = 3 - k ∧ σ = (sg [(3, .p (.int .u8 (b : Nat))), (4, .ref 140 0), (13, .p (.int .i64 (wA s).length)), (14, .p (.int .i64 0)), (15, .p (.int .i64 (dropR s : Nat))), (16, .p (.int .i64 0)), (17, .ref 270 0), (18, .p (.int .i64 (errA s))), (116, .own 1260 3), (117, .p (.int .i64 3)), (118, .p (.int .i64 k))] [(140, .cells [.p (.int .i64 s.num), .p (.list (s.sizes.map (.int .i64))), .p (.int .i64 s.lo), .p (.int .i64 s.hi), .p (.list (s.notes.map pn))] 0), (270, .cells [.p (.int .i64 (loA s)), .p (.int .i64 (hiA s))] 0), (1260, .arr 27 5 ((ysL s x z (((b % 2 : Nat) : Int))).map pS) true)] A [] : Sg E)) ?_ (fun mz σ hI => ?_)
          · refine lbeg [3, 4, 13, 14, 15, 16, 17, 18, 116, 117, 118] (hV := ?_)
            exact ⟨_, 0, by omega, rfl, sgE rfl (by simp only [ysL, List.map_cons, List.map_nil, pS, addN, setS, thinS, List.map_append]; rfl)⟩
          obtain ⟨k, hk, hnnk, rfl⟩ := hI
          repeat refine gwp_seq ?_
          refine gwp_region ?_
          refine v0 (k := ?_)
          refine nil0 ?_
          repeat refine gwp_seq ?_
          refine cB (k1 := fun hb5 => ?_) (k0 := fun hb5 => ?_)
          · try simp only [decide_eq_true_eq, decide_eq_false_iff_not, Int.not_lt, Int.not_le, Bool.not_eq_eq_eq_not, Bool.not_true, Bool.not_false, Bool.and_eq_true, Bool.and_eq_false_iff, Bool.or_eq_true, Bool.or_eq_false_iff] at hb5
            repeat refine gwp_seq ?_
            refine gwp_skip ?_
            refine cl [3, 4, 13, 14, 15, 16, 17, 18, 116, 117, 118] (k := ?_)
            repeat refine gwp_seq ?_
            refine gwp_block ?_
            repeat refine gwp_seq ?_
            obtain ⟨y, hy⟩ := getE (l := ysL s x z (((b % 2 : Nat) : Int))) (k := k) (by simp [ysL]; omega)
            obtain ⟨hls, hyn⟩ := ys_less hz (by omega) (by omega) (by omega) k y hy
            have hlen := hls.len
            have hnum1 := Int.le_of_eq hls.num
            have hnum2 := Int.le_of_eq hls.num.symm
            have hpS : ∀ y : Sh, pS y = .agg [.int .i64 y.num, .list (y.sizes.map (.int .i64)), .int .i64 y.lo, .int .i64 y.hi, .list (y.notes.map pn)] := fun _ => rfl
            refine gwp_region ?_
            refine v1 (hc := by (first | exact True.intro | exact pS_size _ | exact ⟨by omega, by omega, pS_size _⟩ | omega | with_reducible exact ⟨by omega, by omega, by assumption⟩ | with_reducible exact ⟨trivial, by omega, by omega, by assumption⟩ | (simp only [inI]; omega) | (simp [P.size, nt, wP, pn, all_int, allOne_p, goods_p, allOne, goods, good, G.one, P.one, P.cells] <;> first | omega | assumption | simp_all))) (k := ?_)
            refine v0 (k := ?_)
            refine n1 300 false (hc := by (first | exact True.intro | exact pS_size _ | exact ⟨by omega, by omega, pS_size _⟩ | omega | with_reducible exact ⟨by omega, by omega, by assumption⟩ | with_reducible exact ⟨trivial, by omega, by omega, by assumption⟩ | (simp only [inI]; omega) | (simp [P.size, nt, wP, pn, all_int, allOne_p, goods_p, allOne, goods, good, G.one, P.one, P.cells] <;> first | omega | assumption | simp_all))) (k := ?_)
            refine s1 (hc := by (first | exact True.intro | exact pS_size _ | exact ⟨by omega, by omega, pS_size _⟩ | omega | with_reducible exact ⟨by omega, by omega, by assumption⟩ | with_reducible exact ⟨trivial, by omega, by omega, by assumption⟩ | (simp only [inI]; omega) | (simp [P.size, nt, wP, pn, all_int, allOne_p, goods_p, allOne, goods, good, G.one, P.one, P.cells] <;> first | omega | assumption | simp_all))) (k := ?_)
            refine nil0 ?_
            refine cl [3, 4, 13, 14, 15, 16, 17, 18, 20, 116, 117, 118] (k := ?_)
            repeat refine gwp_seq ?_
            refine gwp_region ?_
            refine v0 (k := ?_)
            refine pc0 (spec := s_Shelf y (by omega) (by omega)) (hent := ent33) (k := ?_)
            refine v0 (k := ?_)
            refine nil0 ?_
            repeat refine gwp_seq ?_
            refine cB (k1 := fun hb6 => ?_) (k0 := fun hb6 => ?_)
            · try simp only [decide_eq_true_eq, decide_eq_false_iff_not, Int.not_lt, Int.not_le, Bool.not_eq_eq_eq_not, Bool.not_true, Bool.not_false, Bool.and_eq_true, Bool.and_eq_false_iff, Bool.or_eq_true, Bool.or_eq_false_iff] at hb6
              repeat refine gwp_seq ?_
              refine gwp_exit ?_
              repeat (first | refine gthen_exit ?_ | refine gnoGoto_exit ?_ | refine gblock_here ?_ | refine gblock_out rfl ?_)
              refine cl [3, 4, 13, 14, 15, 16, 17, 18, 116, 117, 118] (k := ?_)
              repeat refine gwp_seq ?_
              refine gwp_region ?_
              refine v1 (hc := by (first | exact True.intro | exact pS_size _ | exact ⟨by omega, by omega, pS_size _⟩ | omega | with_reducible exact ⟨by omega, by omega, by assumption⟩ | with_reducible exact ⟨trivial, by omega, by omega, by assumption⟩ | (simp only [inI]; omega) | (simp [P.size, nt, wP, pn, all_int, allOne_p, goods_p, allOne, goods, good, G.one, P.one, P.cells] <;> first | omega | assumption | simp_all))) (k := ?_)
              refine v0 (k := ?_)
              refine nil0 ?_
              refine lend [3, 4, 13, 14, 15, 16, 17, 18, 116, 117, 118] (h := ?_) (hV := ?_) (n' := 3 - (k + 1))
              · omega
              exact ⟨k + 1, by omega, rfl, sgE rfl rfl⟩
            · try simp only [decide_eq_true_eq, decide_eq_false_iff_not, Int.not_lt, Int.not_le, Bool.not_eq_eq_eq_not, Bool.not_true, Bool.not_false, Bool.and_eq_true, Bool.and_eq_false_iff, Bool.or_eq_true, Bool.or_eq_false_iff] at hb6
              repeat refine gwp_seq ?_
              refine gwp_skip ?_
              refine cl [3, 4, 13, 14, 15, 16, 17, 18, 20, 116, 117, 118] (k := ?_)
              repeat refine gwp_seq ?_
              have hyv : y.valid = true := by assumption
              have hdl2 := drop_le (s := y)
              have hel2 := every_lt2 (s := y) (by omega)
              refine gwp_region ?_
              refine v0 (k := ?_)
              refine pc0 (spec := c_count y hyv) (hent := ent16) (k := ?_)
              refine v0 (k := ?_)
              refine v0 (k := ?_)
              refine v0 (k := ?_)
              refine v0 (k := ?_)
              refine v0 (k := ?_)
              refine nil0 ?_
              refine cl [3, 4, 13, 14, 15, 16, 17, 18, 20, 21, 22, 116, 117, 118] (k := ?_)
              repeat refine gwp_seq ?_
              refine gwp_region ?_
              refine v0 (k := ?_)
              refine pc0 (spec := c_drop y hyv) (hent := ent27) (k := ?_)
              refine v0 (k := ?_)
              refine v0 (k := ?_)
              refine v0 (k := ?_)
              refine v0 (k := ?_)
              refine v0 (k := ?_)
              refine nil0 ?_
              refine cl [3, 4, 13, 14, 15, 16, 17, 18, 20, 21, 22, 23, 24, 116, 117, 118] (k := ?_)
              repeat refine gwp_seq ?_
              refine gwp_cut (l1 := ?_) (m1 := ?_) ?_ ?_
              rotate_left 2
              · have hco : ((wA y).length : Int) ≤ ((wA s).length : Int) := by exact_mod_cast hls.count
                · refine gwp_region ?_
                  refine v0 (k := ?_)
                  refine v0 (k := ?_)
                  refine rb 136 false (h := by (first | with_reducible rfl | with_reducible assumption | with_reducible exact decide_eq_false (by omega) | with_reducible exact decide_eq_true (by omega) | with_reducible exact nd_f (by omega) | with_reducible exact nd_t (by omega) | (simp only [*]; done) | (simp [*]; done))) (k := ?_)
                  refine v0 (k := ?_)
                  refine w0 (k := ?_)
                  refine w0 (k := ?_)
                  refine rb 139 false (h := by (first | with_reducible rfl | with_reducible assumption | with_reducible exact decide_eq_false (by omega) | with_reducible exact decide_eq_true (by omega) | with_reducible exact nd_f (by omega) | with_reducible exact nd_t (by omega) | (simp only [*]; done) | (simp [*]; done))) (k := ?_)
                  refine v0 (k := ?_)
                  refine v0 (k := ?_)
                  refine w0 (k := ?_)
                  refine w0 (k := ?_)
                  refine rb 143 false (h := by (first | with_reducible rfl | with_reducible assumption | with_reducible exact decide_eq_false (by omega) | with_reducible exact decide_eq_true (by omega) | with_reducible exact nd_f (by omega) | with_reducible exact nd_t (by omega) | (simp only [*]; done) | (simp [*]; done))) (k := ?_)
                  refine v0 (k := ?_)
                  refine v0 (k := ?_)
                  refine w0 (k := ?_)
                  refine w0 (k := ?_)
                  refine rb 147 false (h := by (first | with_reducible rfl | with_reducible assumption | with_reducible exact decide_eq_false (by omega) | with_reducible exact decide_eq_true (by omega) | with_reducible exact nd_f (by omega) | with_reducible exact nd_t (by omega) | (simp only [*]; done) | (simp [*]; done))) (k := ?_)
                  refine v0 (k := ?_)
                  refine v0 (k := ?_)
                  refine w0 (k := ?_)
                  refine w0 (k := ?_)
                  refine w0 (k := ?_)
                  refine rb 152 false (h := by (first | with_reducible rfl | with_reducible assumption | with_reducible exact decide_eq_false (by omega) | with_reducible exact decide_eq_true (by omega) | with_reducible exact nd_f (by omega) | with_reducible exact nd_t (by omega) | (simp only [*]; done) | (simp [*]; done))) (k := ?_)
                  refine v0 (k := ?_)
                  refine nil0 ?_
                  refine lcut [3, 4, 13, 14, 15, 16, 17, 18, 20, 21, 23, 116, 117, 118, 153]
              · repeat refine gwp_seq ?_
                refine cF (k := ?_)
                repeat refine gwp_seq ?_
                refine gwp_skip ?_
                refine cl [3, 4, 13, 14, 15, 16, 17, 18, 20, 21, 23, 116, 117, 118] (k := ?_)
                repeat refine gwp_seq ?_
                refine gwp_region ?_
                refine v0 (k := ?_)
                refine pc0 (spec := s_part y 0 (by omega) (by omega)) (hent := ent37) (k := ?_)
                refine pc0 (spec := c_count (partS y 0) (valid_part hyv 0)) (hent := ent16) (k := ?_)
                refine v0 (k := ?_)
                refine v0 (k := ?_)
                refine v0 (k := ?_)
                refine v0 (k := ?_)
                refine v0 (k := ?_)
                refine nil0 ?_
                refine cl [3, 4, 13, 14, 15, 16, 17, 18, 20, 21, 23, 25, 116, 117, 118] (k := ?_)
                repeat refine gwp_seq ?_
                refine gwp_cut (l1 := ?_) (m1 := ?_) ?_ ?_
                rotate_left 2
                · have hcr : decide (0 < ((wA (partS y 0)).length : Int)) = canR y 0 := by rw [wA_part]; rfl
                  cases hc : canR y 0
                  · refine gwp_region ?_
                    refine v0 (k := ?_)
                    refine v0 (k := ?_)
                    refine rb 161 false (h := by (first | with_reducible rfl | with_reducible assumption | with_reducible exact decide_eq_false (by omega) | with_reducible exact decide_eq_true (by omega) | with_reducible exact nd_f (by omega) | with_reducible exact nd_t (by omega) | (simp only [*]; done) | (simp [*]; done))) (k := ?_)
                    refine v0 (k := ?_)
                    refine x0 (k := ?_)
                    refine x0 (k := ?_)
                    refine x0 (k := ?_)
                    refine x0 (k := ?_)
                    refine x0 (k := ?_)
                    refine v0 (k := ?_)
                    refine nil0 ?_
                    refine lcut [3, 4, 13, 14, 15, 16, 17, 18, 20, 21, 116, 117, 118, 168]
                  · have hdr := hls.drop (by omega) hc
                    refine gwp_region ?_
                    refine v0 (k := ?_)
                    refine v0 (k := ?_)
                    refine rb 161 true (h := by (first | with_reducible rfl | with_reducible assumption | with_reducible exact decide_eq_false (by omega) | with_reducible exact decide_eq_true (by omega) | with_reducible exact nd_f (by omega) | with_reducible exact nd_t (by omega) | (simp only [*]; done) | (simp [*]; done))) (k := ?_)
                    refine v0 (k := ?_)
                    refine w0 (k := ?_)
                    refine pcw (spec := r_Size (dropR y) (by omega)) (hent := ent38) (k := ?_)
                    refine w0 (k := ?_)
                    refine pcw (spec := r_Size (dropR s) (by omega)) (hent := ent38) (k := ?_)
                    refine w0 (k := ?_)
                    refine rb 167 false (h := by (first | with_reducible rfl | with_reducible assumption | with_reducible exact decide_eq_false (by omega) | with_reducible exact decide_eq_true (by omega) | with_reducible exact nd_f (by omega) | with_reducible exact nd_t (by omega) | (simp only [*]; done) | (simp [*]; done))) (k := ?_)
                    refine v0 (k := ?_)
                    refine nil0 ?_
                    refine lcut [3, 4, 13, 14, 15, 16, 17, 18, 20, 21, 116, 117, 118, 168]
                · repeat refine gwp_seq ?_
                  refine cF (k := ?_)
                  repeat refine gwp_seq ?_
                  refine gwp_skip ?_
                  refine cl [3, 4, 13, 14, 15, 16, 17, 18, 20, 21, 116, 117, 118] (k := ?_)
                  repeat refine gwp_seq ?_
                  refine gwp_region ?_
                  refine v0 (k := ?_)
                  refine v0 (k := ?_)
                  refine nil0 ?_
                  repeat refine gwp_seq ?_
                  refine cB (k1 := fun hb7 => ?_) (k0 := fun hb7 => ?_)
                  · try simp only [decide_eq_true_eq, decide_eq_false_iff_not, Int.not_lt, Int.not_le, Bool.not_eq_eq_eq_not, Bool.not_true, Bool.not_false, Bool.and_eq_true, Bool.and_eq_false_iff, Bool.or_eq_true, Bool.or_eq_false_iff] at hb7
                    repeat refine gwp_seq ?_
                    refine gwp_exit ?_
                    repeat (first | refine gthen_exit ?_ | refine gnoGoto_exit ?_ | refine gblock_here ?_ | refine gblock_out rfl ?_)
                    refine cl [3, 4, 13, 14, 15, 16, 17, 18, 116, 117, 118] (k := ?_)
                    repeat refine gwp_seq ?_
                    refine gwp_region ?_
                    refine v1 (hc := by (first | exact True.intro | exact pS_size _ | exact ⟨by omega, by omega, pS_size _⟩ | omega | with_reducible exact ⟨by omega, by omega, by assumption⟩ | with_reducible exact ⟨trivial, by omega, by omega, by assumption⟩ | (simp only [inI]; omega) | (simp [P.size, nt, wP, pn, all_int, allOne_p, goods_p, allOne, goods, good, G.one, P.one, P.cells] <;> first | omega | assumption | simp_all))) (k := ?_)
                    refine v0 (k := ?_)
                    refine nil0 ?_
                    refine lend [3, 4, 13, 14, 15, 16, 17, 18, 116, 117, 118] (h := ?_) (hV := ?_) (n' := 3 - (k + 1))
                    · omega
                    exact ⟨k + 1, by omega, rfl, sgE rfl rfl⟩
                  · try simp only [decide_eq_true_eq, decide_eq_false_iff_not, Int.not_lt, Int.not_le, Bool.not_eq_eq_eq_not, Bool.not_true, Bool.not_false, Bool.and_eq_true, Bool.and_eq_false_iff, Bool.or_eq_true, Bool.or_eq_false_iff] at hb7
                    repeat refine gwp_seq ?_
                    refine gwp_skip ?_
                    refine cl [3, 4, 13, 14, 15, 16, 17, 18, 20, 116, 117, 118] (k := ?_)
                    repeat refine gwp_seq ?_
                    have hne : wA y ≠ [] := fun e => by have : (wA y).length = 0 := (by rw [e]; rfl); omega
                    have hns := hls.ne hne
                    have he0 := errA_ok hns
                    have hey := errA_ok hne
                    have hspn := hls.span hne
                    refine gwp_region ?_
                    refine v0 (k := ?_)
                    refine pc0 (spec := c_plates y hyv) (hent := ent20) (k := ?_)
                    refine v0 (k := ?_)
                    refine v0 (k := ?_)
                    refine v0 (k := ?_)
                    refine n1 370 false (hc := by (first | exact True.intro | exact pS_size _ | exact ⟨by omega, by omega, pS_size _⟩ | omega | with_reducible exact ⟨by omega, by omega, by assumption⟩ | with_reducible exact ⟨trivial, by omega, by omega, by assumption⟩ | (simp only [inI]; omega) | (simp [P.size, nt, wP, pn, all_int, allOne_p, goods_p, allOne, goods, good, G.one, P.one, P.cells] <;> first | omega | assumption | simp_all))) (k := ?_)
                    refine s1 (hc := by (first | exact True.intro | exact pS_size _ | exact ⟨by omega, by omega, pS_size _⟩ | omega | with_reducible exact ⟨by omega, by omega, by assumption⟩ | with_reducible exact ⟨trivial, by omega, by omega, by assumption⟩ | (simp only [inI]; omega) | (simp [P.size, nt, wP, pn, all_int, allOne_p, goods_p, allOne, goods, good, G.one, P.one, P.cells] <;> first | omega | assumption | simp_all))) (k := ?_)
                    refine v0 (k := ?_)
                    refine nil0 ?_
                    refine cl [3, 4, 13, 14, 15, 16, 17, 18, 20, 27, 28, 116, 117, 118] (k := ?_)
                    repeat refine gwp_seq ?_
                    refine gwp_cut (l1 := ?_) (m1 := ?_) ?_ ?_
                    rotate_left 2
                    · · refine gwp_region ?_
                        refine v0 (k := ?_)
                        refine v0 (k := ?_)
                        refine rb 177 false (h := by (first | with_reducible rfl | with_reducible assumption | with_reducible exact decide_eq_false (by omega) | with_reducible exact decide_eq_true (by omega) | with_reducible exact nd_f (by omega) | with_reducible exact nd_t (by omega) | (simp only [*]; done) | (simp [*]; done))) (k := ?_)
                        refine v0 (k := ?_)
                        refine w0 (k := ?_)
                        refine w0 (k := ?_)
                        refine rb 180 false (h := by (first | with_reducible rfl | with_reducible assumption | with_reducible exact decide_eq_false (by omega) | with_reducible exact decide_eq_true (by omega) | with_reducible exact nd_f (by omega) | with_reducible exact nd_t (by omega) | (simp only [*]; done) | (simp [*]; done))) (k := ?_)
                        refine v0 (k := ?_)
                        refine v0 (k := ?_)
                        refine w0 (k := ?_)
                        refine w0 (k := ?_)
                        refine w0 (k := ?_)
                        refine w0 (k := ?_)
                        refine w0 (k := ?_)
                        refine rb 187 false (h := by (first | with_reducible rfl | with_reducible assumption | with_reducible exact decide_eq_false (by omega) | with_reducible exact decide_eq_true (by omega) | with_reducible exact nd_f (by omega) | with_reducible exact nd_t (by omega) | (simp only [*]; done) | (simp [*]; done))) (k := ?_)
                        refine v0 (k := ?_)
                        refine v0 (k := ?_)
                        refine w0 (k := ?_)
                        refine w0 (k := ?_)
                        refine w0 (k := ?_)
                        refine w0 (k := ?_)
                        refine w0 (k := ?_)
                        refine rb 194 false (h := by (first | with_reducible rfl | with_reducible assumption | with_reducible exact decide_eq_false (by omega) | with_reducible exact decide_eq_true (by omega) | with_reducible exact nd_f (by omega) | with_reducible exact nd_t (by omega) | (simp only [*]; done) | (simp [*]; done))) (k := ?_)
                        refine v0 (k := ?_)
                        refine nil0 ?_
                        refine lcut [3, 4, 13, 14, 15, 16, 17, 18, 20, 116, 117, 118, 195]
                    · repeat refine gwp_seq ?_
                      refine cF (k := ?_)
                      repeat refine gwp_seq ?_
                      refine gwp_skip ?_
                      refine cl [3, 4, 13, 14, 15, 16, 17, 18, 20, 116, 117, 118] (k := ?_)
                      repeat refine gwp_seq ?_
                      refine gwp_region ?_
                      refine v0 (k := ?_)
                      refine v0 (k := ?_)
                      refine v0 (k := ?_)
                      refine nil0 ?_
                      refine cl [3, 4, 13, 14, 15, 16, 17, 18, 20, 116, 117, 118, 197, 198] (k := ?_)
                      repeat refine gwp_seq ?_
                      refine gwp_block ?_
                      repeat refine gwp_seq ?_
                      refine gc_loop (fun mz σ => ∃ a : Nat, ((a : Int) ≤ s.num) ∧ mz = s.num.toNat - a ∧ σ = (sg [(3, .p (.int .u8 (b : Nat))), (4, .ref 140 0), (13, .p (.int .i64 (wA s).length)), (14, .p (.int .i64 0)), (15, .p (.int .i64 (dropR s : Nat))), (16, .p (.int .i64 0)), (17, .ref 270 0), (18, .p (.int .i64 (errA s))), (20, .ref 300 0), (116, .own 1260 3), (117, .p (.int .i64 3)), (118, .p (.int .i64 k)), (197, .p (.int .i64 s.num)), (198, .p (.int .i64 a))] [(140, .cells [.p (.int .i64 s.num), .p (.list (s.sizes.map (.int .i64))), .p (.int .i64 s.lo), .p (.int .i64 s.hi), .p (.list (s.notes.map pn))] 0), (270, .cells [.p (.int .i64 (loA s)), .p (.int .i64 (hiA s))] 0), (300, .cells [.p (.int .i64 y.num), .p (.list (y.sizes.map (.int .i64))), .p (.int .i64 y.lo), .p (.int .i64 y.hi), .p (.list (y.notes.map pn))] 0), (1260, .arr 27 5 ((ysL s x z (((b % 2 : Nat) : Int))).map pS) true)] A [] : Sg E)) ?_ (fun mz σ hI => ?_)
                      · refine lbeg [3, 4, 13, 14, 15, 16, 17, 18, 20, 116, 117, 118, 197, 198] (hV := ?_)
                        exact ⟨_, 0, by omega, rfl, sgE rfl rfl⟩
                      obtain ⟨a, ha, hnna, rfl⟩ := hI
                      repeat refine gwp_seq ?_
                      refine gwp_region ?_
                      refine v0 (k := ?_)
                      refine nil0 ?_
                      repeat refine gwp_seq ?_
                      refine cB (k1 := fun hb8 => ?_) (k0 := fun hb8 => ?_)
                      · try simp only [decide_eq_true_eq, decide_eq_false_iff_not, Int.not_lt, Int.not_le, Bool.not_eq_eq_eq_not, Bool.not_true, Bool.not_false, Bool.and_eq_true, Bool.and_eq_false_iff, Bool.or_eq_true, Bool.or_eq_false_iff] at hb8
                        repeat refine gwp_seq ?_
                        refine gwp_skip ?_
                        refine cl [3, 4, 13, 14, 15, 16, 17, 18, 20, 116, 117, 118, 197, 198] (k := ?_)
                        repeat refine gwp_seq ?_
                        refine gwp_block ?_
                        repeat refine gwp_seq ?_
                        refine gwp_region ?_
                        refine v0 (k := ?_)
                        refine v0 (k := ?_)
                        refine nil0 ?_
                        refine cl [3, 4, 13, 14, 15, 16, 17, 18, 20, 29, 116, 117, 118, 197, 198] (k := ?_)
                        repeat refine gwp_seq ?_
                        refine rd ?_
                        refine d0 0 (k := ?_)
                        refine d0 1 (k := ?_)
                        refine d0 2 (k := ?_)
                        refine d1 3 (hc := by (first | exact True.intro | exact pS_size _ | exact ⟨by omega, by omega, pS_size _⟩ | omega | with_reducible exact ⟨by omega, by omega, by assumption⟩ | with_reducible exact ⟨trivial, by omega, by omega, by assumption⟩ | (simp only [inI]; omega) | (simp [P.size, nt, wP, pn, all_int, allOne_p, goods_p, allOne, goods, good, G.one, P.one, P.cells] <;> first | omega | assumption | simp_all))) (k := ?_)
                        refine d0 4 (k := ?_)
                        refine d0 5 (k := ?_)
                        refine d1 6 (hc := by (first | exact True.intro | exact pS_size _ | exact ⟨by omega, by omega, pS_size _⟩ | omega | with_reducible exact ⟨by omega, by omega, by assumption⟩ | with_reducible exact ⟨trivial, by omega, by omega, by assumption⟩ | (simp only [inI]; omega) | (simp [P.size, nt, wP, pn, all_int, allOne_p, goods_p, allOne, goods, good, G.one, P.one, P.cells] <;> first | omega | assumption | simp_all))) (k := ?_)
                        refine dpc0 7 (spec := c_same s hb2 (a := a) (b := j) (by omega) (by omega)) (hent := ent14) (k := ?_)
                        refine d0 8 (k := ?_)
                        refine d0 9 (k := ?_)
                        refine d0 10 (k := ?_)
                        refine d0 11 (k := ?_)
                        refine d0 12 (k := ?_)
                        refine dz 13 [0, 0, 0, 4, 0, 16, 60, 127, 255, 511, 511, 1023, 4095] (h := ?_)
                        refine de 13 (h := ?_)
                        refine cl [3, 4, 13, 14, 15, 16, 17, 18, 20, 29, 30, 31, 116, 117, 118, 197, 198] (k := ?_)
                        repeat refine gwp_seq ?_
                        refine rd ?_
                        refine d0 0 (k := ?_)
                        refine d0 1 (k := ?_)
                        refine d0 2 (k := ?_)
                        refine d1 3 (hc := by (first | exact True.intro | exact pS_size _ | exact ⟨by omega, by omega, pS_size _⟩ | omega | with_reducible exact ⟨by omega, by omega, by assumption⟩ | with_reducible exact ⟨trivial, by omega, by omega, by assumption⟩ | (simp only [inI]; omega) | (simp [P.size, nt, wP, pn, all_int, allOne_p, goods_p, allOne, goods, good, G.one, P.one, P.cells] <;> first | omega | assumption | simp_all))) (k := ?_)
                        refine d0 4 (k := ?_)
                        refine d0 5 (k := ?_)
                        refine d1 6 (hc := by (first | exact True.intro | exact pS_size _ | exact ⟨by omega, by omega, pS_size _⟩ | omega | with_reducible exact ⟨by omega, by omega, by assumption⟩ | with_reducible exact ⟨trivial, by omega, by omega, by assumption⟩ | (simp only [inI]; omega) | (simp [P.size, nt, wP, pn, all_int, allOne_p, goods_p, allOne, goods, good, G.one, P.one, P.cells] <;> first | omega | assumption | simp_all))) (k := ?_)
                        refine dpc0 7 (spec := c_same y hyv (a := a) (b := j) (by omega) (by omega)) (hent := ent14) (k := ?_)
                        refine d0 8 (k := ?_)
                        refine d0 9 (k := ?_)
                        refine d0 10 (k := ?_)
                        refine d0 11 (k := ?_)
                        refine d0 12 (k := ?_)
                        refine dz 13 [0, 0, 0, 4, 0, 16, 60, 127, 255, 511, 511, 1023, 4095] (h := ?_)
                        refine de 13 (h := ?_)
                        refine cl [3, 4, 13, 14, 15, 16, 17, 18, 20, 30, 31, 32, 33, 116, 117, 118, 197, 198] (k := ?_)
                        repeat refine gwp_seq ?_
                        refine gwp_cut (l1 := ?_) (m1 := ?_) ?_ ?_
                        rotate_left 2
                        · by_cases hs2 : sameA s a j = 2
                          · refine gwp_region ?_
                            refine v0 (k := ?_)
                            refine v0 (k := ?_)
                            refine rb 224 false (h := by (first | with_reducible rfl | with_reducible assumption | with_reducible exact decide_eq_false (by omega) | with_reducible exact decide_eq_true (by omega) | with_reducible exact nd_f (by omega) | with_reducible exact nd_t (by omega) | (simp only [*]; done) | (simp [*]; done))) (k := ?_)
                            refine v0 (k := ?_)
                            refine w0 (k := ?_)
                            refine w0 (k := ?_)
                            refine rb 227 false (h := by (first | with_reducible rfl | with_reducible assumption | with_reducible exact decide_eq_false (by omega) | with_reducible exact decide_eq_true (by omega) | with_reducible exact nd_f (by omega) | with_reducible exact nd_t (by omega) | (simp only [*]; done) | (simp [*]; done))) (k := ?_)
                            refine v0 (k := ?_)
                            refine v0 (k := ?_)
                            refine w0 (k := ?_)
                            refine w0 (k := ?_)
                            refine rb 231 false (h := by (first | with_reducible rfl | with_reducible assumption | with_reducible exact decide_eq_false (by omega) | with_reducible exact decide_eq_true (by omega) | with_reducible exact nd_f (by omega) | with_reducible exact nd_t (by omega) | (simp only [*]; done) | (simp [*]; done))) (k := ?_)
                            refine w0 (k := ?_)
                            refine x0 (k := ?_)
                            refine x0 (k := ?_)
                            refine x0 (k := ?_)
                            refine w0 (k := ?_)
                            refine v0 (k := ?_)
                            refine nil0 ?_
                            refine lcut [3, 4, 13, 14, 15, 16, 17, 18, 20, 116, 117, 118, 197, 198, 237]
                          · have hsm := (hls.same hne (a := a) (b := j)).resolve_left hs2
                            refine gwp_region ?_
                            refine v0 (k := ?_)
                            refine v0 (k := ?_)
                            refine rb 224 false (h := by (first | with_reducible rfl | with_reducible assumption | with_reducible exact decide_eq_false (by omega) | with_reducible exact decide_eq_true (by omega) | with_reducible exact nd_f (by omega) | with_reducible exact nd_t (by omega) | (simp only [*]; done) | (simp [*]; done))) (k := ?_)
                            refine v0 (k := ?_)
                            refine w0 (k := ?_)
                            refine w0 (k := ?_)
                            refine rb 227 false (h := by (first | with_reducible rfl | with_reducible assumption | with_reducible exact decide_eq_false (by omega) | with_reducible exact decide_eq_true (by omega) | with_reducible exact nd_f (by omega) | with_reducible exact nd_t (by omega) | (simp only [*]; done) | (simp [*]; done))) (k := ?_)
                            refine v0 (k := ?_)
                            refine v0 (k := ?_)
                            refine w0 (k := ?_)
                            refine w0 (k := ?_)
                            refine rb 231 true (h := by (first | with_reducible rfl | with_reducible assumption | with_reducible exact decide_eq_false (by omega) | with_reducible exact decide_eq_true (by omega) | with_reducible exact nd_f (by omega) | with_reducible exact nd_t (by omega) | (simp only [*]; done) | (simp [*]; done))) (k := ?_)
                            refine w0 (k := ?_)
                            refine w0 (k := ?_)
                            refine w0 (k := ?_)
                            refine w0 (k := ?_)
                            refine rb 235 false (h := by (first | with_reducible rfl | with_reducible assumption | with_reducible exact decide_eq_false (by omega) | with_reducible exact decide_eq_true (by omega) | with_reducible exact nd_f (by omega) | with_reducible exact nd_t (by omega) | (simp only [*]; done) | (simp [*]; done))) (k := ?_)
                            refine w0 (k := ?_)
                            refine v0 (k := ?_)
                            refine nil0 ?_
                            refine lcut [3, 4, 13, 14, 15, 16, 17, 18, 20, 116, 117, 118, 197, 198, 237]
                        · repeat refine gwp_seq ?_
                          refine cF (k := ?_)
                          repeat refine gwp_seq ?_
                          refine gwp_skip ?_
                          refine cl [3, 4, 13, 14, 15, 16, 17, 18, 20, 116, 117, 118, 197, 198] (k := ?_)
                          repeat refine gwp_seq ?_
                          refine gwp_region ?_
                          refine v1 (hc := by (first | exact True.intro | exact pS_size _ | exact ⟨by omega, by omega, pS_size _⟩ | omega | with_reducible exact ⟨by omega, by omega, by assumption⟩ | with_reducible exact ⟨trivial, by omega, by omega, by assumption⟩ | (simp only [inI]; omega) | (simp [P.size, nt, wP, pn, all_int, allOne_p, goods_p, allOne, goods, good, G.one, P.one, P.cells] <;> first | omega | assumption | simp_all))) (k := ?_)
                          refine v0 (k := ?_)
                          refine nil0 ?_
                          refine lend [3, 4, 13, 14, 15, 16, 17, 18, 20, 116, 117, 118, 197, 198] (h := ?_) (hV := ?_) (n' := s.num.toNat - (a + 1))
                          · omega
                          exact ⟨a + 1, by omega, rfl, sgE rfl rfl⟩
                      · try simp only [decide_eq_true_eq, decide_eq_false_iff_not, Int.not_lt, Int.not_le, Bool.not_eq_eq_eq_not, Bool.not_true, Bool.not_false, Bool.and_eq_true, Bool.and_eq_false_iff, Bool.or_eq_true, Bool.or_eq_false_iff] at hb8
                        repeat refine gwp_seq ?_
                        refine gwp_exit ?_
                        repeat (first | refine gthen_exit ?_ | refine gnoGoto_exit ?_ | refine gblock_here ?_ | refine gblock_out rfl ?_)
                        refine cl [3, 4, 13, 14, 15, 16, 17, 18, 116, 117, 118] (k := ?_)
                        repeat refine gwp_seq ?_
                        refine gwp_region ?_
                        refine v1 (hc := by (first | exact True.intro | exact pS_size _ | exact ⟨by omega, by omega, pS_size _⟩ | omega | with_reducible exact ⟨by omega, by omega, by assumption⟩ | with_reducible exact ⟨trivial, by omega, by omega, by assumption⟩ | (simp only [inI]; omega) | (simp [P.size, nt, wP, pn, all_int, allOne_p, goods_p, allOne, goods, good, G.one, P.one, P.cells] <;> first | omega | assumption | simp_all))) (k := ?_)
                        refine v0 (k := ?_)
                        refine nil0 ?_
                        refine lend [3, 4, 13, 14, 15, 16, 17, 18, 116, 117, 118] (h := ?_) (hV := ?_) (n' := 3 - (k + 1))
                        · omega
                        exact ⟨k + 1, by omega, rfl, sgE rfl rfl⟩
          · try simp only [decide_eq_true_eq, decide_eq_false_iff_not, Int.not_lt, Int.not_le, Bool.not_eq_eq_eq_not, Bool.not_true, Bool.not_false, Bool.and_eq_true, Bool.and_eq_false_iff, Bool.or_eq_true, Bool.or_eq_false_iff] at hb5
            repeat refine gwp_seq ?_
            refine gwp_exit ?_
            repeat (first | refine gthen_exit ?_ | refine gnoGoto_exit ?_ | refine gblock_here ?_ | refine gblock_out rfl ?_)
            refine cl [] (k := ?_)
            repeat refine gwp_seq ?_
            refine gwp_region ?_
            refine pc0 (spec := l_awake) (hent := ent13) (k := ?_)
            refine v0 (k := ?_)
            refine nil0 ?_
            repeat refine gwp_seq ?_
            refine gwp_ret ?_
            repeat (first | refine gthen_ret ?_ | refine gblock_ret ?_ | refine gnoGoto_ret ?_)
            refine fin_ret ?_
            refine fp (hR := ?_)
            rfl
end Go.Proofs.Ytedihdnkalmoiaa

/- The statement TwiceMore, for every input: the law returns true, and its arguments read as they did.  -/
namespace Go.Proofs.Ytedihdnkalmoiaa
open Go.Gh Go.ChangeShapes Go.WideShapes Go.ChangeAt Go.RowKit
set_option maxRecDepth 100000
theorem aj_more : ∀ ps, FitAs [(true, shSS), (true, [.int .i64, .int .i64, .bool]), (false, [.int .u8]), (false, [.int .u8])] ps → PSpec Try.prog 10 ps (.ok (.bool true)) := fun ps h => by
  simp only [FitAs] at h
  obtain ⟨_, _, rfl, q0, _, _, rfl, q1, _, _, rfl, q2, _, _, rfl, q3, rfl⟩ := h
  obtain ⟨s, rfl, hi1, hi2, hi3, hi4, hi5⟩ := sh_of q0
  obtain ⟨x, rfl, hx⟩ := note_of q1
  obtain ⟨w, rfl, hw⟩ := u8_of q2
  obtain ⟨b, rfl, hb⟩ := u8_of q3
  exact l_more s x w b hx hw hb
theorem more_lifted (os : Os) (started : os.Started) (H : Type) (enc : TypeId × Value → H) :
    ReturnsInHanded {} Try.checked os 10 .any (Rows.twiceMoreSpec.pre6 enc Try.prog Try.f10 Rows.twiceMoreRow.domain false) (Rows.twiceMoreSpec.post enc Try.prog Try.f10 false true false false) := by
  refine returnsInHanded_of_change (C := Try.checked) own started (by kernel_rfl) Try.func10
    (ChangeSpec.witness6 (enc := enc) (C := Try.checked) false ⟨#[], #[.agg #[.int .i64 0, .slice none 0 0, .int .i64 0, .int .i64 0, .slice none 0 0], .agg #[.int .i64 0, .int .i64 0, .bool false], .int .u8 0, .int .u8 0], []⟩ 8 (by kernel_rfl) (by kernel_rfl) (by kernel_rfl) (by kernel_rfl)) ?_
  intro W base args ds gs before hval hW _ _
  exact law_post (n := 9) (ss := [(true, shSS), (true, [.int .i64, .int .i64, .bool]), (false, [.int .u8]), (false, [.int .u8])]) (b := 4) laidOut (by kernel_rfl) (by kernel_rfl) (by kernel_rfl) (by kernel_rfl) rfl
    (fun ds hd => by
      have hd' : ds.length = 4 := hd
      match ds, hd' with
      | [a, b, c, d], _ => rfl) aj_more hval hW
theorem more_holds : Rows.TwiceMoreSaid :=
  OpenClaim.holds_of_wide 10 Try.f10 rfl rfl rfl rfl rfl rfl rfl ⟨rfl, rfl, rfl, rfl, rfl⟩ rfl rfl rfl rfl rfl (by kernel_rfl) Try.func10 (by kernel_rfl)
    (of_decide_eq_true (by kernel_rfl)) (by unfold Func.isWrapper; first | (rw [if_pos (by decide +kernel)]; kernel_rfl) | (rw [if_neg (by decide +kernel)]; exact ⟨rfl, rfl⟩))
    (fun os started H enc _ => more_lifted os started H enc)
end Go.Proofs.Ytedihdnkalmoiaa
