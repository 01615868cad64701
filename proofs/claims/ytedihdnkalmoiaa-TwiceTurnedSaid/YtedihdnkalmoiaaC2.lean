/- The statement TwiceTurnedSaid: the call returns true for every input, and its arguments read as before; no condition. -/
import Derived.Test.YtedihdnkalmoiaaC1
set_option linter.unusedVariables false
set_option linter.unusedSimpArgs false
/- The statement TwiceTurned: the walk. -/
namespace Go.Proofs.Ytedihdnkalmoiaa
open Go.Gh
set_option maxRecDepth 100000
set_option maxHeartbeats 4000000
theorem mk0 (n : Nat) : ((List.range n).map fun i => [G.p (.int .i64 0)].getD (i % 1) G.undef) = ((List.replicate n (0 : Int)).map (P.int .i64)).map G.p := by
  rw [List.map_replicate, List.map_replicate, List.eq_replicate_iff]
  refine ⟨by simp, fun g hg => ?_⟩
  simp only [List.mem_map, List.mem_range] at hg
  obtain ⟨i, _, rfl⟩ := hg
  rw [Nat.mod_one i]; rfl
theorem und50 : Try.prog.underlying 50 = some (.struct #[{ name := "A", type := 3, offset := 0, embedded := false, tag := "", pkgPath := "", byteOffset := 0 }, { name := "B", type := 3, offset := 1, embedded := false, tag := "", pkgPath := "", byteOffset := 8 }, { name := "Same", type := 4, offset := 2, embedded := false, tag := "", pkgPath := "", byteOffset := 16 }]) := by kernel_rfl
theorem ints_self (l : List Int) (h : l.length ≤ 1048576) : PSpec Try.prog 24 [.list (l.map (.int .i64)), .list (l.map (.int .i64))] (.ok (.bool true)) := by
  have h2 := s_Ints l l h h
  rw [decide_eq_true rfl] at h2
  exact h2
theorem one_map {ps : List P} (h : ∀ x ∈ ps, x.one = true) (n : Nat) : allOne ((ps.map G.p).take n) = true := by
  rw [← List.map_take, allOne_p, List.all_eq_true]
  exact fun x hx => h x (List.mem_of_mem_take hx)
theorem ints_one (l : List Int) : ∀ x ∈ l.map (P.int .i64), x.one = true := fun x hx => by
  obtain ⟨_, _, rfl⟩ := List.mem_map.1 hx
  rfl
theorem tmP {tu i n : Nat} {num : Int} (h : num = n) : ((i : Int) + (tu : Int)).tmod num = ((turnP n tu i : Nat) : Int) := by
  rw [h]; exact tm1 (i + tu) n
theorem s_swap (i : Nat) (n : Nat) (h : i < n) : (n : Int) - 1 - (i : Int) = ((n - 1 - i : Nat) : Int) := by omega
theorem ent40 : Enters Try.prog 40 := Enters.mk Try.func40 (by kernel_rfl) rfl
theorem c_num {E : Env Try.prog} {A : E.α} (num : Int) (n tu i : Nat) (hn : num = n) (hn0 : 0 < n) (hn1 : n ≤ 100) (htu : tu ≤ 255) (hi : i ≤ 1000) : Gh.Spec E 40 [.p (.int .i64 (i : Nat)), .ptr [.p (.int .u8 (tu : Nat))], .ptr [.p (.int .i64 num)]] (mkHp []) A (fun y => y = .ok (.p (.int .i64 (turnP n tu i : Nat))) (mkHp []) A) := by
  refine spec_of Try.func40 (rfl : Try.f40.body = some _) (Nat.le_of_ble_eq_true rfl) (fun id h => ?_) (fun j id h => ?_) ?_
  · exact wf1x h
  · exact wf2x h
  intro C hN hL
  replace hN : C.N = 11 := hN
  simp only [Gh.num, List.map_cons, List.map_nil, Nat.reduceAdd]
  have hdt : ∀ (i : Decidable True), @decide True i = true := fun i => decide_eq_true trivial
  have hdf : ∀ (i : Decidable False), @decide False i = false := fun i => decide_eq_false id
  repeat refine gwp_seq ?_
  refine gwp_region ?_
  refine v0 (k := ?_)
  refine nil0 ?_
  refine cl [0, 1, 2] (k := ?_)
  repeat refine gwp_seq ?_
  have hm := tmP (tu := tu) (i := i) hn
  have hne : num ≠ 0 := by omega
  clear hn
  refine gwp_region ?_
  refine v0 (k := ?_)
  refine v0 (k := ?_)
  refine v1 (hc := by (first | exact True.intro | omega | with_reducible exact ⟨by omega, by omega, by assumption⟩ | with_reducible exact ⟨trivial, by omega, by omega, by assumption⟩ | (simp only [inI]; omega) | (simp [P.size, nt, wP, pn, all_int, allOne_p, goods_p, allOne, goods, good, G.one, P.one, P.cells] <;> first | omega | assumption | simp_all))) (k := ?_)
  refine v1 (hc := by (first | exact True.intro | omega | with_reducible exact ⟨by omega, by omega, by assumption⟩ | with_reducible exact ⟨trivial, by omega, by omega, by assumption⟩ | (simp only [inI]; omega) | (simp [P.size, nt, wP, pn, all_int, allOne_p, goods_p, allOne, goods, good, G.one, P.one, P.cells] <;> first | omega | assumption | simp_all))) (k := ?_)
  refine v0 (k := ?_)
  refine v1 (hc := by (first | exact True.intro | omega | with_reducible exact ⟨by omega, by omega, by assumption⟩ | with_reducible exact ⟨trivial, by omega, by omega, by assumption⟩ | (simp only [inI]; omega) | (simp [P.size, nt, wP, pn, all_int, allOne_p, goods_p, allOne, goods, good, G.one, P.one, P.cells] <;> first | omega | assumption | simp_all))) (k := ?_)
  refine v0 (k := ?_)
  refine nil0 ?_
  repeat refine gwp_seq ?_
  refine gwp_ret ?_
  repeat (first | refine gthen_ret ?_ | refine gblock_ret ?_ | refine gnoGoto_ret ?_)
  refine fin_ret ?_
  refine fh [] (hR := ?_)
  rfl
theorem ent11 : Enters Try.prog 11 := Enters.mk Try.func11 (by kernel_rfl) rfl
theorem geq_note (a b c d : Int) (s t : Bool) : geq Try.prog 6 50 (.agg [.int .i64 a, .int .i64 b, .bool s]) (.agg [.int .i64 c, .int .i64 d, .bool t]) = some (decide (a = c) && (decide (b = d) && ((s == t) && true))) := by
  have h4 : Try.prog.underlying 4 = some .bool := by kernel_rfl
  have hb4 : ∀ u v : Bool, geq Try.prog 5 4 (.bool u) (.bool v) = some (u == v) := fun u v => by unfold geq; rw [h4]
  unfold geq
  rw [und50]
  have hst : Try.prog.stoodInHeld 50 = false := by kernel_rfl
  simp only [hst, Bool.false_eq_true, if_false, List.map_cons, List.map_nil]
  have p0 : ∀ (u v : Int) (z : Bool), ppart Try.prog 3 [.int .i64 u, .int .i64 v, .bool z] 0 = some (.int .i64 u) := fun u v z => by unfold ppart; rw [ti_3]; rfl
  have p1 : ∀ (u v : Int) (z : Bool), ppart Try.prog 3 [.int .i64 u, .int .i64 v, .bool z] 1 = some (.int .i64 v) := fun u v z => by unfold ppart; rw [ti_3]; rfl
  have p2 : ∀ (u v : Int) (z : Bool), ppart Try.prog 4 [.int .i64 u, .int .i64 v, .bool z] 2 = some (.bool z) := fun u v z => by unfold ppart; rw [ti_4]; rfl
  rw [p0, p0, p1, p1, p2, p2]
  rw [if_neg (by decide), if_neg (by decide), if_neg (by decide)]
  simp only []
  rw [geq_int3, geq_int3, hb4]
  rfl
theorem heg50 : Try.prog.eqGuardType Try.prog.depth 50 = false := by kernel_rfl
theorem l_turned (s : Sh) (tu : Nat) (htu : tu ≤ 255) : PSpec Try.prog 11 [.agg [.int .i64 s.num, .list (s.sizes.map (.int .i64)), .int .i64 s.lo, .int .i64 s.hi, .list (s.notes.map pn)], .int .u8 (tu : Nat)] (.ok (.bool true)) := by
  refine pspec_of Try.func11 (rfl : Try.f11.body = some _) rfl ?_
  intro E A C hN hL
  replace hN : C.N = 277 := hN
  simp only [Gh.num, List.map_cons, List.map_nil, Nat.reduceAdd]
  have hgs := geq_span
  have hgn := geq_note
  have hdt : ∀ (i : Decidable True), @decide True i = true := fun i => decide_eq_true trivial
  have hdf : ∀ (i : Decidable False), @decide False i = false := fun i => decide_eq_false id
  have hpn : ∀ n : Nt, pn n = P.agg [.int .i64 n.a, .int .i64 n.b, .bool n.s] := fun _ => rfl
  have hbt : (true == true) = true := rfl
  have hbf : (false == false) = true := rfl
  have htf : (true == false) = false := rfl
  have hft : (false == true) = false := rfl
  have h10 : ¬ (1 : Int) = 0 := by decide
  have h01 : ¬ (0 : Int) = 1 := by decide
  repeat refine gwp_seq ?_
  refine gwp_region ?_
  refine n1 120 false (hc := by (first | exact True.intro | omega | with_reducible exact ⟨by omega, by omega, by assumption⟩ | with_reducible exact ⟨trivial, by omega, by omega, by assumption⟩ | (simp only [inI]; omega) | (simp [P.size, nt, wP, pn, all_int, allOne_p, goods_p, allOne, goods, good, G.one, P.one, P.cells] <;> first | omega | assumption | simp_all))) (k := ?_)
  refine n1 130 false (hc := by (first | exact True.intro | omega | with_reducible exact ⟨by omega, by omega, by assumption⟩ | with_reducible exact ⟨trivial, by omega, by omega, by assumption⟩ | (simp only [inI]; omega) | (simp [P.size, nt, wP, pn, all_int, allOne_p, goods_p, allOne, goods, good, G.one, P.one, P.cells] <;> first | omega | assumption | simp_all))) (k := ?_)
  refine v0 (k := ?_)
  refine nil0 ?_
  refine cl [2, 3] (k := ?_)
  repeat refine gwp_seq ?_
  refine gwp_region ?_
  refine v0 (k := ?_)
  refine pc0 (spec := l_heavy s 6 12) (hent := ent12) (k := ?_)
  refine v0 (k := ?_)
  refine b0 (k1 := fun hb1 => ?_) (k0 := fun hb1 => ?_)
  · try simp only [decide_eq_true_eq, decide_eq_false_iff_not, Int.not_lt, Int.not_le, Bool.not_eq_eq_eq_not, Bool.not_true, Bool.not_false, Bool.and_eq_true, Bool.and_eq_false_iff, Bool.or_eq_true, Bool.or_eq_false_iff] at hb1
    refine x0 (k := ?_)
    refine x0 (k := ?_)
    refine x0 (k := ?_)
    refine v0 (k := ?_)
    refine v0 (k := ?_)
    refine x0 (k := ?_)
    refine x0 (k := ?_)
    refine x0 (k := ?_)
    refine v0 (k := ?_)
    refine nil0 ?_
    repeat refine gwp_seq ?_
    refine cT (k := ?_)
    repeat refine gwp_seq ?_
    refine gwp_region ?_
    refine pc0 (spec := l_awake) (hent := ent13) (k := ?_)
    refine v0 (k := ?_)
    refine nil0 ?_
    repeat refine gwp_seq ?_
    refine gwp_ret ?_
    repeat (first | refine gthen_ret ?_ | refine gblock_ret ?_ | refine gnoGoto_ret ?_)
    refine fin_ret ?_
    refine fp (hR := ?_)
    rfl
  · try simp only [decide_eq_true_eq, decide_eq_false_iff_not, Int.not_lt, Int.not_le, Bool.not_eq_eq_eq_not, Bool.not_true, Bool.not_false, Bool.and_eq_true, Bool.and_eq_false_iff, Bool.or_eq_true, Bool.or_eq_false_iff] at hb1
    refine w0 (k := ?_)
    refine pcw (spec := s_Shelf s (heavy_len hb1).1 (heavy_len hb1).2) (hent := ent33) (k := ?_)
    refine w0 (k := ?_)
    refine v0 (k := ?_)
    refine v0 (k := ?_)
    refine b0 (k1 := fun hb2 => ?_) (k0 := fun hb2 => ?_)
    · try simp only [decide_eq_true_eq, decide_eq_false_iff_not, Int.not_lt, Int.not_le, Bool.not_eq_eq_eq_not, Bool.not_true, Bool.not_false, Bool.and_eq_true, Bool.and_eq_false_iff, Bool.or_eq_true, Bool.or_eq_false_iff] at hb2
      refine x0 (k := ?_)
      refine x0 (k := ?_)
      refine x0 (k := ?_)
      refine v0 (k := ?_)
      refine nil0 ?_
      repeat refine gwp_seq ?_
      refine cT (k := ?_)
      repeat refine gwp_seq ?_
      refine gwp_region ?_
      refine pc0 (spec := l_awake) (hent := ent13) (k := ?_)
      refine v0 (k := ?_)
      refine nil0 ?_
      repeat refine gwp_seq ?_
      refine gwp_ret ?_
      repeat (first | refine gthen_ret ?_ | refine gblock_ret ?_ | refine gnoGoto_ret ?_)
      refine fin_ret ?_
      refine fp (hR := ?_)
      rfl
    · try simp only [decide_eq_true_eq, decide_eq_false_iff_not, Int.not_lt, Int.not_le, Bool.not_eq_eq_eq_not, Bool.not_true, Bool.not_false, Bool.and_eq_true, Bool.and_eq_false_iff, Bool.or_eq_true, Bool.or_eq_false_iff] at hb2
      refine w0 (k := ?_)
      refine w0 (k := ?_)
      refine w0 (k := ?_)
      refine v0 (k := ?_)
      refine nil0 ?_
      repeat refine gwp_seq ?_
      refine cB (k1 := fun hb3 => ?_) (k0 := fun hb3 => ?_)
      · try simp only [decide_eq_true_eq, decide_eq_false_iff_not, Int.not_lt, Int.not_le, Bool.not_eq_eq_eq_not, Bool.not_true, Bool.not_false, Bool.and_eq_true, Bool.and_eq_false_iff, Bool.or_eq_true, Bool.or_eq_false_iff] at hb3
        repeat refine gwp_seq ?_
        refine gwp_region ?_
        refine pc0 (spec := l_awake) (hent := ent13) (k := ?_)
        refine v0 (k := ?_)
        refine nil0 ?_
        repeat refine gwp_seq ?_
        refine gwp_ret ?_
        repeat (first | refine gthen_ret ?_ | refine gblock_ret ?_ | refine gnoGoto_ret ?_)
        refine fin_ret ?_
        refine fp (hR := ?_)
        rfl
      · try simp only [decide_eq_true_eq, decide_eq_false_iff_not, Int.not_lt, Int.not_le, Bool.not_eq_eq_eq_not, Bool.not_true, Bool.not_false, Bool.and_eq_true, Bool.and_eq_false_iff, Bool.or_eq_true, Bool.or_eq_false_iff] at hb3
        repeat refine gwp_seq ?_
        refine gwp_skip ?_
        refine cl [2, 3] (k := ?_)
        repeat refine gwp_seq ?_
        have hn := valid_num hb2
        have hrot := turn_rot hb2 (by omega) tu
        have hxv := turn_valid hb2 (by omega) tu
        have hpl := hrot.perm.pl
        refine rd ?_
        refine d0 0 (k := ?_)
        refine d0 1 (k := ?_)
        refine d0 2 (k := ?_)
        refine d0 3 (k := ?_)
        refine d0 4 (k := ?_)
        refine dn1 5 150 false (hc := by (first | exact True.intro | omega | with_reducible exact ⟨by omega, by omega, by assumption⟩ | with_reducible exact ⟨trivial, by omega, by omega, by assumption⟩ | (simp only [inI]; omega) | (simp [P.size, nt, wP, pn, all_int, allOne_p, goods_p, allOne, goods, good, G.one, P.one, P.cells] <;> first | omega | assumption | simp_all))) (k := ?_)
        refine ds1 6 (hc := by (first | exact True.intro | omega | with_reducible exact ⟨by omega, by omega, by assumption⟩ | with_reducible exact ⟨trivial, by omega, by omega, by assumption⟩ | (simp only [inI]; omega) | (simp [P.size, nt, wP, pn, all_int, allOne_p, goods_p, allOne, goods, good, G.one, P.one, P.cells] <;> first | omega | assumption | simp_all))) (k := ?_)
        refine d0 7 (k := ?_)
        refine dz 8 [0, 1, 0, 4, 12, 0, 35, 127] (h := ?_)
        refine de 8 (h := ?_)
        refine cl [2, 3, 5, 6] (k := ?_)
        repeat refine gwp_seq ?_
        refine gwp_region ?_
        refine v0 (k := ?_)
        refine v0 (k := ?_)
        refine nil0 ?_
        refine cl [2, 5, 6, 7] (k := ?_)
        repeat refine gwp_seq ?_
        refine fz 130 1 [.k] (k := ?_)
        refine fz 150 1 [.k] (k := ?_)
        refine cv 7 (.f [.n [.k], .n [.k]]) (k := ?_)
        refine gwp_region ?_
        refine v0 (k := ?_)
        refine n1 180 false (hc := by (first | exact True.intro | omega | with_reducible exact ⟨by omega, by omega, by assumption⟩ | with_reducible exact ⟨trivial, by omega, by omega, by assumption⟩ | (simp only [inI]; omega) | (simp [P.size, nt, wP, pn, all_int, allOne_p, goods_p, allOne, goods, good, G.one, P.one, P.cells] <;> first | omega | assumption | simp_all))) (k := ?_)
        refine s1 (hc := by (first | exact True.intro | omega | with_reducible exact ⟨by omega, by omega, by assumption⟩ | with_reducible exact ⟨trivial, by omega, by omega, by assumption⟩ | (simp only [inI]; omega) | (simp [P.size, nt, wP, pn, all_int, allOne_p, goods_p, allOne, goods, good, G.one, P.one, P.cells] <;> first | omega | assumption | simp_all))) (k := ?_)
        refine nil0 ?_
        refine cl [2, 5, 6, 7, 8] (k := ?_)
        repeat refine gwp_seq ?_
        refine gwp_region ?_
        refine v0 (k := ?_)
        refine n1 730 false (hc := by (first | exact True.intro | omega | with_reducible exact ⟨by omega, by omega, by assumption⟩ | with_reducible exact ⟨trivial, by omega, by omega, by assumption⟩ | (simp only [inI]; omega) | (simp [P.size, nt, wP, pn, all_int, allOne_p, goods_p, allOne, goods, good, G.one, P.one, P.cells] <;> first | omega | assumption | simp_all))) (k := ?_)
        rw [mk0]
        refine v0 (k := ?_)
        refine s1 (hc := by (first | exact True.intro | omega | with_reducible exact ⟨by omega, by omega, by assumption⟩ | with_reducible exact ⟨trivial, by omega, by omega, by assumption⟩ | (simp only [inI]; omega) | (simp [P.size, nt, wP, pn, all_int, allOne_p, goods_p, allOne, goods, good, G.one, P.one, P.cells] <;> first | omega | assumption | simp_all))) (k := ?_)
        refine v0 (k := ?_)
        refine s1 (hc := by (first | exact True.intro | omega | with_reducible exact ⟨by omega, by omega, by assumption⟩ | with_reducible exact ⟨trivial, by omega, by omega, by assumption⟩ | (simp only [inI]; omega) | (simp [P.size, nt, wP, pn, all_int, allOne_p, goods_p, allOne, goods, good, G.one, P.one, P.cells] <;> first | omega | assumption | simp_all))) (k := ?_)
        refine nil0 ?_
        refine cl [2, 5, 6, 7, 8] (k := ?_)
        repeat refine gwp_seq ?_
        refine gwp_region ?_
        refine v0 (k := ?_)
        refine v0 (k := ?_)
        refine v0 (k := ?_)
        refine v0 (k := ?_)
        refine nil0 ?_
        refine cl [2, 5, 6, 7, 8, 67, 68, 69] (k := ?_)
        repeat refine gwp_seq ?_
        refine gwp_block ?_
        repeat refine gwp_seq ?_
        refine gc_loop (fun mz σ => ∃ k : Nat, (k ≤ s.sizes.length) ∧ mz = s.sizes.length - k ∧ σ = (sg [(2, .ref 120 0), (5, .ref 150 0), (6, .p (.int .i64 s.notes.length)), (7, .fn (.func 40) [] [.ptr [.p (.int .u8 (tu : Nat))], .ptr [.p (.int .i64 s.num)]]), (8, .ref 180 0), (67, .p (.list (s.sizes.map (.int .i64)))), (68, .p (.int .i64 s.num)), (69, .p (.int .i64 k))] [(120, .cells [.p (.int .i64 s.num), .p (.list (s.sizes.map (.int .i64))), .p (.int .i64 s.lo), .p (.int .i64 s.hi), .p (.list (s.notes.map pn))] 0), (150, .cells [.p (.int .i64 s.num)] 1), (180, .cells [.p (.int .i64 s.num), .fsl 730 0 s.num.toNat, .p (.int .i64 s.lo), .p (.int .i64 s.hi), .nils] 0), (730, .cells (((xzF s.sizes s.num.toNat tu k).map (P.int .i64)).map G.p) 0)] A [] : Sg E)) ?_ (fun mz σ hI => ?_)
        · refine lbeg [2, 5, 6, 7, 8, 67, 68, 69] (hV := ?_)
          exact ⟨_, 0, by omega, rfl, sgE rfl rfl⟩
        obtain ⟨k, hk, hnnk, rfl⟩ := hI
        repeat refine gwp_seq ?_
        refine gwp_region ?_
        refine v0 (k := ?_)
        refine nil0 ?_
        repeat refine gwp_seq ?_
        refine cB (k1 := fun hb4 => ?_) (k0 := fun hb4 => ?_)
        · try simp only [decide_eq_true_eq, decide_eq_false_iff_not, Int.not_lt, Int.not_le, Bool.not_eq_eq_eq_not, Bool.not_true, Bool.not_false, Bool.and_eq_true, Bool.and_eq_false_iff, Bool.or_eq_true, Bool.or_eq_false_iff] at hb4
          repeat refine gwp_seq ?_
          refine gwp_skip ?_
          refine cl [2, 5, 6, 7, 8, 67, 68, 69] (k := ?_)
          repeat refine gwp_seq ?_
          refine gwp_block ?_
          repeat refine gwp_seq ?_
          obtain ⟨z, hz⟩ := getE (l := s.sizes) (k := k) (by omega)
          refine gwp_region ?_
          refine v0 (k := ?_)
          refine v1 (hc := by (first | exact True.intro | omega | with_reducible exact ⟨by omega, by omega, by assumption⟩ | with_reducible exact ⟨trivial, by omega, by omega, by assumption⟩ | (simp only [inI]; omega) | (simp [P.size, nt, wP, pn, all_int, allOne_p, goods_p, allOne, goods, good, G.one, P.one, P.cells] <;> first | omega | assumption | simp_all))) (k := ?_)
          refine v0 (k := ?_)
          refine v0 (k := ?_)
          refine v0 (k := ?_)
          refine nil0 ?_
          refine cl [2, 5, 6, 7, 8, 9, 10, 67, 68, 69] (k := ?_)
          repeat refine gwp_seq ?_
          have hpk := hpl k (by omega)
          have hxl := xzF_len s.sizes s.num.toNat tu k
          refine rd ?_
          refine d0 0 (k := ?_)
          refine d0 1 (k := ?_)
          refine d0 2 (k := ?_)
          refine d0 3 (k := ?_)
          refine doc0 4 [] [] [0, 0, 0] none (spec := c_num s.num s.num.toNat tu k (by omega) (by omega) (by omega) htu (by omega)) (hent := ent40) (k := ?_)
          refine d0 5 (k := ?_)
          refine d1 6 (hc := by (first | exact True.intro | omega | with_reducible exact ⟨by omega, by omega, by assumption⟩ | with_reducible exact ⟨trivial, by omega, by omega, by assumption⟩ | (simp only [inI]; omega) | (simp [P.size, nt, wP, pn, all_int, allOne_p, goods_p, allOne, goods, good, G.one, P.one, P.cells] <;> first | omega | assumption | simp_all))) (k := ?_)
          refine ds1 7 (hc := by (first | exact True.intro | omega | with_reducible exact ⟨by omega, by omega, by assumption⟩ | with_reducible exact ⟨trivial, by omega, by omega, by assumption⟩ | (simp only [inI]; omega) | (simp [P.size, nt, wP, pn, all_int, allOne_p, goods_p, allOne, goods, good, G.one, P.one, P.cells] <;> first | omega | assumption | simp_all))) (k := ?_)
          refine dz 8 [0, 1, 0, 0, 12, 0, 63, 127] (h := ?_)
          refine de 8 (h := ?_)
          refine cl [2, 5, 6, 7, 8, 67, 68, 69] (k := ?_)
          repeat refine gwp_seq ?_
          refine gwp_region ?_
          refine v1 (hc := by (first | exact True.intro | omega | with_reducible exact ⟨by omega, by omega, by assumption⟩ | with_reducible exact ⟨trivial, by omega, by omega, by assumption⟩ | (simp only [inI]; omega) | (simp [P.size, nt, wP, pn, all_int, allOne_p, goods_p, allOne, goods, good, G.one, P.one, P.cells] <;> first | omega | assumption | simp_all))) (k := ?_)
          refine v0 (k := ?_)
          refine nil0 ?_
          refine lend [2, 5, 6, 7, 8, 67, 68, 69] (h := ?_) (hV := ?_) (n' := s.sizes.length - (k + 1))
          · omega
          exact ⟨k + 1, by omega, rfl, sgE rfl (by rw [xzF_succ hz])⟩
        · try simp only [decide_eq_true_eq, decide_eq_false_iff_not, Int.not_lt, Int.not_le, Bool.not_eq_eq_eq_not, Bool.not_true, Bool.not_false, Bool.and_eq_true, Bool.and_eq_false_iff, Bool.or_eq_true, Bool.or_eq_false_iff] at hb4
          repeat refine gwp_seq ?_
          refine gwp_exit ?_
          repeat (first | refine gthen_exit ?_ | refine gnoGoto_exit ?_ | refine gblock_here ?_ | refine gblock_out rfl ?_)
          refine cl [2, 5, 6, 7, 8] (k := ?_)
          repeat refine gwp_seq ?_
          obtain rfl : k = s.sizes.length := by omega
          have hkn : s.sizes.length = s.num.toNat := by omega
          rw [show xzF s.sizes s.num.toNat tu s.sizes.length = xzF s.sizes s.num.toNat tu s.num.toNat by rw [hkn]]
          clear hkn
          refine ad 180 4 3000 50 3 true (k := ?_)
          refine gwp_region ?_
          refine v0 (k := ?_)
          refine v0 (k := ?_)
          refine v0 (k := ?_)
          refine v0 (k := ?_)
          refine nil0 ?_
          refine cl [2, 5, 6, 7, 8, 84, 85] (k := ?_)
          repeat refine gwp_seq ?_
          refine gwp_block ?_
          repeat refine gwp_seq ?_
          refine gc_loop (fun mz σ => ∃ k : Nat, (k ≤ s.notes.length) ∧ mz = s.notes.length - k ∧ σ = (sg [(2, .ref 120 0), (5, .ref 150 0), (6, .p (.int .i64 s.notes.length)), (7, .fn (.func 40) [] [.ptr [.p (.int .u8 (tu : Nat))], .ptr [.p (.int .i64 s.num)]]), (8, .ref 180 0), (84, .p (.int .i64 s.notes.length)), (85, .p (.int .i64 k))] [(120, .cells [.p (.int .i64 s.num), .p (.list (s.sizes.map (.int .i64))), .p (.int .i64 s.lo), .p (.int .i64 s.hi), .p (.list (s.notes.map pn))] 0), (150, .cells [.p (.int .i64 s.num)] 1), (180, .cells [.p (.int .i64 s.num), .fsl 730 0 s.num.toNat, .p (.int .i64 s.lo), .p (.int .i64 s.hi), .own 3000 (xnF s.notes s.num.toNat tu k).length] 0), (730, .cells (((xzF s.sizes s.num.toNat tu s.num.toNat).map (P.int .i64)).map G.p) 0), (3000, .arr 50 3 ((xnF s.notes s.num.toNat tu k).map pn) true)] A [] : Sg E)) ?_ (fun mz σ hI => ?_)
          · refine lbeg [2, 5, 6, 7, 8, 84, 85] (hV := ?_)
            exact ⟨_, 0, by omega, rfl, sgE rfl rfl⟩
          obtain ⟨k, hk, hnnk, rfl⟩ := hI
          repeat refine gwp_seq ?_
          refine gwp_region ?_
          refine v0 (k := ?_)
          refine nil0 ?_
          repeat refine gwp_seq ?_
          refine cB (k1 := fun hb5 => ?_) (k0 := fun hb5 => ?_)
          · try simp only [decide_eq_true_eq, decide_eq_false_iff_not, Int.not_lt, Int.not_le, Bool.not_eq_eq_eq_not, Bool.not_true, Bool.not_false, Bool.and_eq_true, Bool.and_eq_false_iff, Bool.or_eq_true, Bool.or_eq_false_iff] at hb5
            repeat refine gwp_seq ?_
            refine gwp_skip ?_
            refine cl [2, 5, 6, 7, 8, 84, 85] (k := ?_)
            repeat refine gwp_seq ?_
            refine gwp_block ?_
            repeat refine gwp_seq ?_
            refine gwp_region ?_
            refine v0 (k := ?_)
            refine v0 (k := ?_)
            refine nil0 ?_
            refine cl [2, 5, 6, 7, 8, 11, 84, 85] (k := ?_)
            repeat refine gwp_seq ?_
            have hxnl := Nat.le_of_eq (xnF_len (l := s.notes) (n := s.num.toNat) (tu := tu) k (by omega))
            obtain ⟨⟨ya, yb, ys⟩, hy⟩ := getE (l := s.notes) (k := s.notes.length - 1 - k) (by omega)
            have hyn := valid_note hb2 hy
            simp only at hyn
            obtain ⟨a, rfl⟩ : ∃ a : Nat, ya = a := ⟨ya.toNat, by omega⟩
            obtain ⟨b, rfl⟩ : ∃ b : Nat, yb = b := ⟨yb.toNat, by omega⟩
            have hix := s_swap k s.notes.length (by omega)
            refine gwp_region ?_
            refine v0 (k := ?_)
            refine v0 (k := ?_)
            refine v0 (k := ?_)
            refine v1 (hc := by (first | exact True.intro | omega | with_reducible exact ⟨by omega, by omega, by assumption⟩ | with_reducible exact ⟨trivial, by omega, by omega, by assumption⟩ | (simp only [inI]; omega) | (simp [P.size, nt, wP, pn, all_int, allOne_p, goods_p, allOne, goods, good, G.one, P.one, P.cells] <;> first | omega | assumption | simp_all))) (k := ?_)
            refine v0 (k := ?_)
            refine v1 (hc := by (first | exact True.intro | omega | with_reducible exact ⟨by omega, by omega, by assumption⟩ | with_reducible exact ⟨trivial, by omega, by omega, by assumption⟩ | (simp only [inI]; omega) | (simp [P.size, nt, wP, pn, all_int, allOne_p, goods_p, allOne, goods, good, G.one, P.one, P.cells] <;> first | omega | assumption | simp_all))) (k := ?_)
            refine v1 (hc := by (first | exact True.intro | omega | with_reducible exact ⟨by omega, by omega, by assumption⟩ | with_reducible exact ⟨trivial, by omega, by omega, by assumption⟩ | (simp only [inI]; omega) | (simp [P.size, nt, wP, pn, all_int, allOne_p, goods_p, allOne, goods, good, G.one, P.one, P.cells] <;> first | omega | assumption | simp_all))) (k := ?_)
            refine v0 (k := ?_)
            refine n1 220 false (hc := by (first | exact True.intro | omega | with_reducible exact ⟨by omega, by omega, by assumption⟩ | with_reducible exact ⟨trivial, by omega, by omega, by assumption⟩ | (simp only [inI]; omega) | (simp [P.size, nt, wP, pn, all_int, allOne_p, goods_p, allOne, goods, good, G.one, P.one, P.cells] <;> first | omega | assumption | simp_all))) (k := ?_)
            refine s1 (hc := by (first | exact True.intro | omega | with_reducible exact ⟨by omega, by omega, by assumption⟩ | with_reducible exact ⟨trivial, by omega, by omega, by assumption⟩ | (simp only [inI]; omega) | (simp [P.size, nt, wP, pn, all_int, allOne_p, goods_p, allOne, goods, good, G.one, P.one, P.cells] <;> first | omega | assumption | simp_all))) (k := ?_)
            refine nil0 ?_
            refine cl [2, 5, 6, 7, 8, 12, 84, 85] (k := ?_)
            repeat refine gwp_seq ?_
            refine rd ?_
            refine d0 0 (k := ?_)
            refine d0 1 (k := ?_)
            refine d0 2 (k := ?_)
            refine d0 3 (k := ?_)
            refine d0 4 (k := ?_)
            refine doc0 5 [] [] [0, 0, 0] none (spec := c_num s.num s.num.toNat tu b (by omega) (by omega) (by omega) htu (by omega)) (hent := ent40) (k := ?_)
            refine d0 6 (k := ?_)
            refine d0 7 (k := ?_)
            refine d0 8 (k := ?_)
            refine doc0 9 [] [] [0, 0, 0] none (spec := c_num s.num s.num.toNat tu a (by omega) (by omega) (by omega) htu (by omega)) (hent := ent40) (k := ?_)
            refine d0 10 (k := ?_)
            refine d0 11 (k := ?_)
            refine d0 12 (k := ?_)
            refine dn1 13 1190 false (hc := by (first | exact True.intro | omega | with_reducible exact ⟨by omega, by omega, by assumption⟩ | with_reducible exact ⟨trivial, by omega, by omega, by assumption⟩ | (simp only [inI]; omega) | (simp [P.size, nt, wP, pn, all_int, allOne_p, goods_p, allOne, goods, good, G.one, P.one, P.cells] <;> first | omega | assumption | simp_all))) (k := ?_)
            refine dn1 14 1200 false (hc := by (first | exact True.intro | omega | with_reducible exact ⟨by omega, by omega, by assumption⟩ | with_reducible exact ⟨trivial, by omega, by omega, by assumption⟩ | (simp only [inI]; omega) | (simp [P.size, nt, wP, pn, all_int, allOne_p, goods_p, allOne, goods, good, G.one, P.one, P.cells] <;> first | omega | assumption | simp_all))) (k := ?_)
            refine d0 15 (k := ?_)
            refine ds1 16 (hc := by (first | exact True.intro | omega | with_reducible exact ⟨by omega, by omega, by assumption⟩ | with_reducible exact ⟨trivial, by omega, by omega, by assumption⟩ | (simp only [inI]; omega) | (simp [P.size, nt, wP, pn, all_int, allOne_p, goods_p, allOne, goods, good, G.one, P.one, P.cells] <;> first | omega | assumption | simp_all))) (k := ?_)
            refine dz 17 [0, 1, 0, 0, 8, 28, 0, 0, 128, 508, 0, 1024, 4092, 8188, 16383, 32767, 65535] (h := ?_)
            refine de 17 (h := ?_)
            refine cl [2, 5, 6, 7, 8, 84, 85] (k := ?_)
            repeat refine gwp_seq ?_
            refine gwp_region ?_
            refine v1 (hc := by (first | exact True.intro | omega | with_reducible exact ⟨by omega, by omega, by assumption⟩ | with_reducible exact ⟨trivial, by omega, by omega, by assumption⟩ | (simp only [inI]; omega) | (simp [P.size, nt, wP, pn, all_int, allOne_p, goods_p, allOne, goods, good, G.one, P.one, P.cells] <;> first | omega | assumption | simp_all))) (k := ?_)
            refine v0 (k := ?_)
            refine nil0 ?_
            refine lend [2, 5, 6, 7, 8, 84, 85] (h := ?_) (hV := ?_) (n' := s.notes.length - (k + 1))
            · omega
            exact ⟨k + 1, by omega, rfl, sgE rfl (by rw [xnF_succ hy, List.map_append, List.length_append]; rfl)⟩
          · try simp only [decide_eq_true_eq, decide_eq_false_iff_not, Int.not_lt, Int.not_le, Bool.not_eq_eq_eq_not, Bool.not_true, Bool.not_false, Bool.and_eq_true, Bool.and_eq_false_iff, Bool.or_eq_true, Bool.or_eq_false_iff] at hb5
            repeat refine gwp_seq ?_
            refine gwp_exit ?_
            repeat (first | refine gthen_exit ?_ | refine gnoGoto_exit ?_ | refine gblock_here ?_ | refine gblock_out rfl ?_)
            refine cl [2, 5, 6, 7, 8] (k := ?_)
            repeat refine gwp_seq ?_
            obtain rfl : k = s.notes.length := by omega
            have hxl := xzF_len s.sizes s.num.toNat tu s.num.toNat
            refine gc_freezeK 730 s.num.toNat (cs := ((xzF s.sizes s.num.toNat tu s.num.toNat).map (P.int .i64)).map G.p) (fz := 0) (by simp only [mkHp_cons, mkHp_nil, Nat.reduceEqDiff, reduceIte]) (Nat.zero_le _) (by rw [List.length_map, List.length_map, hxl]; omega) (one_map (ints_one _) _) ?_
            refine gc_fslC (i1 := 180) (o1 := 1) (f1 := 0) (id := 730) (off := 0) (len := s.num.toNat) (fz := s.num.toNat) (ds := [.p (.int .i64 s.num), .fsl 730 0 s.num.toNat, .p (.int .i64 s.lo), .p (.int .i64 s.hi), .own 3000 (xnF s.notes s.num.toNat tu s.notes.length).length]) (ds2 := [.p (.int .i64 s.num), .p (.list ((xzF s.sizes s.num.toNat tu s.num.toNat).map (.int .i64))), .p (.int .i64 s.lo), .p (.int .i64 s.hi), .own 3000 (xnF s.notes s.num.toNat tu s.notes.length).length]) (cs := ((xzF s.sizes s.num.toNat tu s.num.toNat).map (P.int .i64)).map G.p) (ps := (xzF s.sizes s.num.toNat tu s.num.toNat).map (P.int .i64)) (by simp only [mkHp_cons, mkHp_nil, Nat.reduceEqDiff, reduceIte]) rfl (by simp only [mkHp_cons, mkHp_nil, Nat.reduceEqDiff, reduceIte]) (by omega) (by rw [List.drop_zero, List.take_of_length_le (by rw [List.length_map, List.length_map, hxl]; omega)]) (by rw [List.length_map, hxl]) (ints_one _) rfl ?_
            refine rd ?_
            refine dn1 0 1230 false (hc := by (first | exact True.intro | omega | with_reducible exact ⟨by omega, by omega, by assumption⟩ | with_reducible exact ⟨trivial, by omega, by omega, by assumption⟩ | (simp only [inI]; omega) | (simp [P.size, nt, wP, pn, all_int, allOne_p, goods_p, allOne, goods, good, G.one, P.one, P.cells] <;> first | omega | assumption | simp_all))) (k := ?_)
            refine d0 1 (k := ?_)
            refine d0 2 (k := ?_)
            refine dn1 3 1260 false (hc := by (first | exact True.intro | omega | with_reducible exact ⟨by omega, by omega, by assumption⟩ | with_reducible exact ⟨trivial, by omega, by omega, by assumption⟩ | (simp only [inI]; omega) | (simp [P.size, nt, wP, pn, all_int, allOne_p, goods_p, allOne, goods, good, G.one, P.one, P.cells] <;> first | omega | assumption | simp_all))) (k := ?_)
            refine dn1 4 1270 false (hc := by (first | exact True.intro | omega | with_reducible exact ⟨by omega, by omega, by assumption⟩ | with_reducible exact ⟨trivial, by omega, by omega, by assumption⟩ | (simp only [inI]; omega) | (simp [P.size, nt, wP, pn, all_int, allOne_p, goods_p, allOne, goods, good, G.one, P.one, P.cells] <;> first | omega | assumption | simp_all))) (k := ?_)
            refine d0 5 (k := ?_)
            refine d0 6 (k := ?_)
            refine dn1 7 1300 false (hc := by (first | exact True.intro | omega | with_reducible exact ⟨by omega, by omega, by assumption⟩ | with_reducible exact ⟨trivial, by omega, by omega, by assumption⟩ | (simp only [inI]; omega) | (simp [P.size, nt, wP, pn, all_int, allOne_p, goods_p, allOne, goods, good, G.one, P.one, P.cells] <;> first | omega | assumption | simp_all))) (k := ?_)
            refine d0 8 (k := ?_)
            refine d0 9 (k := ?_)
            refine dz 10 [0, 0, 2, 7, 0, 0, 32, 127, 255, 511] (h := ?_)
            refine de 10 (h := ?_)
            refine cl [2, 5, 6, 7, 8, 13, 14] (k := ?_)
            repeat refine gwp_seq ?_
            refine gwp_region ?_
            refine v0 (k := ?_)
            refine pc0 (spec := c_count s hb2) (hent := ent16) (k := ?_)
            refine v0 (k := ?_)
            refine v0 (k := ?_)
            refine v0 (k := ?_)
            refine v0 (k := ?_)
            refine v0 (k := ?_)
            refine nil0 ?_
            refine cl [2, 5, 6, 7, 8, 13, 14, 15, 16] (k := ?_)
            repeat refine gwp_seq ?_
            refine gwp_region ?_
            refine v0 (k := ?_)
            refine pc0 (spec := c_count (turnS s tu) hxv) (hent := ent16) (k := ?_)
            refine v0 (k := ?_)
            refine v0 (k := ?_)
            refine v0 (k := ?_)
            refine v0 (k := ?_)
            refine v0 (k := ?_)
            refine nil0 ?_
            refine cl [2, 5, 6, 7, 8, 13, 14, 15, 16, 17, 18] (k := ?_)
            repeat refine gwp_seq ?_
            refine gwp_region ?_
            refine v0 (k := ?_)
            refine pc0 (spec := c_plates s hb2) (hent := ent20) (k := ?_)
            refine v0 (k := ?_)
            refine v0 (k := ?_)
            refine v0 (k := ?_)
            refine n1 290 false (hc := by (first | exact True.intro | omega | with_reducible exact ⟨by omega, by omega, by assumption⟩ | with_reducible exact ⟨trivial, by omega, by omega, by assumption⟩ | (simp only [inI]; omega) | (simp [P.size, nt, wP, pn, all_int, allOne_p, goods_p, allOne, goods, good, G.one, P.one, P.cells] <;> first | omega | assumption | simp_all))) (k := ?_)
            refine s1 (hc := by (first | exact True.intro | omega | with_reducible exact ⟨by omega, by omega, by assumption⟩ | with_reducible exact ⟨trivial, by omega, by omega, by assumption⟩ | (simp only [inI]; omega) | (simp [P.size, nt, wP, pn, all_int, allOne_p, goods_p, allOne, goods, good, G.one, P.one, P.cells] <;> first | omega | assumption | simp_all))) (k := ?_)
            refine v0 (k := ?_)
            refine nil0 ?_
            refine cl [2, 5, 6, 7, 8, 13, 14, 15, 16, 17, 18, 19, 20] (k := ?_)
            repeat refine gwp_seq ?_
            refine gwp_region ?_
            refine v0 (k := ?_)
            refine pc0 (spec := c_plates (turnS s tu) hxv) (hent := ent20) (k := ?_)
            refine v0 (k := ?_)
            refine v0 (k := ?_)
            refine v0 (k := ?_)
            refine n1 310 false (hc := by (first | exact True.intro | omega | with_reducible exact ⟨by omega, by omega, by assumption⟩ | with_reducible exact ⟨trivial, by omega, by omega, by assumption⟩ | (simp only [inI]; omega) | (simp [P.size, nt, wP, pn, all_int, allOne_p, goods_p, allOne, goods, good, G.one, P.one, P.cells] <;> first | omega | assumption | simp_all))) (k := ?_)
            refine s1 (hc := by (first | exact True.intro | omega | with_reducible exact ⟨by omega, by omega, by assumption⟩ | with_reducible exact ⟨trivial, by omega, by omega, by assumption⟩ | (simp only [inI]; omega) | (simp [P.size, nt, wP, pn, all_int, allOne_p, goods_p, allOne, goods, good, G.one, P.one, P.cells] <;> first | omega | assumption | simp_all))) (k := ?_)
            refine v0 (k := ?_)
            refine nil0 ?_
            refine cl [2, 5, 6, 7, 8, 13, 14, 15, 16, 17, 18, 19, 20, 21, 22] (k := ?_)
            repeat refine gwp_seq ?_
            have hc1 := clash_le (s := s)
            have hd1 := drop_le (s := s)
            have he1 := every_lt2 (s := s) (by omega)
            have hc2 := clash_le (s := (turnS s tu))
            have hd2 := drop_le (s := (turnS s tu))
            have hxn : (turnS s tu).notes.length ≤ 12 := by rw [hrot.nn]; omega
            have he2 := every_lt2 (s := (turnS s tu)) hxn
            refine gwp_region ?_
            refine v0 (k := ?_)
            refine pc0 (spec := c_clash s hb2) (hent := ent25) (k := ?_)
            refine v0 (k := ?_)
            refine v0 (k := ?_)
            refine v0 (k := ?_)
            refine v0 (k := ?_)
            refine v0 (k := ?_)
            refine nil0 ?_
            refine cl [2, 5, 6, 7, 8, 13, 14, 15, 16, 17, 18, 19, 20, 21, 22, 23] (k := ?_)
            repeat refine gwp_seq ?_
            refine gwp_region ?_
            refine v0 (k := ?_)
            refine pc0 (spec := c_clash (turnS s tu) hxv) (hent := ent25) (k := ?_)
            refine v0 (k := ?_)
            refine v0 (k := ?_)
            refine v0 (k := ?_)
            refine v0 (k := ?_)
            refine v0 (k := ?_)
            refine nil0 ?_
            refine cl [2, 5, 6, 7, 8, 13, 14, 15, 16, 17, 18, 19, 20, 21, 22, 23, 25] (k := ?_)
            repeat refine gwp_seq ?_
            refine gwp_region ?_
            refine v0 (k := ?_)
            refine pc0 (spec := c_drop s hb2) (hent := ent27) (k := ?_)
            refine v0 (k := ?_)
            refine v0 (k := ?_)
            refine v0 (k := ?_)
            refine v0 (k := ?_)
            refine v0 (k := ?_)
            refine nil0 ?_
            refine cl [2, 5, 6, 7, 8, 13, 14, 15, 16, 17, 18, 19, 20, 21, 22, 23, 25, 27] (k := ?_)
            repeat refine gwp_seq ?_
            refine gwp_region ?_
            refine v0 (k := ?_)
            refine pc0 (spec := c_drop (turnS s tu) hxv) (hent := ent27) (k := ?_)
            refine v0 (k := ?_)
            refine v0 (k := ?_)
            refine v0 (k := ?_)
            refine v0 (k := ?_)
            refine v0 (k := ?_)
            refine nil0 ?_
            refine cl [2, 5, 6, 7, 8, 13, 14, 15, 16, 17, 18, 19, 20, 21, 22, 23, 25, 27, 29] (k := ?_)
            repeat refine gwp_seq ?_
            refine gwp_region ?_
            refine v0 (k := ?_)
            refine pc0 (spec := c_idle s hb2) (hent := ent22) (k := ?_)
            refine v0 (k := ?_)
            refine v0 (k := ?_)
            refine v0 (k := ?_)
            refine v0 (k := ?_)
            refine v0 (k := ?_)
            refine nil0 ?_
            refine cl [2, 5, 6, 7, 8, 13, 14, 15, 16, 17, 18, 19, 20, 21, 22, 23, 25, 27, 29, 31, 32] (k := ?_)
            repeat refine gwp_seq ?_
            refine gwp_region ?_
            refine v0 (k := ?_)
            refine pc0 (spec := c_idle (turnS s tu) hxv) (hent := ent22) (k := ?_)
            refine v0 (k := ?_)
            refine v0 (k := ?_)
            refine v0 (k := ?_)
            refine v0 (k := ?_)
            refine v0 (k := ?_)
            refine nil0 ?_
            refine cl [2, 5, 6, 7, 8, 13, 14, 15, 16, 17, 18, 19, 20, 21, 22, 23, 25, 27, 29, 31, 32, 33, 34] (k := ?_)
            repeat refine gwp_seq ?_
            refine gwp_region ?_
            refine v0 (k := ?_)
            refine nil0 ?_
            refine cl [2, 5, 6, 7, 8, 13, 14, 15, 16, 17, 18, 19, 20, 21, 22, 23, 25, 27, 29, 31, 32, 33, 34, 35] (k := ?_)
            repeat refine gwp_seq ?_
            have hcnt : ((wA s).length : Int) = ((wA (turnS s tu)).length : Int) := by rw [hrot.count]
            have hlo := hrot.span.1
            have hhi := hrot.span.2
            have herr := hrot.err
            have hpc := hrot.clash (by omega)
            have hpd := hrot.drop (by omega)
            have hi1 := idleA_le (s := s)
            have hi2 := idleA_le (s := (turnS s tu))
            refine gwp_cut (l1 := ?_) (m1 := ?_) ?_ ?_
            rotate_left 2
            · · refine gwp_region ?_
                refine v0 (k := ?_)
                refine v0 (k := ?_)
                refine v0 (k := ?_)
                refine rb 173 false (h := by (first | with_reducible rfl | with_reducible assumption | with_reducible exact decide_eq_false (by omega) | with_reducible exact decide_eq_true (by omega) | with_reducible exact nd_f (by omega) | with_reducible exact nd_t (by omega) | (simp only [*]; done) | (simp [*]; done))) (k := ?_)
                refine v0 (k := ?_)
                refine w0 (k := ?_)
                refine w0 (k := ?_)
                refine w0 (k := ?_)
                refine rb 177 false (h := by (first | with_reducible rfl | with_reducible assumption | with_reducible exact decide_eq_false (by omega) | with_reducible exact decide_eq_true (by omega) | with_reducible exact nd_f (by omega) | with_reducible exact nd_t (by omega) | (simp only [*]; done) | (simp [*]; done))) (k := ?_)
                refine v0 (k := ?_)
                refine v0 (k := ?_)
                refine w0 (k := ?_)
                refine w0 (k := ?_)
                refine w1 (hc := by (exact heg24)) (k := ?_)
                refine rb 182 false (h := by (first | with_reducible rfl | with_reducible assumption | with_reducible exact decide_eq_false (by omega) | with_reducible exact decide_eq_true (by omega) | with_reducible exact nd_f (by omega) | with_reducible exact nd_t (by omega) | (simp only [*]; done) | (simp [*]; done))) (k := ?_)
                refine v0 (k := ?_)
                refine v0 (k := ?_)
                refine w0 (k := ?_)
                refine w0 (k := ?_)
                refine w0 (k := ?_)
                refine rb 187 false (h := by (first | with_reducible rfl | with_reducible assumption | with_reducible exact decide_eq_false (by omega) | with_reducible exact decide_eq_true (by omega) | with_reducible exact nd_f (by omega) | with_reducible exact nd_t (by omega) | (simp only [*]; done) | (simp [*]; done))) (k := ?_)
                refine v0 (k := ?_)
                refine v0 (k := ?_)
                refine w0 (k := ?_)
                refine w0 (k := ?_)
                refine pcw (spec := r_Size (clashR s) (by omega)) (hent := ent38) (k := ?_)
                refine w0 (k := ?_)
                refine w0 (k := ?_)
                refine pcw (spec := r_Size (clashR (turnS s tu)) (by omega)) (hent := ent38) (k := ?_)
                refine w0 (k := ?_)
                refine rb 196 false (h := by (first | with_reducible rfl | with_reducible assumption | with_reducible exact decide_eq_false (by omega) | with_reducible exact decide_eq_true (by omega) | with_reducible exact nd_f (by omega) | with_reducible exact nd_t (by omega) | (simp only [*]; done) | (simp [*]; done))) (k := ?_)
                refine v0 (k := ?_)
                refine v0 (k := ?_)
                refine w0 (k := ?_)
                refine w0 (k := ?_)
                refine pcw (spec := r_Size (dropR s) (by omega)) (hent := ent38) (k := ?_)
                refine w0 (k := ?_)
                refine w0 (k := ?_)
                refine pcw (spec := r_Size (dropR (turnS s tu)) (by omega)) (hent := ent38) (k := ?_)
                refine w0 (k := ?_)
                refine rb 205 false (h := by (first | with_reducible rfl | with_reducible assumption | with_reducible exact decide_eq_false (by omega) | with_reducible exact decide_eq_true (by omega) | with_reducible exact nd_f (by omega) | with_reducible exact nd_t (by omega) | (simp only [*]; done) | (simp [*]; done))) (k := ?_)
                refine v0 (k := ?_)
                refine v0 (k := ?_)
                refine w0 (k := ?_)
                refine w0 (k := ?_)
                refine w0 (k := ?_)
                refine rb 210 false (h := by (first | with_reducible rfl | with_reducible assumption | with_reducible exact decide_eq_false (by omega) | with_reducible exact decide_eq_true (by omega) | with_reducible exact nd_f (by omega) | with_reducible exact nd_t (by omega) | (simp only [*]; done) | (simp [*]; done))) (k := ?_)
                refine v0 (k := ?_)
                refine nil0 ?_
                refine lcut [2, 5, 6, 7, 8, 13, 14, 31, 33, 211]
            · repeat refine gwp_seq ?_
              refine cF (k := ?_)
              repeat refine gwp_seq ?_
              refine gwp_skip ?_
              refine cl [2, 5, 6, 7, 8, 13, 14, 31, 33] (k := ?_)
              repeat refine gwp_seq ?_
              refine gwp_region ?_
              refine v0 (k := ?_)
              refine v0 (k := ?_)
              refine nil0 ?_
              refine cl [2, 5, 6, 7, 8, 13, 14, 31, 33, 212, 213] (k := ?_)
              repeat refine gwp_seq ?_
              refine gwp_block ?_
              repeat refine gwp_seq ?_
              refine gc_loop (fun mz σ => ∃ k : Nat, (k ≤ s.notes.length) ∧ mz = s.notes.length - k ∧ σ = (sg [(2, .ref 120 0), (5, .ref 150 0), (6, .p (.int .i64 s.notes.length)), (7, .fn (.func 40) [] [.ptr [.p (.int .u8 (tu : Nat))], .ptr [.p (.int .i64 s.num)]]), (8, .ref 180 0), (13, .own 1230 s.notes.length), (14, .own 1270 s.sizes.length), (31, .p (.int .i64 (idleA s : Nat))), (33, .p (.int .i64 (idleA (turnS s tu) : Nat))), (212, .p (.int .i64 s.notes.length)), (213, .p (.int .i64 k))] [(120, .cells [.p (.int .i64 s.num), .p (.list (s.sizes.map (.int .i64))), .p (.int .i64 s.lo), .p (.int .i64 s.hi), .p (.list (s.notes.map pn))] 0), (150, .cells [.p (.int .i64 s.num)] 1), (180, .cells [.p (.int .i64 s.num), .p (.list ((xzF s.sizes s.num.toNat tu s.num.toNat).map (.int .i64))), .p (.int .i64 s.lo), .p (.int .i64 s.hi), .own 3000 (xnF s.notes s.num.toNat tu s.notes.length).length] 0), (1230, .arr 50 3 (s.notes.map pn) true), (1270, .arr 3 1 (s.sizes.map (.int .i64)) true), (3000, .arr 50 3 ((xnF s.notes s.num.toNat tu s.notes.length).map pn) true)] A [] : Sg E)) ?_ (fun mz σ hI => ?_)
              · refine lbeg [2, 5, 6, 7, 8, 13, 14, 31, 33, 212, 213] (hV := ?_)
                exact ⟨_, 0, by omega, rfl, sgE rfl rfl⟩
              obtain ⟨k, hk, hnnk, rfl⟩ := hI
              repeat refine gwp_seq ?_
              refine gwp_region ?_
              refine v0 (k := ?_)
              refine nil0 ?_
              repeat refine gwp_seq ?_
              refine cB (k1 := fun hb6 => ?_) (k0 := fun hb6 => ?_)
              · try simp only [decide_eq_true_eq, decide_eq_false_iff_not, Int.not_lt, Int.not_le, Bool.not_eq_eq_eq_not, Bool.not_true, Bool.not_false, Bool.and_eq_true, Bool.and_eq_false_iff, Bool.or_eq_true, Bool.or_eq_false_iff] at hb6
                repeat refine gwp_seq ?_
                refine gwp_skip ?_
                refine cl [2, 5, 6, 7, 8, 13, 14, 31, 33, 212, 213] (k := ?_)
                repeat refine gwp_seq ?_
                refine gwp_block ?_
                repeat refine gwp_seq ?_
                refine gwp_region ?_
                refine v0 (k := ?_)
                refine v0 (k := ?_)
                refine nil0 ?_
                refine cl [2, 5, 6, 7, 8, 13, 14, 31, 33, 36, 212, 213] (k := ?_)
                repeat refine gwp_seq ?_
                refine gwp_cut (l1 := ?_) (m1 := ?_) ?_ ?_
                rotate_left 2
                · obtain ⟨y, hy⟩ := getE (l := s.notes) (k := k) (by omega)
                  have hys : (y.s == y.s) = true := by simp
                  have hbi := bit_i64 (idleA s) k (by omega) (by omega)
                  have hbj := bit_i64 (idleA (turnS s tu)) (s.notes.length - 1 - k) (by omega) (by omega)
                  have hid := hrot.idle (by omega) (k := k) (by omega)
                  have hix := s_swap k s.notes.length (by omega)
                  · refine rd ?_
                    refine d0 0 (k := ?_)
                    refine d0 1 (k := ?_)
                    refine d1 2 (hc := by (first | exact True.intro | omega | with_reducible exact ⟨by omega, by omega, by assumption⟩ | with_reducible exact ⟨trivial, by omega, by omega, by assumption⟩ | (simp only [inI]; omega) | (simp [P.size, nt, wP, pn, all_int, allOne_p, goods_p, allOne, goods, good, G.one, P.one, P.cells] <;> first | omega | assumption | simp_all))) (k := ?_)
                    refine d0 3 (k := ?_)
                    refine d0 4 (k := ?_)
                    refine d0 5 (k := ?_)
                    refine d1 6 (hc := by (first | exact True.intro | omega | with_reducible exact ⟨by omega, by omega, by assumption⟩ | with_reducible exact ⟨trivial, by omega, by omega, by assumption⟩ | (simp only [inI]; omega) | (simp [P.size, nt, wP, pn, all_int, allOne_p, goods_p, allOne, goods, good, G.one, P.one, P.cells] <;> first | omega | assumption | simp_all))) (k := ?_)
                    refine d0 7 (k := ?_)
                    refine d1 8 (hc := by (first | exact True.intro | omega | with_reducible exact ⟨by omega, by omega, by assumption⟩ | with_reducible exact ⟨trivial, by omega, by omega, by assumption⟩ | (simp only [inI]; omega) | (simp [P.size, nt, wP, pn, all_int, allOne_p, goods_p, allOne, goods, good, G.one, P.one, P.cells] <;> first | omega | assumption | simp_all))) (k := ?_)
                    refine d1 9 (hc := by (first | exact True.intro | omega | with_reducible exact ⟨by omega, by omega, by assumption⟩ | with_reducible exact ⟨trivial, by omega, by omega, by assumption⟩ | (simp only [inI]; omega) | (simp [P.size, nt, wP, pn, all_int, allOne_p, goods_p, allOne, goods, good, G.one, P.one, P.cells] <;> first | omega | assumption | simp_all))) (k := ?_)
                    refine d0 10 (k := ?_)
                    refine d0 11 (k := ?_)
                    refine d0 12 (k := ?_)
                    refine dw0 13 (k := ?_)
                    refine dw0 14 (k := ?_)
                    refine dw1 15 (hc := by (first | exact True.intro | omega | with_reducible exact ⟨by omega, by omega, by assumption⟩ | with_reducible exact ⟨trivial, by omega, by omega, by assumption⟩ | (simp only [inI]; omega) | (simp [P.size, nt, wP, pn, all_int, allOne_p, goods_p, allOne, goods, good, G.one, P.one, P.cells] <;> first | omega | assumption | simp_all))) (k := ?_)
                    refine dw0 16 (k := ?_)
                    refine dw0 17 (k := ?_)
                    refine dw0 18 (k := ?_)
                    refine dw0 19 (k := ?_)
                    refine dw1 20 (hc := by (first | exact True.intro | omega | with_reducible exact ⟨by omega, by omega, by assumption⟩ | with_reducible exact ⟨trivial, by omega, by omega, by assumption⟩ | (simp only [inI]; omega) | (simp [P.size, nt, wP, pn, all_int, allOne_p, goods_p, allOne, goods, good, G.one, P.one, P.cells] <;> first | omega | assumption | simp_all))) (k := ?_)
                    refine dw0 21 (k := ?_)
                    refine dw1 22 (hc := by (exact heg50)) (k := ?_)
                    refine d0 23 (k := ?_)
                    refine dz 24 [0, 0, 3, 7, 0, 0, 32, 0, 224, 496, 1008, 2047, 4095, 8191, 8191, 32767, 65535, 8191, 139263, 8191, 925695, 1974271, 4194303, 8388607] (h := ?_)
                    refine de 24 (h := ?_)
                    refine lcut [2, 5, 6, 7, 8, 13, 14, 31, 33, 212, 213, 239]
                · repeat refine gwp_seq ?_
                  refine cF (k := ?_)
                  repeat refine gwp_seq ?_
                  refine gwp_skip ?_
                  refine cl [2, 5, 6, 7, 8, 13, 14, 31, 33, 212, 213] (k := ?_)
                  repeat refine gwp_seq ?_
                  refine gwp_region ?_
                  refine v1 (hc := by (first | exact True.intro | omega | with_reducible exact ⟨by omega, by omega, by assumption⟩ | with_reducible exact ⟨trivial, by omega, by omega, by assumption⟩ | (simp only [inI]; omega) | (simp [P.size, nt, wP, pn, all_int, allOne_p, goods_p, allOne, goods, good, G.one, P.one, P.cells] <;> first | omega | assumption | simp_all))) (k := ?_)
                  refine v0 (k := ?_)
                  refine nil0 ?_
                  refine lend [2, 5, 6, 7, 8, 13, 14, 31, 33, 212, 213] (h := ?_) (hV := ?_) (n' := s.notes.length - (k + 1))
                  · omega
                  exact ⟨k + 1, by omega, rfl, sgE rfl rfl⟩
              · try simp only [decide_eq_true_eq, decide_eq_false_iff_not, Int.not_lt, Int.not_le, Bool.not_eq_eq_eq_not, Bool.not_true, Bool.not_false, Bool.and_eq_true, Bool.and_eq_false_iff, Bool.or_eq_true, Bool.or_eq_false_iff] at hb6
                repeat refine gwp_seq ?_
                refine gwp_exit ?_
                repeat (first | refine gthen_exit ?_ | refine gnoGoto_exit ?_ | refine gblock_here ?_ | refine gblock_out rfl ?_)
                refine cl [2, 5, 7, 8, 14] (k := ?_)
                repeat refine gwp_seq ?_
                refine gwp_region ?_
                refine v0 (k := ?_)
                refine v0 (k := ?_)
                refine nil0 ?_
                refine cl [2, 7, 8, 14, 241, 242] (k := ?_)
                repeat refine gwp_seq ?_
                refine gwp_block ?_
                repeat refine gwp_seq ?_
                refine gc_loop (fun mz σ => ∃ k : Nat, ((k : Int) ≤ s.num) ∧ mz = s.num.toNat - k ∧ σ = (sg [(2, .ref 120 0), (7, .fn (.func 40) [] [.ptr [.p (.int .u8 (tu : Nat))], .ptr [.p (.int .i64 s.num)]]), (8, .ref 180 0), (14, .own 1270 s.sizes.length), (241, .p (.int .i64 s.num)), (242, .p (.int .i64 k))] [(120, .cells [.p (.int .i64 s.num), .p (.list (s.sizes.map (.int .i64))), .p (.int .i64 s.lo), .p (.int .i64 s.hi), .p (.list (s.notes.map pn))] 0), (180, .cells [.p (.int .i64 s.num), .p (.list ((xzF s.sizes s.num.toNat tu s.num.toNat).map (.int .i64))), .p (.int .i64 s.lo), .p (.int .i64 s.hi), .own 3000 (xnF s.notes s.num.toNat tu s.notes.length).length] 0), (1270, .arr 3 1 (s.sizes.map (.int .i64)) true), (3000, .arr 50 3 ((xnF s.notes s.num.toNat tu s.notes.length).map pn) true)] A [] : Sg E)) ?_ (fun mz σ hI => ?_)
                · refine lbeg [2, 7, 8, 14, 241, 242] (hV := ?_)
                  exact ⟨_, 0, by omega, rfl, sgE rfl rfl⟩
                obtain ⟨k, hk, hnnk, rfl⟩ := hI
                repeat refine gwp_seq ?_
                refine gwp_region ?_
                refine v0 (k := ?_)
                refine nil0 ?_
                repeat refine gwp_seq ?_
                refine cB (k1 := fun hb7 => ?_) (k0 := fun hb7 => ?_)
                · try simp only [decide_eq_true_eq, decide_eq_false_iff_not, Int.not_lt, Int.not_le, Bool.not_eq_eq_eq_not, Bool.not_true, Bool.not_false, Bool.and_eq_true, Bool.and_eq_false_iff, Bool.or_eq_true, Bool.or_eq_false_iff] at hb7
                  repeat refine gwp_seq ?_
                  refine gwp_skip ?_
                  refine cl [2, 7, 8, 14, 241, 242] (k := ?_)
                  repeat refine gwp_seq ?_
                  refine gwp_block ?_
                  repeat refine gwp_seq ?_
                  refine gwp_region ?_
                  refine v0 (k := ?_)
                  refine v0 (k := ?_)
                  refine nil0 ?_
                  refine cl [2, 7, 8, 14, 37, 241, 242] (k := ?_)
                  repeat refine gwp_seq ?_
                  have hp0 := hpl 0 (by omega)
                  have hpk := hpl k (by omega)
                  have hxnum : (turnS s tu).num = s.num := rfl
                  refine gwp_region ?_
                  refine v0 (k := ?_)
                  refine v0 (k := ?_)
                  refine pc0 (spec := c_same s hb2 (a := (0 : Nat)) (b := k) (by omega) (by omega)) (hent := ent14) (k := ?_)
                  refine v0 (k := ?_)
                  refine v0 (k := ?_)
                  refine v0 (k := ?_)
                  refine v0 (k := ?_)
                  refine v0 (k := ?_)
                  refine nil0 ?_
                  refine cl [2, 7, 8, 14, 37, 38, 39, 241, 242] (k := ?_)
                  repeat refine gwp_seq ?_
                  refine rd ?_
                  refine d0 0 (k := ?_)
                  refine d0 1 (k := ?_)
                  refine doc0 2 [] [] [0, 0, 0] none (spec := c_num s.num s.num.toNat tu 0 (by omega) (by omega) (by omega) htu (by omega)) (hent := ent40) (k := ?_)
                  refine d0 3 (k := ?_)
                  refine d0 4 (k := ?_)
                  refine doc0 5 [] [] [0, 0, 0] none (spec := c_num s.num s.num.toNat tu k (by omega) (by omega) (by omega) htu (by omega)) (hent := ent40) (k := ?_)
                  refine dpc0 6 (spec := c_same (turnS s tu) hxv (a := (turnP s.num.toNat tu 0 : Nat)) (b := (turnP s.num.toNat tu k : Nat)) (by omega) (by omega)) (hent := ent14) (k := ?_)
                  refine d0 7 (k := ?_)
                  refine d0 8 (k := ?_)
                  refine d0 9 (k := ?_)
                  refine d0 10 (k := ?_)
                  refine d0 11 (k := ?_)
                  refine dz 12 [0, 0, 2, 0, 0, 30, 63, 127, 255, 255, 511, 2047] (h := ?_)
                  refine de 12 (h := ?_)
                  refine cl [2, 7, 8, 14, 38, 39, 40, 41, 241, 242] (k := ?_)
                  repeat refine gwp_seq ?_
                  refine gwp_cut (l1 := ?_) (m1 := ?_) ?_ ?_
                  rotate_left 2
                  · have hsm := hrot.same (a := 0) (b := k) (by omega) (by omega)
                    · refine gwp_region ?_
                      refine v0 (k := ?_)
                      refine v0 (k := ?_)
                      refine v0 (k := ?_)
                      refine rb 263 false (h := by (first | with_reducible rfl | with_reducible assumption | with_reducible exact decide_eq_false (by omega) | with_reducible exact decide_eq_true (by omega) | with_reducible exact nd_f (by omega) | with_reducible exact nd_t (by omega) | (simp only [*]; done) | (simp [*]; done))) (k := ?_)
                      refine v0 (k := ?_)
                      refine w0 (k := ?_)
                      refine w0 (k := ?_)
                      refine w0 (k := ?_)
                      refine rb 267 false (h := by (first | with_reducible rfl | with_reducible assumption | with_reducible exact decide_eq_false (by omega) | with_reducible exact decide_eq_true (by omega) | with_reducible exact nd_f (by omega) | with_reducible exact nd_t (by omega) | (simp only [*]; done) | (simp [*]; done))) (k := ?_)
                      refine v0 (k := ?_)
                      refine nil0 ?_
                      refine lcut [2, 7, 8, 14, 241, 242, 268]
                  · repeat refine gwp_seq ?_
                    refine cF (k := ?_)
                    repeat refine gwp_seq ?_
                    refine gwp_skip ?_
                    refine cl [2, 7, 8, 14, 241, 242] (k := ?_)
                    repeat refine gwp_seq ?_
                    refine gwp_region ?_
                    refine v1 (hc := by (first | exact True.intro | omega | with_reducible exact ⟨by omega, by omega, by assumption⟩ | with_reducible exact ⟨trivial, by omega, by omega, by assumption⟩ | (simp only [inI]; omega) | (simp [P.size, nt, wP, pn, all_int, allOne_p, goods_p, allOne, goods, good, G.one, P.one, P.cells] <;> first | omega | assumption | simp_all))) (k := ?_)
                    refine v0 (k := ?_)
                    refine nil0 ?_
                    refine lend [2, 7, 8, 14, 241, 242] (h := ?_) (hV := ?_) (n' := s.num.toNat - (k + 1))
                    · omega
                    exact ⟨k + 1, by omega, rfl, sgE rfl rfl⟩
                · try simp only [decide_eq_true_eq, decide_eq_false_iff_not, Int.not_lt, Int.not_le, Bool.not_eq_eq_eq_not, Bool.not_true, Bool.not_false, Bool.and_eq_true, Bool.and_eq_false_iff, Bool.or_eq_true, Bool.or_eq_false_iff] at hb7
                  repeat refine gwp_seq ?_
                  refine gwp_exit ?_
                  repeat (first | refine gthen_exit ?_ | refine gnoGoto_exit ?_ | refine gblock_here ?_ | refine gblock_out rfl ?_)
                  refine cl [2, 14] (k := ?_)
                  repeat refine gwp_seq ?_
                  refine gwp_region ?_
                  refine v0 (k := ?_)
                  refine v0 (k := ?_)
                  refine v0 (k := ?_)
                  refine pc0 (spec := ints_self s.sizes (by omega)) (hent := ent24) (k := ?_)
                  refine v0 (k := ?_)
                  refine rb 274 true (h := by (first | with_reducible rfl | with_reducible assumption | with_reducible exact decide_eq_false (by omega) | with_reducible exact decide_eq_true (by omega) | with_reducible exact nd_f (by omega) | with_reducible exact nd_t (by omega) | (simp only [*]; done) | (simp [*]; done))) (k := ?_)
                  refine pcw (spec := l_awake) (hent := ent13) (k := ?_)
                  refine v0 (k := ?_)
                  refine v0 (k := ?_)
                  refine nil0 ?_
                  repeat refine gwp_seq ?_
                  refine gwp_ret ?_
                  repeat (first | refine gthen_ret ?_ | refine gblock_ret ?_ | refine gnoGoto_ret ?_)
                  refine fin_ret ?_
                  refine fp (hR := ?_)
                  rfl
end Go.Proofs.Ytedihdnkalmoiaa

/- The statement TwiceTurned, for every input: the law returns true, and its arguments read as they did.  -/
namespace Go.Proofs.Ytedihdnkalmoiaa
open Go.Gh Go.ChangeShapes Go.WideShapes Go.ChangeAt Go.RowKit
set_option maxRecDepth 100000
theorem aj_turned : ∀ ps, FitAs [(true, shSS), (false, [.int .u8])] ps → PSpec Try.prog 11 ps (.ok (.bool true)) := fun ps h => by
  simp only [FitAs] at h
  obtain ⟨_, _, rfl, q0, _, _, rfl, q1, rfl⟩ := h
  obtain ⟨s, rfl, hi1, hi2, hi3, hi4, hi5⟩ := sh_of q0
  obtain ⟨t, rfl, ht⟩ := u8_of q1
  exact l_turned s t ht
theorem turned_lifted (os : Os) (started : os.Started) (H : Type) (enc : TypeId × Value → H) :
    ReturnsInHanded {} Try.checked os 11 .any (Rows.twiceTurnedSpec.pre6 enc Try.prog Try.f11 Rows.twiceTurnedRow.domain false) (Rows.twiceTurnedSpec.post enc Try.prog Try.f11 false true false false) := by
  refine returnsInHanded_of_change (C := Try.checked) own started (by kernel_rfl) Try.func11
    (ChangeSpec.witness6 (enc := enc) (C := Try.checked) false ⟨#[], #[.agg #[.int .i64 0, .slice none 0 0, .int .i64 0, .int .i64 0, .slice none 0 0], .int .u8 0], []⟩ 8 (by kernel_rfl) (by kernel_rfl) (by kernel_rfl) (by kernel_rfl)) ?_
  intro W base args ds gs before hval hW _ _
  exact law_post (n := 9) (ss := [(true, shSS), (false, [.int .u8])]) (b := 4) laidOut (by kernel_rfl) (by kernel_rfl) (by kernel_rfl) (by kernel_rfl) rfl
    (fun ds hd => by
      have hd' : ds.length = 2 := hd
      match ds, hd' with
      | [a, b], _ => rfl) aj_turned hval hW
theorem turned_holds : Rows.TwiceTurnedSaid :=
  OpenClaim.holds_of_wide 11 Try.f11 rfl rfl rfl rfl rfl rfl rfl ⟨rfl, rfl, rfl, rfl, rfl⟩ rfl rfl rfl rfl rfl (by kernel_rfl) Try.func11 (by kernel_rfl)
    (of_decide_eq_true (by kernel_rfl)) (by unfold Func.isWrapper; first | (rw [if_pos (by decide +kernel)]; kernel_rfl) | (rw [if_neg (by decide +kernel)]; exact ⟨rfl, rfl⟩))
    (fun os started H enc _ => turned_lifted os started H enc)
end Go.Proofs.Ytedihdnkalmoiaa
