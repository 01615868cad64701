/- The statement TwiceTrueSaid: the call returns true for every input, and its arguments read as before; no condition. -/
import Derived.Test.YtedihdnkalmoiaaC1
set_option linter.unusedVariables false
set_option linter.unusedSimpArgs false
/- The statement TwiceTrue: the walk. -/
namespace Go.Proofs.Ytedihdnkalmoiaa
open Go.Gh
set_option maxRecDepth 100000
set_option maxHeartbeats 4000000
theorem maxLen_le : maxLen ≤ 9223372036854775807 := by decide
theorem mk0 (n : Nat) : ((List.range n).map fun i => [G.p (.int .i64 0)].getD (i % 1) G.undef) = ((List.replicate n (0 : Int)).map (P.int .i64)).map G.p := by
  rw [List.map_replicate, List.map_replicate, List.eq_replicate_iff]
  refine ⟨by simp, fun g hg => ?_⟩
  simp only [List.mem_map, List.mem_range] at hg
  obtain ⟨i, _, rfl⟩ := hg
  rw [Nat.mod_one i]; rfl
theorem set_in {l : List Int} {i : Nat} {x : Int} (h : ∀ z ∈ l, 0 ≤ z ∧ z ≤ 3) (hx : 0 ≤ x ∧ x ≤ 3) : ∀ z ∈ l.set i x, 0 ≤ z ∧ z ≤ 3 := fun z hz => by
  rcases List.mem_or_eq_of_mem_set hz with h1 | rfl
  · exact h z h1
  · exact hx
theorem set_lt {l : List Int} {i : Nat} {x : Int} : ∀ j, j < i → (l.set i x)[j]? = l[j]? := fun j hj => List.getElem?_set_ne (by omega)
theorem ent30 : Enters Try.prog 30 := Enters.mk Try.func30 (by kernel_rfl) rfl
theorem c_draws {E : Env Try.prog} {A : E.α} (bs : List Int) : Gh.Spec E 30 [.p (.list (bs.map (.int .u16)))] (mkHp []) A (fun y => y = .ok (.fn (.func 64) [] [.ref 130 0, .ref 110 0]) (mkHp [(130, .cells [.p (.int .i64 0)] 0), (110, .cells [.p (.list (bs.map (.int .u16)))] 0)]) A) := by
  refine spec_of Try.func30 (rfl : Try.f30.body = some _) (Nat.le_of_ble_eq_true rfl) (fun id h => ?_) (fun j id h => ?_) ?_
  · exact wf1x h
  · exact wf2x h
  intro C hN hL
  replace hN : C.N = 5 := hN
  simp only [Gh.num, List.map_cons, List.map_nil, Nat.reduceAdd]
  repeat refine gwp_seq ?_
  refine gwp_region ?_
  refine n1 110 false (hc := by (first | exact True.intro | omega | with_reducible exact ⟨by omega, by omega, by assumption⟩ | with_reducible exact ⟨trivial, by omega, by omega, by assumption⟩ | (simp only [inI]; omega) | (simp [P.size, nt, wP, pn, all_int, allOne_p, goods_p, allOne, goods, good, G.one, P.one, P.cells] <;> first | omega | assumption | simp_all))) (k := ?_)
  refine v0 (k := ?_)
  refine nil0 ?_
  refine cl [1] (k := ?_)
  repeat refine gwp_seq ?_
  refine gwp_region ?_
  refine n1 130 false (hc := by (first | exact True.intro | omega | with_reducible exact ⟨by omega, by omega, by assumption⟩ | with_reducible exact ⟨trivial, by omega, by omega, by assumption⟩ | (simp only [inI]; omega) | (simp [P.size, nt, wP, pn, all_int, allOne_p, goods_p, allOne, goods, good, G.one, P.one, P.cells] <;> first | omega | assumption | simp_all))) (k := ?_)
  refine s1 (hc := by (first | exact True.intro | omega | with_reducible exact ⟨by omega, by omega, by assumption⟩ | with_reducible exact ⟨trivial, by omega, by omega, by assumption⟩ | (simp only [inI]; omega) | (simp [P.size, nt, wP, pn, all_int, allOne_p, goods_p, allOne, goods, good, G.one, P.one, P.cells] <;> first | omega | assumption | simp_all))) (k := ?_)
  refine nil0 ?_
  refine cl [1, 3] (k := ?_)
  repeat refine gwp_seq ?_
  refine gwp_region ?_
  refine v0 (k := ?_)
  refine v0 (k := ?_)
  refine nil0 ?_
  repeat refine gwp_seq ?_
  refine gwp_ret ?_
  repeat (first | refine gthen_ret ?_ | refine gblock_ret ?_ | refine gnoGoto_ret ?_)
  refine fin_ret ?_
  refine fh [130, 110] (hR := ?_)
  rfl
theorem ent64 : Enters Try.prog 64 := Enters.mk Try.func64 (by kernel_rfl) rfl
theorem c_draw {E : Env Try.prog} {A : E.α} (bs : List Int) (hbl : 0 < bs.length) (hbm : bs.length ≤ maxLen) (hq1 : ∀ b ∈ bs, 0 ≤ b) (hq2 : ∀ b ∈ bs, b ≤ 65535) (t n : Nat) (ht : t ≤ 1000) (hn : 0 < n) (hn2 : n ≤ 1000) : Gh.Spec E 64 [.p (.int .i64 (n : Nat)), .ref 0 0, .ref 1 0] (mkHp [(0, .cells [.p (.int .i64 (t : Nat))] 0), (1, .cells [.p (.list (bs.map (.int .u16)))] 0)]) A (fun y => y = .ok (.p (.int .i64 (drawN bs (t + 1) n : Nat))) (mkHp [(0, .cells [.p (.int .i64 (t + 1 : Nat))] 0), (1, .cells [.p (.list (bs.map (.int .u16)))] 0)]) A) := by
  refine spec_of Try.func64 (rfl : Try.f64.body = some _) (Nat.le_of_ble_eq_true rfl) (fun id h => ?_) (fun j id h => ?_) ?_
  · exact wf1x h
  · exact wf2x h
  intro C hN hL
  replace hN : C.N = 20 := hN
  simp only [Gh.num, List.map_cons, List.map_nil, Nat.reduceAdd]
  have hdt : ∀ (i : Decidable True), @decide True i = true := fun i => decide_eq_true trivial
  have hdf : ∀ (i : Decidable False), @decide False i = false := fun i => decide_eq_false id
  have hml := maxLen_le
  repeat refine gwp_seq ?_
  refine gwp_region ?_
  refine v0 (k := ?_)
  refine nil0 ?_
  refine cl [0, 1, 2] (k := ?_)
  repeat refine gwp_seq ?_
  refine gwp_region ?_
  refine v0 (k := ?_)
  refine v1 (hc := by (first | exact True.intro | omega | with_reducible exact ⟨by omega, by omega, by assumption⟩ | with_reducible exact ⟨trivial, by omega, by omega, by assumption⟩ | (simp only [inI]; omega) | (simp [P.size, nt, wP, pn, all_int, allOne_p, goods_p, allOne, goods, good, G.one, P.one, P.cells] <;> first | omega | assumption | simp_all))) (k := ?_)
  refine s1 (hc := by (first | exact True.intro | omega | with_reducible exact ⟨by omega, by omega, by assumption⟩ | with_reducible exact ⟨trivial, by omega, by omega, by assumption⟩ | (simp only [inI]; omega) | (simp [P.size, nt, wP, pn, all_int, allOne_p, goods_p, allOne, goods, good, G.one, P.one, P.cells] <;> first | omega | assumption | simp_all))) (k := ?_)
  refine nil0 ?_
  refine cl [0, 1, 2] (k := ?_)
  repeat refine gwp_seq ?_
  obtain ⟨j, hj⟩ : ∃ q, (t + 1) % bs.length = q := ⟨_, rfl⟩
  have hjl : j < bs.length := hj ▸ Nat.mod_lt _ hbl
  have hm1 : ((t : Int) + 1).tmod (bs.length : Int) = (j : Int) := by have := tm1 (t + 1) bs.length; rw [hj] at this; exact this
  obtain ⟨v, hu⟩ := getE (l := bs) (k := j) (by omega)
  have hv0 := hq1 v (List.mem_of_getElem? hu)
  have hv1 := hq2 v (List.mem_of_getElem? hu)
  obtain ⟨u, rfl⟩ : ∃ u : Nat, v = u := ⟨v.toNat, by omega⟩
  have hm2 : ((u : Int) + 43 * ((t : Int) + 1)).tmod (n : Int) = ((drawN bs (t + 1) n : Nat) : Int) := drawN_at (bs := bs) (t := t + 1) (by rw [hj]; exact hu)
  refine rd ?_
  refine d0 0 (k := ?_)
  refine d0 1 (k := ?_)
  refine d0 2 (k := ?_)
  refine d0 3 (k := ?_)
  refine d1 4 (hc := by (first | exact True.intro | omega | with_reducible exact ⟨by omega, by omega, by assumption⟩ | with_reducible exact ⟨trivial, by omega, by omega, by assumption⟩ | (simp only [inI]; omega) | (simp [P.size, nt, wP, pn, all_int, allOne_p, goods_p, allOne, goods, good, G.one, P.one, P.cells] <;> first | omega | assumption | simp_all))) (k := ?_)
  refine d1 5 (hc := by (first | exact True.intro | omega | with_reducible exact ⟨by omega, by omega, by assumption⟩ | with_reducible exact ⟨trivial, by omega, by omega, by assumption⟩ | (simp only [inI]; omega) | (simp [P.size, nt, wP, pn, all_int, allOne_p, goods_p, allOne, goods, good, G.one, P.one, P.cells] <;> first | omega | assumption | simp_all))) (k := ?_)
  refine d0 6 (k := ?_)
  refine d1 7 (hc := by (first | exact True.intro | omega | with_reducible exact ⟨by omega, by omega, by assumption⟩ | with_reducible exact ⟨trivial, by omega, by omega, by assumption⟩ | (simp only [inI]; omega) | (simp [P.size, nt, wP, pn, all_int, allOne_p, goods_p, allOne, goods, good, G.one, P.one, P.cells] <;> first | omega | assumption | simp_all))) (k := ?_)
  refine d0 8 (k := ?_)
  refine d1 9 (hc := by (first | exact True.intro | omega | with_reducible exact ⟨by omega, by omega, by assumption⟩ | with_reducible exact ⟨trivial, by omega, by omega, by assumption⟩ | (simp only [inI]; omega) | (simp [P.size, nt, wP, pn, all_int, allOne_p, goods_p, allOne, goods, good, G.one, P.one, P.cells] <;> first | omega | assumption | simp_all))) (k := ?_)
  refine d1 10 (hc := by (first | exact True.intro | omega | with_reducible exact ⟨by omega, by omega, by assumption⟩ | with_reducible exact ⟨trivial, by omega, by omega, by assumption⟩ | (simp only [inI]; omega) | (simp [P.size, nt, wP, pn, all_int, allOne_p, goods_p, allOne, goods, good, G.one, P.one, P.cells] <;> first | omega | assumption | simp_all))) (k := ?_)
  refine d0 11 (k := ?_)
  refine d1 12 (hc := by (first | exact True.intro | omega | with_reducible exact ⟨by omega, by omega, by assumption⟩ | with_reducible exact ⟨trivial, by omega, by omega, by assumption⟩ | (simp only [inI]; omega) | (simp [P.size, nt, wP, pn, all_int, allOne_p, goods_p, allOne, goods, good, G.one, P.one, P.cells] <;> first | omega | assumption | simp_all))) (k := ?_)
  refine d0 13 (k := ?_)
  refine dz 14 [0, 0, 0, 4, 14, 31, 63, 127, 0, 256, 1023, 0, 4095, 8191] (h := ?_)
  refine de 14 (h := ?_)
  repeat refine gwp_seq ?_
  refine gwp_ret ?_
  repeat (first | refine gthen_ret ?_ | refine gblock_ret ?_ | refine gnoGoto_ret ?_)
  refine fin_ret ?_
  refine fh [0, 1] (hR := ?_)
  rfl
theorem ent29 : Enters Try.prog 29 := Enters.mk Try.func29 (by kernel_rfl) rfl
theorem c_made {E : Env Try.prog} {A : E.α} (bs : List Int) (hbl : 0 < bs.length) (hbm : bs.length ≤ maxLen) (hq1 : ∀ b ∈ bs, 0 ≤ b) (hq2 : ∀ b ∈ bs, b ≤ 65535) (t0 : Nat) (ht0 : t0 ≤ 100) : Gh.Spec E 29 [.fn (.func 64) [] [.ref 0 0, .ref 1 0]] (mkHp [(0, .cells [.p (.int .i64 (t0 : Nat))] 0), (1, .cells [.p (.list (bs.map (.int .u16)))] 0)]) A (fun y => ∃ x : Sh × List Int × Nat, Made x.1 x.2.1 ∧ y = .ok (.p (.tuple [.agg [.int .i64 x.1.num, .list (x.1.sizes.map (.int .i64)), .int .i64 x.1.lo, .int .i64 x.1.hi, .list (x.1.notes.map pn)], .list (x.2.1.map (.int .i64))])) (mkHp [(0, .cells [.p (.int .i64 (x.2.2 : Nat))] 0), (1, .cells [.p (.list (bs.map (.int .u16)))] 0)]) A) := by
  refine spec_of Try.func29 (rfl : Try.f29.body = some _) (Nat.le_of_ble_eq_true rfl) (fun id h => ?_) (fun j id h => ?_) ?_
  · exact wf1x h
  · exact wf2x h
  intro C hN hL
  replace hN : C.N = 116 := hN
  simp only [Gh.num, List.map_cons, List.map_nil, Nat.reduceAdd]
  have hdt : ∀ (i : Decidable True), @decide True i = true := fun i => decide_eq_true trivial
  have hdf : ∀ (i : Decidable False), @decide False i = false := fun i => decide_eq_false id
  have hpn : ∀ n : Nt, pn n = P.agg [.int .i64 n.a, .int .i64 n.b, .bool n.s] := fun _ => rfl
  repeat refine gwp_seq ?_
  refine gwp_region ?_
  refine n1 120 false (hc := by (first | exact True.intro | omega | with_reducible exact ⟨by omega, by omega, by assumption⟩ | with_reducible exact ⟨trivial, by omega, by omega, by assumption⟩ | (simp only [inI]; omega) | (simp [P.size, nt, wP, pn, all_int, allOne_p, goods_p, allOne, goods, good, G.one, P.one, P.cells] <;> first | omega | assumption | simp_all))) (k := ?_)
  refine v0 (k := ?_)
  refine nil0 ?_
  refine cl [0, 2, 3] (k := ?_)
  repeat refine gwp_seq ?_
  refine gwp_region ?_
  refine v0 (k := ?_)
  refine oc0 [(0, 0), (1, 1)] [] [0, 0, 0] none (spec := c_draw bs hbl hbm hq1 hq2 (t0) (8) (by omega) (by omega) (by omega)) (hent := ent64) (k := ?_)
  refine v0 (k := ?_)
  refine s1 (hc := by (first | exact True.intro | omega | with_reducible exact ⟨by omega, by omega, by assumption⟩ | with_reducible exact ⟨trivial, by omega, by omega, by assumption⟩ | (simp only [inI]; omega) | (simp [P.size, nt, wP, pn, all_int, allOne_p, goods_p, allOne, goods, good, G.one, P.one, P.cells] <;> first | omega | assumption | simp_all))) (k := ?_)
  refine nil0 ?_
  refine cl [0, 2, 3] (k := ?_)
  repeat refine gwp_seq ?_
  obtain ⟨num, hnum⟩ : ∃ q, drawN bs (t0 + 1) 8 = q := ⟨_, rfl⟩
  rw [hnum]
  have hnl0 : num < 8 := hnum ▸ drawN_lt bs _ (by omega)
  clear hnum
  refine gwp_region ?_
  refine v0 (k := ?_)
  refine v0 (k := ?_)
  refine n1 260 false (hc := by (first | exact True.intro | omega | with_reducible exact ⟨by omega, by omega, by assumption⟩ | with_reducible exact ⟨trivial, by omega, by omega, by assumption⟩ | (simp only [inI]; omega) | (simp [P.size, nt, wP, pn, all_int, allOne_p, goods_p, allOne, goods, good, G.one, P.one, P.cells] <;> first | omega | assumption | simp_all))) (k := ?_)
  rw [mk0]
  refine v0 (k := ?_)
  refine nil0 ?_
  refine cl [0, 2, 3, 4] (k := ?_)
  repeat refine gwp_seq ?_
  refine gc_adoptR 3 3000 3 1 true (by simp only [mkFr_cons, Nat.reduceEqDiff, reduceIte]) (by simp only [mkHp_cons, mkHp_nil, Nat.reduceEqDiff, reduceIte]) (by omega) ?_
  refine ad 120 1 3010 3 1 true (k := ?_)
  refine gwp_region ?_
  refine v0 (k := ?_)
  refine v0 (k := ?_)
  refine v0 (k := ?_)
  refine nil0 ?_
  refine cl [0, 2, 3, 4, 18, 19] (k := ?_)
  repeat refine gwp_seq ?_
  refine gwp_block ?_
  repeat refine gwp_seq ?_
  refine gc_loop (fun mz σ => ∃ (i t : Nat) (w zs ss : List Int), (i ≤ num) ∧ (t ≤ t0 + 1 + 3 * i) ∧ (MI num i w zs ss) ∧ mz = num - i ∧ σ = (sg [(0, .fn (.func 64) [] [.ref 0 0, .ref 1 0]), (2, .ref 120 0), (3, .own 3000 w.length), (4, .fsl 260 0 num), (18, .p (.int .i64 (num : Nat))), (19, .p (.int .i64 (i : Nat)))] [(0, .cells [.p (.int .i64 (t : Nat))] 0), (1, .cells [.p (.list (bs.map (.int .u16)))] 0), (120, .cells [.p (.int .i64 (num : Nat)), .own 3010 ss.length, .p (.int .i64 0), .p (.int .i64 0), .nils] 0), (3000, .arr 3 1 (w.map (.int .i64)) true), (260, .cells ((zs.map (P.int .i64)).map G.p) 0), (3010, .arr 3 1 (ss.map (.int .i64)) true)] A [] : Sg E)) ?_ (fun mz σ hI => ?_)
  · refine lbeg [0, 2, 3, 4, 18, 19] (hV := ?_)
    exact ⟨_, 0, t0 + 1, [], List.replicate num 0, [], by omega, by omega, MI.zero num, rfl, sgE rfl rfl⟩
  obtain ⟨i, t, w, zs, ss, hi, ht, hM, hnn, rfl⟩ := hI
  have hwl1 := Nat.le_of_eq hM.wl
  have hwl2 := Nat.le_of_eq hM.wl.symm
  have hzl1 := Nat.le_of_eq hM.zl
  have hzl2 := Nat.le_of_eq hM.zl.symm
  have hsl1 := Nat.le_of_eq hM.sl
  have hsl2 := Nat.le_of_eq hM.sl.symm
  repeat refine gwp_seq ?_
  refine gwp_region ?_
  refine v0 (k := ?_)
  refine nil0 ?_
  repeat refine gwp_seq ?_
  refine cB (k1 := fun hb1 => ?_) (k0 := fun hb1 => ?_)
  · try simp only [decide_eq_true_eq, decide_eq_false_iff_not, Int.not_lt, Int.not_le, Bool.not_eq_eq_eq_not, Bool.not_true, Bool.not_false, Bool.and_eq_true, Bool.and_eq_false_iff, Bool.or_eq_true, Bool.or_eq_false_iff] at hb1
    repeat refine gwp_seq ?_
    refine gwp_skip ?_
    refine cl [0, 2, 3, 4, 18, 19] (k := ?_)
    repeat refine gwp_seq ?_
    refine gwp_block ?_
    repeat refine gwp_seq ?_
    refine gwp_region ?_
    refine v0 (k := ?_)
    refine v0 (k := ?_)
    refine nil0 ?_
    refine cl [0, 2, 3, 4, 5, 18, 19] (k := ?_)
    repeat refine gwp_seq ?_
    refine gwp_region ?_
    refine v0 (k := ?_)
    refine v0 (k := ?_)
    refine v1 (hc := by (first | exact True.intro | omega | with_reducible exact ⟨by omega, by omega, by assumption⟩ | with_reducible exact ⟨trivial, by omega, by omega, by assumption⟩ | (simp only [inI]; omega) | (simp [P.size, nt, wP, pn, all_int, allOne_p, goods_p, allOne, goods, good, G.one, P.one, P.cells] <;> first | omega | assumption | simp_all))) (k := ?_)
    refine oc0 [(0, 0), (1, 1)] [] [0, 0, 0] none (spec := c_draw bs hbl hbm hq1 hq2 (t) (i + 1) (by omega) (by omega) (by omega)) (hent := ent64) (k := ?_)
    refine v0 (k := ?_)
    refine nil0 ?_
    refine cl [0, 2, 3, 4, 5, 6, 18, 19] (k := ?_)
    repeat refine gwp_seq ?_
    obtain ⟨v, hv⟩ : ∃ q, drawN bs (t + 1) (i + 1) = q := ⟨_, rfl⟩
    rw [hv]
    have hvl : v < i + 1 := hv ▸ drawN_lt bs _ (by omega)
    refine gwp_region ?_
    refine v0 (k := ?_)
    refine v0 (k := ?_)
    refine v0 (k := ?_)
    refine nil0 ?_
    repeat refine gwp_seq ?_
    refine gwp_cutE (Z := Nat) (fun q => q ≤ i ∧ (q < i → w[q]? = some (q : Int))) (fun q => [(0, .fn (.func 64) [] [.ref 0 0, .ref 1 0]), (2, .ref 120 0), (3, .own 3000 w.length), (4, .fsl 260 0 num), (5, .p (.int .i64 (i : Nat))), (6, .p (.int .i64 (q : Nat))), (18, .p (.int .i64 (num : Nat))), (19, .p (.int .i64 (i : Nat)))]) (fun _ => [(0, .cells [.p (.int .i64 (t + 1 : Nat))] 0), (1, .cells [.p (.list (bs.map (.int .u16)))] 0), (120, .cells [.p (.int .i64 (num : Nat)), .own 3010 ss.length, .p (.int .i64 0), .p (.int .i64 0), .nils] 0), (3000, .arr 3 1 (w.map (.int .i64)) true), (260, .cells ((zs.map (P.int .i64)).map G.p) 0), (3010, .arr 3 1 (ss.map (.int .i64)) true)]) ?_ (fun q hq => ?_)
    · refine cB (k1 := fun hb2 => ?_) (k0 := fun hb2 => ?_)
      · try simp only [decide_eq_true_eq, decide_eq_false_iff_not, Int.not_lt, Int.not_le, Bool.not_eq_eq_eq_not, Bool.not_true, Bool.not_false, Bool.and_eq_true, Bool.and_eq_false_iff, Bool.or_eq_true, Bool.or_eq_false_iff] at hb2
        repeat refine gwp_seq ?_
        obtain ⟨x, hx⟩ := getE (l := w) (k := v) (by omega)
        obtain ⟨hc1, hc2, hc3⟩ := hM.wc v x hx
        obtain ⟨p, rfl⟩ : ∃ p : Nat, x = p := ⟨x.toNat, by omega⟩
        have hpp : w[p]? = some (p : Int) := by rw [Int.toNat_natCast] at hc3; exact hc3
        refine gwp_region ?_
        refine v0 (k := ?_)
        refine v0 (k := ?_)
        refine v1 (hc := by (first | exact True.intro | omega | with_reducible exact ⟨by omega, by omega, by assumption⟩ | with_reducible exact ⟨trivial, by omega, by omega, by assumption⟩ | (simp only [inI]; omega) | (simp [P.size, nt, wP, pn, all_int, allOne_p, goods_p, allOne, goods, good, G.one, P.one, P.cells] <;> first | omega | assumption | simp_all))) (k := ?_)
        refine v0 (k := ?_)
        refine v0 (k := ?_)
        refine nil0 ?_
        first
        | exact ⟨p, ⟨by omega, fun _ => hpp⟩, lce [0, 2, 3, 4, 5, 6, 18, 19]⟩
        | exact ⟨v, ⟨by omega, fun h => by omega⟩, lce [0, 2, 3, 4, 5, 6, 18, 19]⟩
      · try simp only [decide_eq_true_eq, decide_eq_false_iff_not, Int.not_lt, Int.not_le, Bool.not_eq_eq_eq_not, Bool.not_true, Bool.not_false, Bool.and_eq_true, Bool.and_eq_false_iff, Bool.or_eq_true, Bool.or_eq_false_iff] at hb2
        repeat refine gwp_seq ?_
        refine gwp_skip ?_
        first
        | exact ⟨p, ⟨by omega, fun _ => hpp⟩, lce [0, 2, 3, 4, 5, 6, 18, 19]⟩
        | exact ⟨v, ⟨by omega, fun h => by omega⟩, lce [0, 2, 3, 4, 5, 6, 18, 19]⟩
    · repeat refine gwp_seq ?_
      refine gwp_region ?_
      refine v0 (k := ?_)
      refine v0 (k := ?_)
      refine n1 450 false (hc := by (first | exact True.intro | omega | with_reducible exact ⟨by omega, by omega, by assumption⟩ | with_reducible exact ⟨trivial, by omega, by omega, by assumption⟩ | (simp only [inI]; omega) | (simp [P.size, nt, wP, pn, all_int, allOne_p, goods_p, allOne, goods, good, G.one, P.one, P.cells] <;> first | omega | assumption | simp_all))) (k := ?_)
      refine n1 460 false (hc := by (first | exact True.intro | omega | with_reducible exact ⟨by omega, by omega, by assumption⟩ | with_reducible exact ⟨trivial, by omega, by omega, by assumption⟩ | (simp only [inI]; omega) | (simp [P.size, nt, wP, pn, all_int, allOne_p, goods_p, allOne, goods, good, G.one, P.one, P.cells] <;> first | omega | assumption | simp_all))) (k := ?_)
      refine v0 (k := ?_)
      refine nil0 ?_
      refine cl [0, 2, 3, 4, 5, 6, 18, 19] (k := ?_)
      repeat refine gwp_seq ?_
      refine gwp_region ?_
      refine v0 (k := ?_)
      refine v0 (k := ?_)
      refine v0 (k := ?_)
      refine nil0 ?_
      repeat refine gwp_seq ?_
      refine gwp_cutE (Z := Nat × List Int) (fun z => z.1 ≤ t + 2 ∧ z.2.length = num ∧ (∀ x ∈ z.2, 0 ≤ x ∧ x ≤ 3) ∧ ∀ j, j < i → z.2[j]? = zs[j]?) (fun _ => [(0, .fn (.func 64) [] [.ref 0 0, .ref 1 0]), (2, .ref 120 0), (3, .own 3000 (w.length + 1)), (4, .fsl 260 0 num), (6, .p (.int .i64 (q : Nat))), (18, .p (.int .i64 (num : Nat))), (19, .p (.int .i64 (i : Nat)))]) (fun z => [(0, .cells [.p (.int .i64 (z.1 : Nat))] 0), (1, .cells [.p (.list (bs.map (.int .u16)))] 0), (120, .cells [.p (.int .i64 (num : Nat)), .own 3010 ss.length, .p (.int .i64 0), .p (.int .i64 0), .nils] 0), (3000, .arr 3 1 (w.map (.int .i64) ++ [.int .i64 (q : Int)]) true), (260, .cells ((z.2.map (P.int .i64)).map G.p) 0), (3010, .arr 3 1 (ss.map (.int .i64)) true)]) ?_ (fun ⟨t2, zs2⟩ hz => ?_)
      · refine cB (k1 := fun hb3 => ?_) (k0 := fun hb3 => ?_)
        · try simp only [decide_eq_true_eq, decide_eq_false_iff_not, Int.not_lt, Int.not_le, Bool.not_eq_eq_eq_not, Bool.not_true, Bool.not_false, Bool.and_eq_true, Bool.and_eq_false_iff, Bool.or_eq_true, Bool.or_eq_false_iff] at hb3
          repeat refine gwp_seq ?_
          have hd3 := drawN_lt bs (t + 1 + 1) (n := 3) (by omega)
          refine gwp_region ?_
          refine v0 (k := ?_)
          refine v0 (k := ?_)
          refine v0 (k := ?_)
          refine oc0 [(0, 0), (1, 1)] [] [0, 0, 0] none (spec := c_draw bs hbl hbm hq1 hq2 (t + 1) (3) (by omega) (by omega) (by omega)) (hent := ent64) (k := ?_)
          refine v1 (hc := by (first | exact True.intro | omega | with_reducible exact ⟨by omega, by omega, by assumption⟩ | with_reducible exact ⟨trivial, by omega, by omega, by assumption⟩ | (simp only [inI]; omega) | (simp [P.size, nt, wP, pn, all_int, allOne_p, goods_p, allOne, goods, good, G.one, P.one, P.cells] <;> first | omega | assumption | simp_all))) (k := ?_)
          refine v1 (hc := by (first | exact True.intro | omega | with_reducible exact ⟨by omega, by omega, by assumption⟩ | with_reducible exact ⟨trivial, by omega, by omega, by assumption⟩ | (simp only [inI]; omega) | (simp [P.size, nt, wP, pn, all_int, allOne_p, goods_p, allOne, goods, good, G.one, P.one, P.cells] <;> first | omega | assumption | simp_all))) (k := ?_)
          refine s1 (hc := by (first | exact True.intro | omega | with_reducible exact ⟨by omega, by omega, by assumption⟩ | with_reducible exact ⟨trivial, by omega, by omega, by assumption⟩ | (simp only [inI]; omega) | (simp [P.size, nt, wP, pn, all_int, allOne_p, goods_p, allOne, goods, good, G.one, P.one, P.cells] <;> first | omega | assumption | simp_all))) (k := ?_)
          refine nil0 ?_
          first
          | exact ⟨(t + 1 + 1, zs.set i (1 + ((drawN bs (t + 1 + 1) 3 : Nat) : Int))), ⟨by omega, by simp [hM.zl], set_in hM.zr (by have := drawN_lt bs (t + 1 + 1) (n := 3) (by omega); omega), set_lt⟩, lce [0, 2, 3, 4, 6, 18, 19]⟩
          | exact ⟨(t + 1, zs), ⟨by omega, hM.zl, hM.zr, fun _ _ => rfl⟩, lce [0, 2, 3, 4, 6, 18, 19]⟩
        · try simp only [decide_eq_true_eq, decide_eq_false_iff_not, Int.not_lt, Int.not_le, Bool.not_eq_eq_eq_not, Bool.not_true, Bool.not_false, Bool.and_eq_true, Bool.and_eq_false_iff, Bool.or_eq_true, Bool.or_eq_false_iff] at hb3
          repeat refine gwp_seq ?_
          refine gwp_skip ?_
          first
          | exact ⟨(t + 1 + 1, zs.set i (1 + ((drawN bs (t + 1 + 1) 3 : Nat) : Int))), ⟨by omega, by simp [hM.zl], set_in hM.zr (by have := drawN_lt bs (t + 1 + 1) (n := 3) (by omega); omega), set_lt⟩, lce [0, 2, 3, 4, 6, 18, 19]⟩
          | exact ⟨(t + 1, zs), ⟨by omega, hM.zl, hM.zr, fun _ _ => rfl⟩, lce [0, 2, 3, 4, 6, 18, 19]⟩
      · try simp only at hz
        try simp only
        repeat refine gwp_seq ?_
        have hz2 := hz.2.1
        have hqi := hq.1
        obtain ⟨z, hzq⟩ := getE (l := zs2) (k := q) (by omega)
        refine gwp_region ?_
        refine v0 (k := ?_)
        refine v0 (k := ?_)
        refine v1 (hc := by (first | exact True.intro | omega | with_reducible exact ⟨by omega, by omega, by assumption⟩ | with_reducible exact ⟨trivial, by omega, by omega, by assumption⟩ | (simp only [inI]; omega) | (simp [P.size, nt, wP, pn, all_int, allOne_p, goods_p, allOne, goods, good, G.one, P.one, P.cells] <;> first | omega | assumption | simp_all))) (k := ?_)
        refine v0 (k := ?_)
        refine v0 (k := ?_)
        refine nil0 ?_
        refine cl [0, 2, 3, 4, 7, 18, 19] (k := ?_)
        repeat refine gwp_seq ?_
        refine gwp_region ?_
        refine v0 (k := ?_)
        refine oc0 [(0, 0), (1, 1)] [] [0, 0, 0] none (spec := c_draw bs hbl hbm hq1 hq2 (t2) (2) (by omega) (by omega) (by omega)) (hent := ent64) (k := ?_)
        refine v0 (k := ?_)
        refine nil0 ?_
        repeat refine gwp_seq ?_
        refine gwp_cutE (Z := Int) (fun n => n = 0 ∨ n = z) (fun n => [(0, .fn (.func 64) [] [.ref 0 0, .ref 1 0]), (2, .ref 120 0), (3, .own 3000 (w.length + 1)), (4, .fsl 260 0 num), (7, .p (.int .i64 n)), (18, .p (.int .i64 (num : Nat))), (19, .p (.int .i64 (i : Nat)))]) (fun _ => [(0, .cells [.p (.int .i64 (t2 + 1 : Nat))] 0), (1, .cells [.p (.list (bs.map (.int .u16)))] 0), (120, .cells [.p (.int .i64 (num : Nat)), .own 3010 ss.length, .p (.int .i64 0), .p (.int .i64 0), .nils] 0), (3000, .arr 3 1 (w.map (.int .i64) ++ [.int .i64 (q : Int)]) true), (260, .cells ((zs2.map (P.int .i64)).map G.p) 0), (3010, .arr 3 1 (ss.map (.int .i64)) true)]) ?_ (fun nv hnv => ?_)
        · refine cB (k1 := fun hb4 => ?_) (k0 := fun hb4 => ?_)
          · try simp only [decide_eq_true_eq, decide_eq_false_iff_not, Int.not_lt, Int.not_le, Bool.not_eq_eq_eq_not, Bool.not_true, Bool.not_false, Bool.and_eq_true, Bool.and_eq_false_iff, Bool.or_eq_true, Bool.or_eq_false_iff] at hb4
            repeat refine gwp_seq ?_
            refine gwp_region ?_
            refine v0 (k := ?_)
            refine nil0 ?_
            first
            | exact ⟨0, .inl rfl, lce [0, 2, 3, 4, 7, 18, 19]⟩
            | exact ⟨z, .inr rfl, lce [0, 2, 3, 4, 7, 18, 19]⟩
          · try simp only [decide_eq_true_eq, decide_eq_false_iff_not, Int.not_lt, Int.not_le, Bool.not_eq_eq_eq_not, Bool.not_true, Bool.not_false, Bool.and_eq_true, Bool.and_eq_false_iff, Bool.or_eq_true, Bool.or_eq_false_iff] at hb4
            repeat refine gwp_seq ?_
            refine gwp_skip ?_
            first
            | exact ⟨0, .inl rfl, lce [0, 2, 3, 4, 7, 18, 19]⟩
            | exact ⟨z, .inr rfl, lce [0, 2, 3, 4, 7, 18, 19]⟩
        · repeat refine gwp_seq ?_
          refine gwp_region ?_
          refine v0 (k := ?_)
          refine v0 (k := ?_)
          refine v0 (k := ?_)
          refine n1 660 false (hc := by (first | exact True.intro | omega | with_reducible exact ⟨by omega, by omega, by assumption⟩ | with_reducible exact ⟨trivial, by omega, by omega, by assumption⟩ | (simp only [inI]; omega) | (simp [P.size, nt, wP, pn, all_int, allOne_p, goods_p, allOne, goods, good, G.one, P.one, P.cells] <;> first | omega | assumption | simp_all))) (k := ?_)
          refine n1 670 false (hc := by (first | exact True.intro | omega | with_reducible exact ⟨by omega, by omega, by assumption⟩ | with_reducible exact ⟨trivial, by omega, by omega, by assumption⟩ | (simp only [inI]; omega) | (simp [P.size, nt, wP, pn, all_int, allOne_p, goods_p, allOne, goods, good, G.one, P.one, P.cells] <;> first | omega | assumption | simp_all))) (k := ?_)
          refine v0 (k := ?_)
          refine s1 (hc := by (first | exact True.intro | omega | with_reducible exact ⟨by omega, by omega, by assumption⟩ | with_reducible exact ⟨trivial, by omega, by omega, by assumption⟩ | (simp only [inI]; omega) | (simp [P.size, nt, wP, pn, all_int, allOne_p, goods_p, allOne, goods, good, G.one, P.one, P.cells] <;> first | omega | assumption | simp_all))) (k := ?_)
          refine nil0 ?_
          refine cl [0, 2, 3, 4, 18, 19] (k := ?_)
          repeat refine gwp_seq ?_
          refine gwp_region ?_
          refine v1 (hc := by (first | exact True.intro | omega | with_reducible exact ⟨by omega, by omega, by assumption⟩ | with_reducible exact ⟨trivial, by omega, by omega, by assumption⟩ | (simp only [inI]; omega) | (simp [P.size, nt, wP, pn, all_int, allOne_p, goods_p, allOne, goods, good, G.one, P.one, P.cells] <;> first | omega | assumption | simp_all))) (k := ?_)
          refine v0 (k := ?_)
          refine nil0 ?_
          refine lend [0, 2, 3, 4, 18, 19] (h := ?_) (hV := ?_) (n' := num - (i + 1))
          · omega
          have hM2 := hM.step (n := nv) (by omega) hq.1 hq.2 hz.2.1 hz.2.2.1 hz.2.2.2 hzq hnv
          exact ⟨i + 1, t2 + 1, (w ++ [(q : Int)]), zs2, ss ++ [nv], by omega, by omega, hM2, rfl, sgE (by simp only [List.length_append, List.length_cons, List.length_nil]; rfl) (by simp only [List.map_append, List.length_append, List.length_cons, List.length_nil]; rfl)⟩
  · try simp only [decide_eq_true_eq, decide_eq_false_iff_not, Int.not_lt, Int.not_le, Bool.not_eq_eq_eq_not, Bool.not_true, Bool.not_false, Bool.and_eq_true, Bool.and_eq_false_iff, Bool.or_eq_true, Bool.or_eq_false_iff] at hb1
    repeat refine gwp_seq ?_
    refine gwp_exit ?_
    repeat (first | refine gthen_exit ?_ | refine gnoGoto_exit ?_ | refine gblock_here ?_ | refine gblock_out rfl ?_)
    refine cl [0, 2, 3] (k := ?_)
    repeat refine gwp_seq ?_
    obtain rfl : i = num := by omega
    refine gwp_region ?_
    refine v0 (k := ?_)
    refine pc0 (spec := s_Many w (by omega)) (hent := ent32) (k := ?_)
    refine v0 (k := ?_)
    refine nil0 ?_
    refine cl [0, 2, 3, 8] (k := ?_)
    repeat refine gwp_seq ?_
    have hcl := cntP_le w w.length
    have hd1 := drawN_lt bs (t + 1) (n := 2) (by omega)
    have hd2 := drawN_lt bs (t + 1 + 1) (n := 3) (by omega)
    refine gwp_region ?_
    refine v0 (k := ?_)
    refine v0 (k := ?_)
    refine oc0 [(0, 0), (1, 1)] [] [0, 0, 0] none (spec := c_draw bs hbl hbm hq1 hq2 (t) (2) (by omega) (by omega) (by omega)) (hent := ent64) (k := ?_)
    refine v1 (hc := by (first | exact True.intro | omega | with_reducible exact ⟨by omega, by omega, by assumption⟩ | with_reducible exact ⟨trivial, by omega, by omega, by assumption⟩ | (simp only [inI]; omega) | (simp [P.size, nt, wP, pn, all_int, allOne_p, goods_p, allOne, goods, good, G.one, P.one, P.cells] <;> first | omega | assumption | simp_all))) (k := ?_)
    refine v0 (k := ?_)
    refine v0 (k := ?_)
    refine v0 (k := ?_)
    refine oc0 [(0, 0), (1, 1)] [] [0, 0, 0] none (spec := c_draw bs hbl hbm hq1 hq2 (t + 1) (3) (by omega) (by omega) (by omega)) (hent := ent64) (k := ?_)
    refine v1 (hc := by (first | exact True.intro | omega | with_reducible exact ⟨by omega, by omega, by assumption⟩ | with_reducible exact ⟨trivial, by omega, by omega, by assumption⟩ | (simp only [inI]; omega) | (simp [P.size, nt, wP, pn, all_int, allOne_p, goods_p, allOne, goods, good, G.one, P.one, P.cells] <;> first | omega | assumption | simp_all))) (k := ?_)
    refine v0 (k := ?_)
    refine pc0 (spec := l_span _ _) (hent := ent39) (k := ?_)
    refine v0 (k := ?_)
    refine s1 (hc := by (first | exact True.intro | omega | with_reducible exact ⟨by omega, by omega, by assumption⟩ | with_reducible exact ⟨trivial, by omega, by omega, by assumption⟩ | (simp only [inI]; omega) | (simp [P.size, nt, wP, pn, all_int, allOne_p, goods_p, allOne, goods, good, G.one, P.one, P.cells] <;> first | omega | assumption | simp_all))) (k := ?_)
    refine nil0 ?_
    refine cl [0, 2, 3] (k := ?_)
    repeat refine gwp_seq ?_
    refine gwp_region ?_
    refine v0 (k := ?_)
    refine v0 (k := ?_)
    refine v0 (k := ?_)
    refine nil0 ?_
    repeat refine gwp_seq ?_
    refine cB (k1 := fun hb5 => ?_) (k0 := fun hb5 => ?_)
    · try simp only [decide_eq_true_eq, decide_eq_false_iff_not, Int.not_lt, Int.not_le, Bool.not_eq_eq_eq_not, Bool.not_true, Bool.not_false, Bool.and_eq_true, Bool.and_eq_false_iff, Bool.or_eq_true, Bool.or_eq_false_iff] at hb5
      repeat refine gwp_seq ?_
      obtain ⟨v3, hv3⟩ : ∃ q, drawN bs (t + 1 + 1 + 1) 13 = q := ⟨_, rfl⟩
      have hv3l : v3 < 13 := hv3 ▸ drawN_lt bs _ (by omega)
      refine ad 120 4 3020 50 3 true (k := ?_)
      refine gwp_region ?_
      refine v0 (k := ?_)
      refine oc0 [(0, 0), (1, 1)] [] [0, 0, 0] none (spec := c_draw bs hbl hbm hq1 hq2 (t + 1 + 1) (13) (by omega) (by omega) (by omega)) (hent := ent64) (k := ?_)
      refine v0 (k := ?_)
      refine nil0 ?_
      refine cl [0, 2, 3, 78, 79] (k := ?_)
      repeat refine gwp_seq ?_
      refine gwp_block ?_
      repeat refine gwp_seq ?_
      refine gc_loop (fun mz σ => ∃ (m u : Nat) (ns : List Nt), (m ≤ v3) ∧ (u ≤ t + 3 + 2 * m) ∧ (NI i w ns) ∧ (ns.length ≤ m) ∧ (m ≤ ns.length) ∧ mz = v3 - m ∧ σ = (sg [(0, .fn (.func 64) [] [.ref 0 0, .ref 1 0]), (2, .ref 120 0), (3, .own 3000 w.length), (78, .p (.int .i64 (v3 : Nat))), (79, .p (.int .i64 (m : Nat)))] [(0, .cells [.p (.int .i64 (u : Nat))] 0), (1, .cells [.p (.list (bs.map (.int .u16)))] 0), (120, .cells [.p (.int .i64 (i : Nat)), .own 3010 ss.length, .p (.int .i64 (max 0 ((cntP w w.length : Int) - ((drawN bs (t + 1) 2 : Nat) : Int)))), .p (.int .i64 (min 8 ((cntP w w.length : Int) + ((drawN bs (t + 1 + 1) 3 : Nat) : Int)))), .own 3020 ns.length] 0), (3000, .arr 3 1 (w.map (.int .i64)) true), (3010, .arr 3 1 (ss.map (.int .i64)) true), (3020, .arr 50 3 (ns.map pn) true)] A [] : Sg E)) ?_ (fun mz σ hI => ?_)
      · refine lbeg [0, 2, 3, 78, 79] (hV := ?_)
        exact ⟨_, 0, t + 1 + 1 + 1, [], by omega, by omega, fun n h => by simp at h, by simp, by simp, rfl, sgE (by rw [hv3]; rfl) rfl⟩
      obtain ⟨m, u, ns, hm, hu, hN, hnl, hnl2, hnn, rfl⟩ := hI
      repeat refine gwp_seq ?_
      refine gwp_region ?_
      refine v0 (k := ?_)
      refine nil0 ?_
      repeat refine gwp_seq ?_
      refine cB (k1 := fun hb6 => ?_) (k0 := fun hb6 => ?_)
      · try simp only [decide_eq_true_eq, decide_eq_false_iff_not, Int.not_lt, Int.not_le, Bool.not_eq_eq_eq_not, Bool.not_true, Bool.not_false, Bool.and_eq_true, Bool.and_eq_false_iff, Bool.or_eq_true, Bool.or_eq_false_iff] at hb6
        repeat refine gwp_seq ?_
        refine gwp_skip ?_
        refine cl [0, 2, 3, 78, 79] (k := ?_)
        repeat refine gwp_seq ?_
        refine gwp_block ?_
        repeat refine gwp_seq ?_
        obtain ⟨a, ha⟩ : ∃ q, drawN bs (u + 1) i = q := ⟨_, rfl⟩
        have hal : a < i := ha ▸ drawN_lt bs _ (by omega)
        obtain ⟨d, hd⟩ : ∃ q, drawN bs (u + 1 + 1) (i - 1) = q := ⟨_, rfl⟩
        have hdl : d < i - 1 := hd ▸ drawN_lt bs _ (by omega)
        obtain ⟨b, hbe⟩ : ∃ q, (a + 1 + d) % i = q := ⟨_, rfl⟩
        obtain ⟨hab, hbl2⟩ : a ≠ b ∧ b < i := by have := other_num hal hdl; rw [hbe] at this; exact ⟨fun e => this.1 e.symm, this.2⟩
        obtain ⟨x, hx⟩ := getE (l := w) (k := a) (by omega)
        obtain ⟨y, hy⟩ := getE (l := w) (k := b) (by omega)
        refine gwp_region ?_
        refine v0 (k := ?_)
        refine v0 (k := ?_)
        refine v0 (k := ?_)
        refine oc0 [(0, 0), (1, 1)] [] [0, 0, 0] none (spec := c_draw bs hbl hbm hq1 hq2 (u) (i) (by omega) (by omega) (by omega)) (hent := ent64) (k := ?_)
        refine v0 (k := ?_)
        refine nil0 ?_
        refine cl [0, 2, 3, 9, 78, 79] (k := ?_)
        repeat refine gwp_seq ?_
        try rw [ha]
        have hnm : (i : Int) - 1 = ((i - 1 : Nat) : Int) := by omega
        have hm3 : ((a : Int) + 1 + (d : Int)).tmod (i : Int) = (b : Int) := by have := tm1 (a + 1 + d) i; rw [hbe] at this; exact this
        refine rd ?_
        refine d0 0 (k := ?_)
        refine d1 1 (hc := by (first | exact True.intro | omega | with_reducible exact ⟨by omega, by omega, by assumption⟩ | with_reducible exact ⟨trivial, by omega, by omega, by assumption⟩ | (simp only [inI]; omega) | (simp [P.size, nt, wP, pn, all_int, allOne_p, goods_p, allOne, goods, good, G.one, P.one, P.cells] <;> first | omega | assumption | simp_all))) (k := ?_)
        refine d0 2 (k := ?_)
        refine d0 3 (k := ?_)
        refine d0 4 (k := ?_)
        refine d1 5 (hc := by (first | exact True.intro | omega | with_reducible exact ⟨by omega, by omega, by assumption⟩ | with_reducible exact ⟨trivial, by omega, by omega, by assumption⟩ | (simp only [inI]; omega) | (simp [P.size, nt, wP, pn, all_int, allOne_p, goods_p, allOne, goods, good, G.one, P.one, P.cells] <;> first | omega | assumption | simp_all))) (k := ?_)
        refine doc0 6 [(0, 0), (1, 1)] [] [0, 0, 0] none (spec := c_draw bs hbl hbm hq1 hq2 (u + 1) (i - 1) (by omega) (by omega) (by omega)) (hent := ent64) (k := ?_)
        refine d1 7 (hc := by (first | exact True.intro | omega | with_reducible exact ⟨by omega, by omega, by assumption⟩ | with_reducible exact ⟨trivial, by omega, by omega, by assumption⟩ | (simp only [inI]; omega) | (simp [P.size, nt, wP, pn, all_int, allOne_p, goods_p, allOne, goods, good, G.one, P.one, P.cells] <;> first | omega | assumption | simp_all))) (k := ?_)
        refine d0 8 (k := ?_)
        refine d0 9 (k := ?_)
        refine d1 10 (hc := by (first | exact True.intro | omega | with_reducible exact ⟨by omega, by omega, by assumption⟩ | with_reducible exact ⟨trivial, by omega, by omega, by assumption⟩ | (simp only [inI]; omega) | (simp [P.size, nt, wP, pn, all_int, allOne_p, goods_p, allOne, goods, good, G.one, P.one, P.cells] <;> first | omega | assumption | simp_all))) (k := ?_)
        refine d0 11 (k := ?_)
        refine dz 12 [0, 1, 0, 0, 8, 24, 60, 127, 0, 256, 1023, 2047] (h := ?_)
        refine de 12 (h := ?_)
        refine cl [0, 2, 3, 9, 10, 78, 79] (k := ?_)
        repeat refine gwp_seq ?_
        refine rd ?_
        refine d0 0 (k := ?_)
        refine d0 1 (k := ?_)
        refine d0 2 (k := ?_)
        refine d0 3 (k := ?_)
        refine d0 4 (k := ?_)
        refine d0 5 (k := ?_)
        refine d1 6 (hc := by (first | exact True.intro | omega | with_reducible exact ⟨by omega, by omega, by assumption⟩ | with_reducible exact ⟨trivial, by omega, by omega, by assumption⟩ | (simp only [inI]; omega) | (simp [P.size, nt, wP, pn, all_int, allOne_p, goods_p, allOne, goods, good, G.one, P.one, P.cells] <;> first | omega | assumption | simp_all))) (k := ?_)
        refine d0 7 (k := ?_)
        refine d0 8 (k := ?_)
        refine d0 9 (k := ?_)
        refine d1 10 (hc := by (first | exact True.intro | omega | with_reducible exact ⟨by omega, by omega, by assumption⟩ | with_reducible exact ⟨trivial, by omega, by omega, by assumption⟩ | (simp only [inI]; omega) | (simp [P.size, nt, wP, pn, all_int, allOne_p, goods_p, allOne, goods, good, G.one, P.one, P.cells] <;> first | omega | assumption | simp_all))) (k := ?_)
        refine d0 11 (k := ?_)
        refine d0 12 (k := ?_)
        refine d0 13 (k := ?_)
        refine dn1 14 1200 false (hc := by (first | exact True.intro | omega | with_reducible exact ⟨by omega, by omega, by assumption⟩ | with_reducible exact ⟨trivial, by omega, by omega, by assumption⟩ | (simp only [inI]; omega) | (simp [P.size, nt, wP, pn, all_int, allOne_p, goods_p, allOne, goods, good, G.one, P.one, P.cells] <;> first | omega | assumption | simp_all))) (k := ?_)
        refine dn1 15 1210 false (hc := by (first | exact True.intro | omega | with_reducible exact ⟨by omega, by omega, by assumption⟩ | with_reducible exact ⟨trivial, by omega, by omega, by assumption⟩ | (simp only [inI]; omega) | (simp [P.size, nt, wP, pn, all_int, allOne_p, goods_p, allOne, goods, good, G.one, P.one, P.cells] <;> first | omega | assumption | simp_all))) (k := ?_)
        refine d0 16 (k := ?_)
        refine ds1 17 (hc := by (first | exact True.intro | omega | with_reducible exact ⟨by omega, by omega, by assumption⟩ | with_reducible exact ⟨trivial, by omega, by omega, by assumption⟩ | (simp only [inI]; omega) | (simp [P.size, nt, wP, pn, all_int, allOne_p, goods_p, allOne, goods, good, G.one, P.one, P.cells] <;> first | omega | assumption | simp_all))) (k := ?_)
        refine dz 18 [0, 1, 0, 0, 0, 0, 48, 112, 0, 0, 768, 1792, 4080, 8188, 16380, 32767, 65535, 131071] (h := ?_)
        refine de 18 (h := ?_)
        refine cl [0, 2, 3, 78, 79] (k := ?_)
        repeat refine gwp_seq ?_
        refine gwp_region ?_
        refine v1 (hc := by (first | exact True.intro | omega | with_reducible exact ⟨by omega, by omega, by assumption⟩ | with_reducible exact ⟨trivial, by omega, by omega, by assumption⟩ | (simp only [inI]; omega) | (simp [P.size, nt, wP, pn, all_int, allOne_p, goods_p, allOne, goods, good, G.one, P.one, P.cells] <;> first | omega | assumption | simp_all))) (k := ?_)
        refine v0 (k := ?_)
        refine nil0 ?_
        refine lend [0, 2, 3, 78, 79] (h := ?_) (hV := ?_) (n' := v3 - (m + 1))
        · omega
        exact ⟨m + 1, u + 2, ns ++ [⟨a, b, decide (x = y)⟩], by omega, by omega, hN.step hal hbl2 hab hx hy, by simp; omega, by simp; omega, rfl, sgE rfl (by simp only [List.map_append, List.length_append, List.length_cons, List.length_nil]; rfl)⟩
      · try simp only [decide_eq_true_eq, decide_eq_false_iff_not, Int.not_lt, Int.not_le, Bool.not_eq_eq_eq_not, Bool.not_true, Bool.not_false, Bool.and_eq_true, Bool.and_eq_false_iff, Bool.or_eq_true, Bool.or_eq_false_iff] at hb6
        repeat refine gwp_seq ?_
        refine gwp_exit ?_
        repeat (first | refine gthen_exit ?_ | refine gnoGoto_exit ?_ | refine gblock_here ?_ | refine gblock_out rfl ?_)
        refine cl [0, 2, 3] (k := ?_)
        repeat refine gwp_seq ?_
        refine gwp_region ?_
        refine v0 (k := ?_)
        refine v0 (k := ?_)
        refine s1 (hc := by (first | exact True.intro | omega | with_reducible exact ⟨by omega, by omega, by assumption⟩ | with_reducible exact ⟨trivial, by omega, by omega, by assumption⟩ | (simp only [inI]; omega) | (simp [P.size, nt, wP, pn, all_int, allOne_p, goods_p, allOne, goods, good, G.one, P.one, P.cells] <;> first | omega | assumption | simp_all))) (k := ?_)
        refine v0 (k := ?_)
        refine nil0 ?_
        repeat refine gwp_seq ?_
        refine gwp_ret ?_
        repeat (first | refine gthen_ret ?_ | refine gblock_ret ?_ | refine gnoGoto_ret ?_)
        refine fin_ret ?_
        refine fk2 [0, 1] (hR := ?_)
        first
        | (have hMd := made_of (lo := (max 0 ((cntP w w.length : Int) - ((drawN bs (t + 1) 2 : Nat) : Int)))) (hi := (min 8 ((cntP w w.length : Int) + ((drawN bs (t + 1 + 1) 3 : Nat) : Int)))) hM hnl0 hN (by omega) (by omega) (by omega)
           exact ⟨(⟨(i : Int), ss, (max 0 ((cntP w w.length : Int) - ((drawN bs (t + 1) 2 : Nat) : Int))), (min 8 ((cntP w w.length : Int) + ((drawN bs (t + 1 + 1) 3 : Nat) : Int))), ns⟩, w, u), hMd, rfl⟩)
        | (have hMd := made_of (lo := (max 0 ((cntP w w.length : Int) - ((drawN bs (t + 1) 2 : Nat) : Int)))) (hi := (min 8 ((cntP w w.length : Int) + ((drawN bs (t + 1 + 1) 3 : Nat) : Int)))) (ns := []) hM hnl0 (fun n h => by simp at h) (by simp) (by omega) (by omega)
           exact ⟨(⟨(i : Int), ss, (max 0 ((cntP w w.length : Int) - ((drawN bs (t + 1) 2 : Nat) : Int))), (min 8 ((cntP w w.length : Int) + ((drawN bs (t + 1 + 1) 3 : Nat) : Int))), []⟩, w, t + 1 + 1), hMd, rfl⟩)
    · try simp only [decide_eq_true_eq, decide_eq_false_iff_not, Int.not_lt, Int.not_le, Bool.not_eq_eq_eq_not, Bool.not_true, Bool.not_false, Bool.and_eq_true, Bool.and_eq_false_iff, Bool.or_eq_true, Bool.or_eq_false_iff] at hb5
      repeat refine gwp_seq ?_
      refine gwp_skip ?_
      refine cl [0, 2, 3] (k := ?_)
      repeat refine gwp_seq ?_
      refine gwp_region ?_
      refine v0 (k := ?_)
      refine v0 (k := ?_)
      refine s1 (hc := by (first | exact True.intro | omega | with_reducible exact ⟨by omega, by omega, by assumption⟩ | with_reducible exact ⟨trivial, by omega, by omega, by assumption⟩ | (simp only [inI]; omega) | (simp [P.size, nt, wP, pn, all_int, allOne_p, goods_p, allOne, goods, good, G.one, P.one, P.cells] <;> first | omega | assumption | simp_all))) (k := ?_)
      refine v0 (k := ?_)
      refine nil0 ?_
      repeat refine gwp_seq ?_
      refine gwp_ret ?_
      repeat (first | refine gthen_ret ?_ | refine gblock_ret ?_ | refine gnoGoto_ret ?_)
      refine fin_ret ?_
      refine fk2 [0, 1] (hR := ?_)
      first
      | (have hMd := made_of (lo := (max 0 ((cntP w w.length : Int) - ((drawN bs (t + 1) 2 : Nat) : Int)))) (hi := (min 8 ((cntP w w.length : Int) + ((drawN bs (t + 1 + 1) 3 : Nat) : Int)))) hM hnl0 hN (by omega) (by omega) (by omega)
         exact ⟨(⟨(i : Int), ss, (max 0 ((cntP w w.length : Int) - ((drawN bs (t + 1) 2 : Nat) : Int))), (min 8 ((cntP w w.length : Int) + ((drawN bs (t + 1 + 1) 3 : Nat) : Int))), ns⟩, w, u), hMd, rfl⟩)
      | (have hMd := made_of (lo := (max 0 ((cntP w w.length : Int) - ((drawN bs (t + 1) 2 : Nat) : Int)))) (hi := (min 8 ((cntP w w.length : Int) + ((drawN bs (t + 1 + 1) 3 : Nat) : Int)))) (ns := []) hM hnl0 (fun n h => by simp at h) (by simp) (by omega) (by omega)
         exact ⟨(⟨(i : Int), ss, (max 0 ((cntP w w.length : Int) - ((drawN bs (t + 1) 2 : Nat) : Int))), (min 8 ((cntP w w.length : Int) + ((drawN bs (t + 1 + 1) 3 : Nat) : Int))), []⟩, w, t + 1 + 1), hMd, rfl⟩)
end Go.Proofs.Ytedihdnkalmoiaa

/- The statement TwiceTrue: the walk. -/
namespace Go.Proofs.Ytedihdnkalmoiaa
open Go.Gh
set_option maxRecDepth 100000
set_option maxHeartbeats 4000000
theorem ent5 : Enters Try.prog 5 := Enters.mk Try.func5 (by kernel_rfl) rfl
theorem tri (a b : Nat) (x y : Int) (h : a = b → x = y) : (x = y ∧ (a : Int) = (b : Int)) ∨ (x = y ∧ ¬ (a : Int) = (b : Int)) ∨ (¬ x = y ∧ ¬ (a : Int) = (b : Int)) := by
  by_cases h1 : x = y
  · by_cases h2 : (a : Int) = (b : Int)
    · exact .inl ⟨h1, h2⟩
    · exact .inr (.inl ⟨h1, h2⟩)
  · exact .inr (.inr ⟨h1, fun e => h1 (h (by omega))⟩)
theorem l_true (bs : List Int) (hbm : bs.length ≤ maxLen) (hq1 : ∀ b ∈ bs, 0 ≤ b) (hq2 : ∀ b ∈ bs, b ≤ 65535) : PSpec Try.prog 5 [.list (bs.map (.int .u16))] (.ok (.bool true)) := by
  refine pspec_of Try.func5 (rfl : Try.f5.body = some _) rfl ?_
  intro E A C hN hL
  replace hN : C.N = 179 := hN
  simp only [Gh.num, List.map_cons, List.map_nil, Nat.reduceAdd]
  have hgs := geq_span
  have hdt : ∀ (i : Decidable True), @decide True i = true := fun i => decide_eq_true trivial
  have hdf : ∀ (i : Decidable False), @decide False i = false := fun i => decide_eq_false id
  have hpn : ∀ n : Nt, pn n = P.agg [.int .i64 n.a, .int .i64 n.b, .bool n.s] := fun _ => rfl
  have hbt : (true == true) = true := rfl
  have hbf : (false == false) = true := rfl
  have htf : (true == false) = false := rfl
  have hft : (false == true) = false := rfl
  have h10 : ¬ (1 : Int) = 0 := by decide
  have h01 : ¬ (0 : Int) = 1 := by decide
  have hml := maxLen_le
  repeat refine gwp_seq ?_
  refine gwp_region ?_
  refine v0 (k := ?_)
  refine nil0 ?_
  refine cl [0] (k := ?_)
  repeat refine gwp_seq ?_
  refine gwp_region ?_
  refine v0 (k := ?_)
  refine v0 (k := ?_)
  refine v0 (k := ?_)
  refine nil0 ?_
  repeat refine gwp_seq ?_
  refine cB (k1 := fun hb1 => ?_) (k0 := fun hb1 => ?_)
  · try simp only [decide_eq_true_eq, decide_eq_false_iff_not, Int.not_lt, Int.not_le, Bool.not_eq_eq_eq_not, Bool.not_true, Bool.not_false, Bool.and_eq_true, Bool.and_eq_false_iff, Bool.or_eq_true, Bool.or_eq_false_iff] at hb1
    repeat refine gwp_seq ?_
    refine gwp_region ?_
    refine pc0 (spec := l_awake) (hent := ent13) (k := ?_)
    refine v0 (k := ?_)
    refine nil0 ?_
    repeat refine gwp_seq ?_
    refine gwp_ret ?_
    repeat (first | refine gthen_ret ?_ | refine gblock_ret ?_ | refine gnoGoto_ret ?_)
    refine fin_ret ?_
    refine fp (hR := ?_)
    rfl
  · try simp only [decide_eq_true_eq, decide_eq_false_iff_not, Int.not_lt, Int.not_le, Bool.not_eq_eq_eq_not, Bool.not_true, Bool.not_false, Bool.and_eq_true, Bool.and_eq_false_iff, Bool.or_eq_true, Bool.or_eq_false_iff] at hb1
    repeat refine gwp_seq ?_
    refine gwp_skip ?_
    refine cl [0] (k := ?_)
    repeat refine gwp_seq ?_
    have hbl : 0 < bs.length := by omega
    refine gwp_region ?_
    refine v0 (k := ?_)
    refine oc0 [(130, 2000), (110, 2010)] [] [1] none (spec := c_draws bs) (hent := ent30) (k := ?_)
    refine on0 [(0, 2000), (1, 2010)] [] [0] none (X := Sh × List Int × Nat) (spec := c_made bs hbl hbm hq1 hq2 0 (by omega)) (hent := ent29) (k := fun x hX => ?_)
    obtain ⟨s, w, t9⟩ := x
    simp only at hX
    obtain ⟨hv, hw, hwn⟩ := hX
    have hMd : Made s w := ⟨hv, hw, hwn⟩
    have hwn1 := Int.le_of_eq hwn
    have hwn2 := Int.le_of_eq hwn.symm
    clear hwn
    have hn := valid_num hv
    obtain ⟨hne, hz1, hz2, hlo, hhi, hfl, hlx⟩ := true_facts hMd
    have he0 := errA_ok hne
    refine v0 (k := ?_)
    refine v0 (k := ?_)
    refine v0 (k := ?_)
    refine n1 130 false (hc := by (first | exact True.intro | omega | with_reducible exact ⟨by omega, by omega, by assumption⟩ | with_reducible exact ⟨trivial, by omega, by omega, by assumption⟩ | (simp only [inI]; omega) | (simp [P.size, nt, wP, pn, all_int, allOne_p, goods_p, allOne, goods, good, G.one, P.one, P.cells] <;> first | omega | assumption | simp_all))) (k := ?_)
    refine s1 (hc := by (first | exact True.intro | omega | with_reducible exact ⟨by omega, by omega, by assumption⟩ | with_reducible exact ⟨trivial, by omega, by omega, by assumption⟩ | (simp only [inI]; omega) | (simp [P.size, nt, wP, pn, all_int, allOne_p, goods_p, allOne, goods, good, G.one, P.one, P.cells] <;> first | omega | assumption | simp_all))) (k := ?_)
    refine v0 (k := ?_)
    refine nil0 ?_
    refine cl [3, 4] (k := ?_)
    repeat refine gwp_seq ?_
    refine gwp_region ?_
    refine v0 (k := ?_)
    refine pc0 (spec := c_count s hv) (hent := ent16) (k := ?_)
    refine v0 (k := ?_)
    refine v0 (k := ?_)
    refine v0 (k := ?_)
    refine v0 (k := ?_)
    refine v0 (k := ?_)
    refine nil0 ?_
    refine cl [3, 4, 5, 6] (k := ?_)
    repeat refine gwp_seq ?_
    refine gwp_region ?_
    refine v0 (k := ?_)
    refine pc0 (spec := c_first s hv) (hent := ent18) (k := ?_)
    refine v0 (k := ?_)
    refine v0 (k := ?_)
    refine v0 (k := ?_)
    refine v0 (k := ?_)
    refine v0 (k := ?_)
    refine nil0 ?_
    refine cl [3, 4, 5, 6, 7, 8] (k := ?_)
    repeat refine gwp_seq ?_
    refine gwp_region ?_
    refine v0 (k := ?_)
    refine pc0 (spec := c_plates s hv) (hent := ent20) (k := ?_)
    refine v0 (k := ?_)
    refine v0 (k := ?_)
    refine v0 (k := ?_)
    refine n1 190 false (hc := by (first | exact True.intro | omega | with_reducible exact ⟨by omega, by omega, by assumption⟩ | with_reducible exact ⟨trivial, by omega, by omega, by assumption⟩ | (simp only [inI]; omega) | (simp [P.size, nt, wP, pn, all_int, allOne_p, goods_p, allOne, goods, good, G.one, P.one, P.cells] <;> first | omega | assumption | simp_all))) (k := ?_)
    refine s1 (hc := by (first | exact True.intro | omega | with_reducible exact ⟨by omega, by omega, by assumption⟩ | with_reducible exact ⟨trivial, by omega, by omega, by assumption⟩ | (simp only [inI]; omega) | (simp [P.size, nt, wP, pn, all_int, allOne_p, goods_p, allOne, goods, good, G.one, P.one, P.cells] <;> first | omega | assumption | simp_all))) (k := ?_)
    refine v0 (k := ?_)
    refine nil0 ?_
    refine cl [3, 4, 5, 6, 7, 8, 9, 10] (k := ?_)
    repeat refine gwp_seq ?_
    refine gwp_region ?_
    refine v0 (k := ?_)
    refine pc0 (spec := c_clash s hv) (hent := ent25) (k := ?_)
    refine v0 (k := ?_)
    refine v0 (k := ?_)
    refine v0 (k := ?_)
    refine v0 (k := ?_)
    refine v0 (k := ?_)
    refine nil0 ?_
    refine cl [3, 4, 5, 6, 7, 8, 9, 10, 11, 12] (k := ?_)
    repeat refine gwp_seq ?_
    refine gwp_region ?_
    refine v0 (k := ?_)
    refine pc0 (spec := c_drop s hv) (hent := ent27) (k := ?_)
    refine v0 (k := ?_)
    refine v0 (k := ?_)
    refine v0 (k := ?_)
    refine v0 (k := ?_)
    refine v0 (k := ?_)
    refine nil0 ?_
    refine cl [3, 4, 5, 6, 7, 8, 9, 10, 11, 12, 13, 14] (k := ?_)
    repeat refine gwp_seq ?_
    refine gwp_cut (l1 := ?_) (m1 := ?_) ?_ ?_
    rotate_left 2
    · have hq0 := List.length_pos_iff.2 hne
      have hq1 : decide (((wA s).length : Int) < 1) = false := decide_eq_false (by omega)
      have hq2 : ((clashR s : Nat) : Int) = 0 := by omega
      have hq3 : ((dropR s : Nat) : Int) = 0 := by omega
      have hq4 : decide (loA s ≤ (cntP w w.length : Int)) = true := decide_eq_true hlo
      have hq5 : decide ((cntP w w.length : Int) ≤ hiA s) = true := decide_eq_true hhi
      · refine rd ?_
        refine d0 0 (k := ?_)
        refine d0 1 (k := ?_)
        refine d0 2 (k := ?_)
        refine dw0 3 (k := ?_)
        refine dw0 4 (k := ?_)
        refine d0 5 (k := ?_)
        refine d0 6 (k := ?_)
        refine dw0 7 (k := ?_)
        refine dw0 8 (k := ?_)
        refine d0 9 (k := ?_)
        refine d0 10 (k := ?_)
        refine dw0 11 (k := ?_)
        refine dw0 12 (k := ?_)
        refine dw0 13 (k := ?_)
        refine dw0 14 (k := ?_)
        refine dw0 15 (k := ?_)
        refine d0 16 (k := ?_)
        refine d0 17 (k := ?_)
        refine dw0 18 (k := ?_)
        refine dw0 19 (k := ?_)
        refine dpcw 20 (spec := s_Many w (by omega)) (hent := ent32) (k := ?_)
        refine dpcw 21 (spec := s_inside _ _ _) (hent := ent31) (k := ?_)
        refine dw0 22 (k := ?_)
        refine d0 23 (k := ?_)
        refine d0 24 (k := ?_)
        refine dw0 25 (k := ?_)
        refine dw0 26 (k := ?_)
        refine d0 27 (k := ?_)
        refine d0 28 (k := ?_)
        refine dw0 29 (k := ?_)
        refine dw0 30 (k := ?_)
        refine d0 31 (k := ?_)
        refine d0 32 (k := ?_)
        refine dw0 33 (k := ?_)
        refine dw0 34 (k := ?_)
        refine d0 35 (k := ?_)
        refine d0 36 (k := ?_)
        refine dw0 37 (k := ?_)
        refine dw0 38 (k := ?_)
        refine d0 39 (k := ?_)
        refine d0 40 (k := ?_)
        refine dw0 41 (k := ?_)
        refine dw0 42 (k := ?_)
        refine d0 43 (k := ?_)
        refine dz 44 [0, 1, 3, 7, 15, 31, 63, 127, 255, 511, 1023, 2047, 4095, 2047, 10239, 32767, 65535, 131071, 262143, 262143, 786431, 2097151, 4194303, 8388607, 16777215, 33554431, 67108863, 134217727, 268435455, 536870911, 1073741823, 2147483647, 4294967295, 8589934591, 17179869183, 34359738367, 68719476735, 137438953471, 274877906943, 549755813887, 1099511627775, 2199023255551, 4398046511103, 8796093022207] (h := ?_)
        refine de 44 (h := ?_)
        refine lcut [3, 4, 7, 99]
    · repeat refine gwp_seq ?_
      refine cF (k := ?_)
      repeat refine gwp_seq ?_
      refine gwp_skip ?_
      refine cl [3, 4, 7] (k := ?_)
      repeat refine gwp_seq ?_
      refine gwp_region ?_
      refine v0 (k := ?_)
      refine v0 (k := ?_)
      refine v0 (k := ?_)
      refine nil0 ?_
      refine cl [3, 4, 7, 101, 102] (k := ?_)
      repeat refine gwp_seq ?_
      refine gwp_cut (l1 := ?_) (m1 := ?_) ?_ ?_
      rotate_left 2
      · refine gwp_block ?_
        repeat refine gwp_seq ?_
        refine gc_loop (fun mz σ => ∃ k : Nat, (k ≤ w.length) ∧ ((firstA s).take k = w.take k) ∧ mz = w.length - k ∧ σ = (sg [(3, .ref 130 0), (4, .p (.list (w.map (.int .i64)))), (7, .p (.list ((firstA s).map (.int .i64)))), (101, .p (.int .i64 w.length)), (102, .p (.int .i64 k))] [(130, .cells [.p (.int .i64 s.num), .p (.list (s.sizes.map (.int .i64))), .p (.int .i64 s.lo), .p (.int .i64 s.hi), .p (.list (s.notes.map pn))] 0)] A [] : Sg E)) ?_ (fun mz σ hI => ?_)
        · refine lbeg [3, 4, 7, 101, 102] (hV := ?_)
          exact ⟨_, 0, by omega, rfl, rfl, sgE rfl rfl⟩
        obtain ⟨k, hk, heq, hnnk, rfl⟩ := hI
        repeat refine gwp_seq ?_
        refine gwp_region ?_
        refine v0 (k := ?_)
        refine nil0 ?_
        repeat refine gwp_seq ?_
        refine cB (k1 := fun hb2 => ?_) (k0 := fun hb2 => ?_)
        · try simp only [decide_eq_true_eq, decide_eq_false_iff_not, Int.not_lt, Int.not_le, Bool.not_eq_eq_eq_not, Bool.not_true, Bool.not_false, Bool.and_eq_true, Bool.and_eq_false_iff, Bool.or_eq_true, Bool.or_eq_false_iff] at hb2
          repeat refine gwp_seq ?_
          refine gwp_skip ?_
          refine cl [3, 4, 7, 101, 102] (k := ?_)
          repeat refine gwp_seq ?_
          refine gwp_block ?_
          repeat refine gwp_seq ?_
          refine gwp_region ?_
          refine v0 (k := ?_)
          refine v0 (k := ?_)
          refine nil0 ?_
          refine cl [3, 4, 7, 15, 101, 102] (k := ?_)
          repeat refine gwp_seq ?_
          obtain ⟨x, hx⟩ := getE (l := firstA s) (k := k) (by omega)
          obtain ⟨y, hy⟩ := getE (l := w) (k := k) (by omega)
          refine rd ?_
          refine d0 0 (k := ?_)
          refine d0 1 (k := ?_)
          refine d1 2 (hc := by (first | exact True.intro | omega | with_reducible exact ⟨by omega, by omega, by assumption⟩ | with_reducible exact ⟨trivial, by omega, by omega, by assumption⟩ | (simp only [inI]; omega) | (simp [P.size, nt, wP, pn, all_int, allOne_p, goods_p, allOne, goods, good, G.one, P.one, P.cells] <;> first | omega | assumption | simp_all))) (k := ?_)
          refine d0 3 (k := ?_)
          refine d0 4 (k := ?_)
          refine d0 5 (k := ?_)
          refine d1 6 (hc := by (first | exact True.intro | omega | with_reducible exact ⟨by omega, by omega, by assumption⟩ | with_reducible exact ⟨trivial, by omega, by omega, by assumption⟩ | (simp only [inI]; omega) | (simp [P.size, nt, wP, pn, all_int, allOne_p, goods_p, allOne, goods, good, G.one, P.one, P.cells] <;> first | omega | assumption | simp_all))) (k := ?_)
          refine d0 7 (k := ?_)
          refine d0 8 (k := ?_)
          refine dz 9 [0, 0, 3, 7, 0, 0, 48, 112, 255] (h := ?_)
          refine de 9 (h := ?_)
          repeat refine gwp_seq ?_
          refine cB (k1 := fun hb3 => ?_) (k0 := fun hb3 => ?_)
          · try simp only [decide_eq_true_eq, decide_eq_false_iff_not, Int.not_lt, Int.not_le, Bool.not_eq_eq_eq_not, Bool.not_true, Bool.not_false, Bool.and_eq_true, Bool.and_eq_false_iff, Bool.or_eq_true, Bool.or_eq_false_iff] at hb3
            repeat refine gwp_seq ?_
            have hlt := lex_at hlx heq hx hy (by omega)
            have hq : decide (y < x) = false := decide_eq_false (by omega)
            refine rd ?_
            refine d0 0 (k := ?_)
            refine d0 1 (k := ?_)
            refine d1 2 (hc := by (first | exact True.intro | omega | with_reducible exact ⟨by omega, by omega, by assumption⟩ | with_reducible exact ⟨trivial, by omega, by omega, by assumption⟩ | (simp only [inI]; omega) | (simp [P.size, nt, wP, pn, all_int, allOne_p, goods_p, allOne, goods, good, G.one, P.one, P.cells] <;> first | omega | assumption | simp_all))) (k := ?_)
            refine d0 3 (k := ?_)
            refine d0 4 (k := ?_)
            refine d0 5 (k := ?_)
            refine d1 6 (hc := by (first | exact True.intro | omega | with_reducible exact ⟨by omega, by omega, by assumption⟩ | with_reducible exact ⟨trivial, by omega, by omega, by assumption⟩ | (simp only [inI]; omega) | (simp [P.size, nt, wP, pn, all_int, allOne_p, goods_p, allOne, goods, good, G.one, P.one, P.cells] <;> first | omega | assumption | simp_all))) (k := ?_)
            refine d0 7 (k := ?_)
            refine d0 8 (k := ?_)
            refine dz 9 [0, 0, 3, 7, 0, 0, 48, 112, 255] (h := ?_)
            refine de 9 (h := ?_)
            repeat refine gwp_seq ?_
            refine cF (k := ?_)
            repeat refine gwp_seq ?_
            refine gwp_skip ?_
            refine cl [3, 4] (k := ?_)
            repeat refine gwp_seq ?_
            refine gwp_exit ?_
            repeat (first | refine gthen_exit ?_ | refine gnoGoto_exit ?_ | refine gblock_here ?_ | refine gblock_out rfl ?_)
            refine lcut [3, 4]
          · try simp only [decide_eq_true_eq, decide_eq_false_iff_not, Int.not_lt, Int.not_le, Bool.not_eq_eq_eq_not, Bool.not_true, Bool.not_false, Bool.and_eq_true, Bool.and_eq_false_iff, Bool.or_eq_true, Bool.or_eq_false_iff] at hb3
            repeat refine gwp_seq ?_
            refine gwp_skip ?_
            refine cl [3, 4, 7, 101, 102] (k := ?_)
            repeat refine gwp_seq ?_
            refine gwp_region ?_
            refine v1 (hc := by (first | exact True.intro | omega | with_reducible exact ⟨by omega, by omega, by assumption⟩ | with_reducible exact ⟨trivial, by omega, by omega, by assumption⟩ | (simp only [inI]; omega) | (simp [P.size, nt, wP, pn, all_int, allOne_p, goods_p, allOne, goods, good, G.one, P.one, P.cells] <;> first | omega | assumption | simp_all))) (k := ?_)
            refine v0 (k := ?_)
            refine nil0 ?_
            refine lend [3, 4, 7, 101, 102] (h := ?_) (hV := ?_) (n' := w.length - (k + 1))
            · omega
            exact ⟨k + 1, by omega, take_next heq hx hy (by omega), rfl, sgE rfl rfl⟩
        · try simp only [decide_eq_true_eq, decide_eq_false_iff_not, Int.not_lt, Int.not_le, Bool.not_eq_eq_eq_not, Bool.not_true, Bool.not_false, Bool.and_eq_true, Bool.and_eq_false_iff, Bool.or_eq_true, Bool.or_eq_false_iff] at hb2
          repeat refine gwp_seq ?_
          refine gwp_exit ?_
          repeat (first | refine gthen_exit ?_ | refine gnoGoto_exit ?_ | refine gblock_here ?_ | refine gblock_out rfl ?_)
          refine lcut [3, 4]
      · repeat refine gwp_seq ?_
        refine gwp_region ?_
        refine v0 (k := ?_)
        refine v0 (k := ?_)
        refine v0 (k := ?_)
        refine nil0 ?_
        refine cl [3, 4, 125, 126] (k := ?_)
        repeat refine gwp_seq ?_
        refine gwp_block ?_
        repeat refine gwp_seq ?_
        refine gc_loop (fun mz σ => ∃ a : Nat, (a ≤ w.length) ∧ mz = w.length - a ∧ σ = (sg [(3, .ref 130 0), (4, .p (.list (w.map (.int .i64)))), (125, .p (.int .i64 w.length)), (126, .p (.int .i64 a))] [(130, .cells [.p (.int .i64 s.num), .p (.list (s.sizes.map (.int .i64))), .p (.int .i64 s.lo), .p (.int .i64 s.hi), .p (.list (s.notes.map pn))] 0)] A [] : Sg E)) ?_ (fun mz σ hI => ?_)
        · refine lbeg [3, 4, 125, 126] (hV := ?_)
          exact ⟨_, 0, by omega, rfl, sgE rfl rfl⟩
        obtain ⟨a, ha, hnna, rfl⟩ := hI
        repeat refine gwp_seq ?_
        refine gwp_region ?_
        refine v0 (k := ?_)
        refine nil0 ?_
        repeat refine gwp_seq ?_
        refine cB (k1 := fun hb4 => ?_) (k0 := fun hb4 => ?_)
        · try simp only [decide_eq_true_eq, decide_eq_false_iff_not, Int.not_lt, Int.not_le, Bool.not_eq_eq_eq_not, Bool.not_true, Bool.not_false, Bool.and_eq_true, Bool.and_eq_false_iff, Bool.or_eq_true, Bool.or_eq_false_iff] at hb4
          repeat refine gwp_seq ?_
          refine gwp_skip ?_
          refine cl [3, 4, 125, 126] (k := ?_)
          repeat refine gwp_seq ?_
          refine gwp_block ?_
          repeat refine gwp_seq ?_
          refine gwp_region ?_
          refine v0 (k := ?_)
          refine v0 (k := ?_)
          refine nil0 ?_
          refine cl [3, 4, 16, 125, 126] (k := ?_)
          repeat refine gwp_seq ?_
          refine gwp_region ?_
          refine v0 (k := ?_)
          refine v0 (k := ?_)
          refine v0 (k := ?_)
          refine nil0 ?_
          refine cl [3, 4, 16, 125, 126, 130, 131] (k := ?_)
          repeat refine gwp_seq ?_
          refine gwp_block ?_
          repeat refine gwp_seq ?_
          refine gc_loop (fun mz σ => ∃ b : Nat, (b ≤ w.length) ∧ mz = w.length - b ∧ σ = (sg [(3, .ref 130 0), (4, .p (.list (w.map (.int .i64)))), (16, .p (.int .i64 a)), (125, .p (.int .i64 w.length)), (126, .p (.int .i64 a)), (130, .p (.int .i64 w.length)), (131, .p (.int .i64 b))] [(130, .cells [.p (.int .i64 s.num), .p (.list (s.sizes.map (.int .i64))), .p (.int .i64 s.lo), .p (.int .i64 s.hi), .p (.list (s.notes.map pn))] 0)] A [] : Sg E)) ?_ (fun mz σ hI => ?_)
          · refine lbeg [3, 4, 16, 125, 126, 130, 131] (hV := ?_)
            exact ⟨_, 0, by omega, rfl, sgE rfl rfl⟩
          obtain ⟨b, hb, hnnb, rfl⟩ := hI
          repeat refine gwp_seq ?_
          refine gwp_region ?_
          refine v0 (k := ?_)
          refine nil0 ?_
          repeat refine gwp_seq ?_
          refine cB (k1 := fun hb5 => ?_) (k0 := fun hb5 => ?_)
          · try simp only [decide_eq_true_eq, decide_eq_false_iff_not, Int.not_lt, Int.not_le, Bool.not_eq_eq_eq_not, Bool.not_true, Bool.not_false, Bool.and_eq_true, Bool.and_eq_false_iff, Bool.or_eq_true, Bool.or_eq_false_iff] at hb5
            repeat refine gwp_seq ?_
            refine gwp_skip ?_
            refine cl [3, 4, 16, 125, 126, 130, 131] (k := ?_)
            repeat refine gwp_seq ?_
            refine gwp_block ?_
            repeat refine gwp_seq ?_
            refine gwp_region ?_
            refine v0 (k := ?_)
            refine v0 (k := ?_)
            refine nil0 ?_
            refine cl [3, 4, 16, 17, 125, 126, 130, 131] (k := ?_)
            repeat refine gwp_seq ?_
            refine gwp_region ?_
            refine v0 (k := ?_)
            refine v0 (k := ?_)
            refine v0 (k := ?_)
            refine pc0 (spec := c_same s hv (a := a) (b := b) (by omega) (by omega)) (hent := ent14) (k := ?_)
            refine v0 (k := ?_)
            refine v0 (k := ?_)
            refine v0 (k := ?_)
            refine v0 (k := ?_)
            refine v0 (k := ?_)
            refine nil0 ?_
            refine cl [3, 4, 16, 17, 18, 19, 125, 126, 130, 131] (k := ?_)
            repeat refine gwp_seq ?_
            obtain ⟨x, hx⟩ := getE (l := w) (k := a) (by omega)
            obtain ⟨y, hy⟩ := getE (l := w) (k := b) (by omega)
            refine rd ?_
            refine d0 0 (k := ?_)
            refine d0 1 (k := ?_)
            refine d1 2 (hc := by (first | exact True.intro | omega | with_reducible exact ⟨by omega, by omega, by assumption⟩ | with_reducible exact ⟨trivial, by omega, by omega, by assumption⟩ | (simp only [inI]; omega) | (simp [P.size, nt, wP, pn, all_int, allOne_p, goods_p, allOne, goods, good, G.one, P.one, P.cells] <;> first | omega | assumption | simp_all))) (k := ?_)
            refine d0 3 (k := ?_)
            refine d0 4 (k := ?_)
            refine d0 5 (k := ?_)
            refine d1 6 (hc := by (first | exact True.intro | omega | with_reducible exact ⟨by omega, by omega, by assumption⟩ | with_reducible exact ⟨trivial, by omega, by omega, by assumption⟩ | (simp only [inI]; omega) | (simp [P.size, nt, wP, pn, all_int, allOne_p, goods_p, allOne, goods, good, G.one, P.one, P.cells] <;> first | omega | assumption | simp_all))) (k := ?_)
            refine d0 7 (k := ?_)
            refine d0 8 (k := ?_)
            refine d0 9 (k := ?_)
            refine dz 10 [0, 0, 3, 7, 0, 0, 48, 112, 255, 511] (h := ?_)
            refine de 10 (h := ?_)
            refine cl [3, 4, 16, 17, 18, 19, 20, 125, 126, 130, 131] (k := ?_)
            repeat refine gwp_seq ?_
            refine gwp_cut (l1 := ?_) (m1 := ?_) ?_ ?_
            rotate_left 2
            · have hts := true_same hMd a b
              have hea : eqAt a b w = decide (x = y) := eqAt_t (by rw [Int.toNat_natCast]; exact hx) (by rw [Int.toNat_natCast]; exact hy)
              rcases tri a b x y (by rintro rfl; rw [hx] at hy; exact Option.some.inj hy) with ⟨hxy, hij⟩ | ⟨hxy, hij⟩ | ⟨hxy, hij⟩
              · have hs0 := hts.1 (by rw [hea]; exact decide_eq_true hxy)
                have hs1 : sameA s a b = 1 := by have := sameA_self hne (a : Int); rw [hij] at this ⊢; exact this
                have hs0b : ¬ sameA s (b : Int) (b : Int) = 0 := by have := hs0; rw [hij] at this; exact this
                have hs1b : sameA s (b : Int) (b : Int) = 1 := by have := hs1; rw [hij] at this; exact this
                refine gwp_region ?_
                refine v0 (k := ?_)
                refine v0 (k := ?_)
                refine rb 151 false (h := by (first | with_reducible rfl | with_reducible assumption | with_reducible exact decide_eq_false (by omega) | with_reducible exact decide_eq_true (by omega) | with_reducible exact nd_f (by omega) | with_reducible exact nd_t (by omega) | (simp only [*]; done) | (simp [*]; done))) (k := ?_)
                refine v0 (k := ?_)
                refine w0 (k := ?_)
                refine rb 153 true (h := by (first | with_reducible rfl | with_reducible assumption | with_reducible exact decide_eq_false (by omega) | with_reducible exact decide_eq_true (by omega) | with_reducible exact nd_f (by omega) | with_reducible exact nd_t (by omega) | (simp only [*]; done) | (simp [*]; done))) (k := ?_)
                refine w0 (k := ?_)
                refine w0 (k := ?_)
                refine w0 (k := ?_)
                refine rb 156 false (h := by (first | with_reducible rfl | with_reducible assumption | with_reducible exact decide_eq_false (by omega) | with_reducible exact decide_eq_true (by omega) | with_reducible exact nd_f (by omega) | with_reducible exact nd_t (by omega) | (simp only [*]; done) | (simp [*]; done))) (k := ?_)
                refine w0 (k := ?_)
                refine v0 (k := ?_)
                refine v0 (k := ?_)
                refine w0 (k := ?_)
                refine w0 (k := ?_)
                refine rb 161 false (h := by (first | with_reducible rfl | with_reducible assumption | with_reducible exact decide_eq_false (by omega) | with_reducible exact decide_eq_true (by omega) | with_reducible exact nd_f (by omega) | with_reducible exact nd_t (by omega) | (simp only [*]; done) | (simp [*]; done))) (k := ?_)
                refine w0 (k := ?_)
                refine x0 (k := ?_)
                refine x0 (k := ?_)
                refine w0 (k := ?_)
                refine v0 (k := ?_)
                refine v0 (k := ?_)
                refine w0 (k := ?_)
                refine w0 (k := ?_)
                refine w0 (k := ?_)
                refine rb 170 true (h := by (first | with_reducible rfl | with_reducible assumption | with_reducible exact decide_eq_false (by omega) | with_reducible exact decide_eq_true (by omega) | with_reducible exact nd_f (by omega) | with_reducible exact nd_t (by omega) | (simp only [*]; done) | (simp [*]; done))) (k := ?_)
                refine w0 (k := ?_)
                refine w0 (k := ?_)
                refine w0 (k := ?_)
                refine rb 173 false (h := by (first | with_reducible rfl | with_reducible assumption | with_reducible exact decide_eq_false (by omega) | with_reducible exact decide_eq_true (by omega) | with_reducible exact nd_f (by omega) | with_reducible exact nd_t (by omega) | (simp only [*]; done) | (simp [*]; done))) (k := ?_)
                refine w0 (k := ?_)
                refine v0 (k := ?_)
                refine nil0 ?_
                refine lcut [3, 4, 16, 125, 126, 130, 131, 175]
              · have hs0 := hts.1 (by rw [hea]; exact decide_eq_true hxy)
                refine gwp_region ?_
                refine v0 (k := ?_)
                refine v0 (k := ?_)
                refine rb 151 false (h := by (first | with_reducible rfl | with_reducible assumption | with_reducible exact decide_eq_false (by omega) | with_reducible exact decide_eq_true (by omega) | with_reducible exact nd_f (by omega) | with_reducible exact nd_t (by omega) | (simp only [*]; done) | (simp [*]; done))) (k := ?_)
                refine v0 (k := ?_)
                refine w0 (k := ?_)
                refine rb 153 true (h := by (first | with_reducible rfl | with_reducible assumption | with_reducible exact decide_eq_false (by omega) | with_reducible exact decide_eq_true (by omega) | with_reducible exact nd_f (by omega) | with_reducible exact nd_t (by omega) | (simp only [*]; done) | (simp [*]; done))) (k := ?_)
                refine w0 (k := ?_)
                refine w0 (k := ?_)
                refine w0 (k := ?_)
                refine rb 156 false (h := by (first | with_reducible rfl | with_reducible assumption | with_reducible exact decide_eq_false (by omega) | with_reducible exact decide_eq_true (by omega) | with_reducible exact nd_f (by omega) | with_reducible exact nd_t (by omega) | (simp only [*]; done) | (simp [*]; done))) (k := ?_)
                refine w0 (k := ?_)
                refine v0 (k := ?_)
                refine v0 (k := ?_)
                refine w0 (k := ?_)
                refine w0 (k := ?_)
                refine rb 161 false (h := by (first | with_reducible rfl | with_reducible assumption | with_reducible exact decide_eq_false (by omega) | with_reducible exact decide_eq_true (by omega) | with_reducible exact nd_f (by omega) | with_reducible exact nd_t (by omega) | (simp only [*]; done) | (simp [*]; done))) (k := ?_)
                refine w0 (k := ?_)
                refine x0 (k := ?_)
                refine x0 (k := ?_)
                refine w0 (k := ?_)
                refine v0 (k := ?_)
                refine v0 (k := ?_)
                refine w0 (k := ?_)
                refine w0 (k := ?_)
                refine w0 (k := ?_)
                refine rb 170 false (h := by (first | with_reducible rfl | with_reducible assumption | with_reducible exact decide_eq_false (by omega) | with_reducible exact decide_eq_true (by omega) | with_reducible exact nd_f (by omega) | with_reducible exact nd_t (by omega) | (simp only [*]; done) | (simp [*]; done))) (k := ?_)
                refine w0 (k := ?_)
                refine x0 (k := ?_)
                refine x0 (k := ?_)
                refine w0 (k := ?_)
                refine v0 (k := ?_)
                refine nil0 ?_
                refine lcut [3, 4, 16, 125, 126, 130, 131, 175]
              · have hs1 := hts.2 (by rw [hea]; exact decide_eq_false hxy)
                refine gwp_region ?_
                refine v0 (k := ?_)
                refine v0 (k := ?_)
                refine rb 151 false (h := by (first | with_reducible rfl | with_reducible assumption | with_reducible exact decide_eq_false (by omega) | with_reducible exact decide_eq_true (by omega) | with_reducible exact nd_f (by omega) | with_reducible exact nd_t (by omega) | (simp only [*]; done) | (simp [*]; done))) (k := ?_)
                refine v0 (k := ?_)
                refine w0 (k := ?_)
                refine rb 153 false (h := by (first | with_reducible rfl | with_reducible assumption | with_reducible exact decide_eq_false (by omega) | with_reducible exact decide_eq_true (by omega) | with_reducible exact nd_f (by omega) | with_reducible exact nd_t (by omega) | (simp only [*]; done) | (simp [*]; done))) (k := ?_)
                refine w0 (k := ?_)
                refine x0 (k := ?_)
                refine x0 (k := ?_)
                refine w0 (k := ?_)
                refine v0 (k := ?_)
                refine v0 (k := ?_)
                refine w0 (k := ?_)
                refine w0 (k := ?_)
                refine rb 161 true (h := by (first | with_reducible rfl | with_reducible assumption | with_reducible exact decide_eq_false (by omega) | with_reducible exact decide_eq_true (by omega) | with_reducible exact nd_f (by omega) | with_reducible exact nd_t (by omega) | (simp only [*]; done) | (simp [*]; done))) (k := ?_)
                refine w0 (k := ?_)
                refine w0 (k := ?_)
                refine w0 (k := ?_)
                refine rb 164 false (h := by (first | with_reducible rfl | with_reducible assumption | with_reducible exact decide_eq_false (by omega) | with_reducible exact decide_eq_true (by omega) | with_reducible exact nd_f (by omega) | with_reducible exact nd_t (by omega) | (simp only [*]; done) | (simp [*]; done))) (k := ?_)
                refine w0 (k := ?_)
                refine v0 (k := ?_)
                refine v0 (k := ?_)
                refine w0 (k := ?_)
                refine w0 (k := ?_)
                refine w0 (k := ?_)
                refine rb 170 false (h := by (first | with_reducible rfl | with_reducible assumption | with_reducible exact decide_eq_false (by omega) | with_reducible exact decide_eq_true (by omega) | with_reducible exact nd_f (by omega) | with_reducible exact nd_t (by omega) | (simp only [*]; done) | (simp [*]; done))) (k := ?_)
                refine w0 (k := ?_)
                refine x0 (k := ?_)
                refine x0 (k := ?_)
                refine w0 (k := ?_)
                refine v0 (k := ?_)
                refine nil0 ?_
                refine lcut [3, 4, 16, 125, 126, 130, 131, 175]
            · repeat refine gwp_seq ?_
              refine cF (k := ?_)
              repeat refine gwp_seq ?_
              refine gwp_skip ?_
              refine cl [3, 4, 16, 125, 126, 130, 131] (k := ?_)
              repeat refine gwp_seq ?_
              refine gwp_region ?_
              refine v1 (hc := by (first | exact True.intro | omega | with_reducible exact ⟨by omega, by omega, by assumption⟩ | with_reducible exact ⟨trivial, by omega, by omega, by assumption⟩ | (simp only [inI]; omega) | (simp [P.size, nt, wP, pn, all_int, allOne_p, goods_p, allOne, goods, good, G.one, P.one, P.cells] <;> first | omega | assumption | simp_all))) (k := ?_)
              refine v0 (k := ?_)
              refine nil0 ?_
              refine lend [3, 4, 16, 125, 126, 130, 131] (h := ?_) (hV := ?_) (n' := w.length - (b + 1))
              · omega
              exact ⟨b + 1, by omega, rfl, sgE rfl rfl⟩
          · try simp only [decide_eq_true_eq, decide_eq_false_iff_not, Int.not_lt, Int.not_le, Bool.not_eq_eq_eq_not, Bool.not_true, Bool.not_false, Bool.and_eq_true, Bool.and_eq_false_iff, Bool.or_eq_true, Bool.or_eq_false_iff] at hb5
            repeat refine gwp_seq ?_
            refine gwp_exit ?_
            repeat (first | refine gthen_exit ?_ | refine gnoGoto_exit ?_ | refine gblock_here ?_ | refine gblock_out rfl ?_)
            refine cl [3, 4, 125, 126] (k := ?_)
            repeat refine gwp_seq ?_
            refine gwp_region ?_
            refine v1 (hc := by (first | exact True.intro | omega | with_reducible exact ⟨by omega, by omega, by assumption⟩ | with_reducible exact ⟨trivial, by omega, by omega, by assumption⟩ | (simp only [inI]; omega) | (simp [P.size, nt, wP, pn, all_int, allOne_p, goods_p, allOne, goods, good, G.one, P.one, P.cells] <;> first | omega | assumption | simp_all))) (k := ?_)
            refine v0 (k := ?_)
            refine nil0 ?_
            refine lend [3, 4, 125, 126] (h := ?_) (hV := ?_) (n' := w.length - (a + 1))
            · omega
            exact ⟨a + 1, by omega, rfl, sgE rfl rfl⟩
        · try simp only [decide_eq_true_eq, decide_eq_false_iff_not, Int.not_lt, Int.not_le, Bool.not_eq_eq_eq_not, Bool.not_true, Bool.not_false, Bool.and_eq_true, Bool.and_eq_false_iff, Bool.or_eq_true, Bool.or_eq_false_iff] at hb4
          repeat refine gwp_seq ?_
          refine gwp_exit ?_
          repeat (first | refine gthen_exit ?_ | refine gnoGoto_exit ?_ | refine gblock_here ?_ | refine gblock_out rfl ?_)
          refine cl [] (k := ?_)
          repeat refine gwp_seq ?_
          refine gwp_region ?_
          refine pc0 (spec := l_awake) (hent := ent13) (k := ?_)
          refine v0 (k := ?_)
          refine nil0 ?_
          repeat refine gwp_seq ?_
          refine gwp_ret ?_
          repeat (first | refine gthen_ret ?_ | refine gblock_ret ?_ | refine gnoGoto_ret ?_)
          refine fin_ret ?_
          refine fp (hR := ?_)
          rfl
end Go.Proofs.Ytedihdnkalmoiaa

/- The statement TwiceTrue, for every input: the law returns true, and its arguments read as they did.  -/
namespace Go.Proofs.Ytedihdnkalmoiaa
open Go.Gh Go.ChangeShapes Go.WideShapes Go.ChangeAt Go.RowKit
set_option maxRecDepth 100000
theorem aj_true : ∀ ps, FitAs [(false, [.list [.int .u16] false])] ps → PSpec Try.prog 5 ps (.ok (.bool true)) := fun ps h => by
  simp only [FitAs] at h
  obtain ⟨_, _, rfl, q0, rfl⟩ := h
  obtain ⟨bs, rfl, hlbs, hbs⟩ := u16s_of q0
  exact l_true bs hlbs (fun b hb => (hbs b hb).1) (fun b hb => (hbs b hb).2)
theorem true_lifted (os : Os) (started : os.Started) (H : Type) (enc : TypeId × Value → H) :
    ReturnsInHanded {} Try.checked os 5 .any (Rows.twiceTrueSpec.pre6 enc Try.prog Try.f5 Rows.twiceTrueRow.domain false) (Rows.twiceTrueSpec.post enc Try.prog Try.f5 false true false false) := by
  refine returnsInHanded_of_change (C := Try.checked) own started (by kernel_rfl) Try.func5
    (ChangeSpec.witness6 (enc := enc) (C := Try.checked) false ⟨#[], #[.slice none 0 0], []⟩ 8 (by kernel_rfl) (by kernel_rfl) (by kernel_rfl) (by kernel_rfl)) ?_
  intro W base args ds gs before hval hW _ _
  exact law_post (n := 9) (ss := [(false, [.list [.int .u16] false])]) (b := 4) laidOut (by kernel_rfl) (by kernel_rfl) (by kernel_rfl) (by kernel_rfl) rfl
    (fun ds hd => by
      have hd' : ds.length = 1 := hd
      match ds, hd' with
      | [a], _ => rfl) aj_true hval hW
theorem true_holds : Rows.TwiceTrueSaid :=
  OpenClaim.holds_of_wide 5 Try.f5 rfl rfl rfl rfl rfl rfl rfl ⟨rfl, rfl, rfl, rfl, rfl⟩ rfl rfl rfl rfl rfl (by kernel_rfl) Try.func5 (by kernel_rfl)
    (of_decide_eq_true (by kernel_rfl)) (by unfold Func.isWrapper; first | (rw [if_pos (by decide +kernel)]; kernel_rfl) | (rw [if_neg (by decide +kernel)]; exact ⟨rfl, rfl⟩))
    (fun os started H enc _ => true_lifted os started H enc)
end Go.Proofs.Ytedihdnkalmoiaa
