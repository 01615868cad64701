/- What functions of the program return, each for every input that its theorem names. -/
import Derived.Test.YtedihdnkalmoiaaB3
set_option linter.unusedVariables false
set_option linter.unusedSimpArgs false
/- The program: Same. -/
namespace Go.Proofs.Ytedihdnkalmoiaa
open Go.Gh
set_option maxRecDepth 100000
set_option maxHeartbeats 4000000
theorem ent14 : Enters Try.prog 14 := Enters.mk Try.func14 (by kernel_rfl) rfl
theorem p_same_t {E : Env Try.prog} {A : E.α} (s : Sh) (hv : s.valid = true) (hcb : canB s (onN s) (everyN s) = true) (a b : Int) (ha : 0 ≤ a ∧ a ≤ s.num - 1) (hb : 0 ≤ b ∧ b ≤ s.num - 1) : Gh.Spec E 14 [.p (.agg [.int .i64 s.num, .list (s.sizes.map (.int .i64)), .int .i64 s.lo, .int .i64 s.hi, .list (s.notes.map pn)]), .p (.int .i64 a), .p (.int .i64 b)] (mkHp []) A (fun y => y = .ok (.p (.tuple [.int .i64 (sameV (diff1 a b ((onN s).filter (rightW s (everyN s)))) (same1 a b ((onN s).filter (rightW s (everyN s))))), .int .i64 0])) (mkHp []) A) := by
  refine specD_of Try.func14 (rfl : Try.f14.body = some _) (Nat.le_of_ble_eq_true rfl) (fun id h => ?_) (fun j id h => ?_) ?_
  · exact wf1x h
  · exact wf2x h
  intro C hN hL
  replace hN : C.N = 67 := hN
  simp only [Gh.num, List.map_cons, List.map_nil, Nat.reduceAdd]
  have hn := valid_num hv
  have hm := onN_many s (by omega)
  have hev := everyN_lt (s := s) (by omega)
  have hwP : ∀ w : List Int, wP w = P.agg (w.map (P.int .i64)) := fun _ => rfl
  have hgp := geq_pair
  repeat refine gwp_seq ?_
  refine gwp_region ?_
  refine n1 130 false (hc := by (first | exact True.intro | (simp only [inI]; omega) | (simp [P.size, nt, wP, pn, all_int, allOne_p, goods_p, allOne, goods, good, G.one, P.one, P.cells] <;> first | omega | assumption | simp_all))) (k := ?_)
  refine v0 (k := ?_)
  refine n1 170 false (hc := by (first | exact True.intro | (simp only [inI]; omega) | (simp [P.size, nt, wP, pn, all_int, allOne_p, goods_p, allOne, goods, good, G.one, P.one, P.cells] <;> first | omega | assumption | simp_all))) (k := ?_)
  refine nil0 ?_
  refine cl [1, 2, 3, 6, 7] (k := ?_)
  repeat refine gwp_seq ?_
  refine gwp_region ?_
  refine df0 (k := ?_)
  refine nil0 ?_
  refine cl [1, 2, 3, 6, 7] (k := ?_)
  repeat refine gwp_seq ?_
  refine gwp_region ?_
  refine v0 (k := ?_)
  refine oc0 [(640, 5000)] [] [1] none (spec := s_open_t s hv) (hent := ent43) (k := ?_)
  refine v0 (k := ?_)
  refine nil0 ?_
  refine cl [1, 2, 6, 7, 8] (k := ?_)
  repeat refine gwp_seq ?_
  refine gwp_region ?_
  refine v0 (k := ?_)
  refine v0 (k := ?_)
  refine oc0 [] [] [4, 0] none (spec := s_isNumber s.num a (by omega)) (hent := ent45) (k := ?_)
  refine v0 (k := ?_)
  refine rb 19 true (h := by (simp [ha.1, ha.2, hb.1, hb.2])) (k := ?_)
  refine w0 (k := ?_)
  refine w0 (k := ?_)
  refine ocw [] [] [4, 0] none (spec := s_isNumber s.num b (by omega)) (hent := ent45) (k := ?_)
  refine v0 (k := ?_)
  refine rb 23 true (h := by (simp [ha.1, ha.2, hb.1, hb.2])) (k := ?_)
  refine pc0 (spec := s_must_t _) (hent := ent44) (k := ?_)
  refine nil0 ?_
  refine cl [1, 2, 6, 7, 8] (k := ?_)
  repeat refine gwp_seq ?_
  refine gwp_region ?_
  refine v0 (k := ?_)
  refine oc0 [(0, 5000)] [] [0] none (spec := must0_t s hv hcb) (hent := ent46) (k := ?_)
  refine nil0 ?_
  refine cl [1, 2, 6, 7, 8] (k := ?_)
  repeat refine gwp_seq ?_
  refine gwp_region ?_
  refine v0 (k := ?_)
  refine n1 190 false (hc := by (first | exact True.intro | (simp only [inI]; omega) | (simp [P.size, nt, wP, pn, all_int, allOne_p, goods_p, allOne, goods, good, G.one, P.one, P.cells] <;> first | omega | assumption | simp_all))) (k := ?_)
  refine s1 (hc := by (first | exact True.intro | (simp only [inI]; omega) | (simp [P.size, nt, wP, pn, all_int, allOne_p, goods_p, allOne, goods, good, G.one, P.one, P.cells] <;> first | omega | assumption | simp_all))) (k := ?_)
  refine nil0 ?_
  refine cl [1, 2, 6, 7, 8, 9] (k := ?_)
  repeat refine gwp_seq ?_
  refine gwp_region ?_
  refine v0 (k := ?_)
  refine v0 (k := ?_)
  refine v0 (k := ?_)
  refine v0 (k := ?_)
  refine v0 (k := ?_)
  refine v0 (k := ?_)
  refine v0 (k := ?_)
  refine v0 (k := ?_)
  refine n1 460 false (hc := by (first | exact True.intro | (simp only [inI]; omega) | (simp [P.size, nt, wP, pn, all_int, allOne_p, goods_p, allOne, goods, good, G.one, P.one, P.cells] <;> first | omega | assumption | simp_all))) (k := ?_)
  refine n1 200 false (hc := by (first | exact True.intro | (simp only [inI]; omega) | (simp [P.size, nt, wP, pn, all_int, allOne_p, goods_p, allOne, goods, good, G.one, P.one, P.cells] <;> first | omega | assumption | simp_all))) (k := ?_)
  refine s1 (hc := by (first | exact True.intro | (simp only [inI]; omega) | (simp [P.size, nt, wP, pn, all_int, allOne_p, goods_p, allOne, goods, good, G.one, P.one, P.cells] <;> first | omega | assumption | simp_all))) (k := ?_)
  refine nil0 ?_
  refine cl [6, 7, 8, 9, 10] (k := ?_)
  repeat refine gwp_seq ?_
  refine gwp_region ?_
  refine v0 (k := ?_)
  refine v0 (k := ?_)
  refine oc0 [] [] [9] none (spec := s_everyN s (by omega)) (hent := ent50) (k := ?_)
  refine oc0 [] [] [10, 0] none (spec := s_right s (everyN s) (onN s)) (hent := ent49) (k := ?_)
  refine nil0 ?_
  refine cl [6, 7, 9, 10, 40] (k := ?_)
  repeat refine gwp_seq ?_
  refine gwp_block ?_
  repeat refine gwp_seq ?_
  refine rf 10000 99001 [41] (fun k (z : Nat) A1 => z = k ∧ A1 = A) (fun z => [(170, .cells [.p (.int .i64 0)] 0), (190, .cells [.p (.bool (diff1 a b (((onN s).filter (rightW s (everyN s))).take z))), .p (.bool (same1 a b (((onN s).filter (rightW s (everyN s))).take z)))] 0), (200, .cells [.own 460 2] 0), (460, .arr 72 1 [.fn (.func 47) [.agg [.int .i64 a, .int .i64 b]] [], .fn (.func 48) [.agg [.int .i64 a, .int .i64 b]] []] true)]) (fun _ _ _ => False) (fun _ _ => []) [] [.k, .k] (it := it_right s (everyN s) (onN s) (by omega) (by omega) (by omega) (onN_len8 s) (nv_of hv)) (hent := ent70) (xs := ((onN s).filter (rightW s (everyN s))).map fun w => [wP w]) (hlen := fun x hx => by obtain ⟨w, _, rfl⟩ := List.mem_map.1 hx; rfl) (h0 := ?_) (round := fun k z A1 x hI hx lp bs C1 hN1 hL1 => ?_) (hK := fun e z A1 hK => ?_) (hI := fun z A1 hI => ?_)
  · exact ⟨0, ⟨rfl, rfl⟩, rfl⟩
  · obtain ⟨rfl, rfl⟩ := hI
    rw [List.getElem?_map] at hx
    obtain ⟨w, hw, rfl⟩ := Option.map_eq_some_iff.1 hx
    have hw8 := onN_len8 s w (List.mem_filter.1 (List.mem_of_getElem? hw)).1
    obtain ⟨x1, hx1⟩ := getI (l := w) (i := a) (by omega) (by omega)
    obtain ⟨y1, hy1⟩ := getI (l := w) (i := b) (by omega) (by omega)
    replace hN1 : C1.N = 67 := hN1.trans hN
    refine (?_ : gwp C1 (some lp) _ _ (sg ((41, .p (wP w)) :: _) [(170, .cells [.p (.int .i64 0)] 0), (190, .cells [.p (.bool (diff1 a b (((onN s).filter (rightW s (everyN s))).take z))), .p (.bool (same1 a b (((onN s).filter (rightW s (everyN s))).take z)))] 0), (200, .cells [.own 460 2] 0), (460, .arr 72 1 [.fn (.func 47) [.agg [.int .i64 a, .int .i64 b]] [], .fn (.func 48) [.agg [.int .i64 a, .int .i64 b]] []] true)] A1 []))
    repeat refine gwp_seq ?_
    refine gwp_region ?_
    refine n1 10210 false (hc := by (first | exact True.intro | (simp only [inI]; omega) | (simp [P.size, nt, wP, pn, all_int, allOne_p, goods_p, allOne, goods, good, G.one, P.one, P.cells] <;> first | omega | assumption | simp_all))) (k := ?_)
    refine s1 (hc := by (first | exact True.intro | (simp only [inI]; omega) | (simp [P.size, nt, wP, pn, all_int, allOne_p, goods_p, allOne, goods, good, G.one, P.one, P.cells] <;> first | omega | assumption | simp_all))) (k := ?_)
    refine nil0 ?_
    refine ⟨rfl, fun bs2 C2 hN2 hL2 hr2 => ?_⟩
    replace hN2 : C2.N = 67 := hN2.trans hN
    refine (?_ : gwp C2 (some lp) _ _ (sg _ _ _ []))
    repeat refine gwp_seq ?_
    refine gwp_block ?_
    repeat refine gwp_seq ?_
    refine gwp_region ?_
    refine v0 (k := ?_)
    refine v0 (k := ?_)
    refine v0 (k := ?_)
    refine nil0 ?_
    refine cl [6, 7, 9, 10, 11, 42, 43, 44] (k := ?_)
    repeat refine gwp_seq ?_
    refine gwp_block ?_
    repeat refine gwp_seq ?_
    refine gc_loop (fun mz σ => ∃ j : Nat, (j ≤ 2) ∧ mz = 2 - j ∧ σ = (sg [(6, .p (.int .i64 0)), (7, .ref 170 0), (9, .ref 190 0), (10, .ref 200 0), (11, .ref 10210 0), (42, .own 460 2), (43, .p (.int .i64 2)), (44, .p (.int .i64 j))] [(170, .cells [.p (.int .i64 0)] 0), (190, .cells [.p (.bool (fnd 0 (diff1 a b (((onN s).filter (rightW s (everyN s))).take z)) (!decide (x1 = y1)) j)), .p (.bool (fnd 1 (same1 a b (((onN s).filter (rightW s (everyN s))).take z)) (decide (x1 = y1)) j))] 0), (200, .cells [.own 460 2] 0), (10210, .cells ((w.map (.int .i64)).map .p) 0), (460, .arr 72 1 [.fn (.func 47) [.agg [.int .i64 a, .int .i64 b]] [], .fn (.func 48) [.agg [.int .i64 a, .int .i64 b]] []] true)] A1 [] : Sg (E.guard _))) ?_ (fun mz σ hI => ?_)
    · refine lbeg [6, 7, 9, 10, 11, 42, 43, 44] (hV := ?_)
      exact ⟨_, 0, by omega, rfl, rfl⟩
    obtain ⟨j, hj, hnn, rfl⟩ := hI
    repeat refine gwp_seq ?_
    refine gwp_region ?_
    refine v0 (k := ?_)
    refine nil0 ?_
    repeat refine gwp_seq ?_
    refine cB (k1 := fun hb1 => ?_) (k0 := fun hb1 => ?_)
    · try simp only [decide_eq_true_eq, decide_eq_false_iff_not, Int.not_lt, Int.not_le, Bool.not_eq_eq_eq_not, Bool.not_true, Bool.not_false, Bool.and_eq_true, Bool.and_eq_false_iff, Bool.or_eq_true, Bool.or_eq_false_iff] at hb1
      try rw [eqI] at hb1
      repeat refine gwp_seq ?_
      refine gwp_skip ?_
      refine cl [6, 7, 9, 10, 11, 42, 43, 44] (k := ?_)
      repeat refine gwp_seq ?_
      refine gwp_block ?_
      repeat refine gwp_seq ?_
      obtain ⟨jn, hjn⟩ : ∃ jn, jn = 2 - (j + 1) := ⟨_, rfl⟩
      rcases (show j = 0 ∨ j = 1 by omega) with rfl | rfl
      · repeat refine gwp_seq ?_
        refine gwp_region ?_
        refine v0 (k := ?_)
        refine v1 (hc := by (first | exact True.intro | (simp only [inI]; omega) | (simp [P.size, nt, wP, pn, all_int, allOne_p, goods_p, allOne, goods, good, G.one, P.one, P.cells] <;> first | omega | assumption | simp_all))) (k := ?_)
        refine v0 (k := ?_)
        refine v0 (k := ?_)
        refine v0 (k := ?_)
        refine nil0 ?_
        refine cl [6, 7, 9, 10, 11, 12, 13, 42, 43, 44] (k := ?_)
        repeat refine gwp_seq ?_
        refine gwp_region ?_
        refine v0 (k := ?_)
        refine v0 (k := ?_)
        refine v1 (hc := by (first | exact True.intro | (simp only [inI]; omega) | (simp [P.size, nt, wP, pn, all_int, allOne_p, goods_p, allOne, goods, good, G.one, P.one, P.cells] <;> first | omega | assumption | simp_all))) (k := ?_)
        refine v0 (k := ?_)
        refine v0 (k := ?_)
        refine b0 (k1 := fun hb2 => ?_) (k0 := fun hb2 => ?_)
        · try simp only [decide_eq_true_eq, decide_eq_false_iff_not, Int.not_lt, Int.not_le, Bool.not_eq_eq_eq_not, Bool.not_true, Bool.not_false, Bool.and_eq_true, Bool.and_eq_false_iff, Bool.or_eq_true, Bool.or_eq_false_iff] at hb2
          try rw [eqI] at hb2
          refine x0 (k := ?_)
          refine x0 (k := ?_)
          refine x0 (k := ?_)
          refine v0 (k := ?_)
          refine v1 (hc := by (first | exact True.intro | (simp only [inI]; omega) | (simp [P.size, nt, wP, pn, all_int, allOne_p, goods_p, allOne, goods, good, G.one, P.one, P.cells] <;> first | omega | assumption | simp_all))) (k := ?_)
          refine s1 (hc := by (first | exact True.intro | (simp only [inI]; omega) | (simp [P.size, nt, wP, pn, all_int, allOne_p, goods_p, allOne, goods, good, G.one, P.one, P.cells] <;> first | omega | assumption | simp_all))) (k := ?_)
          refine nil0 ?_
          refine cl [6, 7, 9, 10, 11, 42, 43, 44] (k := ?_)
          repeat refine gwp_seq ?_
          refine gwp_region ?_
          refine v1 (hc := by (first | exact True.intro | (simp only [inI]; omega) | (simp [P.size, nt, wP, pn, all_int, allOne_p, goods_p, allOne, goods, good, G.one, P.one, P.cells] <;> first | omega | assumption | simp_all))) (k := ?_)
          refine v0 (k := ?_)
          refine nil0 ?_
          refine lend [6, 7, 9, 10, 11, 42, 43, 44] (h := ?_) (hV := ?_) (n' := jn)
          · omega
          first
          | exact ⟨1, by omega, by omega, sgE rfl (by rw [fnd_a hb2]; rfl)⟩
          | exact ⟨1, by omega, by omega, sgE rfl (by rw [fnd_b hb2]; rfl)⟩
          | exact ⟨2, by omega, by omega, sgE rfl (by rw [fnd_c hb2]; rfl)⟩
          | exact ⟨2, by omega, by omega, sgE rfl (by rw [fnd_d hb2]; rfl)⟩
          | exact ⟨1, by omega, by omega, sgE rfl (by rw [fnd_a hb3]; rfl)⟩
          | exact ⟨1, by omega, by omega, sgE rfl (by rw [fnd_b hb3]; rfl)⟩
          | exact ⟨2, by omega, by omega, sgE rfl (by rw [fnd_c hb3]; rfl)⟩
          | exact ⟨2, by omega, by omega, sgE rfl (by rw [fnd_d hb3]; rfl)⟩
        · try simp only [decide_eq_true_eq, decide_eq_false_iff_not, Int.not_lt, Int.not_le, Bool.not_eq_eq_eq_not, Bool.not_true, Bool.not_false, Bool.and_eq_true, Bool.and_eq_false_iff, Bool.or_eq_true, Bool.or_eq_false_iff] at hb2
          try rw [eqI] at hb2
          refine w0 (k := ?_)
          refine w0 (k := ?_)
          refine pcw (spec := s_not a b x1 y1 w hw8 (by omega) (by omega) hx1 hy1) (hent := ent47) (k := ?_)
          refine v0 (k := ?_)
          refine v1 (hc := by (first | exact True.intro | (simp only [inI]; omega) | (simp [P.size, nt, wP, pn, all_int, allOne_p, goods_p, allOne, goods, good, G.one, P.one, P.cells] <;> first | omega | assumption | simp_all))) (k := ?_)
          refine s1 (hc := by (first | exact True.intro | (simp only [inI]; omega) | (simp [P.size, nt, wP, pn, all_int, allOne_p, goods_p, allOne, goods, good, G.one, P.one, P.cells] <;> first | omega | assumption | simp_all))) (k := ?_)
          refine nil0 ?_
          refine cl [6, 7, 9, 10, 11, 42, 43, 44] (k := ?_)
          repeat refine gwp_seq ?_
          refine gwp_region ?_
          refine v1 (hc := by (first | exact True.intro | (simp only [inI]; omega) | (simp [P.size, nt, wP, pn, all_int, allOne_p, goods_p, allOne, goods, good, G.one, P.one, P.cells] <;> first | omega | assumption | simp_all))) (k := ?_)
          refine v0 (k := ?_)
          refine nil0 ?_
          refine lend [6, 7, 9, 10, 11, 42, 43, 44] (h := ?_) (hV := ?_) (n' := jn)
          · omega
          first
          | exact ⟨1, by omega, by omega, sgE rfl (by rw [fnd_a hb2]; rfl)⟩
          | exact ⟨1, by omega, by omega, sgE rfl (by rw [fnd_b hb2]; rfl)⟩
          | exact ⟨2, by omega, by omega, sgE rfl (by rw [fnd_c hb2]; rfl)⟩
          | exact ⟨2, by omega, by omega, sgE rfl (by rw [fnd_d hb2]; rfl)⟩
          | exact ⟨1, by omega, by omega, sgE rfl (by rw [fnd_a hb3]; rfl)⟩
          | exact ⟨1, by omega, by omega, sgE rfl (by rw [fnd_b hb3]; rfl)⟩
          | exact ⟨2, by omega, by omega, sgE rfl (by rw [fnd_c hb3]; rfl)⟩
          | exact ⟨2, by omega, by omega, sgE rfl (by rw [fnd_d hb3]; rfl)⟩
      · repeat refine gwp_seq ?_
        refine gwp_region ?_
        refine v0 (k := ?_)
        refine v1 (hc := by (first | exact True.intro | (simp only [inI]; omega) | (simp [P.size, nt, wP, pn, all_int, allOne_p, goods_p, allOne, goods, good, G.one, P.one, P.cells] <;> first | omega | assumption | simp_all))) (k := ?_)
        refine v0 (k := ?_)
        refine v0 (k := ?_)
        refine v0 (k := ?_)
        refine nil0 ?_
        refine cl [6, 7, 9, 10, 11, 12, 13, 42, 43, 44] (k := ?_)
        repeat refine gwp_seq ?_
        refine gwp_region ?_
        refine v0 (k := ?_)
        refine v0 (k := ?_)
        refine v1 (hc := by (first | exact True.intro | (simp only [inI]; omega) | (simp [P.size, nt, wP, pn, all_int, allOne_p, goods_p, allOne, goods, good, G.one, P.one, P.cells] <;> first | omega | assumption | simp_all))) (k := ?_)
        refine v0 (k := ?_)
        refine v0 (k := ?_)
        refine b0 (k1 := fun hb3 => ?_) (k0 := fun hb3 => ?_)
        · try simp only [decide_eq_true_eq, decide_eq_false_iff_not, Int.not_lt, Int.not_le, Bool.not_eq_eq_eq_not, Bool.not_true, Bool.not_false, Bool.and_eq_true, Bool.and_eq_false_iff, Bool.or_eq_true, Bool.or_eq_false_iff] at hb3
          try rw [eqI] at hb3
          refine x0 (k := ?_)
          refine x0 (k := ?_)
          refine x0 (k := ?_)
          refine v0 (k := ?_)
          refine v1 (hc := by (first | exact True.intro | (simp only [inI]; omega) | (simp [P.size, nt, wP, pn, all_int, allOne_p, goods_p, allOne, goods, good, G.one, P.one, P.cells] <;> first | omega | assumption | simp_all))) (k := ?_)
          refine s1 (hc := by (first | exact True.intro | (simp only [inI]; omega) | (simp [P.size, nt, wP, pn, all_int, allOne_p, goods_p, allOne, goods, good, G.one, P.one, P.cells] <;> first | omega | assumption | simp_all))) (k := ?_)
          refine nil0 ?_
          refine cl [6, 7, 9, 10, 11, 42, 43, 44] (k := ?_)
          repeat refine gwp_seq ?_
          refine gwp_region ?_
          refine v1 (hc := by (first | exact True.intro | (simp only [inI]; omega) | (simp [P.size, nt, wP, pn, all_int, allOne_p, goods_p, allOne, goods, good, G.one, P.one, P.cells] <;> first | omega | assumption | simp_all))) (k := ?_)
          refine v0 (k := ?_)
          refine nil0 ?_
          refine lend [6, 7, 9, 10, 11, 42, 43, 44] (h := ?_) (hV := ?_) (n' := jn)
          · omega
          first
          | exact ⟨1, by omega, by omega, sgE rfl (by rw [fnd_a hb2]; rfl)⟩
          | exact ⟨1, by omega, by omega, sgE rfl (by rw [fnd_b hb2]; rfl)⟩
          | exact ⟨2, by omega, by omega, sgE rfl (by rw [fnd_c hb2]; rfl)⟩
          | exact ⟨2, by omega, by omega, sgE rfl (by rw [fnd_d hb2]; rfl)⟩
          | exact ⟨1, by omega, by omega, sgE rfl (by rw [fnd_a hb3]; rfl)⟩
          | exact ⟨1, by omega, by omega, sgE rfl (by rw [fnd_b hb3]; rfl)⟩
          | exact ⟨2, by omega, by omega, sgE rfl (by rw [fnd_c hb3]; rfl)⟩
          | exact ⟨2, by omega, by omega, sgE rfl (by rw [fnd_d hb3]; rfl)⟩
        · try simp only [decide_eq_true_eq, decide_eq_false_iff_not, Int.not_lt, Int.not_le, Bool.not_eq_eq_eq_not, Bool.not_true, Bool.not_false, Bool.and_eq_true, Bool.and_eq_false_iff, Bool.or_eq_true, Bool.or_eq_false_iff] at hb3
          try rw [eqI] at hb3
          refine w0 (k := ?_)
          refine w0 (k := ?_)
          refine pcw (spec := s_same a b x1 y1 w hw8 (by omega) (by omega) hx1 hy1) (hent := ent48) (k := ?_)
          refine v0 (k := ?_)
          refine v1 (hc := by (first | exact True.intro | (simp only [inI]; omega) | (simp [P.size, nt, wP, pn, all_int, allOne_p, goods_p, allOne, goods, good, G.one, P.one, P.cells] <;> first | omega | assumption | simp_all))) (k := ?_)
          refine s1 (hc := by (first | exact True.intro | (simp only [inI]; omega) | (simp [P.size, nt, wP, pn, all_int, allOne_p, goods_p, allOne, goods, good, G.one, P.one, P.cells] <;> first | omega | assumption | simp_all))) (k := ?_)
          refine nil0 ?_
          refine cl [6, 7, 9, 10, 11, 42, 43, 44] (k := ?_)
          repeat refine gwp_seq ?_
          refine gwp_region ?_
          refine v1 (hc := by (first | exact True.intro | (simp only [inI]; omega) | (simp [P.size, nt, wP, pn, all_int, allOne_p, goods_p, allOne, goods, good, G.one, P.one, P.cells] <;> first | omega | assumption | simp_all))) (k := ?_)
          refine v0 (k := ?_)
          refine nil0 ?_
          refine lend [6, 7, 9, 10, 11, 42, 43, 44] (h := ?_) (hV := ?_) (n' := jn)
          · omega
          first
          | exact ⟨1, by omega, by omega, sgE rfl (by rw [fnd_a hb2]; rfl)⟩
          | exact ⟨1, by omega, by omega, sgE rfl (by rw [fnd_b hb2]; rfl)⟩
          | exact ⟨2, by omega, by omega, sgE rfl (by rw [fnd_c hb2]; rfl)⟩
          | exact ⟨2, by omega, by omega, sgE rfl (by rw [fnd_d hb2]; rfl)⟩
          | exact ⟨1, by omega, by omega, sgE rfl (by rw [fnd_a hb3]; rfl)⟩
          | exact ⟨1, by omega, by omega, sgE rfl (by rw [fnd_b hb3]; rfl)⟩
          | exact ⟨2, by omega, by omega, sgE rfl (by rw [fnd_c hb3]; rfl)⟩
          | exact ⟨2, by omega, by omega, sgE rfl (by rw [fnd_d hb3]; rfl)⟩
    · try simp only [decide_eq_true_eq, decide_eq_false_iff_not, Int.not_lt, Int.not_le, Bool.not_eq_eq_eq_not, Bool.not_true, Bool.not_false, Bool.and_eq_true, Bool.and_eq_false_iff, Bool.or_eq_true, Bool.or_eq_false_iff] at hb1
      try rw [eqI] at hb1
      repeat refine gwp_seq ?_
      refine gwp_exit ?_
      repeat (first | refine gthen_exit ?_ | refine gnoGoto_exit ?_ | refine gblock_here ?_ | refine gblock_out rfl ?_)
      refine gblock_normal ?_
      have hj2 : j = 2 := by omega
      subst hj2
      refine ⟨_, z + 1, lc [170, 190, 200, 460], ?_, rfl, rfl⟩
      rw [diff1_succ hw hx1 hy1, same1_succ hw hx1 hy1]
      rfl
  · exact hK.elim
  · obtain ⟨hz, rfl⟩ := hI
    rw [List.length_map] at hz
    subst hz
    rw [List.take_length]
    refine cl [6, 7, 9] (k := ?_)
    repeat refine gwp_seq ?_
    refine gwp_region ?_
    refine v0 (k := ?_)
    refine nil0 ?_
    refine cl [6, 7, 60] (k := ?_)
    repeat refine gwp_seq ?_
    refine gwp_block ?_
    repeat refine gwp_seq ?_
    refine gwp_region ?_
    refine v0 (k := ?_)
    refine v1 (hc := by (exact heg71)) (k := ?_)
    refine v0 (k := ?_)
    refine nil0 ?_
    repeat refine gwp_seq ?_
    refine cB (k1 := fun hb4 => ?_) (k0 := fun hb4 => ?_)
    · try simp only [decide_eq_true_eq, decide_eq_false_iff_not, Int.not_lt, Int.not_le, Bool.not_eq_eq_eq_not, Bool.not_true, Bool.not_false, Bool.and_eq_true, Bool.and_eq_false_iff, Bool.or_eq_true, Bool.or_eq_false_iff] at hb4
      try rw [eqI] at hb4
      repeat refine gwp_seq ?_
      refine gwp_region ?_
      refine v0 (k := ?_)
      refine s1 (hc := by (first | exact True.intro | (simp only [inI]; omega) | (simp [P.size, nt, wP, pn, all_int, allOne_p, goods_p, allOne, goods, good, G.one, P.one, P.cells] <;> first | omega | assumption | simp_all))) (k := ?_)
      refine nil0 ?_
      repeat refine gwp_seq ?_
      refine gwp_ret ?_
      repeat (first | refine gthen_ret ?_ | refine gblock_ret ?_ | refine gnoGoto_ret ?_)
      refine finD_ret ?_
      refine om (h := ?_)
      refine ocall [170] [(0, 170)] (spec := d_none 0) (hent := ent42) (h := ?_)
      refine out_nil ?_
      refine fp2 (hR := ?_)
      first | rw [sameV_1 hb4] | rw [sameV_0 hb5] | rw [sameV_2 hb4 hb5]
    · try simp only [decide_eq_true_eq, decide_eq_false_iff_not, Int.not_lt, Int.not_le, Bool.not_eq_eq_eq_not, Bool.not_true, Bool.not_false, Bool.and_eq_true, Bool.and_eq_false_iff, Bool.or_eq_true, Bool.or_eq_false_iff] at hb4
      try rw [eqI] at hb4
      repeat refine gwp_seq ?_
      refine gwp_region ?_
      refine v0 (k := ?_)
      refine v1 (hc := by (exact heg71)) (k := ?_)
      refine v0 (k := ?_)
      refine nil0 ?_
      repeat refine gwp_seq ?_
      refine cB (k1 := fun hb5 => ?_) (k0 := fun hb5 => ?_)
      · try simp only [decide_eq_true_eq, decide_eq_false_iff_not, Int.not_lt, Int.not_le, Bool.not_eq_eq_eq_not, Bool.not_true, Bool.not_false, Bool.and_eq_true, Bool.and_eq_false_iff, Bool.or_eq_true, Bool.or_eq_false_iff] at hb5
        try rw [eqI] at hb5
        repeat refine gwp_seq ?_
        refine gwp_region ?_
        refine v0 (k := ?_)
        refine s1 (hc := by (first | exact True.intro | (simp only [inI]; omega) | (simp [P.size, nt, wP, pn, all_int, allOne_p, goods_p, allOne, goods, good, G.one, P.one, P.cells] <;> first | omega | assumption | simp_all))) (k := ?_)
        refine nil0 ?_
        repeat refine gwp_seq ?_
        refine gwp_ret ?_
        repeat (first | refine gthen_ret ?_ | refine gblock_ret ?_ | refine gnoGoto_ret ?_)
        refine finD_ret ?_
        refine om (h := ?_)
        refine ocall [170] [(0, 170)] (spec := d_none 0) (hent := ent42) (h := ?_)
        refine out_nil ?_
        refine fp2 (hR := ?_)
        first | rw [sameV_1 hb4] | rw [sameV_0 hb5] | rw [sameV_2 hb4 hb5]
      · try simp only [decide_eq_true_eq, decide_eq_false_iff_not, Int.not_lt, Int.not_le, Bool.not_eq_eq_eq_not, Bool.not_true, Bool.not_false, Bool.and_eq_true, Bool.and_eq_false_iff, Bool.or_eq_true, Bool.or_eq_false_iff] at hb5
        try rw [eqI] at hb5
        repeat refine gwp_seq ?_
        refine gwp_skip ?_
        refine cl [6, 7] (k := ?_)
        repeat refine gwp_seq ?_
        refine gwp_region ?_
        refine v0 (k := ?_)
        refine s1 (hc := by (first | exact True.intro | (simp only [inI]; omega) | (simp [P.size, nt, wP, pn, all_int, allOne_p, goods_p, allOne, goods, good, G.one, P.one, P.cells] <;> first | omega | assumption | simp_all))) (k := ?_)
        refine nil0 ?_
        repeat refine gwp_seq ?_
        refine gwp_ret ?_
        repeat (first | refine gthen_ret ?_ | refine gblock_ret ?_ | refine gnoGoto_ret ?_)
        refine finD_ret ?_
        refine om (h := ?_)
        refine ocall [170] [(0, 170)] (spec := d_none 0) (hent := ent42) (h := ?_)
        refine out_nil ?_
        refine fp2 (hR := ?_)
        first | rw [sameV_1 hb4] | rw [sameV_0 hb5] | rw [sameV_2 hb4 hb5]
theorem p_same_c {E : Env Try.prog} {A : E.α} (s : Sh) (hv : s.valid = true) (hcb : canB s (onN s) (everyN s) = false) (a b : Int) (ha : 0 ≤ a ∧ a ≤ s.num - 1) (hb : 0 ≤ b ∧ b ≤ s.num - 1) : Gh.Spec E 14 [.p (.agg [.int .i64 s.num, .list (s.sizes.map (.int .i64)), .int .i64 s.lo, .int .i64 s.hi, .list (s.notes.map pn)]), .p (.int .i64 a), .p (.int .i64 b)] (mkHp []) A (fun y => y = .ok (.p (.tuple [.int .i64 0, .int .i64 10])) (mkHp []) A) := by
  refine specD_of Try.func14 (rfl : Try.f14.body = some _) (Nat.le_of_ble_eq_true rfl) (fun id h => ?_) (fun j id h => ?_) ?_
  · exact wf1x h
  · exact wf2x h
  intro C hN hL
  replace hN : C.N = 67 := hN
  simp only [Gh.num, List.map_cons, List.map_nil, Nat.reduceAdd]
  have hn := valid_num hv
  have hm := onN_many s (by omega)
  have hev := everyN_lt (s := s) (by omega)
  repeat refine gwp_seq ?_
  refine gwp_region ?_
  refine n1 130 false (hc := by (first | exact True.intro | (simp only [inI]; omega) | (simp [P.size, nt, wP, pn, all_int, allOne_p, goods_p, allOne, goods, good, G.one, P.one, P.cells] <;> first | omega | assumption | simp_all))) (k := ?_)
  refine v0 (k := ?_)
  refine n1 170 false (hc := by (first | exact True.intro | (simp only [inI]; omega) | (simp [P.size, nt, wP, pn, all_int, allOne_p, goods_p, allOne, goods, good, G.one, P.one, P.cells] <;> first | omega | assumption | simp_all))) (k := ?_)
  refine nil0 ?_
  refine cl [1, 2, 3, 6, 7] (k := ?_)
  repeat refine gwp_seq ?_
  refine gwp_region ?_
  refine df0 (k := ?_)
  refine nil0 ?_
  refine cl [1, 2, 3, 6, 7] (k := ?_)
  repeat refine gwp_seq ?_
  refine gwp_region ?_
  refine v0 (k := ?_)
  refine oc0 [(640, 5000)] [] [1] none (spec := s_open_t s hv) (hent := ent43) (k := ?_)
  refine v0 (k := ?_)
  refine nil0 ?_
  refine cl [1, 2, 6, 7, 8] (k := ?_)
  repeat refine gwp_seq ?_
  refine gwp_region ?_
  refine v0 (k := ?_)
  refine v0 (k := ?_)
  refine oc0 [] [] [4, 0] none (spec := s_isNumber s.num a (by omega)) (hent := ent45) (k := ?_)
  refine v0 (k := ?_)
  refine rb 19 true (h := by (simp [ha.1, ha.2, hb.1, hb.2])) (k := ?_)
  refine w0 (k := ?_)
  refine w0 (k := ?_)
  refine ocw [] [] [4, 0] none (spec := s_isNumber s.num b (by omega)) (hent := ent45) (k := ?_)
  refine v0 (k := ?_)
  refine rb 23 true (h := by (simp [ha.1, ha.2, hb.1, hb.2])) (k := ?_)
  refine pc0 (spec := s_must_t _) (hent := ent44) (k := ?_)
  refine nil0 ?_
  refine cl [1, 2, 6, 7, 8] (k := ?_)
  repeat refine gwp_seq ?_
  refine gwp_region ?_
  refine v0 (k := ?_)
  refine op0 [(0, 5000)] [] [0] none (spec := must0_f s hv hcb) (hent := ent46) (k := ?_)
  repeat (first | refine gthen_panic ?_ | refine gblock_panic ?_)
  refine finD_panic ?_
  refine ocall [170] [(0, 170)] (spec := d_some 0 10) (hent := ent42) (h := ?_)
  refine out_nil ?_
  refine fp2 (hR := ?_)
  rfl
theorem p_same_f {E : Env Try.prog} {A : E.α} (s : Sh) (h1 : s.sizes.length ≤ 1048576) (h2 : s.notes.length ≤ 1048576) (hv : s.valid = false) (a b : Int) : Gh.Spec E 14 [.p (.agg [.int .i64 s.num, .list (s.sizes.map (.int .i64)), .int .i64 s.lo, .int .i64 s.hi, .list (s.notes.map pn)]), .p (.int .i64 a), .p (.int .i64 b)] (mkHp []) A (fun y => y = .ok (.p (.tuple [.int .i64 0, .int .i64 1])) (mkHp []) A) := by
  refine specD_of Try.func14 (rfl : Try.f14.body = some _) (Nat.le_of_ble_eq_true rfl) (fun id h => ?_) (fun j id h => ?_) ?_
  · exact wf1x h
  · exact wf2x h
  intro C hN hL
  replace hN : C.N = 67 := hN
  simp only [Gh.num, List.map_cons, List.map_nil, Nat.reduceAdd]
  repeat refine gwp_seq ?_
  refine gwp_region ?_
  refine n1 130 false (hc := by (first | exact True.intro | (simp only [inI]; omega) | (simp [P.size, nt, wP, pn, all_int, allOne_p, goods_p, allOne, goods, good, G.one, P.one, P.cells] <;> first | omega | assumption | simp_all))) (k := ?_)
  refine v0 (k := ?_)
  refine n1 170 false (hc := by (first | exact True.intro | (simp only [inI]; omega) | (simp [P.size, nt, wP, pn, all_int, allOne_p, goods_p, allOne, goods, good, G.one, P.one, P.cells] <;> first | omega | assumption | simp_all))) (k := ?_)
  refine nil0 ?_
  refine cl [1, 2, 3, 6, 7] (k := ?_)
  repeat refine gwp_seq ?_
  refine gwp_region ?_
  refine df0 (k := ?_)
  refine nil0 ?_
  refine cl [1, 2, 3, 6, 7] (k := ?_)
  repeat refine gwp_seq ?_
  refine gwp_region ?_
  refine v0 (k := ?_)
  refine op0 [] [] [1] none (spec := s_open_f s h1 h2 hv) (hent := ent43) (k := ?_)
  repeat (first | refine gthen_panic ?_ | refine gblock_panic ?_)
  refine finD_panic ?_
  refine ocall [170] [(0, 170)] (spec := d_some 0 1) (hent := ent42) (h := ?_)
  refine out_nil ?_
  refine fp2 (hR := ?_)
  rfl
theorem p_same_r {E : Env Try.prog} {A : E.α} (s : Sh) (hv : s.valid = true) (a b : Int) (h : ((decide (0 ≤ a) && decide (a ≤ s.num - 1)) && (decide (0 ≤ b) && decide (b ≤ s.num - 1))) = false) : Gh.Spec E 14 [.p (.agg [.int .i64 s.num, .list (s.sizes.map (.int .i64)), .int .i64 s.lo, .int .i64 s.hi, .list (s.notes.map pn)]), .p (.int .i64 a), .p (.int .i64 b)] (mkHp []) A (fun y => y = .ok (.p (.tuple [.int .i64 0, .int .i64 2])) (mkHp []) A) := by
  refine specD_of Try.func14 (rfl : Try.f14.body = some _) (Nat.le_of_ble_eq_true rfl) (fun id h => ?_) (fun j id h => ?_) ?_
  · exact wf1x h
  · exact wf2x h
  intro C hN hL
  replace hN : C.N = 67 := hN
  simp only [Gh.num, List.map_cons, List.map_nil, Nat.reduceAdd]
  have hn := valid_num hv
  have hm := onN_many s (by omega)
  have hev := everyN_lt (s := s) (by omega)
  repeat refine gwp_seq ?_
  refine gwp_region ?_
  refine n1 130 false (hc := by (first | exact True.intro | (simp only [inI]; omega) | (simp [P.size, nt, wP, pn, all_int, allOne_p, goods_p, allOne, goods, good, G.one, P.one, P.cells] <;> first | omega | assumption | simp_all))) (k := ?_)
  refine v0 (k := ?_)
  refine n1 170 false (hc := by (first | exact True.intro | (simp only [inI]; omega) | (simp [P.size, nt, wP, pn, all_int, allOne_p, goods_p, allOne, goods, good, G.one, P.one, P.cells] <;> first | omega | assumption | simp_all))) (k := ?_)
  refine nil0 ?_
  refine cl [1, 2, 3, 6, 7] (k := ?_)
  repeat refine gwp_seq ?_
  refine gwp_region ?_
  refine df0 (k := ?_)
  refine nil0 ?_
  refine cl [1, 2, 3, 6, 7] (k := ?_)
  repeat refine gwp_seq ?_
  refine gwp_region ?_
  refine v0 (k := ?_)
  refine oc0 [(640, 5000)] [] [1] none (spec := s_open_t s hv) (hent := ent43) (k := ?_)
  refine v0 (k := ?_)
  refine nil0 ?_
  refine cl [1, 2, 6, 7, 8] (k := ?_)
  repeat refine gwp_seq ?_
  rcases Bool.eq_false_or_eq_true (decide (0 ≤ a) && decide (a ≤ s.num - 1)) with h1 | h1
  · repeat refine gwp_seq ?_
    refine gwp_region ?_
    refine v0 (k := ?_)
    refine v0 (k := ?_)
    refine oc0 [] [] [4, 0] none (spec := s_isNumber s.num a (by omega)) (hent := ent45) (k := ?_)
    refine v0 (k := ?_)
    refine rb 19 true (h := by (first | rfl | exact h1)) (k := ?_)
    refine w0 (k := ?_)
    refine w0 (k := ?_)
    refine ocw [] [] [4, 0] none (spec := s_isNumber s.num b (by omega)) (hent := ent45) (k := ?_)
    refine v0 (k := ?_)
    refine rb 23 false (h := by (first | rfl | exact h1 | simpa [h1] using h)) (k := ?_)
    refine pp0 (spec := s_must_f _) (hent := ent44) (k := ?_)
    repeat (first | refine gthen_panic ?_ | refine gblock_panic ?_)
    refine finD_panic ?_
    refine ocall [170] [(0, 170)] (spec := d_some 0 2) (hent := ent42) (h := ?_)
    refine out_nil ?_
    refine fp2 (hR := ?_)
    rfl
  · repeat refine gwp_seq ?_
    refine gwp_region ?_
    refine v0 (k := ?_)
    refine v0 (k := ?_)
    refine oc0 [] [] [4, 0] none (spec := s_isNumber s.num a (by omega)) (hent := ent45) (k := ?_)
    refine v0 (k := ?_)
    refine rb 19 false (h := by (first | rfl | exact h1)) (k := ?_)
    refine x0 (k := ?_)
    refine x0 (k := ?_)
    refine x0 (k := ?_)
    refine v0 (k := ?_)
    refine rb 23 false (h := by (rfl)) (k := ?_)
    refine pp0 (spec := s_must_f _) (hent := ent44) (k := ?_)
    repeat (first | refine gthen_panic ?_ | refine gblock_panic ?_)
    refine finD_panic ?_
    refine ocall [170] [(0, 170)] (spec := d_some 0 2) (hent := ent42) (h := ?_)
    refine out_nil ?_
    refine fp2 (hR := ?_)
    rfl
end Go.Proofs.Ytedihdnkalmoiaa

/- The statements: what is far too large; a span; the sample. -/
namespace Go.Proofs.Ytedihdnkalmoiaa
open Go.Gh
set_option maxRecDepth 100000
set_option maxHeartbeats 4000000
def heavyB (s : Sh) (n m : Int) : Bool := decide (40 < (s.sizes.length : Int)) || (decide (40 < (s.notes.length : Int)) || (s.valid && (decide (n < s.num) || decide (m < (s.notes.length : Int)))))
theorem hv_1 {s : Sh} {n m : Int} (h : 40 < (s.sizes.length : Int)) : heavyB s n m = true := by simp only [heavyB, decide_eq_true h, Bool.true_or]
theorem hv_2 {s : Sh} {n m : Int} (h : 40 < (s.notes.length : Int)) : heavyB s n m = true := by simp only [heavyB, decide_eq_true h, Bool.true_or, Bool.or_true]
theorem hv_3 {s : Sh} {n m : Int} (h : s.valid = true) (h2 : n < s.num) : heavyB s n m = true := by simp only [heavyB, h, decide_eq_true h2, Bool.true_or, Bool.or_true, Bool.true_and]
theorem hv_4 {s : Sh} {n m : Int} (h1 : (s.sizes.length : Int) ≤ 40) (h2 : (s.notes.length : Int) ≤ 40) (h : s.valid = true) (h3 : s.num ≤ n) : heavyB s n m = decide (m < (s.notes.length : Int)) := by
  simp only [heavyB, h, decide_eq_false (Int.not_lt.2 h1), decide_eq_false (Int.not_lt.2 h2), decide_eq_false (Int.not_lt.2 h3), Bool.false_or, Bool.true_and]
theorem hv_5 {s : Sh} {n m : Int} (h1 : (s.sizes.length : Int) ≤ 40) (h2 : (s.notes.length : Int) ≤ 40) (h : s.valid = false) : heavyB s n m = false := by
  simp only [heavyB, h, decide_eq_false (Int.not_lt.2 h1), decide_eq_false (Int.not_lt.2 h2), Bool.false_or, Bool.false_and]
theorem ent12 : Enters Try.prog 12 := Enters.mk Try.func12 (by kernel_rfl) rfl
theorem l_heavy (s : Sh) (n m : Int) : PSpec Try.prog 12 [.agg [.int .i64 s.num, .list (s.sizes.map (.int .i64)), .int .i64 s.lo, .int .i64 s.hi, .list (s.notes.map pn)], .int .i64 n, .int .i64 m] (.ok (.bool (heavyB s n m))) := by
  refine pspec_of Try.func12 (rfl : Try.f12.body = some _) rfl ?_
  intro E A C hN hL
  replace hN : C.N = 34 := hN
  simp only [Gh.num, List.map_cons, List.map_nil, Nat.reduceAdd]
  repeat refine gwp_seq ?_
  refine gwp_region ?_
  refine n1 130 false (hc := by (first | exact True.intro | (simp only [inI]; omega) | (simp [P.size, nt, wP, pn, all_int, allOne_p, goods_p, allOne, goods, good, G.one, P.one, P.cells] <;> first | omega | assumption | simp_all))) (k := ?_)
  refine v0 (k := ?_)
  refine nil0 ?_
  refine cl [1, 2, 3] (k := ?_)
  repeat refine gwp_seq ?_
  refine gwp_region ?_
  refine v0 (k := ?_)
  refine v0 (k := ?_)
  refine v0 (k := ?_)
  refine v0 (k := ?_)
  refine v0 (k := ?_)
  refine b0 (k1 := fun hb1 => ?_) (k0 := fun hb1 => ?_)
  · try simp only [decide_eq_true_eq, decide_eq_false_iff_not, Int.not_lt, Int.not_le, Bool.not_eq_eq_eq_not, Bool.not_true, Bool.not_false, Bool.and_eq_true, Bool.and_eq_false_iff, Bool.or_eq_true, Bool.or_eq_false_iff] at hb1
    refine x0 (k := ?_)
    refine x0 (k := ?_)
    refine x0 (k := ?_)
    refine x0 (k := ?_)
    refine v0 (k := ?_)
    refine v0 (k := ?_)
    refine x0 (k := ?_)
    refine x0 (k := ?_)
    refine x0 (k := ?_)
    refine x1 (k := ?_)
    refine x1 (k := ?_)
    refine x1 (k := ?_)
    refine x1 (k := ?_)
    refine x1 (k := ?_)
    refine x1 (k := ?_)
    refine x1 (k := ?_)
    refine x1 (k := ?_)
    refine x1 (k := ?_)
    refine x1 (k := ?_)
    refine x1 (k := ?_)
    refine x0 (k := ?_)
    refine v0 (k := ?_)
    refine v0 (k := ?_)
    refine nil0 ?_
    repeat refine gwp_seq ?_
    refine gwp_ret ?_
    repeat (first | refine gthen_ret ?_ | refine gblock_ret ?_ | refine gnoGoto_ret ?_)
    refine fin_ret ?_
    refine fp (hR := ?_)
    first
    | (have e : heavyB s n m = true := by with_reducible exact hv_1 hb1
       rw [e]; rfl)
    | (have e : heavyB s n m = true := by with_reducible exact hv_2 hb2
       rw [e]; rfl)
    | (have e : heavyB s n m = true := by with_reducible exact hv_3 hb3 hb4
       rw [e]; rfl)
    | (have e : heavyB s n m = decide (m < (s.notes.length : Int)) := by with_reducible exact hv_4 hb1 hb2 hb3 hb4
       rw [e]; rfl)
    | (have e : heavyB s n m = false := by with_reducible exact hv_5 hb1 hb2 hb3
       rw [e]; rfl)
  · try simp only [decide_eq_true_eq, decide_eq_false_iff_not, Int.not_lt, Int.not_le, Bool.not_eq_eq_eq_not, Bool.not_true, Bool.not_false, Bool.and_eq_true, Bool.and_eq_false_iff, Bool.or_eq_true, Bool.or_eq_false_iff] at hb1
    refine w0 (k := ?_)
    refine w0 (k := ?_)
    refine w0 (k := ?_)
    refine w0 (k := ?_)
    refine v0 (k := ?_)
    refine v0 (k := ?_)
    refine b0 (k1 := fun hb2 => ?_) (k0 := fun hb2 => ?_)
    · try simp only [decide_eq_true_eq, decide_eq_false_iff_not, Int.not_lt, Int.not_le, Bool.not_eq_eq_eq_not, Bool.not_true, Bool.not_false, Bool.and_eq_true, Bool.and_eq_false_iff, Bool.or_eq_true, Bool.or_eq_false_iff] at hb2
      refine x0 (k := ?_)
      refine x0 (k := ?_)
      refine x0 (k := ?_)
      refine x1 (k := ?_)
      refine x1 (k := ?_)
      refine x1 (k := ?_)
      refine x1 (k := ?_)
      refine x1 (k := ?_)
      refine x1 (k := ?_)
      refine x1 (k := ?_)
      refine x1 (k := ?_)
      refine x1 (k := ?_)
      refine x1 (k := ?_)
      refine x1 (k := ?_)
      refine x0 (k := ?_)
      refine v0 (k := ?_)
      refine v0 (k := ?_)
      refine nil0 ?_
      repeat refine gwp_seq ?_
      refine gwp_ret ?_
      repeat (first | refine gthen_ret ?_ | refine gblock_ret ?_ | refine gnoGoto_ret ?_)
      refine fin_ret ?_
      refine fp (hR := ?_)
      first
      | (have e : heavyB s n m = true := by with_reducible exact hv_1 hb1
         rw [e]; rfl)
      | (have e : heavyB s n m = true := by with_reducible exact hv_2 hb2
         rw [e]; rfl)
      | (have e : heavyB s n m = true := by with_reducible exact hv_3 hb3 hb4
         rw [e]; rfl)
      | (have e : heavyB s n m = decide (m < (s.notes.length : Int)) := by with_reducible exact hv_4 hb1 hb2 hb3 hb4
         rw [e]; rfl)
      | (have e : heavyB s n m = false := by with_reducible exact hv_5 hb1 hb2 hb3
         rw [e]; rfl)
    · try simp only [decide_eq_true_eq, decide_eq_false_iff_not, Int.not_lt, Int.not_le, Bool.not_eq_eq_eq_not, Bool.not_true, Bool.not_false, Bool.and_eq_true, Bool.and_eq_false_iff, Bool.or_eq_true, Bool.or_eq_false_iff] at hb2
      refine w0 (k := ?_)
      refine pcw (spec := s_Shelf s (by omega) (by omega)) (hent := ent33) (k := ?_)
      refine w0 (k := ?_)
      refine b0 (k1 := fun hb3 => ?_) (k0 := fun hb3 => ?_)
      · try simp only [decide_eq_true_eq, decide_eq_false_iff_not, Int.not_lt, Int.not_le, Bool.not_eq_eq_eq_not, Bool.not_true, Bool.not_false, Bool.and_eq_true, Bool.and_eq_false_iff, Bool.or_eq_true, Bool.or_eq_false_iff] at hb3
        refine w0 (k := ?_)
        refine w0 (k := ?_)
        refine w0 (k := ?_)
        refine w0 (k := ?_)
        refine w0 (k := ?_)
        refine b0 (k1 := fun hb4 => ?_) (k0 := fun hb4 => ?_)
        · try simp only [decide_eq_true_eq, decide_eq_false_iff_not, Int.not_lt, Int.not_le, Bool.not_eq_eq_eq_not, Bool.not_true, Bool.not_false, Bool.and_eq_true, Bool.and_eq_false_iff, Bool.or_eq_true, Bool.or_eq_false_iff] at hb4
          refine x0 (k := ?_)
          refine x0 (k := ?_)
          refine x0 (k := ?_)
          refine x0 (k := ?_)
          refine x0 (k := ?_)
          refine w0 (k := ?_)
          refine w0 (k := ?_)
          refine v0 (k := ?_)
          refine v0 (k := ?_)
          refine nil0 ?_
          repeat refine gwp_seq ?_
          refine gwp_ret ?_
          repeat (first | refine gthen_ret ?_ | refine gblock_ret ?_ | refine gnoGoto_ret ?_)
          refine fin_ret ?_
          refine fp (hR := ?_)
          first
          | (have e : heavyB s n m = true := by with_reducible exact hv_1 hb1
             rw [e]; rfl)
          | (have e : heavyB s n m = true := by with_reducible exact hv_2 hb2
             rw [e]; rfl)
          | (have e : heavyB s n m = true := by with_reducible exact hv_3 hb3 hb4
             rw [e]; rfl)
          | (have e : heavyB s n m = decide (m < (s.notes.length : Int)) := by with_reducible exact hv_4 hb1 hb2 hb3 hb4
             rw [e]; rfl)
          | (have e : heavyB s n m = false := by with_reducible exact hv_5 hb1 hb2 hb3
             rw [e]; rfl)
        · try simp only [decide_eq_true_eq, decide_eq_false_iff_not, Int.not_lt, Int.not_le, Bool.not_eq_eq_eq_not, Bool.not_true, Bool.not_false, Bool.and_eq_true, Bool.and_eq_false_iff, Bool.or_eq_true, Bool.or_eq_false_iff] at hb4
          refine w0 (k := ?_)
          refine w0 (k := ?_)
          refine w0 (k := ?_)
          refine w0 (k := ?_)
          refine w0 (k := ?_)
          refine w0 (k := ?_)
          refine w0 (k := ?_)
          refine v0 (k := ?_)
          refine v0 (k := ?_)
          refine nil0 ?_
          repeat refine gwp_seq ?_
          refine gwp_ret ?_
          repeat (first | refine gthen_ret ?_ | refine gblock_ret ?_ | refine gnoGoto_ret ?_)
          refine fin_ret ?_
          refine fp (hR := ?_)
          first
          | (have e : heavyB s n m = true := by with_reducible exact hv_1 hb1
             rw [e]; rfl)
          | (have e : heavyB s n m = true := by with_reducible exact hv_2 hb2
             rw [e]; rfl)
          | (have e : heavyB s n m = true := by with_reducible exact hv_3 hb3 hb4
             rw [e]; rfl)
          | (have e : heavyB s n m = decide (m < (s.notes.length : Int)) := by with_reducible exact hv_4 hb1 hb2 hb3 hb4
             rw [e]; rfl)
          | (have e : heavyB s n m = false := by with_reducible exact hv_5 hb1 hb2 hb3
             rw [e]; rfl)
      · try simp only [decide_eq_true_eq, decide_eq_false_iff_not, Int.not_lt, Int.not_le, Bool.not_eq_eq_eq_not, Bool.not_true, Bool.not_false, Bool.and_eq_true, Bool.and_eq_false_iff, Bool.or_eq_true, Bool.or_eq_false_iff] at hb3
        refine x0 (k := ?_)
        refine x0 (k := ?_)
        refine x0 (k := ?_)
        refine x0 (k := ?_)
        refine x0 (k := ?_)
        refine x1 (k := ?_)
        refine x1 (k := ?_)
        refine x1 (k := ?_)
        refine x1 (k := ?_)
        refine x1 (k := ?_)
        refine x0 (k := ?_)
        refine w0 (k := ?_)
        refine v0 (k := ?_)
        refine v0 (k := ?_)
        refine nil0 ?_
        repeat refine gwp_seq ?_
        refine gwp_ret ?_
        repeat (first | refine gthen_ret ?_ | refine gblock_ret ?_ | refine gnoGoto_ret ?_)
        refine fin_ret ?_
        refine fp (hR := ?_)
        first
        | (have e : heavyB s n m = true := by with_reducible exact hv_1 hb1
           rw [e]; rfl)
        | (have e : heavyB s n m = true := by with_reducible exact hv_2 hb2
           rw [e]; rfl)
        | (have e : heavyB s n m = true := by with_reducible exact hv_3 hb3 hb4
           rw [e]; rfl)
        | (have e : heavyB s n m = decide (m < (s.notes.length : Int)) := by with_reducible exact hv_4 hb1 hb2 hb3 hb4
           rw [e]; rfl)
        | (have e : heavyB s n m = false := by with_reducible exact hv_5 hb1 hb2 hb3
           rw [e]; rfl)
theorem ent39 : Enters Try.prog 39 := Enters.mk Try.func39 (by kernel_rfl) rfl
theorem l_span (a b : Int) : PSpec Try.prog 39 [.int .i64 a, .int .i64 b] (.ok (.agg [.int .i64 a, .int .i64 b])) := by
  refine pspec_of Try.func39 (rfl : Try.f39.body = some _) rfl ?_
  intro E A C hN hL
  replace hN : C.N = 8 := hN
  simp only [Gh.num, List.map_cons, List.map_nil, Nat.reduceAdd]
  repeat refine gwp_seq ?_
  refine gwp_region ?_
  refine n1 140 false (hc := by (first | exact True.intro | (simp only [inI]; omega) | (simp [P.size, nt, wP, pn, all_int, allOne_p, goods_p, allOne, goods, good, G.one, P.one, P.cells] <;> first | omega | assumption | simp_all))) (k := ?_)
  refine nil0 ?_
  refine cl [0, 1, 4] (k := ?_)
  repeat refine gwp_seq ?_
  refine gwp_region ?_
  refine v0 (k := ?_)
  refine v0 (k := ?_)
  refine v0 (k := ?_)
  refine s1 (hc := by (first | exact True.intro | (simp only [inI]; omega) | (simp [P.size, nt, wP, pn, all_int, allOne_p, goods_p, allOne, goods, good, G.one, P.one, P.cells] <;> first | omega | assumption | simp_all))) (k := ?_)
  refine nil0 ?_
  repeat refine gwp_seq ?_
  refine gwp_ret ?_
  repeat (first | refine gthen_ret ?_ | refine gblock_ret ?_ | refine gnoGoto_ret ?_)
  refine fin_ret ?_
  refine fp (hR := ?_)
  rfl
theorem ent41 : Enters Try.prog 41 := Enters.mk Try.func41 (by kernel_rfl) rfl
theorem l_sample {E : Env Try.prog} {A : E.α}  : Gh.Spec E 41 [] (mkHp []) A (fun y => y = .ok (.agg [.p (.int .i64 5), .own 110 5, .p (.int .i64 2), .p (.int .i64 4), .own 160 3]) (mkHp [(110, .arr 3 1 [.int .i64 3, .int .i64 0, .int .i64 3, .int .i64 4, .int .i64 0] true), (160, .arr 50 3 [.agg [.int .i64 0, .int .i64 1, .bool true], .agg [.int .i64 1, .int .i64 2, .bool false], .agg [.int .i64 3, .int .i64 4, .bool false]] true)]) A) := by
  refine spec_of Try.func41 (rfl : Try.f41.body = some _) (Nat.le_of_ble_eq_true rfl) (fun id h => ?_) (fun j id h => ?_) ?_
  · exact wf1x h
  · exact wf2x h
  intro C hN hL
  replace hN : C.N = 8 := hN
  simp only [Gh.num, List.map_cons, List.map_nil, Nat.reduceAdd]
  repeat refine gwp_seq ?_
  refine gwp_region ?_
  refine n1 100 false (hc := by (first | exact True.intro | (simp only [inI]; omega) | (simp [P.size, nt, wP, pn, all_int, allOne_p, goods_p, allOne, goods, good, G.one, P.one, P.cells] <;> first | omega | assumption | simp_all))) (k := ?_)
  refine nil0 ?_
  refine cl [0] (k := ?_)
  repeat refine gwp_seq ?_
  refine gwp_region ?_
  refine n1 110 false (hc := by (first | exact True.intro | (simp only [inI]; omega) | (simp [P.size, nt, wP, pn, all_int, allOne_p, goods_p, allOne, goods, good, G.one, P.one, P.cells] <;> first | omega | assumption | simp_all))) (k := ?_)
  refine pc0 (spec := l_span 2 4) (hent := ent39) (k := ?_)
  refine v0 (k := ?_)
  refine v0 (k := ?_)
  refine v0 (k := ?_)
  refine n1 160 false (hc := by (first | exact True.intro | (simp only [inI]; omega) | (simp [P.size, nt, wP, pn, all_int, allOne_p, goods_p, allOne, goods, good, G.one, P.one, P.cells] <;> first | omega | assumption | simp_all))) (k := ?_)
  refine v0 (k := ?_)
  refine s1 (hc := by (first | exact True.intro | (simp only [inI]; omega) | (simp [P.size, nt, wP, pn, all_int, allOne_p, goods_p, allOne, goods, good, G.one, P.one, P.cells] <;> first | omega | assumption | simp_all))) (k := ?_)
  refine nil0 ?_
  repeat refine gwp_seq ?_
  refine gwp_ret ?_
  repeat (first | refine gthen_ret ?_ | refine gblock_ret ?_ | refine gnoGoto_ret ?_)
  refine fin_ret ?_
  refine fh [110, 160] (hR := ?_)
  rfl
end Go.Proofs.Ytedihdnkalmoiaa

/- The sample, evaluated. -/
namespace Go.Proofs.Ytedihdnkalmoiaa
open Go.Gh
set_option maxRecDepth 100000

theorem und24 : Try.prog.underlying 24 = some (.struct #[{ name := "Lo", type := 3, offset := 0, embedded := false, tag := "", pkgPath := "", byteOffset := 0 }, { name := "Hi", type := 3, offset := 1, embedded := false, tag := "", pkgPath := "", byteOffset := 8 }]) := by kernel_rfl
theorem und3 : Try.prog.underlying 3 = some (.int .i64) := by kernel_rfl
theorem sih24 : Try.prog.stoodInHeld 24 = false := by kernel_rfl
theorem geq_int3 (a c : Int) : geq Try.prog 5 3 (.int .i64 a) (.int .i64 c) = some (decide (a = c)) := by
  unfold geq
  rw [und3]
  rfl
theorem geq_span (a b c d : Int) : geq Try.prog 6 24 (.agg [.int .i64 a, .int .i64 b]) (.agg [.int .i64 c, .int .i64 d]) = some (decide (a = c) && (decide (b = d) && true)) := by
  unfold geq
  rw [und24]
  simp only [sih24, Bool.false_eq_true, if_false, List.map_cons, List.map_nil]
  have p0 : ∀ u v : Int, ppart Try.prog 3 [.int .i64 u, .int .i64 v] 0 = some (.int .i64 u) := fun u v => by unfold ppart; rw [ti_3]; rfl
  have p1 : ∀ u v : Int, ppart Try.prog 3 [.int .i64 u, .int .i64 v] 1 = some (.int .i64 v) := fun u v => by unfold ppart; rw [ti_3]; rfl
  rw [p0, p0, p1, p1]
  rw [if_neg (by decide), if_neg (by decide)]
  simp only []
  rw [geq_int3, geq_int3]
  rfl
theorem heg24 : Try.prog.eqGuardType Try.prog.depth 24 = false := by kernel_rfl
def smp : Sh := ⟨5, [3, 0, 3, 4, 0], 2, 4, [⟨0, 1, true⟩, ⟨1, 2, false⟩, ⟨3, 4, false⟩]⟩
def smp2 : Sh := ⟨5, [3, 0, 3, 4, 0], 2, 4, [⟨0, 1, true⟩, ⟨1, 2, false⟩, ⟨3, 4, false⟩, ⟨0, 2, true⟩]⟩
theorem smp_valid : smp.valid = true := by decide +kernel
theorem smp2_valid : smp2.valid = true := by decide +kernel
theorem smp_can : canB smp (onN smp) (everyN smp) = true := by decide +kernel
theorem smp_04 : sameV (diff1 0 4 ((onN smp).filter (rightW smp (everyN smp)))) (same1 0 4 ((onN smp).filter (rightW smp (everyN smp)))) = 2 := by decide +kernel
theorem smp_01 : sameV (diff1 0 1 ((onN smp).filter (rightW smp (everyN smp)))) (same1 0 1 ((onN smp).filter (rightW smp (everyN smp)))) = 1 := by decide +kernel
theorem smp_count : (waysS smp (everyN smp)).length = 3 := by decide +kernel
theorem smp_first : ((onN smp).filter (rightW smp (everyN smp)))[0]? = some [0, 0, 2, 3, 0, 0, 0, 0] := by decide +kernel
theorem smp_lo : (spanE smp ((onN smp).filter (rightW smp (everyN smp)))).1 = 3 := by decide +kernel
theorem smp_hi : (spanE smp ((onN smp).filter (rightW smp (everyN smp)))).2.1 = 4 := by decide +kernel
theorem smp_idle : idleK smp smp.notes.length = 0 := by decide +kernel
theorem smp_clash : clashV smp2 = 11 := by decide +kernel
theorem smp_drop : dropV smp2 = 1 := by decide +kernel
end Go.Proofs.Ytedihdnkalmoiaa

/- The statements: what the document fixes. -/
namespace Go.Proofs.Ytedihdnkalmoiaa
open Go.Gh
set_option maxRecDepth 100000
set_option maxHeartbeats 4000000
theorem a_04 {E : Env Try.prog} {A : E.α} : Gh.Spec E 14 [.p (.agg [.int .i64 5, .list [.int .i64 3, .int .i64 0, .int .i64 3, .int .i64 4, .int .i64 0], .int .i64 2, .int .i64 4, .list [.agg [.int .i64 0, .int .i64 1, .bool true], .agg [.int .i64 1, .int .i64 2, .bool false], .agg [.int .i64 3, .int .i64 4, .bool false]]]), .p (.int .i64 0), .p (.int .i64 4)] (mkHp []) A (fun y => y = .ok (.p (.tuple [.int .i64 2, .int .i64 0])) (mkHp []) A) := by
  have h := p_same_t (E := E) (A := A) smp smp_valid smp_can 0 4 (by decide) (by decide)
  simp only [smp_04] at h
  exact h
theorem a_01 {E : Env Try.prog} {A : E.α} : Gh.Spec E 14 [.p (.agg [.int .i64 5, .list [.int .i64 3, .int .i64 0, .int .i64 3, .int .i64 4, .int .i64 0], .int .i64 2, .int .i64 4, .list [.agg [.int .i64 0, .int .i64 1, .bool true], .agg [.int .i64 1, .int .i64 2, .bool false], .agg [.int .i64 3, .int .i64 4, .bool false]]]), .p (.int .i64 0), .p (.int .i64 1)] (mkHp []) A (fun y => y = .ok (.p (.tuple [.int .i64 1, .int .i64 0])) (mkHp []) A) := by
  have h := p_same_t (E := E) (A := A) smp smp_valid smp_can 0 1 (by decide) (by decide)
  simp only [smp_01] at h
  exact h
theorem a_count {E : Env Try.prog} {A : E.α} : Gh.Spec E 16 [.p (.agg [.int .i64 5, .list [.int .i64 3, .int .i64 0, .int .i64 3, .int .i64 4, .int .i64 0], .int .i64 2, .int .i64 4, .list [.agg [.int .i64 0, .int .i64 1, .bool true], .agg [.int .i64 1, .int .i64 2, .bool false], .agg [.int .i64 3, .int .i64 4, .bool false]]])] (mkHp []) A (fun y => y = .ok (.p (.tuple [.int .i64 3, .int .i64 0])) (mkHp []) A) := by
  have h := p_count (E := E) (A := A) smp smp_valid
  simp only [smp_count] at h
  exact h
theorem a_first {E : Env Try.prog} {A : E.α} : Gh.Spec E 18 [.p (.agg [.int .i64 5, .list [.int .i64 3, .int .i64 0, .int .i64 3, .int .i64 4, .int .i64 0], .int .i64 2, .int .i64 4, .list [.agg [.int .i64 0, .int .i64 1, .bool true], .agg [.int .i64 1, .int .i64 2, .bool false], .agg [.int .i64 3, .int .i64 4, .bool false]]])] (mkHp []) A (fun y => y = .ok (.p (.tuple [.list [.int .i64 0, .int .i64 0, .int .i64 2, .int .i64 3, .int .i64 0], .int .i64 0])) (mkHp []) A) := by
  have h := p_first_t (E := E) (A := A) smp smp_valid smp_can _ smp_first
  exact h
theorem a_plates {E : Env Try.prog} {A : E.α} : Gh.Spec E 20 [.p (.agg [.int .i64 5, .list [.int .i64 3, .int .i64 0, .int .i64 3, .int .i64 4, .int .i64 0], .int .i64 2, .int .i64 4, .list [.agg [.int .i64 0, .int .i64 1, .bool true], .agg [.int .i64 1, .int .i64 2, .bool false], .agg [.int .i64 3, .int .i64 4, .bool false]]])] (mkHp []) A (fun y => y = .ok (.p (.tuple [.agg [.int .i64 3, .int .i64 4], .int .i64 0])) (mkHp []) A) := by
  have h := p_plates_t (E := E) (A := A) smp smp_valid smp_can
  simp only [smp_lo, smp_hi] at h
  exact h
theorem a_idle {E : Env Try.prog} {A : E.α} : Gh.Spec E 22 [.p (.agg [.int .i64 5, .list [.int .i64 3, .int .i64 0, .int .i64 3, .int .i64 4, .int .i64 0], .int .i64 2, .int .i64 4, .list [.agg [.int .i64 0, .int .i64 1, .bool true], .agg [.int .i64 1, .int .i64 2, .bool false], .agg [.int .i64 3, .int .i64 4, .bool false]]])] (mkHp []) A (fun y => y = .ok (.p (.tuple [.int .i64 0, .int .i64 0])) (mkHp []) A) := by
  have h := p_idle_t (E := E) (A := A) smp smp_valid smp_can
  simp only [smp_idle] at h
  exact h
theorem a_clash {E : Env Try.prog} {A : E.α} : Gh.Spec E 25 [.p (.agg [.int .i64 5, .list [.int .i64 3, .int .i64 0, .int .i64 3, .int .i64 4, .int .i64 0], .int .i64 2, .int .i64 4, .list [.agg [.int .i64 0, .int .i64 1, .bool true], .agg [.int .i64 1, .int .i64 2, .bool false], .agg [.int .i64 3, .int .i64 4, .bool false], .agg [.int .i64 0, .int .i64 2, .bool true]]])] (mkHp []) A (fun y => y = .ok (.p (.tuple [.int .i64 11, .int .i64 0])) (mkHp []) A) := by
  have h := p_clash (E := E) (A := A) smp2 smp2_valid
  simp only [smp_clash] at h
  exact h
theorem a_drop {E : Env Try.prog} {A : E.α} : Gh.Spec E 27 [.p (.agg [.int .i64 5, .list [.int .i64 3, .int .i64 0, .int .i64 3, .int .i64 4, .int .i64 0], .int .i64 2, .int .i64 4, .list [.agg [.int .i64 0, .int .i64 1, .bool true], .agg [.int .i64 1, .int .i64 2, .bool false], .agg [.int .i64 3, .int .i64 4, .bool false], .agg [.int .i64 0, .int .i64 2, .bool true]]])] (mkHp []) A (fun y => y = .ok (.p (.tuple [.int .i64 1, .int .i64 0])) (mkHp []) A) := by
  have h := p_drop (E := E) (A := A) smp2 smp2_valid
  simp only [smp_drop] at h
  exact h
end Go.Proofs.Ytedihdnkalmoiaa

/- The statements: awake. -/
namespace Go.Proofs.Ytedihdnkalmoiaa
open Go.Gh
set_option maxRecDepth 100000
set_option maxHeartbeats 4000000
theorem a_ints : PSpec Try.prog 24 [.list [.int .i64 0, .int .i64 0, .int .i64 2, .int .i64 3, .int .i64 0], .list [.int .i64 0, .int .i64 0, .int .i64 2, .int .i64 3, .int .i64 0]] (.ok (.bool true)) := by
  have h := s_Ints [0, 0, 2, 3, 0] [0, 0, 2, 3, 0] (by decide) (by decide)
  rw [show decide (([0, 0, 2, 3, 0] : List Int) = [0, 0, 2, 3, 0]) = true from by decide] at h
  exact h
theorem ent13 : Enters Try.prog 13 := Enters.mk Try.func13 (by kernel_rfl) rfl
theorem l_awake  : PSpec Try.prog 13 [] (.ok (.bool true)) := by
  refine pspec_of Try.func13 (rfl : Try.f13.body = some _) rfl ?_
  intro E A C hN hL
  replace hN : C.N = 128 := hN
  simp only [Gh.num, List.map_cons, List.map_nil, Nat.reduceAdd]
  have hgs := geq_span
  have hdt : ∀ (i : Decidable True), @decide True i = true := fun i => decide_eq_true trivial
  repeat refine gwp_seq ?_
  refine gwp_region ?_
  refine v0 (k := ?_)
  refine nil0 ?_
  refine cl [] (k := ?_)
  repeat refine gwp_seq ?_
  refine gwp_region ?_
  refine oc0 [(110, 2000), (160, 2010)] [] [] none (spec := l_sample) (hent := ent41) (k := ?_)
  refine oc0 [] [2000, 2010] [1, 0, 0] none (spec := a_04) (hent := ent14) (k := ?_)
  refine v0 (k := ?_)
  refine v0 (k := ?_)
  refine v0 (k := ?_)
  refine v0 (k := ?_)
  refine v0 (k := ?_)
  refine nil0 ?_
  refine cl [1, 2] (k := ?_)
  repeat refine gwp_seq ?_
  refine gwp_region ?_
  refine oc0 [(110, 2020), (160, 2030)] [] [] none (spec := l_sample) (hent := ent41) (k := ?_)
  refine oc0 [] [2020, 2030] [1, 0, 0] none (spec := a_01) (hent := ent14) (k := ?_)
  refine v0 (k := ?_)
  refine v0 (k := ?_)
  refine v0 (k := ?_)
  refine v0 (k := ?_)
  refine v0 (k := ?_)
  refine nil0 ?_
  refine cl [1, 2, 3, 4] (k := ?_)
  repeat refine gwp_seq ?_
  refine gwp_region ?_
  refine oc0 [(110, 2040), (160, 2050)] [] [] none (spec := l_sample) (hent := ent41) (k := ?_)
  refine oc0 [] [2040, 2050] [1] none (spec := a_count) (hent := ent16) (k := ?_)
  refine v0 (k := ?_)
  refine v0 (k := ?_)
  refine v0 (k := ?_)
  refine v0 (k := ?_)
  refine v0 (k := ?_)
  refine nil0 ?_
  refine cl [1, 2, 3, 4, 5, 6] (k := ?_)
  repeat refine gwp_seq ?_
  refine gwp_region ?_
  refine oc0 [(110, 2060), (160, 2070)] [] [] none (spec := l_sample) (hent := ent41) (k := ?_)
  refine oc0 [] [2060, 2070] [1] none (spec := a_first) (hent := ent18) (k := ?_)
  refine v0 (k := ?_)
  refine v0 (k := ?_)
  refine v0 (k := ?_)
  refine v0 (k := ?_)
  refine v0 (k := ?_)
  refine nil0 ?_
  refine cl [1, 2, 3, 4, 5, 6, 7, 8] (k := ?_)
  repeat refine gwp_seq ?_
  refine gwp_region ?_
  refine oc0 [(110, 2080), (160, 2090)] [] [] none (spec := l_sample) (hent := ent41) (k := ?_)
  refine oc0 [] [2080, 2090] [1] none (spec := a_plates) (hent := ent20) (k := ?_)
  refine v0 (k := ?_)
  refine v0 (k := ?_)
  refine v0 (k := ?_)
  refine n1 190 false (hc := by (first | exact True.intro | (simp only [inI]; omega) | (simp [P.size, nt, wP, pn, all_int, allOne_p, goods_p, allOne, goods, good, G.one, P.one, P.cells] <;> first | omega | assumption | simp_all))) (k := ?_)
  refine s1 (hc := by (first | exact True.intro | (simp only [inI]; omega) | (simp [P.size, nt, wP, pn, all_int, allOne_p, goods_p, allOne, goods, good, G.one, P.one, P.cells] <;> first | omega | assumption | simp_all))) (k := ?_)
  refine v0 (k := ?_)
  refine nil0 ?_
  refine cl [1, 2, 3, 4, 5, 6, 7, 8, 9, 10] (k := ?_)
  repeat refine gwp_seq ?_
  refine gwp_region ?_
  refine oc0 [(110, 2100), (160, 2110)] [] [] none (spec := l_sample) (hent := ent41) (k := ?_)
  refine oc0 [] [2100, 2110] [1] none (spec := a_idle) (hent := ent22) (k := ?_)
  refine v0 (k := ?_)
  refine v0 (k := ?_)
  refine v0 (k := ?_)
  refine v0 (k := ?_)
  refine v0 (k := ?_)
  refine nil0 ?_
  refine cl [1, 2, 3, 4, 5, 6, 7, 8, 9, 10, 11, 12] (k := ?_)
  repeat refine gwp_seq ?_
  refine gwp_region ?_
  refine oc0 [(110, 2120), (160, 2130)] [] [] none (spec := l_sample) (hent := ent41) (k := ?_)
  refine n1 230 false (hc := by (first | exact True.intro | (simp only [inI]; omega) | (simp [P.size, nt, wP, pn, all_int, allOne_p, goods_p, allOne, goods, good, G.one, P.one, P.cells] <;> first | omega | assumption | simp_all))) (k := ?_)
  refine s1 (hc := by (first | exact True.intro | (simp only [inI]; omega) | (simp [P.size, nt, wP, pn, all_int, allOne_p, goods_p, allOne, goods, good, G.one, P.one, P.cells] <;> first | omega | assumption | simp_all))) (k := ?_)
  refine nil0 ?_
  refine cl [1, 2, 3, 4, 5, 6, 7, 8, 9, 10, 11, 12, 13] (k := ?_)
  repeat refine gwp_seq ?_
  refine gwp_region ?_
  refine v0 (k := ?_)
  refine v0 (k := ?_)
  refine v0 (k := ?_)
  refine n1 620 false (hc := by (first | exact True.intro | (simp only [inI]; omega) | (simp [P.size, nt, wP, pn, all_int, allOne_p, goods_p, allOne, goods, good, G.one, P.one, P.cells] <;> first | omega | assumption | simp_all))) (k := ?_)
  refine n1 630 false (hc := by (first | exact True.intro | (simp only [inI]; omega) | (simp [P.size, nt, wP, pn, all_int, allOne_p, goods_p, allOne, goods, good, G.one, P.one, P.cells] <;> first | omega | assumption | simp_all))) (k := ?_)
  refine v0 (k := ?_)
  refine s1 (hc := by (first | exact True.intro | (simp only [inI]; omega) | (simp [P.size, nt, wP, pn, all_int, allOne_p, goods_p, allOne, goods, good, G.one, P.one, P.cells] <;> first | omega | assumption | simp_all))) (k := ?_)
  refine nil0 ?_
  refine cl [1, 2, 3, 4, 5, 6, 7, 8, 9, 10, 11, 12, 13] (k := ?_)
  repeat refine gwp_seq ?_
  refine gwp_region ?_
  refine v0 (k := ?_)
  refine oc0 [] [2120, 2130] [1] none (spec := a_clash) (hent := ent25) (k := ?_)
  refine v0 (k := ?_)
  refine v0 (k := ?_)
  refine v0 (k := ?_)
  refine v0 (k := ?_)
  refine v0 (k := ?_)
  refine nil0 ?_
  refine cl [1, 2, 3, 4, 5, 6, 7, 8, 9, 10, 11, 12, 13, 14, 15] (k := ?_)
  repeat refine gwp_seq ?_
  refine gwp_region ?_
  refine v0 (k := ?_)
  refine oc0 [] [2120, 2130] [1] none (spec := a_drop) (hent := ent27) (k := ?_)
  refine v0 (k := ?_)
  refine v0 (k := ?_)
  refine v0 (k := ?_)
  refine v0 (k := ?_)
  refine v0 (k := ?_)
  refine nil0 ?_
  refine cl [1, 2, 3, 4, 5, 6, 7, 8, 9, 10, 11, 12, 14, 15, 16, 17] (k := ?_)
  repeat refine gwp_seq ?_
  refine gwp_region ?_
  refine v0 (k := ?_)
  refine v0 (k := ?_)
  refine rb 66 false (h := by (first | rfl | decide)) (k := ?_)
  refine v0 (k := ?_)
  refine w0 (k := ?_)
  refine w0 (k := ?_)
  refine rb 69 false (h := by (first | rfl | decide)) (k := ?_)
  refine v0 (k := ?_)
  refine v0 (k := ?_)
  refine w0 (k := ?_)
  refine w0 (k := ?_)
  refine rb 73 false (h := by (first | rfl | decide)) (k := ?_)
  refine v0 (k := ?_)
  refine v0 (k := ?_)
  refine w0 (k := ?_)
  refine w0 (k := ?_)
  refine rb 77 false (h := by (first | rfl | decide)) (k := ?_)
  refine v0 (k := ?_)
  refine v0 (k := ?_)
  refine w0 (k := ?_)
  refine w0 (k := ?_)
  refine rb 81 false (h := by (first | rfl | decide)) (k := ?_)
  refine v0 (k := ?_)
  refine v0 (k := ?_)
  refine w0 (k := ?_)
  refine w0 (k := ?_)
  refine rb 85 false (h := by (first | rfl | decide)) (k := ?_)
  refine v0 (k := ?_)
  refine v0 (k := ?_)
  refine w0 (k := ?_)
  refine nw 990 false (hc := by (first | exact True.intro | (simp only [inI]; omega) | (simp [P.size, nt, wP, pn, all_int, allOne_p, goods_p, allOne, goods, good, G.one, P.one, P.cells] <;> first | omega | assumption | simp_all))) (k := ?_)
  refine pcw (spec := a_ints) (hent := ent24) (k := ?_)
  refine rb 90 true (h := by (first | rfl | decide)) (k := ?_)
  refine w0 (k := ?_)
  refine rb 91 false (h := by (first | rfl | decide)) (k := ?_)
  refine v0 (k := ?_)
  refine v0 (k := ?_)
  refine w0 (k := ?_)
  refine w0 (k := ?_)
  refine rb 95 false (h := by (first | rfl | decide)) (k := ?_)
  refine v0 (k := ?_)
  refine nil0 ?_
  repeat refine gwp_seq ?_
  refine cF (k := ?_)
  repeat refine gwp_seq ?_
  refine gwp_skip ?_
  refine cl [9, 10, 11, 12, 14, 15, 16, 17] (k := ?_)
  repeat refine gwp_seq ?_
  refine rd ?_
  refine d0 0 (k := ?_)
  refine dpc0 1 (spec := l_span 3 4) (hent := ent39) (k := ?_)
  refine d1 2 (hc := by (exact heg24)) (k := ?_)
  refine d0 3 (k := ?_)
  refine dw0 4 (k := ?_)
  refine dw0 5 (k := ?_)
  refine d0 6 (k := ?_)
  refine d0 7 (k := ?_)
  refine dw0 8 (k := ?_)
  refine dw0 9 (k := ?_)
  refine d0 10 (k := ?_)
  refine d0 11 (k := ?_)
  refine dw0 12 (k := ?_)
  refine dw0 13 (k := ?_)
  refine d0 14 (k := ?_)
  refine d0 15 (k := ?_)
  refine dw0 16 (k := ?_)
  refine dw0 17 (k := ?_)
  refine d0 18 (k := ?_)
  refine d0 19 (k := ?_)
  refine dw0 20 (k := ?_)
  refine dw0 21 (k := ?_)
  refine d0 22 (k := ?_)
  refine d0 23 (k := ?_)
  refine dw0 24 (k := ?_)
  refine dw0 25 (k := ?_)
  refine d0 26 (k := ?_)
  refine d0 27 (k := ?_)
  refine dw0 28 (k := ?_)
  refine dw0 29 (k := ?_)
  refine d0 30 (k := ?_)
  refine d0 31 (k := ?_)
  refine dz 32 [0, 0, 3, 7, 15, 31, 63, 127, 255, 511, 1023, 2047, 4095, 8191, 16383, 32767, 65535, 131071, 262143, 524287, 1048575, 2097151, 4194303, 8388607, 16777215, 33554431, 67108863, 134217727, 268435455, 536870911, 1073741823, 2147483647] (h := ?_)
  refine de 32 (h := ?_)
  repeat refine gwp_seq ?_
  refine gwp_ret ?_
  repeat (first | refine gthen_ret ?_ | refine gblock_ret ?_ | refine gnoGoto_ret ?_)
  refine fin_ret ?_
  refine fp (hR := ?_)
  rfl
end Go.Proofs.Ytedihdnkalmoiaa
