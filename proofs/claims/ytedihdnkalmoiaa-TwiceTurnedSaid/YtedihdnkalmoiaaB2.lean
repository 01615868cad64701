/- What functions of the program return, each for every input that its theorem names. -/
import Derived.Test.YtedihdnkalmoiaaB1
set_option linter.unusedVariables false
set_option linter.unusedSimpArgs false
/- The program: all ways without notes. -/
namespace Go.Proofs.Ytedihdnkalmoiaa
open Go.Gh
set_option maxRecDepth 100000
set_option maxHeartbeats 4000000
theorem hwPd (w : List Int) : wP w = P.agg (w.map (P.int .i64)) := rfl
theorem ent76 : Enters Try.prog 76 := Enters.mk Try.func76 (by kernel_rfl) rfl
theorem s_on {E : Env Try.prog} {J : Nat → E.α → Prop} {Z : E.α → Prop} {xs : List (List P)} (hcan : ∀ k a x, J k a → xs[k]? = some x → E.Can a x) (hy : ∀ k a x b a', J k a → xs[k]? = some x → E.Y a x b a' → match b with | .b true => J (k + 1) a' | .b false => Z a' | .p _ => False)
    (s : Sh) (hv : s.valid = true) : ∀ (d n k : Nat) (w sz : List Int) (A : E.α), n + d = s.sizes.length → w.length = 8 → sz.length = 8 → (∀ (j : Nat) x, n ≤ j → sz[j]? = some x → x = 0) → segOf xs k (onW s d w sz n) → J k A →
    Gh.Spec E 76 [.p (.agg (w.map (.int .i64))), .p (.int .i64 n), .ptr [.ptr [.p (.int .i64 s.num), .p (.list (s.sizes.map (.int .i64))), .p (.int .i64 s.lo), .p (.int .i64 s.hi), .p (.list (s.notes.map pn))]], .ref 0 0, .ref 1 0, .ref 2 0] (mkHp [(0, .cells [.abs] 0), (1, .cells ((sz.map (.int .i64)).map .p) 0), (2, .cells [.fn (.func 76) [] [.ptr [.ptr [.p (.int .i64 s.num), .p (.list (s.sizes.map (.int .i64))), .p (.int .i64 s.lo), .p (.int .i64 s.hi), .p (.list (s.notes.map pn))]], .ref 0 0, .ref 1 0, .ref 2 0]] 0)]) A
      fun y => ∃ x : Bool × E.α, (match x.1 with | true => J (k + (onW s d w sz n).length) x.2 | false => Z x.2) ∧ y = .ok (.p (.bool x.1)) (mkHp [(0, .cells [.abs] 0), (1, .cells ((sz.map (.int .i64)).map .p) 0), (2, .cells [.fn (.func 76) [] [.ptr [.ptr [.p (.int .i64 s.num), .p (.list (s.sizes.map (.int .i64))), .p (.int .i64 s.lo), .p (.int .i64 s.hi), .p (.list (s.notes.map pn))]], .ref 0 0, .ref 1 0, .ref 2 0]] 0)]) x.2 := by
  intro d
  induction d using Nat.strongRecOn with
  | _ d ih => ?_
  intro n k w sz A hnd hw hsz hz hseg hA
  have hnum := valid_num hv
  refine spec_of Try.func76 (rfl : Try.f76.body = some _) (Nat.le_of_ble_eq_true rfl) (fun id h => ?_) (fun j id h => ?_) ?_
  · exact wf1x h
  · exact wf2x h
  intro C hN hL
  replace hN : C.N = 103 := hN
  simp only [Gh.num, List.map_cons, List.map_nil, Nat.reduceAdd]
  repeat refine gwp_seq ?_
  refine gwp_region ?_
  refine n1 160 false (hc := by (first | exact True.intro | (simp only [inI]; omega) | (simp [P.size, nt, wP, all_int, allOne_p, goods_p, allOne, goods, good, G.one, P.one] <;> first | omega | assumption | simp_all))) (k := ?_)
  refine v0 (k := ?_)
  refine nil0 ?_
  refine cl [1, 2, 3, 4, 5, 6] (k := ?_)
  repeat refine gwp_seq ?_
  refine gwp_region ?_
  refine v0 (k := ?_)
  refine v0 (k := ?_)
  refine v0 (k := ?_)
  refine v0 (k := ?_)
  refine v0 (k := ?_)
  refine v0 (k := ?_)
  refine v0 (k := ?_)
  refine nil0 ?_
  repeat refine gwp_seq ?_
  refine cB (k1 := fun hb1 => ?_) (k0 := fun hb1 => ?_)
  · try simp only [decide_eq_true_eq, decide_eq_false_iff_not, Int.not_lt, Int.not_le, Bool.not_eq_eq_eq_not, Bool.not_true, Bool.not_false, Bool.and_eq_true, Bool.and_eq_false_iff, Bool.or_eq_true, Bool.or_eq_false_iff] at hb1
    try rw [eqI] at hb1
    repeat refine gwp_seq ?_
    obtain rfl : d = 0 := by omega
    clear hb1
    refine rd ?_
    refine d0 0 (k := ?_)
    refine d0 1 (k := ?_)
    refine dpc0 2 (spec := s_plates w n hw (by omega)) (hent := ent57) (k := ?_)
    refine d0 3 (k := ?_)
    refine d0 4 (k := ?_)
    refine d0 5 (k := ?_)
    refine d0 6 (k := ?_)
    refine d0 7 (k := ?_)
    refine d0 8 (k := ?_)
    refine d0 9 (k := ?_)
    refine d0 10 (k := ?_)
    refine d0 11 (k := ?_)
    refine d0 12 (k := ?_)
    refine d0 13 (k := ?_)
    refine d0 14 (k := ?_)
    refine dpc0 15 (spec := s_within _ _ _) (hent := ent67) (k := ?_)
    refine d0 16 (k := ?_)
    refine d0 17 (k := ?_)
    refine db0 18 37 (k1 := fun hb2 => ?_) (k0 := fun hb2 => ?_)
    · try simp only [decide_eq_true_eq, decide_eq_false_iff_not, Int.not_lt, Int.not_le, Bool.not_eq_eq_eq_not, Bool.not_true, Bool.not_false, Bool.and_eq_true, Bool.and_eq_false_iff, Bool.or_eq_true, Bool.or_eq_false_iff] at hb2
      try rw [eqI] at hb2
      refine dx0 18 (k := ?_)
      refine dx0 19 (k := ?_)
      refine dx0 20 (k := ?_)
      refine d0 21 (k := ?_)
      refine d0 22 (k := ?_)
      refine dz 23 [0, 0, 3, 0, 8, 24, 56, 120, 248, 0, 512, 1536, 3584, 7680, 15872, 32767, 65535, 131071, 262143, 262143, 1048575, 2097151, 4194303] (h := ?_)
      refine de 23 (h := ?_)
      repeat refine gwp_seq ?_
      refine gwp_ret ?_
      repeat (first | refine gthen_ret ?_ | refine gblock_ret ?_ | refine gnoGoto_ret ?_)
      refine fin_ret ?_
      refine fh [0, 1, 2] (hR := ?_)
      first
      | (have hin : inL s w n = false := by simp [inL]; omega
         exact ⟨(true, A), by simpa [onW, hin] using hA, rfl⟩)
      | (have hin : inL s w n = true := by simp [inL]; omega
         refine ⟨(b, A3), ?_, rfl⟩
         cases b
         · exact hy2
         · simpa [onW, hin] using hy2)
      | (obtain rfl : xb = false := by simp_all
         exact ⟨(false, xa), hX, by rw [List.set_set, set_self hov]⟩)
      | (have hin : i = n + 1 := by omega
         subst hin
         rw [onK_all] at hJ
         exact ⟨(true, A2), hJ, rfl⟩)
    · try simp only [decide_eq_true_eq, decide_eq_false_iff_not, Int.not_lt, Int.not_le, Bool.not_eq_eq_eq_not, Bool.not_true, Bool.not_false, Bool.and_eq_true, Bool.and_eq_false_iff, Bool.or_eq_true, Bool.or_eq_false_iff] at hb2
      try rw [eqI] at hb2
      refine dw0 18 (k := ?_)
      refine dw0 19 (k := ?_)
      refine dz 20 [0, 0, 3, 0, 8, 24, 56, 120, 248, 0, 512, 1536, 3584, 7680, 15872, 32767, 65535, 131071, 262143, 262143, 1048575, 2097151, 4194303] (h := ?_)
      refine dyw 20 [0, 0, 3, 0, 8, 24, 56, 120, 248, 0, 512, 1536, 3584, 7680, 15872, 32767, 65535, 131071, 262143, 262143, 1048575, 2097151, 4194303] (xs := [wP w]) (hcan := ?_) (k := fun b A3 hY => ?_) (kp := fun p A3 hY => ?_)
      · exact hcan _ _ _ hA (hseg 0 w (by rw [onW0 (by simp [inL]; omega)]; rfl))
      · have hy2 := hy _ _ _ _ _ hA (hseg 0 w (by rw [onW0 (by simp [inL]; omega)]; rfl)) hY
        refine dst ?_
        refine d0 0 (k := ?_)
        refine d0 1 (k := ?_)
        refine dz 2 [0, 0, 3, 0, 8, 24, 56, 120, 248, 0, 512, 1536, 3584, 7680, 15872, 32767, 65535, 131071, 262143, 262143, 1048575, 2097151, 4194303] (h := ?_)
        refine de 23 (h := ?_)
        repeat refine gwp_seq ?_
        refine gwp_ret ?_
        repeat (first | refine gthen_ret ?_ | refine gblock_ret ?_ | refine gnoGoto_ret ?_)
        refine fin_ret ?_
        refine fh [0, 1, 2] (hR := ?_)
        first
        | (have hin : inL s w n = false := by simp [inL]; omega
           exact ⟨(true, A), by simpa [onW, hin] using hA, rfl⟩)
        | (have hin : inL s w n = true := by simp [inL]; omega
           refine ⟨(b, A3), ?_, rfl⟩
           cases b
           · exact hy2
           · simpa [onW, hin] using hy2)
        | (obtain rfl : xb = false := by simp_all
           exact ⟨(false, xa), hX, by rw [List.set_set, set_self hov]⟩)
        | (have hin : i = n + 1 := by omega
           subst hin
           rw [onK_all] at hJ
           exact ⟨(true, A2), hJ, rfl⟩)
      · exact (hy _ _ _ _ _ hA (hseg 0 w (by rw [onW0 (by simp [inL]; omega)]; rfl)) hY).elim
  · try simp only [decide_eq_true_eq, decide_eq_false_iff_not, Int.not_lt, Int.not_le, Bool.not_eq_eq_eq_not, Bool.not_true, Bool.not_false, Bool.and_eq_true, Bool.and_eq_false_iff, Bool.or_eq_true, Bool.or_eq_false_iff] at hb1
    try rw [eqI] at hb1
    repeat refine gwp_seq ?_
    refine gwp_skip ?_
    refine cl [1, 2, 3, 4, 5, 6] (k := ?_)
    repeat refine gwp_seq ?_
    obtain ⟨d, rfl⟩ : ∃ e, d = e + 1 := ⟨d - 1, by omega⟩
    refine gwp_region ?_
    refine v0 (k := ?_)
    refine v1 (hc := by (first | exact True.intro | (simp only [inI]; omega) | (simp [P.size, nt, wP, all_int, allOne_p, goods_p, allOne, goods, good, G.one, P.one] <;> first | omega | assumption | simp_all))) (k := ?_)
    refine v0 (k := ?_)
    refine nil0 ?_
    refine cl [1, 2, 3, 4, 5, 6, 43, 44] (k := ?_)
    repeat refine gwp_seq ?_
    refine gwp_block ?_
    repeat refine gwp_seq ?_
    refine gc_loop (fun mz σ => ∃ (i : Nat) (A2 : E.α) (w' : List Int), (i ≤ n + 1) ∧ (J (k + (onK s d w sz n i).length) A2) ∧ (w'.length = 8) ∧ (∀ j, j ≠ n → w'[j]? = w[j]?) ∧ mz = n + 1 - i ∧ σ = (sg [(1, .p (.int .i64 n)), (2, .ptr [.ptr [.p (.int .i64 s.num), .p (.list (s.sizes.map (.int .i64))), .p (.int .i64 s.lo), .p (.int .i64 s.hi), .p (.list (s.notes.map pn))]]), (3, .ref 0 0), (4, .ref 1 0), (5, .ref 2 0), (6, .ref 160 0), (43, .p (.int .i64 ((n : Int) + 1))), (44, .p (.int .i64 i))] [(0, .cells [.abs] 0), (1, .cells ((sz.map (.int .i64)).map .p) 0), (2, .cells [.fn (.func 76) [] [.ptr [.ptr [.p (.int .i64 s.num), .p (.list (s.sizes.map (.int .i64))), .p (.int .i64 s.lo), .p (.int .i64 s.hi), .p (.list (s.notes.map pn))]], .ref 0 0, .ref 1 0, .ref 2 0]] 0), (160, .cells ((w'.map (.int .i64)).map .p) 0)] A2 [] : Sg E)) ?_ (fun mz σ hI => ?_)
    · refine lbeg [1, 2, 3, 4, 5, 6, 43, 44] (hV := ?_)
      exact ⟨_, 0, A, w, by omega, by simpa [onK] using hA, hw, fun _ _ => rfl, rfl, sgE (by simp) rfl⟩
    obtain ⟨i, A2, w', hi, hJ, hw', hsame, hnn, rfl⟩ := hI
    repeat refine gwp_seq ?_
    refine gwp_region ?_
    refine v0 (k := ?_)
    refine nil0 ?_
    repeat refine gwp_seq ?_
    refine cB (k1 := fun hb3 => ?_) (k0 := fun hb3 => ?_)
    · try simp only [decide_eq_true_eq, decide_eq_false_iff_not, Int.not_lt, Int.not_le, Bool.not_eq_eq_eq_not, Bool.not_true, Bool.not_false, Bool.and_eq_true, Bool.and_eq_false_iff, Bool.or_eq_true, Bool.or_eq_false_iff] at hb3
      try rw [eqI] at hb3
      repeat refine gwp_seq ?_
      refine gwp_skip ?_
      refine cl [1, 2, 3, 4, 5, 6, 43, 44] (k := ?_)
      repeat refine gwp_seq ?_
      refine gwp_block ?_
      repeat refine gwp_seq ?_
      refine gwp_region ?_
      refine v0 (k := ?_)
      refine v0 (k := ?_)
      refine nil0 ?_
      refine cl [1, 2, 3, 4, 5, 6, 9, 43, 44] (k := ?_)
      repeat refine gwp_seq ?_
      obtain ⟨wi, hwi⟩ := getE (l := w') (k := i) (by omega)
      obtain ⟨ov, hov⟩ := getE (l := sz) (k := i) (by omega)
      obtain ⟨ow, how⟩ := getE (l := s.sizes) (k := n) (by omega)
      refine rd ?_
      refine d0 0 (k := ?_)
      refine d1 1 (hc := by (first | exact True.intro | (simp only [inI]; omega) | (simp [P.size, nt, wP, all_int, allOne_p, goods_p, allOne, goods, good, G.one, P.one] <;> first | omega | assumption | simp_all))) (k := ?_)
      refine d0 2 (k := ?_)
      refine d0 3 (k := ?_)
      refine d0 4 (k := ?_)
      refine d0 5 (k := ?_)
      refine d0 6 (k := ?_)
      refine d0 7 (k := ?_)
      refine d0 8 (k := ?_)
      refine d1 9 (hc := by (first | exact True.intro | (simp only [inI]; omega) | (simp [P.size, nt, wP, all_int, allOne_p, goods_p, allOne, goods, good, G.one, P.one] <;> first | omega | assumption | simp_all))) (k := ?_)
      refine d0 10 (k := ?_)
      refine d0 11 (k := ?_)
      refine d0 12 (k := ?_)
      refine dz 13 [0, 1, 3, 0, 8, 24, 56, 120, 0, 504, 1016, 7, 4095] (h := ?_)
      refine de 13 (h := ?_)
      refine cl [1, 2, 3, 4, 5, 6, 9, 10, 11, 43, 44] (k := ?_)
      repeat refine gwp_seq ?_
      refine gwp_region ?_
      refine v0 (k := ?_)
      refine v0 (k := ?_)
      refine v0 (k := ?_)
      refine nil0 ?_
      repeat refine gwp_seq ?_
      refine cB (k1 := fun hb4 => ?_) (k0 := fun hb4 => ?_)
      · try simp only [decide_eq_true_eq, decide_eq_false_iff_not, Int.not_lt, Int.not_le, Bool.not_eq_eq_eq_not, Bool.not_true, Bool.not_false, Bool.and_eq_true, Bool.and_eq_false_iff, Bool.or_eq_true, Bool.or_eq_false_iff] at hb4
        try rw [eqI] at hb4
        repeat refine gwp_seq ?_
        refine gwp_region ?_
        refine v0 (k := ?_)
        refine nil0 ?_
        refine cl [1, 2, 3, 4, 5, 6, 9, 10, 11, 43, 44] (k := ?_)
        repeat refine gwp_seq ?_
        refine gwp_region ?_
        refine v0 (k := ?_)
        refine v0 (k := ?_)
        refine v0 (k := ?_)
        refine rb 63 false (h := by (simp only [decide_eq_false_iff_not]; omega)) (k := ?_)
        refine v0 (k := ?_)
        refine x0 (k := ?_)
        refine x0 (k := ?_)
        refine x0 (k := ?_)
        refine x0 (k := ?_)
        refine x0 (k := ?_)
        refine v0 (k := ?_)
        refine v0 (k := ?_)
        refine w0 (k := ?_)
        refine w0 (k := ?_)
        refine rb 73 false (h := by (simp)) (k := ?_)
        refine w0 (k := ?_)
        refine x0 (k := ?_)
        refine x0 (k := ?_)
        refine w0 (k := ?_)
        refine w0 (k := ?_)
        refine x0 (k := ?_)
        refine x0 (k := ?_)
        refine x0 (k := ?_)
        refine w0 (k := ?_)
        refine v0 (k := ?_)
        refine nil0 ?_
        repeat refine gwp_seq ?_
        refine cF (k := ?_)
        repeat refine gwp_seq ?_
        refine gwp_skip ?_
        refine cl [1, 2, 3, 4, 5, 6, 9, 10, 11, 43, 44] (k := ?_)
        repeat refine gwp_seq ?_
        refine gwp_region ?_
        refine v0 (k := ?_)
        refine v0 (k := ?_)
        refine v0 (k := ?_)
        refine v0 (k := ?_)
        refine v0 (k := ?_)
        refine v0 (k := ?_)
        refine v1 (hc := by (first | exact True.intro | (simp only [inI]; omega) | (simp [P.size, nt, wP, all_int, allOne_p, goods_p, allOne, goods, good, G.one, P.one] <;> first | omega | assumption | simp_all))) (k := ?_)
        refine s1 (hc := by (first | exact True.intro | (simp only [inI]; omega) | (simp [P.size, nt, wP, all_int, allOne_p, goods_p, allOne, goods, good, G.one, P.one] <;> first | omega | assumption | simp_all))) (k := ?_)
        refine v1 (hc := by (first | exact True.intro | (simp only [inI]; omega) | (simp [P.size, nt, wP, all_int, allOne_p, goods_p, allOne, goods, good, G.one, P.one] <;> first | omega | assumption | simp_all))) (k := ?_)
        refine s1 (hc := by (first | exact True.intro | (simp only [inI]; omega) | (simp [P.size, nt, wP, all_int, allOne_p, goods_p, allOne, goods, good, G.one, P.one] <;> first | omega | assumption | simp_all))) (k := ?_)
        refine nil0 ?_
        refine cl [1, 2, 3, 4, 5, 6, 9, 10, 43, 44] (k := ?_)
        repeat refine gwp_seq ?_
        have hset := set_other (x := (i : Int)) (hw'.trans hw.symm) hsame
        have hwi2 : i ≠ n → w[i]? = some wi := fun e => (hsame i e).symm.trans hwi
        have hok : stepOk s w sz n i = true := stepOk_T hwi2 hov how (by omega)
        have hseg2 := seg_child hseg (by omega) hok
        simp only [oldS, getD_of hov, getD_of how, ← hset] at hseg2
        have ih2 := ih d (by omega) (n + 1) (k + (onK s d w sz n i).length) (w'.set n i) (sz.set i (max (if i = n then 0 else ov) ow)) A2 (by omega) (by simp [hw']) (by simp [hsz]) (fun j x hj hx => by
          rw [List.getElem?_set_ne (by omega)] at hx
          exact hz j x (by omega) hx) hseg2 hJ
        rw [show ((n + 1 : Nat) : Int) = (n : Int) + 1 by omega] at ih2
        have hK := onK_succ s d w sz n i
        rw [if_pos hok, ← hset] at hK
        simp only [oldS, getD_of hov, getD_of how] at hK
        first
        | (have e : i = n := by omega
           rw [if_pos e] at ih2 hK
           have hov0 : ov = 0 := hz i ov (by omega) hov
           subst hov0
           clear e)
        | (have e : ¬ i = n := by omega
           rw [if_neg e] at ih2 hK)
        clear hset
        refine gwp_region ?_
        refine v0 (k := ?_)
        refine v0 (k := ?_)
        refine v0 (k := ?_)
        refine v1 (hc := by (first | exact True.intro | (simp only [inI]; omega) | (simp [P.size, nt, wP, all_int, allOne_p, goods_p, allOne, goods, good, G.one, P.one] <;> first | omega | assumption | simp_all))) (k := ?_)
        refine on0 [(0, 0), (1, 1), (2, 2)] [] [0, 0, 0, 0, 0, 0] none (X := Bool × E.α) (spec := ih2) (hent := ent76) (k := fun x hX => ?_)
        obtain ⟨xb, xa⟩ := x
        simp only at hX
        refine v0 (k := ?_)
        refine nil0 ?_
        refine cl [1, 2, 3, 4, 5, 6, 9, 10, 12, 43, 44] (k := ?_)
        repeat refine gwp_seq ?_
        refine gwp_region ?_
        refine v0 (k := ?_)
        refine v0 (k := ?_)
        refine v1 (hc := by (first | exact True.intro | (simp only [inI]; omega) | (simp [P.size, nt, wP, all_int, allOne_p, goods_p, allOne, goods, good, G.one, P.one] <;> first | omega | assumption | simp_all))) (k := ?_)
        refine s1 (hc := by (first | exact True.intro | (simp only [inI]; omega) | (simp [P.size, nt, wP, all_int, allOne_p, goods_p, allOne, goods, good, G.one, P.one] <;> first | omega | assumption | simp_all))) (k := ?_)
        refine nil0 ?_
        refine cl [1, 2, 3, 4, 5, 6, 12, 43, 44] (k := ?_)
        repeat refine gwp_seq ?_
        refine gwp_region ?_
        refine v0 (k := ?_)
        refine v0 (k := ?_)
        refine nil0 ?_
        repeat refine gwp_seq ?_
        refine cB (k1 := fun hb5 => ?_) (k0 := fun hb5 => ?_)
        · try simp only [decide_eq_true_eq, decide_eq_false_iff_not, Int.not_lt, Int.not_le, Bool.not_eq_eq_eq_not, Bool.not_true, Bool.not_false, Bool.and_eq_true, Bool.and_eq_false_iff, Bool.or_eq_true, Bool.or_eq_false_iff] at hb5
          try rw [eqI] at hb5
          repeat refine gwp_seq ?_
          refine gwp_region ?_
          refine v0 (k := ?_)
          refine nil0 ?_
          repeat refine gwp_seq ?_
          refine gwp_ret ?_
          repeat (first | refine gthen_ret ?_ | refine gblock_ret ?_ | refine gnoGoto_ret ?_)
          refine fin_ret ?_
          refine fh [0, 1, 2] (hR := ?_)
          first
          | (have hin : inL s w n = false := by simp [inL]; omega
             exact ⟨(true, A), by simpa [onW, hin] using hA, rfl⟩)
          | (have hin : inL s w n = true := by simp [inL]; omega
             refine ⟨(b, A3), ?_, rfl⟩
             cases b
             · exact hy2
             · simpa [onW, hin] using hy2)
          | (obtain rfl : xb = false := by simp_all
             exact ⟨(false, xa), hX, by rw [List.set_set, set_self hov]⟩)
          | (have hin : i = n + 1 := by omega
             subst hin
             rw [onK_all] at hJ
             exact ⟨(true, A2), hJ, rfl⟩)
        · try simp only [decide_eq_true_eq, decide_eq_false_iff_not, Int.not_lt, Int.not_le, Bool.not_eq_eq_eq_not, Bool.not_true, Bool.not_false, Bool.and_eq_true, Bool.and_eq_false_iff, Bool.or_eq_true, Bool.or_eq_false_iff] at hb5
          try rw [eqI] at hb5
          repeat refine gwp_seq ?_
          refine gwp_skip ?_
          refine cl [1, 2, 3, 4, 5, 6, 43, 44] (k := ?_)
          repeat refine gwp_seq ?_
          refine gwp_region ?_
          refine v1 (hc := by (first | exact True.intro | (simp only [inI]; omega) | (simp [P.size, nt, wP, all_int, allOne_p, goods_p, allOne, goods, good, G.one, P.one] <;> first | omega | assumption | simp_all))) (k := ?_)
          refine v0 (k := ?_)
          refine nil0 ?_
          refine lend [1, 2, 3, 4, 5, 6, 43, 44] (h := ?_) (hV := ?_) (n' := n + 1 - (i + 1))
          · omega
          first
          | (have hF := stepOk_F (fun e => (hsame i e).symm.trans hwi) hov how (by omega)
             exact ⟨i + 1, A2, w', by omega, by rw [onK_succ, hF]; simpa using hJ, hw', hsame, rfl, sgE rfl rfl⟩)
          | (obtain rfl : xb = true := by simp_all
             refine ⟨i + 1, xa, w'.set n i, by omega, ?_, by simp [hw'], fun j hj => by rw [List.getElem?_set_ne (Ne.symm hj)]; exact hsame j hj, rfl, sgE rfl ?_⟩
             · rw [hK, List.length_append, ← Nat.add_assoc]; exact hX
             · rw [List.set_set, set_self hov])
      · try simp only [decide_eq_true_eq, decide_eq_false_iff_not, Int.not_lt, Int.not_le, Bool.not_eq_eq_eq_not, Bool.not_true, Bool.not_false, Bool.and_eq_true, Bool.and_eq_false_iff, Bool.or_eq_true, Bool.or_eq_false_iff] at hb4
        try rw [eqI] at hb4
        repeat refine gwp_seq ?_
        refine gwp_skip ?_
        refine cl [1, 2, 3, 4, 5, 6, 9, 10, 11, 43, 44] (k := ?_)
        repeat refine gwp_seq ?_
        refine gwp_region ?_
        refine v0 (k := ?_)
        refine v0 (k := ?_)
        refine v0 (k := ?_)
        refine rb 63 true (h := by (simp only [decide_eq_true_eq]; omega)) (k := ?_)
        refine v0 (k := ?_)
        refine w0 (k := ?_)
        refine w1 (hc := by (first | exact True.intro | (simp only [inI]; omega) | (simp [P.size, nt, wP, all_int, allOne_p, goods_p, allOne, goods, good, G.one, P.one] <;> first | omega | assumption | simp_all))) (k := ?_)
        refine w0 (k := ?_)
        refine w0 (k := ?_)
        refine w0 (k := ?_)
        refine v0 (k := ?_)
        refine v0 (k := ?_)
        refine b0 (k1 := fun hb6 => ?_) (k0 := fun hb6 => ?_)
        · try simp only [decide_eq_true_eq, decide_eq_false_iff_not, Int.not_lt, Int.not_le, Bool.not_eq_eq_eq_not, Bool.not_true, Bool.not_false, Bool.and_eq_true, Bool.and_eq_false_iff, Bool.or_eq_true, Bool.or_eq_false_iff] at hb6
          try rw [eqI] at hb6
          refine x0 (k := ?_)
          refine x0 (k := ?_)
          refine x0 (k := ?_)
          refine x1 (k := ?_)
          refine x1 (k := ?_)
          refine x0 (k := ?_)
          refine x0 (k := ?_)
          refine x1 (k := ?_)
          refine x1 (k := ?_)
          refine x1 (k := ?_)
          refine x0 (k := ?_)
          refine v0 (k := ?_)
          refine nil0 ?_
          repeat refine gwp_seq ?_
          refine cT (k := ?_)
          repeat refine gwp_seq ?_
          refine gwp_exit ?_
          repeat (first | refine gthen_exit ?_ | refine gnoGoto_exit ?_ | refine gblock_here ?_ | refine gblock_out rfl ?_)
          refine cl [1, 2, 3, 4, 5, 6, 43, 44] (k := ?_)
          repeat refine gwp_seq ?_
          refine gwp_region ?_
          refine v1 (hc := by (first | exact True.intro | (simp only [inI]; omega) | (simp [P.size, nt, wP, all_int, allOne_p, goods_p, allOne, goods, good, G.one, P.one] <;> first | omega | assumption | simp_all))) (k := ?_)
          refine v0 (k := ?_)
          refine nil0 ?_
          refine lend [1, 2, 3, 4, 5, 6, 43, 44] (h := ?_) (hV := ?_) (n' := n + 1 - (i + 1))
          · omega
          first
          | (have hF := stepOk_F (fun e => (hsame i e).symm.trans hwi) hov how (by omega)
             exact ⟨i + 1, A2, w', by omega, by rw [onK_succ, hF]; simpa using hJ, hw', hsame, rfl, sgE rfl rfl⟩)
          | (obtain rfl : xb = true := by simp_all
             refine ⟨i + 1, xa, w'.set n i, by omega, ?_, by simp [hw'], fun j hj => by rw [List.getElem?_set_ne (Ne.symm hj)]; exact hsame j hj, rfl, sgE rfl ?_⟩
             · rw [hK, List.length_append, ← Nat.add_assoc]; exact hX
             · rw [List.set_set, set_self hov])
        · try simp only [decide_eq_true_eq, decide_eq_false_iff_not, Int.not_lt, Int.not_le, Bool.not_eq_eq_eq_not, Bool.not_true, Bool.not_false, Bool.and_eq_true, Bool.and_eq_false_iff, Bool.or_eq_true, Bool.or_eq_false_iff] at hb6
          try rw [eqI] at hb6
          refine w0 (k := ?_)
          refine w0 (k := ?_)
          refine w0 (k := ?_)
          refine b0 (k1 := fun hb7 => ?_) (k0 := fun hb7 => ?_)
          · try simp only [decide_eq_true_eq, decide_eq_false_iff_not, Int.not_lt, Int.not_le, Bool.not_eq_eq_eq_not, Bool.not_true, Bool.not_false, Bool.and_eq_true, Bool.and_eq_false_iff, Bool.or_eq_true, Bool.or_eq_false_iff] at hb7
            try rw [eqI] at hb7
            refine w0 (k := ?_)
            refine w0 (k := ?_)
            refine w0 (k := ?_)
            refine w0 (k := ?_)
            refine b0 (k1 := fun hb8 => ?_) (k0 := fun hb8 => ?_)
            · try simp only [decide_eq_true_eq, decide_eq_false_iff_not, Int.not_lt, Int.not_le, Bool.not_eq_eq_eq_not, Bool.not_true, Bool.not_false, Bool.and_eq_true, Bool.and_eq_false_iff, Bool.or_eq_true, Bool.or_eq_false_iff] at hb8
              try rw [eqI] at hb8
              refine w0 (k := ?_)
              refine w0 (k := ?_)
              refine w0 (k := ?_)
              refine w0 (k := ?_)
              refine v0 (k := ?_)
              refine nil0 ?_
              repeat refine gwp_seq ?_
              refine cB (k1 := fun hb9 => ?_) (k0 := fun hb9 => ?_)
              · try simp only [decide_eq_true_eq, decide_eq_false_iff_not, Int.not_lt, Int.not_le, Bool.not_eq_eq_eq_not, Bool.not_true, Bool.not_false, Bool.and_eq_true, Bool.and_eq_false_iff, Bool.or_eq_true, Bool.or_eq_false_iff] at hb9
                try rw [eqI] at hb9
                repeat refine gwp_seq ?_
                refine gwp_exit ?_
                repeat (first | refine gthen_exit ?_ | refine gnoGoto_exit ?_ | refine gblock_here ?_ | refine gblock_out rfl ?_)
                refine cl [1, 2, 3, 4, 5, 6, 43, 44] (k := ?_)
                repeat refine gwp_seq ?_
                refine gwp_region ?_
                refine v1 (hc := by (first | exact True.intro | (simp only [inI]; omega) | (simp [P.size, nt, wP, all_int, allOne_p, goods_p, allOne, goods, good, G.one, P.one] <;> first | omega | assumption | simp_all))) (k := ?_)
                refine v0 (k := ?_)
                refine nil0 ?_
                refine lend [1, 2, 3, 4, 5, 6, 43, 44] (h := ?_) (hV := ?_) (n' := n + 1 - (i + 1))
                · omega
                first
                | (have hF := stepOk_F (fun e => (hsame i e).symm.trans hwi) hov how (by omega)
                   exact ⟨i + 1, A2, w', by omega, by rw [onK_succ, hF]; simpa using hJ, hw', hsame, rfl, sgE rfl rfl⟩)
                | (obtain rfl : xb = true := by simp_all
                   refine ⟨i + 1, xa, w'.set n i, by omega, ?_, by simp [hw'], fun j hj => by rw [List.getElem?_set_ne (Ne.symm hj)]; exact hsame j hj, rfl, sgE rfl ?_⟩
                   · rw [hK, List.length_append, ← Nat.add_assoc]; exact hX
                   · rw [List.set_set, set_self hov])
              · try simp only [decide_eq_true_eq, decide_eq_false_iff_not, Int.not_lt, Int.not_le, Bool.not_eq_eq_eq_not, Bool.not_true, Bool.not_false, Bool.and_eq_true, Bool.and_eq_false_iff, Bool.or_eq_true, Bool.or_eq_false_iff] at hb9
                try rw [eqI] at hb9
                repeat refine gwp_seq ?_
                refine gwp_skip ?_
                refine cl [1, 2, 3, 4, 5, 6, 9, 10, 11, 43, 44] (k := ?_)
                repeat refine gwp_seq ?_
                refine gwp_region ?_
                refine v0 (k := ?_)
                refine v0 (k := ?_)
                refine v0 (k := ?_)
                refine v0 (k := ?_)
                refine v0 (k := ?_)
                refine v0 (k := ?_)
                refine v1 (hc := by (first | exact True.intro | (simp only [inI]; omega) | (simp [P.size, nt, wP, all_int, allOne_p, goods_p, allOne, goods, good, G.one, P.one] <;> first | omega | assumption | simp_all))) (k := ?_)
                refine s1 (hc := by (first | exact True.intro | (simp only [inI]; omega) | (simp [P.size, nt, wP, all_int, allOne_p, goods_p, allOne, goods, good, G.one, P.one] <;> first | omega | assumption | simp_all))) (k := ?_)
                refine v1 (hc := by (first | exact True.intro | (simp only [inI]; omega) | (simp [P.size, nt, wP, all_int, allOne_p, goods_p, allOne, goods, good, G.one, P.one] <;> first | omega | assumption | simp_all))) (k := ?_)
                refine s1 (hc := by (first | exact True.intro | (simp only [inI]; omega) | (simp [P.size, nt, wP, all_int, allOne_p, goods_p, allOne, goods, good, G.one, P.one] <;> first | omega | assumption | simp_all))) (k := ?_)
                refine nil0 ?_
                refine cl [1, 2, 3, 4, 5, 6, 9, 10, 43, 44] (k := ?_)
                repeat refine gwp_seq ?_
                have hset := set_other (x := (i : Int)) (hw'.trans hw.symm) hsame
                have hwi2 : i ≠ n → w[i]? = some wi := fun e => (hsame i e).symm.trans hwi
                have hok : stepOk s w sz n i = true := stepOk_T hwi2 hov how (by omega)
                have hseg2 := seg_child hseg (by omega) hok
                simp only [oldS, getD_of hov, getD_of how, ← hset] at hseg2
                have ih2 := ih d (by omega) (n + 1) (k + (onK s d w sz n i).length) (w'.set n i) (sz.set i (max (if i = n then 0 else ov) ow)) A2 (by omega) (by simp [hw']) (by simp [hsz]) (fun j x hj hx => by
                  rw [List.getElem?_set_ne (by omega)] at hx
                  exact hz j x (by omega) hx) hseg2 hJ
                rw [show ((n + 1 : Nat) : Int) = (n : Int) + 1 by omega] at ih2
                have hK := onK_succ s d w sz n i
                rw [if_pos hok, ← hset] at hK
                simp only [oldS, getD_of hov, getD_of how] at hK
                first
                | (have e : i = n := by omega
                   rw [if_pos e] at ih2 hK
                   have hov0 : ov = 0 := hz i ov (by omega) hov
                   subst hov0
                   clear e)
                | (have e : ¬ i = n := by omega
                   rw [if_neg e] at ih2 hK)
                clear hset
                refine gwp_region ?_
                refine v0 (k := ?_)
                refine v0 (k := ?_)
                refine v0 (k := ?_)
                refine v1 (hc := by (first | exact True.intro | (simp only [inI]; omega) | (simp [P.size, nt, wP, all_int, allOne_p, goods_p, allOne, goods, good, G.one, P.one] <;> first | omega | assumption | simp_all))) (k := ?_)
                refine on0 [(0, 0), (1, 1), (2, 2)] [] [0, 0, 0, 0, 0, 0] none (X := Bool × E.α) (spec := ih2) (hent := ent76) (k := fun x hX => ?_)
                obtain ⟨xb, xa⟩ := x
                simp only at hX
                refine v0 (k := ?_)
                refine nil0 ?_
                refine cl [1, 2, 3, 4, 5, 6, 9, 10, 12, 43, 44] (k := ?_)
                repeat refine gwp_seq ?_
                refine gwp_region ?_
                refine v0 (k := ?_)
                refine v0 (k := ?_)
                refine v1 (hc := by (first | exact True.intro | (simp only [inI]; omega) | (simp [P.size, nt, wP, all_int, allOne_p, goods_p, allOne, goods, good, G.one, P.one] <;> first | omega | assumption | simp_all))) (k := ?_)
                refine s1 (hc := by (first | exact True.intro | (simp only [inI]; omega) | (simp [P.size, nt, wP, all_int, allOne_p, goods_p, allOne, goods, good, G.one, P.one] <;> first | omega | assumption | simp_all))) (k := ?_)
                refine nil0 ?_
                refine cl [1, 2, 3, 4, 5, 6, 12, 43, 44] (k := ?_)
                repeat refine gwp_seq ?_
                refine gwp_region ?_
                refine v0 (k := ?_)
                refine v0 (k := ?_)
                refine nil0 ?_
                repeat refine gwp_seq ?_
                refine cB (k1 := fun hb10 => ?_) (k0 := fun hb10 => ?_)
                · try simp only [decide_eq_true_eq, decide_eq_false_iff_not, Int.not_lt, Int.not_le, Bool.not_eq_eq_eq_not, Bool.not_true, Bool.not_false, Bool.and_eq_true, Bool.and_eq_false_iff, Bool.or_eq_true, Bool.or_eq_false_iff] at hb10
                  try rw [eqI] at hb10
                  repeat refine gwp_seq ?_
                  refine gwp_region ?_
                  refine v0 (k := ?_)
                  refine nil0 ?_
                  repeat refine gwp_seq ?_
                  refine gwp_ret ?_
                  repeat (first | refine gthen_ret ?_ | refine gblock_ret ?_ | refine gnoGoto_ret ?_)
                  refine fin_ret ?_
                  refine fh [0, 1, 2] (hR := ?_)
                  first
                  | (have hin : inL s w n = false := by simp [inL]; omega
                     exact ⟨(true, A), by simpa [onW, hin] using hA, rfl⟩)
                  | (have hin : inL s w n = true := by simp [inL]; omega
                     refine ⟨(b, A3), ?_, rfl⟩
                     cases b
                     · exact hy2
                     · simpa [onW, hin] using hy2)
                  | (obtain rfl : xb = false := by simp_all
                     exact ⟨(false, xa), hX, by rw [List.set_set, set_self hov]⟩)
                  | (have hin : i = n + 1 := by omega
                     subst hin
                     rw [onK_all] at hJ
                     exact ⟨(true, A2), hJ, rfl⟩)
                · try simp only [decide_eq_true_eq, decide_eq_false_iff_not, Int.not_lt, Int.not_le, Bool.not_eq_eq_eq_not, Bool.not_true, Bool.not_false, Bool.and_eq_true, Bool.and_eq_false_iff, Bool.or_eq_true, Bool.or_eq_false_iff] at hb10
                  try rw [eqI] at hb10
                  repeat refine gwp_seq ?_
                  refine gwp_skip ?_
                  refine cl [1, 2, 3, 4, 5, 6, 43, 44] (k := ?_)
                  repeat refine gwp_seq ?_
                  refine gwp_region ?_
                  refine v1 (hc := by (first | exact True.intro | (simp only [inI]; omega) | (simp [P.size, nt, wP, all_int, allOne_p, goods_p, allOne, goods, good, G.one, P.one] <;> first | omega | assumption | simp_all))) (k := ?_)
                  refine v0 (k := ?_)
                  refine nil0 ?_
                  refine lend [1, 2, 3, 4, 5, 6, 43, 44] (h := ?_) (hV := ?_) (n' := n + 1 - (i + 1))
                  · omega
                  first
                  | (have hF := stepOk_F (fun e => (hsame i e).symm.trans hwi) hov how (by omega)
                     exact ⟨i + 1, A2, w', by omega, by rw [onK_succ, hF]; simpa using hJ, hw', hsame, rfl, sgE rfl rfl⟩)
                  | (obtain rfl : xb = true := by simp_all
                     refine ⟨i + 1, xa, w'.set n i, by omega, ?_, by simp [hw'], fun j hj => by rw [List.getElem?_set_ne (Ne.symm hj)]; exact hsame j hj, rfl, sgE rfl ?_⟩
                     · rw [hK, List.length_append, ← Nat.add_assoc]; exact hX
                     · rw [List.set_set, set_self hov])
            · try simp only [decide_eq_true_eq, decide_eq_false_iff_not, Int.not_lt, Int.not_le, Bool.not_eq_eq_eq_not, Bool.not_true, Bool.not_false, Bool.and_eq_true, Bool.and_eq_false_iff, Bool.or_eq_true, Bool.or_eq_false_iff] at hb8
              try rw [eqI] at hb8
              refine x0 (k := ?_)
              refine x0 (k := ?_)
              refine x0 (k := ?_)
              refine w0 (k := ?_)
              refine v0 (k := ?_)
              refine nil0 ?_
              repeat refine gwp_seq ?_
              refine cF (k := ?_)
              repeat refine gwp_seq ?_
              refine gwp_skip ?_
              refine cl [1, 2, 3, 4, 5, 6, 9, 10, 11, 43, 44] (k := ?_)
              repeat refine gwp_seq ?_
              refine gwp_region ?_
              refine v0 (k := ?_)
              refine v0 (k := ?_)
              refine v0 (k := ?_)
              refine v0 (k := ?_)
              refine v0 (k := ?_)
              refine v0 (k := ?_)
              refine v1 (hc := by (first | exact True.intro | (simp only [inI]; omega) | (simp [P.size, nt, wP, all_int, allOne_p, goods_p, allOne, goods, good, G.one, P.one] <;> first | omega | assumption | simp_all))) (k := ?_)
              refine s1 (hc := by (first | exact True.intro | (simp only [inI]; omega) | (simp [P.size, nt, wP, all_int, allOne_p, goods_p, allOne, goods, good, G.one, P.one] <;> first | omega | assumption | simp_all))) (k := ?_)
              refine v1 (hc := by (first | exact True.intro | (simp only [inI]; omega) | (simp [P.size, nt, wP, all_int, allOne_p, goods_p, allOne, goods, good, G.one, P.one] <;> first | omega | assumption | simp_all))) (k := ?_)
              refine s1 (hc := by (first | exact True.intro | (simp only [inI]; omega) | (simp [P.size, nt, wP, all_int, allOne_p, goods_p, allOne, goods, good, G.one, P.one] <;> first | omega | assumption | simp_all))) (k := ?_)
              refine nil0 ?_
              refine cl [1, 2, 3, 4, 5, 6, 9, 10, 43, 44] (k := ?_)
              repeat refine gwp_seq ?_
              have hset := set_other (x := (i : Int)) (hw'.trans hw.symm) hsame
              have hwi2 : i ≠ n → w[i]? = some wi := fun e => (hsame i e).symm.trans hwi
              have hok : stepOk s w sz n i = true := stepOk_T hwi2 hov how (by omega)
              have hseg2 := seg_child hseg (by omega) hok
              simp only [oldS, getD_of hov, getD_of how, ← hset] at hseg2
              have ih2 := ih d (by omega) (n + 1) (k + (onK s d w sz n i).length) (w'.set n i) (sz.set i (max (if i = n then 0 else ov) ow)) A2 (by omega) (by simp [hw']) (by simp [hsz]) (fun j x hj hx => by
                rw [List.getElem?_set_ne (by omega)] at hx
                exact hz j x (by omega) hx) hseg2 hJ
              rw [show ((n + 1 : Nat) : Int) = (n : Int) + 1 by omega] at ih2
              have hK := onK_succ s d w sz n i
              rw [if_pos hok, ← hset] at hK
              simp only [oldS, getD_of hov, getD_of how] at hK
              first
              | (have e : i = n := by omega
                 rw [if_pos e] at ih2 hK
                 have hov0 : ov = 0 := hz i ov (by omega) hov
                 subst hov0
                 clear e)
              | (have e : ¬ i = n := by omega
                 rw [if_neg e] at ih2 hK)
              clear hset
              refine gwp_region ?_
              refine v0 (k := ?_)
              refine v0 (k := ?_)
              refine v0 (k := ?_)
              refine v1 (hc := by (first | exact True.intro | (simp only [inI]; omega) | (simp [P.size, nt, wP, all_int, allOne_p, goods_p, allOne, goods, good, G.one, P.one] <;> first | omega | assumption | simp_all))) (k := ?_)
              refine on0 [(0, 0), (1, 1), (2, 2)] [] [0, 0, 0, 0, 0, 0] none (X := Bool × E.α) (spec := ih2) (hent := ent76) (k := fun x hX => ?_)
              obtain ⟨xb, xa⟩ := x
              simp only at hX
              refine v0 (k := ?_)
              refine nil0 ?_
              refine cl [1, 2, 3, 4, 5, 6, 9, 10, 12, 43, 44] (k := ?_)
              repeat refine gwp_seq ?_
              refine gwp_region ?_
              refine v0 (k := ?_)
              refine v0 (k := ?_)
              refine v1 (hc := by (first | exact True.intro | (simp only [inI]; omega) | (simp [P.size, nt, wP, all_int, allOne_p, goods_p, allOne, goods, good, G.one, P.one] <;> first | omega | assumption | simp_all))) (k := ?_)
              refine s1 (hc := by (first | exact True.intro | (simp only [inI]; omega) | (simp [P.size, nt, wP, all_int, allOne_p, goods_p, allOne, goods, good, G.one, P.one] <;> first | omega | assumption | simp_all))) (k := ?_)
              refine nil0 ?_
              refine cl [1, 2, 3, 4, 5, 6, 12, 43, 44] (k := ?_)
              repeat refine gwp_seq ?_
              refine gwp_region ?_
              refine v0 (k := ?_)
              refine v0 (k := ?_)
              refine nil0 ?_
              repeat refine gwp_seq ?_
              refine cB (k1 := fun hb11 => ?_) (k0 := fun hb11 => ?_)
              · try simp only [decide_eq_true_eq, decide_eq_false_iff_not, Int.not_lt, Int.not_le, Bool.not_eq_eq_eq_not, Bool.not_true, Bool.not_false, Bool.and_eq_true, Bool.and_eq_false_iff, Bool.or_eq_true, Bool.or_eq_false_iff] at hb11
                try rw [eqI] at hb11
                repeat refine gwp_seq ?_
                refine gwp_region ?_
                refine v0 (k := ?_)
                refine nil0 ?_
                repeat refine gwp_seq ?_
                refine gwp_ret ?_
                repeat (first | refine gthen_ret ?_ | refine gblock_ret ?_ | refine gnoGoto_ret ?_)
                refine fin_ret ?_
                refine fh [0, 1, 2] (hR := ?_)
                first
                | (have hin : inL s w n = false := by simp [inL]; omega
                   exact ⟨(true, A), by simpa [onW, hin] using hA, rfl⟩)
                | (have hin : inL s w n = true := by simp [inL]; omega
                   refine ⟨(b, A3), ?_, rfl⟩
                   cases b
                   · exact hy2
                   · simpa [onW, hin] using hy2)
                | (obtain rfl : xb = false := by simp_all
                   exact ⟨(false, xa), hX, by rw [List.set_set, set_self hov]⟩)
                | (have hin : i = n + 1 := by omega
                   subst hin
                   rw [onK_all] at hJ
                   exact ⟨(true, A2), hJ, rfl⟩)
              · try simp only [decide_eq_true_eq, decide_eq_false_iff_not, Int.not_lt, Int.not_le, Bool.not_eq_eq_eq_not, Bool.not_true, Bool.not_false, Bool.and_eq_true, Bool.and_eq_false_iff, Bool.or_eq_true, Bool.or_eq_false_iff] at hb11
                try rw [eqI] at hb11
                repeat refine gwp_seq ?_
                refine gwp_skip ?_
                refine cl [1, 2, 3, 4, 5, 6, 43, 44] (k := ?_)
                repeat refine gwp_seq ?_
                refine gwp_region ?_
                refine v1 (hc := by (first | exact True.intro | (simp only [inI]; omega) | (simp [P.size, nt, wP, all_int, allOne_p, goods_p, allOne, goods, good, G.one, P.one] <;> first | omega | assumption | simp_all))) (k := ?_)
                refine v0 (k := ?_)
                refine nil0 ?_
                refine lend [1, 2, 3, 4, 5, 6, 43, 44] (h := ?_) (hV := ?_) (n' := n + 1 - (i + 1))
                · omega
                first
                | (have hF := stepOk_F (fun e => (hsame i e).symm.trans hwi) hov how (by omega)
                   exact ⟨i + 1, A2, w', by omega, by rw [onK_succ, hF]; simpa using hJ, hw', hsame, rfl, sgE rfl rfl⟩)
                | (obtain rfl : xb = true := by simp_all
                   refine ⟨i + 1, xa, w'.set n i, by omega, ?_, by simp [hw'], fun j hj => by rw [List.getElem?_set_ne (Ne.symm hj)]; exact hsame j hj, rfl, sgE rfl ?_⟩
                   · rw [hK, List.length_append, ← Nat.add_assoc]; exact hX
                   · rw [List.set_set, set_self hov])
          · try simp only [decide_eq_true_eq, decide_eq_false_iff_not, Int.not_lt, Int.not_le, Bool.not_eq_eq_eq_not, Bool.not_true, Bool.not_false, Bool.and_eq_true, Bool.and_eq_false_iff, Bool.or_eq_true, Bool.or_eq_false_iff] at hb7
            try rw [eqI] at hb7
            refine x0 (k := ?_)
            refine x0 (k := ?_)
            refine w0 (k := ?_)
            refine w0 (k := ?_)
            refine x0 (k := ?_)
            refine x0 (k := ?_)
            refine x0 (k := ?_)
            refine w0 (k := ?_)
            refine v0 (k := ?_)
            refine nil0 ?_
            repeat refine gwp_seq ?_
            refine cF (k := ?_)
            repeat refine gwp_seq ?_
            refine gwp_skip ?_
            refine cl [1, 2, 3, 4, 5, 6, 9, 10, 11, 43, 44] (k := ?_)
            repeat refine gwp_seq ?_
            refine gwp_region ?_
            refine v0 (k := ?_)
            refine v0 (k := ?_)
            refine v0 (k := ?_)
            refine v0 (k := ?_)
            refine v0 (k := ?_)
            refine v0 (k := ?_)
            refine v1 (hc := by (first | exact True.intro | (simp only [inI]; omega) | (simp [P.size, nt, wP, all_int, allOne_p, goods_p, allOne, goods, good, G.one, P.one] <;> first | omega | assumption | simp_all))) (k := ?_)
            refine s1 (hc := by (first | exact True.intro | (simp only [inI]; omega) | (simp [P.size, nt, wP, all_int, allOne_p, goods_p, allOne, goods, good, G.one, P.one] <;> first | omega | assumption | simp_all))) (k := ?_)
            refine v1 (hc := by (first | exact True.intro | (simp only [inI]; omega) | (simp [P.size, nt, wP, all_int, allOne_p, goods_p, allOne, goods, good, G.one, P.one] <;> first | omega | assumption | simp_all))) (k := ?_)
            refine s1 (hc := by (first | exact True.intro | (simp only [inI]; omega) | (simp [P.size, nt, wP, all_int, allOne_p, goods_p, allOne, goods, good, G.one, P.one] <;> first | omega | assumption | simp_all))) (k := ?_)
            refine nil0 ?_
            refine cl [1, 2, 3, 4, 5, 6, 9, 10, 43, 44] (k := ?_)
            repeat refine gwp_seq ?_
            have hset := set_other (x := (i : Int)) (hw'.trans hw.symm) hsame
            have hwi2 : i ≠ n → w[i]? = some wi := fun e => (hsame i e).symm.trans hwi
            have hok : stepOk s w sz n i = true := stepOk_T hwi2 hov how (by omega)
            have hseg2 := seg_child hseg (by omega) hok
            simp only [oldS, getD_of hov, getD_of how, ← hset] at hseg2
            have ih2 := ih d (by omega) (n + 1) (k + (onK s d w sz n i).length) (w'.set n i) (sz.set i (max (if i = n then 0 else ov) ow)) A2 (by omega) (by simp [hw']) (by simp [hsz]) (fun j x hj hx => by
              rw [List.getElem?_set_ne (by omega)] at hx
              exact hz j x (by omega) hx) hseg2 hJ
            rw [show ((n + 1 : Nat) : Int) = (n : Int) + 1 by omega] at ih2
            have hK := onK_succ s d w sz n i
            rw [if_pos hok, ← hset] at hK
            simp only [oldS, getD_of hov, getD_of how] at hK
            first
            | (have e : i = n := by omega
               rw [if_pos e] at ih2 hK
               have hov0 : ov = 0 := hz i ov (by omega) hov
               subst hov0
               clear e)
            | (have e : ¬ i = n := by omega
               rw [if_neg e] at ih2 hK)
            clear hset
            refine gwp_region ?_
            refine v0 (k := ?_)
            refine v0 (k := ?_)
            refine v0 (k := ?_)
            refine v1 (hc := by (first | exact True.intro | (simp only [inI]; omega) | (simp [P.size, nt, wP, all_int, allOne_p, goods_p, allOne, goods, good, G.one, P.one] <;> first | omega | assumption | simp_all))) (k := ?_)
            refine on0 [(0, 0), (1, 1), (2, 2)] [] [0, 0, 0, 0, 0, 0] none (X := Bool × E.α) (spec := ih2) (hent := ent76) (k := fun x hX => ?_)
            obtain ⟨xb, xa⟩ := x
            simp only at hX
            refine v0 (k := ?_)
            refine nil0 ?_
            refine cl [1, 2, 3, 4, 5, 6, 9, 10, 12, 43, 44] (k := ?_)
            repeat refine gwp_seq ?_
            refine gwp_region ?_
            refine v0 (k := ?_)
            refine v0 (k := ?_)
            refine v1 (hc := by (first | exact True.intro | (simp only [inI]; omega) | (simp [P.size, nt, wP, all_int, allOne_p, goods_p, allOne, goods, good, G.one, P.one] <;> first | omega | assumption | simp_all))) (k := ?_)
            refine s1 (hc := by (first | exact True.intro | (simp only [inI]; omega) | (simp [P.size, nt, wP, all_int, allOne_p, goods_p, allOne, goods, good, G.one, P.one] <;> first | omega | assumption | simp_all))) (k := ?_)
            refine nil0 ?_
            refine cl [1, 2, 3, 4, 5, 6, 12, 43, 44] (k := ?_)
            repeat refine gwp_seq ?_
            refine gwp_region ?_
            refine v0 (k := ?_)
            refine v0 (k := ?_)
            refine nil0 ?_
            repeat refine gwp_seq ?_
            refine cB (k1 := fun hb12 => ?_) (k0 := fun hb12 => ?_)
            · try simp only [decide_eq_true_eq, decide_eq_false_iff_not, Int.not_lt, Int.not_le, Bool.not_eq_eq_eq_not, Bool.not_true, Bool.not_false, Bool.and_eq_true, Bool.and_eq_false_iff, Bool.or_eq_true, Bool.or_eq_false_iff] at hb12
              try rw [eqI] at hb12
              repeat refine gwp_seq ?_
              refine gwp_region ?_
              refine v0 (k := ?_)
              refine nil0 ?_
              repeat refine gwp_seq ?_
              refine gwp_ret ?_
              repeat (first | refine gthen_ret ?_ | refine gblock_ret ?_ | refine gnoGoto_ret ?_)
              refine fin_ret ?_
              refine fh [0, 1, 2] (hR := ?_)
              first
              | (have hin : inL s w n = false := by simp [inL]; omega
                 exact ⟨(true, A), by simpa [onW, hin] using hA, rfl⟩)
              | (have hin : inL s w n = true := by simp [inL]; omega
                 refine ⟨(b, A3), ?_, rfl⟩
                 cases b
                 · exact hy2
                 · simpa [onW, hin] using hy2)
              | (obtain rfl : xb = false := by simp_all
                 exact ⟨(false, xa), hX, by rw [List.set_set, set_self hov]⟩)
              | (have hin : i = n + 1 := by omega
                 subst hin
                 rw [onK_all] at hJ
                 exact ⟨(true, A2), hJ, rfl⟩)
            · try simp only [decide_eq_true_eq, decide_eq_false_iff_not, Int.not_lt, Int.not_le, Bool.not_eq_eq_eq_not, Bool.not_true, Bool.not_false, Bool.and_eq_true, Bool.and_eq_false_iff, Bool.or_eq_true, Bool.or_eq_false_iff] at hb12
              try rw [eqI] at hb12
              repeat refine gwp_seq ?_
              refine gwp_skip ?_
              refine cl [1, 2, 3, 4, 5, 6, 43, 44] (k := ?_)
              repeat refine gwp_seq ?_
              refine gwp_region ?_
              refine v1 (hc := by (first | exact True.intro | (simp only [inI]; omega) | (simp [P.size, nt, wP, all_int, allOne_p, goods_p, allOne, goods, good, G.one, P.one] <;> first | omega | assumption | simp_all))) (k := ?_)
              refine v0 (k := ?_)
              refine nil0 ?_
              refine lend [1, 2, 3, 4, 5, 6, 43, 44] (h := ?_) (hV := ?_) (n' := n + 1 - (i + 1))
              · omega
              first
              | (have hF := stepOk_F (fun e => (hsame i e).symm.trans hwi) hov how (by omega)
                 exact ⟨i + 1, A2, w', by omega, by rw [onK_succ, hF]; simpa using hJ, hw', hsame, rfl, sgE rfl rfl⟩)
              | (obtain rfl : xb = true := by simp_all
                 refine ⟨i + 1, xa, w'.set n i, by omega, ?_, by simp [hw'], fun j hj => by rw [List.getElem?_set_ne (Ne.symm hj)]; exact hsame j hj, rfl, sgE rfl ?_⟩
                 · rw [hK, List.length_append, ← Nat.add_assoc]; exact hX
                 · rw [List.set_set, set_self hov])
    · try simp only [decide_eq_true_eq, decide_eq_false_iff_not, Int.not_lt, Int.not_le, Bool.not_eq_eq_eq_not, Bool.not_true, Bool.not_false, Bool.and_eq_true, Bool.and_eq_false_iff, Bool.or_eq_true, Bool.or_eq_false_iff] at hb3
      try rw [eqI] at hb3
      repeat refine gwp_seq ?_
      refine gwp_exit ?_
      repeat (first | refine gthen_exit ?_ | refine gnoGoto_exit ?_ | refine gblock_here ?_ | refine gblock_out rfl ?_)
      refine cl [3, 4, 5] (k := ?_)
      repeat refine gwp_seq ?_
      refine gwp_region ?_
      refine v0 (k := ?_)
      refine nil0 ?_
      repeat refine gwp_seq ?_
      refine gwp_ret ?_
      repeat (first | refine gthen_ret ?_ | refine gblock_ret ?_ | refine gnoGoto_ret ?_)
      refine fin_ret ?_
      refine fh [0, 1, 2] (hR := ?_)
      first
      | (have hin : inL s w n = false := by simp [inL]; omega
         exact ⟨(true, A), by simpa [onW, hin] using hA, rfl⟩)
      | (have hin : inL s w n = true := by simp [inL]; omega
         refine ⟨(b, A3), ?_, rfl⟩
         cases b
         · exact hy2
         · simpa [onW, hin] using hy2)
      | (obtain rfl : xb = false := by simp_all
         exact ⟨(false, xa), hX, by rw [List.set_set, set_self hov]⟩)
      | (have hin : i = n + 1 := by omega
         subst hin
         rw [onK_all] at hJ
         exact ⟨(true, A2), hJ, rfl⟩)
end Go.Proofs.Ytedihdnkalmoiaa

/- The program: the ways in which notes are right. -/
namespace Go.Proofs.Ytedihdnkalmoiaa
open Go.Gh
set_option maxRecDepth 100000
set_option maxHeartbeats 4000000
theorem ent70 : Enters Try.prog 70 := Enters.mk Try.func70 (by kernel_rfl) rfl
theorem it_right (s : Sh) (set : Nat) (ws : List (List Int)) (hset : set < 2 ^ 64) (hnl : s.notes.length ≤ 12) (hwl : ws.length ≤ 1099511627776) (hws : ∀ w ∈ ws, w.length = 8) (hnv : ∀ (k : Nat) (n : Nt), s.notes[k]? = some n → 0 ≤ n.a ∧ n.a < 8 ∧ 0 ≤ n.b ∧ n.b < 8 ∧ n.a ≠ n.b) :
    IterSpec Try.prog 70 [.abs, .ptr [.ptr [.p (.int .i64 s.num), .p (.list (s.sizes.map (.int .i64))), .p (.int .i64 s.lo), .p (.int .i64 s.hi), .p (.list (s.notes.map pn)), .p (.list (s.notes.map nt)), .p (.list (ws.map wP))]], .ptr [.p (.int .u64 set)]] ((ws.filter (rightW s set)).map fun w => [wP w]) := by
  intro E J Z hcan hy A hA
  refine spec_of Try.func70 (rfl : Try.f70.body = some _) (Nat.le_of_ble_eq_true rfl) (fun id h => ?_) (fun j id h => ?_) ?_
  · exact wf1x h
  · exact wf2x h
  intro C hN hL
  replace hN : C.N = 42 := hN
  simp only [Gh.num, List.map_cons, List.map_nil, Nat.reduceAdd]
  have hwP : ∀ w : List Int, wP w = P.agg (w.map (P.int .i64)) := fun _ => rfl
  have hnt1 : ∀ a b, nt ⟨a, b, true⟩ = P.iface 75 (.agg [.int .i64 a, .int .i64 b]) := fun _ _ => rfl
  have hnt0 : ∀ a b, nt ⟨a, b, false⟩ = P.iface 74 (.agg [.int .i64 a, .int .i64 b]) := fun _ _ => rfl
  repeat refine gwp_seq ?_
  refine gwp_scope ?_
  repeat refine gwp_seq ?_
  refine gwp_label ?_
  repeat refine gwp_seq ?_
  refine gwp_region ?_
  refine v0 (k := ?_)
  refine v0 (k := ?_)
  refine v0 (k := ?_)
  refine v0 (k := ?_)
  refine v0 (k := ?_)
  refine v0 (k := ?_)
  refine nil0 ?_
  refine cl [0, 1, 2, 11, 12, 13] (k := ?_)
  repeat refine gwp_seq ?_
  refine gwp_block ?_
  repeat refine gwp_seq ?_
  refine gc_loop (fun mz σ => ∃ (k : Nat) (A2 : E.α), (k ≤ ws.length) ∧ (J ((ws.take k).filter (rightW s set)).length A2) ∧ mz = ws.length - k ∧ σ = (sg [(0, .abs), (1, .ptr [.ptr [.p (.int .i64 s.num), .p (.list (s.sizes.map (.int .i64))), .p (.int .i64 s.lo), .p (.int .i64 s.hi), .p (.list (s.notes.map pn)), .p (.list (s.notes.map nt)), .p (.list (ws.map wP))]]), (2, .ptr [.p (.int .u64 set)]), (11, .p (.list (ws.map wP))), (12, .p (.int .i64 ws.length)), (13, .p (.int .i64 k))] [] A2 [] : Sg E)) ?_ (fun mz σ hI => ?_)
  · refine lbeg [0, 1, 2, 11, 12, 13] (hV := ?_)
    exact ⟨_, 0, A, by omega, by simpa using hA, rfl, rfl⟩
  obtain ⟨k, A2, hk, hJ, hn, rfl⟩ := hI
  repeat refine gwp_seq ?_
  refine gwp_region ?_
  refine v0 (k := ?_)
  refine nil0 ?_
  repeat refine gwp_seq ?_
  refine cB (k1 := fun hb1 => ?_) (k0 := fun hb1 => ?_)
  · try simp only [decide_eq_true_eq, decide_eq_false_iff_not, Int.not_lt, Int.not_le, Bool.not_eq_eq_eq_not, Bool.not_true, Bool.not_false, Bool.and_eq_true, Bool.and_eq_false_iff, Bool.or_eq_true, Bool.or_eq_false_iff] at hb1
    repeat refine gwp_seq ?_
    refine gwp_skip ?_
    refine cl [0, 1, 2, 11, 12, 13] (k := ?_)
    repeat refine gwp_seq ?_
    refine gwp_block ?_
    repeat refine gwp_seq ?_
    obtain ⟨w, hx⟩ := getE (l := ws) (k := k) (by omega)
    have hw8 := hws w (List.mem_of_getElem? hx)
    refine gwp_region ?_
    refine v1 (hc := by (first | exact True.intro | (simp only [inI]; omega) | (simp [P.size, nt, wP] <;> first | omega | assumption | simp_all))) (k := ?_)
    refine v0 (k := ?_)
    refine n1 150 false (hc := by (first | exact True.intro | (simp only [inI]; omega) | (simp [P.size, nt, wP] <;> first | omega | assumption | simp_all))) (k := ?_)
    refine s1 (hc := by (first | exact True.intro | (simp only [inI]; omega) | (simp [P.size, nt, wP] <;> first | omega | assumption | simp_all))) (k := ?_)
    refine nil0 ?_
    refine cl [0, 1, 2, 5, 11, 12, 13] (k := ?_)
    repeat refine gwp_seq ?_
    refine gwp_region ?_
    refine v0 (k := ?_)
    refine v0 (k := ?_)
    refine v0 (k := ?_)
    refine v0 (k := ?_)
    refine v0 (k := ?_)
    refine v0 (k := ?_)
    refine nil0 ?_
    refine cl [0, 1, 2, 5, 11, 12, 13, 20, 21, 22] (k := ?_)
    repeat refine gwp_seq ?_
    refine gwp_block ?_
    repeat refine gwp_seq ?_
    refine gc_loop (fun mz σ => ∃ i : Nat, (i ≤ s.notes.length) ∧ (∀ j, j < i → noteOk s set w j = true) ∧ mz = s.notes.length - i ∧ σ = (sg [(0, .abs), (1, .ptr [.ptr [.p (.int .i64 s.num), .p (.list (s.sizes.map (.int .i64))), .p (.int .i64 s.lo), .p (.int .i64 s.hi), .p (.list (s.notes.map pn)), .p (.list (s.notes.map nt)), .p (.list (ws.map wP))]]), (2, .ptr [.p (.int .u64 set)]), (5, .ref 150 0), (11, .p (.list (ws.map wP))), (12, .p (.int .i64 ws.length)), (13, .p (.int .i64 k)), (20, .p (.list (s.notes.map nt))), (21, .p (.int .i64 s.notes.length)), (22, .p (.int .i64 i))] [(150, .cells ((w.map (.int .i64)).map .p) 0)] A2 [] : Sg E)) ?_ (fun mz σ hI => ?_)
    · refine lbeg [0, 1, 2, 5, 11, 12, 13, 20, 21, 22] (hV := ?_)
      exact ⟨_, 0, by omega, fun j hj => by omega, rfl, rfl⟩
    obtain ⟨i, hi, hr, hn2, rfl⟩ := hI
    repeat refine gwp_seq ?_
    refine gwp_region ?_
    refine v0 (k := ?_)
    refine nil0 ?_
    repeat refine gwp_seq ?_
    refine cB (k1 := fun hb2 => ?_) (k0 := fun hb2 => ?_)
    · try simp only [decide_eq_true_eq, decide_eq_false_iff_not, Int.not_lt, Int.not_le, Bool.not_eq_eq_eq_not, Bool.not_true, Bool.not_false, Bool.and_eq_true, Bool.and_eq_false_iff, Bool.or_eq_true, Bool.or_eq_false_iff] at hb2
      repeat refine gwp_seq ?_
      refine gwp_skip ?_
      refine cl [0, 1, 2, 5, 11, 12, 13, 20, 21, 22] (k := ?_)
      repeat refine gwp_seq ?_
      refine gwp_block ?_
      repeat refine gwp_seq ?_
      obtain ⟨z, hz⟩ := getE (l := s.notes) (k := i) (by omega)
      obtain ⟨za, zb, zs⟩ := z
      obtain ⟨z1, z2, z3, z4, z5⟩ := hnv _ _ hz
      simp only at z1 z2 z3 z4 z5
      obtain ⟨xa, hxa⟩ := getI (l := w) (i := za) z1 (by omega)
      obtain ⟨xb, hxb⟩ := getI (l := w) (i := zb) z3 (by omega)
      cases zs
      · repeat refine gwp_seq ?_
        refine gwp_region ?_
        refine v0 (k := ?_)
        refine v1 (hc := by (first | exact True.intro | (simp only [inI]; omega) | (simp [P.size, nt, wP] <;> first | omega | assumption | simp_all))) (k := ?_)
        refine v0 (k := ?_)
        refine v0 (k := ?_)
        refine v0 (k := ?_)
        refine nil0 ?_
        refine cl [0, 1, 2, 5, 6, 7, 11, 12, 13, 20, 21, 22] (k := ?_)
        repeat refine gwp_seq ?_
        refine gwp_region ?_
        refine v0 (k := ?_)
        refine v0 (k := ?_)
        refine pc0 (spec := s_has set i (by omega) (by omega)) (hent := ent71) (k := ?_)
        refine v0 (k := ?_)
        refine b0 (k1 := fun hb3 => ?_) (k0 := fun hb3 => ?_)
        · try simp only [decide_eq_true_eq, decide_eq_false_iff_not, Int.not_lt, Int.not_le, Bool.not_eq_eq_eq_not, Bool.not_true, Bool.not_false, Bool.and_eq_true, Bool.and_eq_false_iff, Bool.or_eq_true, Bool.or_eq_false_iff] at hb3
          refine w0 (k := ?_)
          refine w0 (k := ?_)
          refine pcw (spec := s_not za zb xa xb w hw8 (by omega) (by omega) hxa hxb) (hent := ent47) (k := ?_)
          refine w0 (k := ?_)
          refine v0 (k := ?_)
          refine nil0 ?_
          repeat refine gwp_seq ?_
          refine cB (k1 := fun hb4 => ?_) (k0 := fun hb4 => ?_)
          · try simp only [decide_eq_true_eq, decide_eq_false_iff_not, Int.not_lt, Int.not_le, Bool.not_eq_eq_eq_not, Bool.not_true, Bool.not_false, Bool.and_eq_true, Bool.and_eq_false_iff, Bool.or_eq_true, Bool.or_eq_false_iff] at hb4
            repeat refine gwp_seq ?_
            refine gwp_exit ?_
            repeat (first | refine gthen_exit ?_ | refine gnoGoto_exit ?_ | refine gblock_here ?_ | refine gblock_out rfl ?_)
            refine cl [0, 1, 2, 11, 12, 13] (k := ?_)
            repeat refine gwp_seq ?_
            refine gwp_region ?_
            refine v1 (hc := by (first | exact True.intro | (simp only [inI]; omega) | (simp [P.size, nt, wP] <;> first | omega | assumption | simp_all))) (k := ?_)
            refine v0 (k := ?_)
            refine nil0 ?_
            refine lend [0, 1, 2, 11, 12, 13] (h := ?_) (hV := ?_) (n' := ws.length - (k + 1))
            · omega
            first
            | (obtain rfl : b = true := by simp_all
               exact ⟨k + 1, A3, by omega, by rw [take_filter hx, if_pos hr]; exact hy2, rfl, rfl⟩)
            | (have hr2 : rightW s set w = false := right_not (i := i) (by omega) (by rw [noteOk_val hz hxa hxb (by assumption)]; simp_all)
               exact ⟨k + 1, A2, by omega, by rw [take_filter hx, if_neg (by rw [hr2]; simp)]; exact hJ, rfl, rfl⟩)
          · try simp only [decide_eq_true_eq, decide_eq_false_iff_not, Int.not_lt, Int.not_le, Bool.not_eq_eq_eq_not, Bool.not_true, Bool.not_false, Bool.and_eq_true, Bool.and_eq_false_iff, Bool.or_eq_true, Bool.or_eq_false_iff] at hb4
            repeat refine gwp_seq ?_
            refine gwp_skip ?_
            refine cl [0, 1, 2, 5, 11, 12, 13, 20, 21, 22] (k := ?_)
            repeat refine gwp_seq ?_
            refine gwp_region ?_
            refine v1 (hc := by (first | exact True.intro | (simp only [inI]; omega) | (simp [P.size, nt, wP] <;> first | omega | assumption | simp_all))) (k := ?_)
            refine v0 (k := ?_)
            refine nil0 ?_
            refine lend [0, 1, 2, 5, 11, 12, 13, 20, 21, 22] (h := ?_) (hV := ?_) (n' := s.notes.length - (i + 1))
            · omega
            exact ⟨i + 1, by omega, fun j hj => by
                by_cases e : j = i
                · subst e; first | exact noteOk_out hz (by assumption) | (rw [noteOk_val hz hxa hxb (by assumption)]; simp_all; done)
                · exact hr j (by omega), rfl, rfl⟩
        · try simp only [decide_eq_true_eq, decide_eq_false_iff_not, Int.not_lt, Int.not_le, Bool.not_eq_eq_eq_not, Bool.not_true, Bool.not_false, Bool.and_eq_true, Bool.and_eq_false_iff, Bool.or_eq_true, Bool.or_eq_false_iff] at hb3
          refine x0 (k := ?_)
          refine x0 (k := ?_)
          refine x0 (k := ?_)
          refine x0 (k := ?_)
          refine v0 (k := ?_)
          refine nil0 ?_
          repeat refine gwp_seq ?_
          refine cF (k := ?_)
          repeat refine gwp_seq ?_
          refine gwp_skip ?_
          refine cl [0, 1, 2, 5, 11, 12, 13, 20, 21, 22] (k := ?_)
          repeat refine gwp_seq ?_
          refine gwp_region ?_
          refine v1 (hc := by (first | exact True.intro | (simp only [inI]; omega) | (simp [P.size, nt, wP] <;> first | omega | assumption | simp_all))) (k := ?_)
          refine v0 (k := ?_)
          refine nil0 ?_
          refine lend [0, 1, 2, 5, 11, 12, 13, 20, 21, 22] (h := ?_) (hV := ?_) (n' := s.notes.length - (i + 1))
          · omega
          exact ⟨i + 1, by omega, fun j hj => by
              by_cases e : j = i
              · subst e; first | exact noteOk_out hz (by assumption) | (rw [noteOk_val hz hxa hxb (by assumption)]; simp_all; done)
              · exact hr j (by omega), rfl, rfl⟩
      · repeat refine gwp_seq ?_
        refine gwp_region ?_
        refine v0 (k := ?_)
        refine v1 (hc := by (first | exact True.intro | (simp only [inI]; omega) | (simp [P.size, nt, wP] <;> first | omega | assumption | simp_all))) (k := ?_)
        refine v0 (k := ?_)
        refine v0 (k := ?_)
        refine v0 (k := ?_)
        refine nil0 ?_
        refine cl [0, 1, 2, 5, 6, 7, 11, 12, 13, 20, 21, 22] (k := ?_)
        repeat refine gwp_seq ?_
        refine gwp_region ?_
        refine v0 (k := ?_)
        refine v0 (k := ?_)
        refine pc0 (spec := s_has set i (by omega) (by omega)) (hent := ent71) (k := ?_)
        refine v0 (k := ?_)
        refine b0 (k1 := fun hb5 => ?_) (k0 := fun hb5 => ?_)
        · try simp only [decide_eq_true_eq, decide_eq_false_iff_not, Int.not_lt, Int.not_le, Bool.not_eq_eq_eq_not, Bool.not_true, Bool.not_false, Bool.and_eq_true, Bool.and_eq_false_iff, Bool.or_eq_true, Bool.or_eq_false_iff] at hb5
          refine w0 (k := ?_)
          refine w0 (k := ?_)
          refine pcw (spec := s_same za zb xa xb w hw8 (by omega) (by omega) hxa hxb) (hent := ent48) (k := ?_)
          refine w0 (k := ?_)
          refine v0 (k := ?_)
          refine nil0 ?_
          repeat refine gwp_seq ?_
          refine cB (k1 := fun hb6 => ?_) (k0 := fun hb6 => ?_)
          · try simp only [decide_eq_true_eq, decide_eq_false_iff_not, Int.not_lt, Int.not_le, Bool.not_eq_eq_eq_not, Bool.not_true, Bool.not_false, Bool.and_eq_true, Bool.and_eq_false_iff, Bool.or_eq_true, Bool.or_eq_false_iff] at hb6
            repeat refine gwp_seq ?_
            refine gwp_exit ?_
            repeat (first | refine gthen_exit ?_ | refine gnoGoto_exit ?_ | refine gblock_here ?_ | refine gblock_out rfl ?_)
            refine cl [0, 1, 2, 11, 12, 13] (k := ?_)
            repeat refine gwp_seq ?_
            refine gwp_region ?_
            refine v1 (hc := by (first | exact True.intro | (simp only [inI]; omega) | (simp [P.size, nt, wP] <;> first | omega | assumption | simp_all))) (k := ?_)
            refine v0 (k := ?_)
            refine nil0 ?_
            refine lend [0, 1, 2, 11, 12, 13] (h := ?_) (hV := ?_) (n' := ws.length - (k + 1))
            · omega
            first
            | (obtain rfl : b = true := by simp_all
               exact ⟨k + 1, A3, by omega, by rw [take_filter hx, if_pos hr]; exact hy2, rfl, rfl⟩)
            | (have hr2 : rightW s set w = false := right_not (i := i) (by omega) (by rw [noteOk_val hz hxa hxb (by assumption)]; simp_all)
               exact ⟨k + 1, A2, by omega, by rw [take_filter hx, if_neg (by rw [hr2]; simp)]; exact hJ, rfl, rfl⟩)
          · try simp only [decide_eq_true_eq, decide_eq_false_iff_not, Int.not_lt, Int.not_le, Bool.not_eq_eq_eq_not, Bool.not_true, Bool.not_false, Bool.and_eq_true, Bool.and_eq_false_iff, Bool.or_eq_true, Bool.or_eq_false_iff] at hb6
            repeat refine gwp_seq ?_
            refine gwp_skip ?_
            refine cl [0, 1, 2, 5, 11, 12, 13, 20, 21, 22] (k := ?_)
            repeat refine gwp_seq ?_
            refine gwp_region ?_
            refine v1 (hc := by (first | exact True.intro | (simp only [inI]; omega) | (simp [P.size, nt, wP] <;> first | omega | assumption | simp_all))) (k := ?_)
            refine v0 (k := ?_)
            refine nil0 ?_
            refine lend [0, 1, 2, 5, 11, 12, 13, 20, 21, 22] (h := ?_) (hV := ?_) (n' := s.notes.length - (i + 1))
            · omega
            exact ⟨i + 1, by omega, fun j hj => by
                by_cases e : j = i
                · subst e; first | exact noteOk_out hz (by assumption) | (rw [noteOk_val hz hxa hxb (by assumption)]; simp_all; done)
                · exact hr j (by omega), rfl, rfl⟩
        · try simp only [decide_eq_true_eq, decide_eq_false_iff_not, Int.not_lt, Int.not_le, Bool.not_eq_eq_eq_not, Bool.not_true, Bool.not_false, Bool.and_eq_true, Bool.and_eq_false_iff, Bool.or_eq_true, Bool.or_eq_false_iff] at hb5
          refine x0 (k := ?_)
          refine x0 (k := ?_)
          refine x0 (k := ?_)
          refine x0 (k := ?_)
          refine v0 (k := ?_)
          refine nil0 ?_
          repeat refine gwp_seq ?_
          refine cF (k := ?_)
          repeat refine gwp_seq ?_
          refine gwp_skip ?_
          refine cl [0, 1, 2, 5, 11, 12, 13, 20, 21, 22] (k := ?_)
          repeat refine gwp_seq ?_
          refine gwp_region ?_
          refine v1 (hc := by (first | exact True.intro | (simp only [inI]; omega) | (simp [P.size, nt, wP] <;> first | omega | assumption | simp_all))) (k := ?_)
          refine v0 (k := ?_)
          refine nil0 ?_
          refine lend [0, 1, 2, 5, 11, 12, 13, 20, 21, 22] (h := ?_) (hV := ?_) (n' := s.notes.length - (i + 1))
          · omega
          exact ⟨i + 1, by omega, fun j hj => by
              by_cases e : j = i
              · subst e; first | exact noteOk_out hz (by assumption) | (rw [noteOk_val hz hxa hxb (by assumption)]; simp_all; done)
              · exact hr j (by omega), rfl, rfl⟩
    · try simp only [decide_eq_true_eq, decide_eq_false_iff_not, Int.not_lt, Int.not_le, Bool.not_eq_eq_eq_not, Bool.not_true, Bool.not_false, Bool.and_eq_true, Bool.and_eq_false_iff, Bool.or_eq_true, Bool.or_eq_false_iff] at hb2
      repeat refine gwp_seq ?_
      refine gwp_exit ?_
      repeat (first | refine gthen_exit ?_ | refine gnoGoto_exit ?_ | refine gblock_here ?_ | refine gblock_out rfl ?_)
      refine cl [0, 1, 2, 5, 11, 12, 13] (k := ?_)
      repeat refine gwp_seq ?_
      have hr : rightW s set w = true := right_all (fun j hj => hr j (by omega))
      refine gwp_region ?_
      refine v0 (k := ?_)
      refine v0 (k := ?_)
      refine y0 (xs := [wP w]) (hcan := ?_) (k := fun b A3 hY => ?_) (kp := fun p A3 hY => ?_)
      · exact hcan _ _ _ hJ (by rw [List.getElem?_map, filter_at hx hr]; rfl)
      · have hy2 := hy _ _ _ _ _ hJ (by rw [List.getElem?_map, filter_at hx hr]; rfl) hY
        refine v0 (k := ?_)
        refine nil0 ?_
        repeat refine gwp_seq ?_
        refine cB (k1 := fun hb7 => ?_) (k0 := fun hb7 => ?_)
        · try simp only [decide_eq_true_eq, decide_eq_false_iff_not, Int.not_lt, Int.not_le, Bool.not_eq_eq_eq_not, Bool.not_true, Bool.not_false, Bool.and_eq_true, Bool.and_eq_false_iff, Bool.or_eq_true, Bool.or_eq_false_iff] at hb7
          repeat refine gwp_seq ?_
          refine gwp_ret ?_
          repeat (first | refine gthen_ret ?_ | refine gblock_ret ?_ | refine gnoGoto_ret ?_)
          refine fin_ret ?_
          refine fp0 (hR := ?_)
          first
          | (obtain rfl : b = false := by simp_all
             exact ⟨_, _, _, rfl, .inr hy2⟩)
          | (obtain rfl : k = ws.length := by omega
             rw [List.take_length] at hJ
             exact ⟨_, _, _, rfl, .inl (by rw [List.length_map]; exact hJ)⟩)
        · try simp only [decide_eq_true_eq, decide_eq_false_iff_not, Int.not_lt, Int.not_le, Bool.not_eq_eq_eq_not, Bool.not_true, Bool.not_false, Bool.and_eq_true, Bool.and_eq_false_iff, Bool.or_eq_true, Bool.or_eq_false_iff] at hb7
          repeat refine gwp_seq ?_
          refine gwp_skip ?_
          refine cl [0, 1, 2, 11, 12, 13] (k := ?_)
          repeat refine gwp_seq ?_
          refine gwp_region ?_
          refine v1 (hc := by (first | exact True.intro | (simp only [inI]; omega) | (simp [P.size, nt, wP] <;> first | omega | assumption | simp_all))) (k := ?_)
          refine v0 (k := ?_)
          refine nil0 ?_
          refine lend [0, 1, 2, 11, 12, 13] (h := ?_) (hV := ?_) (n' := ws.length - (k + 1))
          · omega
          first
          | (obtain rfl : b = true := by simp_all
             exact ⟨k + 1, A3, by omega, by rw [take_filter hx, if_pos hr]; exact hy2, rfl, rfl⟩)
          | (have hr2 : rightW s set w = false := right_not (i := i) (by omega) (by rw [noteOk_val hz hxa hxb (by assumption)]; simp_all)
             exact ⟨k + 1, A2, by omega, by rw [take_filter hx, if_neg (by rw [hr2]; simp)]; exact hJ, rfl, rfl⟩)
      · exact (hy _ _ _ _ _ hJ (by rw [List.getElem?_map, filter_at hx hr]; rfl) hY).elim
  · try simp only [decide_eq_true_eq, decide_eq_false_iff_not, Int.not_lt, Int.not_le, Bool.not_eq_eq_eq_not, Bool.not_true, Bool.not_false, Bool.and_eq_true, Bool.and_eq_false_iff, Bool.or_eq_true, Bool.or_eq_false_iff] at hb1
    repeat refine gwp_seq ?_
    refine gwp_exit ?_
    repeat (first | refine gthen_exit ?_ | refine gnoGoto_exit ?_ | refine gblock_here ?_ | refine gblock_out rfl ?_)
    try refine gnoGoto_normal ?_
    refine fin_normal ?_
    refine fp0 (hR := ?_)
    first
    | (obtain rfl : b = false := by simp_all
       exact ⟨_, _, _, rfl, .inr hy2⟩)
    | (obtain rfl : k = ws.length := by omega
       rw [List.take_length] at hJ
       exact ⟨_, _, _, rfl, .inl (by rw [List.length_map]; exact hJ)⟩)
end Go.Proofs.Ytedihdnkalmoiaa

/- The map of sets that were asked before. -/
namespace Go.Proofs.Ytedihdnkalmoiaa
open Go.Gh

theorem geq_set (a b : Int) : geq Try.prog 6 81 (.int .u64 a) (.int .u64 b) = some (decide (a = b)) := by
  have h : Try.prog.underlying 81 = some (.int .u64) := by kernel_rfl
  simp only [geq, h, if_true]
/-- Sets and what was found of them. -/
def mE (es : List (Nat × Bool)) : List (P × P) := es.map fun e => (.int .u64 (e.1 : Int), .bool e.2)
def seen (es : List (Nat × Bool)) (n : Nat) : Option Bool := (es.find? fun e => e.1 == n).map (·.2)
theorem mE_get (n : Nat) : ∀ (es : List (Nat × Bool)), mapGet (geq Try.prog 6 81) (.int .u64 (n : Int)) (mE es) = (seen es n).map P.bool
  | [] => rfl
  | (k, b) :: es => by
    have ih := mE_get n es
    simp only [mE, List.map_cons, mapGet, geq_set] at ih ⊢
    by_cases e : k = n
    · subst e; simp [seen]
    · have e1 : ¬ (n : Int) = (k : Int) := by omega
      have e2 : (k == n) = false := by simpa using e
      rw [if_neg (by simp [e1]), ih]
      simp [seen, e2]
theorem mE_put (n : Nat) (b : Bool) : ∀ (es : List (Nat × Bool)), seen es n = none → mapPut (geq Try.prog 6 81) (.int .u64 (n : Int)) (.bool b) (mE es) = mE (es ++ [(n, b)])
  | [], _ => rfl
  | (k, c) :: es, h => by
    have hk : ¬ k = n := fun e => by subst e; simp [seen] at h
    have h2 : seen es n = none := by simpa [seen, hk] using h
    have ih := mE_put n b es h2
    have e1 : ¬ (n : Int) = (k : Int) := by omega
    simp only [mE, List.map_cons, List.cons_append, mapPut, geq_set] at ih ⊢
    rw [if_neg (by simp [e1]), ih]
theorem mE_ok (n : Nat) (es : List (Nat × Bool)) : keysOk (geq Try.prog 6 81) (.int .u64 (n : Int)) (mE es) := by
  refine ⟨by rw [geq_set]; rfl, fun x hx => ?_⟩
  obtain ⟨e, _, rfl⟩ := List.mem_map.1 hx
  simp only [geq_set, Option.isSome_some, true_and, Option.some.injEq, decide_eq_true_eq]
  intro h; rw [h]
def canB (s : Sh) (ws : List (List Int)) (set : Nat) : Bool := ws.any (rightW s set)
/-- What was found before is so. -/
def known (s : Sh) (ws : List (List Int)) (es : List (Nat × Bool)) : Prop := ∀ n b, seen es n = some b → b = canB s ws n
def canE (s : Sh) (ws : List (List Int)) (es : List (Nat × Bool)) (n : Nat) : List (Nat × Bool) := match seen es n with
  | some _ => es
  | none => es ++ [(n, canB s ws n)]
theorem known_can {s : Sh} {ws : List (List Int)} {es : List (Nat × Bool)} (h : known s ws es) (n : Nat) : known s ws (canE s ws es n) := fun k b hb => by
  unfold canE at hb
  split at hb
  · exact h k b hb
  · simp only [seen, List.find?_append] at hb
    cases hf : es.find? fun e => e.1 == k with
    | some x => rw [hf] at hb; exact h k b (by simpa [seen, hf] using hb)
    | none =>
      rw [hf] at hb
      by_cases e : n = k
      · subst e; simp at hb; exact hb.symm
      · simp [e] at hb
theorem canB_none {s : Sh} {ws : List (List Int)} {n : Nat} (h : (ws.filter (rightW s n)).length = 0) : canB s ws n = false := by
  have h : ws.filter (rightW s n) = [] := List.eq_nil_of_length_eq_zero h
  rw [List.filter_eq_nil_iff] at h
  simp only [canB, List.any_eq_false]
  exact h
theorem canB_some {s : Sh} {ws : List (List Int)} {n k : Nat} {x : List Int} (h : (ws.filter (rightW s n))[k]? = some x) : canB s ws n = true := by
  have := List.mem_filter.1 (List.mem_of_getElem? h)
  simp only [canB, List.any_eq_true]
  exact ⟨x, this.1, this.2⟩
end Go.Proofs.Ytedihdnkalmoiaa

/- The program: ways, what can be right, what is asked. -/
namespace Go.Proofs.Ytedihdnkalmoiaa
open Go.Gh
set_option maxRecDepth 100000
set_option maxHeartbeats 4000000
theorem ent75 : Enters Try.prog 75 := Enters.mk Try.func75 (by kernel_rfl) rfl
theorem it_all (s : Sh) (hv : s.valid = true) : IterSpec Try.prog 75 [.abs, .ptr [.ptr [.p (.int .i64 s.num), .p (.list (s.sizes.map (.int .i64))), .p (.int .i64 s.lo), .p (.int .i64 s.hi), .p (.list (s.notes.map pn))]]] ((onN s).map fun w => [wP w]) := by
  intro E J Z hcan hy A hA
  refine spec_of Try.func75 (rfl : Try.f75.body = some _) (Nat.le_of_ble_eq_true rfl) (fun id h => ?_) (fun j id h => ?_) ?_
  · exact wf1x h
  · exact wf2x h
  intro C hN hL
  replace hN : C.N = 9 := hN
  simp only [Gh.num, List.map_cons, List.map_nil, Nat.reduceAdd]
  have spec := s_on hcan hy s hv s.sizes.length 0 0 [0, 0, 0, 0, 0, 0, 0, 0] [0, 0, 0, 0, 0, 0, 0, 0] A (by omega) rfl rfl (fun j x _ h => by have := List.mem_of_getElem? h; simp at this; exact this) (fun j x h => by rw [Nat.zero_add, List.getElem?_map]; rw [show onN s = onW s s.sizes.length [0, 0, 0, 0, 0, 0, 0, 0] [0, 0, 0, 0, 0, 0, 0, 0] 0 from rfl, h]; rfl) hA
  simp only [List.map_cons, List.map_nil, Int.natCast_zero] at spec
  repeat refine gwp_seq ?_
  refine gwp_region ?_
  refine n1 120 false (hc := by (first | exact True.intro | (simp only [inI]; omega) | (simp [P.size, nt, wP, all_int, allOne_p, goods_p, allOne, goods, good, G.one, P.one] <;> first | omega | assumption | simp_all))) (k := ?_)
  refine nil0 ?_
  refine cl [1, 2] (k := ?_)
  repeat refine gwp_seq ?_
  refine gwp_region ?_
  refine n1 130 false (hc := by (first | exact True.intro | (simp only [inI]; omega) | (simp [P.size, nt, wP, all_int, allOne_p, goods_p, allOne, goods, good, G.one, P.one] <;> first | omega | assumption | simp_all))) (k := ?_)
  refine nil0 ?_
  refine cl [1, 2, 3] (k := ?_)
  repeat refine gwp_seq ?_
  refine gwp_region ?_
  refine n1 140 false (hc := by (first | exact True.intro | (simp only [inI]; omega) | (simp [P.size, nt, wP, all_int, allOne_p, goods_p, allOne, goods, good, G.one, P.one] <;> first | omega | assumption | simp_all))) (k := ?_)
  refine nil0 ?_
  refine cl [1, 2, 3, 4] (k := ?_)
  repeat refine gwp_seq ?_
  refine gwp_region ?_
  refine v0 (k := ?_)
  refine s1 (hc := by (first | exact True.intro | (simp only [inI]; omega) | (simp [P.size, nt, wP, all_int, allOne_p, goods_p, allOne, goods, good, G.one, P.one] <;> first | omega | assumption | simp_all))) (k := ?_)
  refine nil0 ?_
  refine cl [4] (k := ?_)
  repeat refine gwp_seq ?_
  refine gwp_region ?_
  refine v0 (k := ?_)
  refine v0 (k := ?_)
  refine on0 [(0, 120), (1, 130), (2, 140)] [] [0, 0, 0, 0, 0, 0] none (X := Bool × E.α) (spec := spec) (hent := ent76) (k := fun x hX => ?_)
  obtain ⟨xb, xa⟩ := x
  simp only at hX
  refine nil0 ?_
  try refine gnoGoto_normal ?_
  refine fin_normal ?_
  refine fp0 (hR := ?_)
  refine ⟨_, _, _, rfl, ?_⟩
  cases xb
  · exact .inr hX
  · left
    rw [Nat.zero_add] at hX
    rw [List.length_map]; exact hX
theorem ent69 : Enters Try.prog 69 := Enters.mk Try.func69 (by kernel_rfl) rfl
theorem s_all {E : Env Try.prog} {A : E.α} (s : Sh) : Gh.Spec E 69 [.ptr [.p (.int .i64 s.num), .p (.list (s.sizes.map (.int .i64))), .p (.int .i64 s.lo), .p (.int .i64 s.hi), .p (.list (s.notes.map pn))]] (mkHp []) A (fun y => y = .ok (.fn (.func 75) [] [.ptr [.ptr [.p (.int .i64 s.num), .p (.list (s.sizes.map (.int .i64))), .p (.int .i64 s.lo), .p (.int .i64 s.hi), .p (.list (s.notes.map pn))]]]) (mkHp []) A) := by
  refine spec_of Try.func69 (rfl : Try.f69.body = some _) (Nat.le_of_ble_eq_true rfl) (fun id h => ?_) (fun j id h => ?_) ?_
  · exact wf1x h
  · exact wf2x h
  intro C hN hL
  replace hN : C.N = 4 := hN
  simp only [Gh.num, List.map_cons, List.map_nil, Nat.reduceAdd]
  repeat refine gwp_seq ?_
  refine gwp_region ?_
  refine n1 110 false (hc := by (first | exact True.intro | (simp only [inI]; omega) | (simp [P.size, nt, wP, all_int, allOne_p, goods_p, allOne, goods, good, G.one, P.one] <;> first | omega | assumption | simp_all))) (k := ?_)
  refine v0 (k := ?_)
  refine nil0 ?_
  refine cl [1] (k := ?_)
  repeat refine gwp_seq ?_
  refine gwp_region ?_
  refine v0 (k := ?_)
  refine v0 (k := ?_)
  refine nil0 ?_
  repeat refine gwp_seq ?_
  refine fz 110 1 [.k] (k := ?_)
  refine cv 2 (.f [.n [.k]]) (k := ?_)
  refine gwp_ret ?_
  repeat (first | refine gthen_ret ?_ | refine gblock_ret ?_ | refine gnoGoto_ret ?_)
  refine fin_ret ?_
  refine fh [] (hR := ?_)
  rfl
theorem ent49 : Enters Try.prog 49 := Enters.mk Try.func49 (by kernel_rfl) rfl
theorem s_right {E : Env Try.prog} {A : E.α} (s : Sh) (set : Nat) (ws : List (List Int)) : Gh.Spec E 49 [.ptr [.p (.int .i64 s.num), .p (.list (s.sizes.map (.int .i64))), .p (.int .i64 s.lo), .p (.int .i64 s.hi), .p (.list (s.notes.map pn)), .p (.list (s.notes.map nt)), .p (.list (ws.map wP))], .p (.int .u64 set)] (mkHp []) A (fun y => y = .ok (.fn (.func 70) [] [.ptr [.ptr [.p (.int .i64 s.num), .p (.list (s.sizes.map (.int .i64))), .p (.int .i64 s.lo), .p (.int .i64 s.hi), .p (.list (s.notes.map pn)), .p (.list (s.notes.map nt)), .p (.list (ws.map wP))]], .ptr [.p (.int .u64 set)]]) (mkHp []) A) := by
  refine spec_of Try.func49 (rfl : Try.f49.body = some _) (Nat.le_of_ble_eq_true rfl) (fun id h => ?_) (fun j id h => ?_) ?_
  · exact wf1x h
  · exact wf2x h
  intro C hN hL
  replace hN : C.N = 6 := hN
  simp only [Gh.num, List.map_cons, List.map_nil, Nat.reduceAdd]
  repeat refine gwp_seq ?_
  refine gwp_region ?_
  refine n1 120 false (hc := by (first | exact True.intro | (simp only [inI]; omega) | (simp [P.size, nt, wP, all_int, allOne_p, goods_p, allOne, goods, good, G.one, P.one] <;> first | omega | assumption | simp_all))) (k := ?_)
  refine n1 130 false (hc := by (first | exact True.intro | (simp only [inI]; omega) | (simp [P.size, nt, wP, all_int, allOne_p, goods_p, allOne, goods, good, G.one, P.one] <;> first | omega | assumption | simp_all))) (k := ?_)
  refine v0 (k := ?_)
  refine nil0 ?_
  refine cl [2, 3] (k := ?_)
  repeat refine gwp_seq ?_
  refine gwp_region ?_
  refine v0 (k := ?_)
  refine v0 (k := ?_)
  refine nil0 ?_
  repeat refine gwp_seq ?_
  refine fz 120 1 [.k] (k := ?_)
  refine fz 130 1 [.k] (k := ?_)
  refine cv 4 (.f [.n [.k], .n [.k]]) (k := ?_)
  refine gwp_ret ?_
  repeat (first | refine gthen_ret ?_ | refine gblock_ret ?_ | refine gnoGoto_ret ?_)
  refine fin_ret ?_
  refine fh [] (hR := ?_)
  rfl
theorem ent53 : Enters Try.prog 53 := Enters.mk Try.func53 (by kernel_rfl) rfl
theorem s_many {E : Env Try.prog} {A : E.α} (s : Sh) (set : Nat) (ws : List (List Int)) (hset : set < 4096) (hws : ∀ w ∈ ws, w.length = 8) (hnl : s.notes.length ≤ 12) (hwl : ws.length ≤ 1099511627776) (hnv : ∀ (k : Nat) (n : Nt), s.notes[k]? = some n → 0 ≤ n.a ∧ n.a < 8 ∧ 0 ≤ n.b ∧ n.b < 8 ∧ n.a ≠ n.b) : Gh.Spec E 53 [.ptr [.p (.int .i64 s.num), .p (.list (s.sizes.map (.int .i64))), .p (.int .i64 s.lo), .p (.int .i64 s.hi), .p (.list (s.notes.map pn)), .p (.list (s.notes.map nt)), .p (.list (ws.map wP))], .p (.int .u64 set)] (mkHp []) A (fun y => y = .ok (.p (.int .i64 (ws.filter (rightW s set)).length)) (mkHp []) A) := by
  refine specD_of Try.func53 (rfl : Try.f53.body = some _) (Nat.le_of_ble_eq_true rfl) (fun id h => ?_) (fun j id h => ?_) ?_
  · exact wf1x h
  · exact wf2x h
  intro C hN hL
  replace hN : C.N = 12 := hN
  simp only [Gh.num, List.map_cons, List.map_nil, Nat.reduceAdd]
  repeat refine gwp_seq ?_
  refine gwp_region ?_
  refine n1 140 false (hc := by (first | exact True.intro | (simp only [inI]; omega) | (simp [P.size, nt, wP, all_int, allOne_p, goods_p, allOne, goods, good, G.one, P.one] <;> first | omega | assumption | simp_all))) (k := ?_)
  refine nil0 ?_
  refine cl [0, 1, 4] (k := ?_)
  repeat refine gwp_seq ?_
  refine gwp_region ?_
  refine v0 (k := ?_)
  refine v0 (k := ?_)
  refine oc0 [] [] [0, 0] none (spec := s_right s set ws) (hent := ent49) (k := ?_)
  refine nil0 ?_
  refine cl [4, 7] (k := ?_)
  repeat refine gwp_seq ?_
  refine gwp_block ?_
  repeat refine gwp_seq ?_
  refine rf 10000 99001 [8] (fun k (z : Nat) A1 => z = k ∧ A1 = A) (fun z => [(140, .cells [.p (.int .i64 z)] 0)]) (fun _ _ _ => False) (fun _ _ => []) [] [.k, .k] (it := it_right s set ws (by omega) hnl hwl hws hnv) (hent := ent70) (xs := ((ws.filter (rightW s set)).map fun w => [wP w])) (hlen := fun x hx => by obtain ⟨w, _, rfl⟩ := List.mem_map.1 hx; rfl) (h0 := ?_) (round := fun k z A1 x hI hx lp bs C1 hN1 hL1 => ?_) (hK := fun e z A1 hK => ?_) (hI := fun z A1 hI => ?_)
  · exact ⟨0, ⟨rfl, rfl⟩, rfl⟩
  · obtain ⟨rfl, rfl⟩ := hI
    have hkl := (List.getElem?_eq_some_iff.1 hx).1
    have hfl := List.length_filter_le (rightW s set) ws
    rw [List.length_map] at hkl
    rw [List.getElem?_map] at hx
    obtain ⟨w, hw, rfl⟩ := Option.map_eq_some_iff.1 hx
    replace hN1 : C1.N = 12 := hN1.trans hN
    refine (?_ : gwp C1 (some lp) _ _ (sg ((8, .p (wP w)) :: _) [(140, .cells [.p (.int .i64 z)] 0)] A1 []))
    repeat refine gwp_seq ?_
    refine gwp_skip ?_
    refine ⟨rfl, fun bs2 C2 hN2 hL2 hr2 => ?_⟩
    replace hN2 : C2.N = 12 := hN2.trans hN
    refine (?_ : gwp C2 (some lp) _ _ (sg _ _ _ []))
    repeat refine gwp_seq ?_
    refine gwp_block ?_
    repeat refine gwp_seq ?_
    refine gwp_region ?_
    refine v0 (k := ?_)
    refine v1 (hc := by (first | exact True.intro | (simp only [inI]; omega) | (simp [P.size, nt, wP, all_int, allOne_p, goods_p, allOne, goods, good, G.one, P.one] <;> first | omega | assumption | simp_all))) (k := ?_)
    refine s1 (hc := by (first | exact True.intro | (simp only [inI]; omega) | (simp [P.size, nt, wP, all_int, allOne_p, goods_p, allOne, goods, good, G.one, P.one] <;> first | omega | assumption | simp_all))) (k := ?_)
    refine nil0 ?_
    refine ⟨_, z + 1, lc [140], rfl, rfl, rfl⟩
  · exact hK.elim
  · obtain ⟨rfl, rfl⟩ := hI
    rw [List.length_map]
    refine cl [4] (k := ?_)
    repeat refine gwp_seq ?_
    refine gwp_region ?_
    refine v0 (k := ?_)
    refine s1 (hc := by (first | exact True.intro | (simp only [inI]; omega) | (simp [P.size, nt, wP, all_int, allOne_p, goods_p, allOne, goods, good, G.one, P.one] <;> first | omega | assumption | simp_all))) (k := ?_)
    refine nil0 ?_
    repeat refine gwp_seq ?_
    refine gwp_ret ?_
    repeat (first | refine gthen_ret ?_ | refine gblock_ret ?_ | refine gnoGoto_ret ?_)
    refine finD_ret ?_
    refine om (h := ?_)
    refine out_nil ?_
    refine fp (hR := ?_)
    rfl
end Go.Proofs.Ytedihdnkalmoiaa

/- More rules of written-out states. -/
namespace Go.Proofs.Ytedihdnkalmoiaa
open Go.Gh
set_option maxRecDepth 100000
variable {E : Env Try.prog} {C : Cx E} {r : Option Nat} {ops : Array Oper} {Q : GE → Sg E → Prop} {rest lst : List Oper} {l l' : List (Nat × G)} {m : List (Nat × Ob)} {A : E.α} {df : List GD}
variable {t : Nat} {op : Op} {ty : TypeId} {pos : String} {af : Array Edge} {c : Prop} {g : G} {ob : Ob} {i j : Nat} {gd : Option (Nat × Bool)} {b x : Bool} {cd : Code} {J : List Nat}
/-- A nil slice in a cell as an object of no elements. -/
theorem ad (id off d : Nat) (e : TypeId) (sz : Nat) (fl : Bool) {cs cs2 : List G} {fz : Nat} (ho : mkHp m id = .cells cs fz := by (simp only [mkHp_cons, mkHp_nil, Nat.reduceEqDiff, reduceIte] <;> rfl)) (hc : cs[off]? = some .nils := by rfl) (he : cs.set off (.own d 0) = cs2 := by (simp only [List.set_cons_zero, List.set_cons_succ] <;> rfl)) (hd : mkHp m d = .none := by (simp only [mkHp_cons, mkHp_nil, Nat.reduceEqDiff, reduceIte])) (hd2 : C.lim ≤ d := by omega)
    (k : gwp C r cd Q (sg l ((id, .cells cs2 fz) :: (d, .arr e sz [] fl) :: m) A df)) : gwp C r cd Q (sg l m A df) := gc_adopt id off d e sz fl ho hc he hd hd2 k
/-! An operation that looks at no object -/
section
variable {lo : Nat} {σ0 : Sg E} {ids ids' : List (List Nat × List Nat)}
theorem da0 (n : Nat) (hn : ids.length = n := by rfl) (ho : ops[lo + n]? = some ⟨some t, op, ty, pos, af, none⟩ := by rfl)
    (hg : gsem Try.prog false 99999 (gev (mkFr l)) (rhp (mkHp m) []) op = some (c, ⟨g, none⟩) := by (simp only [rhp, List.mem_cons, List.not_mem_nil, gsem, gev, ofV, mkFr_cons, mkFr_nil, mkHp_cons, mkHp_nil, upd, yes, lift, gbinAt, gnilEq, gbin, gint, gshift, arith, gpick, gload, gstore, splice, gbox, gfill, placesL, gbuildSlice, gfieldAddr, gfield, gelem, gindexAddr, gindex, gbound, gslice, glen, gsource, gappend, gmin, gminL, gmax, gmaxL, mapGet, mapPut, zeroG, orZero, glookup, gmapUpdate, gconvert, gtypeAssert, gextract, isConst, gnilCheck, gunOp, gmakeSlice, intOf, mkAgg, mkFn, mkIface, mkTuple, allP, G.cells, good, goods, allOne, G.one, P.one, allP_p, allOne_p, goods_p, toPs_p, all_int, take_all, isAggD, isIfaceD, toP, toPs, P.size, P.cells, List.map_cons, List.map_nil, List.take_succ_cons, List.take_zero, List.drop_succ_cons, List.drop_zero, List.take_nil, List.drop_nil, List.cons_append, List.nil_append, List.append_nil, List.length_cons, List.length_nil, List.getElem?_cons_zero, List.getElem?_cons_succ, List.getElem?_nil, List.set_cons_zero, List.set_cons_succ, List.flatMap_cons, List.flatMap_nil, List.getElem?_toArray, List.getElem?_map, List.length_map, Option.map_some, Option.map_none, Nat.mul_one, List.length_set, set_map_p, set_map_int, Nat.reduceEqDiff, Nat.reduceAdd, Nat.reduceMul, Nat.reduceSub, Nat.reduceLeDiff, Nat.add_zero, Nat.zero_add, Int.toNat_natCast, Int.reduceToNat, reduceIte, reduceCtorEq, eq_self, if_true, if_false, and_true, true_and, true_or, or_true, or_false, false_or, Bool.false_eq_true, ne_eq, not_true_eq_false, not_false_eq_true, cond_true, cond_false, Bool.and_true, Bool.true_and, Bool.and_false, Bool.false_and, Bool.or_true, Bool.true_or, Bool.or_false, Bool.false_or, Bool.not_true, Bool.not_false, ti_3, ti_4, ti_5, ti_9, ti_20, ti_22, ti_24, ti_25, ti_27, ti_30, ti_40, ti_43, ti_48, ti_50, ti_51, ti_55, ti_57, ti_61, ti_66, ti_67, ti_71, ti_72, ti_74, ti_75, ti_76, ti_77, ti_78, ti_80, ti_81, ti_84, ti_91, ti_92, ti_93, ti_95, ti_97, ti_99, ti_105, ti_109, ti_111, ti_115, ti_118, ti_120, *] <;> rfl)) (hd : mkHp m 99999 = .none := by (simp only [mkHp_cons, mkHp_nil, Nat.reduceEqDiff, reduceIte])) (ht : t < C.N := by omega)
    (hids : ids ++ [([99999], [])] = ids' := by (simp only [List.cons_append, List.nil_append] <;> rfl)) (k : segK C r ops (GPost C Q) lo σ0 ids' (sg ((t, g) :: l) m A df)) (hc : c := by first | exact True.intro | simp) : segK C r ops (GPost C Q) lo σ0 ids (sg l m A df) :=
  segK.step (pi := []) hn ho (eff_v (gwant_plain rfl) hg hc hd (fun t' e => by cases e; exact ht)) rfl (by rw [hids]; exact k)
end
/-- Is a slice nil? -/
theorem nq0 {tt : TypeId} {i : TI} {x z : Operand} {t2 : TypeId} {xs : List P} {e : TypeId} (hi : ti Try.prog tt = some i := by (simp only [ti_3, ti_4, ti_5, ti_9, ti_20, ti_22, ti_24, ti_25, ti_27, ti_30, ti_40, ti_43, ti_48, ti_50, ti_51, ti_55, ti_57, ti_61, ti_66, ti_67, ti_71, ti_72, ti_74, ti_75, ti_76, ti_77, ti_78, ti_80, ti_81, ti_84, ti_91, ti_92, ti_93, ti_95, ti_97, ti_99, ti_105, ti_109, ti_111, ti_115, ti_118, ti_120] <;> rfl)) (hd : i.desc = .slice e := by rfl) (hx : gev (mkFr l) x = .p (.list xs) := by (simp only [gev, mkFr_cons, Nat.reduceEqDiff, reduceIte] <;> rfl)) (hz : z = .const (.slice none 0 0) := by rfl) (ht : t < C.N := by omega)
    (k : ∀ b : Bool, (b = true → xs = []) → gops C r ops Q rest (sg ((t, .p (.bool b)) :: l) m A df)) : gops C r ops Q (⟨some t, .binOp .eql tt x z t2, ty, pos, af, none⟩ :: rest) (sg l m A df) := go_nilq hi hd hx hz ht k
theorem ofk (id n : Nat) {cs : List G} {fz : Nat} (ho : mkHp m id = .cells cs fz := by (simp only [mkHp_cons, mkHp_nil, Nat.reduceEqDiff, reduceIte] <;> rfl)) (hn : fz ≤ n := by omega) (hn2 : n ≤ cs.length) (h1 : allOne (cs.take n) = true) (k : gops C r ops Q lst (sg l ((id, .cells cs n) :: m) A df)) : gops C r ops Q lst (sg l m A df) := go_freezeK id n ho hn hn2 h1 k
/-- A part of an array as a list. -/
theorem ofs (t : Nat) {off len fz id : Nat} {cs : List G} (ps : List P) (ht : mkFr l t = .fsl id off len := by (simp only [mkFr_cons, Nat.reduceEqDiff, reduceIte] <;> rfl)) (ho : mkHp m id = .cells cs fz := by (simp only [mkHp_cons, mkHp_nil, Nat.reduceEqDiff, reduceIte] <;> rfl)) (h1 : off + len ≤ fz) (hps : (cs.drop off).take len = ps.map .p) (h2 : ps.length = len) (h3 : ∀ p ∈ ps, p.one = true)
    (k : gops C r ops Q lst (sg ((t, .p (.list ps)) :: l) m A df)) : gops C r ops Q lst (sg l m A df) := go_fsl t ht ho h1 hps h2 h3 k
end Go.Proofs.Ytedihdnkalmoiaa

/- The program: what can be right; what a panic tells. -/
namespace Go.Proofs.Ytedihdnkalmoiaa
open Go.Gh
set_option maxRecDepth 100000
set_option maxHeartbeats 4000000
theorem ent59 : Enters Try.prog 59 := Enters.mk Try.func59 (by kernel_rfl) rfl
theorem s_can {E : Env Try.prog} {A : E.α} (s : Sh) (set : Nat) (ws : List (List Int)) (es : List (Nat × Bool)) (hset : set < 4096) (hws : ∀ w ∈ ws, w.length = 8) (hnl : s.notes.length ≤ 12) (hwl : ws.length ≤ 1099511627776) (hnv : ∀ (k : Nat) (n : Nt), s.notes[k]? = some n → 0 ≤ n.a ∧ n.a < 8 ∧ 0 ≤ n.b ∧ n.b < 8 ∧ n.a ≠ n.b) (hk : known s ws es) : Gh.Spec E 59 [.ptr [.p (.int .i64 s.num), .p (.list (s.sizes.map (.int .i64))), .p (.int .i64 s.lo), .p (.int .i64 s.hi), .p (.list (s.notes.map pn)), .p (.list (s.notes.map nt)), .p (.list (ws.map wP)), .map 0], .p (.int .u64 set)] (mkHp [(0, .map (mE es))]) A (fun y => y = .ok (.p (.bool (canB s ws set))) (mkHp [(0, .map (mE (canE s ws es set)))]) A) := by
  refine specD_of Try.func59 (rfl : Try.f59.body = some _) (Nat.le_of_ble_eq_true rfl) (fun id h => ?_) (fun j id h => ?_) ?_
  · exact wf1x h
  · exact wf2x h
  intro C hN hL
  replace hN : C.N = 30 := hN
  simp only [Gh.num, List.map_cons, List.map_nil, Nat.reduceAdd]
  repeat refine gwp_seq ?_
  refine gwp_region ?_
  refine v0 (k := ?_)
  refine nil0 ?_
  refine cl [0, 1, 4] (k := ?_)
  repeat refine gwp_seq ?_
  have hg := mE_get set es
  rcases hf : seen es set with _ | bb
  · rw [hf, Option.map_none] at hg
    have hput := fun b => mE_put set b es hf
    repeat refine gwp_seq ?_
    refine gwp_region ?_
    refine v0 (k := ?_)
    refine v0 (k := ?_)
    refine v0 (k := ?_)
    refine v0 (k := ?_)
    refine v0 (k := ?_)
    refine v1 (hc := by (first | exact True.intro | exact mE_ok _ _ | exact ⟨True.intro, mE_ok _ _⟩ | (simp only [inI]; omega) | (simp [P.size, nt, wP, all_int, allOne_p, goods_p, allOne, goods, good, G.one, P.one] <;> first | omega | assumption | simp_all))) (k := ?_)
    refine v0 (k := ?_)
    refine v0 (k := ?_)
    refine v0 (k := ?_)
    refine rb 16 false (h := by (rfl)) (k := ?_)
    refine v0 (k := ?_)
    refine v0 (k := ?_)
    refine nil0 ?_
    refine cl [0, 1, 4, 5, 6] (k := ?_)
    repeat refine gwp_seq ?_
    refine gwp_region ?_
    refine v0 (k := ?_)
    refine nil0 ?_
    repeat refine gwp_seq ?_
    refine cF (k := ?_)
    repeat refine gwp_seq ?_
    refine gwp_skip ?_
    refine cl [0, 1, 4] (k := ?_)
    repeat refine gwp_seq ?_
    refine gwp_region ?_
    refine n1 170 false (hc := by (first | exact True.intro | exact mE_ok _ _ | exact ⟨True.intro, mE_ok _ _⟩ | (simp only [inI]; omega) | (simp [P.size, nt, wP, all_int, allOne_p, goods_p, allOne, goods, good, G.one, P.one] <;> first | omega | assumption | simp_all))) (k := ?_)
    refine s1 (hc := by (first | exact True.intro | exact mE_ok _ _ | exact ⟨True.intro, mE_ok _ _⟩ | (simp only [inI]; omega) | (simp [P.size, nt, wP, all_int, allOne_p, goods_p, allOne, goods, good, G.one, P.one] <;> first | omega | assumption | simp_all))) (k := ?_)
    refine nil0 ?_
    refine cl [0, 1, 4, 7] (k := ?_)
    repeat refine gwp_seq ?_
    refine gwp_region ?_
    refine v0 (k := ?_)
    refine v0 (k := ?_)
    refine oc0 [] [] [10, 0] none (spec := s_right s set ws) (hent := ent49) (k := ?_)
    refine nil0 ?_
    refine cl [0, 1, 4, 7, 21] (k := ?_)
    repeat refine gwp_seq ?_
    refine gwp_block ?_
    repeat refine gwp_seq ?_
    refine rf 10000 99001 [22] (fun k (_ : Unit) A1 => k = 0 ∧ A1 = A) (fun _ => [(0, .map (mE es)), (170, .cells [.p (.bool false)] 0)]) (fun e _ A1 => e = .exit 0 ∧ canB s ws set = true ∧ A1 = A) (fun _ _ => [(0, .map (mE es)), (170, .cells [.p (.bool true)] 0)]) [] [.k, .k] (it := it_right s set ws (by omega) hnl hwl hws hnv) (hent := ent70) (xs := ((ws.filter (rightW s set)).map fun w => [wP w])) (hlen := fun x hx => by obtain ⟨w, _, rfl⟩ := List.mem_map.1 hx; rfl) (h0 := ?_) (round := fun k z A1 x hI hx lp bs C1 hN1 hL1 => ?_) (hK := fun e z A1 hK => ?_) (hI := fun z A1 hI => ?_)
    · exact ⟨(), ⟨rfl, rfl⟩, rfl⟩
    · obtain ⟨rfl, rfl⟩ := hI
      rw [List.getElem?_map] at hx
      obtain ⟨w, hw, rfl⟩ := Option.map_eq_some_iff.1 hx
      replace hN1 : C1.N = 30 := hN1.trans hN
      refine (?_ : gwp C1 (some lp) _ _ (sg ((22, .p (wP w)) :: _) [(0, .map (mE es)), (170, .cells [.p (.bool false)] 0)] A1 []))
      repeat refine gwp_seq ?_
      refine gwp_skip ?_
      refine ⟨rfl, fun bs2 C2 hN2 hL2 hr2 => ?_⟩
      replace hN2 : C2.N = 30 := hN2.trans hN
      refine (?_ : gwp C2 (some lp) _ _ (sg _ _ _ []))
      repeat refine gwp_seq ?_
      refine gwp_block ?_
      repeat refine gwp_seq ?_
      refine gwp_region ?_
      refine s1 (hc := by (first | exact True.intro | exact mE_ok _ _ | exact ⟨True.intro, mE_ok _ _⟩ | (simp only [inI]; omega) | (simp [P.size, nt, wP, all_int, allOne_p, goods_p, allOne, goods, good, G.one, P.one] <;> first | omega | assumption | simp_all))) (k := ?_)
      refine nil0 ?_
      refine cl [0, 1, 7] (k := ?_)
      repeat refine gwp_seq ?_
      refine gwp_exit ?_
      repeat (first | refine gthen_exit ?_ | refine gnoGoto_exit ?_ | refine gblock_here ?_ | refine gblock_out rfl ?_)
      exact ⟨_, (), lc [0, 170], rfl, rfl, canB_some hw, rfl⟩
    · obtain ⟨rfl, hcb, rfl⟩ := hK
      repeat (first | refine gthen_exit ?_ | refine gnoGoto_exit ?_ | refine gblock_here ?_ | refine gblock_out rfl ?_)
      refine cl [0, 1, 7] (k := ?_)
      repeat refine gwp_seq ?_
      refine rd ?_
      refine d0 0 (k := ?_)
      refine d0 1 (k := ?_)
      refine d0 2 (k := ?_)
      refine d0 3 (k := ?_)
      refine d0 4 (k := ?_)
      refine d0 5 (k := ?_)
      refine ds1 6 (hc := by (first | exact True.intro | exact mE_ok _ _ | exact ⟨True.intro, mE_ok _ _⟩ | (simp only [inI]; omega) | (simp [P.size, nt, wP, all_int, allOne_p, goods_p, allOne, goods, good, G.one, P.one] <;> first | omega | assumption | simp_all))) (k := ?_)
      refine dz 7 [0, 1, 3, 7, 0, 0, 63] (h := ?_)
      refine de 7 (h := ?_)
      refine cl [0, 7] (k := ?_)
      repeat refine gwp_seq ?_
      refine gwp_region ?_
      refine v0 (k := ?_)
      refine v0 (k := ?_)
      refine nil0 ?_
      repeat refine gwp_seq ?_
      refine gwp_ret ?_
      repeat (first | refine gthen_ret ?_ | refine gblock_ret ?_ | refine gnoGoto_ret ?_)
      refine finD_ret ?_
      try refine om (h := ?_)
      refine out_nil ?_
      refine fh [0] (hR := ?_)
      first
      | (rw [hk set bb hf]; simp [canE, hf]; done)
      | simp [canE, hf, hcb]
    · obtain ⟨hk0, rfl⟩ := hI
      have hcb : canB s ws set = false := canB_none (by rw [List.length_map] at hk0; exact hk0)
      refine cl [0, 1, 7] (k := ?_)
      repeat refine gwp_seq ?_
      refine rd ?_
      refine d0 0 (k := ?_)
      refine d0 1 (k := ?_)
      refine d0 2 (k := ?_)
      refine d0 3 (k := ?_)
      refine d0 4 (k := ?_)
      refine d0 5 (k := ?_)
      refine ds1 6 (hc := by (first | exact True.intro | exact mE_ok _ _ | exact ⟨True.intro, mE_ok _ _⟩ | (simp only [inI]; omega) | (simp [P.size, nt, wP, all_int, allOne_p, goods_p, allOne, goods, good, G.one, P.one] <;> first | omega | assumption | simp_all))) (k := ?_)
      refine dz 7 [0, 1, 3, 7, 0, 0, 63] (h := ?_)
      refine de 7 (h := ?_)
      refine cl [0, 7] (k := ?_)
      repeat refine gwp_seq ?_
      refine gwp_region ?_
      refine v0 (k := ?_)
      refine v0 (k := ?_)
      refine nil0 ?_
      repeat refine gwp_seq ?_
      refine gwp_ret ?_
      repeat (first | refine gthen_ret ?_ | refine gblock_ret ?_ | refine gnoGoto_ret ?_)
      refine finD_ret ?_
      try refine om (h := ?_)
      refine out_nil ?_
      refine fh [0] (hR := ?_)
      first
      | (rw [hk set bb hf]; simp [canE, hf]; done)
      | simp [canE, hf, hcb]
  · rw [hf, Option.map_some] at hg
    repeat refine gwp_seq ?_
    refine gwp_region ?_
    refine v0 (k := ?_)
    refine v0 (k := ?_)
    refine v0 (k := ?_)
    refine v0 (k := ?_)
    refine v0 (k := ?_)
    refine v1 (hc := by (first | exact True.intro | exact mE_ok _ _ | exact ⟨True.intro, mE_ok _ _⟩ | (simp only [inI]; omega) | (simp [P.size, nt, wP, all_int, allOne_p, goods_p, allOne, goods, good, G.one, P.one] <;> first | omega | assumption | simp_all))) (k := ?_)
    refine v0 (k := ?_)
    refine v0 (k := ?_)
    refine v0 (k := ?_)
    refine rb 16 true (h := by (rfl)) (k := ?_)
    refine v0 (k := ?_)
    refine v0 (k := ?_)
    refine nil0 ?_
    refine cl [0, 1, 4, 5, 6] (k := ?_)
    repeat refine gwp_seq ?_
    refine gwp_region ?_
    refine v0 (k := ?_)
    refine nil0 ?_
    repeat refine gwp_seq ?_
    refine cT (k := ?_)
    repeat refine gwp_seq ?_
    refine gwp_region ?_
    refine v0 (k := ?_)
    refine v0 (k := ?_)
    refine nil0 ?_
    repeat refine gwp_seq ?_
    refine gwp_ret ?_
    repeat (first | refine gthen_ret ?_ | refine gblock_ret ?_ | refine gnoGoto_ret ?_)
    refine finD_ret ?_
    try refine om (h := ?_)
    refine out_nil ?_
    refine fh [0] (hR := ?_)
    first
    | (rw [hk set bb hf]; simp [canE, hf]; done)
    | simp [canE, hf, hcb]
def everyN (s : Sh) : Nat := 2 ^ s.notes.length - 1
theorem s_everyN {E : Env Try.prog} {A : E.α} (s : Sh) (h : s.notes.length ≤ 12) : Gh.Spec E 50 [.ptr [.p (.int .i64 s.num), .p (.list (s.sizes.map (.int .i64))), .p (.int .i64 s.lo), .p (.int .i64 s.hi), .p (.list (s.notes.map pn)), .p (.list (s.notes.map nt))]] (mkHp []) A (fun y => y = .ok (.p (.int .u64 (everyN s))) (mkHp []) A) := by
  have := s_every (E := E) (A := A) (.int .i64 s.num) (.list (s.sizes.map (.int .i64))) (.int .i64 s.lo) (.int .i64 s.hi) (.list (s.notes.map pn)) (s.notes.map nt) (by simpa using h)
  rw [List.length_map] at this
  have hp := Nat.two_pow_pos s.notes.length
  rw [show ((everyN s : Nat) : Int) = ((2 ^ s.notes.length : Nat) : Int) - 1 by simp only [everyN]; omega]
  exact this
theorem everyN_lt {s : Sh} (h : s.notes.length ≤ 12) : everyN s < 4096 := by
  have : 2 ^ s.notes.length ≤ 2 ^ 12 := Nat.pow_le_pow_right (by omega) h
  simp only [everyN]; omega
theorem ent46 : Enters Try.prog 46 := Enters.mk Try.func46 (by kernel_rfl) rfl
theorem s_mustw_t {E : Env Try.prog} {A : E.α} (s : Sh) (ws : List (List Int)) (es : List (Nat × Bool)) (hws : ∀ w ∈ ws, w.length = 8) (hnl : s.notes.length ≤ 12) (hwl : ws.length ≤ 1099511627776) (hnv : ∀ (k : Nat) (n : Nt), s.notes[k]? = some n → 0 ≤ n.a ∧ n.a < 8 ∧ 0 ≤ n.b ∧ n.b < 8 ∧ n.a ≠ n.b) (hk : known s ws es) (hcb : canB s ws (everyN s) = true) : Gh.Spec E 46 [.ptr [.p (.int .i64 s.num), .p (.list (s.sizes.map (.int .i64))), .p (.int .i64 s.lo), .p (.int .i64 s.hi), .p (.list (s.notes.map pn)), .p (.list (s.notes.map nt)), .p (.list (ws.map wP)), .map 0]] (mkHp [(0, .map (mE es))]) A (fun y => y = .ok (.ptr [.p (.int .i64 s.num), .p (.list (s.sizes.map (.int .i64))), .p (.int .i64 s.lo), .p (.int .i64 s.hi), .p (.list (s.notes.map pn)), .p (.list (s.notes.map nt)), .p (.list (ws.map wP)), .map 0]) (mkHp [(0, .map (mE (canE s ws es (everyN s))))]) A) := by
  refine spec_of Try.func46 (rfl : Try.f46.body = some _) (Nat.le_of_ble_eq_true rfl) (fun id h => ?_) (fun j id h => ?_) ?_
  · exact wf1x h
  · exact wf2x h
  intro C hN hL
  replace hN : C.N = 9 := hN
  simp only [Gh.num, List.map_cons, List.map_nil, Nat.reduceAdd]
  repeat refine gwp_seq ?_
  refine gwp_region ?_
  refine v0 (k := ?_)
  refine nil0 ?_
  refine cl [0] (k := ?_)
  repeat refine gwp_seq ?_
  refine gwp_region ?_
  refine v0 (k := ?_)
  refine v0 (k := ?_)
  refine oc0 [] [] [9] none (spec := s_everyN s hnl) (hent := ent50) (k := ?_)
  refine oc0 [(0, 0)] [] [0, 0] none (spec := s_can s (everyN s) ws es (everyN_lt hnl) hws hnl hwl hnv hk) (hent := ent59) (k := ?_)
  refine rb 6 true (h := by (exact hcb)) (k := ?_)
  refine pc0 (spec := s_must_t _) (hent := ent44) (k := ?_)
  refine nil0 ?_
  refine cl [0] (k := ?_)
  repeat refine gwp_seq ?_
  refine gwp_region ?_
  refine v0 (k := ?_)
  refine v0 (k := ?_)
  refine nil0 ?_
  repeat refine gwp_seq ?_
  refine gwp_ret ?_
  repeat (first | refine gthen_ret ?_ | refine gblock_ret ?_ | refine gnoGoto_ret ?_)
  refine fin_ret ?_
  refine fh [0] (hR := ?_)
  rfl
theorem s_mustw_f {E : Env Try.prog} {A : E.α} (s : Sh) (ws : List (List Int)) (es : List (Nat × Bool)) (hws : ∀ w ∈ ws, w.length = 8) (hnl : s.notes.length ≤ 12) (hwl : ws.length ≤ 1099511627776) (hnv : ∀ (k : Nat) (n : Nt), s.notes[k]? = some n → 0 ≤ n.a ∧ n.a < 8 ∧ 0 ≤ n.b ∧ n.b < 8 ∧ n.a ≠ n.b) (hk : known s ws es) (hcb : canB s ws (everyN s) = false) : Gh.Spec E 46 [.ptr [.p (.int .i64 s.num), .p (.list (s.sizes.map (.int .i64))), .p (.int .i64 s.lo), .p (.int .i64 s.hi), .p (.list (s.notes.map pn)), .p (.list (s.notes.map nt)), .p (.list (ws.map wP)), .map 0]] (mkHp [(0, .map (mE es))]) A (fun y => y = .panic (.iface 105 (.agg [.int .i64 10])) (mkHp [(0, .map (mE (canE s ws es (everyN s))))]) A) := by
  refine spec_of Try.func46 (rfl : Try.f46.body = some _) (Nat.le_of_ble_eq_true rfl) (fun id h => ?_) (fun j id h => ?_) ?_
  · exact wf1x h
  · exact wf2x h
  intro C hN hL
  replace hN : C.N = 9 := hN
  simp only [Gh.num, List.map_cons, List.map_nil, Nat.reduceAdd]
  repeat refine gwp_seq ?_
  refine gwp_region ?_
  refine v0 (k := ?_)
  refine nil0 ?_
  refine cl [0] (k := ?_)
  repeat refine gwp_seq ?_
  refine gwp_region ?_
  refine v0 (k := ?_)
  refine v0 (k := ?_)
  refine oc0 [] [] [9] none (spec := s_everyN s hnl) (hent := ent50) (k := ?_)
  refine oc0 [(0, 0)] [] [0, 0] none (spec := s_can s (everyN s) ws es (everyN_lt hnl) hws hnl hwl hnv hk) (hent := ent59) (k := ?_)
  refine rb 6 false (h := by (exact hcb)) (k := ?_)
  refine pp0 (spec := s_must_f _) (hent := ent44) (k := ?_)
  repeat (first | refine gthen_panic ?_ | refine gblock_panic ?_)
  refine fph [0] (hR := ?_)
  rfl
theorem ent42 : Enters Try.prog 42 := Enters.mk Try.func42 (by kernel_rfl) rfl
theorem d_none {E : Env Try.prog} {A : E.α} (e : Int) : DSpec E 42 [.ref 0 0] (mkHp [(0, .cells [.p (.int .i64 e)] 0)]) A (none) (fun y => y = .ok (.p (.tuple [])) (mkHp [(0, .cells [.p (.int .i64 e)] 0)]) A) := by
  refine dspec_of Try.func42 (some _) (rfl : Try.f42.body = some _) rfl rfl rfl (by decide) (Nat.le_of_ble_eq_true rfl) (fun id h => ?_) (fun j id h => ?_) ?_
  · exact wf1x h
  · exact wf2x h
  intro C hN hL
  replace hN : C.N = 15 := hN
  simp only [Gh.num, List.map_cons, List.map_nil, Nat.reduceAdd, recG]
  refine nil0 ?_
  refine (?_ : gwp C none _ _ (sg _ _ _ []))
  repeat refine gwp_seq ?_
  refine gwp_block ?_
  repeat refine gwp_seq ?_
  refine gwp_region ?_
  refine v0 (k := ?_)
  refine rb 7 true (h := by (rfl)) (k := ?_)
  refine nil0 ?_
  repeat refine gwp_seq ?_
  refine cT (k := ?_)
  repeat refine gwp_seq ?_
  refine gwp_region ?_
  refine v0 (k := ?_)
  refine nil0 ?_
  repeat refine gblock_normal ?_
  refine dfin_normal ?_
  refine fh0 [0] (hR := ?_)
  rfl
theorem d_some {E : Env Try.prog} {A : E.α} (e n : Int) : DSpec E 42 [.ref 0 0] (mkHp [(0, .cells [.p (.int .i64 e)] 0)]) A (some (.iface 105 (.agg [.int .i64 n]))) (fun y => y = .ok (.p (.tuple [])) (mkHp [(0, .cells [.p (.int .i64 n)] 0)]) A) := by
  refine dspec_of Try.func42 (some _) (rfl : Try.f42.body = some _) rfl rfl rfl (by decide) (Nat.le_of_ble_eq_true rfl) (fun id h => ?_) (fun j id h => ?_) ?_
  · exact wf1x h
  · exact wf2x h
  intro C hN hL
  replace hN : C.N = 15 := hN
  simp only [Gh.num, List.map_cons, List.map_nil, Nat.reduceAdd, recG]
  refine nil0 ?_
  refine (?_ : gwp C none _ _ (sg _ _ _ []))
  repeat refine gwp_seq ?_
  refine gwp_block ?_
  repeat refine gwp_seq ?_
  refine gwp_region ?_
  refine v0 (k := ?_)
  refine rb 7 false (h := by (rfl)) (k := ?_)
  refine nil0 ?_
  repeat refine gwp_seq ?_
  refine cF (k := ?_)
  repeat refine gwp_seq ?_
  refine gwp_region ?_
  refine v0 (k := ?_)
  refine v0 (k := ?_)
  refine rb 9 true (h := by (rfl)) (k := ?_)
  refine v0 (k := ?_)
  refine nil0 ?_
  repeat refine gwp_seq ?_
  refine cT (k := ?_)
  repeat refine gwp_seq ?_
  refine gwp_region ?_
  refine n1 130 false (hc := by (first | exact True.intro | exact mE_ok _ _ | exact ⟨True.intro, mE_ok _ _⟩ | (simp only [inI]; omega) | (simp [P.size, nt, wP, all_int, allOne_p, goods_p, allOne, goods, good, G.one, P.one] <;> first | omega | assumption | simp_all))) (k := ?_)
  refine s1 (hc := by (first | exact True.intro | exact mE_ok _ _ | exact ⟨True.intro, mE_ok _ _⟩ | (simp only [inI]; omega) | (simp [P.size, nt, wP, all_int, allOne_p, goods_p, allOne, goods, good, G.one, P.one] <;> first | omega | assumption | simp_all))) (k := ?_)
  refine nil0 ?_
  refine cl [0, 3] (k := ?_)
  repeat refine gwp_seq ?_
  refine gwp_region ?_
  refine v0 (k := ?_)
  refine v0 (k := ?_)
  refine v0 (k := ?_)
  refine v0 (k := ?_)
  refine s1 (hc := by (first | exact True.intro | exact mE_ok _ _ | exact ⟨True.intro, mE_ok _ _⟩ | (simp only [inI]; omega) | (simp [P.size, nt, wP, all_int, allOne_p, goods_p, allOne, goods, good, G.one, P.one] <;> first | omega | assumption | simp_all))) (k := ?_)
  refine nil0 ?_
  repeat refine gblock_normal ?_
  refine dfin_normal ?_
  refine fh0 [0] (hR := ?_)
  rfl
end Go.Proofs.Ytedihdnkalmoiaa

/- How many ways there are without notes, and how long they are. -/
namespace Go.Proofs.Ytedihdnkalmoiaa
open Go.Gh
theorem onW_len8 (s : Sh) : ∀ (d : Nat) (w sz : List Int) (n : Nat), w.length = 8 → ∀ x ∈ onW s d w sz n, x.length = 8
  | 0, w, sz, n, hw, x, hx => by
    rw [onW] at hx
    split at hx
    · simp at hx; subst hx; exact hw
    · cases hx
  | d + 1, w, sz, n, hw, x, hx => by
    rw [onW] at hx
    obtain ⟨i, _, hx⟩ := List.mem_flatMap.1 hx
    split at hx
    · exact onW_len8 s d _ _ _ (by simp [hw]) x hx
    · cases hx
theorem onW_many (s : Sh) : ∀ (d : Nat) (w sz : List Int) (n : Nat), n + d ≤ 8 → (onW s d w sz n).length ≤ 9 ^ d
  | 0, w, sz, n, _ => by
    rw [onW]
    split <;> simp
  | d + 1, w, sz, n, hd => by
    have key : ∀ k, k ≤ n + 1 → (onK s d w sz n k).length ≤ k * 9 ^ d := fun k => by
      induction k with
      | zero => intro _; simp [onK]
      | succ k ih =>
        intro hk
        have ih := ih (by omega)
        rw [onK_succ, List.length_append, Nat.succ_mul]
        split
        · have := onW_many s d (w.set n k) (sz.set k (max (oldS sz n k) (s.sizes.getD n 0))) (n + 1) (by omega)
          omega
        · have hz := Nat.zero_le (9 ^ d)
          simp only [List.length_nil]; omega
    have := key (n + 1) (Nat.le_refl _)
    rw [onK_all] at this
    have h9 : (n + 1) * 9 ^ d ≤ 9 * 9 ^ d := Nat.mul_le_mul_right _ (by omega)
    rw [Nat.pow_succ, Nat.mul_comm (9 ^ d) 9]
    omega
theorem onN_len8 (s : Sh) : ∀ w ∈ onN s, w.length = 8 := onW_len8 s _ _ _ _ (by simp)
theorem onN_many (s : Sh) (h : s.sizes.length ≤ 8) : (onN s).length ≤ 43046721 := by
  have := onW_many s s.sizes.length (List.replicate 8 0) (List.replicate 8 0) 0 (by omega)
  have h2 : 9 ^ s.sizes.length ≤ 9 ^ 8 := Nat.pow_le_pow_right (by omega) h
  exact Nat.le_trans this h2
end Go.Proofs.Ytedihdnkalmoiaa

/- The program: a shelf is opened. -/
namespace Go.Proofs.Ytedihdnkalmoiaa
open Go.Gh
set_option maxRecDepth 100000
set_option maxHeartbeats 4000000
theorem ent43 : Enters Try.prog 43 := Enters.mk Try.func43 (by kernel_rfl) rfl
theorem s_open {E : Env Try.prog} {A : E.α} (s : Sh) (h1 : s.sizes.length ≤ 1048576) (h2 : s.notes.length ≤ 1048576) : Gh.Spec E 43 [.p (.agg [.int .i64 s.num, .list (s.sizes.map (.int .i64)), .int .i64 s.lo, .int .i64 s.hi, .list (s.notes.map pn)])] (mkHp []) A (fun y => if s.valid = true then y = .ok (.ptr [.p (.int .i64 s.num), .p (.list (s.sizes.map (.int .i64))), .p (.int .i64 s.lo), .p (.int .i64 s.hi), .p (.list (s.notes.map pn)), .p (.list (s.notes.map nt)), .p (.list ((onN s).map wP)), .map 640]) (mkHp [(640, .map [])]) A else y = .panic (.iface 105 (.agg [.int .i64 1])) (mkHp []) A) := by
  refine specD_of Try.func43 (rfl : Try.f43.body = some _) (Nat.le_of_ble_eq_true rfl) (fun id h => ?_) (fun j id h => ?_) ?_
  · exact wf1x h
  · exact wf2x h
  intro C hN hL
  replace hN : C.N = 129 := hN
  simp only [Gh.num, List.map_cons, List.map_nil, Nat.reduceAdd]
  have hpn : ∀ n : Nt, pn n = P.agg [.int .i64 n.a, .int .i64 n.b, .bool n.s] := fun _ => rfl
  have hwP : ∀ w : List Int, wP w = P.agg (w.map (P.int .i64)) := fun _ => rfl
  repeat refine gwp_seq ?_
  refine gwp_region ?_
  refine n1 110 false (hc := by (first | exact True.intro | (simp only [inI]; omega) | (simp [P.size, nt, wP, pn, all_int, allOne_p, goods_p, allOne, goods, good, G.one, P.one, P.cells] <;> first | omega | assumption | simp_all))) (k := ?_)
  refine v0 (k := ?_)
  refine nil0 ?_
  refine cl [1, 2] (k := ?_)
  repeat refine gwp_seq ?_
  refine gwp_region ?_
  refine v0 (k := ?_)
  refine nil0 ?_
  refine cl [1, 2, 3] (k := ?_)
  repeat refine gwp_seq ?_
  refine gwp_region ?_
  refine v0 (k := ?_)
  refine v0 (k := ?_)
  refine pc0 (spec := s_within _ _ _) (hent := ent67) (k := ?_)
  refine v0 (k := ?_)
  refine b0 (k1 := fun hb1 => ?_) (k0 := fun hb1 => ?_)
  · try simp only [decide_eq_true_eq, decide_eq_false_iff_not, Int.not_lt, Int.not_le, Bool.not_eq_eq_eq_not, Bool.not_true, Bool.not_false, Bool.and_eq_true, Bool.and_eq_false_iff, Bool.or_eq_true, Bool.or_eq_false_iff] at hb1
    try rw [eqI] at hb1
    refine w0 (k := ?_)
    refine w0 (k := ?_)
    refine w0 (k := ?_)
    refine w0 (k := ?_)
    refine w0 (k := ?_)
    refine w0 (k := ?_)
    refine v0 (k := ?_)
    refine v0 (k := ?_)
    refine b0 (k1 := fun hb2 => ?_) (k0 := fun hb2 => ?_)
    · try simp only [decide_eq_true_eq, decide_eq_false_iff_not, Int.not_lt, Int.not_le, Bool.not_eq_eq_eq_not, Bool.not_true, Bool.not_false, Bool.and_eq_true, Bool.and_eq_false_iff, Bool.or_eq_true, Bool.or_eq_false_iff] at hb2
      try rw [eqI] at hb2
      refine w0 (k := ?_)
      refine w0 (k := ?_)
      refine w0 (k := ?_)
      refine pcw (spec := s_contains s.sizes h1) (hent := ent68) (k := ?_)
      refine w0 (k := ?_)
      refine v0 (k := ?_)
      refine v0 (k := ?_)
      refine b0 (k1 := fun hb3 => ?_) (k0 := fun hb3 => ?_)
      · try simp only [decide_eq_true_eq, decide_eq_false_iff_not, Int.not_lt, Int.not_le, Bool.not_eq_eq_eq_not, Bool.not_true, Bool.not_false, Bool.and_eq_true, Bool.and_eq_false_iff, Bool.or_eq_true, Bool.or_eq_false_iff] at hb3
        try rw [eqI] at hb3
        refine w0 (k := ?_)
        refine w0 (k := ?_)
        refine w0 (k := ?_)
        refine w0 (k := ?_)
        refine v0 (k := ?_)
        refine go_b 31 (by (simp only [mkFr_cons, Nat.reduceEqDiff, reduceIte] <;> rfl)) (fun hb4 => ?_) (fun hb4 => ?_)
        · try simp only [decide_eq_true_eq, decide_eq_false_iff_not, Int.not_lt, Int.not_le, Bool.not_eq_eq_eq_not, Bool.not_true, Bool.not_false, Bool.and_eq_true, Bool.and_eq_false_iff, Bool.or_eq_true, Bool.or_eq_false_iff] at hb4
          try rw [eqI] at hb4
          refine pc0 (spec := s_must_t _) (hent := ent44) (k := ?_)
          refine nil0 ?_
          refine cl [1, 2] (k := ?_)
          repeat refine gwp_seq ?_
          refine gwp_region ?_
          refine v0 (k := ?_)
          refine v0 (k := ?_)
          refine v0 (k := ?_)
          refine v0 (k := ?_)
          refine v0 (k := ?_)
          refine b0 (k1 := fun hb5 => ?_) (k0 := fun hb5 => ?_)
          · try simp only [decide_eq_true_eq, decide_eq_false_iff_not, Int.not_lt, Int.not_le, Bool.not_eq_eq_eq_not, Bool.not_true, Bool.not_false, Bool.and_eq_true, Bool.and_eq_false_iff, Bool.or_eq_true, Bool.or_eq_false_iff] at hb5
            try rw [eqI] at hb5
            refine w0 (k := ?_)
            refine w0 (k := ?_)
            refine w0 (k := ?_)
            refine w0 (k := ?_)
            refine w0 (k := ?_)
            refine w0 (k := ?_)
            refine w0 (k := ?_)
            refine v0 (k := ?_)
            refine v0 (k := ?_)
            refine b0 (k1 := fun hb6 => ?_) (k0 := fun hb6 => ?_)
            · try simp only [decide_eq_true_eq, decide_eq_false_iff_not, Int.not_lt, Int.not_le, Bool.not_eq_eq_eq_not, Bool.not_true, Bool.not_false, Bool.and_eq_true, Bool.and_eq_false_iff, Bool.or_eq_true, Bool.or_eq_false_iff] at hb6
              try rw [eqI] at hb6
              refine w0 (k := ?_)
              refine w0 (k := ?_)
              refine w0 (k := ?_)
              refine w0 (k := ?_)
              refine v0 (k := ?_)
              refine go_b 51 (by (simp only [mkFr_cons, Nat.reduceEqDiff, reduceIte] <;> rfl)) (fun hb7 => ?_) (fun hb7 => ?_)
              · try simp only [decide_eq_true_eq, decide_eq_false_iff_not, Int.not_lt, Int.not_le, Bool.not_eq_eq_eq_not, Bool.not_true, Bool.not_false, Bool.and_eq_true, Bool.and_eq_false_iff, Bool.or_eq_true, Bool.or_eq_false_iff] at hb7
                try rw [eqI] at hb7
                refine pc0 (spec := s_must_t _) (hent := ent44) (k := ?_)
                refine nil0 ?_
                refine cl [1, 2] (k := ?_)
                repeat refine gwp_seq ?_
                refine gwp_region ?_
                refine v0 (k := ?_)
                refine n1 640 false (hc := by (first | exact True.intro | (simp only [inI]; omega) | (simp [P.size, nt, wP, pn, all_int, allOne_p, goods_p, allOne, goods, good, G.one, P.one, P.cells] <;> first | omega | assumption | simp_all))) (k := ?_)
                refine v0 (k := ?_)
                refine n1 660 false (hc := by (first | exact True.intro | (simp only [inI]; omega) | (simp [P.size, nt, wP, pn, all_int, allOne_p, goods_p, allOne, goods, good, G.one, P.one, P.cells] <;> first | omega | assumption | simp_all))) (k := ?_)
                refine n1 140 false (hc := by (first | exact True.intro | (simp only [inI]; omega) | (simp [P.size, nt, wP, pn, all_int, allOne_p, goods_p, allOne, goods, good, G.one, P.one, P.cells] <;> first | omega | assumption | simp_all))) (k := ?_)
                refine s1 (hc := by (first | exact True.intro | (simp only [inI]; omega) | (simp [P.size, nt, wP, pn, all_int, allOne_p, goods_p, allOne, goods, good, G.one, P.one, P.cells] <;> first | omega | assumption | simp_all))) (k := ?_)
                refine nil0 ?_
                refine cl [1, 2, 4] (k := ?_)
                repeat refine gwp_seq ?_
                have hnum : 0 ≤ s.num ∧ s.num ≤ 8 := by omega
                refine fz 660 5 [.k, .k, .k, .k, .k] (k := ?_)
                refine ad 660 5 2000 109 1 true (k := ?_)
                refine ad 660 6 2010 84 8 true (k := ?_)
                refine gwp_region ?_
                refine v0 (k := ?_)
                refine v0 (k := ?_)
                refine v0 (k := ?_)
                refine v0 (k := ?_)
                refine nil0 ?_
                refine cl [2, 4, 58, 59, 60] (k := ?_)
                repeat refine gwp_seq ?_
                refine gwp_block ?_
                repeat refine gwp_seq ?_
                refine gc_loop (fun mz σ => ∃ k : Nat, (k ≤ s.notes.length) ∧ ((s.notes.take k).all (okN s.num) = true) ∧ mz = s.notes.length - k ∧ σ = (sg [(2, .p .nilptr), (4, .ref 140 0), (58, .p (.list (s.notes.map pn))), (59, .p (.int .i64 s.notes.length)), (60, .p (.int .i64 k))] [(140, .cells [.ref 660 0] 0), (660, .cells [.p (.int .i64 s.num), .p (.list (s.sizes.map (.int .i64))), .p (.int .i64 s.lo), .p (.int .i64 s.hi), .p (.list (s.notes.map pn)), .own 2000 k, .own 2010 0, .map 640] 5), (2000, .arr 109 1 ((s.notes.take k).map nt) true), (2010, .arr 84 8 ([]) true), (640, .map [])] A [] : Sg E)) ?_ (fun mz σ hI => ?_)
                · refine lbeg [2, 4, 58, 59, 60] (hV := ?_)
                  exact ⟨_, 0, by omega, rfl, rfl, rfl⟩
                obtain ⟨k, hk, ha, hn, rfl⟩ := hI
                repeat refine gwp_seq ?_
                refine gwp_region ?_
                refine v0 (k := ?_)
                refine nil0 ?_
                repeat refine gwp_seq ?_
                refine cB (k1 := fun hb8 => ?_) (k0 := fun hb8 => ?_)
                · try simp only [decide_eq_true_eq, decide_eq_false_iff_not, Int.not_lt, Int.not_le, Bool.not_eq_eq_eq_not, Bool.not_true, Bool.not_false, Bool.and_eq_true, Bool.and_eq_false_iff, Bool.or_eq_true, Bool.or_eq_false_iff] at hb8
                  try rw [eqI] at hb8
                  repeat refine gwp_seq ?_
                  refine gwp_skip ?_
                  refine cl [2, 4, 58, 59, 60] (k := ?_)
                  repeat refine gwp_seq ?_
                  refine gwp_block ?_
                  repeat refine gwp_seq ?_
                  obtain ⟨z, hz⟩ := getE (l := s.notes) (k := k) (by omega)
                  obtain ⟨za, zb, zs⟩ := z
                  cases zs
                  · repeat refine gwp_seq ?_
                    refine gwp_region ?_
                    refine v1 (hc := by (first | exact True.intro | (simp only [inI]; omega) | (simp [P.size, nt, wP, pn, all_int, allOne_p, goods_p, allOne, goods, good, G.one, P.one, P.cells] <;> first | omega | assumption | simp_all))) (k := ?_)
                    refine v0 (k := ?_)
                    refine n1 160 false (hc := by (first | exact True.intro | (simp only [inI]; omega) | (simp [P.size, nt, wP, pn, all_int, allOne_p, goods_p, allOne, goods, good, G.one, P.one, P.cells] <;> first | omega | assumption | simp_all))) (k := ?_)
                    refine s1 (hc := by (first | exact True.intro | (simp only [inI]; omega) | (simp [P.size, nt, wP, pn, all_int, allOne_p, goods_p, allOne, goods, good, G.one, P.one, P.cells] <;> first | omega | assumption | simp_all))) (k := ?_)
                    refine nil0 ?_
                    refine cl [2, 4, 6, 58, 59, 60] (k := ?_)
                    repeat refine gwp_seq ?_
                    refine gwp_region ?_
                    refine v0 (k := ?_)
                    refine v0 (k := ?_)
                    refine v0 (k := ?_)
                    refine oc0 [] [660] [4, 0] none (spec := s_isNumber s.num za hnum) (hent := ent45) (k := ?_)
                    refine v0 (k := ?_)
                    refine b0 (k1 := fun hb9 => ?_) (k0 := fun hb9 => ?_)
                    · try simp only [decide_eq_true_eq, decide_eq_false_iff_not, Int.not_lt, Int.not_le, Bool.not_eq_eq_eq_not, Bool.not_true, Bool.not_false, Bool.and_eq_true, Bool.and_eq_false_iff, Bool.or_eq_true, Bool.or_eq_false_iff] at hb9
                      try rw [eqI] at hb9
                      refine w0 (k := ?_)
                      refine w0 (k := ?_)
                      refine w0 (k := ?_)
                      refine ocw [] [660] [4, 0] none (spec := s_isNumber s.num zb hnum) (hent := ent45) (k := ?_)
                      refine v0 (k := ?_)
                      refine v0 (k := ?_)
                      refine b0 (k1 := fun hb10 => ?_) (k0 := fun hb10 => ?_)
                      · try simp only [decide_eq_true_eq, decide_eq_false_iff_not, Int.not_lt, Int.not_le, Bool.not_eq_eq_eq_not, Bool.not_true, Bool.not_false, Bool.and_eq_true, Bool.and_eq_false_iff, Bool.or_eq_true, Bool.or_eq_false_iff] at hb10
                        try rw [eqI] at hb10
                        refine w0 (k := ?_)
                        refine w0 (k := ?_)
                        refine w0 (k := ?_)
                        refine w0 (k := ?_)
                        refine w0 (k := ?_)
                        refine v0 (k := ?_)
                        refine go_b 80 (by (simp only [mkFr_cons, Nat.reduceEqDiff, reduceIte] <;> rfl)) (fun hb11 => ?_) (fun hb11 => ?_)
                        · try simp only [decide_eq_true_eq, decide_eq_false_iff_not, Int.not_lt, Int.not_le, Bool.not_eq_eq_eq_not, Bool.not_true, Bool.not_false, Bool.and_eq_true, Bool.and_eq_false_iff, Bool.or_eq_true, Bool.or_eq_false_iff] at hb11
                          try rw [eqI] at hb11
                          refine pc0 (spec := s_must_t _) (hent := ent44) (k := ?_)
                          refine nil0 ?_
                          refine cl [2, 4, 6, 58, 59, 60] (k := ?_)
                          repeat refine gwp_seq ?_
                          refine gwp_region ?_
                          refine v0 (k := ?_)
                          refine v0 (k := ?_)
                          refine rb 83 false (h := by (rfl)) (k := ?_)
                          refine nil0 ?_
                          repeat refine gwp_seq ?_
                          refine cF (k := ?_)
                          repeat refine gwp_seq ?_
                          refine rd ?_
                          refine d0 0 (k := ?_)
                          refine d0 1 (k := ?_)
                          refine d0 2 (k := ?_)
                          refine d0 3 (k := ?_)
                          refine d0 4 (k := ?_)
                          refine d0 5 (k := ?_)
                          refine d0 6 (k := ?_)
                          refine d0 7 (k := ?_)
                          refine d0 8 (k := ?_)
                          refine d0 9 (k := ?_)
                          refine d0 10 (k := ?_)
                          refine dn1 11 1200 false (hc := by (first | exact True.intro | (simp only [inI]; omega) | (simp [P.size, nt, wP, pn, all_int, allOne_p, goods_p, allOne, goods, good, G.one, P.one, P.cells] <;> first | omega | assumption | simp_all))) (k := ?_)
                          refine dn1 12 1210 false (hc := by (first | exact True.intro | (simp only [inI]; omega) | (simp [P.size, nt, wP, pn, all_int, allOne_p, goods_p, allOne, goods, good, G.one, P.one, P.cells] <;> first | omega | assumption | simp_all))) (k := ?_)
                          refine d0 13 (k := ?_)
                          refine d0 14 (k := ?_)
                          refine ds1 15 (hc := by (first | exact True.intro | (simp only [inI]; omega) | (simp [P.size, nt, wP, pn, all_int, allOne_p, goods_p, allOne, goods, good, G.one, P.one, P.cells] <;> first | omega | assumption | simp_all))) (k := ?_)
                          refine dz 16 [0, 0, 2, 6, 14, 0, 32, 0, 128, 480, 992, 2016, 4094, 8191, 16383, 32767] (h := ?_)
                          refine de 16 (h := ?_)
                          refine cl [2, 4, 58, 59, 60] (k := ?_)
                          repeat refine gwp_seq ?_
                          refine gwp_region ?_
                          refine v1 (hc := by (first | exact True.intro | (simp only [inI]; omega) | (simp [P.size, nt, wP, pn, all_int, allOne_p, goods_p, allOne, goods, good, G.one, P.one, P.cells] <;> first | omega | assumption | simp_all))) (k := ?_)
                          refine v0 (k := ?_)
                          refine nil0 ?_
                          refine lend [2, 4, 58, 59, 60] (h := ?_) (hV := ?_) (n' := s.notes.length - (k + 1))
                          · omega
                          refine ⟨k + 1, by omega, all_step hz (by simp [okN]; omega) ha, rfl, sgE rfl ?_⟩
                          rw [List.take_add_one, hz]
                          simp [nt]
                        · try simp only [decide_eq_true_eq, decide_eq_false_iff_not, Int.not_lt, Int.not_le, Bool.not_eq_eq_eq_not, Bool.not_true, Bool.not_false, Bool.and_eq_true, Bool.and_eq_false_iff, Bool.or_eq_true, Bool.or_eq_false_iff] at hb11
                          try rw [eqI] at hb11
                          refine pp0 (spec := s_must_f _) (hent := ent44) (k := ?_)
                          repeat (first | refine gthen_panic ?_ | refine gblock_panic ?_)
                          refine finD_panic ?_
                          refine out_panic ?_
                          have hv : s.valid = false := by
                            cases hv : s.valid
                            · rfl
                            · exfalso
                              simp only [Sh.valid, Sh.head, Bool.and_eq_true, decide_eq_true_eq, Bool.not_eq_eq_eq_not, Bool.not_true, decide_eq_false_iff_not] at hv
                              first
                              | omega
                              | (have := List.all_eq_true.1 hv.2 _ (List.mem_of_getElem? hz); simp [okN] at this; omega)
                              | (have := hv.1.2; simp_all; done)
                          simp only [hv, Bool.false_eq_true, if_false]
                      · try simp only [decide_eq_true_eq, decide_eq_false_iff_not, Int.not_lt, Int.not_le, Bool.not_eq_eq_eq_not, Bool.not_true, Bool.not_false, Bool.and_eq_true, Bool.and_eq_false_iff, Bool.or_eq_true, Bool.or_eq_false_iff] at hb10
                        try rw [eqI] at hb10
                        refine x0 (k := ?_)
                        refine x0 (k := ?_)
                        refine x0 (k := ?_)
                        refine x0 (k := ?_)
                        refine x0 (k := ?_)
                        refine v0 (k := ?_)
                        refine pp0 (spec := s_must_f _) (hent := ent44) (k := ?_)
                        repeat (first | refine gthen_panic ?_ | refine gblock_panic ?_)
                        refine finD_panic ?_
                        refine out_panic ?_
                        have hv : s.valid = false := by
                          cases hv : s.valid
                          · rfl
                          · exfalso
                            simp only [Sh.valid, Sh.head, Bool.and_eq_true, decide_eq_true_eq, Bool.not_eq_eq_eq_not, Bool.not_true, decide_eq_false_iff_not] at hv
                            first
                            | omega
                            | (have := List.all_eq_true.1 hv.2 _ (List.mem_of_getElem? hz); simp [okN] at this; omega)
                            | (have := hv.1.2; simp_all; done)
                        simp only [hv, Bool.false_eq_true, if_false]
                    · try simp only [decide_eq_true_eq, decide_eq_false_iff_not, Int.not_lt, Int.not_le, Bool.not_eq_eq_eq_not, Bool.not_true, Bool.not_false, Bool.and_eq_true, Bool.and_eq_false_iff, Bool.or_eq_true, Bool.or_eq_false_iff] at hb9
                      try rw [eqI] at hb9
                      refine x0 (k := ?_)
                      refine x0 (k := ?_)
                      refine x0 (k := ?_)
                      refine x0 (k := ?_)
                      refine v0 (k := ?_)
                      refine v0 (k := ?_)
                      refine x0 (k := ?_)
                      refine x0 (k := ?_)
                      refine x0 (k := ?_)
                      refine x0 (k := ?_)
                      refine x0 (k := ?_)
                      refine v0 (k := ?_)
                      refine pp0 (spec := s_must_f _) (hent := ent44) (k := ?_)
                      repeat (first | refine gthen_panic ?_ | refine gblock_panic ?_)
                      refine finD_panic ?_
                      refine out_panic ?_
                      have hv : s.valid = false := by
                        cases hv : s.valid
                        · rfl
                        · exfalso
                          simp only [Sh.valid, Sh.head, Bool.and_eq_true, decide_eq_true_eq, Bool.not_eq_eq_eq_not, Bool.not_true, decide_eq_false_iff_not] at hv
                          first
                          | omega
                          | (have := List.all_eq_true.1 hv.2 _ (List.mem_of_getElem? hz); simp [okN] at this; omega)
                          | (have := hv.1.2; simp_all; done)
                      simp only [hv, Bool.false_eq_true, if_false]
                  · repeat refine gwp_seq ?_
                    refine gwp_region ?_
                    refine v1 (hc := by (first | exact True.intro | (simp only [inI]; omega) | (simp [P.size, nt, wP, pn, all_int, allOne_p, goods_p, allOne, goods, good, G.one, P.one, P.cells] <;> first | omega | assumption | simp_all))) (k := ?_)
                    refine v0 (k := ?_)
                    refine n1 160 false (hc := by (first | exact True.intro | (simp only [inI]; omega) | (simp [P.size, nt, wP, pn, all_int, allOne_p, goods_p, allOne, goods, good, G.one, P.one, P.cells] <;> first | omega | assumption | simp_all))) (k := ?_)
                    refine s1 (hc := by (first | exact True.intro | (simp only [inI]; omega) | (simp [P.size, nt, wP, pn, all_int, allOne_p, goods_p, allOne, goods, good, G.one, P.one, P.cells] <;> first | omega | assumption | simp_all))) (k := ?_)
                    refine nil0 ?_
                    refine cl [2, 4, 6, 58, 59, 60] (k := ?_)
                    repeat refine gwp_seq ?_
                    refine gwp_region ?_
                    refine v0 (k := ?_)
                    refine v0 (k := ?_)
                    refine v0 (k := ?_)
                    refine oc0 [] [660] [4, 0] none (spec := s_isNumber s.num za hnum) (hent := ent45) (k := ?_)
                    refine v0 (k := ?_)
                    refine b0 (k1 := fun hb12 => ?_) (k0 := fun hb12 => ?_)
                    · try simp only [decide_eq_true_eq, decide_eq_false_iff_not, Int.not_lt, Int.not_le, Bool.not_eq_eq_eq_not, Bool.not_true, Bool.not_false, Bool.and_eq_true, Bool.and_eq_false_iff, Bool.or_eq_true, Bool.or_eq_false_iff] at hb12
                      try rw [eqI] at hb12
                      refine w0 (k := ?_)
                      refine w0 (k := ?_)
                      refine w0 (k := ?_)
                      refine ocw [] [660] [4, 0] none (spec := s_isNumber s.num zb hnum) (hent := ent45) (k := ?_)
                      refine v0 (k := ?_)
                      refine v0 (k := ?_)
                      refine b0 (k1 := fun hb13 => ?_) (k0 := fun hb13 => ?_)
                      · try simp only [decide_eq_true_eq, decide_eq_false_iff_not, Int.not_lt, Int.not_le, Bool.not_eq_eq_eq_not, Bool.not_true, Bool.not_false, Bool.and_eq_true, Bool.and_eq_false_iff, Bool.or_eq_true, Bool.or_eq_false_iff] at hb13
                        try rw [eqI] at hb13
                        refine w0 (k := ?_)
                        refine w0 (k := ?_)
                        refine w0 (k := ?_)
                        refine w0 (k := ?_)
                        refine w0 (k := ?_)
                        refine v0 (k := ?_)
                        refine go_b 80 (by (simp only [mkFr_cons, Nat.reduceEqDiff, reduceIte] <;> rfl)) (fun hb14 => ?_) (fun hb14 => ?_)
                        · try simp only [decide_eq_true_eq, decide_eq_false_iff_not, Int.not_lt, Int.not_le, Bool.not_eq_eq_eq_not, Bool.not_true, Bool.not_false, Bool.and_eq_true, Bool.and_eq_false_iff, Bool.or_eq_true, Bool.or_eq_false_iff] at hb14
                          try rw [eqI] at hb14
                          refine pc0 (spec := s_must_t _) (hent := ent44) (k := ?_)
                          refine nil0 ?_
                          refine cl [2, 4, 6, 58, 59, 60] (k := ?_)
                          repeat refine gwp_seq ?_
                          refine gwp_region ?_
                          refine v0 (k := ?_)
                          refine v0 (k := ?_)
                          refine rb 83 true (h := by (rfl)) (k := ?_)
                          refine nil0 ?_
                          repeat refine gwp_seq ?_
                          refine cT (k := ?_)
                          repeat refine gwp_seq ?_
                          refine rd ?_
                          refine d0 0 (k := ?_)
                          refine d0 1 (k := ?_)
                          refine d0 2 (k := ?_)
                          refine d0 3 (k := ?_)
                          refine d0 4 (k := ?_)
                          refine d0 5 (k := ?_)
                          refine d0 6 (k := ?_)
                          refine d0 7 (k := ?_)
                          refine d0 8 (k := ?_)
                          refine d0 9 (k := ?_)
                          refine d0 10 (k := ?_)
                          refine dn1 11 1050 false (hc := by (first | exact True.intro | (simp only [inI]; omega) | (simp [P.size, nt, wP, pn, all_int, allOne_p, goods_p, allOne, goods, good, G.one, P.one, P.cells] <;> first | omega | assumption | simp_all))) (k := ?_)
                          refine dn1 12 1060 false (hc := by (first | exact True.intro | (simp only [inI]; omega) | (simp [P.size, nt, wP, pn, all_int, allOne_p, goods_p, allOne, goods, good, G.one, P.one, P.cells] <;> first | omega | assumption | simp_all))) (k := ?_)
                          refine d0 13 (k := ?_)
                          refine d0 14 (k := ?_)
                          refine ds1 15 (hc := by (first | exact True.intro | (simp only [inI]; omega) | (simp [P.size, nt, wP, pn, all_int, allOne_p, goods_p, allOne, goods, good, G.one, P.one, P.cells] <;> first | omega | assumption | simp_all))) (k := ?_)
                          refine dz 16 [0, 0, 2, 6, 14, 0, 32, 0, 128, 480, 992, 2016, 4094, 8191, 16383, 32767] (h := ?_)
                          refine de 16 (h := ?_)
                          refine cl [2, 4, 58, 59, 60] (k := ?_)
                          repeat refine gwp_seq ?_
                          refine gwp_region ?_
                          refine v1 (hc := by (first | exact True.intro | (simp only [inI]; omega) | (simp [P.size, nt, wP, pn, all_int, allOne_p, goods_p, allOne, goods, good, G.one, P.one, P.cells] <;> first | omega | assumption | simp_all))) (k := ?_)
                          refine v0 (k := ?_)
                          refine nil0 ?_
                          refine lend [2, 4, 58, 59, 60] (h := ?_) (hV := ?_) (n' := s.notes.length - (k + 1))
                          · omega
                          refine ⟨k + 1, by omega, all_step hz (by simp [okN]; omega) ha, rfl, sgE rfl ?_⟩
                          rw [List.take_add_one, hz]
                          simp [nt]
                        · try simp only [decide_eq_true_eq, decide_eq_false_iff_not, Int.not_lt, Int.not_le, Bool.not_eq_eq_eq_not, Bool.not_true, Bool.not_false, Bool.and_eq_true, Bool.and_eq_false_iff, Bool.or_eq_true, Bool.or_eq_false_iff] at hb14
                          try rw [eqI] at hb14
                          refine pp0 (spec := s_must_f _) (hent := ent44) (k := ?_)
                          repeat (first | refine gthen_panic ?_ | refine gblock_panic ?_)
                          refine finD_panic ?_
                          refine out_panic ?_
                          have hv : s.valid = false := by
                            cases hv : s.valid
                            · rfl
                            · exfalso
                              simp only [Sh.valid, Sh.head, Bool.and_eq_true, decide_eq_true_eq, Bool.not_eq_eq_eq_not, Bool.not_true, decide_eq_false_iff_not] at hv
                              first
                              | omega
                              | (have := List.all_eq_true.1 hv.2 _ (List.mem_of_getElem? hz); simp [okN] at this; omega)
                              | (have := hv.1.2; simp_all; done)
                          simp only [hv, Bool.false_eq_true, if_false]
                      · try simp only [decide_eq_true_eq, decide_eq_false_iff_not, Int.not_lt, Int.not_le, Bool.not_eq_eq_eq_not, Bool.not_true, Bool.not_false, Bool.and_eq_true, Bool.and_eq_false_iff, Bool.or_eq_true, Bool.or_eq_false_iff] at hb13
                        try rw [eqI] at hb13
                        refine x0 (k := ?_)
                        refine x0 (k := ?_)
                        refine x0 (k := ?_)
                        refine x0 (k := ?_)
                        refine x0 (k := ?_)
                        refine v0 (k := ?_)
                        refine pp0 (spec := s_must_f _) (hent := ent44) (k := ?_)
                        repeat (first | refine gthen_panic ?_ | refine gblock_panic ?_)
                        refine finD_panic ?_
                        refine out_panic ?_
                        have hv : s.valid = false := by
                          cases hv : s.valid
                          · rfl
                          · exfalso
                            simp only [Sh.valid, Sh.head, Bool.and_eq_true, decide_eq_true_eq, Bool.not_eq_eq_eq_not, Bool.not_true, decide_eq_false_iff_not] at hv
                            first
                            | omega
                            | (have := List.all_eq_true.1 hv.2 _ (List.mem_of_getElem? hz); simp [okN] at this; omega)
                            | (have := hv.1.2; simp_all; done)
                        simp only [hv, Bool.false_eq_true, if_false]
                    · try simp only [decide_eq_true_eq, decide_eq_false_iff_not, Int.not_lt, Int.not_le, Bool.not_eq_eq_eq_not, Bool.not_true, Bool.not_false, Bool.and_eq_true, Bool.and_eq_false_iff, Bool.or_eq_true, Bool.or_eq_false_iff] at hb12
                      try rw [eqI] at hb12
                      refine x0 (k := ?_)
                      refine x0 (k := ?_)
                      refine x0 (k := ?_)
                      refine x0 (k := ?_)
                      refine v0 (k := ?_)
                      refine v0 (k := ?_)
                      refine x0 (k := ?_)
                      refine x0 (k := ?_)
                      refine x0 (k := ?_)
                      refine x0 (k := ?_)
                      refine x0 (k := ?_)
                      refine v0 (k := ?_)
                      refine pp0 (spec := s_must_f _) (hent := ent44) (k := ?_)
                      repeat (first | refine gthen_panic ?_ | refine gblock_panic ?_)
                      refine finD_panic ?_
                      refine out_panic ?_
                      have hv : s.valid = false := by
                        cases hv : s.valid
                        · rfl
                        · exfalso
                          simp only [Sh.valid, Sh.head, Bool.and_eq_true, decide_eq_true_eq, Bool.not_eq_eq_eq_not, Bool.not_true, decide_eq_false_iff_not] at hv
                          first
                          | omega
                          | (have := List.all_eq_true.1 hv.2 _ (List.mem_of_getElem? hz); simp [okN] at this; omega)
                          | (have := hv.1.2; simp_all; done)
                      simp only [hv, Bool.false_eq_true, if_false]
                · try simp only [decide_eq_true_eq, decide_eq_false_iff_not, Int.not_lt, Int.not_le, Bool.not_eq_eq_eq_not, Bool.not_true, Bool.not_false, Bool.and_eq_true, Bool.and_eq_false_iff, Bool.or_eq_true, Bool.or_eq_false_iff] at hb8
                  try rw [eqI] at hb8
                  repeat refine gwp_seq ?_
                  refine gwp_exit ?_
                  repeat (first | refine gthen_exit ?_ | refine gnoGoto_exit ?_ | refine gblock_here ?_ | refine gblock_out rfl ?_)
                  refine cl [2, 4] (k := ?_)
                  repeat refine gwp_seq ?_
                  have hke : k = s.notes.length := by omega
                  subst hke
                  rw [List.take_length] at ha
                  rw [List.take_length]
                  have hv : s.valid = true := by
                    simp only [Sh.valid, Sh.head, ha, Bool.and_eq_true, decide_eq_true_eq, Bool.not_eq_eq_eq_not, Bool.not_true, decide_eq_false_iff_not, and_true]
                    exact ⟨by omega, by assumption⟩
                  have hmany := onN_many s (by omega)
                  refine gwp_region ?_
                  refine v0 (k := ?_)
                  refine oc0 [] [660] [8] none (spec := s_all s) (hent := ent69) (k := ?_)
                  refine nil0 ?_
                  refine cl [2, 4, 116] (k := ?_)
                  repeat refine gwp_seq ?_
                  refine gwp_block ?_
                  repeat refine gwp_seq ?_
                  refine rf 10000 99001 [117] (fun k (z : Nat) A1 => z = k ∧ z ≤ (onN s).length ∧ A1 = A) (fun z => [(140, .cells [.ref 660 0] 0), (660, .cells [.p (.int .i64 s.num), .p (.list (s.sizes.map (.int .i64))), .p (.int .i64 s.lo), .p (.int .i64 s.hi), .p (.list (s.notes.map pn)), .own 2000 s.notes.length, .own 2010 z, .map 640] 5), (2000, .arr 109 1 (s.notes.map nt) true), (2010, .arr 84 8 (((onN s).take z).map wP) true), (640, .map [])]) (fun _ _ _ => False) (fun _ _ => []) [] [.n [.n [.k, .k, .k, .k, .k]]] (it := it_all s hv) (hent := ent75) (xs := (onN s).map fun w => [wP w]) (hlen := fun x hx => by obtain ⟨w, _, rfl⟩ := List.mem_map.1 hx; rfl) (h0 := ?_) (round := fun k z A1 x hI hx lp bs C1 hN1 hL1 => ?_) (hK := fun e z A1 hK => ?_) (hI := fun z A1 hI => ?_)
                  · exact ⟨0, ⟨rfl, Nat.zero_le _, rfl⟩, rfl⟩
                  · obtain ⟨rfl, hz0, rfl⟩ := hI
                    rw [List.getElem?_map] at hx
                    obtain ⟨w, hw, rfl⟩ := Option.map_eq_some_iff.1 hx
                    have hw8 := onN_len8 s w (List.mem_of_getElem? hw)
                    have hzl := (List.getElem?_eq_some_iff.1 hw).1
                    replace hN1 : C1.N = 129 := hN1.trans hN
                    refine (?_ : gwp C1 (some lp) _ _ (sg ((117, .p (wP w)) :: _) [(140, .cells [.ref 660 0] 0), (660, .cells [.p (.int .i64 s.num), .p (.list (s.sizes.map (.int .i64))), .p (.int .i64 s.lo), .p (.int .i64 s.hi), .p (.list (s.notes.map pn)), .own 2000 s.notes.length, .own 2010 z, .map 640] 5), (2000, .arr 109 1 (s.notes.map nt) true), (2010, .arr 84 8 (((onN s).take z).map wP) true), (640, .map [])] A1 []))
                    repeat refine gwp_seq ?_
                    refine gwp_region ?_
                    refine n1 10170 false (hc := by (first | exact True.intro | (simp only [inI]; omega) | (simp [P.size, nt, wP, pn, all_int, allOne_p, goods_p, allOne, goods, good, G.one, P.one, P.cells] <;> first | omega | assumption | simp_all))) (k := ?_)
                    refine s1 (hc := by (first | exact True.intro | (simp only [inI]; omega) | (simp [P.size, nt, wP, pn, all_int, allOne_p, goods_p, allOne, goods, good, G.one, P.one, P.cells] <;> first | omega | assumption | simp_all))) (k := ?_)
                    refine nil0 ?_
                    refine ⟨rfl, fun bs2 C2 hN2 hL2 hr2 => ?_⟩
                    replace hN2 : C2.N = 129 := hN2.trans hN
                    refine (?_ : gwp C2 (some lp) _ _ (sg _ _ _ []))
                    repeat refine gwp_seq ?_
                    refine gwp_block ?_
                    repeat refine gwp_seq ?_
                    refine rd ?_
                    refine d0 0 (k := ?_)
                    refine d0 1 (k := ?_)
                    refine d0 2 (k := ?_)
                    refine d0 3 (k := ?_)
                    refine d0 4 (k := ?_)
                    refine d0 5 (k := ?_)
                    refine dn1 6 11340 false (hc := by (first | exact True.intro | (simp only [inI]; omega) | (simp [P.size, nt, wP, pn, all_int, allOne_p, goods_p, allOne, goods, good, G.one, P.one, P.cells] <;> first | omega | assumption | simp_all))) (k := ?_)
                    refine dn1 7 11350 false (hc := by (first | exact True.intro | (simp only [inI]; omega) | (simp [P.size, nt, wP, pn, all_int, allOne_p, goods_p, allOne, goods, good, G.one, P.one, P.cells] <;> first | omega | assumption | simp_all))) (k := ?_)
                    refine d0 8 (k := ?_)
                    refine d0 9 (k := ?_)
                    refine ds1 10 (hc := by (first | exact True.intro | (simp only [inI]; omega) | (simp [P.size, nt, wP, pn, all_int, allOne_p, goods_p, allOne, goods, good, G.one, P.one, P.cells] <;> first | omega | assumption | simp_all))) (k := ?_)
                    refine dz 11 [0, 0, 2, 6, 14, 0, 32, 126, 255, 511, 1023] (h := ?_)
                    refine de 11 (h := ?_)
                    refine ⟨_, z + 1, lc [140, 660, 2000, 2010, 640], ?_, rfl, by omega, rfl⟩
                    rw [List.take_add_one, hw]
                    simp [wP]
                  · exact hK.elim
                  · obtain ⟨hz, _, rfl⟩ := hI
                    rw [List.length_map] at hz
                    subst hz
                    rw [List.take_length]
                    refine cl [4] (k := ?_)
                    repeat refine gwp_seq ?_
                    refine gwp_region ?_
                    refine v0 (k := ?_)
                    refine v0 (k := ?_)
                    refine nil0 ?_
                    repeat refine gwp_seq ?_
                    refine fz 660 8 [.k, .k, .k, .k, .k, .p, .p, .k] (k := ?_)
                    refine cv 2 (.n [.k, .k, .k, .k, .k, .k, .k, .k]) (k := ?_)
                    refine gwp_ret ?_
                    repeat (first | refine gthen_ret ?_ | refine gblock_ret ?_ | refine gnoGoto_ret ?_)
                    refine finD_ret ?_
                    refine om (h := ?_)
                    refine out_nil ?_
                    refine fh [640] (hR := ?_)
                    simp only [hv, if_true]
              · try simp only [decide_eq_true_eq, decide_eq_false_iff_not, Int.not_lt, Int.not_le, Bool.not_eq_eq_eq_not, Bool.not_true, Bool.not_false, Bool.and_eq_true, Bool.and_eq_false_iff, Bool.or_eq_true, Bool.or_eq_false_iff] at hb7
                try rw [eqI] at hb7
                refine pp0 (spec := s_must_f _) (hent := ent44) (k := ?_)
                repeat (first | refine gthen_panic ?_ | refine gblock_panic ?_)
                refine finD_panic ?_
                refine out_panic ?_
                have hv : s.valid = false := by
                  cases hv : s.valid
                  · rfl
                  · exfalso
                    simp only [Sh.valid, Sh.head, Bool.and_eq_true, decide_eq_true_eq, Bool.not_eq_eq_eq_not, Bool.not_true, decide_eq_false_iff_not] at hv
                    first
                    | omega
                    | (have := List.all_eq_true.1 hv.2 _ (List.mem_of_getElem? hz); simp [okN] at this; omega)
                    | (have := hv.1.2; simp_all; done)
                simp only [hv, Bool.false_eq_true, if_false]
            · try simp only [decide_eq_true_eq, decide_eq_false_iff_not, Int.not_lt, Int.not_le, Bool.not_eq_eq_eq_not, Bool.not_true, Bool.not_false, Bool.and_eq_true, Bool.and_eq_false_iff, Bool.or_eq_true, Bool.or_eq_false_iff] at hb6
              try rw [eqI] at hb6
              refine x0 (k := ?_)
              refine x0 (k := ?_)
              refine x0 (k := ?_)
              refine x0 (k := ?_)
              refine v0 (k := ?_)
              refine pp0 (spec := s_must_f _) (hent := ent44) (k := ?_)
              repeat (first | refine gthen_panic ?_ | refine gblock_panic ?_)
              refine finD_panic ?_
              refine out_panic ?_
              have hv : s.valid = false := by
                cases hv : s.valid
                · rfl
                · exfalso
                  simp only [Sh.valid, Sh.head, Bool.and_eq_true, decide_eq_true_eq, Bool.not_eq_eq_eq_not, Bool.not_true, decide_eq_false_iff_not] at hv
                  first
                  | omega
                  | (have := List.all_eq_true.1 hv.2 _ (List.mem_of_getElem? hz); simp [okN] at this; omega)
                  | (have := hv.1.2; simp_all; done)
              simp only [hv, Bool.false_eq_true, if_false]
          · try simp only [decide_eq_true_eq, decide_eq_false_iff_not, Int.not_lt, Int.not_le, Bool.not_eq_eq_eq_not, Bool.not_true, Bool.not_false, Bool.and_eq_true, Bool.and_eq_false_iff, Bool.or_eq_true, Bool.or_eq_false_iff] at hb5
            try rw [eqI] at hb5
            refine x0 (k := ?_)
            refine x0 (k := ?_)
            refine x0 (k := ?_)
            refine x0 (k := ?_)
            refine x0 (k := ?_)
            refine x0 (k := ?_)
            refine x0 (k := ?_)
            refine v0 (k := ?_)
            refine v0 (k := ?_)
            refine x0 (k := ?_)
            refine x0 (k := ?_)
            refine x0 (k := ?_)
            refine x0 (k := ?_)
            refine v0 (k := ?_)
            refine pp0 (spec := s_must_f _) (hent := ent44) (k := ?_)
            repeat (first | refine gthen_panic ?_ | refine gblock_panic ?_)
            refine finD_panic ?_
            refine out_panic ?_
            have hv : s.valid = false := by
              cases hv : s.valid
              · rfl
              · exfalso
                simp only [Sh.valid, Sh.head, Bool.and_eq_true, decide_eq_true_eq, Bool.not_eq_eq_eq_not, Bool.not_true, decide_eq_false_iff_not] at hv
                first
                | omega
                | (have := List.all_eq_true.1 hv.2 _ (List.mem_of_getElem? hz); simp [okN] at this; omega)
                | (have := hv.1.2; simp_all; done)
            simp only [hv, Bool.false_eq_true, if_false]
        · try simp only [decide_eq_true_eq, decide_eq_false_iff_not, Int.not_lt, Int.not_le, Bool.not_eq_eq_eq_not, Bool.not_true, Bool.not_false, Bool.and_eq_true, Bool.and_eq_false_iff, Bool.or_eq_true, Bool.or_eq_false_iff] at hb4
          try rw [eqI] at hb4
          refine pp0 (spec := s_must_f _) (hent := ent44) (k := ?_)
          repeat (first | refine gthen_panic ?_ | refine gblock_panic ?_)
          refine finD_panic ?_
          refine out_panic ?_
          have hv : s.valid = false := by
            cases hv : s.valid
            · rfl
            · exfalso
              simp only [Sh.valid, Sh.head, Bool.and_eq_true, decide_eq_true_eq, Bool.not_eq_eq_eq_not, Bool.not_true, decide_eq_false_iff_not] at hv
              first
              | omega
              | (have := List.all_eq_true.1 hv.2 _ (List.mem_of_getElem? hz); simp [okN] at this; omega)
              | (have := hv.1.2; simp_all; done)
          simp only [hv, Bool.false_eq_true, if_false]
      · try simp only [decide_eq_true_eq, decide_eq_false_iff_not, Int.not_lt, Int.not_le, Bool.not_eq_eq_eq_not, Bool.not_true, Bool.not_false, Bool.and_eq_true, Bool.and_eq_false_iff, Bool.or_eq_true, Bool.or_eq_false_iff] at hb3
        try rw [eqI] at hb3
        refine x0 (k := ?_)
        refine x0 (k := ?_)
        refine x0 (k := ?_)
        refine x0 (k := ?_)
        refine v0 (k := ?_)
        refine pp0 (spec := s_must_f _) (hent := ent44) (k := ?_)
        repeat (first | refine gthen_panic ?_ | refine gblock_panic ?_)
        refine finD_panic ?_
        refine out_panic ?_
        have hv : s.valid = false := by
          cases hv : s.valid
          · rfl
          · exfalso
            simp only [Sh.valid, Sh.head, Bool.and_eq_true, decide_eq_true_eq, Bool.not_eq_eq_eq_not, Bool.not_true, decide_eq_false_iff_not] at hv
            first
            | omega
            | (have := List.all_eq_true.1 hv.2 _ (List.mem_of_getElem? hz); simp [okN] at this; omega)
            | (have := hv.1.2; simp_all; done)
        simp only [hv, Bool.false_eq_true, if_false]
    · try simp only [decide_eq_true_eq, decide_eq_false_iff_not, Int.not_lt, Int.not_le, Bool.not_eq_eq_eq_not, Bool.not_true, Bool.not_false, Bool.and_eq_true, Bool.and_eq_false_iff, Bool.or_eq_true, Bool.or_eq_false_iff] at hb2
      try rw [eqI] at hb2
      refine x0 (k := ?_)
      refine x0 (k := ?_)
      refine x0 (k := ?_)
      refine x0 (k := ?_)
      refine x0 (k := ?_)
      refine v0 (k := ?_)
      refine v0 (k := ?_)
      refine x0 (k := ?_)
      refine x0 (k := ?_)
      refine x0 (k := ?_)
      refine x0 (k := ?_)
      refine v0 (k := ?_)
      refine pp0 (spec := s_must_f _) (hent := ent44) (k := ?_)
      repeat (first | refine gthen_panic ?_ | refine gblock_panic ?_)
      refine finD_panic ?_
      refine out_panic ?_
      have hv : s.valid = false := by
        cases hv : s.valid
        · rfl
        · exfalso
          simp only [Sh.valid, Sh.head, Bool.and_eq_true, decide_eq_true_eq, Bool.not_eq_eq_eq_not, Bool.not_true, decide_eq_false_iff_not] at hv
          first
          | omega
          | (have := List.all_eq_true.1 hv.2 _ (List.mem_of_getElem? hz); simp [okN] at this; omega)
          | (have := hv.1.2; simp_all; done)
      simp only [hv, Bool.false_eq_true, if_false]
  · try simp only [decide_eq_true_eq, decide_eq_false_iff_not, Int.not_lt, Int.not_le, Bool.not_eq_eq_eq_not, Bool.not_true, Bool.not_false, Bool.and_eq_true, Bool.and_eq_false_iff, Bool.or_eq_true, Bool.or_eq_false_iff] at hb1
    try rw [eqI] at hb1
    refine x0 (k := ?_)
    refine x0 (k := ?_)
    refine x0 (k := ?_)
    refine x0 (k := ?_)
    refine x0 (k := ?_)
    refine x0 (k := ?_)
    refine v0 (k := ?_)
    refine v0 (k := ?_)
    refine x0 (k := ?_)
    refine x0 (k := ?_)
    refine x0 (k := ?_)
    refine x0 (k := ?_)
    refine x0 (k := ?_)
    refine v0 (k := ?_)
    refine v0 (k := ?_)
    refine x0 (k := ?_)
    refine x0 (k := ?_)
    refine x0 (k := ?_)
    refine x0 (k := ?_)
    refine v0 (k := ?_)
    refine pp0 (spec := s_must_f _) (hent := ent44) (k := ?_)
    repeat (first | refine gthen_panic ?_ | refine gblock_panic ?_)
    refine finD_panic ?_
    refine out_panic ?_
    have hv : s.valid = false := by
      cases hv : s.valid
      · rfl
      · exfalso
        simp only [Sh.valid, Sh.head, Bool.and_eq_true, decide_eq_true_eq, Bool.not_eq_eq_eq_not, Bool.not_true, decide_eq_false_iff_not] at hv
        first
        | omega
        | (have := List.all_eq_true.1 hv.2 _ (List.mem_of_getElem? hz); simp [okN] at this; omega)
        | (have := hv.1.2; simp_all; done)
    simp only [hv, Bool.false_eq_true, if_false]
theorem s_open_t {E : Env Try.prog} {A : E.α} (s : Sh) (hv : s.valid = true) : Gh.Spec E 43 [.p (.agg [.int .i64 s.num, .list (s.sizes.map (.int .i64)), .int .i64 s.lo, .int .i64 s.hi, .list (s.notes.map pn)])] (mkHp []) A (fun y => y = .ok (.ptr [.p (.int .i64 s.num), .p (.list (s.sizes.map (.int .i64))), .p (.int .i64 s.lo), .p (.int .i64 s.hi), .p (.list (s.notes.map pn)), .p (.list (s.notes.map nt)), .p (.list ((onN s).map wP)), .map 640]) (mkHp [(640, .map [])]) A) := by
  have h := valid_num hv
  exact (s_open s (by omega) (by omega)).mono fun y hy => by rwa [if_pos hv] at hy
theorem s_open_f {E : Env Try.prog} {A : E.α} (s : Sh) (h1 : s.sizes.length ≤ 1048576) (h2 : s.notes.length ≤ 1048576) (hv : s.valid = false) : Gh.Spec E 43 [.p (.agg [.int .i64 s.num, .list (s.sizes.map (.int .i64)), .int .i64 s.lo, .int .i64 s.hi, .list (s.notes.map pn)])] (mkHp []) A (fun y => y = .panic (.iface 105 (.agg [.int .i64 1])) (mkHp []) A) :=
  (s_open s h1 h2).mono fun y hy => by rwa [if_neg (by rw [hv]; simp)] at hy
end Go.Proofs.Ytedihdnkalmoiaa

/- What the program counts and gathers of ways. -/
namespace Go.Proofs.Ytedihdnkalmoiaa
open Go.Gh

/-- All notes but one. -/
def lessN (s : Sh) (i : Nat) : Nat := everyN s &&& (2 ^ 64 - 1 - 2 ^ i)
theorem lessN_lt {s : Sh} {i : Nat} (h : s.notes.length ≤ 12) : lessN s i < 4096 := Nat.lt_of_le_of_lt Nat.and_le_left (everyN_lt h)
/-- The notes that tell nothing, of the first ones. -/
def idleK (s : Sh) : Nat → Nat
  | 0 => 0
  | k + 1 => if ((onN s).filter (rightW s (lessN s k))).length = ((onN s).filter (rightW s (everyN s))).length then idleK s k ||| 2 ^ k else idleK s k
theorem idleK_lt (s : Sh) : ∀ k, idleK s k < 2 ^ k
  | 0 => by simp [idleK]
  | k + 1 => by
    have ih := idleK_lt s k
    have h2 : 2 ^ k < 2 ^ (k + 1) := by rw [Nat.pow_succ]; have := Nat.two_pow_pos k; omega
    simp only [idleK]
    split
    · exact Nat.or_lt_two_pow (by omega) h2
    · omega
theorem shl_u64 {n : Nat} (h : n ≤ 40) : IntKind.u64.wrap (1 * 2 ^ min n IntKind.u64.bits) = ((2 ^ n : Nat) : Int) := shl1_u64 n h
theorem shl_i64 {n : Nat} (h : n ≤ 40) : IntKind.i64.wrap (1 * 2 ^ min n IntKind.i64.bits) = ((2 ^ n : Nat) : Int) := shl1_i64 n h
theorem less_eq {s : Sh} {i : Nat} (h : s.notes.length ≤ 12) (hi : i ≤ 40) : bitop .andNot .u64 ((everyN s : Nat) : Int) ((2 ^ i : Nat) : Int) = ((lessN s i : Nat) : Int) := by
  have h1 := everyN_lt h
  have h2 : 2 ^ i ≤ 2 ^ 40 := Nat.pow_le_pow_right (by omega) hi
  exact bitop_andNot_u64 _ _ (by omega) (by omega)
theorem idle_or {s : Sh} {k : Nat} (hk : k ≤ 40) : bitop .or .i64 ((idleK s k : Nat) : Int) ((2 ^ k : Nat) : Int) = ((idleK s k ||| 2 ^ k : Nat) : Int) := by
  have h1 := idleK_lt s k
  have h2 : 2 ^ k ≤ 2 ^ 40 := Nat.pow_le_pow_right (by omega) hk
  exact bitop_or_i64 _ _ (by omega) (by omega)
theorem nv_of {s : Sh} (hv : s.valid = true) : ∀ (k : Nat) (n : Nt), s.notes[k]? = some n → 0 ≤ n.a ∧ n.a < 8 ∧ 0 ≤ n.b ∧ n.b < 8 ∧ n.a ≠ n.b := fun k n h => by
  have h1 := valid_note hv h
  have h2 := valid_num hv
  omega
theorem known_nil (s : Sh) (ws : List (List Int)) : known s ws [] := fun n b h => by simp [seen] at h
theorem must0_t {E : Env Try.prog} {A : E.α} (s : Sh) (hv : s.valid = true) (hcb : canB s (onN s) (everyN s) = true) : Gh.Spec E 46 [.ptr [.p (.int .i64 s.num), .p (.list (s.sizes.map (.int .i64))), .p (.int .i64 s.lo), .p (.int .i64 s.hi), .p (.list (s.notes.map pn)), .p (.list (s.notes.map nt)), .p (.list ((onN s).map wP)), .map 0]] (mkHp [(0, .map [])]) A (fun y => y = .ok (.ptr [.p (.int .i64 s.num), .p (.list (s.sizes.map (.int .i64))), .p (.int .i64 s.lo), .p (.int .i64 s.hi), .p (.list (s.notes.map pn)), .p (.list (s.notes.map nt)), .p (.list ((onN s).map wP)), .map 0]) (mkHp [(0, .map (mE (canE s (onN s) [] (everyN s))))]) A) := by
  have hn := valid_num hv
  have hm := onN_many s (by omega)
  exact s_mustw_t s (onN s) [] (onN_len8 s) (by omega) (by omega) (nv_of hv) (known_nil _ _) hcb
theorem must0_f {E : Env Try.prog} {A : E.α} (s : Sh) (hv : s.valid = true) (hcb : canB s (onN s) (everyN s) = false) : Gh.Spec E 46 [.ptr [.p (.int .i64 s.num), .p (.list (s.sizes.map (.int .i64))), .p (.int .i64 s.lo), .p (.int .i64 s.hi), .p (.list (s.notes.map pn)), .p (.list (s.notes.map nt)), .p (.list ((onN s).map wP)), .map 0]] (mkHp [(0, .map [])]) A (fun y => y = .panic (.iface 105 (.agg [.int .i64 10])) (mkHp [(0, .map (mE (canE s (onN s) [] (everyN s))))]) A) := by
  have hn := valid_num hv
  have hm := onN_many s (by omega)
  exact s_mustw_f s (onN s) [] (onN_len8 s) (by omega) (by omega) (nv_of hv) (known_nil _ _) hcb
end Go.Proofs.Ytedihdnkalmoiaa

/- What is told of two numbers, as the program finds it. -/
namespace Go.Proofs.Ytedihdnkalmoiaa
open Go.Gh

theorem und71 : Try.prog.underlying 71 = some (.array 2 4) := by kernel_rfl
theorem und4 : Try.prog.underlying 4 = some .bool := by kernel_rfl
theorem geq_pair (a b c d : Bool) : geq Try.prog 6 71 (.agg [.bool a, .bool b]) (.agg [.bool c, .bool d]) = some ((a == c) && ((b == d) && true)) := by
  simp only [geq, und71, ti_4, List.range, List.range.loop, List.map_cons, List.map_nil, ppart, isAggD, Bool.false_eq_true, if_false, Nat.zero_mul, Nat.one_mul, List.getElem?_cons_zero, List.getElem?_cons_succ, und4, allB]
theorem heg71 : Try.prog.eqGuardType Try.prog.depth 71 = false := by kernel_rfl
/-- Are both numbers one plate in some way?; in some not? -/
def same1 (a b : Int) (ws : List (List Int)) : Bool := ws.any fun w => decide (w[a.toNat]? = w[b.toNat]?)
def diff1 (a b : Int) (ws : List (List Int)) : Bool := ws.any fun w => !decide (w[a.toNat]? = w[b.toNat]?)
theorem same1_succ {a b x y : Int} {ws : List (List Int)} {z : Nat} {w : List Int} (h : ws[z]? = some w) (hx : w[a.toNat]? = some x) (hy : w[b.toNat]? = some y) : same1 a b (ws.take (z + 1)) = (same1 a b (ws.take z) || decide (x = y)) := by
  simp [same1, List.take_add_one, h, hx, hy]
theorem diff1_succ {a b x y : Int} {ws : List (List Int)} {z : Nat} {w : List Int} (h : ws[z]? = some w) (hx : w[a.toNat]? = some x) (hy : w[b.toNat]? = some y) : diff1 a b (ws.take (z + 1)) = (diff1 a b (ws.take z) || !decide (x = y)) := by
  simp [diff1, List.take_add_one, h, hx, hy]
/-- What is found behind so many questions. -/
def fnd (k : Nat) (d e : Bool) : Nat → Bool := fun j => if k < j then d || e else d
def sameV (d s : Bool) : Int := if d = false ∧ s = true then 1 else if d = true ∧ s = false then 0 else 2
theorem sameV_1 {d s : Bool} (h : (d == false) = true ∧ (s == true) = true) : sameV d s = 1 := by
  revert h; cases d <;> cases s <;> simp [sameV]
theorem sameV_0 {d s : Bool} (h : (d == true) = true ∧ (s == false) = true) : sameV d s = 0 := by
  revert h; cases d <;> cases s <;> simp [sameV]
theorem sameV_2 {d s : Bool} (h : (d == false) = false ∨ (s == true) = false) (h' : (d == true) = false ∨ (s == false) = false) : sameV d s = 2 := by
  revert h h'; cases d <;> cases s <;> simp [sameV]
theorem fnd_a {d e : Bool} (h : fnd 0 d e 0 = true) : fnd 0 d e 1 = true := by
  revert h; cases d <;> cases e <;> simp [fnd]
theorem fnd_b {d e : Bool} (h : fnd 0 d e 0 = false) : fnd 0 d e 1 = e := by
  revert h; cases d <;> cases e <;> simp [fnd]
theorem fnd_c {d e : Bool} (h : fnd 1 d e 1 = true) : fnd 1 d e 2 = true := by
  revert h; cases d <;> cases e <;> simp [fnd]
theorem fnd_d {d e : Bool} (h : fnd 1 d e 1 = false) : fnd 1 d e 2 = e := by
  revert h; cases d <;> cases e <;> simp [fnd]
end Go.Proofs.Ytedihdnkalmoiaa

/- The first of the smallest sets: what is looked for, in plain Lean. -/
namespace Go.Proofs.Ytedihdnkalmoiaa
open Go.Gh

/-- The first set of so many notes, that has so many members, of which it is so. -/
def firstIn (n : Nat) (p : Nat → Bool) (k : Nat) : Option Nat := (List.range (2 ^ n)).find? fun t => decide (pop t = k) && p t
def firstM (n : Nat) (p : Nat → Bool) : Option Nat := (List.range (n + 1)).findSome? (firstIn n p)
def firstS (n : Nat) (p : Nat → Bool) : P := match firstM n p with
  | some t => .tuple [.int .u64 (t : Int), .bool true]
  | none => .tuple [.int .u64 0, .bool false]
def firstV (n : Nat) (p : Nat → Bool) : Nat := (firstM n p).getD 0
def firstB (n : Nat) (p : Nat → Bool) : Bool := (firstM n p).isSome
theorem firstS_eq (n : Nat) (p : Nat → Bool) : firstS n p = .tuple [.int .u64 (firstV n p : Int), .bool (firstB n p)] := by
  unfold firstS firstV firstB
  cases firstM n p <;> rfl
theorem fs_some {α : Type} (f : Nat → Option α) {k m : Nat} {x : α} (h : (List.range k).findSome? f = none) (hk : f k = some x) (hkm : k < m) : (List.range m).findSome? f = some x := by
  obtain ⟨d, rfl⟩ : ∃ d, m = k + (d + 1) := ⟨m - k - 1, by omega⟩
  rw [List.range_add, List.findSome?_append, h, List.range_succ_eq_map]
  simp [hk]
theorem fs_none {α : Type} (f : Nat → Option α) {k : Nat} (h : (List.range k).findSome? f = none) (hk : f k = none) : (List.range (k + 1)).findSome? f = none := by
  rw [List.range_succ, List.findSome?_append, h]
  simp [hk]
theorem ff_some (p : Nat → Bool) {k m : Nat} (h : (List.range k).find? p = none) (hk : p k = true) (hkm : k < m) : (List.range m).find? p = some k := by
  obtain ⟨d, rfl⟩ : ∃ d, m = k + (d + 1) := ⟨m - k - 1, by omega⟩
  rw [List.range_add, List.find?_append, h, List.range_succ_eq_map]
  simp [hk]
theorem ff_none (p : Nat → Bool) {k : Nat} (h : (List.range k).find? p = none) (hk : p k = false) : (List.range (k + 1)).find? p = none := by
  rw [List.range_succ, List.find?_append, h]
  simp [hk]
/-- What is found so far: none of fewer members, and none of so many that is less. -/
def nofs (n : Nat) (p : Nat → Bool) (k : Nat) : Prop := (List.range k).findSome? (firstIn n p) = none
def noft (p : Nat → Bool) (k j : Nat) : Prop := ((List.range j).find? fun t => decide (pop t = k) && p t) = none
theorem nofs0 (n : Nat) (p : Nat → Bool) : nofs n p 0 := rfl
theorem noft0 (p : Nat → Bool) (k : Nat) : noft p k 0 := rfl
theorem nofs_next {n : Nat} {p : Nat → Bool} {k : Nat} (h : nofs n p k) (h2 : noft p k (2 ^ n)) : nofs n p (k + 1) := fs_none _ h h2
theorem noft_size {p : Nat → Bool} {k j : Nat} (h : noft p k j) (hs : pop j ≠ k) : noft p k (j + 1) := ff_none _ h (by simp [hs])
theorem noft_not {p : Nat → Bool} {k j : Nat} (h : noft p k j) (hs : p j = false) : noft p k (j + 1) := ff_none _ h (by simp [hs])
theorem firstS_some {n : Nat} {p : Nat → Bool} {k j : Nat} (h : nofs n p k) (h2 : noft p k j) (hk : k ≤ n) (hj : j < 2 ^ n) (hs : pop j = k) (hp : p j = true) : firstS n p = .tuple [.int .u64 (j : Int), .bool true] := by
  have hf : firstIn n p k = some j := ff_some _ h2 (by simp [hs, hp]) hj
  have : firstM n p = some j := fs_some _ h hf (by omega)
  rw [firstS, this]
theorem firstS_none {n : Nat} {p : Nat → Bool} (h : nofs n p (n + 1)) : firstS n p = .tuple [.int .u64 0, .bool false] := by
  have : firstM n p = none := h
  rw [firstS, this]
theorem firstV_lt (n : Nat) (p : Nat → Bool) : firstV n p < 2 ^ n := by
  unfold firstV
  cases h : firstM n p with
  | none => exact Nat.two_pow_pos n
  | some t =>
    obtain ⟨k, _, h2⟩ := List.exists_of_findSome?_eq_some h
    have := List.mem_of_find?_eq_some h2
    simpa using this
/-- All notes but those of a set. -/
def subN (s : Sh) (t : Nat) : Nat := everyN s &&& (2 ^ 64 - 1 - t)
theorem subN_lt {s : Sh} {t : Nat} (h : s.notes.length ≤ 12) : subN s t < 4096 := Nat.lt_of_le_of_lt Nat.and_le_left (everyN_lt h)
theorem sub_eq {s : Sh} {t : Nat} (h : s.notes.length ≤ 12) (ht : t < 4096) : bitop .andNot .u64 ((everyN s : Nat) : Int) ((t : Nat) : Int) = ((subN s t : Nat) : Int) := by
  have h1 := everyN_lt h
  exact bitop_andNot_u64 _ _ (by omega) (by omega)
def clashP (s : Sh) (t : Nat) : Bool := !canB s (onN s) t
def dropP (s : Sh) (t : Nat) : Bool := canB s (onN s) (subN s t)
theorem every2 {s : Sh} : everyN s + 1 = 2 ^ s.notes.length := by
  have := Nat.two_pow_pos s.notes.length
  simp only [everyN]; omega
def clashV (s : Sh) : Nat := if canB s (onN s) 0 = false ∨ canB s (onN s) (everyN s) = true then 0 else firstV s.notes.length (clashP s)
def dropV (s : Sh) : Nat := if canB s (onN s) 0 = false then 0 else firstV s.notes.length (dropP s)
theorem clashV_1 {s : Sh} (h : canB s (onN s) 0 = false) : clashV s = 0 := if_pos (.inl h)
theorem clashV_2 {s : Sh} (h : canB s (onN s) (everyN s) = true) : clashV s = 0 := if_pos (.inr h)
theorem clashV_3 {s : Sh} (h : canB s (onN s) 0 = true) (h' : canB s (onN s) (everyN s) = false) : clashV s = firstV s.notes.length (clashP s) := if_neg (by simp [h, h'])
theorem dropV_1 {s : Sh} (h : canB s (onN s) 0 = false) : dropV s = 0 := if_pos h
theorem dropV_2 {s : Sh} (h : canB s (onN s) 0 = true) : dropV s = firstV s.notes.length (dropP s) := if_neg (by simp [h])
end Go.Proofs.Ytedihdnkalmoiaa

/- The ways of the document and of the program are the same. -/
namespace Go.Proofs.Ytedihdnkalmoiaa
open Go.Gh

/-- What the program keeps of some numbers: of each the least number of its plate, and of each plate its size. -/
structure Inv (s : Sh) (w sz : List Int) (n : Nat) : Prop where
  lw : w.length = 8
  lz : sz.length = 8
  i1 : ∀ j, j < n → ∃ x : Nat, x ≤ j ∧ w[j]? = some (x : Int) ∧ w[x]? = some (x : Int)
  i3 : ∀ i : Nat, i < n → w[i]? = some (i : Int) → ∃ z, sz[i]? = some z ∧ (∃ j, j < n ∧ w[j]? = some (i : Int) ∧ s.sizes[j]? = some z) ∧ ∀ (j : Nat) (p : Int), j < n → w[j]? = some (i : Int) → s.sizes[j]? = some p → p = 0 ∨ p = z
theorem Inv.step {s : Sh} {w sz : List Int} {n i : Nat} {z ow : Int} (h : Inv s w sz n) (hn : n < 8) (hi : i = n ∨ (i < n ∧ w[i]? = some (i : Int))) (how : s.sizes[n]? = some ow) (h0 : 0 ≤ ow) (hz : i = n → z = 0) (hz2 : i < n → sz[i]? = some z) (hok : z = 0 ∨ ow = 0 ∨ z = ow) (hz0 : 0 ≤ z) :
    Inv s (w.set n (i : Int)) (sz.set i (max z ow)) (n + 1) := by
  have hl := h.lw
  have hl2 := h.lz
  have e1 : (w.set n (i : Int))[n]? = some (i : Int) := List.getElem?_set_self (by omega)
  have e2 : ∀ j, j ≠ n → (w.set n (i : Int))[j]? = w[j]? := fun j hj => List.getElem?_set_ne (Ne.symm hj)
  refine ⟨by simp [hl], by simp [hl2], fun j hj => ?_, fun k hk hw => ?_⟩
  · by_cases e : j = n
    · subst e
      refine ⟨i, by omega, e1, ?_⟩
      rcases hi with rfl | ⟨hlt, hw⟩
      · exact e1
      · rw [e2 i (by omega)]; exact hw
    · obtain ⟨x, hx, hx1, hx2⟩ := h.i1 j (by omega)
      exact ⟨x, hx, by rw [e2 j e]; exact hx1, by rw [e2 x (by omega)]; exact hx2⟩
  · by_cases e : k = i
    · subst e
      refine ⟨max z ow, List.getElem?_set_self (by omega), ?_, fun j p hj hwj hp => ?_⟩
      · by_cases hm : max z ow = ow
        · exact ⟨n, by omega, e1, by rw [how, hm]⟩
        · have hkn : k < n := by omega
          have hwk : w[k]? = some (k : Int) := by rw [e2 k (by omega)] at hw; exact hw
          obtain ⟨z', hz', ⟨j, hj, hj1, hj2⟩, _⟩ := h.i3 k hkn hwk
          rw [hz2 hkn] at hz'
          cases hz'
          exact ⟨j, by omega, by rw [e2 j (by omega)]; exact hj1, by rw [hj2]; congr 1; omega⟩
      · by_cases ej : j = n
        · subst ej
          rw [how] at hp
          cases hp
          omega
        · rw [e2 j ej] at hwj
          obtain ⟨x, hx, hx1, hx2⟩ := h.i1 j (by omega)
          rw [hx1] at hwj
          have hxk : x = k := by have := Option.some.inj hwj; omega
          have hkn : k < n := by omega
          have hwk : w[k]? = some (k : Int) := by rw [← hxk]; exact hx2
          obtain ⟨z', hz', _, hall⟩ := h.i3 k hkn hwk
          rw [hz2 hkn] at hz'
          cases hz'
          have := hall j p (by omega) (by rw [hx1, hxk]) hp
          omega
    · have hkn : k ≠ n := fun ek => by
        subst ek
        rw [e1] at hw
        exact e (by have := Option.some.inj hw; omega)
      rw [e2 k hkn] at hw
      obtain ⟨z', hz', ⟨j, hj, hj1, hj2⟩, hall⟩ := h.i3 k (by omega) hw
      refine ⟨z', by rw [List.getElem?_set_ne (Ne.symm e)]; exact hz', ⟨j, by omega, by rw [e2 j (by omega)]; exact hj1, hj2⟩, fun j p hj hwj hp => ?_⟩
      by_cases ej : j = n
      · subst ej
        rw [e1] at hwj
        exact absurd (by have := Option.some.inj hwj; omega) e
      · rw [e2 j ej] at hwj
        exact hall j p (by omega) hwj hp
theorem sizeOk_app {s : Sh} {b : List Int} {x : Int} {i k : Nat} (hi : i < b.length) (hk : k < b.length) : sizeOk s (b ++ [x]) i k = sizeOk s b i k := by
  simp only [sizeOk, List.getElem?_append_left hi, List.getElem?_append_left hk]
theorem foldl_same {α β : Type} (f : β → α → β) (out : β) : ∀ (l : List α), (∀ x ∈ l, f out x = out) → l.foldl f out = out
  | [], _ => rfl
  | x :: l, h => by
    rw [List.foldl_cons, h x (by simp)]
    exact foldl_same f out l fun y hy => h y (by simp [hy])
theorem waysM_dead {s : Sh} {set : Nat} {i k : Nat} (hk : k < i) : ∀ (d : Nat) (b : List Int) (out : List (List Int)), i < b.length → sizeOk s b i k = false → waysM s set d b out = out
  | 0, b, out, hi, h => by rw [waysM, wayM_size hi hk h]; rfl
  | d + 1, b, out, hi, h => by
    rw [waysM]
    refine foldl_same _ _ _ fun x _ => ?_
    split
    · exact waysM_dead hk d _ _ (by simp; omega) (by rw [sizeOk_app hi (by omega)]; exact h)
    · rfl
theorem foldl_flat {α β : Type} (f : List β → α → List β) (g : α → List β) : ∀ (l : List α) (out : List β), (∀ x ∈ l, ∀ out, f out x = out ++ g x) → l.foldl f out = out ++ l.flatMap g
  | [], out, _ => by simp
  | x :: l, out, h => by
    rw [List.foldl_cons, h x (by simp), foldl_flat f g l _ fun y hy => h y (by simp [hy]), List.flatMap_cons, List.append_assoc]
theorem cntP_take (w : List Int) (n : Nat) : ∀ k, k ≤ n → cntP (w.take n) k = cntP w k
  | 0, _ => rfl
  | k + 1, h => by
    rw [cntP, cntP, cntP_take w n k (by omega), List.getElem?_take_of_lt (by omega)]
theorem okS_of {s : Sh} (hv : s.valid = true) {k : Nat} {p : Int} (h : s.sizes[k]? = some p) : 0 ≤ p ∧ p ≤ 9 := by
  simp only [Sh.valid, Bool.and_eq_true] at hv
  have := List.all_eq_true.1 hv.1.2 _ (List.mem_of_getElem? h)
  simpa [okS] using this
theorem noteOk_take {s : Sh} {set : Nat} {w : List Int} (hv : s.valid = true) (i : Nat) : noteOk s set (w.take s.sizes.length) i = noteOk s set w i := by
  unfold noteOk
  cases h : s.notes[i]? with
  | none => rfl
  | some n =>
    have := valid_note hv h
    simp only
    rw [List.getElem?_take_of_lt (by omega), List.getElem?_take_of_lt (by omega)]
theorem Inv.sizes {s : Sh} {w sz : List Int} {n : Nat} (hv : s.valid = true) (h : Inv s w sz n) (hn : n = s.sizes.length) {i k : Nat} (hi : i < n) (hk : k < i) : sizeOk s (w.take n) i k = true := by
  have hN := valid_num hv
  obtain ⟨x, hx, hx1, hx2⟩ := h.i1 i hi
  obtain ⟨y, hy, hy1, hy2⟩ := h.i1 k (by omega)
  obtain ⟨p, hp⟩ : ∃ p, s.sizes[i]? = some p := ⟨_, List.getElem?_eq_getElem (by omega)⟩
  obtain ⟨q, hq⟩ : ∃ q, s.sizes[k]? = some q := ⟨_, List.getElem?_eq_getElem (by omega)⟩
  simp only [sizeOk, List.getElem?_take_of_lt hi, List.getElem?_take_of_lt (show k < n by omega), hx1, hy1, hp, hq]
  by_cases e : x = y
  · subst e
    obtain ⟨z, _, _, hall⟩ := h.i3 x (by omega) hx2
    have h1 := hall i p hi hx1 hp
    have h2 := hall k q (by omega) hy1 hq
    simp
    omega
  · simp; omega
theorem wayM_eq {s : Sh} {set : Nat} {w sz : List Int} {n : Nat} (hv : s.valid = true) (h : Inv s w sz n) (hn : n = s.sizes.length) : wayM s set (w.take n) = (inL s w n && rightW s set w) := by
  have hN := valid_num hv
  have hl : (w.take n).length = n := by rw [List.length_take, h.lw]; omega
  have e1 : ((List.range (w.take n).length).all fun i => (List.range i).all fun k => sizeOk s (w.take n) i k) = true := by
    simp only [List.all_eq_true, List.mem_range, hl]
    exact fun i hi k hk => h.sizes hv hn hi hk
  have e2 : ((List.range s.notes.length).all fun i => noteOk s set (w.take n) i) = rightW s set w := by
    unfold rightW
    refine congrArg _ (funext fun i => ?_)
    rw [hn]; exact noteOk_take hv i
  rw [wayM, e1, e2, hl, cntP_take _ _ _ (Nat.le_refl _), inL, Bool.true_and, Bool.and_comm]
theorem ways_eq {s : Sh} {set : Nat} (hv : s.valid = true) : ∀ (d n : Nat) (w sz : List Int) (out : List (List Int)), n + d = s.sizes.length → Inv s w sz n →
    waysM s set d (w.take n) out = out ++ ((onW s d w sz n).filter (rightW s set)).map (List.take s.sizes.length)
  | 0, n, w, sz, out, hd, h => by
    rw [waysM, wayM_eq hv h (by omega), onW]
    cases h1 : inL s w n <;> cases h2 : rightW s set w <;> simp [h2, ← hd]
  | d + 1, n, w, sz, out, hd, h => by
    have hN := valid_num hv
    have hlw := h.lw
    have hl : (w.take n).length = n := by rw [List.length_take, h.lw]; omega
    obtain ⟨ow, how⟩ : ∃ p, s.sizes[n]? = some p := ⟨_, List.getElem?_eq_getElem (by omega)⟩
    have how0 := okS_of hv how
    rw [waysM, onW, hl, List.filter_flatMap, List.map_flatMap]
    refine foldl_flat _ _ _ _ fun i hi out => ?_
    have hi : i ≤ n := by simpa using Nat.lt_succ_iff.1 (List.mem_range.1 hi)
    have go : ∀ z : Int, (i = n ∨ (i < n ∧ w[i]? = some (i : Int))) → (i = n → z = 0) → (i < n → sz[i]? = some z) → (z = 0 ∨ ow = 0 ∨ z = ow) → 0 ≤ z → max (oldS sz n i) (s.sizes.getD n 0) = max z ow →
        waysM s set d (w.take n ++ [(i : Int)]) out = out ++ ((onW s d (w.set n i) (sz.set i (max (oldS sz n i) (s.sizes.getD n 0))) (n + 1)).filter (rightW s set)).map (List.take s.sizes.length) := fun z a1 a2 a3 a4 a5 a6 => by
      have := ways_eq (set := set) hv d (n + 1) (w.set n i) (sz.set i (max z ow)) out (by omega) (h.step (by omega) a1 how how0.1 a2 a3 a4 a5)
      rw [a6, ← this]
      congr 1
      rw [List.take_add_one, List.getElem?_set_self (by omega), List.take_set_of_le (Nat.le_refl n)]
      rfl
    by_cases hin : i = n
    · subst hin
      have hl1 : least (w.take i) i = true := by simp [least, hl]
      have hs1 : stepOk s w sz i i = true := by simp [stepOk, oldS, badS]
      rw [if_pos hl1, if_pos hs1]
      exact go 0 (.inl rfl) (fun _ => rfl) (fun h => absurd h (by omega)) (.inl rfl) (by omega) (by simp [oldS, List.getD, how])
    · have hlt : i < n := by omega
      obtain ⟨x, hx, hx1, hx2⟩ := h.i1 i hlt
      have hle : least (w.take n) i = decide (x = i) := by
        simp only [least, hl, List.getElem?_take_of_lt hlt, hx1]
        simp [hin]
        omega
      have hgd : w.getD i 0 = (x : Int) := by simp [List.getD, hx1]
      by_cases exi : x = i
      · subst exi
        rw [if_pos (by rw [hle]; simp)]
        obtain ⟨z, hz, ⟨j, hj, hj1, hj2⟩, hall⟩ := h.i3 x hlt hx1
        have hz0 := okS_of hv hj2
        have hold : oldS sz n x = z := by simp [oldS, hin, List.getD, hz]
        have hs : stepOk s w sz n x = !badS z ow := by simp [stepOk, hold, List.getD, hx1, how]
        by_cases hb : z = 0 ∨ ow = 0 ∨ z = ow
        · rw [hs, if_pos (by simp [badS]; omega)]
          exact go z (.inr ⟨hlt, hx1⟩) (fun e => absurd e hin) (fun _ => hz) hb hz0.1 (by rw [hold]; simp [List.getD, how])
        · rw [hs, if_neg (by simp [badS]; omega)]
          rw [List.filter_nil, List.map_nil, List.append_nil]
          refine waysM_dead (i := n) (k := j) hj d _ _ (by simp [hl]) ?_
          have e1 : (w.take n ++ [(x : Int)])[n]? = some (x : Int) := by rw [List.getElem?_append_right (by omega), hl]; simp
          have e2 : (w.take n ++ [(x : Int)])[j]? = some (x : Int) := by rw [List.getElem?_append_left (by omega), List.getElem?_take_of_lt hj, hj1]
          simp only [sizeOk, e1, e2, how, hj2]
          simp
          omega
      · have hs : stepOk s w sz n i = false := by
          simp only [stepOk, hgd]
          simp [hlt]
          omega
        rw [if_neg (by rw [hle]; simpa using exi), if_neg (by rw [hs]; simp)]
        simp
theorem all_eq {s : Sh} (set : Nat) (hv : s.valid = true) : allM s set = ((onN s).filter (rightW s set)).map (List.take s.sizes.length) := by
  have := ways_eq (s := s) (set := set) hv s.sizes.length 0 (List.replicate 8 0) (List.replicate 8 0) [] (by omega) ⟨by simp, by simp, fun j hj => absurd hj (by omega), fun j hj => absurd hj (by omega)⟩
  rw [List.take_zero] at this
  rw [allM, this, List.nil_append, onN]
end Go.Proofs.Ytedihdnkalmoiaa

/- What the document says of all ways, in plain Lean. -/
namespace Go.Proofs.Ytedihdnkalmoiaa
open Go.Gh

theorem allM_len {s : Sh} {set : Nat} (hv : s.valid = true) {w : List Int} (hw : w ∈ allM s set) : w.length = s.sizes.length := by
  rw [all_eq set hv] at hw
  obtain ⟨u, hu, rfl⟩ := List.mem_map.1 hw
  have h8 := onN_len8 s u (List.mem_filter.1 hu).1
  have := valid_num hv
  rw [List.length_take]
  omega
theorem allM_many {s : Sh} {set : Nat} (hv : s.valid = true) : (allM s set).length ≤ 43046721 := by
  have := valid_num hv
  rw [all_eq set hv, List.length_map]
  exact Nat.le_trans (List.length_filter_le _ _) (onN_many s (by omega))
def eqAt (a b : Int) (w : List Int) : Bool := decide (w[a.toNat]? = w[b.toNat]?)
def sameR (a b : Int) (ls : List (List Int)) : Int := if (ls.filter (eqAt a b)).length = ls.length then 1 else if (ls.filter (eqAt a b)).length = 0 then 0 else 2
theorem sameR_1 {a b : Int} {ls : List (List Int)} (h : (ls.filter (eqAt a b)).length = ls.length) : sameR a b ls = 1 := if_pos h
theorem sameR_0 {a b : Int} {ls : List (List Int)} (h : ¬ (ls.filter (eqAt a b)).length = ls.length) (h' : (ls.filter (eqAt a b)).length = 0) : sameR a b ls = 0 := by rw [sameR, if_neg h, if_pos h']
theorem sameR_2 {a b : Int} {ls : List (List Int)} (h : ¬ (ls.filter (eqAt a b)).length = ls.length) (h' : ¬ (ls.filter (eqAt a b)).length = 0) : sameR a b ls = 2 := by rw [sameR, if_neg h, if_neg h']
theorem sameR_1i {a b : Int} {ls : List (List Int)} {k : Nat} (hk : (ls.length : Int) ≤ (k : Int)) (h : (((ls.take k).filter (eqAt a b)).length : Int) = (ls.length : Int)) : sameR a b ls = 1 := by
  rw [List.take_of_length_le (by omega)] at h
  exact sameR_1 (by omega)
theorem sameR_0i {a b : Int} {ls : List (List Int)} {k : Nat} (hk : (ls.length : Int) ≤ (k : Int)) (h : ¬ (((ls.take k).filter (eqAt a b)).length : Int) = (ls.length : Int)) (h' : (((ls.take k).filter (eqAt a b)).length : Int) = 0) : sameR a b ls = 0 := by
  rw [List.take_of_length_le (by omega)] at h h'
  exact sameR_0 (by omega) (by omega)
theorem sameR_2i {a b : Int} {ls : List (List Int)} {k : Nat} (hk : (ls.length : Int) ≤ (k : Int)) (h : ¬ (((ls.take k).filter (eqAt a b)).length : Int) = (ls.length : Int)) (h' : ¬ (((ls.take k).filter (eqAt a b)).length : Int) = 0) : sameR a b ls = 2 := by
  rw [List.take_of_length_le (by omega)] at h h'
  exact sameR_2 (by omega) (by omega)
theorem eqAt_t {a b x y : Int} {w : List Int} (hx : w[a.toNat]? = some x) (hy : w[b.toNat]? = some y) : eqAt a b w = decide (x = y) := by simp [eqAt, hx, hy]
theorem filt_t {α : Type} {p : α → Bool} {l : List α} {k : Nat} {x : α} (h : l[k]? = some x) (hp : p x = true) : ((l.take (k + 1)).filter p).length = ((l.take k).filter p).length + 1 := by rw [take_filter h, if_pos hp]
theorem filt_f {α : Type} {p : α → Bool} {l : List α} {k : Nat} {x : α} (h : l[k]? = some x) (hp : p x = false) : ((l.take (k + 1)).filter p).length = ((l.take k).filter p).length := by rw [take_filter h, if_neg (by simp [hp])]; rfl
theorem filt_le {α : Type} (p : α → Bool) (l : List α) (k : Nat) : ((l.take k).filter p).length ≤ l.length := Nat.le_trans (List.length_filter_le _ _) (by rw [List.length_take]; omega)
/-- How many plates there are in the first ways: the fewest and the most. -/
def manyI (w : List Int) : Int := (cntP w w.length : Int)
def spanR (ls : List (List Int)) : Int × Int := ls.foldl (fun e w => (min e.1 (manyI w), max e.2 (manyI w))) (manyI (ls.headD []), manyI (ls.headD []))
def spanT (ls : List (List Int)) (k : Nat) : Int × Int := (ls.take k).foldl (fun e w => (min e.1 (manyI w), max e.2 (manyI w))) (manyI (ls.headD []), manyI (ls.headD []))
theorem spanT_succ {ls : List (List Int)} {k : Nat} {w : List Int} (h : ls[k]? = some w) : spanT ls (k + 1) = (min (spanT ls k).1 (manyI w), max (spanT ls k).2 (manyI w)) := by
  rw [spanT, List.take_add_one, h, List.foldl_append]; rfl
theorem spanT_all (ls : List (List Int)) {k : Nat} (h : ls.length ≤ k) : spanT ls k = spanR ls := by rw [spanT, List.take_of_length_le h]; rfl
theorem headD_of {ls : List (List Int)} {w : List Int} (h : ls[0]? = some w) : ls.headD [] = w := by
  cases ls with
  | nil => simp at h
  | cons x l => simpa using h
/-- The notes that tell nothing, of the first ones, as the document has them. -/
def idleR (s : Sh) : Nat → Nat
  | 0 => 0
  | k + 1 => idleR s k + if (allM s (everyN s - 2 ^ k)).length = (allM s (everyN s)).length then 2 ^ k else 0
theorem idleR_lt (s : Sh) : ∀ k, idleR s k < 2 ^ k
  | 0 => by simp [idleR]
  | k + 1 => by
    have := idleR_lt s k
    rw [idleR, Nat.pow_succ]
    split <;> omega
theorem idleR_t {s : Sh} {k : Nat} (h : (allM s (everyN s - 2 ^ k)).length = (allM s (everyN s)).length) : idleR s (k + 1) = idleR s k + 2 ^ k := by rw [idleR, if_pos h]
theorem idleR_f {s : Sh} {k : Nat} (h : ¬ (allM s (everyN s - 2 ^ k)).length = (allM s (everyN s)).length) : idleR s (k + 1) = idleR s k := by rw [idleR, if_neg h]; rfl
theorem idleR_ti {s : Sh} {k : Nat} (h : ((allM s (everyN s - 2 ^ k)).length : Int) = ((allM s (everyN s)).length : Int)) : idleR s (k + 1) = idleR s k + 2 ^ k := idleR_t (by omega)
theorem idleR_fi {s : Sh} {k : Nat} (h : ¬ ((allM s (everyN s - 2 ^ k)).length : Int) = ((allM s (everyN s)).length : Int)) : idleR s (k + 1) = idleR s k := idleR_f (by omega)
theorem inI_small (q : Nat) (h : q ≤ 1048576) : inI (q : Int) := by simp only [inI]; omega
end Go.Proofs.Ytedihdnkalmoiaa

/- Rules for sums that are wrapped. -/
namespace Go.Proofs.Ytedihdnkalmoiaa
open Go.Gh
set_option maxRecDepth 100000
variable {E : Env Try.prog} {C : Cx E} {r : Option Nat} {ops : Array Oper} {Q : GE → Sg E → Prop} {rest lst : List Oper} {l l' : List (Nat × G)} {m : List (Nat × Ob)} {A : E.α} {df : List GD}
variable {t : Nat} {op : Op} {ty : TypeId} {pos : String} {af : Array Edge} {c : Prop} {g : G} {ob : Ob} {i j : Nat} {gd : Option (Nat × Bool)} {b x : Bool} {cd : Code} {J : List Nat}
section
variable {lo : Nat} {σ0 : Sg E} {ids ids' : List (List Nat × List Nat)}
/-- A sum or a difference, wrapped. -/
theorem dq0 (n : Nat) {bo : BinOp} {t1 t2 : TypeId} {x y : Operand} {u v z : Int} (hn : ids.length = n := by rfl) (ho : ops[lo + n]? = some ⟨some t, .binOp bo t1 x y t2, ty, pos, af, none⟩ := by rfl)
    (hx : gev (mkFr l) x = .p (.int .i64 u) := by (simp only [gev, ofV, mkFr_cons, Nat.reduceEqDiff, reduceIte] <;> rfl)) (hy : gev (mkFr l) y = .p (.int .i64 v) := by (simp only [gev, ofV, mkFr_cons, Nat.reduceEqDiff, reduceIte] <;> rfl)) (hb : (bo = .add ∧ z = u + v) ∨ (bo = .sub ∧ z = u - v) := by first | exact .inl ⟨rfl, rfl⟩ | exact .inr ⟨rfl, rfl⟩)
    (hd : mkHp m 99999 = .none := by (simp only [mkHp_cons, mkHp_nil, Nat.reduceEqDiff, reduceIte])) (ht : t < C.N := by omega)
    (hids : ids ++ [([99999], [])] = ids' := by (simp only [List.cons_append, List.nil_append] <;> rfl)) (k : segK C r ops (GPost C Q) lo σ0 ids' (sg ((t, .p (.int .i64 (IntKind.i64.wrap z))) :: l) m A df)) : segK C r ops (GPost C Q) lo σ0 ids (sg l m A df) :=
  segK.step (pi := []) hn ho (eff_wrap rfl hb (gwant_plain rfl) hx hy hd (by have := C.limOk; omega) (fun t' e => by cases e; exact ht)) rfl (by rw [hids]; exact k)
theorem dqw (n : Nat) {b' : Bool} {bo : BinOp} {t1 t2 : TypeId} {x y : Operand} {u v z : Int} (hn : ids.length = n := by rfl) (ho : ops[lo + n]? = some ⟨some t, .binOp bo t1 x y t2, ty, pos, af, some (j, b)⟩ := by rfl) (hj : (ops[j]?).bind (·.dst) = some i := by rfl) (hg : mkFr l i = .p (.bool b') := by (simp only [mkFr_cons, Nat.reduceEqDiff, reduceIte] <;> rfl)) (hbb : (b' == b) = true := by rfl)
    (hx : gev (mkFr l) x = .p (.int .i64 u) := by (simp only [gev, ofV, mkFr_cons, Nat.reduceEqDiff, reduceIte] <;> rfl)) (hy : gev (mkFr l) y = .p (.int .i64 v) := by (simp only [gev, ofV, mkFr_cons, Nat.reduceEqDiff, reduceIte] <;> rfl)) (hb : (bo = .add ∧ z = u + v) ∨ (bo = .sub ∧ z = u - v) := by first | exact .inl ⟨rfl, rfl⟩ | exact .inr ⟨rfl, rfl⟩)
    (hd : mkHp m 99999 = .none := by (simp only [mkHp_cons, mkHp_nil, Nat.reduceEqDiff, reduceIte])) (ht : t < C.N := by omega)
    (hids : ids ++ [([99999], [])] = ids' := by (simp only [List.cons_append, List.nil_append] <;> rfl)) (k : segK C r ops (GPost C Q) lo σ0 ids' (sg ((t, .p (.int .i64 (IntKind.i64.wrap z))) :: l) m A df)) : segK C r ops (GPost C Q) lo σ0 ids (sg l m A df) :=
  segK.step (pi := []) hn ho (eff_wrap rfl hb ((gwant_at rfl hj hg).trans (by rw [hbb])) hx hy hd (by have := C.limOk; omega) (fun t' e => by cases e; exact ht)) rfl (by rw [hids]; exact k)
end
end Go.Proofs.Ytedihdnkalmoiaa
