/- What functions of the program return, each for every input that its theorem names. -/
import Derived.Test.YtedihdnkalmoiaaB2
set_option linter.unusedVariables false
set_option linter.unusedSimpArgs false
/- The document: which shelves are valid; how many plates there are; powers. -/
namespace Go.Proofs.Ytedihdnkalmoiaa
open Go.Gh
set_option maxRecDepth 100000
set_option maxHeartbeats 4000000
theorem ent32 : Enters Try.prog 32 := Enters.mk Try.func32 (by kernel_rfl) rfl
theorem s_Many (ws : List Int) (hws : ws.length ≤ 1048576) : PSpec Try.prog 32 [.list (ws.map (.int .i64))] (.ok (.int .i64 (cntP ws ws.length))) := by
  refine pspec_of Try.func32 (rfl : Try.f32.body = some _) rfl ?_
  intro E A C hN hL
  replace hN : C.N = 20 := hN
  simp only [Gh.num, List.map_cons, List.map_nil, Nat.reduceAdd]
  repeat refine gwp_seq ?_
  refine gwp_region ?_
  refine v0 (k := ?_)
  refine nil0 ?_
  refine cl [0] (k := ?_)
  repeat refine gwp_seq ?_
  refine gwp_region ?_
  refine v0 (k := ?_)
  refine nil0 ?_
  refine cl [0, 3] (k := ?_)
  repeat refine gwp_seq ?_
  refine gwp_region ?_
  refine v0 (k := ?_)
  refine nil0 ?_
  refine cl [0, 3, 4] (k := ?_)
  repeat refine gwp_seq ?_
  refine gwp_block ?_
  repeat refine gwp_seq ?_
  refine gc_loop (fun n σ => ∃ k : Nat, (k ≤ ws.length) ∧ n = ws.length - k ∧ σ = (sg [(0, .p (.list (ws.map (.int .i64)))), (3, .p (.int .i64 (cntP ws k))), (4, .p (.int .i64 k))] [] A [] : Sg E)) ?_ (fun n σ hI => ?_)
  · refine lbeg [0, 3, 4] (hV := ?_)
    exact ⟨_, 0, by omega, rfl, rfl⟩
  obtain ⟨k, hk, hn, rfl⟩ := hI
  have hle := cntP_le ws k
  repeat refine gwp_seq ?_
  refine gwp_region ?_
  refine v0 (k := ?_)
  refine v0 (k := ?_)
  refine v0 (k := ?_)
  refine v0 (k := ?_)
  refine nil0 ?_
  repeat refine gwp_seq ?_
  refine cB (k1 := fun hb1 => ?_) (k0 := fun hb1 => ?_)
  · try simp only [decide_eq_true_eq, decide_eq_false_iff_not, Int.not_lt, Int.not_le, Bool.not_eq_eq_eq_not, Bool.not_true, Bool.not_false, Bool.and_eq_true, Bool.and_eq_false_iff, Bool.or_eq_true, Bool.or_eq_false_iff] at hb1
    repeat refine gwp_seq ?_
    refine gwp_skip ?_
    refine cl [0, 3, 4] (k := ?_)
    repeat refine gwp_seq ?_
    refine gwp_block ?_
    repeat refine gwp_seq ?_
    obtain ⟨x, hx⟩ := getE hb1
    refine gwp_region ?_
    refine v0 (k := ?_)
    refine v0 (k := ?_)
    refine v1 (hc := by (first | exact True.intro | (simp only [inI]; omega) | (simp [P.size] <;> omega))) (k := ?_)
    refine v0 (k := ?_)
    refine v0 (k := ?_)
    refine v0 (k := ?_)
    refine nil0 ?_
    repeat refine gwp_seq ?_
    refine cB (k1 := fun hb2 => ?_) (k0 := fun hb2 => ?_)
    · try simp only [decide_eq_true_eq, decide_eq_false_iff_not, Int.not_lt, Int.not_le, Bool.not_eq_eq_eq_not, Bool.not_true, Bool.not_false, Bool.and_eq_true, Bool.and_eq_false_iff, Bool.or_eq_true, Bool.or_eq_false_iff] at hb2
      repeat refine gwp_seq ?_
      refine gwp_region ?_
      refine v0 (k := ?_)
      refine v1 (hc := by (first | exact True.intro | (simp only [inI]; omega) | (simp [P.size] <;> omega))) (k := ?_)
      refine v0 (k := ?_)
      refine nil0 ?_
      refine cl [0, 3, 4] (k := ?_)
      repeat refine gwp_seq ?_
      refine gwp_region ?_
      refine v0 (k := ?_)
      refine v1 (hc := by (first | exact True.intro | (simp only [inI]; omega) | (simp [P.size] <;> omega))) (k := ?_)
      refine v0 (k := ?_)
      refine nil0 ?_
      refine lend [0, 3, 4] (h := ?_) (hV := ?_) (n' := ws.length - (k + 1))
      · omega
      exact ⟨k + 1, by omega, rfl, sgE (by simp [cntP, hx, *]) rfl⟩
    · try simp only [decide_eq_true_eq, decide_eq_false_iff_not, Int.not_lt, Int.not_le, Bool.not_eq_eq_eq_not, Bool.not_true, Bool.not_false, Bool.and_eq_true, Bool.and_eq_false_iff, Bool.or_eq_true, Bool.or_eq_false_iff] at hb2
      repeat refine gwp_seq ?_
      refine gwp_skip ?_
      refine cl [0, 3, 4] (k := ?_)
      repeat refine gwp_seq ?_
      refine gwp_region ?_
      refine v0 (k := ?_)
      refine v1 (hc := by (first | exact True.intro | (simp only [inI]; omega) | (simp [P.size] <;> omega))) (k := ?_)
      refine v0 (k := ?_)
      refine nil0 ?_
      refine lend [0, 3, 4] (h := ?_) (hV := ?_) (n' := ws.length - (k + 1))
      · omega
      exact ⟨k + 1, by omega, rfl, sgE (by simp [cntP, hx, *]) rfl⟩
  · try simp only [decide_eq_true_eq, decide_eq_false_iff_not, Int.not_lt, Int.not_le, Bool.not_eq_eq_eq_not, Bool.not_true, Bool.not_false, Bool.and_eq_true, Bool.and_eq_false_iff, Bool.or_eq_true, Bool.or_eq_false_iff] at hb1
    repeat refine gwp_seq ?_
    refine gwp_exit ?_
    repeat (first | refine gthen_exit ?_ | refine gblock_here ?_ | refine gblock_out rfl ?_)
    refine cl [3] (k := ?_)
    repeat refine gwp_seq ?_
    refine gwp_region ?_
    refine v0 (k := ?_)
    refine v0 (k := ?_)
    refine nil0 ?_
    repeat refine gwp_seq ?_
    refine gwp_ret ?_
    repeat (first | refine gthen_ret ?_ | refine gblock_ret ?_)
    refine fin_ret ?_
    refine fp (hR := ?_)
    have : k = ws.length := by omega
    subst this
    rfl
theorem ent58 : Enters Try.prog 58 := Enters.mk Try.func58 (by kernel_rfl) rfl
theorem s_power (N : Nat) (hb : N ≤ 40) : PSpec Try.prog 58 [.int .i64 N] (.ok (.int .i64 (2 ^ N : Nat))) := by
  refine pspec_of Try.func58 (rfl : Try.f58.body = some _) rfl ?_
  intro E A C hN hL
  replace hN : C.N = 13 := hN
  simp only [Gh.num, List.map_cons, List.map_nil, Nat.reduceAdd]
  repeat refine gwp_seq ?_
  refine gwp_region ?_
  refine v0 (k := ?_)
  refine nil0 ?_
  refine cl [0] (k := ?_)
  repeat refine gwp_seq ?_
  refine gwp_region ?_
  refine v0 (k := ?_)
  refine nil0 ?_
  refine cl [0, 3] (k := ?_)
  repeat refine gwp_seq ?_
  refine gwp_region ?_
  refine v0 (k := ?_)
  refine nil0 ?_
  refine cl [0, 3, 4] (k := ?_)
  repeat refine gwp_seq ?_
  refine gwp_block ?_
  repeat refine gwp_seq ?_
  refine gc_loop (fun n σ => ∃ k : Nat, (k ≤ N) ∧ n = N - k ∧ σ = (sg [(0, .p (.int .i64 N)), (3, .p (.int .i64 (2 ^ k : Nat))), (4, .p (.int .i64 k))] [] A [] : Sg E)) ?_ (fun n σ hI => ?_)
  · refine lbeg [0, 3, 4] (hV := ?_)
    exact ⟨_, 0, by omega, rfl, rfl⟩
  obtain ⟨k, hk, hn, rfl⟩ := hI
  have hpos := Nat.two_pow_pos k
  have h62 : 2 ^ k ≤ 2 ^ 40 := Nat.pow_le_pow_right (by omega) (by omega)
  repeat refine gwp_seq ?_
  refine gwp_region ?_
  refine v0 (k := ?_)
  refine v0 (k := ?_)
  refine v0 (k := ?_)
  refine nil0 ?_
  repeat refine gwp_seq ?_
  refine cB (k1 := fun hb1 => ?_) (k0 := fun hb1 => ?_)
  · try simp only [decide_eq_true_eq, decide_eq_false_iff_not, Int.not_lt, Int.not_le, Bool.not_eq_eq_eq_not, Bool.not_true, Bool.not_false, Bool.and_eq_true, Bool.and_eq_false_iff, Bool.or_eq_true, Bool.or_eq_false_iff] at hb1
    repeat refine gwp_seq ?_
    refine gwp_skip ?_
    refine cl [0, 3, 4] (k := ?_)
    repeat refine gwp_seq ?_
    refine gwp_block ?_
    repeat refine gwp_seq ?_
    refine gwp_region ?_
    refine v0 (k := ?_)
    refine v1 (hc := by (first | exact True.intro | (simp only [inI]; omega) | (simp [P.size] <;> omega))) (k := ?_)
    refine v0 (k := ?_)
    refine nil0 ?_
    refine cl [0, 3, 4] (k := ?_)
    repeat refine gwp_seq ?_
    refine gwp_region ?_
    refine v0 (k := ?_)
    refine v1 (hc := by (first | exact True.intro | (simp only [inI]; omega) | (simp [P.size] <;> omega))) (k := ?_)
    refine v0 (k := ?_)
    refine nil0 ?_
    refine lend [0, 3, 4] (h := ?_) (hV := ?_) (n' := N - (k + 1))
    · omega
    exact ⟨k + 1, by omega, rfl, sgE (by simp [Nat.pow_succ, Int.mul_comm]) rfl⟩
  · try simp only [decide_eq_true_eq, decide_eq_false_iff_not, Int.not_lt, Int.not_le, Bool.not_eq_eq_eq_not, Bool.not_true, Bool.not_false, Bool.and_eq_true, Bool.and_eq_false_iff, Bool.or_eq_true, Bool.or_eq_false_iff] at hb1
    repeat refine gwp_seq ?_
    refine gwp_exit ?_
    repeat (first | refine gthen_exit ?_ | refine gblock_here ?_ | refine gblock_out rfl ?_)
    refine cl [3] (k := ?_)
    repeat refine gwp_seq ?_
    refine gwp_region ?_
    refine v0 (k := ?_)
    refine v0 (k := ?_)
    refine nil0 ?_
    repeat refine gwp_seq ?_
    refine gwp_ret ?_
    repeat (first | refine gthen_ret ?_ | refine gblock_ret ?_)
    refine fin_ret ?_
    refine fp (hR := ?_)
    have : k = N := by omega
    subst this
    rfl
theorem ent33 : Enters Try.prog 33 := Enters.mk Try.func33 (by kernel_rfl) rfl
theorem s_Shelf (s : Sh) (h1 : s.sizes.length ≤ 1048576) (h2 : s.notes.length ≤ 1048576) : PSpec Try.prog 33 [.agg [.int .i64 s.num, .list (s.sizes.map (.int .i64)), .int .i64 s.lo, .int .i64 s.hi, .list (s.notes.map pn)]] (.ok (.bool s.valid)) := by
  refine pspec_of Try.func33 (rfl : Try.f33.body = some _) rfl ?_
  intro E A C hN hL
  replace hN : C.N = 94 := hN
  simp only [Gh.num, List.map_cons, List.map_nil, Nat.reduceAdd]
  have hpn : ∀ n : Nt, pn n = P.agg [.int .i64 n.a, .int .i64 n.b, .bool n.s] := fun _ => rfl
  repeat refine gwp_seq ?_
  refine gwp_region ?_
  refine n1 110 false (hc := by (first | exact True.intro | (simp only [inI]; omega) | (simp [P.size, pn] <;> omega))) (k := ?_)
  refine v0 (k := ?_)
  refine nil0 ?_
  refine cl [1] (k := ?_)
  repeat refine gwp_seq ?_
  refine gwp_region ?_
  refine v0 (k := ?_)
  refine v0 (k := ?_)
  refine pc0 (spec := s_in _ _ _) (hent := ent52) (k := ?_)
  refine v0 (k := ?_)
  refine v0 (k := ?_)
  refine b0 (k1 := fun hb1 => ?_) (k0 := fun hb1 => ?_)
  · try simp only [decide_eq_true_eq, decide_eq_false_iff_not, Int.not_lt, Int.not_le, Bool.not_eq_eq_eq_not, Bool.not_true, Bool.not_false, Bool.and_eq_true, Bool.and_eq_false_iff, Bool.or_eq_true, Bool.or_eq_false_iff] at hb1
    refine x0 (k := ?_)
    refine x0 (k := ?_)
    refine x0 (k := ?_)
    refine x0 (k := ?_)
    refine x0 (k := ?_)
    refine x0 (k := ?_)
    refine v0 (k := ?_)
    refine v0 (k := ?_)
    refine x0 (k := ?_)
    refine x0 (k := ?_)
    refine x0 (k := ?_)
    refine x0 (k := ?_)
    refine v0 (k := ?_)
    refine v0 (k := ?_)
    refine x0 (k := ?_)
    refine x0 (k := ?_)
    refine x0 (k := ?_)
    refine x0 (k := ?_)
    refine x0 (k := ?_)
    refine x0 (k := ?_)
    refine x0 (k := ?_)
    refine v0 (k := ?_)
    refine v0 (k := ?_)
    refine x0 (k := ?_)
    refine x0 (k := ?_)
    refine x0 (k := ?_)
    refine x0 (k := ?_)
    refine v0 (k := ?_)
    refine v0 (k := ?_)
    refine x0 (k := ?_)
    refine x0 (k := ?_)
    refine x0 (k := ?_)
    refine x0 (k := ?_)
    refine v0 (k := ?_)
    refine nil0 ?_
    repeat refine gwp_seq ?_
    refine cT (k := ?_)
    repeat refine gwp_seq ?_
    refine gwp_region ?_
    refine v0 (k := ?_)
    refine nil0 ?_
    repeat refine gwp_seq ?_
    refine gwp_ret ?_
    repeat (first | refine gthen_ret ?_ | refine gblock_ret ?_)
    refine fin_ret ?_
    refine fp (hR := ?_)
    simp only [PRes.at, GRes.ok.injEq, G.p.injEq, P.bool.injEq, true_and, and_true]
    first
    | (cases hv : s.valid
       · rfl
       · exfalso
         simp only [Sh.valid, Sh.head, Bool.and_eq_true, decide_eq_true_eq, Bool.not_eq_eq_eq_not, Bool.not_true, decide_eq_false_iff_not] at hv
         first
         | omega
         | (have := List.all_eq_true.1 hv.1.2 _ (List.mem_of_getElem? hx); simp [okS] at this; omega)
         | (have := List.all_eq_true.1 hv.2 _ (List.mem_of_getElem? hy); simp [okN] at this; omega))
    | (have e1 : k = s.sizes.length := by omega
       have e2 : j = s.notes.length := by omega
       subst e1 e2
       rw [List.take_length] at ha hb
       simp [Sh.valid, Sh.head, ha, hb]
       omega)
  · try simp only [decide_eq_true_eq, decide_eq_false_iff_not, Int.not_lt, Int.not_le, Bool.not_eq_eq_eq_not, Bool.not_true, Bool.not_false, Bool.and_eq_true, Bool.and_eq_false_iff, Bool.or_eq_true, Bool.or_eq_false_iff] at hb1
    refine w0 (k := ?_)
    refine w0 (k := ?_)
    refine w0 (k := ?_)
    refine w0 (k := ?_)
    refine w0 (k := ?_)
    refine w0 (k := ?_)
    refine v0 (k := ?_)
    refine v0 (k := ?_)
    refine b0 (k1 := fun hb2 => ?_) (k0 := fun hb2 => ?_)
    · try simp only [decide_eq_true_eq, decide_eq_false_iff_not, Int.not_lt, Int.not_le, Bool.not_eq_eq_eq_not, Bool.not_true, Bool.not_false, Bool.and_eq_true, Bool.and_eq_false_iff, Bool.or_eq_true, Bool.or_eq_false_iff] at hb2
      refine x0 (k := ?_)
      refine x0 (k := ?_)
      refine x0 (k := ?_)
      refine x0 (k := ?_)
      refine v0 (k := ?_)
      refine v0 (k := ?_)
      refine x0 (k := ?_)
      refine x0 (k := ?_)
      refine x0 (k := ?_)
      refine x0 (k := ?_)
      refine x0 (k := ?_)
      refine x0 (k := ?_)
      refine x0 (k := ?_)
      refine v0 (k := ?_)
      refine v0 (k := ?_)
      refine x0 (k := ?_)
      refine x0 (k := ?_)
      refine x0 (k := ?_)
      refine x0 (k := ?_)
      refine v0 (k := ?_)
      refine v0 (k := ?_)
      refine x0 (k := ?_)
      refine x0 (k := ?_)
      refine x0 (k := ?_)
      refine x0 (k := ?_)
      refine v0 (k := ?_)
      refine nil0 ?_
      repeat refine gwp_seq ?_
      refine cT (k := ?_)
      repeat refine gwp_seq ?_
      refine gwp_region ?_
      refine v0 (k := ?_)
      refine nil0 ?_
      repeat refine gwp_seq ?_
      refine gwp_ret ?_
      repeat (first | refine gthen_ret ?_ | refine gblock_ret ?_)
      refine fin_ret ?_
      refine fp (hR := ?_)
      simp only [PRes.at, GRes.ok.injEq, G.p.injEq, P.bool.injEq, true_and, and_true]
      first
      | (cases hv : s.valid
         · rfl
         · exfalso
           simp only [Sh.valid, Sh.head, Bool.and_eq_true, decide_eq_true_eq, Bool.not_eq_eq_eq_not, Bool.not_true, decide_eq_false_iff_not] at hv
           first
           | omega
           | (have := List.all_eq_true.1 hv.1.2 _ (List.mem_of_getElem? hx); simp [okS] at this; omega)
           | (have := List.all_eq_true.1 hv.2 _ (List.mem_of_getElem? hy); simp [okN] at this; omega))
      | (have e1 : k = s.sizes.length := by omega
         have e2 : j = s.notes.length := by omega
         subst e1 e2
         rw [List.take_length] at ha hb
         simp [Sh.valid, Sh.head, ha, hb]
         omega)
    · try simp only [decide_eq_true_eq, decide_eq_false_iff_not, Int.not_lt, Int.not_le, Bool.not_eq_eq_eq_not, Bool.not_true, Bool.not_false, Bool.and_eq_true, Bool.and_eq_false_iff, Bool.or_eq_true, Bool.or_eq_false_iff] at hb2
      refine w0 (k := ?_)
      refine w0 (k := ?_)
      refine w0 (k := ?_)
      refine w0 (k := ?_)
      refine v0 (k := ?_)
      refine v0 (k := ?_)
      refine b0 (k1 := fun hb3 => ?_) (k0 := fun hb3 => ?_)
      · try simp only [decide_eq_true_eq, decide_eq_false_iff_not, Int.not_lt, Int.not_le, Bool.not_eq_eq_eq_not, Bool.not_true, Bool.not_false, Bool.and_eq_true, Bool.and_eq_false_iff, Bool.or_eq_true, Bool.or_eq_false_iff] at hb3
        refine x0 (k := ?_)
        refine x0 (k := ?_)
        refine x0 (k := ?_)
        refine x0 (k := ?_)
        refine x0 (k := ?_)
        refine x0 (k := ?_)
        refine x0 (k := ?_)
        refine v0 (k := ?_)
        refine v0 (k := ?_)
        refine x0 (k := ?_)
        refine x0 (k := ?_)
        refine x0 (k := ?_)
        refine x0 (k := ?_)
        refine v0 (k := ?_)
        refine v0 (k := ?_)
        refine x0 (k := ?_)
        refine x0 (k := ?_)
        refine x0 (k := ?_)
        refine x0 (k := ?_)
        refine v0 (k := ?_)
        refine nil0 ?_
        repeat refine gwp_seq ?_
        refine cT (k := ?_)
        repeat refine gwp_seq ?_
        refine gwp_region ?_
        refine v0 (k := ?_)
        refine nil0 ?_
        repeat refine gwp_seq ?_
        refine gwp_ret ?_
        repeat (first | refine gthen_ret ?_ | refine gblock_ret ?_)
        refine fin_ret ?_
        refine fp (hR := ?_)
        simp only [PRes.at, GRes.ok.injEq, G.p.injEq, P.bool.injEq, true_and, and_true]
        first
        | (cases hv : s.valid
           · rfl
           · exfalso
             simp only [Sh.valid, Sh.head, Bool.and_eq_true, decide_eq_true_eq, Bool.not_eq_eq_eq_not, Bool.not_true, decide_eq_false_iff_not] at hv
             first
             | omega
             | (have := List.all_eq_true.1 hv.1.2 _ (List.mem_of_getElem? hx); simp [okS] at this; omega)
             | (have := List.all_eq_true.1 hv.2 _ (List.mem_of_getElem? hy); simp [okN] at this; omega))
        | (have e1 : k = s.sizes.length := by omega
           have e2 : j = s.notes.length := by omega
           subst e1 e2
           rw [List.take_length] at ha hb
           simp [Sh.valid, Sh.head, ha, hb]
           omega)
      · try simp only [decide_eq_true_eq, decide_eq_false_iff_not, Int.not_lt, Int.not_le, Bool.not_eq_eq_eq_not, Bool.not_true, Bool.not_false, Bool.and_eq_true, Bool.and_eq_false_iff, Bool.or_eq_true, Bool.or_eq_false_iff] at hb3
        refine w0 (k := ?_)
        refine w0 (k := ?_)
        refine w0 (k := ?_)
        refine w0 (k := ?_)
        refine w0 (k := ?_)
        refine w0 (k := ?_)
        refine w0 (k := ?_)
        refine v0 (k := ?_)
        refine v0 (k := ?_)
        refine b0 (k1 := fun hb4 => ?_) (k0 := fun hb4 => ?_)
        · try simp only [decide_eq_true_eq, decide_eq_false_iff_not, Int.not_lt, Int.not_le, Bool.not_eq_eq_eq_not, Bool.not_true, Bool.not_false, Bool.and_eq_true, Bool.and_eq_false_iff, Bool.or_eq_true, Bool.or_eq_false_iff] at hb4
          refine x0 (k := ?_)
          refine x0 (k := ?_)
          refine x0 (k := ?_)
          refine x0 (k := ?_)
          refine v0 (k := ?_)
          refine v0 (k := ?_)
          refine x0 (k := ?_)
          refine x0 (k := ?_)
          refine x0 (k := ?_)
          refine x0 (k := ?_)
          refine v0 (k := ?_)
          refine nil0 ?_
          repeat refine gwp_seq ?_
          refine cT (k := ?_)
          repeat refine gwp_seq ?_
          refine gwp_region ?_
          refine v0 (k := ?_)
          refine nil0 ?_
          repeat refine gwp_seq ?_
          refine gwp_ret ?_
          repeat (first | refine gthen_ret ?_ | refine gblock_ret ?_)
          refine fin_ret ?_
          refine fp (hR := ?_)
          simp only [PRes.at, GRes.ok.injEq, G.p.injEq, P.bool.injEq, true_and, and_true]
          first
          | (cases hv : s.valid
             · rfl
             · exfalso
               simp only [Sh.valid, Sh.head, Bool.and_eq_true, decide_eq_true_eq, Bool.not_eq_eq_eq_not, Bool.not_true, decide_eq_false_iff_not] at hv
               first
               | omega
               | (have := List.all_eq_true.1 hv.1.2 _ (List.mem_of_getElem? hx); simp [okS] at this; omega)
               | (have := List.all_eq_true.1 hv.2 _ (List.mem_of_getElem? hy); simp [okN] at this; omega))
          | (have e1 : k = s.sizes.length := by omega
             have e2 : j = s.notes.length := by omega
             subst e1 e2
             rw [List.take_length] at ha hb
             simp [Sh.valid, Sh.head, ha, hb]
             omega)
        · try simp only [decide_eq_true_eq, decide_eq_false_iff_not, Int.not_lt, Int.not_le, Bool.not_eq_eq_eq_not, Bool.not_true, Bool.not_false, Bool.and_eq_true, Bool.and_eq_false_iff, Bool.or_eq_true, Bool.or_eq_false_iff] at hb4
          refine w0 (k := ?_)
          refine w0 (k := ?_)
          refine w0 (k := ?_)
          refine w0 (k := ?_)
          refine v0 (k := ?_)
          refine v0 (k := ?_)
          refine b0 (k1 := fun hb5 => ?_) (k0 := fun hb5 => ?_)
          · try simp only [decide_eq_true_eq, decide_eq_false_iff_not, Int.not_lt, Int.not_le, Bool.not_eq_eq_eq_not, Bool.not_true, Bool.not_false, Bool.and_eq_true, Bool.and_eq_false_iff, Bool.or_eq_true, Bool.or_eq_false_iff] at hb5
            refine x0 (k := ?_)
            refine x0 (k := ?_)
            refine x0 (k := ?_)
            refine x0 (k := ?_)
            refine v0 (k := ?_)
            refine nil0 ?_
            repeat refine gwp_seq ?_
            refine cT (k := ?_)
            repeat refine gwp_seq ?_
            refine gwp_region ?_
            refine v0 (k := ?_)
            refine nil0 ?_
            repeat refine gwp_seq ?_
            refine gwp_ret ?_
            repeat (first | refine gthen_ret ?_ | refine gblock_ret ?_)
            refine fin_ret ?_
            refine fp (hR := ?_)
            simp only [PRes.at, GRes.ok.injEq, G.p.injEq, P.bool.injEq, true_and, and_true]
            first
            | (cases hv : s.valid
               · rfl
               · exfalso
                 simp only [Sh.valid, Sh.head, Bool.and_eq_true, decide_eq_true_eq, Bool.not_eq_eq_eq_not, Bool.not_true, decide_eq_false_iff_not] at hv
                 first
                 | omega
                 | (have := List.all_eq_true.1 hv.1.2 _ (List.mem_of_getElem? hx); simp [okS] at this; omega)
                 | (have := List.all_eq_true.1 hv.2 _ (List.mem_of_getElem? hy); simp [okN] at this; omega))
            | (have e1 : k = s.sizes.length := by omega
               have e2 : j = s.notes.length := by omega
               subst e1 e2
               rw [List.take_length] at ha hb
               simp [Sh.valid, Sh.head, ha, hb]
               omega)
          · try simp only [decide_eq_true_eq, decide_eq_false_iff_not, Int.not_lt, Int.not_le, Bool.not_eq_eq_eq_not, Bool.not_true, Bool.not_false, Bool.and_eq_true, Bool.and_eq_false_iff, Bool.or_eq_true, Bool.or_eq_false_iff] at hb5
            refine w0 (k := ?_)
            refine w0 (k := ?_)
            refine w0 (k := ?_)
            refine w0 (k := ?_)
            refine v0 (k := ?_)
            refine nil0 ?_
            repeat refine gwp_seq ?_
            refine cB (k1 := fun hb6 => ?_) (k0 := fun hb6 => ?_)
            · try simp only [decide_eq_true_eq, decide_eq_false_iff_not, Int.not_lt, Int.not_le, Bool.not_eq_eq_eq_not, Bool.not_true, Bool.not_false, Bool.and_eq_true, Bool.and_eq_false_iff, Bool.or_eq_true, Bool.or_eq_false_iff] at hb6
              repeat refine gwp_seq ?_
              refine gwp_region ?_
              refine v0 (k := ?_)
              refine nil0 ?_
              repeat refine gwp_seq ?_
              refine gwp_ret ?_
              repeat (first | refine gthen_ret ?_ | refine gblock_ret ?_)
              refine fin_ret ?_
              refine fp (hR := ?_)
              simp only [PRes.at, GRes.ok.injEq, G.p.injEq, P.bool.injEq, true_and, and_true]
              first
              | (cases hv : s.valid
                 · rfl
                 · exfalso
                   simp only [Sh.valid, Sh.head, Bool.and_eq_true, decide_eq_true_eq, Bool.not_eq_eq_eq_not, Bool.not_true, decide_eq_false_iff_not] at hv
                   first
                   | omega
                   | (have := List.all_eq_true.1 hv.1.2 _ (List.mem_of_getElem? hx); simp [okS] at this; omega)
                   | (have := List.all_eq_true.1 hv.2 _ (List.mem_of_getElem? hy); simp [okN] at this; omega))
              | (have e1 : k = s.sizes.length := by omega
                 have e2 : j = s.notes.length := by omega
                 subst e1 e2
                 rw [List.take_length] at ha hb
                 simp [Sh.valid, Sh.head, ha, hb]
                 omega)
            · try simp only [decide_eq_true_eq, decide_eq_false_iff_not, Int.not_lt, Int.not_le, Bool.not_eq_eq_eq_not, Bool.not_true, Bool.not_false, Bool.and_eq_true, Bool.and_eq_false_iff, Bool.or_eq_true, Bool.or_eq_false_iff] at hb6
              repeat refine gwp_seq ?_
              refine gwp_skip ?_
              refine cl [1] (k := ?_)
              repeat refine gwp_seq ?_
              refine gwp_region ?_
              refine v0 (k := ?_)
              refine nil0 ?_
              refine cl [1, 3] (k := ?_)
              repeat refine gwp_seq ?_
              refine gwp_block ?_
              repeat refine gwp_seq ?_
              refine gc_loop (fun n σ => ∃ k : Nat, (k ≤ s.sizes.length) ∧ ((s.sizes.take k).all okS = true) ∧ n = s.sizes.length - k ∧ σ = (sg [(1, .ref 110 0), (3, .p (.int .i64 k))] [(110, .cells [.p (.int .i64 s.num), .p (.list (s.sizes.map (.int .i64))), .p (.int .i64 s.lo), .p (.int .i64 s.hi), .p (.list (s.notes.map pn))] 0)] A [] : Sg E)) ?_ (fun n σ hI => ?_)
              · refine lbeg [1, 3] (hV := ?_)
                exact ⟨_, 0, by omega, rfl, rfl, rfl⟩
              obtain ⟨k, hk, ha, hn, rfl⟩ := hI
              repeat refine gwp_seq ?_
              refine gwp_region ?_
              refine v0 (k := ?_)
              refine v0 (k := ?_)
              refine v0 (k := ?_)
              refine v0 (k := ?_)
              refine v0 (k := ?_)
              refine nil0 ?_
              repeat refine gwp_seq ?_
              refine cB (k1 := fun hb7 => ?_) (k0 := fun hb7 => ?_)
              · try simp only [decide_eq_true_eq, decide_eq_false_iff_not, Int.not_lt, Int.not_le, Bool.not_eq_eq_eq_not, Bool.not_true, Bool.not_false, Bool.and_eq_true, Bool.and_eq_false_iff, Bool.or_eq_true, Bool.or_eq_false_iff] at hb7
                repeat refine gwp_seq ?_
                refine gwp_skip ?_
                refine cl [1, 3] (k := ?_)
                repeat refine gwp_seq ?_
                refine gwp_block ?_
                repeat refine gwp_seq ?_
                obtain ⟨x, hx⟩ := getE (l := s.sizes) (k := k) (by omega)
                refine gwp_region ?_
                refine v0 (k := ?_)
                refine v0 (k := ?_)
                refine v0 (k := ?_)
                refine v1 (hc := by (first | exact True.intro | (simp only [inI]; omega) | (simp [P.size, pn] <;> omega))) (k := ?_)
                refine v0 (k := ?_)
                refine pc0 (spec := s_in _ _ _) (hent := ent52) (k := ?_)
                refine v0 (k := ?_)
                refine nil0 ?_
                repeat refine gwp_seq ?_
                refine cB (k1 := fun hb8 => ?_) (k0 := fun hb8 => ?_)
                · try simp only [decide_eq_true_eq, decide_eq_false_iff_not, Int.not_lt, Int.not_le, Bool.not_eq_eq_eq_not, Bool.not_true, Bool.not_false, Bool.and_eq_true, Bool.and_eq_false_iff, Bool.or_eq_true, Bool.or_eq_false_iff] at hb8
                  repeat refine gwp_seq ?_
                  refine gwp_region ?_
                  refine v0 (k := ?_)
                  refine nil0 ?_
                  repeat refine gwp_seq ?_
                  refine gwp_ret ?_
                  repeat (first | refine gthen_ret ?_ | refine gblock_ret ?_)
                  refine fin_ret ?_
                  refine fp (hR := ?_)
                  simp only [PRes.at, GRes.ok.injEq, G.p.injEq, P.bool.injEq, true_and, and_true]
                  first
                  | (cases hv : s.valid
                     · rfl
                     · exfalso
                       simp only [Sh.valid, Sh.head, Bool.and_eq_true, decide_eq_true_eq, Bool.not_eq_eq_eq_not, Bool.not_true, decide_eq_false_iff_not] at hv
                       first
                       | omega
                       | (have := List.all_eq_true.1 hv.1.2 _ (List.mem_of_getElem? hx); simp [okS] at this; omega)
                       | (have := List.all_eq_true.1 hv.2 _ (List.mem_of_getElem? hy); simp [okN] at this; omega))
                  | (have e1 : k = s.sizes.length := by omega
                     have e2 : j = s.notes.length := by omega
                     subst e1 e2
                     rw [List.take_length] at ha hb
                     simp [Sh.valid, Sh.head, ha, hb]
                     omega)
                · try simp only [decide_eq_true_eq, decide_eq_false_iff_not, Int.not_lt, Int.not_le, Bool.not_eq_eq_eq_not, Bool.not_true, Bool.not_false, Bool.and_eq_true, Bool.and_eq_false_iff, Bool.or_eq_true, Bool.or_eq_false_iff] at hb8
                  repeat refine gwp_seq ?_
                  refine gwp_skip ?_
                  refine cl [1, 3] (k := ?_)
                  repeat refine gwp_seq ?_
                  refine gwp_region ?_
                  refine v0 (k := ?_)
                  refine v1 (hc := by (first | exact True.intro | (simp only [inI]; omega) | (simp [P.size, pn] <;> omega))) (k := ?_)
                  refine v0 (k := ?_)
                  refine nil0 ?_
                  refine lend [1, 3] (h := ?_) (hV := ?_) (n' := s.sizes.length - (k + 1))
                  · omega
                  exact ⟨k + 1, by omega, all_step hx (by simp [okS]; omega) ha, rfl, rfl⟩
              · try simp only [decide_eq_true_eq, decide_eq_false_iff_not, Int.not_lt, Int.not_le, Bool.not_eq_eq_eq_not, Bool.not_true, Bool.not_false, Bool.and_eq_true, Bool.and_eq_false_iff, Bool.or_eq_true, Bool.or_eq_false_iff] at hb7
                repeat refine gwp_seq ?_
                refine gwp_exit ?_
                repeat (first | refine gthen_exit ?_ | refine gblock_here ?_ | refine gblock_out rfl ?_)
                refine cl [1] (k := ?_)
                repeat refine gwp_seq ?_
                refine gwp_region ?_
                refine v0 (k := ?_)
                refine nil0 ?_
                refine cl [1, 4] (k := ?_)
                repeat refine gwp_seq ?_
                refine gwp_block ?_
                repeat refine gwp_seq ?_
                refine gc_loop (fun n σ => ∃ j : Nat, (j ≤ s.notes.length) ∧ ((s.notes.take j).all (okN s.num) = true) ∧ n = s.notes.length - j ∧ σ = (sg [(1, .ref 110 0), (4, .p (.int .i64 j))] [(110, .cells [.p (.int .i64 s.num), .p (.list (s.sizes.map (.int .i64))), .p (.int .i64 s.lo), .p (.int .i64 s.hi), .p (.list (s.notes.map pn))] 0)] A [] : Sg E)) ?_ (fun n σ hI => ?_)
                · refine lbeg [1, 4] (hV := ?_)
                  exact ⟨_, 0, by omega, rfl, rfl, rfl⟩
                obtain ⟨j, hj, hb, hn2, rfl⟩ := hI
                repeat refine gwp_seq ?_
                refine gwp_region ?_
                refine v0 (k := ?_)
                refine v0 (k := ?_)
                refine v0 (k := ?_)
                refine v0 (k := ?_)
                refine v0 (k := ?_)
                refine nil0 ?_
                repeat refine gwp_seq ?_
                refine cB (k1 := fun hb9 => ?_) (k0 := fun hb9 => ?_)
                · try simp only [decide_eq_true_eq, decide_eq_false_iff_not, Int.not_lt, Int.not_le, Bool.not_eq_eq_eq_not, Bool.not_true, Bool.not_false, Bool.and_eq_true, Bool.and_eq_false_iff, Bool.or_eq_true, Bool.or_eq_false_iff] at hb9
                  repeat refine gwp_seq ?_
                  refine gwp_skip ?_
                  refine cl [1, 4] (k := ?_)
                  repeat refine gwp_seq ?_
                  refine gwp_block ?_
                  repeat refine gwp_seq ?_
                  obtain ⟨y, hy⟩ := getE (l := s.notes) (k := j) (by omega)
                  refine gwp_region ?_
                  refine v0 (k := ?_)
                  refine v0 (k := ?_)
                  refine v0 (k := ?_)
                  refine v1 (hc := by (first | exact True.intro | (simp only [inI]; omega) | (simp [P.size, pn] <;> omega))) (k := ?_)
                  refine v0 (k := ?_)
                  refine n1 150 false (hc := by (first | exact True.intro | (simp only [inI]; omega) | (simp [P.size, pn] <;> omega))) (k := ?_)
                  refine s1 (hc := by (first | exact True.intro | (simp only [inI]; omega) | (simp [P.size, pn] <;> omega))) (k := ?_)
                  refine nil0 ?_
                  refine cl [1, 4, 5] (k := ?_)
                  repeat refine gwp_seq ?_
                  refine gwp_region ?_
                  refine v0 (k := ?_)
                  refine v0 (k := ?_)
                  refine v0 (k := ?_)
                  refine v0 (k := ?_)
                  refine v1 (hc := by (first | exact True.intro | (simp only [inI]; omega) | (simp [P.size, pn] <;> omega))) (k := ?_)
                  refine pc0 (spec := s_in _ _ _) (hent := ent52) (k := ?_)
                  refine v0 (k := ?_)
                  refine v0 (k := ?_)
                  refine b0 (k1 := fun hb10 => ?_) (k0 := fun hb10 => ?_)
                  · try simp only [decide_eq_true_eq, decide_eq_false_iff_not, Int.not_lt, Int.not_le, Bool.not_eq_eq_eq_not, Bool.not_true, Bool.not_false, Bool.and_eq_true, Bool.and_eq_false_iff, Bool.or_eq_true, Bool.or_eq_false_iff] at hb10
                    refine x0 (k := ?_)
                    refine x0 (k := ?_)
                    refine x0 (k := ?_)
                    refine x0 (k := ?_)
                    refine x0 (k := ?_)
                    refine x0 (k := ?_)
                    refine x0 (k := ?_)
                    refine v0 (k := ?_)
                    refine v0 (k := ?_)
                    refine x0 (k := ?_)
                    refine x0 (k := ?_)
                    refine x0 (k := ?_)
                    refine x0 (k := ?_)
                    refine x0 (k := ?_)
                    refine v0 (k := ?_)
                    refine nil0 ?_
                    repeat refine gwp_seq ?_
                    refine cT (k := ?_)
                    repeat refine gwp_seq ?_
                    refine gwp_region ?_
                    refine v0 (k := ?_)
                    refine nil0 ?_
                    repeat refine gwp_seq ?_
                    refine gwp_ret ?_
                    repeat (first | refine gthen_ret ?_ | refine gblock_ret ?_)
                    refine fin_ret ?_
                    refine fp (hR := ?_)
                    simp only [PRes.at, GRes.ok.injEq, G.p.injEq, P.bool.injEq, true_and, and_true]
                    first
                    | (cases hv : s.valid
                       · rfl
                       · exfalso
                         simp only [Sh.valid, Sh.head, Bool.and_eq_true, decide_eq_true_eq, Bool.not_eq_eq_eq_not, Bool.not_true, decide_eq_false_iff_not] at hv
                         first
                         | omega
                         | (have := List.all_eq_true.1 hv.1.2 _ (List.mem_of_getElem? hx); simp [okS] at this; omega)
                         | (have := List.all_eq_true.1 hv.2 _ (List.mem_of_getElem? hy); simp [okN] at this; omega))
                    | (have e1 : k = s.sizes.length := by omega
                       have e2 : j = s.notes.length := by omega
                       subst e1 e2
                       rw [List.take_length] at ha hb
                       simp [Sh.valid, Sh.head, ha, hb]
                       omega)
                  · try simp only [decide_eq_true_eq, decide_eq_false_iff_not, Int.not_lt, Int.not_le, Bool.not_eq_eq_eq_not, Bool.not_true, Bool.not_false, Bool.and_eq_true, Bool.and_eq_false_iff, Bool.or_eq_true, Bool.or_eq_false_iff] at hb10
                    refine w0 (k := ?_)
                    refine w0 (k := ?_)
                    refine w0 (k := ?_)
                    refine w0 (k := ?_)
                    refine w1 (hc := by (first | exact True.intro | (simp only [inI]; omega) | (simp [P.size, pn] <;> omega))) (k := ?_)
                    refine pcw (spec := s_in _ _ _) (hent := ent52) (k := ?_)
                    refine w0 (k := ?_)
                    refine v0 (k := ?_)
                    refine v0 (k := ?_)
                    refine b0 (k1 := fun hb11 => ?_) (k0 := fun hb11 => ?_)
                    · try simp only [decide_eq_true_eq, decide_eq_false_iff_not, Int.not_lt, Int.not_le, Bool.not_eq_eq_eq_not, Bool.not_true, Bool.not_false, Bool.and_eq_true, Bool.and_eq_false_iff, Bool.or_eq_true, Bool.or_eq_false_iff] at hb11
                      refine x0 (k := ?_)
                      refine x0 (k := ?_)
                      refine x0 (k := ?_)
                      refine x0 (k := ?_)
                      refine x0 (k := ?_)
                      refine v0 (k := ?_)
                      refine nil0 ?_
                      repeat refine gwp_seq ?_
                      refine cT (k := ?_)
                      repeat refine gwp_seq ?_
                      refine gwp_region ?_
                      refine v0 (k := ?_)
                      refine nil0 ?_
                      repeat refine gwp_seq ?_
                      refine gwp_ret ?_
                      repeat (first | refine gthen_ret ?_ | refine gblock_ret ?_)
                      refine fin_ret ?_
                      refine fp (hR := ?_)
                      simp only [PRes.at, GRes.ok.injEq, G.p.injEq, P.bool.injEq, true_and, and_true]
                      first
                      | (cases hv : s.valid
                         · rfl
                         · exfalso
                           simp only [Sh.valid, Sh.head, Bool.and_eq_true, decide_eq_true_eq, Bool.not_eq_eq_eq_not, Bool.not_true, decide_eq_false_iff_not] at hv
                           first
                           | omega
                           | (have := List.all_eq_true.1 hv.1.2 _ (List.mem_of_getElem? hx); simp [okS] at this; omega)
                           | (have := List.all_eq_true.1 hv.2 _ (List.mem_of_getElem? hy); simp [okN] at this; omega))
                      | (have e1 : k = s.sizes.length := by omega
                         have e2 : j = s.notes.length := by omega
                         subst e1 e2
                         rw [List.take_length] at ha hb
                         simp [Sh.valid, Sh.head, ha, hb]
                         omega)
                    · try simp only [decide_eq_true_eq, decide_eq_false_iff_not, Int.not_lt, Int.not_le, Bool.not_eq_eq_eq_not, Bool.not_true, Bool.not_false, Bool.and_eq_true, Bool.and_eq_false_iff, Bool.or_eq_true, Bool.or_eq_false_iff] at hb11
                      refine w0 (k := ?_)
                      refine w0 (k := ?_)
                      refine w0 (k := ?_)
                      refine w0 (k := ?_)
                      refine w0 (k := ?_)
                      refine v0 (k := ?_)
                      refine nil0 ?_
                      repeat refine gwp_seq ?_
                      refine cB (k1 := fun hb12 => ?_) (k0 := fun hb12 => ?_)
                      · try simp only [decide_eq_true_eq, decide_eq_false_iff_not, Int.not_lt, Int.not_le, Bool.not_eq_eq_eq_not, Bool.not_true, Bool.not_false, Bool.and_eq_true, Bool.and_eq_false_iff, Bool.or_eq_true, Bool.or_eq_false_iff] at hb12
                        repeat refine gwp_seq ?_
                        refine gwp_region ?_
                        refine v0 (k := ?_)
                        refine nil0 ?_
                        repeat refine gwp_seq ?_
                        refine gwp_ret ?_
                        repeat (first | refine gthen_ret ?_ | refine gblock_ret ?_)
                        refine fin_ret ?_
                        refine fp (hR := ?_)
                        simp only [PRes.at, GRes.ok.injEq, G.p.injEq, P.bool.injEq, true_and, and_true]
                        first
                        | (cases hv : s.valid
                           · rfl
                           · exfalso
                             simp only [Sh.valid, Sh.head, Bool.and_eq_true, decide_eq_true_eq, Bool.not_eq_eq_eq_not, Bool.not_true, decide_eq_false_iff_not] at hv
                             first
                             | omega
                             | (have := List.all_eq_true.1 hv.1.2 _ (List.mem_of_getElem? hx); simp [okS] at this; omega)
                             | (have := List.all_eq_true.1 hv.2 _ (List.mem_of_getElem? hy); simp [okN] at this; omega))
                        | (have e1 : k = s.sizes.length := by omega
                           have e2 : j = s.notes.length := by omega
                           subst e1 e2
                           rw [List.take_length] at ha hb
                           simp [Sh.valid, Sh.head, ha, hb]
                           omega)
                      · try simp only [decide_eq_true_eq, decide_eq_false_iff_not, Int.not_lt, Int.not_le, Bool.not_eq_eq_eq_not, Bool.not_true, Bool.not_false, Bool.and_eq_true, Bool.and_eq_false_iff, Bool.or_eq_true, Bool.or_eq_false_iff] at hb12
                        repeat refine gwp_seq ?_
                        refine gwp_skip ?_
                        refine cl [1, 4] (k := ?_)
                        repeat refine gwp_seq ?_
                        refine gwp_region ?_
                        refine v0 (k := ?_)
                        refine v1 (hc := by (first | exact True.intro | (simp only [inI]; omega) | (simp [P.size, pn] <;> omega))) (k := ?_)
                        refine v0 (k := ?_)
                        refine nil0 ?_
                        refine lend [1, 4] (h := ?_) (hV := ?_) (n' := s.notes.length - (j + 1))
                        · omega
                        exact ⟨j + 1, by omega, all_step hy (by simp [okN]; omega) hb, rfl, rfl⟩
                · try simp only [decide_eq_true_eq, decide_eq_false_iff_not, Int.not_lt, Int.not_le, Bool.not_eq_eq_eq_not, Bool.not_true, Bool.not_false, Bool.and_eq_true, Bool.and_eq_false_iff, Bool.or_eq_true, Bool.or_eq_false_iff] at hb9
                  repeat refine gwp_seq ?_
                  refine gwp_exit ?_
                  repeat (first | refine gthen_exit ?_ | refine gblock_here ?_ | refine gblock_out rfl ?_)
                  refine cl [] (k := ?_)
                  repeat refine gwp_seq ?_
                  refine gwp_region ?_
                  refine v0 (k := ?_)
                  refine nil0 ?_
                  repeat refine gwp_seq ?_
                  refine gwp_ret ?_
                  repeat (first | refine gthen_ret ?_ | refine gblock_ret ?_)
                  refine fin_ret ?_
                  refine fp (hR := ?_)
                  simp only [PRes.at, GRes.ok.injEq, G.p.injEq, P.bool.injEq, true_and, and_true]
                  first
                  | (cases hv : s.valid
                     · rfl
                     · exfalso
                       simp only [Sh.valid, Sh.head, Bool.and_eq_true, decide_eq_true_eq, Bool.not_eq_eq_eq_not, Bool.not_true, decide_eq_false_iff_not] at hv
                       first
                       | omega
                       | (have := List.all_eq_true.1 hv.1.2 _ (List.mem_of_getElem? hx); simp [okS] at this; omega)
                       | (have := List.all_eq_true.1 hv.2 _ (List.mem_of_getElem? hy); simp [okN] at this; omega))
                  | (have e1 : k = s.sizes.length := by omega
                     have e2 : j = s.notes.length := by omega
                     subst e1 e2
                     rw [List.take_length] at ha hb
                     simp [Sh.valid, Sh.head, ha, hb]
                     omega)
end Go.Proofs.Ytedihdnkalmoiaa

/- The document: sets of notes; which lists are ways. -/
namespace Go.Proofs.Ytedihdnkalmoiaa
open Go.Gh
set_option maxRecDepth 100000
set_option maxHeartbeats 4000000
theorem ent65 : Enters Try.prog 65 := Enters.mk Try.func65 (by kernel_rfl) rfl
theorem s_Has (set n : Nat) (hn : n ≤ 40) (hs : set ≤ 1048576) : PSpec Try.prog 65 [.int .i64 set, .int .i64 n] (.ok (.bool (set.testBit n))) := by
  refine pspec_of Try.func65 (rfl : Try.f65.body = some _) rfl ?_
  intro E A C hN hL
  replace hN : C.N = 11 := hN
  simp only [Gh.num, List.map_cons, List.map_nil, Nat.reduceAdd]
  have hp := Nat.two_pow_pos n
  obtain ⟨q, hq⟩ : ∃ q, set / 2 ^ n = q := ⟨_, rfl⟩
  have e1 : (set : Int).tdiv ((2 ^ n : Nat) : Int) = (q : Int) := by rw [← hq]; exact (Int.ofNat_tdiv set (2 ^ n)).symm
  have e2 : (q : Int).tmod 2 = ((q % 2 : Nat) : Int) := (Int.ofNat_tmod q 2).symm
  have e3 : q ≤ set := hq ▸ Nat.div_le_self _ _
  repeat refine gwp_seq ?_
  refine gwp_region ?_
  refine v0 (k := ?_)
  refine nil0 ?_
  refine cl [0, 1] (k := ?_)
  repeat refine gwp_seq ?_
  refine gwp_region ?_
  refine v0 (k := ?_)
  refine v0 (k := ?_)
  refine pc0 (spec := s_power _ hn) (hent := ent58) (k := ?_)
  refine v1 (hc := by (first | exact True.intro | decide | (simp only [inI]; omega) | (refine ⟨?_, ?_⟩ <;> (try simp only [inI]) <;> omega))) (k := ?_)
  refine v1 (hc := by (first | exact True.intro | decide | (simp only [inI]; omega) | (refine ⟨?_, ?_⟩ <;> (try simp only [inI]) <;> omega))) (k := ?_)
  refine v0 (k := ?_)
  refine v0 (k := ?_)
  refine nil0 ?_
  repeat refine gwp_seq ?_
  refine gwp_ret ?_
  repeat (first | refine gthen_ret ?_ | refine gblock_ret ?_)
  refine fin_ret ?_
  refine fp (hR := ?_)
  simp only [PRes.at, GRes.ok.injEq, G.p.injEq, P.bool.injEq, and_true]
  rw [Nat.testBit_eq_decide_div_mod_eq, hq]
  congr 1
  apply propext
  omega
theorem ent34 : Enters Try.prog 34 := Enters.mk Try.func34 (by kernel_rfl) rfl
theorem s_Notes (s : Sh) (h2 : s.notes.length ≤ 40) : PSpec Try.prog 34 [.agg [.int .i64 s.num, .list (s.sizes.map (.int .i64)), .int .i64 s.lo, .int .i64 s.hi, .list (s.notes.map pn)]] (.ok (.int .i64 ((2 ^ s.notes.length : Nat) - 1 : Int))) := by
  refine pspec_of Try.func34 (rfl : Try.f34.body = some _) rfl ?_
  intro E A C hN hL
  replace hN : C.N = 8 := hN
  simp only [Gh.num, List.map_cons, List.map_nil, Nat.reduceAdd]
  have hpn : ∀ n : Nt, pn n = P.agg [.int .i64 n.a, .int .i64 n.b, .bool n.s] := fun _ => rfl
  have hp := Nat.two_pow_pos s.notes.length
  have hq : 2 ^ s.notes.length ≤ 2 ^ 40 := Nat.pow_le_pow_right (by omega) h2
  repeat refine gwp_seq ?_
  refine gwp_region ?_
  refine n1 110 false (hc := by (first | exact True.intro | (simp only [inI]; omega) | (simp [P.size, pn] <;> omega))) (k := ?_)
  refine v0 (k := ?_)
  refine nil0 ?_
  refine cl [1] (k := ?_)
  repeat refine gwp_seq ?_
  refine gwp_region ?_
  refine v0 (k := ?_)
  refine v0 (k := ?_)
  refine v0 (k := ?_)
  refine pc0 (spec := s_power _ h2) (hent := ent58) (k := ?_)
  refine v1 (hc := by (first | exact True.intro | (simp only [inI]; omega) | (simp [P.size, pn] <;> omega))) (k := ?_)
  refine v0 (k := ?_)
  refine nil0 ?_
  repeat refine gwp_seq ?_
  refine gwp_ret ?_
  repeat (first | refine gthen_ret ?_ | refine gblock_ret ?_)
  refine fin_ret ?_
  refine fp (hR := ?_)
  rfl
theorem ent24 : Enters Try.prog 24 := Enters.mk Try.func24 (by kernel_rfl) rfl
theorem s_Ints (u v : List Int) (hu : u.length ≤ 1048576) (hv : v.length ≤ 1048576) : PSpec Try.prog 24 [.list (u.map (.int .i64)), .list (v.map (.int .i64))] (.ok (.bool (decide (u = v)))) := by
  refine pspec_of Try.func24 (rfl : Try.f24.body = some _) rfl ?_
  intro E A C hN hL
  replace hN : C.N = 26 := hN
  simp only [Gh.num, List.map_cons, List.map_nil, Nat.reduceAdd]
  repeat refine gwp_seq ?_
  refine gwp_region ?_
  refine v0 (k := ?_)
  refine nil0 ?_
  refine cl [0, 1] (k := ?_)
  repeat refine gwp_seq ?_
  refine gwp_region ?_
  refine v0 (k := ?_)
  refine v0 (k := ?_)
  refine v0 (k := ?_)
  refine v0 (k := ?_)
  refine v0 (k := ?_)
  refine nil0 ?_
  repeat refine gwp_seq ?_
  refine cB (k1 := fun hb1 => ?_) (k0 := fun hb1 => ?_)
  · try simp only [decide_eq_true_eq, decide_eq_false_iff_not, Int.not_lt, Int.not_le, Bool.not_eq_eq_eq_not, Bool.not_true, Bool.not_false, Bool.and_eq_true, Bool.and_eq_false_iff, Bool.or_eq_true, Bool.or_eq_false_iff] at hb1
    repeat refine gwp_seq ?_
    refine gwp_region ?_
    refine v0 (k := ?_)
    refine nil0 ?_
    repeat refine gwp_seq ?_
    refine gwp_ret ?_
    repeat (first | refine gthen_ret ?_ | refine gblock_ret ?_)
    refine fin_ret ?_
    refine fp (hR := ?_)
    simp only [PRes.at, GRes.ok.injEq, G.p.injEq, P.bool.injEq, and_true]
    symm
    first
    | (simp only [decide_eq_false_iff_not]; rintro rfl; omega)
    | (simp only [decide_eq_false_iff_not]; rintro rfl; rw [hx] at hy; simp_all)
    | (simp only [decide_eq_true_eq]; refine List.ext_getElem? fun j => ?_; by_cases e : j < k
       · exact hj j e
       · rw [List.getElem?_eq_none (by omega), List.getElem?_eq_none (by omega)])
  · try simp only [decide_eq_true_eq, decide_eq_false_iff_not, Int.not_lt, Int.not_le, Bool.not_eq_eq_eq_not, Bool.not_true, Bool.not_false, Bool.and_eq_true, Bool.and_eq_false_iff, Bool.or_eq_true, Bool.or_eq_false_iff] at hb1
    repeat refine gwp_seq ?_
    refine gwp_skip ?_
    refine cl [0, 1] (k := ?_)
    repeat refine gwp_seq ?_
    refine gwp_region ?_
    refine v0 (k := ?_)
    refine nil0 ?_
    refine cl [0, 1, 5] (k := ?_)
    repeat refine gwp_seq ?_
    refine gwp_block ?_
    repeat refine gwp_seq ?_
    refine gc_loop (fun n σ => ∃ k : Nat, (k ≤ u.length) ∧ (k ≤ v.length) ∧ (∀ j, j < k → u[j]? = v[j]?) ∧ n = u.length - k ∧ σ = (sg [(0, .p (.list (u.map (.int .i64)))), (1, .p (.list (v.map (.int .i64)))), (5, .p (.int .i64 k))] [] A [] : Sg E)) ?_ (fun n σ hI => ?_)
    · refine lbeg [0, 1, 5] (hV := ?_)
      exact ⟨_, 0, by omega, by omega, fun j hj => by omega, rfl, rfl⟩
    obtain ⟨k, hk, hk2, hj, hn, rfl⟩ := hI
    repeat refine gwp_seq ?_
    refine gwp_region ?_
    refine v0 (k := ?_)
    refine v0 (k := ?_)
    refine v0 (k := ?_)
    refine v0 (k := ?_)
    refine nil0 ?_
    repeat refine gwp_seq ?_
    refine cB (k1 := fun hb2 => ?_) (k0 := fun hb2 => ?_)
    · try simp only [decide_eq_true_eq, decide_eq_false_iff_not, Int.not_lt, Int.not_le, Bool.not_eq_eq_eq_not, Bool.not_true, Bool.not_false, Bool.and_eq_true, Bool.and_eq_false_iff, Bool.or_eq_true, Bool.or_eq_false_iff] at hb2
      repeat refine gwp_seq ?_
      refine gwp_skip ?_
      refine cl [0, 1, 5] (k := ?_)
      repeat refine gwp_seq ?_
      refine gwp_block ?_
      repeat refine gwp_seq ?_
      obtain ⟨x, hx⟩ := getE (l := u) (k := k) (by omega)
      obtain ⟨y, hy⟩ := getE (l := v) (k := k) (by omega)
      refine rd ?_
      refine d0 0 (k := ?_)
      refine d0 1 (k := ?_)
      refine d1 2 (hc := by (first | exact True.intro | (simp only [inI]; omega) | (simp [P.size, pn] <;> omega))) (k := ?_)
      refine d0 3 (k := ?_)
      refine d0 4 (k := ?_)
      refine d0 5 (k := ?_)
      refine d1 6 (hc := by (first | exact True.intro | (simp only [inI]; omega) | (simp [P.size, pn] <;> omega))) (k := ?_)
      refine d0 7 (k := ?_)
      refine d0 8 (k := ?_)
      refine dz 9 [0, 0, 3, 7, 0, 0, 48, 112, 255] (h := ?_)
      refine de 9 (h := ?_)
      repeat refine gwp_seq ?_
      refine cB (k1 := fun hb3 => ?_) (k0 := fun hb3 => ?_)
      · try simp only [decide_eq_true_eq, decide_eq_false_iff_not, Int.not_lt, Int.not_le, Bool.not_eq_eq_eq_not, Bool.not_true, Bool.not_false, Bool.and_eq_true, Bool.and_eq_false_iff, Bool.or_eq_true, Bool.or_eq_false_iff] at hb3
        repeat refine gwp_seq ?_
        refine gwp_region ?_
        refine v0 (k := ?_)
        refine nil0 ?_
        repeat refine gwp_seq ?_
        refine gwp_ret ?_
        repeat (first | refine gthen_ret ?_ | refine gblock_ret ?_)
        refine fin_ret ?_
        refine fp (hR := ?_)
        simp only [PRes.at, GRes.ok.injEq, G.p.injEq, P.bool.injEq, and_true]
        symm
        first
        | (simp only [decide_eq_false_iff_not]; rintro rfl; omega)
        | (simp only [decide_eq_false_iff_not]; rintro rfl; rw [hx] at hy; simp_all)
        | (simp only [decide_eq_true_eq]; refine List.ext_getElem? fun j => ?_; by_cases e : j < k
           · exact hj j e
           · rw [List.getElem?_eq_none (by omega), List.getElem?_eq_none (by omega)])
      · try simp only [decide_eq_true_eq, decide_eq_false_iff_not, Int.not_lt, Int.not_le, Bool.not_eq_eq_eq_not, Bool.not_true, Bool.not_false, Bool.and_eq_true, Bool.and_eq_false_iff, Bool.or_eq_true, Bool.or_eq_false_iff] at hb3
        repeat refine gwp_seq ?_
        refine gwp_skip ?_
        refine cl [0, 1, 5] (k := ?_)
        repeat refine gwp_seq ?_
        refine gwp_region ?_
        refine v0 (k := ?_)
        refine v1 (hc := by (first | exact True.intro | (simp only [inI]; omega) | (simp [P.size, pn] <;> omega))) (k := ?_)
        refine v0 (k := ?_)
        refine nil0 ?_
        refine lend [0, 1, 5] (h := ?_) (hV := ?_) (n' := u.length - (k + 1))
        · omega
        exact ⟨k + 1, by omega, by omega, fun j hj2 => by
            by_cases e : j = k
            · subst e; rw [hx, hy]; simp_all
            · exact hj j (by omega), rfl, rfl⟩
    · try simp only [decide_eq_true_eq, decide_eq_false_iff_not, Int.not_lt, Int.not_le, Bool.not_eq_eq_eq_not, Bool.not_true, Bool.not_false, Bool.and_eq_true, Bool.and_eq_false_iff, Bool.or_eq_true, Bool.or_eq_false_iff] at hb2
      repeat refine gwp_seq ?_
      refine gwp_exit ?_
      repeat (first | refine gthen_exit ?_ | refine gblock_here ?_ | refine gblock_out rfl ?_)
      refine cl [] (k := ?_)
      repeat refine gwp_seq ?_
      refine gwp_region ?_
      refine v0 (k := ?_)
      refine nil0 ?_
      repeat refine gwp_seq ?_
      refine gwp_ret ?_
      repeat (first | refine gthen_ret ?_ | refine gblock_ret ?_)
      refine fin_ret ?_
      refine fp (hR := ?_)
      simp only [PRes.at, GRes.ok.injEq, G.p.injEq, P.bool.injEq, and_true]
      symm
      first
      | (simp only [decide_eq_false_iff_not]; rintro rfl; omega)
      | (simp only [decide_eq_false_iff_not]; rintro rfl; rw [hx] at hy; simp_all)
      | (simp only [decide_eq_true_eq]; refine List.ext_getElem? fun j => ?_; by_cases e : j < k
         · exact hj j e
         · rw [List.getElem?_eq_none (by omega), List.getElem?_eq_none (by omega)])
theorem ent35 : Enters Try.prog 35 := Enters.mk Try.func35 (by kernel_rfl) rfl
theorem s_Way (s : Sh) (set : Nat) (w : List Int) (hv : s.valid = true) (hw : w.length = s.sizes.length) (hs : set ≤ 1048576) : PSpec Try.prog 35 [.agg [.int .i64 s.num, .list (s.sizes.map (.int .i64)), .int .i64 s.lo, .int .i64 s.hi, .list (s.notes.map pn)], .int .i64 set, .list (w.map (.int .i64))] (.ok (.bool (wayM s set w))) := by
  refine pspec_of Try.func35 (rfl : Try.f35.body = some _) rfl ?_
  intro E A C hN hL
  replace hN : C.N = 100 := hN
  simp only [Gh.num, List.map_cons, List.map_nil, Nat.reduceAdd]
  have hpn : ∀ n : Nt, pn n = P.agg [.int .i64 n.a, .int .i64 n.b, .bool n.s] := fun _ => rfl
  have hnum := valid_num hv
  repeat refine gwp_seq ?_
  refine gwp_region ?_
  refine n1 130 false (hc := by (first | exact True.intro | (simp only [inI]; omega) | (simp [P.size, pn] <;> omega))) (k := ?_)
  refine v0 (k := ?_)
  refine nil0 ?_
  refine cl [1, 2, 3] (k := ?_)
  repeat refine gwp_seq ?_
  refine gwp_region ?_
  refine v0 (k := ?_)
  refine nil0 ?_
  refine cl [1, 2, 3, 7] (k := ?_)
  repeat refine gwp_seq ?_
  refine gwp_block ?_
  repeat refine gwp_seq ?_
  refine gc_loop (fun n σ => ∃ i : Nat, (i ≤ w.length) ∧ (∀ a, a < i → ∀ b, b < a → sizeOk s w a b = true) ∧ n = w.length - i ∧ σ = (sg [(1, .p (.int .i64 set)), (2, .p (.list (w.map (.int .i64)))), (3, .ref 130 0), (7, .p (.int .i64 i))] [(130, .cells [.p (.int .i64 s.num), .p (.list (s.sizes.map (.int .i64))), .p (.int .i64 s.lo), .p (.int .i64 s.hi), .p (.list (s.notes.map pn))] 0)] A [] : Sg E)) ?_ (fun n σ hI => ?_)
  · refine lbeg [1, 2, 3, 7] (hV := ?_)
    exact ⟨_, 0, by omega, fun a ha => by omega, rfl, rfl⟩
  obtain ⟨i, hi, ha, hn, rfl⟩ := hI
  repeat refine gwp_seq ?_
  refine gwp_region ?_
  refine v0 (k := ?_)
  refine v0 (k := ?_)
  refine v0 (k := ?_)
  refine v0 (k := ?_)
  refine nil0 ?_
  repeat refine gwp_seq ?_
  refine cB (k1 := fun hb1 => ?_) (k0 := fun hb1 => ?_)
  · try simp only [decide_eq_true_eq, decide_eq_false_iff_not, Int.not_lt, Int.not_le, Bool.not_eq_eq_eq_not, Bool.not_true, Bool.not_false, Bool.and_eq_true, Bool.and_eq_false_iff, Bool.or_eq_true, Bool.or_eq_false_iff] at hb1
    repeat refine gwp_seq ?_
    refine gwp_skip ?_
    refine cl [1, 2, 3, 7] (k := ?_)
    repeat refine gwp_seq ?_
    refine gwp_block ?_
    repeat refine gwp_seq ?_
    refine gwp_region ?_
    refine v0 (k := ?_)
    refine nil0 ?_
    refine cl [1, 2, 3, 7, 8] (k := ?_)
    repeat refine gwp_seq ?_
    refine gwp_block ?_
    repeat refine gwp_seq ?_
    refine gc_loop (fun n σ => ∃ k : Nat, (k ≤ i) ∧ (∀ b, b < k → sizeOk s w i b = true) ∧ n = i - k ∧ σ = (sg [(1, .p (.int .i64 set)), (2, .p (.list (w.map (.int .i64)))), (3, .ref 130 0), (7, .p (.int .i64 i)), (8, .p (.int .i64 k))] [(130, .cells [.p (.int .i64 s.num), .p (.list (s.sizes.map (.int .i64))), .p (.int .i64 s.lo), .p (.int .i64 s.hi), .p (.list (s.notes.map pn))] 0)] A [] : Sg E)) ?_ (fun n σ hI => ?_)
    · refine lbeg [1, 2, 3, 7, 8] (hV := ?_)
      exact ⟨_, 0, by omega, fun a ha => by omega, rfl, rfl⟩
    obtain ⟨k, hk, hb, hn2, rfl⟩ := hI
    repeat refine gwp_seq ?_
    refine gwp_region ?_
    refine v0 (k := ?_)
    refine v0 (k := ?_)
    refine v0 (k := ?_)
    refine nil0 ?_
    repeat refine gwp_seq ?_
    refine cB (k1 := fun hb2 => ?_) (k0 := fun hb2 => ?_)
    · try simp only [decide_eq_true_eq, decide_eq_false_iff_not, Int.not_lt, Int.not_le, Bool.not_eq_eq_eq_not, Bool.not_true, Bool.not_false, Bool.and_eq_true, Bool.and_eq_false_iff, Bool.or_eq_true, Bool.or_eq_false_iff] at hb2
      repeat refine gwp_seq ?_
      refine gwp_skip ?_
      refine cl [1, 2, 3, 7, 8] (k := ?_)
      repeat refine gwp_seq ?_
      refine gwp_block ?_
      repeat refine gwp_seq ?_
      obtain ⟨x, hx⟩ := getE (l := w) (k := i) (by omega)
      obtain ⟨y, hy⟩ := getE (l := w) (k := k) (by omega)
      obtain ⟨p, hp⟩ := getE (l := s.sizes) (k := i) (by omega)
      obtain ⟨q, hq⟩ := getE (l := s.sizes) (k := k) (by omega)
      refine rd ?_
      refine d0 0 (k := ?_)
      refine d0 1 (k := ?_)
      refine d1 2 (hc := by (first | exact True.intro | (simp only [inI]; omega) | (simp [P.size, pn] <;> omega))) (k := ?_)
      refine d0 3 (k := ?_)
      refine d0 4 (k := ?_)
      refine d0 5 (k := ?_)
      refine d1 6 (hc := by (first | exact True.intro | (simp only [inI]; omega) | (simp [P.size, pn] <;> omega))) (k := ?_)
      refine d0 7 (k := ?_)
      refine d0 8 (k := ?_)
      refine d0 9 (k := ?_)
      refine db0 10 31 (k1 := fun hb3 => ?_) (k0 := fun hb3 => ?_)
      · try simp only [decide_eq_true_eq, decide_eq_false_iff_not, Int.not_lt, Int.not_le, Bool.not_eq_eq_eq_not, Bool.not_true, Bool.not_false, Bool.and_eq_true, Bool.and_eq_false_iff, Bool.or_eq_true, Bool.or_eq_false_iff] at hb3
        refine dw0 10 (k := ?_)
        refine dw0 11 (k := ?_)
        refine dw0 12 (k := ?_)
        refine dw1 13 (hc := by (first | exact True.intro | (simp only [inI]; omega) | (simp [P.size, pn] <;> omega))) (k := ?_)
        refine dw0 14 (k := ?_)
        refine dw0 15 (k := ?_)
        refine dw0 16 (k := ?_)
        refine dw0 17 (k := ?_)
        refine dw1 18 (hc := by (first | exact True.intro | (simp only [inI]; omega) | (simp [P.size, pn] <;> omega))) (k := ?_)
        refine dw0 19 (k := ?_)
        refine dw0 20 (k := ?_)
        refine d0 21 (k := ?_)
        refine d0 22 (k := ?_)
        refine db0 23 44 (k1 := fun hb4 => ?_) (k0 := fun hb4 => ?_)
        · try simp only [decide_eq_true_eq, decide_eq_false_iff_not, Int.not_lt, Int.not_le, Bool.not_eq_eq_eq_not, Bool.not_true, Bool.not_false, Bool.and_eq_true, Bool.and_eq_false_iff, Bool.or_eq_true, Bool.or_eq_false_iff] at hb4
          refine dw0 23 (k := ?_)
          refine dw0 24 (k := ?_)
          refine dw0 25 (k := ?_)
          refine dw1 26 (hc := by (first | exact True.intro | (simp only [inI]; omega) | (simp [P.size, pn] <;> omega))) (k := ?_)
          refine dw0 27 (k := ?_)
          refine dw0 28 (k := ?_)
          refine d0 29 (k := ?_)
          refine d0 30 (k := ?_)
          refine db0 31 52 (k1 := fun hb5 => ?_) (k0 := fun hb5 => ?_)
          · try simp only [decide_eq_true_eq, decide_eq_false_iff_not, Int.not_lt, Int.not_le, Bool.not_eq_eq_eq_not, Bool.not_true, Bool.not_false, Bool.and_eq_true, Bool.and_eq_false_iff, Bool.or_eq_true, Bool.or_eq_false_iff] at hb5
            refine dw0 31 (k := ?_)
            refine dw0 32 (k := ?_)
            refine dw0 33 (k := ?_)
            refine dw1 34 (hc := by (first | exact True.intro | (simp only [inI]; omega) | (simp [P.size, pn] <;> omega))) (k := ?_)
            refine dw0 35 (k := ?_)
            refine dw0 36 (k := ?_)
            refine d0 37 (k := ?_)
            refine dz 38 [0, 0, 3, 7, 0, 0, 48, 112, 255, 511, 1023, 2047, 1023, 8191, 16383, 1023, 33791, 1023, 230399, 492543, 1048575, 2097151, 4194303, 8388607, 16777215, 8388607, 67108863, 134217727, 268435455, 536870911, 1073741823, 2147483647, 4294967295, 2147483647, 17179869183, 34359738367, 68719476735, 137438953471] (h := ?_)
            refine de 38 (h := ?_)
            repeat refine gwp_seq ?_
            refine cB (k1 := fun hb6 => ?_) (k0 := fun hb6 => ?_)
            · try simp only [decide_eq_true_eq, decide_eq_false_iff_not, Int.not_lt, Int.not_le, Bool.not_eq_eq_eq_not, Bool.not_true, Bool.not_false, Bool.and_eq_true, Bool.and_eq_false_iff, Bool.or_eq_true, Bool.or_eq_false_iff] at hb6
              repeat refine gwp_seq ?_
              refine gwp_region ?_
              refine v0 (k := ?_)
              refine nil0 ?_
              repeat refine gwp_seq ?_
              refine gwp_ret ?_
              repeat (first | refine gthen_ret ?_ | refine gblock_ret ?_)
              refine fin_ret ?_
              refine fp (hR := ?_)
              simp only [PRes.at, GRes.ok.injEq, G.p.injEq, P.bool.injEq, and_true]
              symm
              first
              | exact wayM_size (i := i) (k := k) (by omega) (by omega) (by simp [sizeOk, hx, hy, hp, hq]; omega)
              | exact wayM_note (i := m) (by omega) (by simp_all [noteOk])
              | rw [wayM_all (fun i hi => ha i (by omega)) (fun a ha => hc a (by omega)), hw]
            · try simp only [decide_eq_true_eq, decide_eq_false_iff_not, Int.not_lt, Int.not_le, Bool.not_eq_eq_eq_not, Bool.not_true, Bool.not_false, Bool.and_eq_true, Bool.and_eq_false_iff, Bool.or_eq_true, Bool.or_eq_false_iff] at hb6
              repeat refine gwp_seq ?_
              refine gwp_skip ?_
              refine cl [1, 2, 3, 7, 8] (k := ?_)
              repeat refine gwp_seq ?_
              refine gwp_region ?_
              refine v0 (k := ?_)
              refine v1 (hc := by (first | exact True.intro | (simp only [inI]; omega) | (simp [P.size, pn] <;> omega))) (k := ?_)
              refine v0 (k := ?_)
              refine nil0 ?_
              refine lend [1, 2, 3, 7, 8] (h := ?_) (hV := ?_) (n' := i - (k + 1))
              · omega
              exact ⟨k + 1, by omega, fun b h4 => by
                  by_cases e : b = k
                  · subst e; simp [sizeOk, hx, hy, hp, hq]; omega
                  · exact hb b (by omega), rfl, rfl⟩
          · try simp only [decide_eq_true_eq, decide_eq_false_iff_not, Int.not_lt, Int.not_le, Bool.not_eq_eq_eq_not, Bool.not_true, Bool.not_false, Bool.and_eq_true, Bool.and_eq_false_iff, Bool.or_eq_true, Bool.or_eq_false_iff] at hb5
            refine dx0 31 (k := ?_)
            refine dx0 32 (k := ?_)
            refine dx0 33 (k := ?_)
            refine dx0 34 (k := ?_)
            refine dx0 35 (k := ?_)
            refine dx0 36 (k := ?_)
            refine d0 37 (k := ?_)
            refine dz 38 [0, 0, 3, 7, 0, 0, 48, 112, 255, 511, 1023, 2047, 1023, 8191, 16383, 1023, 33791, 1023, 230399, 492543, 1048575, 2097151, 4194303, 8388607, 16777215, 8388607, 67108863, 134217727, 268435455, 536870911, 1073741823, 2147483647, 4294967295, 2147483647, 17179869183, 34359738367, 68719476735, 137438953471] (h := ?_)
            refine de 38 (h := ?_)
            repeat refine gwp_seq ?_
            refine cF (k := ?_)
            repeat refine gwp_seq ?_
            refine gwp_skip ?_
            refine cl [1, 2, 3, 7, 8] (k := ?_)
            repeat refine gwp_seq ?_
            refine gwp_region ?_
            refine v0 (k := ?_)
            refine v1 (hc := by (first | exact True.intro | (simp only [inI]; omega) | (simp [P.size, pn] <;> omega))) (k := ?_)
            refine v0 (k := ?_)
            refine nil0 ?_
            refine lend [1, 2, 3, 7, 8] (h := ?_) (hV := ?_) (n' := i - (k + 1))
            · omega
            exact ⟨k + 1, by omega, fun b h4 => by
                by_cases e : b = k
                · subst e; simp [sizeOk, hx, hy, hp, hq]; omega
                · exact hb b (by omega), rfl, rfl⟩
        · try simp only [decide_eq_true_eq, decide_eq_false_iff_not, Int.not_lt, Int.not_le, Bool.not_eq_eq_eq_not, Bool.not_true, Bool.not_false, Bool.and_eq_true, Bool.and_eq_false_iff, Bool.or_eq_true, Bool.or_eq_false_iff] at hb4
          refine dx0 23 (k := ?_)
          refine dx0 24 (k := ?_)
          refine dx0 25 (k := ?_)
          refine dx0 26 (k := ?_)
          refine dx0 27 (k := ?_)
          refine dx0 28 (k := ?_)
          refine d0 29 (k := ?_)
          refine d0 30 (k := ?_)
          refine dx0 31 (k := ?_)
          refine dx0 32 (k := ?_)
          refine dx0 33 (k := ?_)
          refine dx0 34 (k := ?_)
          refine dx0 35 (k := ?_)
          refine dx0 36 (k := ?_)
          refine d0 37 (k := ?_)
          refine dz 38 [0, 0, 3, 7, 0, 0, 48, 112, 255, 511, 1023, 2047, 1023, 8191, 16383, 1023, 33791, 1023, 230399, 492543, 1048575, 2097151, 4194303, 8388607, 16777215, 8388607, 67108863, 134217727, 268435455, 536870911, 1073741823, 2147483647, 4294967295, 2147483647, 17179869183, 34359738367, 68719476735, 137438953471] (h := ?_)
          refine de 38 (h := ?_)
          repeat refine gwp_seq ?_
          refine cF (k := ?_)
          repeat refine gwp_seq ?_
          refine gwp_skip ?_
          refine cl [1, 2, 3, 7, 8] (k := ?_)
          repeat refine gwp_seq ?_
          refine gwp_region ?_
          refine v0 (k := ?_)
          refine v1 (hc := by (first | exact True.intro | (simp only [inI]; omega) | (simp [P.size, pn] <;> omega))) (k := ?_)
          refine v0 (k := ?_)
          refine nil0 ?_
          refine lend [1, 2, 3, 7, 8] (h := ?_) (hV := ?_) (n' := i - (k + 1))
          · omega
          exact ⟨k + 1, by omega, fun b h4 => by
              by_cases e : b = k
              · subst e; simp [sizeOk, hx, hy, hp, hq]; omega
              · exact hb b (by omega), rfl, rfl⟩
      · try simp only [decide_eq_true_eq, decide_eq_false_iff_not, Int.not_lt, Int.not_le, Bool.not_eq_eq_eq_not, Bool.not_true, Bool.not_false, Bool.and_eq_true, Bool.and_eq_false_iff, Bool.or_eq_true, Bool.or_eq_false_iff] at hb3
        refine dx0 10 (k := ?_)
        refine dx0 11 (k := ?_)
        refine dx0 12 (k := ?_)
        refine dx0 13 (k := ?_)
        refine dx0 14 (k := ?_)
        refine dx0 15 (k := ?_)
        refine dx0 16 (k := ?_)
        refine dx0 17 (k := ?_)
        refine dx0 18 (k := ?_)
        refine dx0 19 (k := ?_)
        refine dx0 20 (k := ?_)
        refine d0 21 (k := ?_)
        refine d0 22 (k := ?_)
        refine dx0 23 (k := ?_)
        refine dx0 24 (k := ?_)
        refine dx0 25 (k := ?_)
        refine dx0 26 (k := ?_)
        refine dx0 27 (k := ?_)
        refine dx0 28 (k := ?_)
        refine d0 29 (k := ?_)
        refine d0 30 (k := ?_)
        refine dx0 31 (k := ?_)
        refine dx0 32 (k := ?_)
        refine dx0 33 (k := ?_)
        refine dx0 34 (k := ?_)
        refine dx0 35 (k := ?_)
        refine dx0 36 (k := ?_)
        refine d0 37 (k := ?_)
        refine dz 38 [0, 0, 3, 7, 0, 0, 48, 112, 255, 511, 1023, 2047, 1023, 8191, 16383, 1023, 33791, 1023, 230399, 492543, 1048575, 2097151, 4194303, 8388607, 16777215, 8388607, 67108863, 134217727, 268435455, 536870911, 1073741823, 2147483647, 4294967295, 2147483647, 17179869183, 34359738367, 68719476735, 137438953471] (h := ?_)
        refine de 38 (h := ?_)
        repeat refine gwp_seq ?_
        refine cF (k := ?_)
        repeat refine gwp_seq ?_
        refine gwp_skip ?_
        refine cl [1, 2, 3, 7, 8] (k := ?_)
        repeat refine gwp_seq ?_
        refine gwp_region ?_
        refine v0 (k := ?_)
        refine v1 (hc := by (first | exact True.intro | (simp only [inI]; omega) | (simp [P.size, pn] <;> omega))) (k := ?_)
        refine v0 (k := ?_)
        refine nil0 ?_
        refine lend [1, 2, 3, 7, 8] (h := ?_) (hV := ?_) (n' := i - (k + 1))
        · omega
        exact ⟨k + 1, by omega, fun b h4 => by
            by_cases e : b = k
            · subst e; simp [sizeOk, hx, hy, hp, hq]; omega
            · exact hb b (by omega), rfl, rfl⟩
    · try simp only [decide_eq_true_eq, decide_eq_false_iff_not, Int.not_lt, Int.not_le, Bool.not_eq_eq_eq_not, Bool.not_true, Bool.not_false, Bool.and_eq_true, Bool.and_eq_false_iff, Bool.or_eq_true, Bool.or_eq_false_iff] at hb2
      repeat refine gwp_seq ?_
      refine gwp_exit ?_
      repeat (first | refine gthen_exit ?_ | refine gblock_here ?_ | refine gblock_out rfl ?_)
      refine cl [1, 2, 3, 7] (k := ?_)
      repeat refine gwp_seq ?_
      refine gwp_region ?_
      refine v0 (k := ?_)
      refine v1 (hc := by (first | exact True.intro | (simp only [inI]; omega) | (simp [P.size, pn] <;> omega))) (k := ?_)
      refine v0 (k := ?_)
      refine nil0 ?_
      refine lend [1, 2, 3, 7] (h := ?_) (hV := ?_) (n' := w.length - (i + 1))
      · omega
      exact ⟨i + 1, by omega, fun a h3 b h4 => by
          by_cases e : a = i
          · subst e; exact hb b (by omega)
          · exact ha a (by omega) b h4, rfl, rfl⟩
  · try simp only [decide_eq_true_eq, decide_eq_false_iff_not, Int.not_lt, Int.not_le, Bool.not_eq_eq_eq_not, Bool.not_true, Bool.not_false, Bool.and_eq_true, Bool.and_eq_false_iff, Bool.or_eq_true, Bool.or_eq_false_iff] at hb1
    repeat refine gwp_seq ?_
    refine gwp_exit ?_
    repeat (first | refine gthen_exit ?_ | refine gblock_here ?_ | refine gblock_out rfl ?_)
    refine cl [1, 2, 3] (k := ?_)
    repeat refine gwp_seq ?_
    refine gwp_region ?_
    refine v0 (k := ?_)
    refine nil0 ?_
    refine cl [1, 2, 3, 9] (k := ?_)
    repeat refine gwp_seq ?_
    refine gwp_block ?_
    repeat refine gwp_seq ?_
    refine gc_loop (fun n σ => ∃ m : Nat, (m ≤ s.notes.length) ∧ (∀ a, a < m → noteOk s set w a = true) ∧ n = s.notes.length - m ∧ σ = (sg [(1, .p (.int .i64 set)), (2, .p (.list (w.map (.int .i64)))), (3, .ref 130 0), (9, .p (.int .i64 m))] [(130, .cells [.p (.int .i64 s.num), .p (.list (s.sizes.map (.int .i64))), .p (.int .i64 s.lo), .p (.int .i64 s.hi), .p (.list (s.notes.map pn))] 0)] A [] : Sg E)) ?_ (fun n σ hI => ?_)
    · refine lbeg [1, 2, 3, 9] (hV := ?_)
      exact ⟨_, 0, by omega, fun a ha => by omega, rfl, rfl⟩
    obtain ⟨m, hm, hc, hn3, rfl⟩ := hI
    repeat refine gwp_seq ?_
    refine gwp_region ?_
    refine v0 (k := ?_)
    refine v0 (k := ?_)
    refine v0 (k := ?_)
    refine v0 (k := ?_)
    refine v0 (k := ?_)
    refine nil0 ?_
    repeat refine gwp_seq ?_
    refine cB (k1 := fun hb7 => ?_) (k0 := fun hb7 => ?_)
    · try simp only [decide_eq_true_eq, decide_eq_false_iff_not, Int.not_lt, Int.not_le, Bool.not_eq_eq_eq_not, Bool.not_true, Bool.not_false, Bool.and_eq_true, Bool.and_eq_false_iff, Bool.or_eq_true, Bool.or_eq_false_iff] at hb7
      repeat refine gwp_seq ?_
      refine gwp_skip ?_
      refine cl [1, 2, 3, 9] (k := ?_)
      repeat refine gwp_seq ?_
      refine gwp_block ?_
      repeat refine gwp_seq ?_
      obtain ⟨z, hz⟩ := getE (l := s.notes) (k := m) (by omega)
      obtain ⟨z1, z2, z3, z4, z5⟩ := valid_note hv hz
      obtain ⟨xa, hxa⟩ := getI (l := w) z1 (by omega)
      obtain ⟨xb, hxb⟩ := getI (l := w) z3 (by omega)
      refine gwp_region ?_
      refine v0 (k := ?_)
      refine v0 (k := ?_)
      refine v0 (k := ?_)
      refine v1 (hc := by (first | exact True.intro | (simp only [inI]; omega) | (simp [P.size, pn] <;> omega))) (k := ?_)
      refine v0 (k := ?_)
      refine n1 200 false (hc := by (first | exact True.intro | (simp only [inI]; omega) | (simp [P.size, pn] <;> omega))) (k := ?_)
      refine s1 (hc := by (first | exact True.intro | (simp only [inI]; omega) | (simp [P.size, pn] <;> omega))) (k := ?_)
      refine nil0 ?_
      refine cl [1, 2, 3, 9, 10] (k := ?_)
      repeat refine gwp_seq ?_
      refine rd ?_
      refine d0 0 (k := ?_)
      refine d0 1 (k := ?_)
      refine dpc0 2 (spec := s_Has set m (by omega) hs) (hent := ent65) (k := ?_)
      refine d0 3 (k := ?_)
      refine db0 4 75 (k1 := fun hb8 => ?_) (k0 := fun hb8 => ?_)
      · try simp only [decide_eq_true_eq, decide_eq_false_iff_not, Int.not_lt, Int.not_le, Bool.not_eq_eq_eq_not, Bool.not_true, Bool.not_false, Bool.and_eq_true, Bool.and_eq_false_iff, Bool.or_eq_true, Bool.or_eq_false_iff] at hb8
        refine dw0 4 (k := ?_)
        refine dw0 5 (k := ?_)
        refine dw0 6 (k := ?_)
        refine dw1 7 (hc := by (first | exact True.intro | (simp only [inI]; omega) | (simp [P.size, pn] <;> omega))) (k := ?_)
        refine dw0 8 (k := ?_)
        refine dw0 9 (k := ?_)
        refine dw0 10 (k := ?_)
        refine dw0 11 (k := ?_)
        refine dw1 12 (hc := by (first | exact True.intro | (simp only [inI]; omega) | (simp [P.size, pn] <;> omega))) (k := ?_)
        refine dw0 13 (k := ?_)
        refine dw0 14 (k := ?_)
        refine dw0 15 (k := ?_)
        refine dw0 16 (k := ?_)
        refine dw0 17 (k := ?_)
        refine d0 18 (k := ?_)
        refine dz 19 [0, 0, 3, 7, 15, 15, 47, 127, 255, 15, 15, 1039, 3599, 7695, 16383, 15, 32783, 131071, 262143] (h := ?_)
        refine de 19 (h := ?_)
        repeat refine gwp_seq ?_
        refine cB (k1 := fun hb9 => ?_) (k0 := fun hb9 => ?_)
        · try simp only [decide_eq_true_eq, decide_eq_false_iff_not, Int.not_lt, Int.not_le, Bool.not_eq_eq_eq_not, Bool.not_true, Bool.not_false, Bool.and_eq_true, Bool.and_eq_false_iff, Bool.or_eq_true, Bool.or_eq_false_iff] at hb9
          repeat refine gwp_seq ?_
          refine gwp_region ?_
          refine v0 (k := ?_)
          refine nil0 ?_
          repeat refine gwp_seq ?_
          refine gwp_ret ?_
          repeat (first | refine gthen_ret ?_ | refine gblock_ret ?_)
          refine fin_ret ?_
          refine fp (hR := ?_)
          simp only [PRes.at, GRes.ok.injEq, G.p.injEq, P.bool.injEq, and_true]
          symm
          first
          | exact wayM_size (i := i) (k := k) (by omega) (by omega) (by simp [sizeOk, hx, hy, hp, hq]; omega)
          | exact wayM_note (i := m) (by omega) (by simp_all [noteOk])
          | rw [wayM_all (fun i hi => ha i (by omega)) (fun a ha => hc a (by omega)), hw]
        · try simp only [decide_eq_true_eq, decide_eq_false_iff_not, Int.not_lt, Int.not_le, Bool.not_eq_eq_eq_not, Bool.not_true, Bool.not_false, Bool.and_eq_true, Bool.and_eq_false_iff, Bool.or_eq_true, Bool.or_eq_false_iff] at hb9
          repeat refine gwp_seq ?_
          refine gwp_skip ?_
          refine cl [1, 2, 3, 9] (k := ?_)
          repeat refine gwp_seq ?_
          refine gwp_region ?_
          refine v0 (k := ?_)
          refine v1 (hc := by (first | exact True.intro | (simp only [inI]; omega) | (simp [P.size, pn] <;> omega))) (k := ?_)
          refine v0 (k := ?_)
          refine nil0 ?_
          refine lend [1, 2, 3, 9] (h := ?_) (hV := ?_) (n' := s.notes.length - (m + 1))
          · omega
          exact ⟨m + 1, by omega, fun b h4 => by
              by_cases e : b = m
              · subst e; simp [noteOk, hz, hxa, hxb]; first | (right; simpa using (by assumption : (decide (xa = xb) == z.s) = true)) | (left; assumption)
              · exact hc b (by omega), rfl, rfl⟩
      · try simp only [decide_eq_true_eq, decide_eq_false_iff_not, Int.not_lt, Int.not_le, Bool.not_eq_eq_eq_not, Bool.not_true, Bool.not_false, Bool.and_eq_true, Bool.and_eq_false_iff, Bool.or_eq_true, Bool.or_eq_false_iff] at hb8
        refine dx0 4 (k := ?_)
        refine dx0 5 (k := ?_)
        refine dx0 6 (k := ?_)
        refine dx0 7 (k := ?_)
        refine dx0 8 (k := ?_)
        refine dx0 9 (k := ?_)
        refine dx0 10 (k := ?_)
        refine dx0 11 (k := ?_)
        refine dx0 12 (k := ?_)
        refine dx0 13 (k := ?_)
        refine dx0 14 (k := ?_)
        refine dx0 15 (k := ?_)
        refine dx0 16 (k := ?_)
        refine dx0 17 (k := ?_)
        refine d0 18 (k := ?_)
        refine dz 19 [0, 0, 3, 7, 15, 15, 47, 127, 255, 15, 15, 1039, 3599, 7695, 16383, 15, 32783, 131071, 262143] (h := ?_)
        refine de 19 (h := ?_)
        repeat refine gwp_seq ?_
        refine cF (k := ?_)
        repeat refine gwp_seq ?_
        refine gwp_skip ?_
        refine cl [1, 2, 3, 9] (k := ?_)
        repeat refine gwp_seq ?_
        refine gwp_region ?_
        refine v0 (k := ?_)
        refine v1 (hc := by (first | exact True.intro | (simp only [inI]; omega) | (simp [P.size, pn] <;> omega))) (k := ?_)
        refine v0 (k := ?_)
        refine nil0 ?_
        refine lend [1, 2, 3, 9] (h := ?_) (hV := ?_) (n' := s.notes.length - (m + 1))
        · omega
        exact ⟨m + 1, by omega, fun b h4 => by
            by_cases e : b = m
            · subst e; simp [noteOk, hz, hxa, hxb]; first | (right; simpa using (by assumption : (decide (xa = xb) == z.s) = true)) | (left; assumption)
            · exact hc b (by omega), rfl, rfl⟩
    · try simp only [decide_eq_true_eq, decide_eq_false_iff_not, Int.not_lt, Int.not_le, Bool.not_eq_eq_eq_not, Bool.not_true, Bool.not_false, Bool.and_eq_true, Bool.and_eq_false_iff, Bool.or_eq_true, Bool.or_eq_false_iff] at hb7
      repeat refine gwp_seq ?_
      refine gwp_exit ?_
      repeat (first | refine gthen_exit ?_ | refine gblock_here ?_ | refine gblock_out rfl ?_)
      refine cl [2, 3] (k := ?_)
      repeat refine gwp_seq ?_
      refine rd ?_
      refine d0 0 (k := ?_)
      refine dpc0 1 (spec := s_Many w (by omega)) (hent := ent32) (k := ?_)
      refine d0 2 (k := ?_)
      refine d0 3 (k := ?_)
      refine d0 4 (k := ?_)
      refine d0 5 (k := ?_)
      refine d0 6 (k := ?_)
      refine d0 7 (k := ?_)
      refine dpc0 8 (spec := s_in _ _ _) (hent := ent52) (k := ?_)
      refine d0 9 (k := ?_)
      refine dz 10 [0, 1, 0, 4, 12, 0, 32, 96, 255, 511] (h := ?_)
      refine de 10 (h := ?_)
      repeat refine gwp_seq ?_
      refine gwp_ret ?_
      repeat (first | refine gthen_ret ?_ | refine gblock_ret ?_)
      refine fin_ret ?_
      refine fp (hR := ?_)
      simp only [PRes.at, GRes.ok.injEq, G.p.injEq, P.bool.injEq, and_true]
      symm
      first
      | exact wayM_size (i := i) (k := k) (by omega) (by omega) (by simp [sizeOk, hx, hy, hp, hq]; omega)
      | exact wayM_note (i := m) (by omega) (by simp_all [noteOk])
      | rw [wayM_all (fun i hi => ha i (by omega)) (fun a ha => hc a (by omega)), hw]
end Go.Proofs.Ytedihdnkalmoiaa

/- The document's search for the smallest sets, in plain Lean. -/
namespace Go.Proofs.Ytedihdnkalmoiaa
open Go.Gh

theorem popF_succ : ∀ (f q : Nat), q < 2 ^ f → popF (f + 1) q = popF f q
  | 0, q, h => by
    have : q = 0 := by simpa using h
    subst this; rfl
  | f + 1, q, h => by
    rw [popF, popF_succ f (q / 2) (by rw [Nat.pow_succ] at h; omega), popF]
theorem popF_le : ∀ (f q : Nat), popF f q ≤ f
  | 0, _ => Nat.le_refl _
  | f + 1, q => by
    have := popF_le f (q / 2)
    rw [popF]; omega
theorem pop_le (n : Nat) : pop n ≤ 64 := popF_le 64 n
theorem pop_half {m : Nat} (h : m < 4096) : pop m = m % 2 + pop (m / 2) := by
  show m % 2 + popF 63 (m / 2) = m % 2 + popF 64 (m / 2)
  rw [popF_succ 63 (m / 2) (by omega)]
theorem pop_zero : pop 0 = 0 := by decide
def canR (s : Sh) (set : Nat) : Bool := decide (0 < ((allM s set).length : Int))
def clR (s : Sh) : Nat → Nat × Bool
  | 0 => (0, false)
  | k + 1 => if ((clR s k).2 = false ∨ pop k < pop (clR s k).1) ∧ canR s k = false then (k, true) else clR s k
theorem clR_le (s : Sh) : ∀ k, (clR s k).1 ≤ k
  | 0 => Nat.le_refl _
  | k + 1 => by
    have := clR_le s k
    rw [clR]; split <;> simp <;> omega
theorem clR_a {s : Sh} {k : Nat} (h : (clR s k).2 = false) (h2 : canR s k = false) : clR s (k + 1) = (k, true) := if_pos ⟨.inl h, h2⟩
theorem clR_b {s : Sh} {k : Nat} (h2 : canR s k = true) : clR s (k + 1) = clR s k := if_neg (by simp [h2])
theorem clR_c {s : Sh} {k : Nat} (h : (pop k : Int) < (pop (clR s k).1 : Int)) (h2 : canR s k = false) : clR s (k + 1) = (k, true) := if_pos ⟨.inr (by omega), h2⟩
theorem clR_e {s : Sh} {k : Nat} (h : (clR s k).2 = true) (h2 : ((pop (clR s k).1 : Nat) : Int) ≤ (pop k : Int)) : clR s (k + 1) = clR s k := if_neg (by simp [h]; omega)
def drR (s : Sh) : Nat → Nat
  | 0 => everyN s
  | k + 1 => if pop k < pop (drR s k) ∧ canR s (everyN s - k) = true then k else drR s k
theorem drR_le (s : Sh) : ∀ k, k ≤ everyN s + 1 → drR s k ≤ everyN s
  | 0, _ => Nat.le_refl _
  | k + 1, h => by
    have := drR_le s k (by omega)
    rw [drR]; split <;> omega
theorem drR_a {s : Sh} {k : Nat} (h : (pop k : Int) < (pop (drR s k) : Int)) (h2 : canR s (everyN s - k) = true) : drR s (k + 1) = k := if_pos ⟨by omega, h2⟩
theorem drR_b {s : Sh} {k : Nat} (h2 : canR s (everyN s - k) = false) : drR s (k + 1) = drR s k := if_neg (by simp [h2])
theorem drR_c {s : Sh} {k : Nat} (h2 : ((pop (drR s k) : Nat) : Int) ≤ (pop k : Int)) : drR s (k + 1) = drR s k := if_neg (by omega)
def clashR (s : Sh) : Nat := if canR s 0 = false then 0 else (clR s (everyN s + 1)).1
def dropR (s : Sh) : Nat := if canR s 0 = false then 0 else drR s (everyN s + 1)
theorem clashR_1 {s : Sh} (h : canR s 0 = false) : clashR s = 0 := if_pos h
theorem clashR_2 {s : Sh} (h : canR s 0 = true) : clashR s = (clR s (everyN s + 1)).1 := if_neg (by simp [h])
theorem dropR_1 {s : Sh} (h : canR s 0 = false) : dropR s = 0 := if_pos h
theorem dropR_2 {s : Sh} (h : canR s 0 = true) : dropR s = drR s (everyN s + 1) := if_neg (by simp [h])
end Go.Proofs.Ytedihdnkalmoiaa

/- The document: the set of all notes; how many are in a set. -/
namespace Go.Proofs.Ytedihdnkalmoiaa
open Go.Gh
set_option maxRecDepth 100000
set_option maxHeartbeats 4000000
theorem s_NotesE (s : Sh) (hv : s.valid = true) : PSpec Try.prog 34 [.agg [.int .i64 s.num, .list (s.sizes.map (.int .i64)), .int .i64 s.lo, .int .i64 s.hi, .list (s.notes.map pn)]] (.ok (.int .i64 (everyN s : Int))) := by
  have hn := valid_num hv
  have h := s_Notes s (by omega)
  have hp := Nat.two_pow_pos s.notes.length
  rw [show ((everyN s : Nat) : Int) = ((2 ^ s.notes.length : Nat) : Int) - 1 by simp only [everyN]; omega]
  exact h
theorem ent38 : Enters Try.prog 38 := Enters.mk Try.func38 (by kernel_rfl) rfl
theorem r_Size (n : Nat) (h : n < 4096) : PSpec Try.prog 38 [.int .i64 n] (.ok (.int .i64 (pop n))) := by
  refine pspec_of Try.func38 (rfl : Try.f38.body = some _) rfl ?_
  intro E A C hN hL
  replace hN : C.N = 13 := hN
  simp only [Gh.num, List.map_cons, List.map_nil, Nat.reduceAdd]
  repeat refine gwp_seq ?_
  refine gwp_region ?_
  refine v0 (k := ?_)
  refine nil0 ?_
  refine cl [0] (k := ?_)
  repeat refine gwp_seq ?_
  refine gwp_region ?_
  refine v0 (k := ?_)
  refine nil0 ?_
  refine cl [0, 3] (k := ?_)
  repeat refine gwp_seq ?_
  refine gwp_block ?_
  repeat refine gwp_seq ?_
  refine gc_loop (fun mz σ => ∃ (c m : Nat), (c + pop m = pop n) ∧ (m ≤ n) ∧ mz = m ∧ σ = (sg [(0, .p (.int .i64 m)), (3, .p (.int .i64 c))] [] A [] : Sg E)) ?_ (fun mz σ hI => ?_)
  · refine lbeg [0, 3] (hV := ?_)
    exact ⟨_, 0, n, by omega, by omega, rfl, rfl⟩
  obtain ⟨c, m, hc, hm, hnn, rfl⟩ := hI
  have hp1 := pop_half (m := m) (by omega)
  have hp2 := pop_le n
  have e1 : (m : Int).tmod 2 = ((m % 2 : Nat) : Int) := (Int.ofNat_tmod m 2).symm
  have e2 : (m : Int).tdiv 2 = ((m / 2 : Nat) : Int) := (Int.ofNat_tdiv m 2).symm
  repeat refine gwp_seq ?_
  refine gwp_region ?_
  refine v0 (k := ?_)
  refine v0 (k := ?_)
  refine nil0 ?_
  repeat refine gwp_seq ?_
  refine cB (k1 := fun hb1 => ?_) (k0 := fun hb1 => ?_)
  · try simp only [decide_eq_true_eq, decide_eq_false_iff_not, Int.not_lt, Int.not_le, Bool.not_eq_eq_eq_not, Bool.not_true, Bool.not_false, Bool.and_eq_true, Bool.and_eq_false_iff, Bool.or_eq_true, Bool.or_eq_false_iff] at hb1
    repeat refine gwp_seq ?_
    refine gwp_skip ?_
    refine cl [0, 3] (k := ?_)
    repeat refine gwp_seq ?_
    refine gwp_block ?_
    repeat refine gwp_seq ?_
    refine gwp_region ?_
    refine v0 (k := ?_)
    refine v0 (k := ?_)
    refine v1 (hc := by (first | exact True.intro | decide | (simp only [inI]; omega) | (refine ⟨?_, ?_⟩ <;> (try simp only [inI]) <;> omega))) (k := ?_)
    refine v1 (hc := by (first | exact True.intro | decide | (simp only [inI]; omega) | (refine ⟨?_, ?_⟩ <;> (try simp only [inI]) <;> omega))) (k := ?_)
    refine v0 (k := ?_)
    refine nil0 ?_
    refine cl [0, 3] (k := ?_)
    repeat refine gwp_seq ?_
    refine gwp_region ?_
    refine v0 (k := ?_)
    refine v1 (hc := by (first | exact True.intro | decide | (simp only [inI]; omega) | (refine ⟨?_, ?_⟩ <;> (try simp only [inI]) <;> omega))) (k := ?_)
    refine v0 (k := ?_)
    refine nil0 ?_
    repeat refine gblock_normal ?_
    refine lend [0, 3] (h := ?_) (hV := ?_) (n' := m / 2)
    · omega
    exact ⟨c + m % 2, m / 2, by omega, by omega, rfl, rfl⟩
  · try simp only [decide_eq_true_eq, decide_eq_false_iff_not, Int.not_lt, Int.not_le, Bool.not_eq_eq_eq_not, Bool.not_true, Bool.not_false, Bool.and_eq_true, Bool.and_eq_false_iff, Bool.or_eq_true, Bool.or_eq_false_iff] at hb1
    repeat refine gwp_seq ?_
    refine gwp_exit ?_
    repeat (first | refine gthen_exit ?_ | refine gnoGoto_exit ?_ | refine gblock_here ?_ | refine gblock_out rfl ?_)
    refine cl [3] (k := ?_)
    repeat refine gwp_seq ?_
    refine gwp_region ?_
    refine v0 (k := ?_)
    refine v0 (k := ?_)
    refine nil0 ?_
    repeat refine gwp_seq ?_
    refine gwp_ret ?_
    repeat (first | refine gthen_ret ?_ | refine gblock_ret ?_ | refine gnoGoto_ret ?_)
    refine fin_ret ?_
    refine fp (hR := ?_)
    obtain rfl : m = 0 := by omega
    rw [← hc, pop_zero]
    rfl
end Go.Proofs.Ytedihdnkalmoiaa

/- The program: Count, Idle. -/
namespace Go.Proofs.Ytedihdnkalmoiaa
open Go.Gh
set_option maxRecDepth 100000
set_option maxHeartbeats 4000000
/-- The ways in which the notes of a set are right. -/
def waysS (s : Sh) (set : Nat) : List (List Int) := (onN s).filter (rightW s set)
theorem ent16 : Enters Try.prog 16 := Enters.mk Try.func16 (by kernel_rfl) rfl
theorem p_count {E : Env Try.prog} {A : E.α} (s : Sh) (hv : s.valid = true) : Gh.Spec E 16 [.p (.agg [.int .i64 s.num, .list (s.sizes.map (.int .i64)), .int .i64 s.lo, .int .i64 s.hi, .list (s.notes.map pn)])] (mkHp []) A (fun y => y = .ok (.p (.tuple [.int .i64 (waysS s (everyN s)).length, .int .i64 0])) (mkHp []) A) := by
  refine specD_of Try.func16 (rfl : Try.f16.body = some _) (Nat.le_of_ble_eq_true rfl) (fun id h => ?_) (fun j id h => ?_) ?_
  · exact wf1x h
  · exact wf2x h
  intro C hN hL
  replace hN : C.N = 11 := hN
  simp only [Gh.num, List.map_cons, List.map_nil, Nat.reduceAdd]
  have hn := valid_num hv
  have hm := onN_many s (by omega)
  have hev := everyN_lt (s := s) (by omega)
  repeat refine gwp_seq ?_
  refine gwp_region ?_
  refine n1 110 false (hc := by (first | exact True.intro | (simp only [inI]; omega) | (simp [P.size, nt, wP, pn, all_int, allOne_p, goods_p, allOne, goods, good, G.one, P.one, P.cells] <;> first | omega | assumption | simp_all))) (k := ?_)
  refine v0 (k := ?_)
  refine n1 130 false (hc := by (first | exact True.intro | (simp only [inI]; omega) | (simp [P.size, nt, wP, pn, all_int, allOne_p, goods_p, allOne, goods, good, G.one, P.one, P.cells] <;> first | omega | assumption | simp_all))) (k := ?_)
  refine nil0 ?_
  refine cl [1, 3] (k := ?_)
  repeat refine gwp_seq ?_
  refine gwp_region ?_
  refine df0 (k := ?_)
  refine nil0 ?_
  refine cl [1, 3] (k := ?_)
  repeat refine gwp_seq ?_
  refine gwp_region ?_
  refine v0 (k := ?_)
  refine oc0 [(640, 5000)] [] [1] none (spec := s_open_t s hv) (hent := ent43) (k := ?_)
  refine v0 (k := ?_)
  refine nil0 ?_
  refine cl [3, 4] (k := ?_)
  repeat refine gwp_seq ?_
  refine gwp_region ?_
  refine v0 (k := ?_)
  refine v0 (k := ?_)
  refine oc0 [] [] [9] none (spec := s_everyN s (by omega)) (hent := ent50) (k := ?_)
  refine oc0 [] [] [10, 0] none (spec := s_many s (everyN s) (onN s) (by omega) (onN_len8 s) (by omega) (by omega) (nv_of hv)) (hent := ent53) (k := ?_)
  refine v0 (k := ?_)
  refine s1 (hc := by (first | exact True.intro | (simp only [inI]; omega) | (simp [P.size, nt, wP, pn, all_int, allOne_p, goods_p, allOne, goods, good, G.one, P.one, P.cells] <;> first | omega | assumption | simp_all))) (k := ?_)
  refine nil0 ?_
  repeat refine gwp_seq ?_
  refine gwp_ret ?_
  repeat (first | refine gthen_ret ?_ | refine gblock_ret ?_ | refine gnoGoto_ret ?_)
  refine finD_ret ?_
  refine ocall [130] [(0, 130)] (spec := d_none 0) (hent := ent42) (h := ?_)
  refine out_nil ?_
  refine fp2 (hR := ?_)
  rfl
theorem p_count_f {E : Env Try.prog} {A : E.α} (s : Sh) (h1 : s.sizes.length ≤ 1048576) (h2 : s.notes.length ≤ 1048576) (hv : s.valid = false) : Gh.Spec E 16 [.p (.agg [.int .i64 s.num, .list (s.sizes.map (.int .i64)), .int .i64 s.lo, .int .i64 s.hi, .list (s.notes.map pn)])] (mkHp []) A (fun y => y = .ok (.p (.tuple [.int .i64 0, .int .i64 1])) (mkHp []) A) := by
  refine specD_of Try.func16 (rfl : Try.f16.body = some _) (Nat.le_of_ble_eq_true rfl) (fun id h => ?_) (fun j id h => ?_) ?_
  · exact wf1x h
  · exact wf2x h
  intro C hN hL
  replace hN : C.N = 11 := hN
  simp only [Gh.num, List.map_cons, List.map_nil, Nat.reduceAdd]
  repeat refine gwp_seq ?_
  refine gwp_region ?_
  refine n1 110 false (hc := by (first | exact True.intro | (simp only [inI]; omega) | (simp [P.size, nt, wP, pn, all_int, allOne_p, goods_p, allOne, goods, good, G.one, P.one, P.cells] <;> first | omega | assumption | simp_all))) (k := ?_)
  refine v0 (k := ?_)
  refine n1 130 false (hc := by (first | exact True.intro | (simp only [inI]; omega) | (simp [P.size, nt, wP, pn, all_int, allOne_p, goods_p, allOne, goods, good, G.one, P.one, P.cells] <;> first | omega | assumption | simp_all))) (k := ?_)
  refine nil0 ?_
  refine cl [1, 2, 3] (k := ?_)
  repeat refine gwp_seq ?_
  refine gwp_region ?_
  refine df0 (k := ?_)
  refine nil0 ?_
  refine cl [1, 2, 3] (k := ?_)
  repeat refine gwp_seq ?_
  refine gwp_region ?_
  refine v0 (k := ?_)
  refine op0 [] [] [1] none (spec := s_open_f s h1 h2 hv) (hent := ent43) (k := ?_)
  repeat (first | refine gthen_panic ?_ | refine gblock_panic ?_)
  refine finD_panic ?_
  refine ocall [130] [(0, 130)] (spec := d_some 0 1) (hent := ent42) (h := ?_)
  refine out_nil ?_
  refine fp2 (hR := ?_)
  rfl
end Go.Proofs.Ytedihdnkalmoiaa

/- The program: Plates, First. -/
namespace Go.Proofs.Ytedihdnkalmoiaa
open Go.Gh
set_option maxRecDepth 100000
set_option maxHeartbeats 4000000
/-- The least and the greatest of numbers so far. -/
def putF (e : Int × Int × Bool) (n : Int) : Int × Int × Bool := if e.2.2 then (min e.1 n, max e.2.1 n, true) else (min n n, max n n, true)
theorem putF_some (e : Int × Int × Bool) (n : Int) : (putF e n).2.2 = true := by simp only [putF]; split <;> rfl
theorem s_platesN (s : Sh) (hv : s.valid = true) (w : List Int) (hw : w.length = 8) : PSpec Try.prog 57 [.agg (w.map (.int .i64)), .int .i64 s.num] (.ok (.int .i64 (cntP w s.sizes.length))) := by
  have hn := valid_num hv
  rw [← hn.2.2.1]
  exact s_plates w s.sizes.length hw (by omega)
theorem ent56 : Enters Try.prog 56 := Enters.mk Try.func56 (by kernel_rfl) rfl
theorem s_put {E : Env Try.prog} {A : E.α} (ns : List Int) (e0 : Int × Int × Bool) (hl : ns.length ≤ 1048576) : Gh.Spec E 56 [.ref 0 0, .p (.list (ns.map (.int .i64)))] (mkHp [(0, .cells [.p (.int .i64 e0.1), .p (.int .i64 e0.2.1), .p (.bool e0.2.2)] 0)]) A (fun y => y = .ok (.p (.tuple [])) (mkHp [(0, .cells [.p (.int .i64 (ns.foldl putF e0).1), .p (.int .i64 (ns.foldl putF e0).2.1), .p (.bool (ns.foldl putF e0).2.2)] 0)]) A) := by
  refine spec_of Try.func56 (rfl : Try.f56.body = some _) (Nat.le_of_ble_eq_true rfl) (fun id h => ?_) (fun j id h => ?_) ?_
  · exact wf1x h
  · exact wf2x h
  intro C hN hL
  replace hN : C.N = 41 := hN
  simp only [Gh.num, List.map_cons, List.map_nil, Nat.reduceAdd]
  repeat refine gwp_seq ?_
  refine gwp_region ?_
  refine v0 (k := ?_)
  refine v0 (k := ?_)
  refine v0 (k := ?_)
  refine nil0 ?_
  refine cl [0, 6, 7, 8] (k := ?_)
  repeat refine gwp_seq ?_
  refine gwp_block ?_
  repeat refine gwp_seq ?_
  refine gc_loop (fun mz σ => ∃ (k : Nat) (e : Int × Int × Bool), (k ≤ ns.length) ∧ (e = (ns.take k).foldl putF e0) ∧ mz = ns.length - k ∧ σ = (sg [(0, .ref 0 0), (6, .p (.list (ns.map (.int .i64)))), (7, .p (.int .i64 ns.length)), (8, .p (.int .i64 k))] [(0, .cells [.p (.int .i64 e.1), .p (.int .i64 e.2.1), .p (.bool e.2.2)] 0)] A [] : Sg E)) ?_ (fun mz σ hI => ?_)
  · refine lbeg [0, 6, 7, 8] (hV := ?_)
    exact ⟨_, 0, e0, by omega, rfl, rfl, rfl⟩
  obtain ⟨k, e, hk, he, hnn, rfl⟩ := hI
  repeat refine gwp_seq ?_
  refine gwp_region ?_
  refine v0 (k := ?_)
  refine nil0 ?_
  repeat refine gwp_seq ?_
  refine cB (k1 := fun hb1 => ?_) (k0 := fun hb1 => ?_)
  · try simp only [decide_eq_true_eq, decide_eq_false_iff_not, Int.not_lt, Int.not_le, Bool.not_eq_eq_eq_not, Bool.not_true, Bool.not_false, Bool.and_eq_true, Bool.and_eq_false_iff, Bool.or_eq_true, Bool.or_eq_false_iff] at hb1
    repeat refine gwp_seq ?_
    refine gwp_skip ?_
    refine cl [0, 6, 7, 8] (k := ?_)
    repeat refine gwp_seq ?_
    refine gwp_block ?_
    repeat refine gwp_seq ?_
    obtain ⟨n, hx⟩ := getE (l := ns) (k := k) (by omega)
    refine gwp_region ?_
    refine v1 (hc := by (first | exact True.intro | (simp only [inI]; omega) | (simp [P.size, nt, wP, pn, all_int, allOne_p, goods_p, allOne, goods, good, G.one, P.one, P.cells] <;> first | omega | assumption | simp_all))) (k := ?_)
    refine v0 (k := ?_)
    refine v0 (k := ?_)
    refine nil0 ?_
    refine cl [0, 5, 6, 7, 8] (k := ?_)
    repeat refine gwp_seq ?_
    refine gwp_region ?_
    refine v0 (k := ?_)
    refine v0 (k := ?_)
    refine v0 (k := ?_)
    refine v0 (k := ?_)
    refine v0 (k := ?_)
    refine nil0 ?_
    repeat refine gwp_seq ?_
    refine cB (k1 := fun hb2 => ?_) (k0 := fun hb2 => ?_)
    · try simp only [decide_eq_true_eq, decide_eq_false_iff_not, Int.not_lt, Int.not_le, Bool.not_eq_eq_eq_not, Bool.not_true, Bool.not_false, Bool.and_eq_true, Bool.and_eq_false_iff, Bool.or_eq_true, Bool.or_eq_false_iff] at hb2
      repeat refine gwp_seq ?_
      refine gwp_region ?_
      refine v0 (k := ?_)
      refine v0 (k := ?_)
      refine v0 (k := ?_)
      refine v0 (k := ?_)
      refine v0 (k := ?_)
      refine s1 (hc := by (first | exact True.intro | (simp only [inI]; omega) | (simp [P.size, nt, wP, pn, all_int, allOne_p, goods_p, allOne, goods, good, G.one, P.one, P.cells] <;> first | omega | assumption | simp_all))) (k := ?_)
      refine nil0 ?_
      refine cl [0, 5, 6, 7, 8] (k := ?_)
      repeat refine gwp_seq ?_
      refine rd ?_
      refine da0 0 (k := ?_)
      refine da0 1 (k := ?_)
      refine da0 2 (k := ?_)
      refine da0 3 (k := ?_)
      refine da0 4 (k := ?_)
      refine d0 5 (k := ?_)
      refine da0 6 (k := ?_)
      refine d0 7 (k := ?_)
      refine da0 8 (k := ?_)
      refine da0 9 (k := ?_)
      refine da0 10 (k := ?_)
      refine d0 11 (k := ?_)
      refine da0 12 (k := ?_)
      refine d0 13 (k := ?_)
      refine da0 14 (k := ?_)
      refine da0 15 (k := ?_)
      refine ds1 16 (hc := by (first | exact True.intro | (simp only [inI]; omega) | (simp [P.size, nt, wP, pn, all_int, allOne_p, goods_p, allOne, goods, good, G.one, P.one, P.cells] <;> first | omega | assumption | simp_all))) (k := ?_)
      refine da0 17 (k := ?_)
      refine da0 18 (k := ?_)
      refine ds1 19 (hc := by (first | exact True.intro | (simp only [inI]; omega) | (simp [P.size, nt, wP, pn, all_int, allOne_p, goods_p, allOne, goods, good, G.one, P.one, P.cells] <;> first | omega | assumption | simp_all))) (k := ?_)
      refine dz 20 [0, 0, 0, 4, 12, 28, 0, 124, 0, 256, 768, 1792, 0, 7936, 4093, 20477, 53245, 131071, 262143, 524287] (h := ?_)
      refine de 20 (h := ?_)
      refine cl [0, 6, 7, 8] (k := ?_)
      repeat refine gwp_seq ?_
      refine gwp_region ?_
      refine v1 (hc := by (first | exact True.intro | (simp only [inI]; omega) | (simp [P.size, nt, wP, pn, all_int, allOne_p, goods_p, allOne, goods, good, G.one, P.one, P.cells] <;> first | omega | assumption | simp_all))) (k := ?_)
      refine v0 (k := ?_)
      refine nil0 ?_
      refine lend [0, 6, 7, 8] (h := ?_) (hV := ?_) (n' := ns.length - (k + 1))
      · omega
      exact ⟨k + 1, putF e n, by omega, by rw [List.take_add_one, hx, List.foldl_append, ← he]; rfl, rfl, sgE rfl (by simp [putF, *])⟩
    · try simp only [decide_eq_true_eq, decide_eq_false_iff_not, Int.not_lt, Int.not_le, Bool.not_eq_eq_eq_not, Bool.not_true, Bool.not_false, Bool.and_eq_true, Bool.and_eq_false_iff, Bool.or_eq_true, Bool.or_eq_false_iff] at hb2
      repeat refine gwp_seq ?_
      refine gwp_skip ?_
      refine cl [0, 5, 6, 7, 8] (k := ?_)
      repeat refine gwp_seq ?_
      refine rd ?_
      refine da0 0 (k := ?_)
      refine da0 1 (k := ?_)
      refine da0 2 (k := ?_)
      refine da0 3 (k := ?_)
      refine da0 4 (k := ?_)
      refine d0 5 (k := ?_)
      refine da0 6 (k := ?_)
      refine d0 7 (k := ?_)
      refine da0 8 (k := ?_)
      refine da0 9 (k := ?_)
      refine da0 10 (k := ?_)
      refine d0 11 (k := ?_)
      refine da0 12 (k := ?_)
      refine d0 13 (k := ?_)
      refine da0 14 (k := ?_)
      refine da0 15 (k := ?_)
      refine ds1 16 (hc := by (first | exact True.intro | (simp only [inI]; omega) | (simp [P.size, nt, wP, pn, all_int, allOne_p, goods_p, allOne, goods, good, G.one, P.one, P.cells] <;> first | omega | assumption | simp_all))) (k := ?_)
      refine da0 17 (k := ?_)
      refine da0 18 (k := ?_)
      refine ds1 19 (hc := by (first | exact True.intro | (simp only [inI]; omega) | (simp [P.size, nt, wP, pn, all_int, allOne_p, goods_p, allOne, goods, good, G.one, P.one, P.cells] <;> first | omega | assumption | simp_all))) (k := ?_)
      refine dz 20 [0, 0, 0, 4, 12, 28, 0, 124, 0, 256, 768, 1792, 0, 7936, 4093, 20477, 53245, 131071, 262143, 524287] (h := ?_)
      refine de 20 (h := ?_)
      refine cl [0, 6, 7, 8] (k := ?_)
      repeat refine gwp_seq ?_
      refine gwp_region ?_
      refine v1 (hc := by (first | exact True.intro | (simp only [inI]; omega) | (simp [P.size, nt, wP, pn, all_int, allOne_p, goods_p, allOne, goods, good, G.one, P.one, P.cells] <;> first | omega | assumption | simp_all))) (k := ?_)
      refine v0 (k := ?_)
      refine nil0 ?_
      refine lend [0, 6, 7, 8] (h := ?_) (hV := ?_) (n' := ns.length - (k + 1))
      · omega
      exact ⟨k + 1, putF e n, by omega, by rw [List.take_add_one, hx, List.foldl_append, ← he]; rfl, rfl, sgE rfl (by simp [putF, *])⟩
  · try simp only [decide_eq_true_eq, decide_eq_false_iff_not, Int.not_lt, Int.not_le, Bool.not_eq_eq_eq_not, Bool.not_true, Bool.not_false, Bool.and_eq_true, Bool.and_eq_false_iff, Bool.or_eq_true, Bool.or_eq_false_iff] at hb1
    repeat refine gwp_seq ?_
    refine gwp_exit ?_
    repeat (first | refine gthen_exit ?_ | refine gnoGoto_exit ?_ | refine gblock_here ?_ | refine gblock_out rfl ?_)
    try refine gnoGoto_normal ?_
    refine fin_normal ?_
    have hke : k = ns.length := by omega
    subst hke
    rw [List.take_length] at he
    subst he
    refine fh0 [0] (hR := ?_)
    rfl
theorem ent55 : Enters Try.prog 55 := Enters.mk Try.func55 (by kernel_rfl) rfl
theorem s_clone (l : List Int) (hl : l.length ≤ 1048576) : PSpec Try.prog 55 [.list (l.map (.int .i64))] (.ok (.list (l.map (.int .i64)))) := by
  refine pspec_of Try.func55 (rfl : Try.f55.body = some _) rfl ?_
  intro E A C hN hL
  replace hN : C.N = 8 := hN
  simp only [Gh.num, List.map_cons, List.map_nil, Nat.reduceAdd]
  repeat refine gwp_seq ?_
  refine gwp_region ?_
  refine v0 (k := ?_)
  refine nil0 ?_
  refine cl [0] (k := ?_)
  repeat refine gwp_seq ?_
  refine gwp_region ?_
  refine v0 (k := ?_)
  refine nq0 (k := fun bq hq => ?_)
  refine nil0 ?_
  repeat refine gwp_seq ?_
  refine cB (k1 := fun hb1 => ?_) (k0 := fun hb1 => ?_)
  · try simp only [decide_eq_true_eq, decide_eq_false_iff_not, Int.not_lt, Int.not_le, Bool.not_eq_eq_eq_not, Bool.not_true, Bool.not_false, Bool.and_eq_true, Bool.and_eq_false_iff, Bool.or_eq_true, Bool.or_eq_false_iff] at hb1
    repeat refine gwp_seq ?_
    refine gwp_region ?_
    refine v0 (k := ?_)
    refine nil0 ?_
    repeat refine gwp_seq ?_
    refine gwp_ret ?_
    repeat (first | refine gthen_ret ?_ | refine gblock_ret ?_ | refine gnoGoto_ret ?_)
    refine fin_ret ?_
    refine fp (hR := ?_)
    first
    | rfl
    | (rw [hq hb1]; rfl)
  · try simp only [decide_eq_true_eq, decide_eq_false_iff_not, Int.not_lt, Int.not_le, Bool.not_eq_eq_eq_not, Bool.not_true, Bool.not_false, Bool.and_eq_true, Bool.and_eq_false_iff, Bool.or_eq_true, Bool.or_eq_false_iff] at hb1
    repeat refine gwp_seq ?_
    refine gwp_skip ?_
    refine cl [0] (k := ?_)
    repeat refine gwp_seq ?_
    refine gwp_region ?_
    refine n1 150 false (hc := by (first | exact True.intro | (simp only [inI]; omega) | (simp [P.size, nt, wP, pn, all_int, allOne_p, goods_p, allOne, goods, good, G.one, P.one, P.cells] <;> first | omega | assumption | simp_all))) (k := ?_)
    refine v0 (k := ?_)
    refine n1 170 false (hc := by (first | exact True.intro | (simp only [inI]; omega) | (simp [P.size, nt, wP, pn, all_int, allOne_p, goods_p, allOne, goods, good, G.one, P.one, P.cells] <;> first | omega | assumption | simp_all))) (k := ?_)
    refine v0 (k := ?_)
    refine nil0 ?_
    repeat refine gwp_seq ?_
    refine gwp_ret ?_
    repeat (first | refine gthen_ret ?_ | refine gblock_ret ?_ | refine gnoGoto_ret ?_)
    refine fin_ret ?_
    refine fp (hR := ?_)
    first
    | rfl
    | (rw [hq hb1]; rfl)
def spanE (s : Sh) (ws : List (List Int)) : Int × Int × Bool := (ws.map fun w => (cntP w s.sizes.length : Int)).foldl putF (0, 0, false)
theorem spanE_succ {s : Sh} {ws : List (List Int)} {z : Nat} {w : List Int} (h : ws[z]? = some w) : spanE s (ws.take (z + 1)) = putF (spanE s (ws.take z)) (cntP w s.sizes.length : Int) := by
  simp only [spanE, List.take_add_one, h, List.map_append, List.foldl_append]; rfl
theorem ent20 : Enters Try.prog 20 := Enters.mk Try.func20 (by kernel_rfl) rfl
theorem p_plates_t {E : Env Try.prog} {A : E.α} (s : Sh) (hv : s.valid = true) (hcb : canB s (onN s) (everyN s) = true) : Gh.Spec E 20 [.p (.agg [.int .i64 s.num, .list (s.sizes.map (.int .i64)), .int .i64 s.lo, .int .i64 s.hi, .list (s.notes.map pn)])] (mkHp []) A (fun y => y = .ok (.p (.tuple [.agg [.int .i64 (spanE s ((onN s).filter (rightW s (everyN s)))).1, .int .i64 (spanE s ((onN s).filter (rightW s (everyN s)))).2.1], .int .i64 0])) (mkHp []) A) := by
  refine specD_of Try.func20 (rfl : Try.f20.body = some _) (Nat.le_of_ble_eq_true rfl) (fun id h => ?_) (fun j id h => ?_) ?_
  · exact wf1x h
  · exact wf2x h
  intro C hN hL
  replace hN : C.N = 29 := hN
  simp only [Gh.num, List.map_cons, List.map_nil, Nat.reduceAdd]
  have hn := valid_num hv
  have hm := onN_many s (by omega)
  have hev := everyN_lt (s := s) (by omega)
  have hwP : ∀ w : List Int, wP w = P.agg (w.map (P.int .i64)) := fun _ => rfl
  repeat refine gwp_seq ?_
  refine gwp_region ?_
  refine n1 110 false (hc := by (first | exact True.intro | (simp only [inI]; omega) | (simp [P.size, nt, wP, pn, all_int, allOne_p, goods_p, allOne, goods, good, G.one, P.one, P.cells] <;> first | omega | assumption | simp_all))) (k := ?_)
  refine n1 120 false (hc := by (first | exact True.intro | (simp only [inI]; omega) | (simp [P.size, nt, wP, pn, all_int, allOne_p, goods_p, allOne, goods, good, G.one, P.one, P.cells] <;> first | omega | assumption | simp_all))) (k := ?_)
  refine n1 130 false (hc := by (first | exact True.intro | (simp only [inI]; omega) | (simp [P.size, nt, wP, pn, all_int, allOne_p, goods_p, allOne, goods, good, G.one, P.one, P.cells] <;> first | omega | assumption | simp_all))) (k := ?_)
  refine nil0 ?_
  refine cl [1, 2, 3] (k := ?_)
  repeat refine gwp_seq ?_
  refine gwp_region ?_
  refine df0 (k := ?_)
  refine nil0 ?_
  refine cl [1, 2, 3] (k := ?_)
  repeat refine gwp_seq ?_
  refine gwp_region ?_
  refine v0 (k := ?_)
  refine oc0 [(640, 5000)] [] [1] none (spec := s_open_t s hv) (hent := ent43) (k := ?_)
  refine oc0 [(0, 5000)] [] [0] none (spec := must0_t s hv hcb) (hent := ent46) (k := ?_)
  refine n1 140 false (hc := by (first | exact True.intro | (simp only [inI]; omega) | (simp [P.size, nt, wP, pn, all_int, allOne_p, goods_p, allOne, goods, good, G.one, P.one, P.cells] <;> first | omega | assumption | simp_all))) (k := ?_)
  refine s1 (hc := by (first | exact True.intro | (simp only [inI]; omega) | (simp [P.size, nt, wP, pn, all_int, allOne_p, goods_p, allOne, goods, good, G.one, P.one, P.cells] <;> first | omega | assumption | simp_all))) (k := ?_)
  refine nil0 ?_
  refine cl [2, 3, 4] (k := ?_)
  repeat refine gwp_seq ?_
  refine gwp_region ?_
  refine n1 150 false (hc := by (first | exact True.intro | (simp only [inI]; omega) | (simp [P.size, nt, wP, pn, all_int, allOne_p, goods_p, allOne, goods, good, G.one, P.one, P.cells] <;> first | omega | assumption | simp_all))) (k := ?_)
  refine nil0 ?_
  refine cl [2, 3, 4, 5] (k := ?_)
  repeat refine gwp_seq ?_
  refine rd ?_
  refine d0 0 (k := ?_)
  refine d0 1 (k := ?_)
  refine doc0 2 [] [] [9] none (spec := s_everyN s (by omega)) (hent := ent50) (k := ?_)
  refine doc0 3 [] [] [10, 0] none (spec := s_right s (everyN s) (onN s)) (hent := ent49) (k := ?_)
  refine dz 4 [0, 0, 2, 7] (h := ?_)
  refine de 4 (h := ?_)
  refine cl [2, 3, 4, 5, 13] (k := ?_)
  repeat refine gwp_seq ?_
  refine gwp_block ?_
  repeat refine gwp_seq ?_
  refine rf 10000 99001 [14] (fun k (z : Nat) A1 => z = k ∧ A1 = A) (fun z => [(120, .cells [.p (.int .i64 0), .p (.int .i64 0)] 0), (130, .cells [.p (.int .i64 0)] 0), (140, .cells [.ptr [.p (.int .i64 s.num), .p (.list (s.sizes.map (.int .i64))), .p (.int .i64 s.lo), .p (.int .i64 s.hi), .p (.list (s.notes.map pn)), .p (.list (s.notes.map nt)), .p (.list ((onN s).map wP)), .map 5000]] 0), (150, .cells [.p (.int .i64 (spanE s (((onN s).filter (rightW s (everyN s))).take z)).1), .p (.int .i64 (spanE s (((onN s).filter (rightW s (everyN s))).take z)).2.1), .p (.bool (spanE s (((onN s).filter (rightW s (everyN s))).take z)).2.2)] 0), (5000, .map (mE (canE s (onN s) [] (everyN s))))]) (fun _ _ _ => False) (fun _ _ => []) [] [.k, .k] (it := it_right s (everyN s) (onN s) (by omega) (by omega) (by omega) (onN_len8 s) (nv_of hv)) (hent := ent70) (xs := ((onN s).filter (rightW s (everyN s))).map fun w => [wP w]) (hlen := fun x hx => by obtain ⟨w, _, rfl⟩ := List.mem_map.1 hx; rfl) (h0 := ?_) (round := fun k z A1 x hI hx lp bs C1 hN1 hL1 => ?_) (hK := fun e z A1 hK => ?_) (hI := fun z A1 hI => ?_)
  · exact ⟨0, ⟨rfl, rfl⟩, rfl⟩
  · obtain ⟨rfl, rfl⟩ := hI
    rw [List.getElem?_map] at hx
    obtain ⟨w, hw, rfl⟩ := Option.map_eq_some_iff.1 hx
    have hw8 := onN_len8 s w (List.mem_filter.1 (List.mem_of_getElem? hw)).1
    replace hN1 : C1.N = 29 := hN1.trans hN
    refine (?_ : gwp C1 (some lp) _ _ (sg ((14, .p (wP w)) :: _) [(120, .cells [.p (.int .i64 0), .p (.int .i64 0)] 0), (130, .cells [.p (.int .i64 0)] 0), (140, .cells [.ptr [.p (.int .i64 s.num), .p (.list (s.sizes.map (.int .i64))), .p (.int .i64 s.lo), .p (.int .i64 s.hi), .p (.list (s.notes.map pn)), .p (.list (s.notes.map nt)), .p (.list ((onN s).map wP)), .map 5000]] 0), (150, .cells [.p (.int .i64 (spanE s (((onN s).filter (rightW s (everyN s))).take z)).1), .p (.int .i64 (spanE s (((onN s).filter (rightW s (everyN s))).take z)).2.1), .p (.bool (spanE s (((onN s).filter (rightW s (everyN s))).take z)).2.2)] 0), (5000, .map (mE (canE s (onN s) [] (everyN s))))] A1 []))
    repeat refine gwp_seq ?_
    refine gwp_region ?_
    refine n1 10160 false (hc := by (first | exact True.intro | (simp only [inI]; omega) | (simp [P.size, nt, wP, pn, all_int, allOne_p, goods_p, allOne, goods, good, G.one, P.one, P.cells] <;> first | omega | assumption | simp_all))) (k := ?_)
    refine s1 (hc := by (first | exact True.intro | (simp only [inI]; omega) | (simp [P.size, nt, wP, pn, all_int, allOne_p, goods_p, allOne, goods, good, G.one, P.one, P.cells] <;> first | omega | assumption | simp_all))) (k := ?_)
    refine nil0 ?_
    refine ⟨rfl, fun bs2 C2 hN2 hL2 hr2 => ?_⟩
    replace hN2 : C2.N = 29 := hN2.trans hN
    refine (?_ : gwp C2 (some lp) _ _ (sg _ _ _ []))
    repeat refine gwp_seq ?_
    refine gwp_block ?_
    repeat refine gwp_seq ?_
    refine rd ?_
    refine d0 0 (k := ?_)
    refine d0 1 (k := ?_)
    refine d0 2 (k := ?_)
    refine d0 3 (k := ?_)
    refine d0 4 (k := ?_)
    refine d0 5 (k := ?_)
    refine dpc0 6 (spec := s_platesN s hv w hw8) (hent := ent57) (k := ?_)
    refine dn1 7 10320 false (hc := by (first | exact True.intro | (simp only [inI]; omega) | (simp [P.size, nt, wP, pn, all_int, allOne_p, goods_p, allOne, goods, good, G.one, P.one, P.cells] <;> first | omega | assumption | simp_all))) (k := ?_)
    refine doc0 8 [(0, 150)] [10320] [0, 1] none (spec := s_put [(cntP w s.sizes.length : Int)] (spanE s (((onN s).filter (rightW s (everyN s))).take z)) (by simp)) (hent := ent56) (k := ?_)
    refine dz 9 [0, 0, 2, 6, 14, 30, 63, 127, 255] (h := ?_)
    refine de 9 (h := ?_)
    refine ⟨_, z + 1, lc [120, 130, 140, 150, 5000], ?_, rfl, rfl⟩
    rw [spanE_succ hw]
    rfl
  · exact hK.elim
  · obtain ⟨hz, rfl⟩ := hI
    rw [List.length_map] at hz
    subst hz
    rw [List.take_length]
    refine cl [2, 3, 5] (k := ?_)
    repeat refine gwp_seq ?_
    refine gwp_region ?_
    refine v0 (k := ?_)
    refine v0 (k := ?_)
    refine v0 (k := ?_)
    refine v0 (k := ?_)
    refine v0 (k := ?_)
    refine s1 (hc := by (first | exact True.intro | (simp only [inI]; omega) | (simp [P.size, nt, wP, pn, all_int, allOne_p, goods_p, allOne, goods, good, G.one, P.one, P.cells] <;> first | omega | assumption | simp_all))) (k := ?_)
    refine s1 (hc := by (first | exact True.intro | (simp only [inI]; omega) | (simp [P.size, nt, wP, pn, all_int, allOne_p, goods_p, allOne, goods, good, G.one, P.one, P.cells] <;> first | omega | assumption | simp_all))) (k := ?_)
    refine nil0 ?_
    repeat refine gwp_seq ?_
    refine gwp_ret ?_
    repeat (first | refine gthen_ret ?_ | refine gblock_ret ?_ | refine gnoGoto_ret ?_)
    refine finD_ret ?_
    refine om (h := ?_)
    refine ocall [130] [(0, 130)] (spec := d_none 0) (hent := ent42) (h := ?_)
    refine out_nil ?_
    refine fp2 (hR := ?_)
    rfl
theorem p_plates_c {E : Env Try.prog} {A : E.α} (s : Sh) (hv : s.valid = true) (hcb : canB s (onN s) (everyN s) = false)  : Gh.Spec E 20 [.p (.agg [.int .i64 s.num, .list (s.sizes.map (.int .i64)), .int .i64 s.lo, .int .i64 s.hi, .list (s.notes.map pn)])] (mkHp []) A (fun y => y = .ok (.p (.tuple [.agg [.int .i64 0, .int .i64 0], .int .i64 10])) (mkHp []) A) := by
  refine specD_of Try.func20 (rfl : Try.f20.body = some _) (Nat.le_of_ble_eq_true rfl) (fun id h => ?_) (fun j id h => ?_) ?_
  · exact wf1x h
  · exact wf2x h
  intro C hN hL
  replace hN : C.N = 29 := hN
  simp only [Gh.num, List.map_cons, List.map_nil, Nat.reduceAdd]
  have hn := valid_num hv
  have hm := onN_many s (by omega)
  have hev := everyN_lt (s := s) (by omega)
  repeat refine gwp_seq ?_
  refine gwp_region ?_
  refine n1 110 false (hc := by (first | exact True.intro | (simp only [inI]; omega) | (simp [P.size, nt, wP, pn, all_int, allOne_p, goods_p, allOne, goods, good, G.one, P.one, P.cells] <;> first | omega | assumption | simp_all))) (k := ?_)
  refine n1 120 false (hc := by (first | exact True.intro | (simp only [inI]; omega) | (simp [P.size, nt, wP, pn, all_int, allOne_p, goods_p, allOne, goods, good, G.one, P.one, P.cells] <;> first | omega | assumption | simp_all))) (k := ?_)
  refine n1 130 false (hc := by (first | exact True.intro | (simp only [inI]; omega) | (simp [P.size, nt, wP, pn, all_int, allOne_p, goods_p, allOne, goods, good, G.one, P.one, P.cells] <;> first | omega | assumption | simp_all))) (k := ?_)
  refine nil0 ?_
  refine cl [1, 2, 3] (k := ?_)
  repeat refine gwp_seq ?_
  refine gwp_region ?_
  refine df0 (k := ?_)
  refine nil0 ?_
  refine cl [1, 2, 3] (k := ?_)
  repeat refine gwp_seq ?_
  refine gwp_region ?_
  refine v0 (k := ?_)
  refine oc0 [(640, 5000)] [] [1] none (spec := s_open_t s hv) (hent := ent43) (k := ?_)
  refine op0 [(0, 5000)] [] [0] none (spec := must0_f s hv hcb) (hent := ent46) (k := ?_)
  repeat (first | refine gthen_panic ?_ | refine gblock_panic ?_)
  refine finD_panic ?_
  refine ocall [130] [(0, 130)] (spec := d_some 0 10) (hent := ent42) (h := ?_)
  refine out_nil ?_
  refine fp2 (hR := ?_)
  rfl
theorem p_plates_f {E : Env Try.prog} {A : E.α} (s : Sh) (h1 : s.sizes.length ≤ 1048576) (h2 : s.notes.length ≤ 1048576) (hv : s.valid = false)  : Gh.Spec E 20 [.p (.agg [.int .i64 s.num, .list (s.sizes.map (.int .i64)), .int .i64 s.lo, .int .i64 s.hi, .list (s.notes.map pn)])] (mkHp []) A (fun y => y = .ok (.p (.tuple [.agg [.int .i64 0, .int .i64 0], .int .i64 1])) (mkHp []) A) := by
  refine specD_of Try.func20 (rfl : Try.f20.body = some _) (Nat.le_of_ble_eq_true rfl) (fun id h => ?_) (fun j id h => ?_) ?_
  · exact wf1x h
  · exact wf2x h
  intro C hN hL
  replace hN : C.N = 29 := hN
  simp only [Gh.num, List.map_cons, List.map_nil, Nat.reduceAdd]
  repeat refine gwp_seq ?_
  refine gwp_region ?_
  refine n1 110 false (hc := by (first | exact True.intro | (simp only [inI]; omega) | (simp [P.size, nt, wP, pn, all_int, allOne_p, goods_p, allOne, goods, good, G.one, P.one, P.cells] <;> first | omega | assumption | simp_all))) (k := ?_)
  refine n1 120 false (hc := by (first | exact True.intro | (simp only [inI]; omega) | (simp [P.size, nt, wP, pn, all_int, allOne_p, goods_p, allOne, goods, good, G.one, P.one, P.cells] <;> first | omega | assumption | simp_all))) (k := ?_)
  refine n1 130 false (hc := by (first | exact True.intro | (simp only [inI]; omega) | (simp [P.size, nt, wP, pn, all_int, allOne_p, goods_p, allOne, goods, good, G.one, P.one, P.cells] <;> first | omega | assumption | simp_all))) (k := ?_)
  refine nil0 ?_
  refine cl [1, 2, 3] (k := ?_)
  repeat refine gwp_seq ?_
  refine gwp_region ?_
  refine df0 (k := ?_)
  refine nil0 ?_
  refine cl [1, 2, 3] (k := ?_)
  repeat refine gwp_seq ?_
  refine gwp_region ?_
  refine v0 (k := ?_)
  refine op0 [] [] [1] none (spec := s_open_f s h1 h2 hv) (hent := ent43) (k := ?_)
  repeat (first | refine gthen_panic ?_ | refine gblock_panic ?_)
  refine finD_panic ?_
  refine ocall [130] [(0, 130)] (spec := d_some 0 1) (hent := ent42) (h := ?_)
  refine out_nil ?_
  refine fp2 (hR := ?_)
  rfl
theorem ent18 : Enters Try.prog 18 := Enters.mk Try.func18 (by kernel_rfl) rfl
theorem p_first_t {E : Env Try.prog} {A : E.α} (s : Sh) (hv : s.valid = true) (hcb : canB s (onN s) (everyN s) = true) (w0 : List Int) (hw0 : ((onN s).filter (rightW s (everyN s)))[0]? = some w0) : Gh.Spec E 18 [.p (.agg [.int .i64 s.num, .list (s.sizes.map (.int .i64)), .int .i64 s.lo, .int .i64 s.hi, .list (s.notes.map pn)])] (mkHp []) A (fun y => y = .ok (.p (.tuple [.list ((w0.take s.num.toNat).map (.int .i64)), .int .i64 0])) (mkHp []) A) := by
  refine specD_of Try.func18 (rfl : Try.f18.body = some _) (Nat.le_of_ble_eq_true rfl) (fun id h => ?_) (fun j id h => ?_) ?_
  · exact wf1x h
  · exact wf2x h
  intro C hN hL
  replace hN : C.N = 21 := hN
  simp only [Gh.num, List.map_cons, List.map_nil, Nat.reduceAdd]
  have hn := valid_num hv
  have hm := onN_many s (by omega)
  have hev := everyN_lt (s := s) (by omega)
  have hwP : ∀ w : List Int, wP w = P.agg (w.map (P.int .i64)) := fun _ => rfl
  repeat refine gwp_seq ?_
  refine gwp_region ?_
  refine n1 110 false (hc := by (first | exact True.intro | (simp only [inI]; omega) | (simp [P.size, nt, wP, pn, all_int, allOne_p, goods_p, allOne, goods, good, G.one, P.one, P.cells] <;> first | omega | assumption | simp_all))) (k := ?_)
  refine n1 120 false (hc := by (first | exact True.intro | (simp only [inI]; omega) | (simp [P.size, nt, wP, pn, all_int, allOne_p, goods_p, allOne, goods, good, G.one, P.one, P.cells] <;> first | omega | assumption | simp_all))) (k := ?_)
  refine n1 130 false (hc := by (first | exact True.intro | (simp only [inI]; omega) | (simp [P.size, nt, wP, pn, all_int, allOne_p, goods_p, allOne, goods, good, G.one, P.one, P.cells] <;> first | omega | assumption | simp_all))) (k := ?_)
  refine nil0 ?_
  refine cl [1, 2, 3] (k := ?_)
  repeat refine gwp_seq ?_
  refine gwp_region ?_
  refine df0 (k := ?_)
  refine nil0 ?_
  refine cl [1, 2, 3] (k := ?_)
  repeat refine gwp_seq ?_
  refine gwp_region ?_
  refine v0 (k := ?_)
  refine oc0 [(640, 5000)] [] [1] none (spec := s_open_t s hv) (hent := ent43) (k := ?_)
  refine oc0 [(0, 5000)] [] [0] none (spec := must0_t s hv hcb) (hent := ent46) (k := ?_)
  refine n1 140 false (hc := by (first | exact True.intro | (simp only [inI]; omega) | (simp [P.size, nt, wP, pn, all_int, allOne_p, goods_p, allOne, goods, good, G.one, P.one, P.cells] <;> first | omega | assumption | simp_all))) (k := ?_)
  refine s1 (hc := by (first | exact True.intro | (simp only [inI]; omega) | (simp [P.size, nt, wP, pn, all_int, allOne_p, goods_p, allOne, goods, good, G.one, P.one, P.cells] <;> first | omega | assumption | simp_all))) (k := ?_)
  refine nil0 ?_
  refine cl [2, 3, 4] (k := ?_)
  repeat refine gwp_seq ?_
  refine rd ?_
  refine d0 0 (k := ?_)
  refine d0 1 (k := ?_)
  refine doc0 2 [] [] [9] none (spec := s_everyN s (by omega)) (hent := ent50) (k := ?_)
  refine doc0 3 [] [] [10, 0] none (spec := s_right s (everyN s) (onN s)) (hent := ent49) (k := ?_)
  refine dz 4 [0, 0, 2, 7] (h := ?_)
  refine de 4 (h := ?_)
  refine cl [2, 3, 4, 12] (k := ?_)
  repeat refine gwp_seq ?_
  refine gwp_block ?_
  repeat refine gwp_seq ?_
  refine rf 10000 99001 [13] (fun k (_ : List Int) A1 => k = 0 ∧ A1 = A) (fun _ => [(120, .cells [.nils] 0), (130, .cells [.p (.int .i64 0)] 0), (140, .cells [.ptr [.p (.int .i64 s.num), .p (.list (s.sizes.map (.int .i64))), .p (.int .i64 s.lo), .p (.int .i64 s.hi), .p (.list (s.notes.map pn)), .p (.list (s.notes.map nt)), .p (.list ((onN s).map wP)), .map 5000]] 0), (5000, .map (mE (canE s (onN s) [] (everyN s))))]) (fun e z A1 => e = .ret ∧ ((onN s).filter (rightW s (everyN s)))[0]? = some z ∧ A1 = A) (fun _ z => [(120, .cells [.p (.list ((z.take s.num.toNat).map (.int .i64)))] 0), (130, .cells [.p (.int .i64 0)] 0), (140, .cells [.ptr [.p (.int .i64 s.num), .p (.list (s.sizes.map (.int .i64))), .p (.int .i64 s.lo), .p (.int .i64 s.hi), .p (.list (s.notes.map pn)), .p (.list (s.notes.map nt)), .p (.list ((onN s).map wP)), .map 5000]] 0), (5000, .map (mE (canE s (onN s) [] (everyN s))))]) [] [.k, .k] (it := it_right s (everyN s) (onN s) (by omega) (by omega) (by omega) (onN_len8 s) (nv_of hv)) (hent := ent70) (xs := ((onN s).filter (rightW s (everyN s))).map fun w => [wP w]) (hlen := fun x hx => by obtain ⟨w, _, rfl⟩ := List.mem_map.1 hx; rfl) (h0 := ?_) (round := fun k z A1 x hI hx lp bs C1 hN1 hL1 => ?_) (hK := fun e z A1 hK => ?_) (hI := fun z A1 hI => ?_)
  · exact ⟨[], ⟨rfl, rfl⟩, rfl⟩
  · obtain ⟨rfl, rfl⟩ := hI
    rw [List.getElem?_map] at hx
    obtain ⟨w, hw, rfl⟩ := Option.map_eq_some_iff.1 hx
    have hw8 := onN_len8 s w (List.mem_filter.1 (List.mem_of_getElem? hw)).1
    replace hN1 : C1.N = 21 := hN1.trans hN
    refine (?_ : gwp C1 (some lp) _ _ (sg ((13, .p (wP w)) :: _) [(120, .cells [.nils] 0), (130, .cells [.p (.int .i64 0)] 0), (140, .cells [.ptr [.p (.int .i64 s.num), .p (.list (s.sizes.map (.int .i64))), .p (.int .i64 s.lo), .p (.int .i64 s.hi), .p (.list (s.notes.map pn)), .p (.list (s.notes.map nt)), .p (.list ((onN s).map wP)), .map 5000]] 0), (5000, .map (mE (canE s (onN s) [] (everyN s))))] A1 []))
    repeat refine gwp_seq ?_
    refine gwp_region ?_
    refine n1 10150 false (hc := by (first | exact True.intro | (simp only [inI]; omega) | (simp [P.size, nt, wP, pn, all_int, allOne_p, goods_p, allOne, goods, good, G.one, P.one, P.cells] <;> first | omega | assumption | simp_all))) (k := ?_)
    refine s1 (hc := by (first | exact True.intro | (simp only [inI]; omega) | (simp [P.size, nt, wP, pn, all_int, allOne_p, goods_p, allOne, goods, good, G.one, P.one, P.cells] <;> first | omega | assumption | simp_all))) (k := ?_)
    refine nil0 ?_
    refine ⟨rfl, fun bs2 C2 hN2 hL2 hr2 => ?_⟩
    replace hN2 : C2.N = 21 := hN2.trans hN
    refine (?_ : gwp C2 (some lp) _ _ (sg _ _ _ []))
    repeat refine gwp_seq ?_
    refine gwp_block ?_
    repeat refine gwp_seq ?_
    refine gwp_region ?_
    refine v0 (k := ?_)
    refine v0 (k := ?_)
    refine v0 (k := ?_)
    refine v0 (k := ?_)
    refine v0 (k := ?_)
    refine v1 (hc := by (first | exact True.intro | (simp only [inI]; omega) | (simp [P.size, nt, wP, pn, all_int, allOne_p, goods_p, allOne, goods, good, G.one, P.one, P.cells] <;> first | omega | assumption | simp_all))) (k := ?_)
    refine ofk 10150 8 (hn2 := by simp [hw8]) (h1 := by rw [← List.map_take, allOne_p, ← List.map_take]; exact all_int _) (k := ?_)
    refine ofs 19 ((w.take s.num.toNat).map (.int .i64)) (h1 := by omega) (hps := by simp [List.map_take]) (h2 := by simp; omega) (h3 := fun p hp => by obtain ⟨x, _, rfl⟩ := List.mem_map.1 hp; rfl) (k := ?_)
    refine pc0 (spec := s_clone (w.take s.num.toNat) (by simp; omega)) (hent := ent55) (k := ?_)
    refine s1 (hc := by (first | exact True.intro | (simp only [inI]; omega) | (simp [P.size, nt, wP, pn, all_int, allOne_p, goods_p, allOne, goods, good, G.one, P.one, P.cells] <;> first | omega | assumption | simp_all))) (k := ?_)
    refine s1 (hc := by (first | exact True.intro | (simp only [inI]; omega) | (simp [P.size, nt, wP, pn, all_int, allOne_p, goods_p, allOne, goods, good, G.one, P.one, P.cells] <;> first | omega | assumption | simp_all))) (k := ?_)
    refine nil0 ?_
    repeat refine gwp_seq ?_
    refine gwp_ret ?_
    repeat (first | refine gthen_ret ?_ | refine gblock_ret ?_ | refine gnoGoto_ret ?_)
    refine ⟨_, w, lc [120, 130, 140, 5000], rfl, rfl, hw, rfl⟩
  · obtain ⟨rfl, hz, rfl⟩ := hK
    repeat (first | refine gthen_ret ?_ | refine gblock_ret ?_ | refine gnoGoto_ret ?_)
    refine finD_ret ?_
    refine om (h := ?_)
    refine ocall [130] [(0, 130)] (spec := d_none 0) (hent := ent42) (h := ?_)
    refine out_nil ?_
    refine fp2 (hR := ?_)
    rw [hz] at hw0
    cases hw0
    rfl
  · obtain ⟨hk0, rfl⟩ := hI
    have hcf : canB s (onN s) (everyN s) = false := canB_none (by rw [List.length_map] at hk0; exact hk0)
    rw [hcb] at hcf
    cases hcf
theorem p_first_c {E : Env Try.prog} {A : E.α} (s : Sh) (hv : s.valid = true) (hcb : canB s (onN s) (everyN s) = false)  : Gh.Spec E 18 [.p (.agg [.int .i64 s.num, .list (s.sizes.map (.int .i64)), .int .i64 s.lo, .int .i64 s.hi, .list (s.notes.map pn)])] (mkHp []) A (fun y => y = .ok (.p (.tuple [.list [], .int .i64 10])) (mkHp []) A) := by
  refine specD_of Try.func18 (rfl : Try.f18.body = some _) (Nat.le_of_ble_eq_true rfl) (fun id h => ?_) (fun j id h => ?_) ?_
  · exact wf1x h
  · exact wf2x h
  intro C hN hL
  replace hN : C.N = 21 := hN
  simp only [Gh.num, List.map_cons, List.map_nil, Nat.reduceAdd]
  have hn := valid_num hv
  have hm := onN_many s (by omega)
  have hev := everyN_lt (s := s) (by omega)
  repeat refine gwp_seq ?_
  refine gwp_region ?_
  refine n1 110 false (hc := by (first | exact True.intro | (simp only [inI]; omega) | (simp [P.size, nt, wP, pn, all_int, allOne_p, goods_p, allOne, goods, good, G.one, P.one, P.cells] <;> first | omega | assumption | simp_all))) (k := ?_)
  refine n1 120 false (hc := by (first | exact True.intro | (simp only [inI]; omega) | (simp [P.size, nt, wP, pn, all_int, allOne_p, goods_p, allOne, goods, good, G.one, P.one, P.cells] <;> first | omega | assumption | simp_all))) (k := ?_)
  refine n1 130 false (hc := by (first | exact True.intro | (simp only [inI]; omega) | (simp [P.size, nt, wP, pn, all_int, allOne_p, goods_p, allOne, goods, good, G.one, P.one, P.cells] <;> first | omega | assumption | simp_all))) (k := ?_)
  refine nil0 ?_
  refine cl [1, 2, 3] (k := ?_)
  repeat refine gwp_seq ?_
  refine gwp_region ?_
  refine df0 (k := ?_)
  refine nil0 ?_
  refine cl [1, 2, 3] (k := ?_)
  repeat refine gwp_seq ?_
  refine gwp_region ?_
  refine v0 (k := ?_)
  refine oc0 [(640, 5000)] [] [1] none (spec := s_open_t s hv) (hent := ent43) (k := ?_)
  refine op0 [(0, 5000)] [] [0] none (spec := must0_f s hv hcb) (hent := ent46) (k := ?_)
  repeat (first | refine gthen_panic ?_ | refine gblock_panic ?_)
  refine finD_panic ?_
  refine ocall [130] [(0, 130)] (spec := d_some 0 10) (hent := ent42) (h := ?_)
  refine out_nil ?_
  refine fp2 (hR := ?_)
  rfl
theorem p_first_f {E : Env Try.prog} {A : E.α} (s : Sh) (h1 : s.sizes.length ≤ 1048576) (h2 : s.notes.length ≤ 1048576) (hv : s.valid = false)  : Gh.Spec E 18 [.p (.agg [.int .i64 s.num, .list (s.sizes.map (.int .i64)), .int .i64 s.lo, .int .i64 s.hi, .list (s.notes.map pn)])] (mkHp []) A (fun y => y = .ok (.p (.tuple [.list [], .int .i64 1])) (mkHp []) A) := by
  refine specD_of Try.func18 (rfl : Try.f18.body = some _) (Nat.le_of_ble_eq_true rfl) (fun id h => ?_) (fun j id h => ?_) ?_
  · exact wf1x h
  · exact wf2x h
  intro C hN hL
  replace hN : C.N = 21 := hN
  simp only [Gh.num, List.map_cons, List.map_nil, Nat.reduceAdd]
  repeat refine gwp_seq ?_
  refine gwp_region ?_
  refine n1 110 false (hc := by (first | exact True.intro | (simp only [inI]; omega) | (simp [P.size, nt, wP, pn, all_int, allOne_p, goods_p, allOne, goods, good, G.one, P.one, P.cells] <;> first | omega | assumption | simp_all))) (k := ?_)
  refine n1 120 false (hc := by (first | exact True.intro | (simp only [inI]; omega) | (simp [P.size, nt, wP, pn, all_int, allOne_p, goods_p, allOne, goods, good, G.one, P.one, P.cells] <;> first | omega | assumption | simp_all))) (k := ?_)
  refine n1 130 false (hc := by (first | exact True.intro | (simp only [inI]; omega) | (simp [P.size, nt, wP, pn, all_int, allOne_p, goods_p, allOne, goods, good, G.one, P.one, P.cells] <;> first | omega | assumption | simp_all))) (k := ?_)
  refine nil0 ?_
  refine cl [1, 2, 3] (k := ?_)
  repeat refine gwp_seq ?_
  refine gwp_region ?_
  refine df0 (k := ?_)
  refine nil0 ?_
  refine cl [1, 2, 3] (k := ?_)
  repeat refine gwp_seq ?_
  refine gwp_region ?_
  refine v0 (k := ?_)
  refine op0 [] [] [1] none (spec := s_open_f s h1 h2 hv) (hent := ent43) (k := ?_)
  repeat (first | refine gthen_panic ?_ | refine gblock_panic ?_)
  refine finD_panic ?_
  refine ocall [130] [(0, 130)] (spec := d_some 0 1) (hent := ent42) (h := ?_)
  refine out_nil ?_
  refine fp2 (hR := ?_)
  rfl
end Go.Proofs.Ytedihdnkalmoiaa

/- What the program says is what the document says. -/
namespace Go.Proofs.Ytedihdnkalmoiaa
open Go.Gh

theorem can_eq {s : Sh} (hv : s.valid = true) (set : Nat) : canB s (onN s) set = canR s set := by
  rw [canR, all_eq set hv, List.length_map, canB]
  cases h : (onN s).any (rightW s set) with
  | true =>
    obtain ⟨w, hw, hr⟩ := List.any_eq_true.1 h
    have : 0 < ((onN s).filter (rightW s set)).length := List.length_pos_of_mem (List.mem_filter.2 ⟨hw, hr⟩)
    symm
    simpa using this
  | false =>
    have : (onN s).filter (rightW s set) = [] := List.filter_eq_nil_iff.2 fun w hw hr => by
      have := List.any_eq_false.1 h w hw
      exact this hr
    rw [this]; rfl
theorem can_ne {s : Sh} (hv : s.valid = true) {set : Nat} (h : canB s (onN s) set = true) : allM s set ≠ [] := by
  rw [can_eq hv, canR] at h
  intro e
  rw [e] at h
  simp at h
theorem can_nil {s : Sh} (hv : s.valid = true) {set : Nat} (h : canB s (onN s) set = false) : allM s set = [] := by
  rw [can_eq hv, canR] at h
  have : ¬ 0 < ((allM s set).length : Int) := by simpa using h
  exact List.length_eq_zero_iff.1 (by omega)
theorem count_eq {s : Sh} (hv : s.valid = true) : (waysS s (everyN s)).length = (allM s (everyN s)).length := by
  rw [all_eq _ hv, List.length_map, waysS]
theorem eqAt_take {s : Sh} {a b : Int} {w : List Int} (ha : 0 ≤ a ∧ a < (s.sizes.length : Int)) (hb : 0 ≤ b ∧ b < (s.sizes.length : Int)) : eqAt a b (w.take s.sizes.length) = decide (w[a.toNat]? = w[b.toNat]?) := by
  rw [eqAt, List.getElem?_take_of_lt (by omega), List.getElem?_take_of_lt (by omega)]
theorem filter_len_all {α : Type} (p : α → Bool) (l : List α) : (l.filter p).length = l.length ↔ (l.any fun x => !p x) = false := by
  rw [List.length_filter_eq_length_iff, List.any_eq_false]
  simp
theorem filter_len_none {α : Type} (p : α → Bool) (l : List α) : (l.filter p).length = 0 ↔ (l.any p) = false := by
  rw [List.length_eq_zero_iff, List.filter_eq_nil_iff, List.any_eq_false]
theorem same_eq {s : Sh} (hv : s.valid = true) (hcb : canB s (onN s) (everyN s) = true) {a b : Int} (ha : 0 ≤ a ∧ a ≤ s.num - 1) (hb : 0 ≤ b ∧ b ≤ s.num - 1) :
    sameV (diff1 a b ((onN s).filter (rightW s (everyN s)))) (same1 a b ((onN s).filter (rightW s (everyN s)))) = sameR a b (allM s (everyN s)) := by
  have hn := valid_num hv
  have hne := can_ne hv hcb
  rw [all_eq _ hv] at hne ⊢
  generalize (onN s).filter (rightW s (everyN s)) = W at *
  have e1 : ((W.map (List.take s.sizes.length)).any fun x => !eqAt a b x) = diff1 a b W := by
    rw [List.any_map, diff1]
    refine congrArg (fun f => W.any f) (funext fun w => ?_)
    simp only [Function.comp, eqAt_take (s := s) (w := w) (a := a) (b := b) (by omega) (by omega)]
  have e2 : ((W.map (List.take s.sizes.length)).any (eqAt a b)) = same1 a b W := by
    rw [List.any_map, same1]
    refine congrArg (fun f => W.any f) (funext fun w => ?_)
    simp only [Function.comp, eqAt_take (s := s) (w := w) (a := a) (b := b) (by omega) (by omega)]
  have h1 := filter_len_all (eqAt a b) (W.map (List.take s.sizes.length))
  have h2 := filter_len_none (eqAt a b) (W.map (List.take s.sizes.length))
  rw [e1] at h1
  rw [e2] at h2
  have hor : same1 a b W = true ∨ diff1 a b W = true := by
    cases W with
    | nil => simp at hne
    | cons w W =>
      by_cases e : w[a.toNat]? = w[b.toNat]?
      · left; simp [same1, e]
      · right; simp [diff1, e]
  unfold sameR
  by_cases c1 : diff1 a b W = false
  · rw [if_pos (h1.2 c1), sameV, if_pos ⟨c1, by simpa [c1] using hor⟩]
  · rw [if_neg (fun h => c1 (h1.1 h))]
    by_cases c2 : same1 a b W = false
    · rw [if_pos (h2.2 c2), sameV, if_neg (by simp [c2]), if_pos ⟨by simpa using c1, c2⟩]
    · rw [if_neg (fun h => c2 (h2.1 h)), sameV, if_neg (by simp [c1]), if_neg (by simp [c2])]
theorem first_eq {s : Sh} (hv : s.valid = true) {w0 : List Int} (h : ((onN s).filter (rightW s (everyN s)))[0]? = some w0) : (allM s (everyN s))[0]? = some (w0.take s.num.toNat) := by
  have hn := valid_num hv
  rw [all_eq _ hv, List.getElem?_map, h]
  have : s.num.toNat = s.sizes.length := by omega
  rw [this]; rfl
theorem manyI_take {s : Sh} {w : List Int} (h : w.length = 8) (h2 : s.sizes.length ≤ 8) : manyI (w.take s.sizes.length) = (cntP w s.sizes.length : Int) := by
  have : (w.take s.sizes.length).length = s.sizes.length := by rw [List.length_take]; omega
  rw [manyI, this, cntP_take _ _ _ (Nat.le_refl _)]
theorem fold_span (ns : List Int) : ∀ (x y : Int), ns.foldl putF (x, y, true) = ((ns.foldl (fun (e : Int × Int) n => (min e.1 n, max e.2 n)) (x, y)).1, (ns.foldl (fun (e : Int × Int) n => (min e.1 n, max e.2 n)) (x, y)).2, true) := by
  induction ns with
  | nil => intro x y; rfl
  | cons n ns ih =>
    intro x y
    rw [List.foldl_cons, List.foldl_cons]
    exact ih (min x n) (max y n)
theorem spanR_map (ls : List (List Int)) : spanR ls = (ls.map manyI).foldl (fun (e : Int × Int) n => (min e.1 n, max e.2 n)) (manyI (ls.headD []), manyI (ls.headD [])) := by
  rw [List.foldl_map]; rfl
theorem plates_eq {s : Sh} (hv : s.valid = true) (hcb : canB s (onN s) (everyN s) = true) :
    (spanE s ((onN s).filter (rightW s (everyN s)))).1 = (spanR (allM s (everyN s))).1 ∧ (spanE s ((onN s).filter (rightW s (everyN s)))).2.1 = (spanR (allM s (everyN s))).2 := by
  have hn := valid_num hv
  have hne := can_ne hv hcb
  have h8 : ∀ w ∈ (onN s).filter (rightW s (everyN s)), w.length = 8 := fun w hw => onN_len8 s w (List.mem_filter.1 hw).1
  rw [all_eq _ hv] at hne ⊢
  generalize (onN s).filter (rightW s (everyN s)) = W at *
  have e1 : ((W.map (List.take s.sizes.length)).map manyI) = W.map fun w => (cntP w s.sizes.length : Int) := by
    rw [List.map_map]
    refine List.map_congr_left fun w hw => ?_
    exact manyI_take (h8 w hw) (by omega)
  rw [spanR_map, e1, spanE]
  cases W with
  | nil => simp at hne
  | cons w W =>
    have e2 : manyI ((((w :: W).map (List.take s.sizes.length))).headD []) = (cntP w s.sizes.length : Int) := manyI_take (h8 w (by simp)) (by omega)
    rw [e2, List.map_cons, List.foldl_cons, List.foldl_cons]
    have e3 : putF (0, 0, false) (cntP w s.sizes.length : Int) = ((cntP w s.sizes.length : Int), (cntP w s.sizes.length : Int), true) := by simp [putF]
    rw [e3, fold_span]
    simp only [Int.min_self, Int.max_self]
    exact ⟨trivial, trivial⟩
end Go.Proofs.Ytedihdnkalmoiaa

/- The program: Idle. -/
namespace Go.Proofs.Ytedihdnkalmoiaa
open Go.Gh
set_option maxRecDepth 100000
set_option maxHeartbeats 4000000
theorem ent22 : Enters Try.prog 22 := Enters.mk Try.func22 (by kernel_rfl) rfl
theorem p_idle_t {E : Env Try.prog} {A : E.α} (s : Sh) (hv : s.valid = true) (hcb : canB s (onN s) (everyN s) = true) : Gh.Spec E 22 [.p (.agg [.int .i64 s.num, .list (s.sizes.map (.int .i64)), .int .i64 s.lo, .int .i64 s.hi, .list (s.notes.map pn)])] (mkHp []) A (fun y => y = .ok (.p (.tuple [.int .i64 (idleK s s.notes.length), .int .i64 0])) (mkHp []) A) := by
  refine specD_of Try.func22 (rfl : Try.f22.body = some _) (Nat.le_of_ble_eq_true rfl) (fun id h => ?_) (fun j id h => ?_) ?_
  · exact wf1x h
  · exact wf2x h
  intro C hN hL
  replace hN : C.N = 37 := hN
  simp only [Gh.num, List.map_cons, List.map_nil, Nat.reduceAdd]
  have hn := valid_num hv
  have hm := onN_many s (by omega)
  have hev := everyN_lt (s := s) (by omega)
  repeat refine gwp_seq ?_
  refine gwp_region ?_
  refine n1 110 false (hc := by (first | exact True.intro | (simp only [inI]; omega) | (simp [P.size, nt, wP, pn, all_int, allOne_p, goods_p, allOne, goods, good, G.one, P.one, P.cells] <;> first | omega | assumption | simp_all))) (k := ?_)
  refine v0 (k := ?_)
  refine n1 130 false (hc := by (first | exact True.intro | (simp only [inI]; omega) | (simp [P.size, nt, wP, pn, all_int, allOne_p, goods_p, allOne, goods, good, G.one, P.one, P.cells] <;> first | omega | assumption | simp_all))) (k := ?_)
  refine nil0 ?_
  refine cl [1, 2, 3] (k := ?_)
  repeat refine gwp_seq ?_
  refine gwp_region ?_
  refine df0 (k := ?_)
  refine nil0 ?_
  refine cl [1, 2, 3] (k := ?_)
  repeat refine gwp_seq ?_
  refine gwp_region ?_
  refine v0 (k := ?_)
  refine oc0 [(640, 5000)] [] [1] none (spec := s_open_t s hv) (hent := ent43) (k := ?_)
  refine oc0 [(0, 5000)] [] [0] none (spec := must0_t s hv hcb) (hent := ent46) (k := ?_)
  refine v0 (k := ?_)
  refine nil0 ?_
  refine cl [2, 3, 4] (k := ?_)
  repeat refine gwp_seq ?_
  refine gwp_region ?_
  refine v0 (k := ?_)
  refine v0 (k := ?_)
  refine oc0 [] [] [9] none (spec := s_everyN s (by omega)) (hent := ent50) (k := ?_)
  refine oc0 [] [] [10, 0] none (spec := s_many s (everyN s) (onN s) (by omega) (onN_len8 s) (by omega) (by omega) (nv_of hv)) (hent := ent53) (k := ?_)
  refine v0 (k := ?_)
  refine nil0 ?_
  refine cl [2, 3, 4, 5] (k := ?_)
  repeat refine gwp_seq ?_
  refine gwp_region ?_
  refine v0 (k := ?_)
  refine v0 (k := ?_)
  refine v0 (k := ?_)
  refine v0 (k := ?_)
  refine v0 (k := ?_)
  refine v0 (k := ?_)
  refine nil0 ?_
  refine cl [2, 3, 4, 5, 18, 19] (k := ?_)
  repeat refine gwp_seq ?_
  refine gwp_block ?_
  repeat refine gwp_seq ?_
  refine gc_loop (fun mz σ => ∃ k : Nat, (k ≤ s.notes.length) ∧ mz = s.notes.length - k ∧ σ = (sg [(2, .p (.int .i64 (idleK s k))), (3, .ref 130 0), (4, .ptr [.p (.int .i64 s.num), .p (.list (s.sizes.map (.int .i64))), .p (.int .i64 s.lo), .p (.int .i64 s.hi), .p (.list (s.notes.map pn)), .p (.list (s.notes.map nt)), .p (.list ((onN s).map wP)), .map 5000]), (5, .p (.int .i64 ((onN s).filter (rightW s (everyN s))).length)), (18, .p (.int .i64 s.notes.length)), (19, .p (.int .i64 k))] [(130, .cells [.p (.int .i64 0)] 0), (5000, .map (mE (canE s (onN s) [] (everyN s))))] A [.call 42 [.ref 130 0] []] : Sg E)) ?_ (fun mz σ hI => ?_)
  · refine lbeg [2, 3, 4, 5, 18, 19] (hV := ?_)
    exact ⟨_, 0, by omega, rfl, rfl⟩
  obtain ⟨k, hk, hnn, rfl⟩ := hI
  repeat refine gwp_seq ?_
  refine gwp_region ?_
  refine v0 (k := ?_)
  refine nil0 ?_
  repeat refine gwp_seq ?_
  refine cB (k1 := fun hb1 => ?_) (k0 := fun hb1 => ?_)
  · try simp only [decide_eq_true_eq, decide_eq_false_iff_not, Int.not_lt, Int.not_le, Bool.not_eq_eq_eq_not, Bool.not_true, Bool.not_false, Bool.and_eq_true, Bool.and_eq_false_iff, Bool.or_eq_true, Bool.or_eq_false_iff] at hb1
    try rw [eqI] at hb1
    repeat refine gwp_seq ?_
    refine gwp_skip ?_
    refine cl [2, 3, 4, 5, 18, 19] (k := ?_)
    repeat refine gwp_seq ?_
    refine gwp_block ?_
    repeat refine gwp_seq ?_
    refine gwp_region ?_
    refine v0 (k := ?_)
    refine v0 (k := ?_)
    refine nil0 ?_
    refine cl [2, 3, 4, 5, 6, 18, 19] (k := ?_)
    repeat refine gwp_seq ?_
    have hsh := shl_u64 (n := k) (by omega)
    have hle := less_eq (s := s) (i := k) (by omega) (by omega)
    have hll := lessN_lt (s := s) (i := k) (by omega)
    refine rd ?_
    refine d0 0 (k := ?_)
    refine d0 1 (k := ?_)
    refine doc0 2 [] [] [9] none (spec := s_everyN s (by omega)) (hent := ent50) (k := ?_)
    refine d0 3 (k := ?_)
    refine d1 4 (hc := by (first | exact True.intro | (simp only [inI]; omega) | (simp [P.size, nt, wP, pn, all_int, allOne_p, goods_p, allOne, goods, good, G.one, P.one, P.cells] <;> first | omega | assumption | simp_all))) (k := ?_)
    refine d0 5 (k := ?_)
    refine doc0 6 [] [] [10, 0] none (spec := s_many s (lessN s k) (onN s) (by omega) (onN_len8 s) (by omega) (by omega) (nv_of hv)) (hent := ent53) (k := ?_)
    refine d0 7 (k := ?_)
    refine d0 8 (k := ?_)
    refine dz 9 [0, 0, 2, 0, 8, 30, 63, 0, 255] (h := ?_)
    refine de 9 (h := ?_)
    repeat refine gwp_seq ?_
    refine cB (k1 := fun hb2 => ?_) (k0 := fun hb2 => ?_)
    · try simp only [decide_eq_true_eq, decide_eq_false_iff_not, Int.not_lt, Int.not_le, Bool.not_eq_eq_eq_not, Bool.not_true, Bool.not_false, Bool.and_eq_true, Bool.and_eq_false_iff, Bool.or_eq_true, Bool.or_eq_false_iff] at hb2
      try rw [eqI] at hb2
      repeat refine gwp_seq ?_
      have hsh2 := shl_i64 (n := k) (by omega)
      have hor := idle_or (s := s) (k := k) (by omega)
      refine gwp_region ?_
      refine v0 (k := ?_)
      refine v0 (k := ?_)
      refine v1 (hc := by (first | exact True.intro | (simp only [inI]; omega) | (simp [P.size, nt, wP, pn, all_int, allOne_p, goods_p, allOne, goods, good, G.one, P.one, P.cells] <;> first | omega | assumption | simp_all))) (k := ?_)
      refine v0 (k := ?_)
      refine v0 (k := ?_)
      refine nil0 ?_
      refine cl [2, 3, 4, 5, 18, 19] (k := ?_)
      repeat refine gwp_seq ?_
      refine gwp_region ?_
      refine v1 (hc := by (first | exact True.intro | (simp only [inI]; omega) | (simp [P.size, nt, wP, pn, all_int, allOne_p, goods_p, allOne, goods, good, G.one, P.one, P.cells] <;> first | omega | assumption | simp_all))) (k := ?_)
      refine v0 (k := ?_)
      refine nil0 ?_
      refine lend [2, 3, 4, 5, 18, 19] (h := ?_) (hV := ?_) (n' := s.notes.length - (k + 1))
      · omega
      first
      | exact ⟨k + 1, by omega, rfl, sgE (by rw [idleK, if_pos (by omega)]; rfl) rfl⟩
      | exact ⟨k + 1, by omega, rfl, sgE (by rw [idleK, if_neg (by omega)]; rfl) rfl⟩
    · try simp only [decide_eq_true_eq, decide_eq_false_iff_not, Int.not_lt, Int.not_le, Bool.not_eq_eq_eq_not, Bool.not_true, Bool.not_false, Bool.and_eq_true, Bool.and_eq_false_iff, Bool.or_eq_true, Bool.or_eq_false_iff] at hb2
      try rw [eqI] at hb2
      repeat refine gwp_seq ?_
      refine gwp_skip ?_
      refine cl [2, 3, 4, 5, 18, 19] (k := ?_)
      repeat refine gwp_seq ?_
      refine gwp_region ?_
      refine v1 (hc := by (first | exact True.intro | (simp only [inI]; omega) | (simp [P.size, nt, wP, pn, all_int, allOne_p, goods_p, allOne, goods, good, G.one, P.one, P.cells] <;> first | omega | assumption | simp_all))) (k := ?_)
      refine v0 (k := ?_)
      refine nil0 ?_
      refine lend [2, 3, 4, 5, 18, 19] (h := ?_) (hV := ?_) (n' := s.notes.length - (k + 1))
      · omega
      first
      | exact ⟨k + 1, by omega, rfl, sgE (by rw [idleK, if_pos (by omega)]; rfl) rfl⟩
      | exact ⟨k + 1, by omega, rfl, sgE (by rw [idleK, if_neg (by omega)]; rfl) rfl⟩
  · try simp only [decide_eq_true_eq, decide_eq_false_iff_not, Int.not_lt, Int.not_le, Bool.not_eq_eq_eq_not, Bool.not_true, Bool.not_false, Bool.and_eq_true, Bool.and_eq_false_iff, Bool.or_eq_true, Bool.or_eq_false_iff] at hb1
    try rw [eqI] at hb1
    repeat refine gwp_seq ?_
    refine gwp_exit ?_
    repeat (first | refine gthen_exit ?_ | refine gnoGoto_exit ?_ | refine gblock_here ?_ | refine gblock_out rfl ?_)
    refine cl [2, 3] (k := ?_)
    repeat refine gwp_seq ?_
    refine gwp_region ?_
    refine v0 (k := ?_)
    refine v0 (k := ?_)
    refine s1 (hc := by (first | exact True.intro | (simp only [inI]; omega) | (simp [P.size, nt, wP, pn, all_int, allOne_p, goods_p, allOne, goods, good, G.one, P.one, P.cells] <;> first | omega | assumption | simp_all))) (k := ?_)
    refine nil0 ?_
    repeat refine gwp_seq ?_
    refine gwp_ret ?_
    repeat (first | refine gthen_ret ?_ | refine gblock_ret ?_ | refine gnoGoto_ret ?_)
    refine finD_ret ?_
    refine ocall [130] [(0, 130)] (spec := d_none 0) (hent := ent42) (h := ?_)
    refine out_nil ?_
    have hke : k = s.notes.length := by omega
    subst hke
    refine fp2 (hR := ?_)
    rfl
theorem p_idle_c {E : Env Try.prog} {A : E.α} (s : Sh) (hv : s.valid = true) (hcb : canB s (onN s) (everyN s) = false)  : Gh.Spec E 22 [.p (.agg [.int .i64 s.num, .list (s.sizes.map (.int .i64)), .int .i64 s.lo, .int .i64 s.hi, .list (s.notes.map pn)])] (mkHp []) A (fun y => y = .ok (.p (.tuple [.int .i64 0, .int .i64 10])) (mkHp []) A) := by
  refine specD_of Try.func22 (rfl : Try.f22.body = some _) (Nat.le_of_ble_eq_true rfl) (fun id h => ?_) (fun j id h => ?_) ?_
  · exact wf1x h
  · exact wf2x h
  intro C hN hL
  replace hN : C.N = 37 := hN
  simp only [Gh.num, List.map_cons, List.map_nil, Nat.reduceAdd]
  have hn := valid_num hv
  have hm := onN_many s (by omega)
  have hev := everyN_lt (s := s) (by omega)
  repeat refine gwp_seq ?_
  refine gwp_region ?_
  refine n1 110 false (hc := by (first | exact True.intro | (simp only [inI]; omega) | (simp [P.size, nt, wP, pn, all_int, allOne_p, goods_p, allOne, goods, good, G.one, P.one, P.cells] <;> first | omega | assumption | simp_all))) (k := ?_)
  refine v0 (k := ?_)
  refine n1 130 false (hc := by (first | exact True.intro | (simp only [inI]; omega) | (simp [P.size, nt, wP, pn, all_int, allOne_p, goods_p, allOne, goods, good, G.one, P.one, P.cells] <;> first | omega | assumption | simp_all))) (k := ?_)
  refine nil0 ?_
  refine cl [1, 2, 3] (k := ?_)
  repeat refine gwp_seq ?_
  refine gwp_region ?_
  refine df0 (k := ?_)
  refine nil0 ?_
  refine cl [1, 2, 3] (k := ?_)
  repeat refine gwp_seq ?_
  refine gwp_region ?_
  refine v0 (k := ?_)
  refine oc0 [(640, 5000)] [] [1] none (spec := s_open_t s hv) (hent := ent43) (k := ?_)
  refine op0 [(0, 5000)] [] [0] none (spec := must0_f s hv hcb) (hent := ent46) (k := ?_)
  repeat (first | refine gthen_panic ?_ | refine gblock_panic ?_)
  refine finD_panic ?_
  refine ocall [130] [(0, 130)] (spec := d_some 0 10) (hent := ent42) (h := ?_)
  refine out_nil ?_
  refine fp2 (hR := ?_)
  rfl
theorem p_idle_f {E : Env Try.prog} {A : E.α} (s : Sh) (h1 : s.sizes.length ≤ 1048576) (h2 : s.notes.length ≤ 1048576) (hv : s.valid = false)  : Gh.Spec E 22 [.p (.agg [.int .i64 s.num, .list (s.sizes.map (.int .i64)), .int .i64 s.lo, .int .i64 s.hi, .list (s.notes.map pn)])] (mkHp []) A (fun y => y = .ok (.p (.tuple [.int .i64 0, .int .i64 1])) (mkHp []) A) := by
  refine specD_of Try.func22 (rfl : Try.f22.body = some _) (Nat.le_of_ble_eq_true rfl) (fun id h => ?_) (fun j id h => ?_) ?_
  · exact wf1x h
  · exact wf2x h
  intro C hN hL
  replace hN : C.N = 37 := hN
  simp only [Gh.num, List.map_cons, List.map_nil, Nat.reduceAdd]
  repeat refine gwp_seq ?_
  refine gwp_region ?_
  refine n1 110 false (hc := by (first | exact True.intro | (simp only [inI]; omega) | (simp [P.size, nt, wP, pn, all_int, allOne_p, goods_p, allOne, goods, good, G.one, P.one, P.cells] <;> first | omega | assumption | simp_all))) (k := ?_)
  refine v0 (k := ?_)
  refine n1 130 false (hc := by (first | exact True.intro | (simp only [inI]; omega) | (simp [P.size, nt, wP, pn, all_int, allOne_p, goods_p, allOne, goods, good, G.one, P.one, P.cells] <;> first | omega | assumption | simp_all))) (k := ?_)
  refine nil0 ?_
  refine cl [1, 2, 3] (k := ?_)
  repeat refine gwp_seq ?_
  refine gwp_region ?_
  refine df0 (k := ?_)
  refine nil0 ?_
  refine cl [1, 2, 3] (k := ?_)
  repeat refine gwp_seq ?_
  refine gwp_region ?_
  refine v0 (k := ?_)
  refine op0 [] [] [1] none (spec := s_open_f s h1 h2 hv) (hent := ent43) (k := ?_)
  repeat (first | refine gthen_panic ?_ | refine gblock_panic ?_)
  refine finD_panic ?_
  refine ocall [130] [(0, 130)] (spec := d_some 0 1) (hent := ent42) (h := ?_)
  refine out_nil ?_
  refine fp2 (hR := ?_)
  rfl
end Go.Proofs.Ytedihdnkalmoiaa

/- The notes that tell nothing, and the smallest sets: the program's are the document's. -/
namespace Go.Proofs.Ytedihdnkalmoiaa
open Go.Gh

theorem and_sub {n t : Nat} (hn : n ≤ 12) (ht : t < 2 ^ n) : (2 ^ n - 1) &&& (2 ^ 64 - 1 - t) = 2 ^ n - 1 - t := by
  have h64 : t < 2 ^ 64 := Nat.lt_of_lt_of_le ht (Nat.pow_le_pow_right (by omega) (by omega))
  have e1 : 2 ^ 64 - 1 - t = 2 ^ 64 - (t + 1) := by omega
  have e2 : 2 ^ n - 1 - t = 2 ^ n - (t + 1) := by omega
  rw [e1, e2]
  refine Nat.eq_of_testBit_eq fun i => ?_
  rw [Nat.testBit_and, Nat.testBit_two_pow_sub_one, Nat.testBit_two_pow_sub_succ h64, Nat.testBit_two_pow_sub_succ ht]
  by_cases hi : i < n
  · have : i < 64 := by omega
    simp [hi, this]
  · simp [hi]
theorem lessN_eq {s : Sh} {k : Nat} (h : s.notes.length ≤ 12) (hk : k < s.notes.length) : lessN s k = everyN s - 2 ^ k := and_sub h (Nat.pow_lt_pow_right (by omega) hk)
theorem subN_eq {s : Sh} {t : Nat} (h : s.notes.length ≤ 12) (ht : t < 2 ^ s.notes.length) : subN s t = everyN s - t := and_sub h ht
theorem idle_eq {s : Sh} (hv : s.valid = true) : ∀ k, k ≤ s.notes.length → idleK s k = idleR s k
  | 0, _ => rfl
  | k + 1, hk => by
    have hn := valid_num hv
    have hlt := idleR_lt s k
    rw [idleK, idleR, idle_eq hv k (by omega), lessN_eq (by omega) (by omega), all_eq _ hv, all_eq _ hv, List.length_map, List.length_map]
    split
    · have := Nat.two_pow_add_eq_or_of_lt hlt 1
      rw [Nat.mul_one] at this
      rw [Nat.or_comm, ← this, Nat.add_comm]
    · rfl
/-! The first of the smallest sets -/
theorem popF_lt : ∀ (f n u : Nat), u < 2 ^ n → popF f u ≤ n
  | 0, _, _, _ => Nat.zero_le _
  | f + 1, 0, u, h => by
    have : u = 0 := by simpa using h
    subst this
    have := popF_lt f 0 0 (by simp)
    rw [popF]
    show 0 + popF f 0 ≤ 0
    omega
  | f + 1, n + 1, u, h => by
    have := popF_lt f n (u / 2) (by rw [Nat.pow_succ] at h; omega)
    rw [popF]; omega
theorem popF_full : ∀ (f n u : Nat), u < 2 ^ n → n ≤ popF f u → u = 2 ^ n - 1
  | 0, n, u, h, h2 => by
    have : n = 0 := by simpa [popF] using h2
    subst this; simp at h; omega
  | f + 1, 0, u, h, _ => by simp at h; omega
  | f + 1, n + 1, u, h, h2 => by
    rw [popF] at h2
    have h3 : u / 2 < 2 ^ n := by rw [Nat.pow_succ] at h; omega
    have h4 := popF_lt f n (u / 2) h3
    have := popF_full f n (u / 2) h3 (by omega)
    have := Nat.two_pow_pos n
    rw [Nat.pow_succ]; omega
theorem popF_ones : ∀ (n f : Nat), n ≤ f → popF f (2 ^ n - 1) = n
  | 0, f, _ => by
    have := popF_lt f 0 0 (by simp)
    simp; omega
  | n + 1, 0, h => by omega
  | n + 1, f + 1, h => by
    have h0 := Nat.two_pow_pos n
    have e1 : (2 ^ (n + 1) - 1) / 2 = 2 ^ n - 1 := by rw [Nat.pow_succ]; omega
    have e2 : (2 ^ (n + 1) - 1) % 2 = 1 := by rw [Nat.pow_succ]; omega
    rw [popF, e1, e2, popF_ones n f (by omega)]; omega
theorem firstV_some {n : Nat} {p : Nat → Bool} {t : Nat} (ht : t < 2 ^ n) (hp : p t = true) (hm : ∀ u, u < 2 ^ n → p u = true → pop t < pop u ∨ (pop t = pop u ∧ t ≤ u)) : firstV n p = t := by
  have h1 : firstIn n p (pop t) = some t := by
    refine ff_some _ (List.find?_eq_none.2 fun u hu h => ?_) (by simp [hp]) ht
    have hu := List.mem_range.1 hu
    simp only [Bool.and_eq_true, decide_eq_true_eq] at h
    have := hm u (by omega) h.2
    omega
  have h2 : firstM n p = some t := by
    refine fs_some _ (List.findSome?_eq_none_iff.2 fun k hk => ?_) h1 (by have := popF_lt 64 n t ht; show popF 64 t < n + 1; omega)
    have hk := List.mem_range.1 hk
    refine List.find?_eq_none.2 fun u hu h => ?_
    have hu := List.mem_range.1 hu
    simp only [Bool.and_eq_true, decide_eq_true_eq] at h
    have := hm u hu h.2
    omega
  rw [firstV, h2]; rfl
theorem firstV_none {n : Nat} {p : Nat → Bool} (h : ∀ u, u < 2 ^ n → p u = false) : firstV n p = 0 := by
  have h2 : firstM n p = none := by
    refine List.findSome?_eq_none_iff.2 fun k _ => ?_
    refine List.find?_eq_none.2 fun u hu h' => ?_
    rw [h u (List.mem_range.1 hu)] at h'
    simp at h'
  rw [firstV, h2]; rfl
theorem clR_spec (s : Sh) : ∀ k, ((clR s k).2 = false ∧ (clR s k).1 = 0 ∧ ∀ t, t < k → canR s t = true) ∨
    ((clR s k).2 = true ∧ (clR s k).1 < k ∧ canR s (clR s k).1 = false ∧ ∀ t, t < k → canR s t = false → pop (clR s k).1 < pop t ∨ (pop (clR s k).1 = pop t ∧ (clR s k).1 ≤ t))
  | 0 => .inl ⟨rfl, rfl, fun t h => absurd h (by omega)⟩
  | k + 1 => by
    by_cases hc : canR s k = true
    · rw [clR_b hc]
      rcases clR_spec s k with ⟨h1, h2, h3⟩ | ⟨h1, h2, h3, h4⟩
      · refine .inl ⟨h1, h2, fun t ht => ?_⟩
        by_cases e : t = k
        · subst e; exact hc
        · exact h3 t (by omega)
      · refine .inr ⟨h1, by omega, h3, fun t ht htc => ?_⟩
        by_cases e : t = k
        · subst e; rw [hc] at htc; cases htc
        · exact h4 t (by omega) htc
    · have hc : canR s k = false := by simpa using hc
      rcases clR_spec s k with ⟨h1, h2, h3⟩ | ⟨h1, h2, h3, h4⟩
      · rw [clR_a h1 hc]
        refine .inr ⟨rfl, by simp, hc, fun t ht htc => ?_⟩
        by_cases e : t = k
        · subst e; exact .inr ⟨rfl, Nat.le_refl _⟩
        · rw [h3 t (by omega)] at htc; cases htc
      · by_cases hl : pop k < pop (clR s k).1
        · rw [clR_c (by omega) hc]
          refine .inr ⟨rfl, by simp, hc, fun t ht htc => ?_⟩
          simp only
          by_cases e : t = k
          · subst e; exact .inr ⟨rfl, Nat.le_refl _⟩
          · have := h4 t (by omega) htc
            left; omega
        · rw [clR_e h1 (by omega)]
          refine .inr ⟨h1, by omega, h3, fun t ht htc => ?_⟩
          by_cases e : t = k
          · subst e; omega
          · exact h4 t (by omega) htc
theorem right_less {s : Sh} {t : Nat} {w : List Int} (h : rightW s (everyN s) w = true) : rightW s t w = true := by
  simp only [rightW, List.all_eq_true, List.mem_range] at h ⊢
  intro i hi
  have := h i hi
  unfold noteOk at this ⊢
  cases hz : s.notes[i]? with
  | none => rfl
  | some z =>
    rw [hz] at this
    simp only [everyN, Nat.testBit_two_pow_sub_one, hi, decide_true, Bool.not_true, Bool.false_or] at this
    simp only [this, Bool.or_true]
theorem can_less {s : Sh} {t : Nat} (h : canB s (onN s) (everyN s) = true) : canB s (onN s) t = true := by
  obtain ⟨w, hw, hr⟩ := List.any_eq_true.1 h
  exact List.any_eq_true.2 ⟨w, hw, right_less hr⟩
theorem clash_eq {s : Sh} (hv : s.valid = true) : clashV s = clashR s := by
  have hev := every2 (s := s)
  have hcan := can_eq hv
  cases h0 : canB s (onN s) 0 with
  | false => rw [clashV_1 h0, clashR_1 (by rw [← hcan]; exact h0)]
  | true =>
    rw [clashR_2 (by rw [← hcan]; exact h0)]
    have hs := clR_spec s (everyN s + 1)
    cases h1 : canB s (onN s) (everyN s) with
    | true =>
      rw [clashV_2 h1]
      rcases hs with ⟨_, h2, _⟩ | ⟨_, _, h3, _⟩
      · exact h2.symm
      · rw [← hcan, can_less h1] at h3; cases h3
    | false =>
      rw [clashV_3 h0 h1]
      rcases hs with ⟨_, h2, h3⟩ | ⟨_, h2, h3, h4⟩
      · rw [h2]
        exact firstV_none fun u hu => by simp only [clashP]; rw [hcan, h3 u (by omega)]; rfl
      · refine firstV_some (by omega) (by simp only [clashP]; rw [hcan, h3]; rfl) fun u hu hp => ?_
        simp only [clashP] at hp
        exact h4 u (by omega) (by rw [← hcan]; simpa using hp)
theorem drR_spec (s : Sh) : ∀ k, k ≤ everyN s + 1 → (drR s k = everyN s ∨ (drR s k < k ∧ canR s (everyN s - drR s k) = true)) ∧ ∀ t, t < k → canR s (everyN s - t) = true → pop (drR s k) < pop t ∨ (pop (drR s k) = pop t ∧ (drR s k ≤ t ∨ drR s k = everyN s))
  | 0, _ => ⟨.inl rfl, fun t h => absurd h (by omega)⟩
  | k + 1, hk => by
    obtain ⟨h1, h2⟩ := drR_spec s k (by omega)
    by_cases hc : pop k < pop (drR s k) ∧ canR s (everyN s - k) = true
    · rw [drR_a (by omega) hc.2]
      refine ⟨.inr ⟨by omega, hc.2⟩, fun t ht htc => ?_⟩
      by_cases e : t = k
      · subst e; exact .inr ⟨rfl, .inl (Nat.le_refl _)⟩
      · have := h2 t (by omega) htc
        left; omega
    · have e0 : drR s (k + 1) = drR s k := if_neg hc
      rw [e0]
      refine ⟨h1.imp id fun h => ⟨by omega, h.2⟩, fun t ht htc => ?_⟩
      by_cases e : t = k
      · subst e
        have : ¬ pop t < pop (drR s t) := fun h => hc ⟨h, htc⟩
        have hle := drR_le s t (by omega)
        rcases h1 with h1 | h1
        · rw [h1] at this ⊢
          omega
        · omega
      · exact h2 t (by omega) htc
theorem drop_eq {s : Sh} (hv : s.valid = true) : dropV s = dropR s := by
  have hev := every2 (s := s)
  have hn := valid_num hv
  have hcan := can_eq hv
  cases h0 : canB s (onN s) 0 with
  | false => rw [dropV_1 h0, dropR_1 (by rw [← hcan]; exact h0)]
  | true =>
    rw [dropV_2 h0, dropR_2 (by rw [← hcan]; exact h0)]
    obtain ⟨h1, h2⟩ := drR_spec s (everyN s + 1) (Nat.le_refl _)
    have hle := drR_le s (everyN s + 1) (Nat.le_refl _)
    generalize drR s (everyN s + 1) = b at *
    have hp : canR s (everyN s - b) = true := by
      rcases h1 with h1 | h1
      · rw [h1, Nat.sub_self, ← hcan]; exact h0
      · exact h1.2
    refine firstV_some (by omega) (by simp only [dropP]; rw [subN_eq (by omega) (by omega), hcan]; exact hp) fun u hu hq => ?_
    simp only [dropP] at hq
    rw [subN_eq (by omega) hu, hcan] at hq
    rcases h2 u (by omega) hq with h | ⟨h, h3 | h3⟩
    · exact .inl h
    · exact .inr ⟨h, h3⟩
    · refine .inr ⟨h, ?_⟩
      have hones : pop b = s.notes.length := by rw [h3]; exact popF_ones s.notes.length 64 (by omega)
      have := popF_full 64 s.notes.length u hu (by show s.notes.length ≤ pop u; omega)
      rw [h3, this]; simp only [everyN]; omega
end Go.Proofs.Ytedihdnkalmoiaa

/- The program: the first of the smallest sets, by which notes clash, or must be wrong. -/
namespace Go.Proofs.Ytedihdnkalmoiaa
open Go.Gh
set_option maxRecDepth 100000
set_option maxHeartbeats 4000000
theorem ent61 : Enters Try.prog 61 := Enters.mk Try.func61 (by kernel_rfl) rfl
theorem s_is_clash {E : Env Try.prog} {A : E.α} (t : Nat) (ht : t < 4096) (s : Sh) (hv : s.valid = true) (es : List (Nat × Bool)) (hk : known s (onN s) es) : Gh.Spec E 61 [.p (.int .u64 t), .ptr [.ptr [.p (.int .i64 s.num), .p (.list (s.sizes.map (.int .i64))), .p (.int .i64 s.lo), .p (.int .i64 s.hi), .p (.list (s.notes.map pn)), .p (.list (s.notes.map nt)), .p (.list ((onN s).map wP)), .map 0]]] (mkHp [(0, .map (mE es))]) A (fun y => y = .ok (.p (.bool (clashP s t))) (mkHp [(0, .map (mE (canE s (onN s) es t)))]) A) := by
  refine spec_of Try.func61 (rfl : Try.f61.body = some _) (Nat.le_of_ble_eq_true rfl) (fun id h => ?_) (fun j id h => ?_) ?_
  · exact wf1x h
  · exact wf2x h
  intro C hN hL
  replace hN : C.N = 8 := hN
  simp only [Gh.num, List.map_cons, List.map_nil, Nat.reduceAdd]
  have hn := valid_num hv
  have hm := onN_many s (by omega)
  have hev := everyN_lt (s := s) (by omega)
  repeat refine gwp_seq ?_
  refine gwp_region ?_
  refine v0 (k := ?_)
  refine nil0 ?_
  refine cl [0, 1] (k := ?_)
  repeat refine gwp_seq ?_
  refine gwp_region ?_
  refine v0 (k := ?_)
  refine v0 (k := ?_)
  refine oc0 [(0, 0)] [] [0, 0] none (spec := s_can s t (onN s) es (by omega) (onN_len8 s) (by omega) (by omega) (nv_of hv) hk) (hent := ent59) (k := ?_)
  refine v0 (k := ?_)
  refine v0 (k := ?_)
  refine nil0 ?_
  repeat refine gwp_seq ?_
  refine gwp_ret ?_
  repeat (first | refine gthen_ret ?_ | refine gblock_ret ?_ | refine gnoGoto_ret ?_)
  refine fin_ret ?_
  refine fh [0] (hR := ?_)
  rfl
theorem ent63 : Enters Try.prog 63 := Enters.mk Try.func63 (by kernel_rfl) rfl
theorem s_is_drop {E : Env Try.prog} {A : E.α} (t : Nat) (ht : t < 4096) (s : Sh) (hv : s.valid = true) (es : List (Nat × Bool)) (hk : known s (onN s) es) : Gh.Spec E 63 [.p (.int .u64 t), .ptr [.fn (.func 59) [.ptr [.p (.int .i64 s.num), .p (.list (s.sizes.map (.int .i64))), .p (.int .i64 s.lo), .p (.int .i64 s.hi), .p (.list (s.notes.map pn)), .p (.list (s.notes.map nt)), .p (.list ((onN s).map wP)), .map 0]] []], .ptr [.ptr [.p (.int .i64 s.num), .p (.list (s.sizes.map (.int .i64))), .p (.int .i64 s.lo), .p (.int .i64 s.hi), .p (.list (s.notes.map pn)), .p (.list (s.notes.map nt)), .p (.list ((onN s).map wP)), .map 0]]] (mkHp [(0, .map (mE es))]) A (fun y => y = .ok (.p (.bool (dropP s t))) (mkHp [(0, .map (mE (canE s (onN s) es (subN s t))))]) A) := by
  refine spec_of Try.func63 (rfl : Try.f63.body = some _) (Nat.le_of_ble_eq_true rfl) (fun id h => ?_) (fun j id h => ?_) ?_
  · exact wf1x h
  · exact wf2x h
  intro C hN hL
  replace hN : C.N = 11 := hN
  simp only [Gh.num, List.map_cons, List.map_nil, Nat.reduceAdd]
  have hn := valid_num hv
  have hm := onN_many s (by omega)
  have hev := everyN_lt (s := s) (by omega)
  have hsb := sub_eq (s := s) (t := t) (by omega) ht
  have hsl := subN_lt (s := s) (t := t) (by omega)
  repeat refine gwp_seq ?_
  refine gwp_region ?_
  refine v0 (k := ?_)
  refine nil0 ?_
  refine cl [0, 1, 2] (k := ?_)
  repeat refine gwp_seq ?_
  refine rd ?_
  refine d0 0 (k := ?_)
  refine d0 1 (k := ?_)
  refine doc0 2 [] [] [9] none (spec := s_everyN s (by omega)) (hent := ent50) (k := ?_)
  refine da0 3 (k := ?_)
  refine d0 4 (k := ?_)
  refine doc0 5 [(0, 0)] [] [0, 0] none (spec := s_can s (subN s t) (onN s) es (by omega) (onN_len8 s) (by omega) (by omega) (nv_of hv) hk) (hent := ent59) (k := ?_)
  refine da0 6 (k := ?_)
  refine dz 7 [0, 0, 2, 0, 14, 31, 63] (h := ?_)
  refine de 7 (h := ?_)
  repeat refine gwp_seq ?_
  refine gwp_ret ?_
  repeat (first | refine gthen_ret ?_ | refine gblock_ret ?_ | refine gnoGoto_ret ?_)
  refine fin_ret ?_
  refine fh [0] (hR := ?_)
  rfl
theorem ent60 : Enters Try.prog 60 := Enters.mk Try.func60 (by kernel_rfl) rfl
theorem s_first_clash {E : Env Try.prog} {A : E.α} (s : Sh) (hv : s.valid = true) (es : List (Nat × Bool)) (hk : known s (onN s) es) : Gh.Spec E 60 [.ptr [.p (.int .i64 s.num), .p (.list (s.sizes.map (.int .i64))), .p (.int .i64 s.lo), .p (.int .i64 s.hi), .p (.list (s.notes.map pn)), .p (.list (s.notes.map nt)), .p (.list ((onN s).map wP)), .map 0], .fn (.func 61) [] [.ptr [.ptr [.p (.int .i64 s.num), .p (.list (s.sizes.map (.int .i64))), .p (.int .i64 s.lo), .p (.int .i64 s.hi), .p (.list (s.notes.map pn)), .p (.list (s.notes.map nt)), .p (.list ((onN s).map wP)), .map 0]]]] (mkHp [(0, .map (mE es))]) A (fun y => ∃ es2, known s (onN s) es2 ∧ y = .ok (.p (firstS s.notes.length (clashP s))) (mkHp [(0, .map (mE es2))]) A) := by
  refine spec_of Try.func60 (rfl : Try.f60.body = some _) (Nat.le_of_ble_eq_true rfl) (fun id h => ?_) (fun j id h => ?_) ?_
  · exact wf1x h
  · exact wf2x h
  intro C hN hL
  replace hN : C.N = 35 := hN
  simp only [Gh.num, List.map_cons, List.map_nil, Nat.reduceAdd]
  have hn := valid_num hv
  have hm := onN_many s (by omega)
  have hev := everyN_lt (s := s) (by omega)
  have hpw : (2 : Nat) ^ s.notes.length ≤ 4096 := by have := every2 (s := s); omega
  have hev2 := every2 (s := s)
  have hw1 : IntKind.u64.wrap (((everyN s : Nat) : Int) + 1) = ((2 ^ s.notes.length : Nat) : Int) := by rw [← hev2]; exact IntWalk.u64_in _ (by omega)
  repeat refine gwp_seq ?_
  refine gwp_region ?_
  refine v0 (k := ?_)
  refine v0 (k := ?_)
  refine nil0 ?_
  refine cl [0, 1] (k := ?_)
  repeat refine gwp_seq ?_
  refine gwp_region ?_
  refine v0 (k := ?_)
  refine v0 (k := ?_)
  refine v0 (k := ?_)
  refine v0 (k := ?_)
  refine v0 (k := ?_)
  refine v1 (hc := by (first | exact True.intro | exact mE_ok _ _ | exact ⟨True.intro, mE_ok _ _⟩ | (simp only [inI]; omega) | (simp [P.size, nt, wP, pn, all_int, allOne_p, goods_p, allOne, goods, good, G.one, P.one, P.cells] <;> first | omega | assumption | simp_all))) (k := ?_)
  refine v0 (k := ?_)
  refine nil0 ?_
  refine cl [0, 1, 13, 14] (k := ?_)
  repeat refine gwp_seq ?_
  refine gwp_block ?_
  repeat refine gwp_seq ?_
  refine gc_loop (fun mz σ => ∃ (k : Nat) (es : List (Nat × Bool)), (k ≤ s.notes.length + 1) ∧ (known s (onN s) es) ∧ (nofs s.notes.length (clashP s) k) ∧ mz = s.notes.length + 1 - k ∧ σ = (sg [(0, .ptr [.p (.int .i64 s.num), .p (.list (s.sizes.map (.int .i64))), .p (.int .i64 s.lo), .p (.int .i64 s.hi), .p (.list (s.notes.map pn)), .p (.list (s.notes.map nt)), .p (.list ((onN s).map wP)), .map 0]), (1, .fn (.func 61) [] [.ptr [.ptr [.p (.int .i64 s.num), .p (.list (s.sizes.map (.int .i64))), .p (.int .i64 s.lo), .p (.int .i64 s.hi), .p (.list (s.notes.map pn)), .p (.list (s.notes.map nt)), .p (.list ((onN s).map wP)), .map 0]]]), (13, .p (.int .i64 (s.notes.length + 1))), (14, .p (.int .i64 k))] [(0, .map (mE es))] A [] : Sg E)) ?_ (fun mz σ hI => ?_)
  · refine lbeg [0, 1, 13, 14] (hV := ?_)
    exact ⟨_, 0, es, by omega, hk, nofs0 _ _, rfl, rfl⟩
  obtain ⟨k, es, hkl, hk, hnf, hnn, rfl⟩ := hI
  repeat refine gwp_seq ?_
  refine gwp_region ?_
  refine v0 (k := ?_)
  refine nil0 ?_
  repeat refine gwp_seq ?_
  refine cB (k1 := fun hb1 => ?_) (k0 := fun hb1 => ?_)
  · try simp only [decide_eq_true_eq, decide_eq_false_iff_not, Int.not_lt, Int.not_le, Bool.not_eq_eq_eq_not, Bool.not_true, Bool.not_false, Bool.and_eq_true, Bool.and_eq_false_iff, Bool.or_eq_true, Bool.or_eq_false_iff] at hb1
    try rw [eqI] at hb1
    repeat refine gwp_seq ?_
    refine gwp_skip ?_
    refine cl [0, 1, 13, 14] (k := ?_)
    repeat refine gwp_seq ?_
    refine gwp_block ?_
    repeat refine gwp_seq ?_
    refine gwp_region ?_
    refine v0 (k := ?_)
    refine v0 (k := ?_)
    refine nil0 ?_
    refine cl [0, 1, 6, 13, 14] (k := ?_)
    repeat refine gwp_seq ?_
    refine gwp_region ?_
    refine v0 (k := ?_)
    refine oc0 [] [] [9] none (spec := s_everyN s (by omega)) (hent := ent50) (k := ?_)
    refine v1 (hc := by (first | exact True.intro | exact mE_ok _ _ | exact ⟨True.intro, mE_ok _ _⟩ | (simp only [inI]; omega) | (simp [P.size, nt, wP, pn, all_int, allOne_p, goods_p, allOne, goods, good, G.one, P.one, P.cells] <;> first | omega | assumption | simp_all))) (k := ?_)
    refine v0 (k := ?_)
    refine nil0 ?_
    refine cl [0, 1, 6, 13, 14, 19, 20] (k := ?_)
    repeat refine gwp_seq ?_
    refine gwp_block ?_
    repeat refine gwp_seq ?_
    refine gc_loop (fun mz σ => ∃ (j : Nat) (es : List (Nat × Bool)), (j ≤ 2 ^ s.notes.length) ∧ (known s (onN s) es) ∧ (noft (clashP s) k j) ∧ mz = 2 ^ s.notes.length - j ∧ σ = (sg [(0, .ptr [.p (.int .i64 s.num), .p (.list (s.sizes.map (.int .i64))), .p (.int .i64 s.lo), .p (.int .i64 s.hi), .p (.list (s.notes.map pn)), .p (.list (s.notes.map nt)), .p (.list ((onN s).map wP)), .map 0]), (1, .fn (.func 61) [] [.ptr [.ptr [.p (.int .i64 s.num), .p (.list (s.sizes.map (.int .i64))), .p (.int .i64 s.lo), .p (.int .i64 s.hi), .p (.list (s.notes.map pn)), .p (.list (s.notes.map nt)), .p (.list ((onN s).map wP)), .map 0]]]), (6, .p (.int .i64 k)), (13, .p (.int .i64 (s.notes.length + 1))), (14, .p (.int .i64 k)), (19, .p (.int .u64 ((2 ^ s.notes.length : Nat) : Int))), (20, .p (.int .u64 j))] [(0, .map (mE es))] A [] : Sg E)) ?_ (fun mz σ hI => ?_)
    · refine lbeg [0, 1, 6, 13, 14, 19, 20] (hV := ?_)
      exact ⟨_, 0, es, by omega, hk, noft0 _ _, rfl, sgE (by first | rfl | (rw [hw1]; rfl)) rfl⟩
    obtain ⟨j, es, hjl, hk, hnt, hmm, rfl⟩ := hI
    have hwj : IntKind.u64.wrap ((j : Int) + 1) = (j : Int) + 1 := IntWalk.u64_in _ (by omega)
    repeat refine gwp_seq ?_
    refine gwp_region ?_
    refine v0 (k := ?_)
    refine nil0 ?_
    repeat refine gwp_seq ?_
    refine cB (k1 := fun hb2 => ?_) (k0 := fun hb2 => ?_)
    · try simp only [decide_eq_true_eq, decide_eq_false_iff_not, Int.not_lt, Int.not_le, Bool.not_eq_eq_eq_not, Bool.not_true, Bool.not_false, Bool.and_eq_true, Bool.and_eq_false_iff, Bool.or_eq_true, Bool.or_eq_false_iff] at hb2
      try rw [eqI] at hb2
      repeat refine gwp_seq ?_
      refine gwp_skip ?_
      refine cl [0, 1, 6, 13, 14, 19, 20] (k := ?_)
      repeat refine gwp_seq ?_
      refine gwp_block ?_
      repeat refine gwp_seq ?_
      refine gwp_region ?_
      refine v0 (k := ?_)
      refine v0 (k := ?_)
      refine nil0 ?_
      refine cl [0, 1, 6, 7, 13, 14, 19, 20] (k := ?_)
      repeat refine gwp_seq ?_
      refine gwp_region ?_
      refine v0 (k := ?_)
      refine pc0 (spec := s_size j (by omega)) (hent := ent73) (k := ?_)
      refine v0 (k := ?_)
      refine v0 (k := ?_)
      refine v0 (k := ?_)
      refine b0 (k1 := fun hb3 => ?_) (k0 := fun hb3 => ?_)
      · try simp only [decide_eq_true_eq, decide_eq_false_iff_not, Int.not_lt, Int.not_le, Bool.not_eq_eq_eq_not, Bool.not_true, Bool.not_false, Bool.and_eq_true, Bool.and_eq_false_iff, Bool.or_eq_true, Bool.or_eq_false_iff] at hb3
        try rw [eqI] at hb3
        refine w0 (k := ?_)
        refine w0 (k := ?_)
        refine ocw [(0, 0)] [] [0, 0] none (spec := s_is_clash j (by omega) s hv es hk) (hent := ent61) (k := ?_)
        refine v0 (k := ?_)
        refine nil0 ?_
        repeat refine gwp_seq ?_
        refine cB (k1 := fun hb4 => ?_) (k0 := fun hb4 => ?_)
        · try simp only [decide_eq_true_eq, decide_eq_false_iff_not, Int.not_lt, Int.not_le, Bool.not_eq_eq_eq_not, Bool.not_true, Bool.not_false, Bool.and_eq_true, Bool.and_eq_false_iff, Bool.or_eq_true, Bool.or_eq_false_iff] at hb4
          try rw [eqI] at hb4
          repeat refine gwp_seq ?_
          refine gwp_region ?_
          refine v0 (k := ?_)
          refine v0 (k := ?_)
          refine v0 (k := ?_)
          refine nil0 ?_
          repeat refine gwp_seq ?_
          refine gwp_ret ?_
          repeat (first | refine gthen_ret ?_ | refine gblock_ret ?_ | refine gnoGoto_ret ?_)
          refine fin_ret ?_
          refine fh2 [0] (hR := ?_)
          first
          | exact ⟨_, known_can hk _, by rw [firstS_some hnf hnt (by omega) (by omega) (by omega) hb4]⟩
          | (have hke : k = s.notes.length + 1 := by omega
             rw [hke] at hnf
             exact ⟨_, hk, by rw [firstS_none hnf]⟩)
        · try simp only [decide_eq_true_eq, decide_eq_false_iff_not, Int.not_lt, Int.not_le, Bool.not_eq_eq_eq_not, Bool.not_true, Bool.not_false, Bool.and_eq_true, Bool.and_eq_false_iff, Bool.or_eq_true, Bool.or_eq_false_iff] at hb4
          try rw [eqI] at hb4
          repeat refine gwp_seq ?_
          refine gwp_skip ?_
          refine cl [0, 1, 6, 13, 14, 19, 20] (k := ?_)
          repeat refine gwp_seq ?_
          refine gwp_region ?_
          refine v1 (hc := by (first | exact True.intro | exact mE_ok _ _ | exact ⟨True.intro, mE_ok _ _⟩ | (simp only [inI]; omega) | (simp [P.size, nt, wP, pn, all_int, allOne_p, goods_p, allOne, goods, good, G.one, P.one, P.cells] <;> first | omega | assumption | simp_all))) (k := ?_)
          refine v0 (k := ?_)
          refine nil0 ?_
          refine lend [0, 1, 6, 13, 14, 19, 20] (h := ?_) (hV := ?_) (n' := 2 ^ s.notes.length - (j + 1))
          · omega
          first
          | exact ⟨j + 1, _, by omega, known_can hk _, noft_not hnt hb4, rfl, sgE (by first | rfl | (rw [hwj]; rfl)) rfl⟩
          | exact ⟨j + 1, _, by omega, hk, noft_size hnt (by omega), rfl, sgE (by first | rfl | (rw [hwj]; rfl)) rfl⟩
      · try simp only [decide_eq_true_eq, decide_eq_false_iff_not, Int.not_lt, Int.not_le, Bool.not_eq_eq_eq_not, Bool.not_true, Bool.not_false, Bool.and_eq_true, Bool.and_eq_false_iff, Bool.or_eq_true, Bool.or_eq_false_iff] at hb3
        try rw [eqI] at hb3
        refine x0 (k := ?_)
        refine x0 (k := ?_)
        refine x0 (k := ?_)
        refine v0 (k := ?_)
        refine nil0 ?_
        repeat refine gwp_seq ?_
        refine cF (k := ?_)
        repeat refine gwp_seq ?_
        refine gwp_skip ?_
        refine cl [0, 1, 6, 13, 14, 19, 20] (k := ?_)
        repeat refine gwp_seq ?_
        refine gwp_region ?_
        refine v1 (hc := by (first | exact True.intro | exact mE_ok _ _ | exact ⟨True.intro, mE_ok _ _⟩ | (simp only [inI]; omega) | (simp [P.size, nt, wP, pn, all_int, allOne_p, goods_p, allOne, goods, good, G.one, P.one, P.cells] <;> first | omega | assumption | simp_all))) (k := ?_)
        refine v0 (k := ?_)
        refine nil0 ?_
        refine lend [0, 1, 6, 13, 14, 19, 20] (h := ?_) (hV := ?_) (n' := 2 ^ s.notes.length - (j + 1))
        · omega
        first
        | exact ⟨j + 1, _, by omega, known_can hk _, noft_not hnt hb4, rfl, sgE (by first | rfl | (rw [hwj]; rfl)) rfl⟩
        | exact ⟨j + 1, _, by omega, hk, noft_size hnt (by omega), rfl, sgE (by first | rfl | (rw [hwj]; rfl)) rfl⟩
    · try simp only [decide_eq_true_eq, decide_eq_false_iff_not, Int.not_lt, Int.not_le, Bool.not_eq_eq_eq_not, Bool.not_true, Bool.not_false, Bool.and_eq_true, Bool.and_eq_false_iff, Bool.or_eq_true, Bool.or_eq_false_iff] at hb2
      try rw [eqI] at hb2
      repeat refine gwp_seq ?_
      refine gwp_exit ?_
      repeat (first | refine gthen_exit ?_ | refine gnoGoto_exit ?_ | refine gblock_here ?_ | refine gblock_out rfl ?_)
      refine cl [0, 1, 13, 14] (k := ?_)
      repeat refine gwp_seq ?_
      refine gwp_region ?_
      refine v1 (hc := by (first | exact True.intro | exact mE_ok _ _ | exact ⟨True.intro, mE_ok _ _⟩ | (simp only [inI]; omega) | (simp [P.size, nt, wP, pn, all_int, allOne_p, goods_p, allOne, goods, good, G.one, P.one, P.cells] <;> first | omega | assumption | simp_all))) (k := ?_)
      refine v0 (k := ?_)
      refine nil0 ?_
      refine lend [0, 1, 13, 14] (h := ?_) (hV := ?_) (n' := s.notes.length + 1 - (k + 1))
      · omega
      have hje : j = 2 ^ s.notes.length := by omega
      rw [hje] at hnt
      exact ⟨k + 1, es, by omega, hk, nofs_next hnf hnt, rfl, rfl⟩
  · try simp only [decide_eq_true_eq, decide_eq_false_iff_not, Int.not_lt, Int.not_le, Bool.not_eq_eq_eq_not, Bool.not_true, Bool.not_false, Bool.and_eq_true, Bool.and_eq_false_iff, Bool.or_eq_true, Bool.or_eq_false_iff] at hb1
    try rw [eqI] at hb1
    repeat refine gwp_seq ?_
    refine gwp_exit ?_
    repeat (first | refine gthen_exit ?_ | refine gnoGoto_exit ?_ | refine gblock_here ?_ | refine gblock_out rfl ?_)
    refine cl [0] (k := ?_)
    repeat refine gwp_seq ?_
    refine gwp_region ?_
    refine v0 (k := ?_)
    refine v0 (k := ?_)
    refine nil0 ?_
    repeat refine gwp_seq ?_
    refine gwp_ret ?_
    repeat (first | refine gthen_ret ?_ | refine gblock_ret ?_ | refine gnoGoto_ret ?_)
    refine fin_ret ?_
    refine fh2 [0] (hR := ?_)
    first
    | exact ⟨_, known_can hk _, by rw [firstS_some hnf hnt (by omega) (by omega) (by omega) hb4]⟩
    | (have hke : k = s.notes.length + 1 := by omega
       rw [hke] at hnf
       exact ⟨_, hk, by rw [firstS_none hnf]⟩)
theorem s_first_drop {E : Env Try.prog} {A : E.α} (s : Sh) (hv : s.valid = true) (es : List (Nat × Bool)) (hk : known s (onN s) es) : Gh.Spec E 60 [.ptr [.p (.int .i64 s.num), .p (.list (s.sizes.map (.int .i64))), .p (.int .i64 s.lo), .p (.int .i64 s.hi), .p (.list (s.notes.map pn)), .p (.list (s.notes.map nt)), .p (.list ((onN s).map wP)), .map 0], .fn (.func 63) [] [.ptr [.fn (.func 59) [.ptr [.p (.int .i64 s.num), .p (.list (s.sizes.map (.int .i64))), .p (.int .i64 s.lo), .p (.int .i64 s.hi), .p (.list (s.notes.map pn)), .p (.list (s.notes.map nt)), .p (.list ((onN s).map wP)), .map 0]] []], .ptr [.ptr [.p (.int .i64 s.num), .p (.list (s.sizes.map (.int .i64))), .p (.int .i64 s.lo), .p (.int .i64 s.hi), .p (.list (s.notes.map pn)), .p (.list (s.notes.map nt)), .p (.list ((onN s).map wP)), .map 0]]]] (mkHp [(0, .map (mE es))]) A (fun y => ∃ es2, known s (onN s) es2 ∧ y = .ok (.p (firstS s.notes.length (dropP s))) (mkHp [(0, .map (mE es2))]) A) := by
  refine spec_of Try.func60 (rfl : Try.f60.body = some _) (Nat.le_of_ble_eq_true rfl) (fun id h => ?_) (fun j id h => ?_) ?_
  · exact wf1x h
  · exact wf2x h
  intro C hN hL
  replace hN : C.N = 35 := hN
  simp only [Gh.num, List.map_cons, List.map_nil, Nat.reduceAdd]
  have hn := valid_num hv
  have hm := onN_many s (by omega)
  have hev := everyN_lt (s := s) (by omega)
  have hpw : (2 : Nat) ^ s.notes.length ≤ 4096 := by have := every2 (s := s); omega
  have hev2 := every2 (s := s)
  have hw1 : IntKind.u64.wrap (((everyN s : Nat) : Int) + 1) = ((2 ^ s.notes.length : Nat) : Int) := by rw [← hev2]; exact IntWalk.u64_in _ (by omega)
  repeat refine gwp_seq ?_
  refine gwp_region ?_
  refine v0 (k := ?_)
  refine v0 (k := ?_)
  refine nil0 ?_
  refine cl [0, 1] (k := ?_)
  repeat refine gwp_seq ?_
  refine gwp_region ?_
  refine v0 (k := ?_)
  refine v0 (k := ?_)
  refine v0 (k := ?_)
  refine v0 (k := ?_)
  refine v0 (k := ?_)
  refine v1 (hc := by (first | exact True.intro | exact mE_ok _ _ | exact ⟨True.intro, mE_ok _ _⟩ | (simp only [inI]; omega) | (simp [P.size, nt, wP, pn, all_int, allOne_p, goods_p, allOne, goods, good, G.one, P.one, P.cells] <;> first | omega | assumption | simp_all))) (k := ?_)
  refine v0 (k := ?_)
  refine nil0 ?_
  refine cl [0, 1, 13, 14] (k := ?_)
  repeat refine gwp_seq ?_
  refine gwp_block ?_
  repeat refine gwp_seq ?_
  refine gc_loop (fun mz σ => ∃ (k : Nat) (es : List (Nat × Bool)), (k ≤ s.notes.length + 1) ∧ (known s (onN s) es) ∧ (nofs s.notes.length (dropP s) k) ∧ mz = s.notes.length + 1 - k ∧ σ = (sg [(0, .ptr [.p (.int .i64 s.num), .p (.list (s.sizes.map (.int .i64))), .p (.int .i64 s.lo), .p (.int .i64 s.hi), .p (.list (s.notes.map pn)), .p (.list (s.notes.map nt)), .p (.list ((onN s).map wP)), .map 0]), (1, .fn (.func 63) [] [.ptr [.fn (.func 59) [.ptr [.p (.int .i64 s.num), .p (.list (s.sizes.map (.int .i64))), .p (.int .i64 s.lo), .p (.int .i64 s.hi), .p (.list (s.notes.map pn)), .p (.list (s.notes.map nt)), .p (.list ((onN s).map wP)), .map 0]] []], .ptr [.ptr [.p (.int .i64 s.num), .p (.list (s.sizes.map (.int .i64))), .p (.int .i64 s.lo), .p (.int .i64 s.hi), .p (.list (s.notes.map pn)), .p (.list (s.notes.map nt)), .p (.list ((onN s).map wP)), .map 0]]]), (13, .p (.int .i64 (s.notes.length + 1))), (14, .p (.int .i64 k))] [(0, .map (mE es))] A [] : Sg E)) ?_ (fun mz σ hI => ?_)
  · refine lbeg [0, 1, 13, 14] (hV := ?_)
    exact ⟨_, 0, es, by omega, hk, nofs0 _ _, rfl, rfl⟩
  obtain ⟨k, es, hkl, hk, hnf, hnn, rfl⟩ := hI
  repeat refine gwp_seq ?_
  refine gwp_region ?_
  refine v0 (k := ?_)
  refine nil0 ?_
  repeat refine gwp_seq ?_
  refine cB (k1 := fun hb1 => ?_) (k0 := fun hb1 => ?_)
  · try simp only [decide_eq_true_eq, decide_eq_false_iff_not, Int.not_lt, Int.not_le, Bool.not_eq_eq_eq_not, Bool.not_true, Bool.not_false, Bool.and_eq_true, Bool.and_eq_false_iff, Bool.or_eq_true, Bool.or_eq_false_iff] at hb1
    try rw [eqI] at hb1
    repeat refine gwp_seq ?_
    refine gwp_skip ?_
    refine cl [0, 1, 13, 14] (k := ?_)
    repeat refine gwp_seq ?_
    refine gwp_block ?_
    repeat refine gwp_seq ?_
    refine gwp_region ?_
    refine v0 (k := ?_)
    refine v0 (k := ?_)
    refine nil0 ?_
    refine cl [0, 1, 6, 13, 14] (k := ?_)
    repeat refine gwp_seq ?_
    refine gwp_region ?_
    refine v0 (k := ?_)
    refine oc0 [] [] [9] none (spec := s_everyN s (by omega)) (hent := ent50) (k := ?_)
    refine v1 (hc := by (first | exact True.intro | exact mE_ok _ _ | exact ⟨True.intro, mE_ok _ _⟩ | (simp only [inI]; omega) | (simp [P.size, nt, wP, pn, all_int, allOne_p, goods_p, allOne, goods, good, G.one, P.one, P.cells] <;> first | omega | assumption | simp_all))) (k := ?_)
    refine v0 (k := ?_)
    refine nil0 ?_
    refine cl [0, 1, 6, 13, 14, 19, 20] (k := ?_)
    repeat refine gwp_seq ?_
    refine gwp_block ?_
    repeat refine gwp_seq ?_
    refine gc_loop (fun mz σ => ∃ (j : Nat) (es : List (Nat × Bool)), (j ≤ 2 ^ s.notes.length) ∧ (known s (onN s) es) ∧ (noft (dropP s) k j) ∧ mz = 2 ^ s.notes.length - j ∧ σ = (sg [(0, .ptr [.p (.int .i64 s.num), .p (.list (s.sizes.map (.int .i64))), .p (.int .i64 s.lo), .p (.int .i64 s.hi), .p (.list (s.notes.map pn)), .p (.list (s.notes.map nt)), .p (.list ((onN s).map wP)), .map 0]), (1, .fn (.func 63) [] [.ptr [.fn (.func 59) [.ptr [.p (.int .i64 s.num), .p (.list (s.sizes.map (.int .i64))), .p (.int .i64 s.lo), .p (.int .i64 s.hi), .p (.list (s.notes.map pn)), .p (.list (s.notes.map nt)), .p (.list ((onN s).map wP)), .map 0]] []], .ptr [.ptr [.p (.int .i64 s.num), .p (.list (s.sizes.map (.int .i64))), .p (.int .i64 s.lo), .p (.int .i64 s.hi), .p (.list (s.notes.map pn)), .p (.list (s.notes.map nt)), .p (.list ((onN s).map wP)), .map 0]]]), (6, .p (.int .i64 k)), (13, .p (.int .i64 (s.notes.length + 1))), (14, .p (.int .i64 k)), (19, .p (.int .u64 ((2 ^ s.notes.length : Nat) : Int))), (20, .p (.int .u64 j))] [(0, .map (mE es))] A [] : Sg E)) ?_ (fun mz σ hI => ?_)
    · refine lbeg [0, 1, 6, 13, 14, 19, 20] (hV := ?_)
      exact ⟨_, 0, es, by omega, hk, noft0 _ _, rfl, sgE (by first | rfl | (rw [hw1]; rfl)) rfl⟩
    obtain ⟨j, es, hjl, hk, hnt, hmm, rfl⟩ := hI
    have hwj : IntKind.u64.wrap ((j : Int) + 1) = (j : Int) + 1 := IntWalk.u64_in _ (by omega)
    repeat refine gwp_seq ?_
    refine gwp_region ?_
    refine v0 (k := ?_)
    refine nil0 ?_
    repeat refine gwp_seq ?_
    refine cB (k1 := fun hb2 => ?_) (k0 := fun hb2 => ?_)
    · try simp only [decide_eq_true_eq, decide_eq_false_iff_not, Int.not_lt, Int.not_le, Bool.not_eq_eq_eq_not, Bool.not_true, Bool.not_false, Bool.and_eq_true, Bool.and_eq_false_iff, Bool.or_eq_true, Bool.or_eq_false_iff] at hb2
      try rw [eqI] at hb2
      repeat refine gwp_seq ?_
      refine gwp_skip ?_
      refine cl [0, 1, 6, 13, 14, 19, 20] (k := ?_)
      repeat refine gwp_seq ?_
      refine gwp_block ?_
      repeat refine gwp_seq ?_
      refine gwp_region ?_
      refine v0 (k := ?_)
      refine v0 (k := ?_)
      refine nil0 ?_
      refine cl [0, 1, 6, 7, 13, 14, 19, 20] (k := ?_)
      repeat refine gwp_seq ?_
      refine gwp_region ?_
      refine v0 (k := ?_)
      refine pc0 (spec := s_size j (by omega)) (hent := ent73) (k := ?_)
      refine v0 (k := ?_)
      refine v0 (k := ?_)
      refine v0 (k := ?_)
      refine b0 (k1 := fun hb3 => ?_) (k0 := fun hb3 => ?_)
      · try simp only [decide_eq_true_eq, decide_eq_false_iff_not, Int.not_lt, Int.not_le, Bool.not_eq_eq_eq_not, Bool.not_true, Bool.not_false, Bool.and_eq_true, Bool.and_eq_false_iff, Bool.or_eq_true, Bool.or_eq_false_iff] at hb3
        try rw [eqI] at hb3
        refine w0 (k := ?_)
        refine w0 (k := ?_)
        refine ocw [(0, 0)] [] [0, 0, 0] none (spec := s_is_drop j (by omega) s hv es hk) (hent := ent63) (k := ?_)
        refine v0 (k := ?_)
        refine nil0 ?_
        repeat refine gwp_seq ?_
        refine cB (k1 := fun hb4 => ?_) (k0 := fun hb4 => ?_)
        · try simp only [decide_eq_true_eq, decide_eq_false_iff_not, Int.not_lt, Int.not_le, Bool.not_eq_eq_eq_not, Bool.not_true, Bool.not_false, Bool.and_eq_true, Bool.and_eq_false_iff, Bool.or_eq_true, Bool.or_eq_false_iff] at hb4
          try rw [eqI] at hb4
          repeat refine gwp_seq ?_
          refine gwp_region ?_
          refine v0 (k := ?_)
          refine v0 (k := ?_)
          refine v0 (k := ?_)
          refine nil0 ?_
          repeat refine gwp_seq ?_
          refine gwp_ret ?_
          repeat (first | refine gthen_ret ?_ | refine gblock_ret ?_ | refine gnoGoto_ret ?_)
          refine fin_ret ?_
          refine fh2 [0] (hR := ?_)
          first
          | exact ⟨_, known_can hk _, by rw [firstS_some hnf hnt (by omega) (by omega) (by omega) hb4]⟩
          | (have hke : k = s.notes.length + 1 := by omega
             rw [hke] at hnf
             exact ⟨_, hk, by rw [firstS_none hnf]⟩)
        · try simp only [decide_eq_true_eq, decide_eq_false_iff_not, Int.not_lt, Int.not_le, Bool.not_eq_eq_eq_not, Bool.not_true, Bool.not_false, Bool.and_eq_true, Bool.and_eq_false_iff, Bool.or_eq_true, Bool.or_eq_false_iff] at hb4
          try rw [eqI] at hb4
          repeat refine gwp_seq ?_
          refine gwp_skip ?_
          refine cl [0, 1, 6, 13, 14, 19, 20] (k := ?_)
          repeat refine gwp_seq ?_
          refine gwp_region ?_
          refine v1 (hc := by (first | exact True.intro | exact mE_ok _ _ | exact ⟨True.intro, mE_ok _ _⟩ | (simp only [inI]; omega) | (simp [P.size, nt, wP, pn, all_int, allOne_p, goods_p, allOne, goods, good, G.one, P.one, P.cells] <;> first | omega | assumption | simp_all))) (k := ?_)
          refine v0 (k := ?_)
          refine nil0 ?_
          refine lend [0, 1, 6, 13, 14, 19, 20] (h := ?_) (hV := ?_) (n' := 2 ^ s.notes.length - (j + 1))
          · omega
          first
          | exact ⟨j + 1, _, by omega, known_can hk _, noft_not hnt hb4, rfl, sgE (by first | rfl | (rw [hwj]; rfl)) rfl⟩
          | exact ⟨j + 1, _, by omega, hk, noft_size hnt (by omega), rfl, sgE (by first | rfl | (rw [hwj]; rfl)) rfl⟩
      · try simp only [decide_eq_true_eq, decide_eq_false_iff_not, Int.not_lt, Int.not_le, Bool.not_eq_eq_eq_not, Bool.not_true, Bool.not_false, Bool.and_eq_true, Bool.and_eq_false_iff, Bool.or_eq_true, Bool.or_eq_false_iff] at hb3
        try rw [eqI] at hb3
        refine x0 (k := ?_)
        refine x0 (k := ?_)
        refine x0 (k := ?_)
        refine v0 (k := ?_)
        refine nil0 ?_
        repeat refine gwp_seq ?_
        refine cF (k := ?_)
        repeat refine gwp_seq ?_
        refine gwp_skip ?_
        refine cl [0, 1, 6, 13, 14, 19, 20] (k := ?_)
        repeat refine gwp_seq ?_
        refine gwp_region ?_
        refine v1 (hc := by (first | exact True.intro | exact mE_ok _ _ | exact ⟨True.intro, mE_ok _ _⟩ | (simp only [inI]; omega) | (simp [P.size, nt, wP, pn, all_int, allOne_p, goods_p, allOne, goods, good, G.one, P.one, P.cells] <;> first | omega | assumption | simp_all))) (k := ?_)
        refine v0 (k := ?_)
        refine nil0 ?_
        refine lend [0, 1, 6, 13, 14, 19, 20] (h := ?_) (hV := ?_) (n' := 2 ^ s.notes.length - (j + 1))
        · omega
        first
        | exact ⟨j + 1, _, by omega, known_can hk _, noft_not hnt hb4, rfl, sgE (by first | rfl | (rw [hwj]; rfl)) rfl⟩
        | exact ⟨j + 1, _, by omega, hk, noft_size hnt (by omega), rfl, sgE (by first | rfl | (rw [hwj]; rfl)) rfl⟩
    · try simp only [decide_eq_true_eq, decide_eq_false_iff_not, Int.not_lt, Int.not_le, Bool.not_eq_eq_eq_not, Bool.not_true, Bool.not_false, Bool.and_eq_true, Bool.and_eq_false_iff, Bool.or_eq_true, Bool.or_eq_false_iff] at hb2
      try rw [eqI] at hb2
      repeat refine gwp_seq ?_
      refine gwp_exit ?_
      repeat (first | refine gthen_exit ?_ | refine gnoGoto_exit ?_ | refine gblock_here ?_ | refine gblock_out rfl ?_)
      refine cl [0, 1, 13, 14] (k := ?_)
      repeat refine gwp_seq ?_
      refine gwp_region ?_
      refine v1 (hc := by (first | exact True.intro | exact mE_ok _ _ | exact ⟨True.intro, mE_ok _ _⟩ | (simp only [inI]; omega) | (simp [P.size, nt, wP, pn, all_int, allOne_p, goods_p, allOne, goods, good, G.one, P.one, P.cells] <;> first | omega | assumption | simp_all))) (k := ?_)
      refine v0 (k := ?_)
      refine nil0 ?_
      refine lend [0, 1, 13, 14] (h := ?_) (hV := ?_) (n' := s.notes.length + 1 - (k + 1))
      · omega
      have hje : j = 2 ^ s.notes.length := by omega
      rw [hje] at hnt
      exact ⟨k + 1, es, by omega, hk, nofs_next hnf hnt, rfl, rfl⟩
  · try simp only [decide_eq_true_eq, decide_eq_false_iff_not, Int.not_lt, Int.not_le, Bool.not_eq_eq_eq_not, Bool.not_true, Bool.not_false, Bool.and_eq_true, Bool.and_eq_false_iff, Bool.or_eq_true, Bool.or_eq_false_iff] at hb1
    try rw [eqI] at hb1
    repeat refine gwp_seq ?_
    refine gwp_exit ?_
    repeat (first | refine gthen_exit ?_ | refine gnoGoto_exit ?_ | refine gblock_here ?_ | refine gblock_out rfl ?_)
    refine cl [0] (k := ?_)
    repeat refine gwp_seq ?_
    refine gwp_region ?_
    refine v0 (k := ?_)
    refine v0 (k := ?_)
    refine nil0 ?_
    repeat refine gwp_seq ?_
    refine gwp_ret ?_
    repeat (first | refine gthen_ret ?_ | refine gblock_ret ?_ | refine gnoGoto_ret ?_)
    refine fin_ret ?_
    refine fh2 [0] (hR := ?_)
    first
    | exact ⟨_, known_can hk _, by rw [firstS_some hnf hnt (by omega) (by omega) (by omega) hb4]⟩
    | (have hke : k = s.notes.length + 1 := by omega
       rw [hke] at hnf
       exact ⟨_, hk, by rw [firstS_none hnf]⟩)
theorem s_firstv_clash {E : Env Try.prog} {A : E.α} (s : Sh) (hv : s.valid = true) (es : List (Nat × Bool)) (hk : known s (onN s) es) : Gh.Spec E 60 [.ptr [.p (.int .i64 s.num), .p (.list (s.sizes.map (.int .i64))), .p (.int .i64 s.lo), .p (.int .i64 s.hi), .p (.list (s.notes.map pn)), .p (.list (s.notes.map nt)), .p (.list ((onN s).map wP)), .map 0], .fn (.func 61) [] [.ptr [.ptr [.p (.int .i64 s.num), .p (.list (s.sizes.map (.int .i64))), .p (.int .i64 s.lo), .p (.int .i64 s.hi), .p (.list (s.notes.map pn)), .p (.list (s.notes.map nt)), .p (.list ((onN s).map wP)), .map 0]]]] (mkHp [(0, .map (mE es))]) A (fun y => ∃ es2, known s (onN s) es2 ∧ y = .ok (.p (.tuple [.int .u64 (firstV s.notes.length (clashP s) : Int), .bool (firstB s.notes.length (clashP s))])) (mkHp [(0, .map (mE es2))]) A) := by
  have h := s_first_clash (E := E) (A := A) s hv es hk
  simp only [firstS_eq] at h
  exact h
theorem s_firstv_drop {E : Env Try.prog} {A : E.α} (s : Sh) (hv : s.valid = true) (es : List (Nat × Bool)) (hk : known s (onN s) es) : Gh.Spec E 60 [.ptr [.p (.int .i64 s.num), .p (.list (s.sizes.map (.int .i64))), .p (.int .i64 s.lo), .p (.int .i64 s.hi), .p (.list (s.notes.map pn)), .p (.list (s.notes.map nt)), .p (.list ((onN s).map wP)), .map 0], .fn (.func 63) [] [.ptr [.fn (.func 59) [.ptr [.p (.int .i64 s.num), .p (.list (s.sizes.map (.int .i64))), .p (.int .i64 s.lo), .p (.int .i64 s.hi), .p (.list (s.notes.map pn)), .p (.list (s.notes.map nt)), .p (.list ((onN s).map wP)), .map 0]] []], .ptr [.ptr [.p (.int .i64 s.num), .p (.list (s.sizes.map (.int .i64))), .p (.int .i64 s.lo), .p (.int .i64 s.hi), .p (.list (s.notes.map pn)), .p (.list (s.notes.map nt)), .p (.list ((onN s).map wP)), .map 0]]]] (mkHp [(0, .map (mE es))]) A (fun y => ∃ es2, known s (onN s) es2 ∧ y = .ok (.p (.tuple [.int .u64 (firstV s.notes.length (dropP s) : Int), .bool (firstB s.notes.length (dropP s))])) (mkHp [(0, .map (mE es2))]) A) := by
  have h := s_first_drop (E := E) (A := A) s hv es hk
  simp only [firstS_eq] at h
  exact h
end Go.Proofs.Ytedihdnkalmoiaa

/- The program: Clash and Drop. -/
namespace Go.Proofs.Ytedihdnkalmoiaa
open Go.Gh
set_option maxRecDepth 100000
set_option maxHeartbeats 4000000
theorem s_can0 {E : Env Try.prog} {A : E.α} (s : Sh) (hv : s.valid = true) : Gh.Spec E 59 [.ptr [.p (.int .i64 s.num), .p (.list (s.sizes.map (.int .i64))), .p (.int .i64 s.lo), .p (.int .i64 s.hi), .p (.list (s.notes.map pn)), .p (.list (s.notes.map nt)), .p (.list ((onN s).map wP)), .map 0], .p (.int .u64 0)] (mkHp [(0, .map [])]) A (fun y => y = .ok (.p (.bool (canB s (onN s) 0))) (mkHp [(0, .map (mE (canE s (onN s) [] 0)))]) A) := by
  have hn := valid_num hv
  have hm := onN_many s (by omega)
  exact s_can s 0 (onN s) [] (by omega) (onN_len8 s) (by omega) (by omega) (nv_of hv) (known_nil _ _)
theorem ent25 : Enters Try.prog 25 := Enters.mk Try.func25 (by kernel_rfl) rfl
theorem p_clash {E : Env Try.prog} {A : E.α} (s : Sh) (hv : s.valid = true) : Gh.Spec E 25 [.p (.agg [.int .i64 s.num, .list (s.sizes.map (.int .i64)), .int .i64 s.lo, .int .i64 s.hi, .list (s.notes.map pn)])] (mkHp []) A (fun y => y = .ok (.p (.tuple [.int .i64 (clashV s), .int .i64 0])) (mkHp []) A) := by
  refine specD_of Try.func25 (rfl : Try.f25.body = some _) (Nat.le_of_ble_eq_true rfl) (fun id h => ?_) (fun j id h => ?_) ?_
  · exact wf1x h
  · exact wf2x h
  intro C hN hL
  replace hN : C.N = 26 := hN
  simp only [Gh.num, List.map_cons, List.map_nil, Nat.reduceAdd]
  have hn := valid_num hv
  have hm := onN_many s (by omega)
  have hev := everyN_lt (s := s) (by omega)
  have hev2 := every2 (s := s)
  have hfv := firstV_lt s.notes.length (clashP s)
  repeat refine gwp_seq ?_
  refine gwp_region ?_
  refine n1 110 false (hc := by (first | exact True.intro | (simp only [inI]; omega) | (simp [P.size, nt, wP, pn, all_int, allOne_p, goods_p, allOne, goods, good, G.one, P.one, P.cells] <;> first | omega | assumption | simp_all))) (k := ?_)
  refine v0 (k := ?_)
  refine n1 130 false (hc := by (first | exact True.intro | (simp only [inI]; omega) | (simp [P.size, nt, wP, pn, all_int, allOne_p, goods_p, allOne, goods, good, G.one, P.one, P.cells] <;> first | omega | assumption | simp_all))) (k := ?_)
  refine nil0 ?_
  refine cl [1, 2, 3] (k := ?_)
  repeat refine gwp_seq ?_
  refine gwp_region ?_
  refine df0 (k := ?_)
  refine nil0 ?_
  refine cl [1, 2, 3] (k := ?_)
  repeat refine gwp_seq ?_
  refine gwp_region ?_
  refine v0 (k := ?_)
  refine oc0 [(640, 5000)] [] [1] none (spec := s_open_t s hv) (hent := ent43) (k := ?_)
  refine n1 140 false (hc := by (first | exact True.intro | (simp only [inI]; omega) | (simp [P.size, nt, wP, pn, all_int, allOne_p, goods_p, allOne, goods, good, G.one, P.one, P.cells] <;> first | omega | assumption | simp_all))) (k := ?_)
  refine s1 (hc := by (first | exact True.intro | (simp only [inI]; omega) | (simp [P.size, nt, wP, pn, all_int, allOne_p, goods_p, allOne, goods, good, G.one, P.one, P.cells] <;> first | omega | assumption | simp_all))) (k := ?_)
  refine nil0 ?_
  refine cl [2, 3, 4] (k := ?_)
  repeat refine gwp_seq ?_
  refine fz 140 1 [.k] (k := ?_)
  refine cv 4 (.n [.k]) (k := ?_)
  refine rd ?_
  refine d0 0 (k := ?_)
  refine doc0 1 [(0, 5000)] [] [0, 0] none (spec := s_can0 s hv) (hent := ent59) (k := ?_)
  refine d0 2 (k := ?_)
  refine d0 3 (k := ?_)
  refine db0 4 12 (k1 := fun hb1 => ?_) (k0 := fun hb1 => ?_)
  · try simp only [decide_eq_true_eq, decide_eq_false_iff_not, Int.not_lt, Int.not_le, Bool.not_eq_eq_eq_not, Bool.not_true, Bool.not_false, Bool.and_eq_true, Bool.and_eq_false_iff, Bool.or_eq_true, Bool.or_eq_false_iff] at hb1
    try rw [eqI] at hb1
    refine dx0 4 (k := ?_)
    refine dx0 5 (k := ?_)
    refine dx0 6 (k := ?_)
    refine dx0 7 (k := ?_)
    refine d0 8 (k := ?_)
    refine dz 9 [0, 1, 3, 7, 15, 15, 47, 127, 255] (h := ?_)
    refine de 9 (h := ?_)
    repeat refine gwp_seq ?_
    refine cT (k := ?_)
    repeat refine gwp_seq ?_
    refine gwp_region ?_
    refine v0 (k := ?_)
    refine s1 (hc := by (first | exact True.intro | (simp only [inI]; omega) | (simp [P.size, nt, wP, pn, all_int, allOne_p, goods_p, allOne, goods, good, G.one, P.one, P.cells] <;> first | omega | assumption | simp_all))) (k := ?_)
    refine nil0 ?_
    repeat refine gwp_seq ?_
    refine gwp_ret ?_
    repeat (first | refine gthen_ret ?_ | refine gblock_ret ?_ | refine gnoGoto_ret ?_)
    refine finD_ret ?_
    refine ocall [130] [(0, 130)] (spec := d_none 0) (hent := ent42) (h := ?_)
    refine out_nil ?_
    refine fp2 (hR := ?_)
    first
    | rw [clashV_1 hb1]; rfl
    | rw [clashV_2 hb2]; rfl
    | rw [clashV_3 hb1 hb2]
  · try simp only [decide_eq_true_eq, decide_eq_false_iff_not, Int.not_lt, Int.not_le, Bool.not_eq_eq_eq_not, Bool.not_true, Bool.not_false, Bool.and_eq_true, Bool.and_eq_false_iff, Bool.or_eq_true, Bool.or_eq_false_iff] at hb1
    try rw [eqI] at hb1
    refine dw0 4 (k := ?_)
    refine dw0 5 (k := ?_)
    refine docw 6 [] [] [9] none (spec := s_everyN s (by omega)) (hent := ent50) (j := 3) (b := false) (i' := 12) (k := ?_)
    refine docw 7 [(0, 5000)] [] [0, 0] none (spec := s_can s (everyN s) (onN s) (canE s (onN s) [] 0) (by omega) (onN_len8 s) (by omega) (by omega) (nv_of hv) (known_can (known_nil _ _) 0)) (hent := ent59) (j := 3) (b := false) (i' := 12) (k := ?_)
    refine d0 8 (k := ?_)
    refine dz 9 [0, 1, 3, 7, 15, 15, 47, 127, 255] (h := ?_)
    refine de 9 (h := ?_)
    repeat refine gwp_seq ?_
    refine cB (k1 := fun hb2 => ?_) (k0 := fun hb2 => ?_)
    · try simp only [decide_eq_true_eq, decide_eq_false_iff_not, Int.not_lt, Int.not_le, Bool.not_eq_eq_eq_not, Bool.not_true, Bool.not_false, Bool.and_eq_true, Bool.and_eq_false_iff, Bool.or_eq_true, Bool.or_eq_false_iff] at hb2
      try rw [eqI] at hb2
      repeat refine gwp_seq ?_
      refine gwp_region ?_
      refine v0 (k := ?_)
      refine s1 (hc := by (first | exact True.intro | (simp only [inI]; omega) | (simp [P.size, nt, wP, pn, all_int, allOne_p, goods_p, allOne, goods, good, G.one, P.one, P.cells] <;> first | omega | assumption | simp_all))) (k := ?_)
      refine nil0 ?_
      repeat refine gwp_seq ?_
      refine gwp_ret ?_
      repeat (first | refine gthen_ret ?_ | refine gblock_ret ?_ | refine gnoGoto_ret ?_)
      refine finD_ret ?_
      refine ocall [130] [(0, 130)] (spec := d_none 0) (hent := ent42) (h := ?_)
      refine out_nil ?_
      refine fp2 (hR := ?_)
      first
      | rw [clashV_1 hb1]; rfl
      | rw [clashV_2 hb2]; rfl
      | rw [clashV_3 hb1 hb2]
    · try simp only [decide_eq_true_eq, decide_eq_false_iff_not, Int.not_lt, Int.not_le, Bool.not_eq_eq_eq_not, Bool.not_true, Bool.not_false, Bool.and_eq_true, Bool.and_eq_false_iff, Bool.or_eq_true, Bool.or_eq_false_iff] at hb2
      try rw [eqI] at hb2
      repeat refine gwp_seq ?_
      refine gwp_skip ?_
      refine cl [2, 3, 4] (k := ?_)
      repeat refine gwp_seq ?_
      refine gwp_region ?_
      refine v0 (k := ?_)
      refine v0 (k := ?_)
      refine on0 [(0, 5000)] [] [0, 0] none (X := List (Nat × Bool)) (spec := s_firstv_clash s hv (canE s (onN s) (canE s (onN s) [] 0) (everyN s)) (known_can (known_can (known_nil _ _) 0) (everyN s))) (hent := ent60) (k := fun x hX => ?_)
      obtain ⟨es3, hk3⟩ : ∃ e : List (Nat × Bool), e = x := ⟨_, rfl⟩
      refine v0 (k := ?_)
      refine v0 (k := ?_)
      refine v0 (k := ?_)
      refine v0 (k := ?_)
      refine v0 (k := ?_)
      refine nil0 ?_
      refine cl [2, 3, 5] (k := ?_)
      repeat refine gwp_seq ?_
      refine gwp_region ?_
      refine v0 (k := ?_)
      refine v1 (hc := by (simp only [inI]; omega)) (k := ?_)
      refine v0 (k := ?_)
      refine s1 (hc := by (first | exact True.intro | (simp only [inI]; omega) | (simp [P.size, nt, wP, pn, all_int, allOne_p, goods_p, allOne, goods, good, G.one, P.one, P.cells] <;> first | omega | assumption | simp_all))) (k := ?_)
      refine nil0 ?_
      repeat refine gwp_seq ?_
      refine gwp_ret ?_
      repeat (first | refine gthen_ret ?_ | refine gblock_ret ?_ | refine gnoGoto_ret ?_)
      refine finD_ret ?_
      refine ocall [130] [(0, 130)] (spec := d_none 0) (hent := ent42) (h := ?_)
      refine out_nil ?_
      refine fp2 (hR := ?_)
      first
      | rw [clashV_1 hb1]; rfl
      | rw [clashV_2 hb2]; rfl
      | rw [clashV_3 hb1 hb2]
theorem p_clash_f {E : Env Try.prog} {A : E.α} (s : Sh) (h1 : s.sizes.length ≤ 1048576) (h2 : s.notes.length ≤ 1048576) (hv : s.valid = false) : Gh.Spec E 25 [.p (.agg [.int .i64 s.num, .list (s.sizes.map (.int .i64)), .int .i64 s.lo, .int .i64 s.hi, .list (s.notes.map pn)])] (mkHp []) A (fun y => y = .ok (.p (.tuple [.int .i64 0, .int .i64 1])) (mkHp []) A) := by
  refine specD_of Try.func25 (rfl : Try.f25.body = some _) (Nat.le_of_ble_eq_true rfl) (fun id h => ?_) (fun j id h => ?_) ?_
  · exact wf1x h
  · exact wf2x h
  intro C hN hL
  replace hN : C.N = 26 := hN
  simp only [Gh.num, List.map_cons, List.map_nil, Nat.reduceAdd]
  repeat refine gwp_seq ?_
  refine gwp_region ?_
  refine n1 110 false (hc := by (first | exact True.intro | (simp only [inI]; omega) | (simp [P.size, nt, wP, pn, all_int, allOne_p, goods_p, allOne, goods, good, G.one, P.one, P.cells] <;> first | omega | assumption | simp_all))) (k := ?_)
  refine v0 (k := ?_)
  refine n1 130 false (hc := by (first | exact True.intro | (simp only [inI]; omega) | (simp [P.size, nt, wP, pn, all_int, allOne_p, goods_p, allOne, goods, good, G.one, P.one, P.cells] <;> first | omega | assumption | simp_all))) (k := ?_)
  refine nil0 ?_
  refine cl [1, 2, 3] (k := ?_)
  repeat refine gwp_seq ?_
  refine gwp_region ?_
  refine df0 (k := ?_)
  refine nil0 ?_
  refine cl [1, 2, 3] (k := ?_)
  repeat refine gwp_seq ?_
  refine gwp_region ?_
  refine v0 (k := ?_)
  refine op0 [] [] [1] none (spec := s_open_f s h1 h2 hv) (hent := ent43) (k := ?_)
  repeat (first | refine gthen_panic ?_ | refine gblock_panic ?_)
  refine finD_panic ?_
  refine ocall [130] [(0, 130)] (spec := d_some 0 1) (hent := ent42) (h := ?_)
  refine out_nil ?_
  refine fp2 (hR := ?_)
  rfl
theorem ent27 : Enters Try.prog 27 := Enters.mk Try.func27 (by kernel_rfl) rfl
theorem p_drop {E : Env Try.prog} {A : E.α} (s : Sh) (hv : s.valid = true) : Gh.Spec E 27 [.p (.agg [.int .i64 s.num, .list (s.sizes.map (.int .i64)), .int .i64 s.lo, .int .i64 s.hi, .list (s.notes.map pn)])] (mkHp []) A (fun y => y = .ok (.p (.tuple [.int .i64 (dropV s), .int .i64 0])) (mkHp []) A) := by
  refine specD_of Try.func27 (rfl : Try.f27.body = some _) (Nat.le_of_ble_eq_true rfl) (fun id h => ?_) (fun j id h => ?_) ?_
  · exact wf1x h
  · exact wf2x h
  intro C hN hL
  replace hN : C.N = 23 := hN
  simp only [Gh.num, List.map_cons, List.map_nil, Nat.reduceAdd]
  have hn := valid_num hv
  have hm := onN_many s (by omega)
  have hev := everyN_lt (s := s) (by omega)
  have hev2 := every2 (s := s)
  have hfv := firstV_lt s.notes.length (dropP s)
  repeat refine gwp_seq ?_
  refine gwp_region ?_
  refine n1 110 false (hc := by (first | exact True.intro | (simp only [inI]; omega) | (simp [P.size, nt, wP, pn, all_int, allOne_p, goods_p, allOne, goods, good, G.one, P.one, P.cells] <;> first | omega | assumption | simp_all))) (k := ?_)
  refine v0 (k := ?_)
  refine n1 130 false (hc := by (first | exact True.intro | (simp only [inI]; omega) | (simp [P.size, nt, wP, pn, all_int, allOne_p, goods_p, allOne, goods, good, G.one, P.one, P.cells] <;> first | omega | assumption | simp_all))) (k := ?_)
  refine nil0 ?_
  refine cl [1, 2, 3] (k := ?_)
  repeat refine gwp_seq ?_
  refine gwp_region ?_
  refine df0 (k := ?_)
  refine nil0 ?_
  refine cl [1, 2, 3] (k := ?_)
  repeat refine gwp_seq ?_
  refine gwp_region ?_
  refine v0 (k := ?_)
  refine oc0 [(640, 5000)] [] [1] none (spec := s_open_t s hv) (hent := ent43) (k := ?_)
  refine n1 140 false (hc := by (first | exact True.intro | (simp only [inI]; omega) | (simp [P.size, nt, wP, pn, all_int, allOne_p, goods_p, allOne, goods, good, G.one, P.one, P.cells] <;> first | omega | assumption | simp_all))) (k := ?_)
  refine s1 (hc := by (first | exact True.intro | (simp only [inI]; omega) | (simp [P.size, nt, wP, pn, all_int, allOne_p, goods_p, allOne, goods, good, G.one, P.one, P.cells] <;> first | omega | assumption | simp_all))) (k := ?_)
  refine nil0 ?_
  refine cl [2, 3, 4] (k := ?_)
  repeat refine gwp_seq ?_
  refine fz 140 1 [.k] (k := ?_)
  refine cv 4 (.n [.k]) (k := ?_)
  refine gwp_region ?_
  refine v0 (k := ?_)
  refine oc0 [(0, 5000)] [] [0, 0] none (spec := s_can0 s hv) (hent := ent59) (k := ?_)
  refine v0 (k := ?_)
  refine nil0 ?_
  repeat refine gwp_seq ?_
  refine cB (k1 := fun hb1 => ?_) (k0 := fun hb1 => ?_)
  · try simp only [decide_eq_true_eq, decide_eq_false_iff_not, Int.not_lt, Int.not_le, Bool.not_eq_eq_eq_not, Bool.not_true, Bool.not_false, Bool.and_eq_true, Bool.and_eq_false_iff, Bool.or_eq_true, Bool.or_eq_false_iff] at hb1
    try rw [eqI] at hb1
    repeat refine gwp_seq ?_
    refine gwp_region ?_
    refine v0 (k := ?_)
    refine s1 (hc := by (first | exact True.intro | (simp only [inI]; omega) | (simp [P.size, nt, wP, pn, all_int, allOne_p, goods_p, allOne, goods, good, G.one, P.one, P.cells] <;> first | omega | assumption | simp_all))) (k := ?_)
    refine nil0 ?_
    repeat refine gwp_seq ?_
    refine gwp_ret ?_
    repeat (first | refine gthen_ret ?_ | refine gblock_ret ?_ | refine gnoGoto_ret ?_)
    refine finD_ret ?_
    refine ocall [130] [(0, 130)] (spec := d_none 0) (hent := ent42) (h := ?_)
    refine out_nil ?_
    refine fp2 (hR := ?_)
    first
    | rw [dropV_1 hb1]; rfl
    | rw [dropV_2 hb1]
  · try simp only [decide_eq_true_eq, decide_eq_false_iff_not, Int.not_lt, Int.not_le, Bool.not_eq_eq_eq_not, Bool.not_true, Bool.not_false, Bool.and_eq_true, Bool.and_eq_false_iff, Bool.or_eq_true, Bool.or_eq_false_iff] at hb1
    try rw [eqI] at hb1
    repeat refine gwp_seq ?_
    refine gwp_skip ?_
    refine cl [2, 3, 4] (k := ?_)
    repeat refine gwp_seq ?_
    refine gwp_region ?_
    refine v0 (k := ?_)
    refine v0 (k := ?_)
    refine n1 150 false (hc := by (first | exact True.intro | (simp only [inI]; omega) | (simp [P.size, nt, wP, pn, all_int, allOne_p, goods_p, allOne, goods, good, G.one, P.one, P.cells] <;> first | omega | assumption | simp_all))) (k := ?_)
    refine s1 (hc := by (first | exact True.intro | (simp only [inI]; omega) | (simp [P.size, nt, wP, pn, all_int, allOne_p, goods_p, allOne, goods, good, G.one, P.one, P.cells] <;> first | omega | assumption | simp_all))) (k := ?_)
    refine nil0 ?_
    refine cl [2, 3, 4, 5] (k := ?_)
    repeat refine gwp_seq ?_
    refine fz 150 1 [.k] (k := ?_)
    refine cv 5 (.n [.k]) (k := ?_)
    refine gwp_region ?_
    refine v0 (k := ?_)
    refine v0 (k := ?_)
    refine on0 [(0, 5000)] [] [0, 0] none (X := List (Nat × Bool)) (spec := s_firstv_drop s hv (canE s (onN s) [] 0) (known_can (known_nil _ _) 0)) (hent := ent60) (k := fun x hX => ?_)
    obtain ⟨es3, hk3⟩ : ∃ e : List (Nat × Bool), e = x := ⟨_, rfl⟩
    refine v0 (k := ?_)
    refine v0 (k := ?_)
    refine v0 (k := ?_)
    refine v0 (k := ?_)
    refine v0 (k := ?_)
    refine nil0 ?_
    refine cl [2, 3, 6] (k := ?_)
    repeat refine gwp_seq ?_
    refine gwp_region ?_
    refine v0 (k := ?_)
    refine v1 (hc := by (simp only [inI]; omega)) (k := ?_)
    refine v0 (k := ?_)
    refine s1 (hc := by (first | exact True.intro | (simp only [inI]; omega) | (simp [P.size, nt, wP, pn, all_int, allOne_p, goods_p, allOne, goods, good, G.one, P.one, P.cells] <;> first | omega | assumption | simp_all))) (k := ?_)
    refine nil0 ?_
    repeat refine gwp_seq ?_
    refine gwp_ret ?_
    repeat (first | refine gthen_ret ?_ | refine gblock_ret ?_ | refine gnoGoto_ret ?_)
    refine finD_ret ?_
    refine ocall [130] [(0, 130)] (spec := d_none 0) (hent := ent42) (h := ?_)
    refine out_nil ?_
    refine fp2 (hR := ?_)
    first
    | rw [dropV_1 hb1]; rfl
    | rw [dropV_2 hb1]
theorem p_drop_f {E : Env Try.prog} {A : E.α} (s : Sh) (h1 : s.sizes.length ≤ 1048576) (h2 : s.notes.length ≤ 1048576) (hv : s.valid = false) : Gh.Spec E 27 [.p (.agg [.int .i64 s.num, .list (s.sizes.map (.int .i64)), .int .i64 s.lo, .int .i64 s.hi, .list (s.notes.map pn)])] (mkHp []) A (fun y => y = .ok (.p (.tuple [.int .i64 0, .int .i64 1])) (mkHp []) A) := by
  refine specD_of Try.func27 (rfl : Try.f27.body = some _) (Nat.le_of_ble_eq_true rfl) (fun id h => ?_) (fun j id h => ?_) ?_
  · exact wf1x h
  · exact wf2x h
  intro C hN hL
  replace hN : C.N = 23 := hN
  simp only [Gh.num, List.map_cons, List.map_nil, Nat.reduceAdd]
  repeat refine gwp_seq ?_
  refine gwp_region ?_
  refine n1 110 false (hc := by (first | exact True.intro | (simp only [inI]; omega) | (simp [P.size, nt, wP, pn, all_int, allOne_p, goods_p, allOne, goods, good, G.one, P.one, P.cells] <;> first | omega | assumption | simp_all))) (k := ?_)
  refine v0 (k := ?_)
  refine n1 130 false (hc := by (first | exact True.intro | (simp only [inI]; omega) | (simp [P.size, nt, wP, pn, all_int, allOne_p, goods_p, allOne, goods, good, G.one, P.one, P.cells] <;> first | omega | assumption | simp_all))) (k := ?_)
  refine nil0 ?_
  refine cl [1, 2, 3] (k := ?_)
  repeat refine gwp_seq ?_
  refine gwp_region ?_
  refine df0 (k := ?_)
  refine nil0 ?_
  refine cl [1, 2, 3] (k := ?_)
  repeat refine gwp_seq ?_
  refine gwp_region ?_
  refine v0 (k := ?_)
  refine op0 [] [] [1] none (spec := s_open_f s h1 h2 hv) (hent := ent43) (k := ?_)
  repeat (first | refine gthen_panic ?_ | refine gblock_panic ?_)
  refine finD_panic ?_
  refine ocall [130] [(0, 130)] (spec := d_some 0 1) (hent := ent42) (h := ?_)
  refine out_nil ?_
  refine fp2 (hR := ?_)
  rfl
end Go.Proofs.Ytedihdnkalmoiaa
