/- What functions of the program return, each for every input that its theorem names. -/
import Derived.Test.YtagdholenfkeaaaB2
import Derived.Test.YtagdholenfkeaaaRows
set_option linter.unusedVariables false
set_option linter.unusedSimpArgs false
/- The program: Hands. -/
namespace Go.Proofs.Ytagdholenfkeaaa
open Go.Gh
set_option maxRecDepth 100000
set_option maxHeartbeats 4000000
structure kVq1 (c : Prop) : Prop where
  h : c := by (first | exact True.intro | (simp only [inI]; omega) | (simp [P.size, pr, pk, all_int, allOne_p, goods_p, allOne, goods, good, G.one, P.one, P.cells] <;> first | omega | assumption | simp_all))
/-- The set of the first ones of which something is so. -/
def setN (q : Nat → Bool) : Nat → Nat
  | 0 => 0
  | k + 1 => if q k = true then setN q k ||| 2 ^ k else setN q k
theorem setN_t {q : Nat → Bool} {k : Nat} (h : q k = true) : setN q (k + 1) = withN (setN q k) [k] := by rw [setN, if_pos h]; rfl
theorem setN_f {q : Nat → Bool} {k : Nat} (h : q k = false) : setN q (k + 1) = setN q k := by rw [setN, if_neg (by simp [h])]
theorem setN_lt (q : Nat → Bool) : ∀ k, k ≤ 8 → setN q k < 256
  | 0, _ => by simp [setN]
  | k + 1, hk => by
    have := setN_lt q k (by omega)
    have hx : 2 ^ k < 2 ^ 8 := Nat.pow_lt_pow_right (by omega) (by omega)
    simp only [setN]; split
    · exact Nat.or_lt_two_pow (n := 8) this hx
    · exact this
/-- Has a person surely had a plate? Can a person have had it? -/
def surQ (c : Ch) (x : Int) (u : Nat) : Bool := sureQ c x (namedN (selN x (allS c.rs.length) c.rs c.rs.length)) ((totV (D (eF c.kn (-1))) (stepsL (selN x (allS c.rs.length) c.rs c.rs.length))) + (c.ms - leastC c)) u
def canQ (c : Ch) (x : Int) (u : Nat) : Bool := (namedN (selN x (allS c.rs.length) c.rs c.rs.length)).testBit u || (stepsL (selN x (allS c.rs.length) c.rs c.rs.length)).any (viaQ (D (eF c.kn (-1))) (c.ms - leastC c) u)
theorem ent26 : Enters Try.prog 26 := Enters.mk Try.func26 (by kernel_rfl) rfl
theorem p_hands_r {E : Env Try.prog} {A : E.α} (c : Ch) (hv : c.valid = true) (x : Int) (hq : (inQ x c.pl) = false) : Gh.Spec E 26 [.p (.agg [.int .i64 c.pl, .int .i64 c.ps, .list (c.kn.map pk), .list (c.rs.map pr), .int .i64 c.ms]), .p (.int .i64 x)] (mkHp []) A (fun y => y = .ok (.p (.tuple [.int .i64 0, .int .i64 0, .int .i64 2])) (mkHp []) A) := by
  refine specD_of Try.func26 (rfl : Try.f26.body = some _) (Nat.le_of_ble_eq_true rfl) (fun id h => ?_) (fun j id h => ?_) ?_
  · exact wf1x h
  · exact wf2x h
  intro C hN hL
  replace hN : C.N = 77 := hN
  simp only [Gh.num, List.map_cons, List.map_nil, Nat.reduceAdd]
  repeat refine gwp_seq ?_
  refine gwp_region ?_
  refine n1 120 false (hc := kVq1.h {}) (k := ?_)
  refine n1 130 false (hc := kVq1.h {}) (k := ?_)
  refine v0 (k := ?_)
  refine v0 (k := ?_)
  refine n1 160 false (hc := kVq1.h {}) (k := ?_)
  refine nil0 ?_
  refine cl [2, 3, 4, 5, 6] (k := ?_)
  repeat refine gwp_seq ?_
  refine gwp_region ?_
  refine v0 (k := ?_)
  refine df0 (k := ?_)
  refine nil0 ?_
  refine cl [2, 3, 4, 5, 6] (k := ?_)
  repeat refine gwp_seq ?_
  refine fz 130 1 [.k] (k := ?_)
  refine gwp_region ?_
  refine v0 (k := ?_)
  refine v0 (k := ?_)
  refine ocv 19 (.f [.n [.k]]) (k := ?_)
  refine op0 [] [] [1, 0] none (spec := s_truth_r1 c 74 x (inQ x c.pl) (q_74 c hv x) ent74 hv hq) (hent := ent68) (k := ?_)
  repeat (first | refine gthen_panic ?_ | refine gblock_panic ?_)
  refine finD_panic ?_
  refine ocall [160] [(0, 160)] (spec := d_some73 0 2) (hent := ent73) (h := ?_)
  refine out_nil ?_
  refine fp3 (hR := ?_)
  rfl
theorem p_hands_f {E : Env Try.prog} {A : E.α} (c : Ch) (h1 : c.kn.length ≤ 1048576) (h2 : c.rs.length ≤ 1048576) (hv : c.valid = false) (x : Int) : Gh.Spec E 26 [.p (.agg [.int .i64 c.pl, .int .i64 c.ps, .list (c.kn.map pk), .list (c.rs.map pr), .int .i64 c.ms]), .p (.int .i64 x)] (mkHp []) A (fun y => y = .ok (.p (.tuple [.int .i64 0, .int .i64 0, .int .i64 1])) (mkHp []) A) := by
  refine specD_of Try.func26 (rfl : Try.f26.body = some _) (Nat.le_of_ble_eq_true rfl) (fun id h => ?_) (fun j id h => ?_) ?_
  · exact wf1x h
  · exact wf2x h
  intro C hN hL
  replace hN : C.N = 77 := hN
  simp only [Gh.num, List.map_cons, List.map_nil, Nat.reduceAdd]
  repeat refine gwp_seq ?_
  refine gwp_region ?_
  refine n1 120 false (hc := kVq1.h {}) (k := ?_)
  refine n1 130 false (hc := kVq1.h {}) (k := ?_)
  refine v0 (k := ?_)
  refine v0 (k := ?_)
  refine n1 160 false (hc := kVq1.h {}) (k := ?_)
  refine nil0 ?_
  refine cl [2, 3, 4, 5, 6] (k := ?_)
  repeat refine gwp_seq ?_
  refine gwp_region ?_
  refine v0 (k := ?_)
  refine df0 (k := ?_)
  refine nil0 ?_
  refine cl [2, 3, 4, 5, 6] (k := ?_)
  repeat refine gwp_seq ?_
  refine fz 130 1 [.k] (k := ?_)
  refine gwp_region ?_
  refine v0 (k := ?_)
  refine v0 (k := ?_)
  refine ocv 19 (.f [.n [.k]]) (k := ?_)
  refine op0 [] [] [1, 0] none (spec := s_truth_f1 c h1 h2 74 x hv) (hent := ent68) (k := ?_)
  repeat (first | refine gthen_panic ?_ | refine gblock_panic ?_)
  refine finD_panic ?_
  refine ocall [160] [(0, 160)] (spec := d_some73 0 1) (hent := ent73) (h := ?_)
  refine out_nil ?_
  refine fp3 (hR := ?_)
  rfl
theorem p_hands_c {E : Env Try.prog} {A : E.α} (c : Ch) (hv : c.valid = true) (x : Int) (hq : (inQ x c.pl) = true) (hc : ¬ leastC c ≤ c.ms) : Gh.Spec E 26 [.p (.agg [.int .i64 c.pl, .int .i64 c.ps, .list (c.kn.map pk), .list (c.rs.map pr), .int .i64 c.ms]), .p (.int .i64 x)] (mkHp []) A (fun y => y = .ok (.p (.tuple [.int .i64 0, .int .i64 0, .int .i64 10])) (mkHp []) A) := by
  refine specD_of Try.func26 (rfl : Try.f26.body = some _) (Nat.le_of_ble_eq_true rfl) (fun id h => ?_) (fun j id h => ?_) ?_
  · exact wf1x h
  · exact wf2x h
  intro C hN hL
  replace hN : C.N = 77 := hN
  simp only [Gh.num, List.map_cons, List.map_nil, Nat.reduceAdd]
  repeat refine gwp_seq ?_
  refine gwp_region ?_
  refine n1 120 false (hc := kVq1.h {}) (k := ?_)
  refine n1 130 false (hc := kVq1.h {}) (k := ?_)
  refine v0 (k := ?_)
  refine v0 (k := ?_)
  refine n1 160 false (hc := kVq1.h {}) (k := ?_)
  refine nil0 ?_
  refine cl [2, 3, 4, 5, 6] (k := ?_)
  repeat refine gwp_seq ?_
  refine gwp_region ?_
  refine v0 (k := ?_)
  refine df0 (k := ?_)
  refine nil0 ?_
  refine cl [2, 3, 4, 5, 6] (k := ?_)
  repeat refine gwp_seq ?_
  refine fz 130 1 [.k] (k := ?_)
  refine gwp_region ?_
  refine v0 (k := ?_)
  refine v0 (k := ?_)
  refine ocv 19 (.f [.n [.k]]) (k := ?_)
  refine op0 [] [] [1, 0] none (spec := s_truth_c1 c 74 x (inQ x c.pl) (q_74 c hv x) ent74 hv hq hc) (hent := ent68) (k := ?_)
  repeat (first | refine gthen_panic ?_ | refine gblock_panic ?_)
  refine finD_panic ?_
  refine ocall [160] [(0, 160)] (spec := d_some73 0 10) (hent := ent73) (h := ?_)
  refine out_nil ?_
  refine fp3 (hR := ?_)
  rfl
theorem p_hands_t {E : Env Try.prog} {A : E.α} (c : Ch) (hv : c.valid = true) (x : Int) (hq : (inQ x c.pl) = true) (hc : leastC c ≤ c.ms) : Gh.Spec E 26 [.p (.agg [.int .i64 c.pl, .int .i64 c.ps, .list (c.kn.map pk), .list (c.rs.map pr), .int .i64 c.ms]), .p (.int .i64 x)] (mkHp []) A (fun y => y = .ok (.p (.tuple [.int .i64 (setN (surQ c x) c.ps.toNat : Nat), .int .i64 (setN (canQ c x) c.ps.toNat : Nat), .int .i64 0])) (mkHp []) A) := by
  refine specD_of Try.func26 (rfl : Try.f26.body = some _) (Nat.le_of_ble_eq_true rfl) (fun id h => ?_) (fun j id h => ?_) ?_
  · exact wf1x h
  · exact wf2x h
  intro C hN hL
  replace hN : C.N = 77 := hN
  simp only [Gh.num, List.map_cons, List.map_nil, Nat.reduceAdd]
  have hn := valid_num hv
  have hlc := leastC_in hv
  have hal := allS_lt (n := c.rs.length) (by omega)
  have hsl := sel_le (p := x) (set := allS c.rs.length) (rs := c.rs) c.rs.length
  have hstl := steps_len (selN x (allS c.rs.length) c.rs c.rs.length)
  have hown := totV_in (D_ok (eF c.kn (-1))) (stepsL (selN x (allS c.rs.length) c.rs c.rs.length))
  have how : 0 ≤ (totV (D (eF c.kn (-1))) (stepsL (selN x (allS c.rs.length) c.rs c.rs.length))) ∧ (totV (D (eF c.kn (-1))) (stepsL (selN x (allS c.rs.length) c.rs c.rs.length))) ≤ 13631488 := by omega
  have hmo : 0 ≤ (c.ms - leastC c) ∧ (c.ms - leastC c) ≤ 20 := by omega
  have hst13 : (stepsL (selN x (allS c.rs.length) c.rs c.rs.length)).length ≤ 13 := by omega
  have hnm : (namedN (selN x (allS c.rs.length) c.rs c.rs.length)) < 256 := namedN_lt (sel_in (valid_in hv))
  have hsi := steps_in (sel_in (p := x) (set := allS c.rs.length) (k := c.rs.length) (valid_in hv))
  clear hstl hsl hown
  repeat refine gwp_seq ?_
  refine gwp_region ?_
  refine n1 120 false (hc := kVq1.h {}) (k := ?_)
  refine n1 130 false (hc := kVq1.h {}) (k := ?_)
  refine v0 (k := ?_)
  refine v0 (k := ?_)
  refine n1 160 false (hc := kVq1.h {}) (k := ?_)
  refine nil0 ?_
  refine cl [2, 3, 4, 5, 6] (k := ?_)
  repeat refine gwp_seq ?_
  refine gwp_region ?_
  refine v0 (k := ?_)
  refine df0 (k := ?_)
  refine nil0 ?_
  refine cl [2, 3, 4, 5, 6] (k := ?_)
  repeat refine gwp_seq ?_
  refine fz 130 1 [.k] (k := ?_)
  refine gwp_region ?_
  refine v0 (k := ?_)
  refine v0 (k := ?_)
  refine ocv 19 (.f [.n [.k]]) (k := ?_)
  refine oc0 [(300, 5000)] [] [1, 0] none (spec := s_truth_t1 c 74 x (inQ x c.pl) (q_74 c hv x) ent74 hv hq hc) (hent := ent68) (hgr := by (simp only [G.ren, G.rens, rens_p, Gh.look, Nat.reduceEqDiff, reduceIte] <;> rfl)) (k := ?_)
  refine v0 (k := ?_)
  refine v0 (k := ?_)
  refine v0 (k := ?_)
  refine n1 170 false (hc := kVq1.h {}) (k := ?_)
  refine n1 180 false (hc := kVq1.h {}) (k := ?_)
  refine s1 (hc := kVq1.h {}) (k := ?_)
  refine s1 (hc := kVq1.h {}) (k := ?_)
  refine nil0 ?_
  refine cl [3, 4, 5, 6, 7, 8] (k := ?_)
  repeat refine gwp_seq ?_
  refine rd ?_
  refine d0 0 (k := ?_)
  refine d0 1 (k := ?_)
  refine d0 2 (k := ?_)
  refine doc0 3 [] [] [7] none (spec := s_everyN (.int .i64 c.pl) (.int .i64 c.ps) (.list (c.kn.map pk)) c.rs (by omega)) (hent := ent55) (k := ?_)
  refine doc0 4 [] [] [7, 0, 0] none (spec := s_steps (.int .i64 c.pl) (.int .i64 c.ps) (.list (c.kn.map pk)) x (allS c.rs.length) c.rs hal (by omega) (valid_in hv)) (hent := ent75) (k := ?_)
  refine d0 5 (k := ?_)
  refine d0 6 (k := ?_)
  refine d0 7 (k := ?_)
  refine dn1 8 190 false (hc := kVq1.h {}) (k := ?_)
  refine dn1 9 200 false (hc := kVq1.h {}) (k := ?_)
  refine ds1 10 (hc := kVq1.h {}) (k := ?_)
  refine ds1 11 (hc := kVq1.h {}) (k := ?_)
  refine dz 12 [0, 0, 0, 4, 15, 31, 63, 63, 0, 0, 895, 2047] (h := ?_)
  refine de 12 (h := ?_)
  refine cl [3, 4, 5, 6, 7, 8, 9, 10] (k := ?_)
  repeat refine gwp_seq ?_
  refine rd ?_
  refine d0 0 (k := ?_)
  refine d0 1 (k := ?_)
  refine d0 2 (k := ?_)
  refine doc0 3 [] [] [7] none (spec := s_everyN (.int .i64 c.pl) (.int .i64 c.ps) (.list (c.kn.map pk)) c.rs (by omega)) (hent := ent55) (k := ?_)
  refine d0 4 (k := ?_)
  refine d0 5 (k := ?_)
  refine d0 6 (k := ?_)
  refine d0 7 (k := ?_)
  refine doc0 8 [] [] [7, 0, 0, 0] none (spec := s_total (D (eF c.kn (-1))) (D_ok _) (.int .i64 c.pl) (.int .i64 c.ps) (.list (c.kn.map pk)) x (allS c.rs.length) c.rs hal (by omega) (valid_in hv)) (hent := ent76) (k := ?_)
  refine dn1 9 210 false (hc := kVq1.h {}) (k := ?_)
  refine ds1 10 (hc := kVq1.h {}) (k := ?_)
  refine dz 11 [0, 0, 0, 4, 0, 16, 48, 112, 255, 0, 1023] (h := ?_)
  refine de 11 (h := ?_)
  refine cl [3, 4, 5, 6, 7, 8, 9, 10, 11] (k := ?_)
  repeat refine gwp_seq ?_
  refine fz 170 1 [.k] (k := ?_)
  refine fz 180 1 [.k] (k := ?_)
  refine fz 190 1 [.k] (k := ?_)
  refine fz 200 1 [.k] (k := ?_)
  refine fz 210 1 [.k] (k := ?_)
  refine cv 7 (.n [.n [.k, .k, .k, .k, .k, .k]]) (k := ?_)
  refine cv 10 (.n [.k]) (k := ?_)
  refine cv 3 (.n [.k]) (k := ?_)
  refine cv 11 (.n [.k]) (k := ?_)
  refine cv 8 (.n [.k]) (k := ?_)
  refine cv 9 (.n [.k]) (k := ?_)
  refine gwp_region ?_
  refine v0 (k := ?_)
  refine v0 (k := ?_)
  refine v0 (k := ?_)
  refine n1 220 false (hc := kVq1.h {}) (k := ?_)
  refine s1 (hc := kVq1.h {}) (k := ?_)
  refine nil0 ?_
  refine cl [4, 5, 6, 7, 10, 12] (k := ?_)
  repeat refine gwp_seq ?_
  refine gwp_region ?_
  refine v0 (k := ?_)
  refine v0 (k := ?_)
  refine nil0 ?_
  refine cl [4, 5, 6, 7, 10, 12, 13, 14] (k := ?_)
  repeat refine gwp_seq ?_
  refine gwp_region ?_
  refine v0 (k := ?_)
  refine v0 (k := ?_)
  refine v0 (k := ?_)
  refine v0 (k := ?_)
  refine v0 (k := ?_)
  refine v0 (k := ?_)
  refine nil0 ?_
  refine cl [4, 5, 6, 10, 12, 13, 14, 47, 48] (k := ?_)
  repeat refine gwp_seq ?_
  refine gwp_block ?_
  repeat refine gwp_seq ?_
  refine gc_loop (fun mz σ => ∃ k : Nat, ((k : Int) ≤ c.ps) ∧ mz = c.ps.toNat - k ∧ σ = (sg [(4, .p (.int .i64 0)), (5, .p (.int .i64 0)), (6, .ref 160 0), (10, .ptr [.p (.int .u64 ((namedN (selN x (allS c.rs.length) c.rs c.rs.length)) : Nat))]), (12, .ref 220 0), (13, .p (.int .u64 (setN (surQ c x) k : Nat))), (14, .p (.int .u64 (setN (canQ c x) k : Nat))), (47, .p (.int .i64 c.ps)), (48, .p (.int .i64 k))] [(160, .cells [.p (.int .i64 0)] 0), (220, .cells [.fn (.func 77) [] [.ptr [.p (.int .u64 ((namedN (selN x (allS c.rs.length) c.rs c.rs.length)) : Nat))], .ptr [.ptr [.p (.int .i64 c.pl), .p (.int .i64 c.ps), .p (.list (c.kn.map pk)), .p (.list (c.rs.map pr)), .p (.int .i64 c.ms), .ptr ((mat (D (eF c.kn (-1)))).map G.p)]], .ptr [.p (.int .i64 x)], .ptr [.p (.int .i64 (totV (D (eF c.kn (-1))) (stepsL (selN x (allS c.rs.length) c.rs c.rs.length))))], .ptr [.p (.int .i64 (c.ms - leastC c))]], .fn (.func 80) [] [.ptr [.p (.list ((stepsL (selN x (allS c.rs.length) c.rs c.rs.length)).map stP))], .ptr [.ptr [.p (.int .i64 c.pl), .p (.int .i64 c.ps), .p (.list (c.kn.map pk)), .p (.list (c.rs.map pr)), .p (.int .i64 c.ms), .ptr ((mat (D (eF c.kn (-1)))).map G.p)]], .ptr [.p (.int .i64 (c.ms - leastC c))]]] 0)] A [.call 73 [] [.ref 160 0]] : Sg E)) ?_ (fun mz σ hI => ?_)
  · refine lbeg [4, 5, 6, 10, 12, 13, 14, 47, 48] (hV := ?_)
    exact ⟨_, 0, by omega, rfl, rfl⟩
  obtain ⟨k, hk, hnn, rfl⟩ := hI
  have hs1 := setN_lt (surQ c x) k (by omega)
  have hs2 := setN_lt (canQ c x) k (by omega)
  repeat refine gwp_seq ?_
  refine gwp_region ?_
  refine v0 (k := ?_)
  refine nil0 ?_
  repeat refine gwp_seq ?_
  refine cB (k1 := fun hb1 => ?_) (k0 := fun hb1 => ?_)
  · replace hb1 := hB.h {} hb1
    try rw [eqI] at hb1
    repeat refine gwp_seq ?_
    refine gwp_skip ?_
    refine cl [4, 5, 6, 10, 12, 13, 14, 47, 48] (k := ?_)
    repeat refine gwp_seq ?_
    refine gwp_block ?_
    repeat refine gwp_seq ?_
    refine gwp_region ?_
    refine v0 (k := ?_)
    refine v0 (k := ?_)
    refine nil0 ?_
    refine cl [4, 5, 6, 10, 12, 13, 14, 15, 47, 48] (k := ?_)
    repeat refine gwp_seq ?_
    refine gwp_region ?_
    refine v0 (k := ?_)
    refine v0 (k := ?_)
    refine v0 (k := ?_)
    refine oc0 [] [] [0, 0, 0, 0, 0, 0] none (spec := s_surely c hv x (totV (D (eF c.kn (-1))) (stepsL (selN x (allS c.rs.length) c.rs c.rs.length))) (c.ms - leastC c) how hmo (namedN (selN x (allS c.rs.length) c.rs c.rs.length)) k hnm (by omega)) (hent := ent77) (k := ?_)
    refine nil0 ?_
    repeat refine gwp_seq ?_
    refine cB (k1 := fun hb2 => ?_) (k0 := fun hb2 => ?_)
    · replace hb2 := hB.h {} hb2
      try rw [eqI] at hb2
      repeat refine gwp_seq ?_
      refine gwp_region ?_
      refine v0 (k := ?_)
      refine v0 (k := ?_)
      refine n1 670 false (hc := kVq1.h {}) (k := ?_)
      refine pc0 (spec := s_with (setN (surQ c x) k) [k] hs1 (by simp; omega) (by simp)) (hent := ent83) (k := ?_)
      refine v0 (k := ?_)
      refine nil0 ?_
      refine cl [4, 5, 6, 10, 12, 13, 14, 15, 47, 48] (k := ?_)
      repeat refine gwp_seq ?_
      refine gwp_region ?_
      refine v0 (k := ?_)
      refine v0 (k := ?_)
      refine pc0 (spec := s_hasp (namedN (selN x (allS c.rs.length) c.rs c.rs.length)) k (by omega) (by omega)) (hent := ent78) (k := ?_)
      refine v0 (k := ?_)
      refine b0 (k1 := fun hb3 => ?_) (k0 := fun hb3 => ?_)
      · replace hb3 := hB.h {} hb3
        try rw [eqI] at hb3
        refine x0 (k := ?_)
        refine x0 (k := ?_)
        refine x0 (k := ?_)
        refine x0 (k := ?_)
        refine v0 (k := ?_)
        refine nil0 ?_
        repeat refine gwp_seq ?_
        refine cT (k := ?_)
        repeat refine gwp_seq ?_
        refine gwp_region ?_
        refine v0 (k := ?_)
        refine v0 (k := ?_)
        refine n1 800 false (hc := kVq1.h {}) (k := ?_)
        refine pc0 (spec := s_with (setN (canQ c x) k) [k] hs2 (by simp; omega) (by simp)) (hent := ent83) (k := ?_)
        refine v0 (k := ?_)
        refine nil0 ?_
        refine cl [4, 5, 6, 10, 12, 13, 14, 47, 48] (k := ?_)
        repeat refine gwp_seq ?_
        refine gwp_region ?_
        refine v1 (hc := kVq1.h {}) (k := ?_)
        refine v0 (k := ?_)
        refine nil0 ?_
        refine lend [4, 5, 6, 10, 12, 13, 14, 47, 48] (h := ?_) (hV := ?_) (n' := c.ps.toNat - (k + 1))
        · omega
        first
        | exact ⟨k + 1, by omega, rfl, sgE (by rw [setN_t (q := surQ c x) (k := k) (by simp only [surQ]; assumption), setN_t (q := canQ c x) (k := k) (by simp only [canQ, *, Bool.true_or, Bool.false_or])]; rfl) rfl⟩
        | exact ⟨k + 1, by omega, rfl, sgE (by rw [setN_t (q := surQ c x) (k := k) (by simp only [surQ]; assumption), setN_f (q := canQ c x) (k := k) (by simp only [canQ, *, Bool.true_or, Bool.false_or])]; rfl) rfl⟩
        | exact ⟨k + 1, by omega, rfl, sgE (by rw [setN_f (q := surQ c x) (k := k) (by simp only [surQ]; assumption), setN_t (q := canQ c x) (k := k) (by simp only [canQ, *, Bool.true_or, Bool.false_or])]; rfl) rfl⟩
        | exact ⟨k + 1, by omega, rfl, sgE (by rw [setN_f (q := surQ c x) (k := k) (by simp only [surQ]; assumption), setN_f (q := canQ c x) (k := k) (by simp only [canQ, *, Bool.true_or, Bool.false_or])]; rfl) rfl⟩
      · replace hb3 := hB.h {} hb3
        try rw [eqI] at hb3
        refine w0 (k := ?_)
        refine w0 (k := ?_)
        refine w0 (k := ?_)
        refine ocw [] [] [0, 0, 0, 0] none (spec := s_can c (D (eF c.kn (-1))) (D_ok _) (c.ms - leastC c) hmo k (by omega) (stepsL (selN x (allS c.rs.length) c.rs c.rs.length)) hst13 hsi) (hent := ent80) (k := ?_)
        refine v0 (k := ?_)
        refine nil0 ?_
        repeat refine gwp_seq ?_
        refine cB (k1 := fun hb4 => ?_) (k0 := fun hb4 => ?_)
        · replace hb4 := hB.h {} hb4
          try rw [eqI] at hb4
          repeat refine gwp_seq ?_
          refine gwp_region ?_
          refine v0 (k := ?_)
          refine v0 (k := ?_)
          refine n1 800 false (hc := kVq1.h {}) (k := ?_)
          refine pc0 (spec := s_with (setN (canQ c x) k) [k] hs2 (by simp; omega) (by simp)) (hent := ent83) (k := ?_)
          refine v0 (k := ?_)
          refine nil0 ?_
          refine cl [4, 5, 6, 10, 12, 13, 14, 47, 48] (k := ?_)
          repeat refine gwp_seq ?_
          refine gwp_region ?_
          refine v1 (hc := kVq1.h {}) (k := ?_)
          refine v0 (k := ?_)
          refine nil0 ?_
          refine lend [4, 5, 6, 10, 12, 13, 14, 47, 48] (h := ?_) (hV := ?_) (n' := c.ps.toNat - (k + 1))
          · omega
          first
          | exact ⟨k + 1, by omega, rfl, sgE (by rw [setN_t (q := surQ c x) (k := k) (by simp only [surQ]; assumption), setN_t (q := canQ c x) (k := k) (by simp only [canQ, *, Bool.true_or, Bool.false_or])]; rfl) rfl⟩
          | exact ⟨k + 1, by omega, rfl, sgE (by rw [setN_t (q := surQ c x) (k := k) (by simp only [surQ]; assumption), setN_f (q := canQ c x) (k := k) (by simp only [canQ, *, Bool.true_or, Bool.false_or])]; rfl) rfl⟩
          | exact ⟨k + 1, by omega, rfl, sgE (by rw [setN_f (q := surQ c x) (k := k) (by simp only [surQ]; assumption), setN_t (q := canQ c x) (k := k) (by simp only [canQ, *, Bool.true_or, Bool.false_or])]; rfl) rfl⟩
          | exact ⟨k + 1, by omega, rfl, sgE (by rw [setN_f (q := surQ c x) (k := k) (by simp only [surQ]; assumption), setN_f (q := canQ c x) (k := k) (by simp only [canQ, *, Bool.true_or, Bool.false_or])]; rfl) rfl⟩
        · replace hb4 := hB.h {} hb4
          try rw [eqI] at hb4
          repeat refine gwp_seq ?_
          refine gwp_skip ?_
          refine cl [4, 5, 6, 10, 12, 13, 14, 47, 48] (k := ?_)
          repeat refine gwp_seq ?_
          refine gwp_region ?_
          refine v1 (hc := kVq1.h {}) (k := ?_)
          refine v0 (k := ?_)
          refine nil0 ?_
          refine lend [4, 5, 6, 10, 12, 13, 14, 47, 48] (h := ?_) (hV := ?_) (n' := c.ps.toNat - (k + 1))
          · omega
          first
          | exact ⟨k + 1, by omega, rfl, sgE (by rw [setN_t (q := surQ c x) (k := k) (by simp only [surQ]; assumption), setN_t (q := canQ c x) (k := k) (by simp only [canQ, *, Bool.true_or, Bool.false_or])]; rfl) rfl⟩
          | exact ⟨k + 1, by omega, rfl, sgE (by rw [setN_t (q := surQ c x) (k := k) (by simp only [surQ]; assumption), setN_f (q := canQ c x) (k := k) (by simp only [canQ, *, Bool.true_or, Bool.false_or])]; rfl) rfl⟩
          | exact ⟨k + 1, by omega, rfl, sgE (by rw [setN_f (q := surQ c x) (k := k) (by simp only [surQ]; assumption), setN_t (q := canQ c x) (k := k) (by simp only [canQ, *, Bool.true_or, Bool.false_or])]; rfl) rfl⟩
          | exact ⟨k + 1, by omega, rfl, sgE (by rw [setN_f (q := surQ c x) (k := k) (by simp only [surQ]; assumption), setN_f (q := canQ c x) (k := k) (by simp only [canQ, *, Bool.true_or, Bool.false_or])]; rfl) rfl⟩
    · replace hb2 := hB.h {} hb2
      try rw [eqI] at hb2
      repeat refine gwp_seq ?_
      refine gwp_skip ?_
      refine cl [4, 5, 6, 10, 12, 13, 14, 15, 47, 48] (k := ?_)
      repeat refine gwp_seq ?_
      refine gwp_region ?_
      refine v0 (k := ?_)
      refine v0 (k := ?_)
      refine pc0 (spec := s_hasp (namedN (selN x (allS c.rs.length) c.rs c.rs.length)) k (by omega) (by omega)) (hent := ent78) (k := ?_)
      refine v0 (k := ?_)
      refine b0 (k1 := fun hb5 => ?_) (k0 := fun hb5 => ?_)
      · replace hb5 := hB.h {} hb5
        try rw [eqI] at hb5
        refine x0 (k := ?_)
        refine x0 (k := ?_)
        refine x0 (k := ?_)
        refine x0 (k := ?_)
        refine v0 (k := ?_)
        refine nil0 ?_
        repeat refine gwp_seq ?_
        refine cT (k := ?_)
        repeat refine gwp_seq ?_
        refine gwp_region ?_
        refine v0 (k := ?_)
        refine v0 (k := ?_)
        refine n1 800 false (hc := kVq1.h {}) (k := ?_)
        refine pc0 (spec := s_with (setN (canQ c x) k) [k] hs2 (by simp; omega) (by simp)) (hent := ent83) (k := ?_)
        refine v0 (k := ?_)
        refine nil0 ?_
        refine cl [4, 5, 6, 10, 12, 13, 14, 47, 48] (k := ?_)
        repeat refine gwp_seq ?_
        refine gwp_region ?_
        refine v1 (hc := kVq1.h {}) (k := ?_)
        refine v0 (k := ?_)
        refine nil0 ?_
        refine lend [4, 5, 6, 10, 12, 13, 14, 47, 48] (h := ?_) (hV := ?_) (n' := c.ps.toNat - (k + 1))
        · omega
        first
        | exact ⟨k + 1, by omega, rfl, sgE (by rw [setN_t (q := surQ c x) (k := k) (by simp only [surQ]; assumption), setN_t (q := canQ c x) (k := k) (by simp only [canQ, *, Bool.true_or, Bool.false_or])]; rfl) rfl⟩
        | exact ⟨k + 1, by omega, rfl, sgE (by rw [setN_t (q := surQ c x) (k := k) (by simp only [surQ]; assumption), setN_f (q := canQ c x) (k := k) (by simp only [canQ, *, Bool.true_or, Bool.false_or])]; rfl) rfl⟩
        | exact ⟨k + 1, by omega, rfl, sgE (by rw [setN_f (q := surQ c x) (k := k) (by simp only [surQ]; assumption), setN_t (q := canQ c x) (k := k) (by simp only [canQ, *, Bool.true_or, Bool.false_or])]; rfl) rfl⟩
        | exact ⟨k + 1, by omega, rfl, sgE (by rw [setN_f (q := surQ c x) (k := k) (by simp only [surQ]; assumption), setN_f (q := canQ c x) (k := k) (by simp only [canQ, *, Bool.true_or, Bool.false_or])]; rfl) rfl⟩
      · replace hb5 := hB.h {} hb5
        try rw [eqI] at hb5
        refine w0 (k := ?_)
        refine w0 (k := ?_)
        refine w0 (k := ?_)
        refine ocw [] [] [0, 0, 0, 0] none (spec := s_can c (D (eF c.kn (-1))) (D_ok _) (c.ms - leastC c) hmo k (by omega) (stepsL (selN x (allS c.rs.length) c.rs c.rs.length)) hst13 hsi) (hent := ent80) (k := ?_)
        refine v0 (k := ?_)
        refine nil0 ?_
        repeat refine gwp_seq ?_
        refine cB (k1 := fun hb6 => ?_) (k0 := fun hb6 => ?_)
        · replace hb6 := hB.h {} hb6
          try rw [eqI] at hb6
          repeat refine gwp_seq ?_
          refine gwp_region ?_
          refine v0 (k := ?_)
          refine v0 (k := ?_)
          refine n1 800 false (hc := kVq1.h {}) (k := ?_)
          refine pc0 (spec := s_with (setN (canQ c x) k) [k] hs2 (by simp; omega) (by simp)) (hent := ent83) (k := ?_)
          refine v0 (k := ?_)
          refine nil0 ?_
          refine cl [4, 5, 6, 10, 12, 13, 14, 47, 48] (k := ?_)
          repeat refine gwp_seq ?_
          refine gwp_region ?_
          refine v1 (hc := kVq1.h {}) (k := ?_)
          refine v0 (k := ?_)
          refine nil0 ?_
          refine lend [4, 5, 6, 10, 12, 13, 14, 47, 48] (h := ?_) (hV := ?_) (n' := c.ps.toNat - (k + 1))
          · omega
          first
          | exact ⟨k + 1, by omega, rfl, sgE (by rw [setN_t (q := surQ c x) (k := k) (by simp only [surQ]; assumption), setN_t (q := canQ c x) (k := k) (by simp only [canQ, *, Bool.true_or, Bool.false_or])]; rfl) rfl⟩
          | exact ⟨k + 1, by omega, rfl, sgE (by rw [setN_t (q := surQ c x) (k := k) (by simp only [surQ]; assumption), setN_f (q := canQ c x) (k := k) (by simp only [canQ, *, Bool.true_or, Bool.false_or])]; rfl) rfl⟩
          | exact ⟨k + 1, by omega, rfl, sgE (by rw [setN_f (q := surQ c x) (k := k) (by simp only [surQ]; assumption), setN_t (q := canQ c x) (k := k) (by simp only [canQ, *, Bool.true_or, Bool.false_or])]; rfl) rfl⟩
          | exact ⟨k + 1, by omega, rfl, sgE (by rw [setN_f (q := surQ c x) (k := k) (by simp only [surQ]; assumption), setN_f (q := canQ c x) (k := k) (by simp only [canQ, *, Bool.true_or, Bool.false_or])]; rfl) rfl⟩
        · replace hb6 := hB.h {} hb6
          try rw [eqI] at hb6
          repeat refine gwp_seq ?_
          refine gwp_skip ?_
          refine cl [4, 5, 6, 10, 12, 13, 14, 47, 48] (k := ?_)
          repeat refine gwp_seq ?_
          refine gwp_region ?_
          refine v1 (hc := kVq1.h {}) (k := ?_)
          refine v0 (k := ?_)
          refine nil0 ?_
          refine lend [4, 5, 6, 10, 12, 13, 14, 47, 48] (h := ?_) (hV := ?_) (n' := c.ps.toNat - (k + 1))
          · omega
          first
          | exact ⟨k + 1, by omega, rfl, sgE (by rw [setN_t (q := surQ c x) (k := k) (by simp only [surQ]; assumption), setN_t (q := canQ c x) (k := k) (by simp only [canQ, *, Bool.true_or, Bool.false_or])]; rfl) rfl⟩
          | exact ⟨k + 1, by omega, rfl, sgE (by rw [setN_t (q := surQ c x) (k := k) (by simp only [surQ]; assumption), setN_f (q := canQ c x) (k := k) (by simp only [canQ, *, Bool.true_or, Bool.false_or])]; rfl) rfl⟩
          | exact ⟨k + 1, by omega, rfl, sgE (by rw [setN_f (q := surQ c x) (k := k) (by simp only [surQ]; assumption), setN_t (q := canQ c x) (k := k) (by simp only [canQ, *, Bool.true_or, Bool.false_or])]; rfl) rfl⟩
          | exact ⟨k + 1, by omega, rfl, sgE (by rw [setN_f (q := surQ c x) (k := k) (by simp only [surQ]; assumption), setN_f (q := canQ c x) (k := k) (by simp only [canQ, *, Bool.true_or, Bool.false_or])]; rfl) rfl⟩
  · replace hb1 := hB.h {} hb1
    try rw [eqI] at hb1
    repeat refine gwp_seq ?_
    refine gwp_exit ?_
    repeat (first | refine gthen_exit ?_ | refine gnoGoto_exit ?_ | refine gblock_here ?_ | refine gblock_out rfl ?_)
    refine cl [4, 5, 6, 13, 14] (k := ?_)
    repeat refine gwp_seq ?_
    refine gwp_region ?_
    refine v0 (k := ?_)
    refine v1 (hc := kVq1.h {}) (k := ?_)
    refine v0 (k := ?_)
    refine v1 (hc := kVq1.h {}) (k := ?_)
    refine v0 (k := ?_)
    refine v0 (k := ?_)
    refine s1 (hc := kVq1.h {}) (k := ?_)
    refine nil0 ?_
    repeat refine gwp_seq ?_
    refine gwp_ret ?_
    repeat (first | refine gthen_ret ?_ | refine gblock_ret ?_ | refine gnoGoto_ret ?_)
    refine finD_ret ?_
    have hke : k = c.ps.toNat := by omega
    refine ocall [160] [(0, 160)] (spec := d_none73 0) (hent := ent73) (h := ?_)
    refine out_nil ?_
    subst hke
    refine fp3 (hR := ?_)
    rfl
end Go.Proofs.Ytagdholenfkeaaa

/- The program: Drop. -/
namespace Go.Proofs.Ytagdholenfkeaaa
open Go.Gh
set_option maxRecDepth 100000
set_option maxHeartbeats 4000000
structure kVm1 (c : Prop) : Prop where
  h : c := by (first | exact True.intro | (simp only [inI]; omega) | (simp [P.size, pr, pk, all_int, allOne_p, goods_p, allOne, goods, good, G.one, P.one, P.cells] <;> first | omega | assumption | simp_all))
/-- What is left of all records without some. -/
def restS (n s : Nat) : Nat := allS n &&& (2 ^ 64 - 1 - s)
theorem restS_lt {n s : Nat} (h : n ≤ 12) : restS n s < 4096 := Nat.lt_of_le_of_lt Nat.and_le_left (allS_lt h)
def okD (c : Ch) (s : Nat) : Bool := decide (allV (D (eF c.kn (-1))) c.rs (restS c.rs.length s) c.pl.toNat ≤ c.ms)
def isD (c : Ch) (m s : Nat) : Bool := decide (pop s = m) && okD c s
def dropV (c : Ch) : Nat := ((List.range (c.rs.length + 1)).findSome? fun m => (List.range (allS c.rs.length + 1)).find? (isD c m)).getD (allS c.rs.length)
theorem find_range {p : Nat → Bool} {n s : Nat} (hs : s < n) (h : ∀ i, i < s → p i = false) (hp : p s = true) : (List.range n).find? p = some s := by
  have e : List.range n = List.range s ++ s :: (List.range n).drop (s + 1) := by
    have h1 : (List.range n).take s = List.range s := by rw [List.take_range, Nat.min_eq_left (by omega)]
    have hl : s < (List.range n).length := by rw [List.length_range]; exact hs
    have h2 : (List.range n).drop s = s :: (List.range n).drop (s + 1) := by rw [List.drop_eq_getElem_cons hl, List.getElem_range]
    rw [← h1, ← h2, List.take_append_drop]
  rw [e, List.find?_append, List.find?_eq_none.2 (fun x hx => by rw [h x (List.mem_range.1 hx)]; simp), Option.none_or, List.find?_cons_of_pos hp]
theorem dropV_some {c : Ch} {m s : Nat} (hm : m < c.rs.length + 1) (hs : s < allS c.rs.length + 1) (h1 : ∀ i, i < m → ∀ x, x < allS c.rs.length + 1 → isD c i x = false) (h2 : ∀ x, x < s → isD c m x = false) (h3 : isD c m s = true) : dropV c = s := by
  have e : List.range (c.rs.length + 1) = List.range m ++ m :: (List.range (c.rs.length + 1)).drop (m + 1) := by
    have h1 : (List.range (c.rs.length + 1)).take m = List.range m := by rw [List.take_range, Nat.min_eq_left (by omega)]
    have hl : m < (List.range (c.rs.length + 1)).length := by rw [List.length_range]; exact hm
    have h2 : (List.range (c.rs.length + 1)).drop m = m :: (List.range (c.rs.length + 1)).drop (m + 1) := by rw [List.drop_eq_getElem_cons hl, List.getElem_range]
    rw [← h1, ← h2, List.take_append_drop]
  simp only [dropV]
  rw [e, List.findSome?_append, List.findSome?_eq_none_iff.2 (fun i hi => List.find?_eq_none.2 fun x hx => by rw [h1 i (List.mem_range.1 hi) x (List.mem_range.1 hx)]; simp), Option.none_or, List.findSome?_cons, find_range hs h2 h3]
  rfl
theorem dropV_none {c : Ch} (h1 : ∀ i, i < c.rs.length + 1 → ∀ x, x < allS c.rs.length + 1 → isD c i x = false) : dropV c = allS c.rs.length := by
  simp only [dropV]
  rw [List.findSome?_eq_none_iff.2 (fun i hi => List.find?_eq_none.2 fun x hx => by rw [h1 i (List.mem_range.1 hi) x (List.mem_range.1 hx)]; simp)]
  rfl
theorem u64_s {s : Nat} (h : s < 4096) : IntKind.u64.wrap ((s : Int) + 1) = ((s + 1 : Nat) : Int) := IntWalk.u64_in _ (by omega)
theorem lt_step {p : Nat → Prop} {s : Nat} (h : ∀ x, x < s → p x) (hs : p s) : ∀ x, x < s + 1 → p x := fun x hx => by
  by_cases e : x = s
  · subst e; exact hs
  · exact h x (by omega)
theorem isD_f1 {c : Ch} {m s : Nat} (h : decide (((pop s : Nat) : Int) = (m : Int)) = false) : isD c m s = false := by
  have := of_decide_eq_false h
  simp only [isD]; rw [decide_eq_false (by omega)]; rfl
theorem isD_f2 {c : Ch} {m s : Nat} (h : ¬ allV (D (eF c.kn (-1))) c.rs (restS c.rs.length s) c.pl.toNat ≤ c.ms) : isD c m s = false := by
  simp only [isD, okD]; rw [decide_eq_false h, Bool.and_false]
theorem isD_t {c : Ch} {m s : Nat} (h : decide (((pop s : Nat) : Int) = (m : Int)) = true) (h2 : allV (D (eF c.kn (-1))) c.rs (restS c.rs.length s) c.pl.toNat ≤ c.ms) : isD c m s = true := by
  have := of_decide_eq_true h
  simp only [isD, okD]; rw [decide_eq_true h2, decide_eq_true (by omega)]; rfl
theorem s_allS {E : Env Try.prog} {A : E.α} (c : Ch) (hv : c.valid = true) (set : Nat) (hs : set < 4096) : Gh.Spec E 64 [.ptr [.p (.int .i64 c.pl), .p (.int .i64 c.ps), .p (.list (c.kn.map pk)), .p (.list (c.rs.map pr)), .p (.int .i64 c.ms), .ptr ((mat (D (eF c.kn (-1)))).map G.p)], .p (.int .u64 (set : Nat))] (mkHp []) A (fun y => y = .ok (.p (.int .i64 (allV (D (eF c.kn (-1))) c.rs set c.pl.toNat))) (mkHp []) A) := by
  have hn := valid_num hv
  have := s_all (E := E) (A := A) (D (eF c.kn (-1))) (D_ok _) c.pl.toNat (by omega) (.int .i64 c.ps) (.list (c.kn.map pk)) (.int .i64 c.ms) set c.rs hs (by omega) (valid_in hv)
  rw [show ((c.pl.toNat : Nat) : Int) = c.pl by omega] at this
  exact this
theorem ent30 : Enters Try.prog 30 := Enters.mk Try.func30 (by kernel_rfl) rfl
theorem p_drop_f {E : Env Try.prog} {A : E.α} (c : Ch) (h1 : c.kn.length ≤ 1048576) (h2 : c.rs.length ≤ 1048576) (hv : c.valid = false)  : Gh.Spec E 30 [.p (.agg [.int .i64 c.pl, .int .i64 c.ps, .list (c.kn.map pk), .list (c.rs.map pr), .int .i64 c.ms])] (mkHp []) A (fun y => y = .ok (.p (.tuple [.int .i64 0, .int .i64 1])) (mkHp []) A) := by
  refine specD_of Try.func30 (rfl : Try.f30.body = some _) (Nat.le_of_ble_eq_true rfl) (fun id h => ?_) (fun j id h => ?_) ?_
  · exact wf1x h
  · exact wf2x h
  intro C hN hL
  replace hN : C.N = 50 := hN
  simp only [Gh.num, List.map_cons, List.map_nil, Nat.reduceAdd]
  repeat refine gwp_seq ?_
  refine gwp_region ?_
  refine n1 110 false (hc := kVm1.h {}) (k := ?_)
  refine v0 (k := ?_)
  refine n1 130 false (hc := kVm1.h {}) (k := ?_)
  refine nil0 ?_
  refine cl [1, 2, 3] (k := ?_)
  repeat refine gwp_seq ?_
  refine gwp_region ?_
  refine v0 (k := ?_)
  refine df0 (k := ?_)
  refine nil0 ?_
  refine cl [1, 2, 3] (k := ?_)
  repeat refine gwp_seq ?_
  refine gwp_region ?_
  refine v0 (k := ?_)
  refine op0 [] [] [1, 0] none (spec := s_open_f0 c h1 h2 92  hv) (hent := ent43) (k := ?_)
  repeat (first | refine gthen_panic ?_ | refine gblock_panic ?_)
  refine finD_panic ?_
  refine ocall [130] [(0, 130)] (spec := d_some91 0 1) (hent := ent91) (h := ?_)
  refine out_nil ?_
  refine fp2 (hR := ?_)
  rfl
theorem p_drop_t {E : Env Try.prog} {A : E.α} (c : Ch) (hv : c.valid = true)    : Gh.Spec E 30 [.p (.agg [.int .i64 c.pl, .int .i64 c.ps, .list (c.kn.map pk), .list (c.rs.map pr), .int .i64 c.ms])] (mkHp []) A (fun y => y = .ok (.p (.tuple [.int .i64 (dropV c : Nat), .int .i64 0])) (mkHp []) A) := by
  refine specD_of Try.func30 (rfl : Try.f30.body = some _) (Nat.le_of_ble_eq_true rfl) (fun id h => ?_) (fun j id h => ?_) ?_
  · exact wf1x h
  · exact wf2x h
  intro C hN hL
  replace hN : C.N = 50 := hN
  simp only [Gh.num, List.map_cons, List.map_nil, Nat.reduceAdd]
  have hn := valid_num hv
  have hal := allS_lt (n := c.rs.length) (by omega)
  repeat refine gwp_seq ?_
  refine gwp_region ?_
  refine n1 110 false (hc := kVm1.h {}) (k := ?_)
  refine v0 (k := ?_)
  refine n1 130 false (hc := kVm1.h {}) (k := ?_)
  refine nil0 ?_
  refine cl [1, 2, 3] (k := ?_)
  repeat refine gwp_seq ?_
  refine gwp_region ?_
  refine v0 (k := ?_)
  refine df0 (k := ?_)
  refine nil0 ?_
  refine cl [1, 2, 3] (k := ?_)
  repeat refine gwp_seq ?_
  refine gwp_region ?_
  refine v0 (k := ?_)
  refine oc0 [(200, 5000)] [] [1, 0] none (spec := s_open_t0 c 92  true (q_92 c hv ) ent92 hv rfl) (hent := ent43) (hgr := by (simp only [G.ren, G.rens, rens_p, Gh.look, Nat.reduceEqDiff, reduceIte] <;> rfl)) (k := ?_)
  refine v0 (k := ?_)
  refine nil0 ?_
  refine cl [2, 3, 4] (k := ?_)
  repeat refine gwp_seq ?_
  refine gwp_region ?_
  refine v0 (k := ?_)
  refine v0 (k := ?_)
  refine v0 (k := ?_)
  refine v0 (k := ?_)
  refine v0 (k := ?_)
  refine v0 (k := ?_)
  refine v1 (hc := kVm1.h {}) (k := ?_)
  refine v0 (k := ?_)
  refine nil0 ?_
  refine cl [2, 3, 4, 16, 17] (k := ?_)
  repeat refine gwp_seq ?_
  refine gwp_block ?_
  repeat refine gwp_seq ?_
  refine gc_loop (fun mz σ => ∃ m : Nat, (m ≤ c.rs.length + 1) ∧ (∀ i, i < m → ∀ x, x < allS c.rs.length + 1 → isD c i x = false) ∧ mz = c.rs.length + 1 - m ∧ σ = (sg [(2, .p (.int .i64 0)), (3, .ref 130 0), (4, .ptr [.p (.int .i64 c.pl), .p (.int .i64 c.ps), .p (.list (c.kn.map pk)), .p (.list (c.rs.map pr)), .p (.int .i64 c.ms), .ptr ((mat (D (eF c.kn (-1)))).map G.p), .map 5000]), (16, .p (.int .i64 ((c.rs.length : Int) + 1))), (17, .p (.int .i64 (m : Nat)))] [(130, .cells [.p (.int .i64 0)] 0), (5000, .map [])] A [.call 91 [] [.ref 130 0]] : Sg E)) ?_ (fun mz σ hI => ?_)
  · refine lbeg [2, 3, 4, 16, 17] (hV := ?_)
    exact ⟨_, 0, by omega, fun i hi => by omega, rfl, rfl⟩
  obtain ⟨m, hm, hf1, hnn, rfl⟩ := hI
  repeat refine gwp_seq ?_
  refine gwp_region ?_
  refine v0 (k := ?_)
  refine nil0 ?_
  repeat refine gwp_seq ?_
  refine cB (k1 := fun hb1 => ?_) (k0 := fun hb1 => ?_)
  · replace hb1 := hB.h {} hb1
    try rw [eqI] at hb1
    repeat refine gwp_seq ?_
    refine gwp_skip ?_
    refine cl [2, 3, 4, 16, 17] (k := ?_)
    repeat refine gwp_seq ?_
    refine gwp_block ?_
    repeat refine gwp_seq ?_
    refine gwp_region ?_
    refine v0 (k := ?_)
    refine v0 (k := ?_)
    refine nil0 ?_
    refine cl [2, 3, 4, 5, 16, 17] (k := ?_)
    repeat refine gwp_seq ?_
    refine gwp_region ?_
    refine v0 (k := ?_)
    refine nil0 ?_
    refine cl [2, 3, 4, 5, 6, 16, 17] (k := ?_)
    repeat refine gwp_seq ?_
    refine gwp_block ?_
    repeat refine gwp_seq ?_
    refine gc_loop (fun mz σ => ∃ s : Nat, (s ≤ allS c.rs.length + 1) ∧ (∀ x, x < s → isD c m x = false) ∧ mz = allS c.rs.length + 1 - s ∧ σ = (sg [(2, .p (.int .i64 0)), (3, .ref 130 0), (4, .ptr [.p (.int .i64 c.pl), .p (.int .i64 c.ps), .p (.list (c.kn.map pk)), .p (.list (c.rs.map pr)), .p (.int .i64 c.ms), .ptr ((mat (D (eF c.kn (-1)))).map G.p), .map 5000]), (5, .p (.int .i64 (m : Nat))), (6, .p (.int .u64 (s : Nat))), (16, .p (.int .i64 ((c.rs.length : Int) + 1))), (17, .p (.int .i64 (m : Nat)))] [(130, .cells [.p (.int .i64 0)] 0), (5000, .map [])] A [.call 91 [] [.ref 130 0]] : Sg E)) ?_ (fun mz σ hI => ?_)
    · refine lbeg [2, 3, 4, 5, 6, 16, 17] (hV := ?_)
      exact ⟨_, 0, by omega, fun i hi => by omega, rfl, rfl⟩
    obtain ⟨s, hs, hf2, hnn2, rfl⟩ := hI
    repeat refine gwp_seq ?_
    refine gwp_region ?_
    refine v0 (k := ?_)
    refine v0 (k := ?_)
    refine oc0 [] [] [7] none (spec := s_everyN (.int .i64 c.pl) (.int .i64 c.ps) (.list (c.kn.map pk)) c.rs (by omega)) (hent := ent55) (k := ?_)
    refine v0 (k := ?_)
    refine nil0 ?_
    repeat refine gwp_seq ?_
    refine cB (k1 := fun hb2 => ?_) (k0 := fun hb2 => ?_)
    · replace hb2 := hB.h {} hb2
      try rw [eqI] at hb2
      repeat refine gwp_seq ?_
      refine gwp_skip ?_
      refine cl [2, 3, 4, 5, 6, 16, 17] (k := ?_)
      repeat refine gwp_seq ?_
      refine gwp_block ?_
      repeat refine gwp_seq ?_
      rcases hq9 : decide (((pop s : Nat) : Int) = (m : Int)) with _ | _
      · repeat refine gwp_seq ?_
        have han := bitop_andNot_u64 (allS c.rs.length) s (by omega) (by omega)
        refine rd ?_
        refine d0 0 (k := ?_)
        refine dpc0 1 (spec := s_size s (by omega)) (hent := ent93) (k := ?_)
        refine d0 2 (k := ?_)
        refine d0 3 (k := ?_)
        refine d0 4 (k := ?_)
        refine dx0 5 (k := ?_)
        refine dx0 6 (k := ?_)
        refine dx0 7 (k := ?_)
        refine dx0 8 (k := ?_)
        refine dx0 9 (k := ?_)
        refine dx0 10 (k := ?_)
        refine dx0 11 (k := ?_)
        refine dx0 12 (k := ?_)
        refine dx0 13 (k := ?_)
        refine dx0 14 (k := ?_)
        refine dx0 15 (k := ?_)
        refine dx0 16 (k := ?_)
        refine d0 17 (k := ?_)
        refine dz 18 [0, 1, 0, 7, 15, 31, 31, 95, 31, 479, 1023, 31, 2079, 6175, 14367, 30751, 65535, 131071] (h := ?_)
        refine de 18 (h := ?_)
        repeat refine gwp_seq ?_
        refine cF (k := ?_)
        repeat refine gwp_seq ?_
        refine gwp_skip ?_
        refine cl [2, 3, 4, 5, 6, 16, 17] (k := ?_)
        repeat refine gwp_seq ?_
        refine gwp_region ?_
        refine v0 (k := ?_)
        refine v1 (hc := kVm1.h {}) (k := ?_)
        refine v0 (k := ?_)
        refine nil0 ?_
        refine lend [2, 3, 4, 5, 6, 16, 17] (h := ?_) (hV := ?_) (n' := allS c.rs.length + 1 - (s + 1))
        · omega
        first
        | exact ⟨s + 1, by omega, lt_step hf2 (isD_f1 hq9), rfl, sgE (by rw [u64_s (by omega)]) rfl⟩
        | exact ⟨s + 1, by omega, lt_step hf2 (isD_f2 (by omega)), rfl, sgE (by rw [u64_s (by omega)]) rfl⟩
      · repeat refine gwp_seq ?_
        have han := bitop_andNot_u64 (allS c.rs.length) s (by omega) (by omega)
        refine rd ?_
        refine d0 0 (k := ?_)
        refine dpc0 1 (spec := s_size s (by omega)) (hent := ent93) (k := ?_)
        refine d0 2 (k := ?_)
        refine d0 3 (k := ?_)
        refine d0 4 (k := ?_)
        refine dw0 5 (k := ?_)
        refine dw0 6 (k := ?_)
        refine docw 7 [] [] [7] none (spec := s_everyN (.int .i64 c.pl) (.int .i64 c.ps) (.list (c.kn.map pk)) c.rs (by omega)) (hent := ent55) (j := 4) (b := true) (i' := 30) (k := ?_)
        refine dw0 8 (k := ?_)
        refine dw0 9 (k := ?_)
        refine docw 10 [] [] [9, 0] none (spec := s_allS c hv (restS c.rs.length s) (restS_lt (by omega))) (hent := ent64) (j := 4) (b := true) (i' := 30) (k := ?_)
        refine dw0 11 (k := ?_)
        refine dw0 12 (k := ?_)
        refine dw0 13 (k := ?_)
        refine dw0 14 (k := ?_)
        refine dw0 15 (k := ?_)
        refine dw0 16 (k := ?_)
        refine d0 17 (k := ?_)
        refine dz 18 [0, 1, 0, 7, 15, 31, 31, 95, 31, 479, 1023, 31, 2079, 6175, 14367, 30751, 65535, 131071] (h := ?_)
        refine de 18 (h := ?_)
        repeat refine gwp_seq ?_
        refine cB (k1 := fun hb3 => ?_) (k0 := fun hb3 => ?_)
        · replace hb3 := hB.h {} hb3
          try rw [eqI] at hb3
          repeat refine gwp_seq ?_
          refine gwp_region ?_
          refine v0 (k := ?_)
          refine v1 (hc := kVm1.h {}) (k := ?_)
          refine v0 (k := ?_)
          refine s1 (hc := kVm1.h {}) (k := ?_)
          refine nil0 ?_
          repeat refine gwp_seq ?_
          refine gwp_ret ?_
          repeat (first | refine gthen_ret ?_ | refine gblock_ret ?_ | refine gnoGoto_ret ?_)
          refine finD_ret ?_
          refine ocall [130] [(0, 130)] (spec := d_none91 0) (hent := ent91) (h := ?_)
          refine out_nil ?_
          refine fp2 (hR := ?_)
          first
          | (rw [dropV_some (m := m) (s := s) (by omega) (by omega) hf1 hf2 (isD_t hq9 (by omega))]; done)
          | (obtain rfl : m = c.rs.length + 1 := by omega
             rw [dropV_none hf1])
        · replace hb3 := hB.h {} hb3
          try rw [eqI] at hb3
          repeat refine gwp_seq ?_
          refine gwp_skip ?_
          refine cl [2, 3, 4, 5, 6, 16, 17] (k := ?_)
          repeat refine gwp_seq ?_
          refine gwp_region ?_
          refine v0 (k := ?_)
          refine v1 (hc := kVm1.h {}) (k := ?_)
          refine v0 (k := ?_)
          refine nil0 ?_
          refine lend [2, 3, 4, 5, 6, 16, 17] (h := ?_) (hV := ?_) (n' := allS c.rs.length + 1 - (s + 1))
          · omega
          first
          | exact ⟨s + 1, by omega, lt_step hf2 (isD_f1 hq9), rfl, sgE (by rw [u64_s (by omega)]) rfl⟩
          | exact ⟨s + 1, by omega, lt_step hf2 (isD_f2 (by omega)), rfl, sgE (by rw [u64_s (by omega)]) rfl⟩
    · replace hb2 := hB.h {} hb2
      try rw [eqI] at hb2
      repeat refine gwp_seq ?_
      refine gwp_exit ?_
      repeat (first | refine gthen_exit ?_ | refine gnoGoto_exit ?_ | refine gblock_here ?_ | refine gblock_out rfl ?_)
      refine cl [2, 3, 4, 16, 17] (k := ?_)
      repeat refine gwp_seq ?_
      refine gwp_region ?_
      refine v1 (hc := kVm1.h {}) (k := ?_)
      refine v0 (k := ?_)
      refine nil0 ?_
      refine lend [2, 3, 4, 16, 17] (h := ?_) (hV := ?_) (n' := c.rs.length + 1 - (m + 1))
      · omega
      exact ⟨m + 1, by omega, lt_step hf1 (fun x hx => hf2 x (by omega)), rfl, rfl⟩
  · replace hb1 := hB.h {} hb1
    try rw [eqI] at hb1
    repeat refine gwp_seq ?_
    refine gwp_exit ?_
    repeat (first | refine gthen_exit ?_ | refine gnoGoto_exit ?_ | refine gblock_here ?_ | refine gblock_out rfl ?_)
    refine cl [2, 3, 4] (k := ?_)
    repeat refine gwp_seq ?_
    refine gwp_region ?_
    refine v0 (k := ?_)
    refine oc0 [] [] [7] none (spec := s_everyN (.int .i64 c.pl) (.int .i64 c.ps) (.list (c.kn.map pk)) c.rs (by omega)) (hent := ent55) (k := ?_)
    refine v1 (hc := kVm1.h {}) (k := ?_)
    refine v0 (k := ?_)
    refine s1 (hc := kVm1.h {}) (k := ?_)
    refine nil0 ?_
    repeat refine gwp_seq ?_
    refine gwp_ret ?_
    repeat (first | refine gthen_ret ?_ | refine gblock_ret ?_ | refine gnoGoto_ret ?_)
    refine finD_ret ?_
    refine ocall [130] [(0, 130)] (spec := d_none91 0) (hent := ent91) (h := ?_)
    refine out_nil ?_
    refine fp2 (hR := ?_)
    first
    | (rw [dropV_some (m := m) (s := s) (by omega) (by omega) hf1 hf2 (isD_t hq9 (by omega))]; done)
    | (obtain rfl : m = c.rs.length + 1 := by omega
       rw [dropV_none hf1])
end Go.Proofs.Ytagdholenfkeaaa

/- The program: Holds. -/
namespace Go.Proofs.Ytagdholenfkeaaa
open Go.Gh
set_option maxRecDepth 100000
set_option maxHeartbeats 4000000
structure kVl1 (c : Prop) : Prop where
  h : c := by (first | exact True.intro | (simp only [inI]; omega) | (simp [P.size, pr, pk, all_int, allOne_p, goods_p, allOne, goods, good, G.one, P.one, P.cells] <;> first | omega | assumption | simp_all))
theorem or_i64 {s k : Nat} (hs : s < 256) (hk : k < 8) : bitop .or .i64 (s : Int) (IntKind.i64.wrap (1 * 2 ^ min k 64)) = ((s ||| 2 ^ k : Nat) : Int) := by
  rw [shl1_i64 k (by omega)]
  have : 2 ^ k < 2 ^ 8 := Nat.pow_lt_pow_right (by omega) hk
  exact bitop_or_i64 _ _ (by omega) (by omega)
theorem or_lt {s k : Nat} (hs : s < 256) (hk : k < 8) : s ||| 2 ^ k < 256 := by
  have hx : 2 ^ k < 2 ^ 8 := Nat.pow_lt_pow_right (by omega) hk
  exact Nat.or_lt_two_pow (n := 8) hs hx
theorem pop_one {x : Nat} (h : ((pop x : Nat) : Int) = 1) : pop x = 1 := by omega
theorem pop_ne {x : Nat} (h : ¬ ((pop x : Nat) : Int) = 1) : ¬ pop x = 1 := by omega
theorem bit_ne {b : Bool} (h : b = false) : ¬ b = true := by simp [h]
/-- Which plates a person can have, and surely has, of the first ones. -/
def canH (c : Ch) (x : Nat) : Nat → Nat
  | 0 => 0
  | k + 1 => if (whereC c (k : Nat)).testBit x = true then canH c x k ||| 2 ^ k else canH c x k
def sureH (c : Ch) (x : Nat) : Nat → Nat
  | 0 => 0
  | k + 1 => if (whereC c (k : Nat)).testBit x = true ∧ pop (whereC c (k : Nat)) = 1 then sureH c x k ||| 2 ^ k else sureH c x k
theorem canH_lt (c : Ch) (x : Nat) : ∀ k, k ≤ 8 → canH c x k < 256
  | 0, _ => by simp [canH]
  | k + 1, hk => by
    have := canH_lt c x k (by omega)
    simp only [canH]; split
    · exact or_lt this (by omega)
    · exact this
theorem sureH_lt (c : Ch) (x : Nat) : ∀ k, k ≤ 8 → sureH c x k < 256
  | 0, _ => by simp [sureH]
  | k + 1, hk => by
    have := sureH_lt c x k (by omega)
    simp only [sureH]; split
    · exact or_lt this (by omega)
    · exact this
theorem ent28 : Enters Try.prog 28 := Enters.mk Try.func28 (by kernel_rfl) rfl
theorem p_holds_r {E : Env Try.prog} {A : E.α} (c : Ch) (hv : c.valid = true) (x : Int) (hq : (inQ x c.ps) = false) : Gh.Spec E 28 [.p (.agg [.int .i64 c.pl, .int .i64 c.ps, .list (c.kn.map pk), .list (c.rs.map pr), .int .i64 c.ms]), .p (.int .i64 x)] (mkHp []) A (fun y => y = .ok (.p (.tuple [.int .i64 0, .int .i64 0, .int .i64 2])) (mkHp []) A) := by
  refine specD_of Try.func28 (rfl : Try.f28.body = some _) (Nat.le_of_ble_eq_true rfl) (fun id h => ?_) (fun j id h => ?_) ?_
  · exact wf1x h
  · exact wf2x h
  intro C hN hL
  replace hN : C.N = 48 := hN
  simp only [Gh.num, List.map_cons, List.map_nil, Nat.reduceAdd]
  repeat refine gwp_seq ?_
  refine gwp_region ?_
  refine n1 120 false (hc := kVl1.h {}) (k := ?_)
  refine n1 130 false (hc := kVl1.h {}) (k := ?_)
  refine v0 (k := ?_)
  refine v0 (k := ?_)
  refine n1 160 false (hc := kVl1.h {}) (k := ?_)
  refine nil0 ?_
  refine cl [2, 3, 4, 5, 6] (k := ?_)
  repeat refine gwp_seq ?_
  refine gwp_region ?_
  refine v0 (k := ?_)
  refine df0 (k := ?_)
  refine nil0 ?_
  refine cl [2, 3, 4, 5, 6] (k := ?_)
  repeat refine gwp_seq ?_
  refine fz 130 1 [.k] (k := ?_)
  refine gwp_region ?_
  refine v0 (k := ?_)
  refine v0 (k := ?_)
  refine ocv 14 (.f [.n [.k]]) (k := ?_)
  refine op0 [] [] [1, 0] none (spec := s_truth_r1 c 87 x (inQ x c.ps) (q_87 c hv x) ent87 hv hq) (hent := ent68) (k := ?_)
  repeat (first | refine gthen_panic ?_ | refine gblock_panic ?_)
  refine finD_panic ?_
  refine ocall [160] [(0, 160)] (spec := d_some86 0 2) (hent := ent86) (h := ?_)
  refine out_nil ?_
  refine fp3 (hR := ?_)
  rfl
theorem p_holds_f {E : Env Try.prog} {A : E.α} (c : Ch) (h1 : c.kn.length ≤ 1048576) (h2 : c.rs.length ≤ 1048576) (hv : c.valid = false) (x : Int) : Gh.Spec E 28 [.p (.agg [.int .i64 c.pl, .int .i64 c.ps, .list (c.kn.map pk), .list (c.rs.map pr), .int .i64 c.ms]), .p (.int .i64 x)] (mkHp []) A (fun y => y = .ok (.p (.tuple [.int .i64 0, .int .i64 0, .int .i64 1])) (mkHp []) A) := by
  refine specD_of Try.func28 (rfl : Try.f28.body = some _) (Nat.le_of_ble_eq_true rfl) (fun id h => ?_) (fun j id h => ?_) ?_
  · exact wf1x h
  · exact wf2x h
  intro C hN hL
  replace hN : C.N = 48 := hN
  simp only [Gh.num, List.map_cons, List.map_nil, Nat.reduceAdd]
  repeat refine gwp_seq ?_
  refine gwp_region ?_
  refine n1 120 false (hc := kVl1.h {}) (k := ?_)
  refine n1 130 false (hc := kVl1.h {}) (k := ?_)
  refine v0 (k := ?_)
  refine v0 (k := ?_)
  refine n1 160 false (hc := kVl1.h {}) (k := ?_)
  refine nil0 ?_
  refine cl [2, 3, 4, 5, 6] (k := ?_)
  repeat refine gwp_seq ?_
  refine gwp_region ?_
  refine v0 (k := ?_)
  refine df0 (k := ?_)
  refine nil0 ?_
  refine cl [2, 3, 4, 5, 6] (k := ?_)
  repeat refine gwp_seq ?_
  refine fz 130 1 [.k] (k := ?_)
  refine gwp_region ?_
  refine v0 (k := ?_)
  refine v0 (k := ?_)
  refine ocv 14 (.f [.n [.k]]) (k := ?_)
  refine op0 [] [] [1, 0] none (spec := s_truth_f1 c h1 h2 87 x hv) (hent := ent68) (k := ?_)
  repeat (first | refine gthen_panic ?_ | refine gblock_panic ?_)
  refine finD_panic ?_
  refine ocall [160] [(0, 160)] (spec := d_some86 0 1) (hent := ent86) (h := ?_)
  refine out_nil ?_
  refine fp3 (hR := ?_)
  rfl
theorem p_holds_c {E : Env Try.prog} {A : E.α} (c : Ch) (hv : c.valid = true) (x : Int) (hq : (inQ x c.ps) = true) (hc : ¬ leastC c ≤ c.ms) : Gh.Spec E 28 [.p (.agg [.int .i64 c.pl, .int .i64 c.ps, .list (c.kn.map pk), .list (c.rs.map pr), .int .i64 c.ms]), .p (.int .i64 x)] (mkHp []) A (fun y => y = .ok (.p (.tuple [.int .i64 0, .int .i64 0, .int .i64 10])) (mkHp []) A) := by
  refine specD_of Try.func28 (rfl : Try.f28.body = some _) (Nat.le_of_ble_eq_true rfl) (fun id h => ?_) (fun j id h => ?_) ?_
  · exact wf1x h
  · exact wf2x h
  intro C hN hL
  replace hN : C.N = 48 := hN
  simp only [Gh.num, List.map_cons, List.map_nil, Nat.reduceAdd]
  repeat refine gwp_seq ?_
  refine gwp_region ?_
  refine n1 120 false (hc := kVl1.h {}) (k := ?_)
  refine n1 130 false (hc := kVl1.h {}) (k := ?_)
  refine v0 (k := ?_)
  refine v0 (k := ?_)
  refine n1 160 false (hc := kVl1.h {}) (k := ?_)
  refine nil0 ?_
  refine cl [2, 3, 4, 5, 6] (k := ?_)
  repeat refine gwp_seq ?_
  refine gwp_region ?_
  refine v0 (k := ?_)
  refine df0 (k := ?_)
  refine nil0 ?_
  refine cl [2, 3, 4, 5, 6] (k := ?_)
  repeat refine gwp_seq ?_
  refine fz 130 1 [.k] (k := ?_)
  refine gwp_region ?_
  refine v0 (k := ?_)
  refine v0 (k := ?_)
  refine ocv 14 (.f [.n [.k]]) (k := ?_)
  refine op0 [] [] [1, 0] none (spec := s_truth_c1 c 87 x (inQ x c.ps) (q_87 c hv x) ent87 hv hq hc) (hent := ent68) (k := ?_)
  repeat (first | refine gthen_panic ?_ | refine gblock_panic ?_)
  refine finD_panic ?_
  refine ocall [160] [(0, 160)] (spec := d_some86 0 10) (hent := ent86) (h := ?_)
  refine out_nil ?_
  refine fp3 (hR := ?_)
  rfl
theorem p_holds_t {E : Env Try.prog} {A : E.α} (c : Ch) (hv : c.valid = true) (n : Nat) (hq : (inQ (n : Nat) c.ps) = true) (hn8 : n < 8) (hc : leastC c ≤ c.ms) : Gh.Spec E 28 [.p (.agg [.int .i64 c.pl, .int .i64 c.ps, .list (c.kn.map pk), .list (c.rs.map pr), .int .i64 c.ms]), .p (.int .i64 (n : Nat))] (mkHp []) A (fun y => y = .ok (.p (.tuple [.int .i64 (sureH c n c.pl.toNat : Nat), .int .i64 (canH c n c.pl.toNat : Nat), .int .i64 0])) (mkHp []) A) := by
  refine specD_of Try.func28 (rfl : Try.f28.body = some _) (Nat.le_of_ble_eq_true rfl) (fun id h => ?_) (fun j id h => ?_) ?_
  · exact wf1x h
  · exact wf2x h
  intro C hN hL
  replace hN : C.N = 48 := hN
  simp only [Gh.num, List.map_cons, List.map_nil, Nat.reduceAdd]
  have hn := valid_num hv
  repeat refine gwp_seq ?_
  refine gwp_region ?_
  refine n1 120 false (hc := kVl1.h {}) (k := ?_)
  refine n1 130 false (hc := kVl1.h {}) (k := ?_)
  refine v0 (k := ?_)
  refine v0 (k := ?_)
  refine n1 160 false (hc := kVl1.h {}) (k := ?_)
  refine nil0 ?_
  refine cl [2, 3, 4, 5, 6] (k := ?_)
  repeat refine gwp_seq ?_
  refine gwp_region ?_
  refine v0 (k := ?_)
  refine df0 (k := ?_)
  refine nil0 ?_
  refine cl [2, 3, 4, 5, 6] (k := ?_)
  repeat refine gwp_seq ?_
  refine fz 130 1 [.k] (k := ?_)
  refine gwp_region ?_
  refine v0 (k := ?_)
  refine v0 (k := ?_)
  refine ocv 14 (.f [.n [.k]]) (k := ?_)
  refine oc0 [(300, 5000)] [] [1, 0] none (spec := s_truth_t1 c 87 (n : Nat) (inQ (n : Nat) c.ps) (q_87 c hv (n : Nat)) ent87 hv hq hc) (hent := ent68) (hgr := by (simp only [G.ren, G.rens, rens_p, Gh.look, Nat.reduceEqDiff, reduceIte] <;> rfl)) (k := ?_)
  refine v0 (k := ?_)
  refine v0 (k := ?_)
  refine v0 (k := ?_)
  refine v0 (k := ?_)
  refine v0 (k := ?_)
  refine nil0 ?_
  refine cl [3, 4, 5, 6, 7, 8] (k := ?_)
  repeat refine gwp_seq ?_
  refine gwp_region ?_
  refine v0 (k := ?_)
  refine v0 (k := ?_)
  refine v0 (k := ?_)
  refine v0 (k := ?_)
  refine v0 (k := ?_)
  refine v0 (k := ?_)
  refine nil0 ?_
  refine cl [3, 4, 5, 6, 7, 8, 22, 23] (k := ?_)
  repeat refine gwp_seq ?_
  refine gwp_block ?_
  repeat refine gwp_seq ?_
  refine gc_loop (fun mz σ => ∃ k : Nat, ((k : Int) ≤ c.pl) ∧ mz = c.pl.toNat - k ∧ σ = (sg [(3, .ref 130 0), (4, .p (.int .i64 (sureH c n k : Nat))), (5, .p (.int .i64 (canH c n k : Nat))), (6, .ref 160 0), (7, .ptr [.p (.int .i64 c.pl), .p (.int .i64 c.ps), .p (.list (c.kn.map pk)), .p (.list (c.rs.map pr)), .p (.int .i64 c.ms), .ptr ((mat (D (eF c.kn (-1)))).map G.p), .map 5000]), (8, .p (.int .i64 (c.ms - leastC c))), (22, .p (.int .i64 c.pl)), (23, .p (.int .i64 (k : Nat)))] [(130, .cells [.p (.int .i64 (n : Nat))] 1), (160, .cells [.p (.int .i64 0)] 0), (5000, .map [])] A [.call 86 [] [.ref 160 0]] : Sg E)) ?_ (fun mz σ hI => ?_)
  · refine lbeg [3, 4, 5, 6, 7, 8, 22, 23] (hV := ?_)
    exact ⟨_, 0, by omega, rfl, rfl⟩
  obtain ⟨k, hk, hnn, rfl⟩ := hI
  have hcl := canH_lt c n k (by omega)
  have hsl := sureH_lt c n k (by omega)
  have hwl := whereC_lt hv (k : Nat)
  repeat refine gwp_seq ?_
  refine gwp_region ?_
  refine v0 (k := ?_)
  refine nil0 ?_
  repeat refine gwp_seq ?_
  refine cB (k1 := fun hb1 => ?_) (k0 := fun hb1 => ?_)
  · replace hb1 := hB.h {} hb1
    try rw [eqI] at hb1
    repeat refine gwp_seq ?_
    refine gwp_skip ?_
    refine cl [3, 4, 5, 6, 7, 8, 22, 23] (k := ?_)
    repeat refine gwp_seq ?_
    refine gwp_block ?_
    repeat refine gwp_seq ?_
    refine gwp_region ?_
    refine v0 (k := ?_)
    refine v0 (k := ?_)
    refine nil0 ?_
    refine cl [3, 4, 5, 6, 7, 8, 9, 22, 23] (k := ?_)
    repeat refine gwp_seq ?_
    refine gwp_region ?_
    refine v0 (k := ?_)
    refine v0 (k := ?_)
    refine v0 (k := ?_)
    refine oc0 [] [] [9, 0, 0] none (spec := s_whereC c hv (k : Nat)) (hent := ent70) (k := ?_)
    refine v0 (k := ?_)
    refine nil0 ?_
    refine cl [3, 4, 5, 6, 7, 8, 9, 10, 22, 23] (k := ?_)
    repeat refine gwp_seq ?_
    refine gwp_region ?_
    refine v0 (k := ?_)
    refine v0 (k := ?_)
    refine pc0 (spec := s_hasp (whereC c (k : Nat)) n (by omega) (by omega)) (hent := ent78) (k := ?_)
    refine v0 (k := ?_)
    refine nil0 ?_
    repeat refine gwp_seq ?_
    refine cB (k1 := fun hb2 => ?_) (k0 := fun hb2 => ?_)
    · replace hb2 := hB.h {} hb2
      try rw [eqI] at hb2
      repeat refine gwp_seq ?_
      refine gwp_exit ?_
      repeat (first | refine gthen_exit ?_ | refine gnoGoto_exit ?_ | refine gblock_here ?_ | refine gblock_out rfl ?_)
      refine cl [3, 4, 5, 6, 7, 8, 22, 23] (k := ?_)
      repeat refine gwp_seq ?_
      refine gwp_region ?_
      refine v1 (hc := kVl1.h {}) (k := ?_)
      refine v0 (k := ?_)
      refine nil0 ?_
      refine lend [3, 4, 5, 6, 7, 8, 22, 23] (h := ?_) (hV := ?_) (n' := c.pl.toNat - (k + 1))
      · omega
      first
      | exact ⟨k + 1, by omega, rfl, sgE (by rw [canH, if_pos (by assumption), sureH, if_pos ⟨by assumption, pop_one (by omega)⟩, ← hor, ← hor2]; rfl) rfl⟩
      | exact ⟨k + 1, by omega, rfl, sgE (by rw [canH, if_pos (by assumption), sureH, if_neg (fun e => pop_ne (by omega) e.2), ← hor]; rfl) rfl⟩
      | exact ⟨k + 1, by omega, rfl, sgE (by rw [canH, if_neg (bit_ne (by assumption)), sureH, if_neg (fun e => bit_ne (by assumption) e.1)]; rfl) rfl⟩
    · replace hb2 := hB.h {} hb2
      try rw [eqI] at hb2
      repeat refine gwp_seq ?_
      refine gwp_skip ?_
      refine cl [3, 4, 5, 6, 7, 8, 9, 10, 22, 23] (k := ?_)
      repeat refine gwp_seq ?_
      have hor := or_i64 (s := canH c n k) (k := k) (by omega) (by omega)
      refine gwp_region ?_
      refine v0 (k := ?_)
      refine v0 (k := ?_)
      refine v1 (hc := kVl1.h {}) (k := ?_)
      refine v0 (k := ?_)
      refine v0 (k := ?_)
      refine nil0 ?_
      refine cl [3, 4, 5, 6, 7, 8, 9, 10, 22, 23] (k := ?_)
      repeat refine gwp_seq ?_
      refine gwp_region ?_
      refine v0 (k := ?_)
      refine pc0 (spec := s_sizep (whereC c (k : Nat)) (by omega)) (hent := ent88) (k := ?_)
      refine v0 (k := ?_)
      refine nil0 ?_
      repeat refine gwp_seq ?_
      refine cB (k1 := fun hb3 => ?_) (k0 := fun hb3 => ?_)
      · replace hb3 := hB.h {} hb3
        try rw [eqI] at hb3
        repeat refine gwp_seq ?_
        have hor2 := or_i64 (s := sureH c n k) (k := k) (by omega) (by omega)
        refine gwp_region ?_
        refine v0 (k := ?_)
        refine v0 (k := ?_)
        refine v1 (hc := kVl1.h {}) (k := ?_)
        refine v0 (k := ?_)
        refine v0 (k := ?_)
        refine nil0 ?_
        refine cl [3, 4, 5, 6, 7, 8, 22, 23] (k := ?_)
        repeat refine gwp_seq ?_
        refine gwp_region ?_
        refine v1 (hc := kVl1.h {}) (k := ?_)
        refine v0 (k := ?_)
        refine nil0 ?_
        refine lend [3, 4, 5, 6, 7, 8, 22, 23] (h := ?_) (hV := ?_) (n' := c.pl.toNat - (k + 1))
        · omega
        first
        | exact ⟨k + 1, by omega, rfl, sgE (by rw [canH, if_pos (by assumption), sureH, if_pos ⟨by assumption, pop_one (by omega)⟩, ← hor, ← hor2]; rfl) rfl⟩
        | exact ⟨k + 1, by omega, rfl, sgE (by rw [canH, if_pos (by assumption), sureH, if_neg (fun e => pop_ne (by omega) e.2), ← hor]; rfl) rfl⟩
        | exact ⟨k + 1, by omega, rfl, sgE (by rw [canH, if_neg (bit_ne (by assumption)), sureH, if_neg (fun e => bit_ne (by assumption) e.1)]; rfl) rfl⟩
      · replace hb3 := hB.h {} hb3
        try rw [eqI] at hb3
        repeat refine gwp_seq ?_
        refine gwp_skip ?_
        refine cl [3, 4, 5, 6, 7, 8, 22, 23] (k := ?_)
        repeat refine gwp_seq ?_
        refine gwp_region ?_
        refine v1 (hc := kVl1.h {}) (k := ?_)
        refine v0 (k := ?_)
        refine nil0 ?_
        refine lend [3, 4, 5, 6, 7, 8, 22, 23] (h := ?_) (hV := ?_) (n' := c.pl.toNat - (k + 1))
        · omega
        first
        | exact ⟨k + 1, by omega, rfl, sgE (by rw [canH, if_pos (by assumption), sureH, if_pos ⟨by assumption, pop_one (by omega)⟩, ← hor, ← hor2]; rfl) rfl⟩
        | exact ⟨k + 1, by omega, rfl, sgE (by rw [canH, if_pos (by assumption), sureH, if_neg (fun e => pop_ne (by omega) e.2), ← hor]; rfl) rfl⟩
        | exact ⟨k + 1, by omega, rfl, sgE (by rw [canH, if_neg (bit_ne (by assumption)), sureH, if_neg (fun e => bit_ne (by assumption) e.1)]; rfl) rfl⟩
  · replace hb1 := hB.h {} hb1
    try rw [eqI] at hb1
    repeat refine gwp_seq ?_
    refine gwp_exit ?_
    repeat (first | refine gthen_exit ?_ | refine gnoGoto_exit ?_ | refine gblock_here ?_ | refine gblock_out rfl ?_)
    refine cl [4, 5, 6] (k := ?_)
    repeat refine gwp_seq ?_
    refine gwp_region ?_
    refine v0 (k := ?_)
    refine v0 (k := ?_)
    refine v0 (k := ?_)
    refine v0 (k := ?_)
    refine s1 (hc := kVl1.h {}) (k := ?_)
    refine nil0 ?_
    repeat refine gwp_seq ?_
    refine gwp_ret ?_
    repeat (first | refine gthen_ret ?_ | refine gblock_ret ?_ | refine gnoGoto_ret ?_)
    refine finD_ret ?_
    have hke : k = c.pl.toNat := by omega
    refine ocall [160] [(0, 160)] (spec := d_none86 0) (hent := ent86) (h := ?_)
    refine out_nil ?_
    subst hke
    refine fp3 (hR := ?_)
    rfl
end Go.Proofs.Ytagdholenfkeaaa

/- The program: Holder and Break. -/
namespace Go.Proofs.Ytagdholenfkeaaa
open Go.Gh
set_option maxRecDepth 100000
set_option maxHeartbeats 4000000
structure kVg1 (c : Prop) : Prop where
  h : c := by (first | exact True.intro | (simp only [inI]; omega) | (simp [P.size, pr, pk, all_int, allOne_p, goods_p, allOne, goods, good, G.one, P.one, P.cells] <;> first | omega | assumption | simp_all))
/-- Where the chain of a plate is broken. -/
def brk (c : Ch) (x : Int) : Option Nat := ((selN x (allS c.rs.length) c.rs c.rs.length).find? fun e => !decide (holN x c.rs e.1 = e.2.f)).map (·.1)
def brkV (c : Ch) (x : Int) : Int × Int := match brk c x with | some i => ((i : Int), 0) | none => (0, 4)
theorem brkV_some {c : Ch} {x : Int} {i : Nat} (h : brk c x = some i) : brkV c x = ((i : Int), 0) := by simp only [brkV, h]
theorem brkV_none {c : Ch} {x : Int} (h : brk c x = none) : brkV c x = (0, 4) := by simp only [brkV, h]
theorem brk_none {c : Ch} {x : Int} (h : ∀ e ∈ selN x (allS c.rs.length) c.rs c.rs.length, holN x c.rs e.1 = e.2.f) : brk c x = none := by
  simp only [brk, Option.map_eq_none_iff, List.find?_eq_none]
  intro e he
  simp [h e he]
theorem brk_some {c : Ch} {x : Int} {k : Nat} {e : Nat × Rc} (h : ∀ e ∈ (selN x (allS c.rs.length) c.rs c.rs.length).take k, holN x c.rs e.1 = e.2.f) (he : (selN x (allS c.rs.length) c.rs c.rs.length)[k]? = some e) (hn : ¬ holN x c.rs e.1 = e.2.f) : brk c x = some e.1 := by
  obtain ⟨hk, e1⟩ := List.getElem?_eq_some_iff.1 he
  have hs : selN x (allS c.rs.length) c.rs c.rs.length = (selN x (allS c.rs.length) c.rs c.rs.length).take k ++ e :: (selN x (allS c.rs.length) c.rs c.rs.length).drop (k + 1) := by rw [← e1, ← List.drop_eq_getElem_cons hk, List.take_append_drop]
  have hf : ((selN x (allS c.rs.length) c.rs c.rs.length).find? fun e => !decide (holN x c.rs e.1 = e.2.f)) = some e := by
    rw [hs, List.find?_append, List.find?_eq_none.2 (fun e2 h2 => by simp [h e2 h2]), Option.none_or, List.find?_cons_of_pos (by simp [hn])]
  simp only [brk, hf, Option.map_some]
theorem brk_step {c : Ch} {x : Int} {k : Nat} {e : Nat × Rc} (h : ∀ e ∈ (selN x (allS c.rs.length) c.rs c.rs.length).take k, holN x c.rs e.1 = e.2.f) (he : (selN x (allS c.rs.length) c.rs c.rs.length)[k]? = some e) (hn : holN x c.rs e.1 = e.2.f) : ∀ e ∈ (selN x (allS c.rs.length) c.rs c.rs.length).take (k + 1), holN x c.rs e.1 = e.2.f := fun e2 h2 => by
  rw [List.take_add_one, he, Option.toList_some] at h2
  rcases List.mem_append.1 h2 with h2 | h2
  · exact h e2 h2
  · simp at h2; subst h2; exact hn
theorem ent15 : Enters Try.prog 15 := Enters.mk Try.func15 (by kernel_rfl) rfl
theorem p_holder_r {E : Env Try.prog} {A : E.α} (c : Ch) (hv : c.valid = true) (x w : Int) (hq : (holdQ c x w) = false) : Gh.Spec E 15 [.p (.agg [.int .i64 c.pl, .int .i64 c.ps, .list (c.kn.map pk), .list (c.rs.map pr), .int .i64 c.ms]), .p (.int .i64 x), .p (.int .i64 w)] (mkHp []) A (fun y => y = .ok (.p (.tuple [.int .i64 0, .int .i64 2])) (mkHp []) A) := by
  refine specD_of Try.func15 (rfl : Try.f15.body = some _) (Nat.le_of_ble_eq_true rfl) (fun id h => ?_) (fun j id h => ?_) ?_
  · exact wf1x h
  · exact wf2x h
  intro C hN hL
  replace hN : C.N = 17 := hN
  simp only [Gh.num, List.map_cons, List.map_nil, Nat.reduceAdd]
  repeat refine gwp_seq ?_
  refine gwp_region ?_
  refine n1 130 false (hc := kVg1.h {}) (k := ?_)
  refine n1 140 false (hc := kVg1.h {}) (k := ?_)
  refine n1 150 false (hc := kVg1.h {}) (k := ?_)
  refine v0 (k := ?_)
  refine n1 170 false (hc := kVg1.h {}) (k := ?_)
  refine nil0 ?_
  refine cl [3, 4, 5, 6, 7] (k := ?_)
  repeat refine gwp_seq ?_
  refine gwp_region ?_
  refine v0 (k := ?_)
  refine df0 (k := ?_)
  refine nil0 ?_
  refine cl [3, 4, 5, 6, 7] (k := ?_)
  repeat refine gwp_seq ?_
  refine fz 140 1 [.k] (k := ?_)
  refine fz 150 1 [.k] (k := ?_)
  refine gwp_region ?_
  refine v0 (k := ?_)
  refine v0 (k := ?_)
  refine ocv 11 (.f [.n [.k], .n [.k]]) (k := ?_)
  refine op0 [] [] [1, 0] none (spec := s_open_r2 c 44 x w (holdQ c x w) (q_44 c hv x w) ent44 hv hq) (hent := ent43) (k := ?_)
  repeat (first | refine gthen_panic ?_ | refine gblock_panic ?_)
  refine finD_panic ?_
  refine ocall [170] [(0, 170)] (spec := d_some41 0 2) (hent := ent41) (h := ?_)
  refine out_nil ?_
  refine fp2 (hR := ?_)
  rfl
theorem p_holder_f {E : Env Try.prog} {A : E.α} (c : Ch) (h1 : c.kn.length ≤ 1048576) (h2 : c.rs.length ≤ 1048576) (hv : c.valid = false) (x w : Int) : Gh.Spec E 15 [.p (.agg [.int .i64 c.pl, .int .i64 c.ps, .list (c.kn.map pk), .list (c.rs.map pr), .int .i64 c.ms]), .p (.int .i64 x), .p (.int .i64 w)] (mkHp []) A (fun y => y = .ok (.p (.tuple [.int .i64 0, .int .i64 1])) (mkHp []) A) := by
  refine specD_of Try.func15 (rfl : Try.f15.body = some _) (Nat.le_of_ble_eq_true rfl) (fun id h => ?_) (fun j id h => ?_) ?_
  · exact wf1x h
  · exact wf2x h
  intro C hN hL
  replace hN : C.N = 17 := hN
  simp only [Gh.num, List.map_cons, List.map_nil, Nat.reduceAdd]
  repeat refine gwp_seq ?_
  refine gwp_region ?_
  refine n1 130 false (hc := kVg1.h {}) (k := ?_)
  refine n1 140 false (hc := kVg1.h {}) (k := ?_)
  refine n1 150 false (hc := kVg1.h {}) (k := ?_)
  refine v0 (k := ?_)
  refine n1 170 false (hc := kVg1.h {}) (k := ?_)
  refine nil0 ?_
  refine cl [3, 4, 5, 6, 7] (k := ?_)
  repeat refine gwp_seq ?_
  refine gwp_region ?_
  refine v0 (k := ?_)
  refine df0 (k := ?_)
  refine nil0 ?_
  refine cl [3, 4, 5, 6, 7] (k := ?_)
  repeat refine gwp_seq ?_
  refine fz 140 1 [.k] (k := ?_)
  refine fz 150 1 [.k] (k := ?_)
  refine gwp_region ?_
  refine v0 (k := ?_)
  refine v0 (k := ?_)
  refine ocv 11 (.f [.n [.k], .n [.k]]) (k := ?_)
  refine op0 [] [] [1, 0] none (spec := s_open_f2 c h1 h2 44 x w hv) (hent := ent43) (k := ?_)
  repeat (first | refine gthen_panic ?_ | refine gblock_panic ?_)
  refine finD_panic ?_
  refine ocall [170] [(0, 170)] (spec := d_some41 0 1) (hent := ent41) (h := ?_)
  refine out_nil ?_
  refine fp2 (hR := ?_)
  rfl
theorem p_holder_t {E : Env Try.prog} {A : E.α} (c : Ch) (hv : c.valid = true) (x : Int) (n : Nat) (hq : (holdQ c x (n : Nat)) = true)  : Gh.Spec E 15 [.p (.agg [.int .i64 c.pl, .int .i64 c.ps, .list (c.kn.map pk), .list (c.rs.map pr), .int .i64 c.ms]), .p (.int .i64 x), .p (.int .i64 (n : Nat))] (mkHp []) A (fun y => y = .ok (.p (.tuple [.int .i64 (holN x c.rs n), .int .i64 0])) (mkHp []) A) := by
  refine specD_of Try.func15 (rfl : Try.f15.body = some _) (Nat.le_of_ble_eq_true rfl) (fun id h => ?_) (fun j id h => ?_) ?_
  · exact wf1x h
  · exact wf2x h
  intro C hN hL
  replace hN : C.N = 17 := hN
  simp only [Gh.num, List.map_cons, List.map_nil, Nat.reduceAdd]
  have hn := valid_num hv
  have hq2 := hq
  simp only [holdQ, inQ, Bool.and_eq_true, decide_eq_true_eq] at hq2
  have hnl : n ≤ c.rs.length := by omega
  clear hq2
  repeat refine gwp_seq ?_
  refine gwp_region ?_
  refine n1 130 false (hc := kVg1.h {}) (k := ?_)
  refine n1 140 false (hc := kVg1.h {}) (k := ?_)
  refine n1 150 false (hc := kVg1.h {}) (k := ?_)
  refine v0 (k := ?_)
  refine n1 170 false (hc := kVg1.h {}) (k := ?_)
  refine nil0 ?_
  refine cl [3, 4, 5, 6, 7] (k := ?_)
  repeat refine gwp_seq ?_
  refine gwp_region ?_
  refine v0 (k := ?_)
  refine df0 (k := ?_)
  refine nil0 ?_
  refine cl [3, 4, 5, 6, 7] (k := ?_)
  repeat refine gwp_seq ?_
  refine fz 140 1 [.k] (k := ?_)
  refine fz 150 1 [.k] (k := ?_)
  refine gwp_region ?_
  refine v0 (k := ?_)
  refine v0 (k := ?_)
  refine ocv 11 (.f [.n [.k], .n [.k]]) (k := ?_)
  refine oc0 [(200, 5000)] [] [1, 0] none (spec := s_open_t2 c 44 x (n : Nat) (holdQ c x (n : Nat)) (q_44 c hv x (n : Nat)) ent44 hv hq) (hent := ent43) (hgr := by (simp only [G.ren, G.rens, rens_p, Gh.look, Nat.reduceEqDiff, reduceIte] <;> rfl)) (k := ?_)
  refine v0 (k := ?_)
  refine nil0 ?_
  refine cl [4, 5, 6, 7, 8] (k := ?_)
  repeat refine gwp_seq ?_
  refine gwp_region ?_
  refine v0 (k := ?_)
  refine v0 (k := ?_)
  refine v0 (k := ?_)
  refine oc0 [] [] [7, 0, 0] none (spec := s_holder (.int .i64 c.pl) (.int .i64 c.ps) (.list (c.kn.map pk)) x c.rs n (by omega) (by omega)) (hent := ent47) (k := ?_)
  refine v0 (k := ?_)
  refine s1 (hc := kVg1.h {}) (k := ?_)
  refine nil0 ?_
  repeat refine gwp_seq ?_
  refine gwp_ret ?_
  repeat (first | refine gthen_ret ?_ | refine gblock_ret ?_ | refine gnoGoto_ret ?_)
  refine finD_ret ?_
  refine ocall [170] [(0, 170)] (spec := d_none41 0) (hent := ent41) (h := ?_)
  refine out_nil ?_
  refine fp2 (hR := ?_)
  rfl
theorem ent17 : Enters Try.prog 17 := Enters.mk Try.func17 (by kernel_rfl) rfl
theorem p_break_r {E : Env Try.prog} {A : E.α} (c : Ch) (hv : c.valid = true) (x : Int) (hq : (inQ x c.pl) = false) : Gh.Spec E 17 [.p (.agg [.int .i64 c.pl, .int .i64 c.ps, .list (c.kn.map pk), .list (c.rs.map pr), .int .i64 c.ms]), .p (.int .i64 x)] (mkHp []) A (fun y => y = .ok (.p (.tuple [.int .i64 0, .int .i64 2])) (mkHp []) A) := by
  refine specD_of Try.func17 (rfl : Try.f17.body = some _) (Nat.le_of_ble_eq_true rfl) (fun id h => ?_) (fun j id h => ?_) ?_
  · exact wf1x h
  · exact wf2x h
  intro C hN hL
  replace hN : C.N = 28 := hN
  simp only [Gh.num, List.map_cons, List.map_nil, Nat.reduceAdd]
  repeat refine gwp_seq ?_
  refine gwp_region ?_
  refine n1 120 false (hc := kVg1.h {}) (k := ?_)
  refine n1 130 false (hc := kVg1.h {}) (k := ?_)
  refine n1 140 false (hc := kVg1.h {}) (k := ?_)
  refine n1 150 false (hc := kVg1.h {}) (k := ?_)
  refine nil0 ?_
  refine cl [2, 3, 4, 5] (k := ?_)
  repeat refine gwp_seq ?_
  refine gwp_region ?_
  refine v0 (k := ?_)
  refine df0 (k := ?_)
  refine nil0 ?_
  refine cl [2, 3, 4, 5] (k := ?_)
  repeat refine gwp_seq ?_
  refine fz 130 1 [.k] (k := ?_)
  refine gwp_region ?_
  refine v0 (k := ?_)
  refine v0 (k := ?_)
  refine ocv 11 (.f [.n [.k]]) (k := ?_)
  refine op0 [] [] [1, 0] none (spec := s_open_r1 c 53 x (inQ x c.pl) (q_53 c hv x) ent53 hv hq) (hent := ent43) (k := ?_)
  repeat (first | refine gthen_panic ?_ | refine gblock_panic ?_)
  refine finD_panic ?_
  refine ocall [150] [(0, 150)] (spec := d_some52 0 2) (hent := ent52) (h := ?_)
  refine out_nil ?_
  refine fp2 (hR := ?_)
  rfl
theorem p_break_f {E : Env Try.prog} {A : E.α} (c : Ch) (h1 : c.kn.length ≤ 1048576) (h2 : c.rs.length ≤ 1048576) (hv : c.valid = false) (x : Int) : Gh.Spec E 17 [.p (.agg [.int .i64 c.pl, .int .i64 c.ps, .list (c.kn.map pk), .list (c.rs.map pr), .int .i64 c.ms]), .p (.int .i64 x)] (mkHp []) A (fun y => y = .ok (.p (.tuple [.int .i64 0, .int .i64 1])) (mkHp []) A) := by
  refine specD_of Try.func17 (rfl : Try.f17.body = some _) (Nat.le_of_ble_eq_true rfl) (fun id h => ?_) (fun j id h => ?_) ?_
  · exact wf1x h
  · exact wf2x h
  intro C hN hL
  replace hN : C.N = 28 := hN
  simp only [Gh.num, List.map_cons, List.map_nil, Nat.reduceAdd]
  repeat refine gwp_seq ?_
  refine gwp_region ?_
  refine n1 120 false (hc := kVg1.h {}) (k := ?_)
  refine n1 130 false (hc := kVg1.h {}) (k := ?_)
  refine n1 140 false (hc := kVg1.h {}) (k := ?_)
  refine n1 150 false (hc := kVg1.h {}) (k := ?_)
  refine nil0 ?_
  refine cl [2, 3, 4, 5] (k := ?_)
  repeat refine gwp_seq ?_
  refine gwp_region ?_
  refine v0 (k := ?_)
  refine df0 (k := ?_)
  refine nil0 ?_
  refine cl [2, 3, 4, 5] (k := ?_)
  repeat refine gwp_seq ?_
  refine fz 130 1 [.k] (k := ?_)
  refine gwp_region ?_
  refine v0 (k := ?_)
  refine v0 (k := ?_)
  refine ocv 11 (.f [.n [.k]]) (k := ?_)
  refine op0 [] [] [1, 0] none (spec := s_open_f1 c h1 h2 53 x hv) (hent := ent43) (k := ?_)
  repeat (first | refine gthen_panic ?_ | refine gblock_panic ?_)
  refine finD_panic ?_
  refine ocall [150] [(0, 150)] (spec := d_some52 0 1) (hent := ent52) (h := ?_)
  refine out_nil ?_
  refine fp2 (hR := ?_)
  rfl
theorem p_break_t {E : Env Try.prog} {A : E.α} (c : Ch) (hv : c.valid = true) (x : Int) (hq : (inQ x c.pl) = true)  : Gh.Spec E 17 [.p (.agg [.int .i64 c.pl, .int .i64 c.ps, .list (c.kn.map pk), .list (c.rs.map pr), .int .i64 c.ms]), .p (.int .i64 x)] (mkHp []) A (fun y => y = .ok (.p (.tuple [.int .i64 (brkV c x).1, .int .i64 (brkV c x).2])) (mkHp []) A) := by
  refine specD_of Try.func17 (rfl : Try.f17.body = some _) (Nat.le_of_ble_eq_true rfl) (fun id h => ?_) (fun j id h => ?_) ?_
  · exact wf1x h
  · exact wf2x h
  intro C hN hL
  replace hN : C.N = 28 := hN
  simp only [Gh.num, List.map_cons, List.map_nil, Nat.reduceAdd]
  have hn := valid_num hv
  have hpk : ∀ k : Kw, pk k = P.agg [.int .i64 k.a, .int .i64 k.b] := fun _ => rfl
  have hpr : ∀ r : Rc, pr r = P.agg [.int .i64 r.p, .int .i64 r.f, .int .i64 r.t] := fun _ => rfl
  repeat refine gwp_seq ?_
  refine gwp_region ?_
  refine n1 120 false (hc := kVg1.h {}) (k := ?_)
  refine n1 130 false (hc := kVg1.h {}) (k := ?_)
  refine n1 140 false (hc := kVg1.h {}) (k := ?_)
  refine n1 150 false (hc := kVg1.h {}) (k := ?_)
  refine nil0 ?_
  refine cl [2, 3, 4, 5] (k := ?_)
  repeat refine gwp_seq ?_
  refine gwp_region ?_
  refine v0 (k := ?_)
  refine df0 (k := ?_)
  refine nil0 ?_
  refine cl [2, 3, 4, 5] (k := ?_)
  repeat refine gwp_seq ?_
  refine fz 130 1 [.k] (k := ?_)
  refine gwp_region ?_
  refine v0 (k := ?_)
  refine v0 (k := ?_)
  refine ocv 11 (.f [.n [.k]]) (k := ?_)
  refine oc0 [(200, 5000)] [] [1, 0] none (spec := s_open_t1 c 53 x (inQ x c.pl) (q_53 c hv x) ent53 hv hq) (hent := ent43) (hgr := by (simp only [G.ren, G.rens, rens_p, Gh.look, Nat.reduceEqDiff, reduceIte] <;> rfl)) (k := ?_)
  refine n1 160 false (hc := kVg1.h {}) (k := ?_)
  refine s1 (hc := kVg1.h {}) (k := ?_)
  refine nil0 ?_
  refine cl [3, 4, 5, 6] (k := ?_)
  repeat refine gwp_seq ?_
  refine rd ?_
  refine d0 0 (k := ?_)
  refine d0 1 (k := ?_)
  refine d0 2 (k := ?_)
  refine doc0 3 [] [] [7] none (spec := s_everyN (.int .i64 c.pl) (.int .i64 c.ps) (.list (c.kn.map pk)) c.rs (by omega)) (hent := ent55) (k := ?_)
  refine doc0 4 [] [] [7, 0, 0] none (spec := s_recs (.int .i64 c.pl) (.int .i64 c.ps) (.list (c.kn.map pk)) x (allS c.rs.length) c.rs) (hent := ent54) (k := ?_)
  refine dz 5 [0, 0, 0, 4, 15] (h := ?_)
  refine de 5 (h := ?_)
  refine cl [3, 4, 5, 6, 17] (k := ?_)
  repeat refine gwp_seq ?_
  refine gwp_block ?_
  repeat refine gwp_seq ?_
  refine rf 10000 99001 [18, 19] (fun k (_ : Nat) A1 => (∀ e ∈ (selN x (allS c.rs.length) c.rs c.rs.length).take k, holN x c.rs e.1 = e.2.f) ∧ A1 = A) (fun _ => [(130, .cells [.p (.int .i64 x)] 1), (140, .cells [.p (.int .i64 0)] 0), (150, .cells [.p (.int .i64 0)] 0), (160, .cells [.ptr [.p (.int .i64 c.pl), .p (.int .i64 c.ps), .p (.list (c.kn.map pk)), .p (.list (c.rs.map pr)), .p (.int .i64 c.ms), .ptr ((mat (D (eF c.kn (-1)))).map G.p), .map 5000]] 0), (5000, .map [])]) (fun e z A1 => e = .ret ∧ brk c x = some z ∧ A1 = A) (fun _ z => [(130, .cells [.p (.int .i64 x)] 1), (140, .cells [.p (.int .i64 (z : Nat))] 0), (150, .cells [.p (.int .i64 0)] 0), (160, .cells [.ptr [.p (.int .i64 c.pl), .p (.int .i64 c.ps), .p (.list (c.kn.map pk)), .p (.list (c.rs.map pr)), .p (.int .i64 c.ms), .ptr ((mat (D (eF c.kn (-1)))).map G.p), .map 5000]] 0), (5000, .map [])]) [] [.k, .k, .k] (it := it_recs (.int .i64 c.pl) (.int .i64 c.ps) (.list (c.kn.map pk)) x (allS c.rs.length) c.rs (allS_lt (by omega)) (by omega)) (hent := ent96) (xs := ((selN x (allS c.rs.length) c.rs c.rs.length).map fun e => [.int .i64 (e.1 : Nat), pr e.2])) (hlen := fun x hx => by obtain ⟨w, _, rfl⟩ := List.mem_map.1 hx; rfl) (h0 := ?_) (round := fun k z A1 x hI hx lp bs C1 hN1 hL1 => ?_) (hK := fun e z A1 hK => ?_) (hI := fun z A1 hI => ?_)
  · exact ⟨0, ⟨fun e h => by simp at h, rfl⟩, rfl⟩
  · obtain ⟨hl, rfl⟩ := hI
    rw [List.getElem?_map] at hx
    obtain ⟨e, he, rfl⟩ := Option.map_eq_some_iff.1 hx
    have hel := sel_mem _ e (List.mem_of_getElem? he)
    have he1 := hel.1
    clear hel
    replace hN1 : C1.N = 28 := hN1.trans hN
    refine (?_ : gwp C1 (some lp) _ _ (sg ((19, .p (pr e.2)) :: (18, .p (.int .i64 (e.1 : Nat))) :: _) [(130, .cells [.p (.int .i64 x)] 1), (140, .cells [.p (.int .i64 0)] 0), (150, .cells [.p (.int .i64 0)] 0), (160, .cells [.ptr [.p (.int .i64 c.pl), .p (.int .i64 c.ps), .p (.list (c.kn.map pk)), .p (.list (c.rs.map pr)), .p (.int .i64 c.ms), .ptr ((mat (D (eF c.kn (-1)))).map G.p), .map 5000]] 0), (5000, .map [])] A1 []))
    repeat refine gwp_seq ?_
    refine gwp_region ?_
    refine v0 (k := ?_)
    refine nil0 ?_
    refine cl [3, 4, 5, 6, 7, 19] (k := ?_)
    repeat refine gwp_seq ?_
    refine gwp_region ?_
    refine n1 10180 false (hc := kVg1.h {}) (k := ?_)
    refine s1 (hc := kVg1.h {}) (k := ?_)
    refine nil0 ?_
    refine ⟨rfl, fun bs2 C2 hN2 hL2 hr2 => ?_⟩
    replace hN2 : C2.N = 28 := hN2.trans hN
    refine (?_ : gwp C2 (some lp) _ _ (sg _ _ _ []))
    repeat refine gwp_seq ?_
    refine gwp_block ?_
    repeat refine gwp_seq ?_
    refine rd ?_
    refine d0 0 (k := ?_)
    refine d0 1 (k := ?_)
    refine d0 2 (k := ?_)
    refine doc0 3 [] [] [7, 0, 0] none (spec := s_holder (.int .i64 c.pl) (.int .i64 c.ps) (.list (c.kn.map pk)) x c.rs e.1 (by omega) (by omega)) (hent := ent47) (k := ?_)
    refine d0 4 (k := ?_)
    refine d0 5 (k := ?_)
    refine d0 6 (k := ?_)
    refine dz 7 [0, 0, 0, 7, 0, 16, 63] (h := ?_)
    refine de 7 (h := ?_)
    repeat refine gwp_seq ?_
    refine cB (k1 := fun hb1 => ?_) (k0 := fun hb1 => ?_)
    · replace hb1 := hB.h {} hb1
      try rw [eqI] at hb1
      repeat refine gwp_seq ?_
      refine gwp_region ?_
      refine v0 (k := ?_)
      refine s1 (hc := kVg1.h {}) (k := ?_)
      refine s1 (hc := kVg1.h {}) (k := ?_)
      refine nil0 ?_
      repeat refine gwp_seq ?_
      refine gwp_ret ?_
      repeat (first | refine gthen_ret ?_ | refine gblock_ret ?_ | refine gnoGoto_ret ?_)
      refine ⟨_, e.1, lc [130, 140, 150, 160, 5000], rfl, rfl, brk_some hl he (by omega), rfl⟩
    · replace hb1 := hB.h {} hb1
      try rw [eqI] at hb1
      repeat refine gwp_seq ?_
      refine gwp_skip ?_
      refine ⟨_, 0, lc [130, 140, 150, 160, 5000], rfl, ?_, rfl⟩
      exact brk_step hl he (by omega)
  · obtain ⟨rfl, hz, rfl⟩ := hK
    repeat (first | refine gthen_ret ?_ | refine gblock_ret ?_ | refine gnoGoto_ret ?_)
    refine finD_ret ?_
    try refine om (h3 := by simp [hpIds, obIdl, G.idl, G.idls, idls_p, mkHp_cons, mkHp_nil]) (h := ?_)
    first
    | (have hkk := hz; refine ocall [150] [(0, 150)] (spec := d_none52 0) (hent := ent52) (h := ?_))
    | (refine ocall [150] [(0, 150)] (spec := d_none52 4) (hent := ent52) (h := ?_))
    refine out_nil ?_
    refine fp2 (hR := ?_)
    first
    | (rw [brkV_some hz]; done)
    | (rw [brkV_none (brk_none hl)]; done)
  · obtain ⟨hl, rfl⟩ := hI
    rw [List.length_map, List.take_length] at hl
    refine cl [4, 5] (k := ?_)
    repeat refine gwp_seq ?_
    refine gwp_region ?_
    refine s1 (hc := kVg1.h {}) (k := ?_)
    refine s1 (hc := kVg1.h {}) (k := ?_)
    refine nil0 ?_
    repeat refine gwp_seq ?_
    refine gwp_ret ?_
    repeat (first | refine gthen_ret ?_ | refine gblock_ret ?_ | refine gnoGoto_ret ?_)
    refine finD_ret ?_
    try refine om (h3 := by simp [hpIds, obIdl, G.idl, G.idls, idls_p, mkHp_cons, mkHp_nil]) (h := ?_)
    first
    | (have hkk := hz; refine ocall [150] [(0, 150)] (spec := d_none52 0) (hent := ent52) (h := ?_))
    | (refine ocall [150] [(0, 150)] (spec := d_none52 4) (hent := ent52) (h := ?_))
    refine out_nil ?_
    refine fp2 (hR := ?_)
    first
    | (rw [brkV_some hz]; done)
    | (rw [brkV_none (brk_none hl)]; done)
end Go.Proofs.Ytagdholenfkeaaa

/- What the program says of any chain. -/
namespace Go.Proofs.Ytagdholenfkeaaa
open Go.Gh
set_option maxRecDepth 100000
set_option maxHeartbeats 4000000
/-- The answers, with their errors. -/
def holdA (c : Ch) (x w : Int) : Int × Int := if c.valid = true then if holdQ c x w = true then (holN x c.rs w.toNat, 0) else (0, 2) else (0, 1)
def brkA (c : Ch) (x : Int) : Int × Int := if c.valid = true then if inQ x c.pl = true then brkV c x else (0, 2) else (0, 1)
def pathA (c : Ch) (x w : Int) : List Nat × Int :=
  if c.valid = true then if pathQ c x w = true then
    match c.rs[w.toNat]? with
    | some r => if (D (eF c.kn (-1))) (holN x c.rs w.toNat).toNat r.f.toNat < 1048576 then (pathL c.kn (D (eF c.kn (-1))) c.ps.toNat r.f.toNat ((D (eF c.kn (-1))) (holN x c.rs w.toNat).toNat r.f.toNat).toNat (holN x c.rs w.toNat).toNat, 0) else ([], 4)
    | none => ([], 4)
  else ([], 2) else ([], 1)
def leastA (c : Ch) : Int × Int := if c.valid = true then if leastC c < 1048576 then (leastC c, 0) else (0, 10) else (0, 1)
def whrA (c : Ch) (x : Int) : Nat × Int := if c.valid = true then if inQ x c.pl = true then if leastC c ≤ c.ms then (whereC c x, 0) else (0, 10) else (0, 2) else (0, 1)
def hanA (c : Ch) (x : Int) : (Nat × Nat) × Int := if c.valid = true then if inQ x c.pl = true then if leastC c ≤ c.ms then ((setN (surQ c x) c.ps.toNat, setN (canQ c x) c.ps.toNat), 0) else ((0, 0), 10) else ((0, 0), 2) else ((0, 0), 1)
def hldA (c : Ch) (x : Int) : (Nat × Nat) × Int := if c.valid = true then if inQ x c.ps = true then if leastC c ≤ c.ms then ((sureH c x.toNat c.pl.toNat, canH c x.toNat c.pl.toNat), 0) else ((0, 0), 10) else ((0, 0), 2) else ((0, 0), 1)
def drpA (c : Ch) : Nat × Int := if c.valid = true then (dropV c, 0) else (0, 1)
theorem c_hold (c : Ch) (h1 : c.kn.length ≤ 1048576) (h2 : c.rs.length ≤ 1048576) (x w : Int) : PSpec Try.prog 15 [.agg [.int .i64 c.pl, .int .i64 c.ps, .list (c.kn.map pk), .list (c.rs.map pr), .int .i64 c.ms], .int .i64 x, .int .i64 w] (.ok (.tuple [.int .i64 ((holdA c x w).1 : Int), .int .i64 (holdA c x w).2])) := by
  by_cases hv : c.valid = true
  · by_cases hq : holdQ c x w = true
    · rw [holdA, if_pos hv, if_pos hq]
      obtain ⟨n, rfl⟩ : ∃ n : Nat, w = n := ⟨w.toNat, by simp only [holdQ, inQ, Bool.and_eq_true, decide_eq_true_eq] at hq; omega⟩
      exact fun E A => p_holder_t c hv x n hq
    · rw [holdA, if_pos hv, if_neg hq]
      exact fun E A => p_holder_r c hv x w (by simpa using hq)
  · rw [holdA, if_neg hv]
    exact fun E A => p_holder_f c h1 h2 (by simpa using hv) x w
theorem c_brk (c : Ch) (h1 : c.kn.length ≤ 1048576) (h2 : c.rs.length ≤ 1048576) (x : Int) : PSpec Try.prog 17 [.agg [.int .i64 c.pl, .int .i64 c.ps, .list (c.kn.map pk), .list (c.rs.map pr), .int .i64 c.ms], .int .i64 x] (.ok (.tuple [.int .i64 ((brkA c x).1 : Int), .int .i64 (brkA c x).2])) := by
  by_cases hv : c.valid = true
  · by_cases hq : inQ x c.pl = true
    · rw [brkA, if_pos hv, if_pos hq]
      exact fun E A => p_break_t c hv x hq
    · rw [brkA, if_pos hv, if_neg hq]
      exact fun E A => p_break_r c hv x (by simpa using hq)
  · rw [brkA, if_neg hv]
    exact fun E A => p_break_f c h1 h2 (by simpa using hv) x
theorem pathQ_rec {c : Ch} {x w : Int} (hq : pathQ c x w = true) : ∃ (n : Nat) (r : Rc), w = n ∧ c.rs[n]? = some r ∧ r.p = x := by
  simp only [pathQ, inQ, Bool.and_eq_true, decide_eq_true_eq] at hq
  obtain ⟨n, rfl⟩ : ∃ n : Nat, w = n := ⟨w.toNat, by omega⟩
  rw [Int.toNat_natCast] at hq
  cases hr : c.rs[n]? with
  | none => rw [hr] at hq; simp at hq
  | some r => rw [hr] at hq; exact ⟨n, r, rfl, hr, by simpa using hq.2⟩
theorem c_path (c : Ch) (h1 : c.kn.length ≤ 1048576) (h2 : c.rs.length ≤ 1048576) (x w : Int) : PSpec Try.prog 19 [.agg [.int .i64 c.pl, .int .i64 c.ps, .list (c.kn.map pk), .list (c.rs.map pr), .int .i64 c.ms], .int .i64 x, .int .i64 w] (.ok (.tuple [.list (intL (pathA c x w).1), .int .i64 (pathA c x w).2])) := by
  by_cases hv : c.valid = true
  · by_cases hq : pathQ c x w = true
    · rw [pathA, if_pos hv, if_pos hq]
      obtain ⟨n, r, rfl, hr, _⟩ := pathQ_rec hq
      rw [Int.toNat_natCast, hr]
      have hri := valid_in hv r (List.mem_of_getElem? hr)
      have hin := hol_in (p := x) (valid_in hv) n
      have e1 : holN x c.rs n = (holN x c.rs n).toNat := by omega
      have e2 : r.f = r.f.toNat := by omega
      by_cases hd : D (eF c.kn (-1)) (holN x c.rs n).toNat r.f.toNat < 1048576
      · simp only []
        rw [if_pos hd]
        exact fun E A => p_path_t c hv x n hq _ _ r hr e1 e2 (by omega) (by omega) hd
      · simp only []
        rw [if_neg hd]
        exact fun E A => p_path_n c hv x n hq _ _ r hr e1 e2 (by omega) (by omega) hd
    · rw [pathA, if_pos hv, if_neg hq]
      exact fun E A => p_path_r c hv x w (by simpa using hq)
  · rw [pathA, if_neg hv]
    exact fun E A => p_path_f c h1 h2 (by simpa using hv) x w
theorem c_least (c : Ch) (h1 : c.kn.length ≤ 1048576) (h2 : c.rs.length ≤ 1048576) : PSpec Try.prog 21 [.agg [.int .i64 c.pl, .int .i64 c.ps, .list (c.kn.map pk), .list (c.rs.map pr), .int .i64 c.ms]] (.ok (.tuple [.int .i64 ((leastA c).1 : Int), .int .i64 (leastA c).2])) := by
  by_cases hv : c.valid = true
  · by_cases hc : leastC c < 1048576
    · rw [leastA, if_pos hv, if_pos hc]
      exact fun E A => p_least_t c hv hc
    · rw [leastA, if_pos hv, if_neg hc]
      exact fun E A => p_least_c c hv hc
  · rw [leastA, if_neg hv]
    exact fun E A => p_least_f c h1 h2 (by simpa using hv)
theorem c_where (c : Ch) (h1 : c.kn.length ≤ 1048576) (h2 : c.rs.length ≤ 1048576) (x : Int) : PSpec Try.prog 24 [.agg [.int .i64 c.pl, .int .i64 c.ps, .list (c.kn.map pk), .list (c.rs.map pr), .int .i64 c.ms], .int .i64 x] (.ok (.tuple [.int .i64 ((whrA c x).1 : Nat), .int .i64 (whrA c x).2])) := by
  by_cases hv : c.valid = true
  · by_cases hq : inQ x c.pl = true
    · by_cases hc : leastC c ≤ c.ms
      · rw [whrA, if_pos hv, if_pos hq, if_pos hc]
        exact fun E A => p_where_t c hv x hq hc
      · rw [whrA, if_pos hv, if_pos hq, if_neg hc]
        exact fun E A => p_where_c c hv x hq hc
    · rw [whrA, if_pos hv, if_neg hq]
      exact fun E A => p_where_r c hv x (by simpa using hq)
  · rw [whrA, if_neg hv]
    exact fun E A => p_where_f c h1 h2 (by simpa using hv) x
theorem c_hands (c : Ch) (h1 : c.kn.length ≤ 1048576) (h2 : c.rs.length ≤ 1048576) (x : Int) : PSpec Try.prog 26 [.agg [.int .i64 c.pl, .int .i64 c.ps, .list (c.kn.map pk), .list (c.rs.map pr), .int .i64 c.ms], .int .i64 x] (.ok (.tuple [.int .i64 ((hanA c x).1.1 : Nat), .int .i64 ((hanA c x).1.2 : Nat), .int .i64 (hanA c x).2])) := by
  by_cases hv : c.valid = true
  · by_cases hq : inQ x c.pl = true
    · by_cases hc : leastC c ≤ c.ms
      · rw [hanA, if_pos hv, if_pos hq, if_pos hc]
        exact fun E A => p_hands_t c hv x hq hc
      · rw [hanA, if_pos hv, if_pos hq, if_neg hc]
        exact fun E A => p_hands_c c hv x hq hc
    · rw [hanA, if_pos hv, if_neg hq]
      exact fun E A => p_hands_r c hv x (by simpa using hq)
  · rw [hanA, if_neg hv]
    exact fun E A => p_hands_f c h1 h2 (by simpa using hv) x
theorem c_holds (c : Ch) (h1 : c.kn.length ≤ 1048576) (h2 : c.rs.length ≤ 1048576) (x : Int) : PSpec Try.prog 28 [.agg [.int .i64 c.pl, .int .i64 c.ps, .list (c.kn.map pk), .list (c.rs.map pr), .int .i64 c.ms], .int .i64 x] (.ok (.tuple [.int .i64 ((hldA c x).1.1 : Nat), .int .i64 ((hldA c x).1.2 : Nat), .int .i64 (hldA c x).2])) := by
  by_cases hv : c.valid = true
  · by_cases hq : inQ x c.ps = true
    · by_cases hc : leastC c ≤ c.ms
      · rw [hldA, if_pos hv, if_pos hq, if_pos hc]
        have hn := valid_num hv
        obtain ⟨n, rfl⟩ : ∃ n : Nat, x = n := ⟨x.toNat, by simp only [inQ, Bool.and_eq_true, decide_eq_true_eq] at hq; omega⟩
        have hn8 : n < 8 := by simp only [inQ, Bool.and_eq_true, decide_eq_true_eq] at hq; omega
        exact fun E A => p_holds_t c hv n hq hn8 hc
      · rw [hldA, if_pos hv, if_pos hq, if_neg hc]
        exact fun E A => p_holds_c c hv x hq hc
    · rw [hldA, if_pos hv, if_neg hq]
      exact fun E A => p_holds_r c hv x (by simpa using hq)
  · rw [hldA, if_neg hv]
    exact fun E A => p_holds_f c h1 h2 (by simpa using hv) x
theorem c_drop (c : Ch) (h1 : c.kn.length ≤ 1048576) (h2 : c.rs.length ≤ 1048576) : PSpec Try.prog 30 [.agg [.int .i64 c.pl, .int .i64 c.ps, .list (c.kn.map pk), .list (c.rs.map pr), .int .i64 c.ms]] (.ok (.tuple [.int .i64 ((drpA c).1 : Nat), .int .i64 (drpA c).2])) := by
  by_cases hv : c.valid = true
  · rw [drpA, if_pos hv]
    exact fun E A => p_drop_t c hv
  · rw [drpA, if_neg hv]
    exact fun E A => p_drop_f c h1 h2 (by simpa using hv)
end Go.Proofs.Ytagdholenfkeaaa

/- The chain of the chapter's examples; its distances as a table. -/
namespace Go.Proofs.Ytagdholenfkeaaa
set_option maxRecDepth 100000
/-- A table as a list of 64. -/
def fT (T : List Int) : Mx := fun i k => if i < 8 ∧ k < 8 then T.getD (i * 8 + k) 0 else if i = k then 0 else NEV
def tab (f : Mx) : List Int := (List.range 64).map fun q => f (q / 8) (q % 8)
def turnT (m : Nat) (T : List Int) : List Int := (List.range 64).map fun q => min (T.getD q 0) (T.getD (q / 8 * 8 + m) 0 + T.getD (m * 8 + q % 8) 0)
theorem tab_at (f : Mx) {i k : Nat} (hi : i < 8) (hk : k < 8) : (tab f).getD (i * 8 + k) 0 = f i k := by
  rw [List.getD_eq_getElem?_getD, tab, List.getElem?_map, List.getElem?_range (by omega), Option.map_some, Option.getD_some, show (i * 8 + k) / 8 = i by omega, show (i * 8 + k) % 8 = k by omega]
theorem tab_turn (f : Mx) {m : Nat} (hm : m < 8) : tab (ph m f) = turnT m (tab f) := by
  unfold turnT
  rw [tab]
  apply List.map_congr_left
  intro q hq
  have hq := List.mem_range.1 hq
  have e : q = q / 8 * 8 + q % 8 := by omega
  rw [tab_at f (show q / 8 < 8 by omega) hm, tab_at f hm (show q % 8 < 8 by omega)]
  have := tab_at f (show q / 8 < 8 by omega) (show q % 8 < 8 by omega)
  rw [← e] at this
  rw [this, ph]
theorem ph_out {f : Mx} (hn : MOk f) (h : ∀ i k, ¬ (i < 8 ∧ k < 8) → f i k = if i = k then 0 else NEV) (m : Nat) (hm : m < 8) : ∀ i k, ¬ (i < 8 ∧ k < 8) → ph m f i k = if i = k then 0 else NEV := fun i k hik => by
  have h1 := h i k hik
  have n1 := hn.nn i m; have n2 := hn.nn m k
  have l1 := hn.le i k
  simp only [ph]
  by_cases e : i = k
  · rw [h1, if_pos e]; omega
  · rw [h1, if_neg e]
    by_cases hi : i < 8
    · have := h m k (by omega)
      rw [if_neg (by omega)] at this; omega
    · have := h i m (by omega)
      rw [if_neg (by omega)] at this; omega
theorem phs_out {e : Nat → Nat → Bool} (he : ∀ a b, e a b = true → a < 8 ∧ b < 8) : ∀ m, m ≤ 8 → ∀ i k, ¬ (i < 8 ∧ k < 8) → phs (ini e) m i k = if i = k then 0 else NEV
  | 0, _ => fun i k hik => by
    simp only [phs, ini]
    by_cases hk : i = k
    · rw [if_pos hk, if_pos hk]
    · rw [if_neg hk, if_neg hk, if_neg fun h => hik (he i k h)]
  | m + 1, hm => ph_out ((ini_ok e).turns m) (phs_out he m (by omega)) m (by omega)
theorem D_tab {e : Nat → Nat → Bool} (he : ∀ a b, e a b = true → a < 8 ∧ b < 8) {T0 T1 T2 T3 T4 T5 T6 T7 T8 : List Int} (h0 : tab (ini e) = T0) (h1 : turnT 0 T0 = T1) (h2 : turnT 1 T1 = T2) (h3 : turnT 2 T2 = T3) (h4 : turnT 3 T3 = T4) (h5 : turnT 4 T4 = T5) (h6 : turnT 5 T5 = T6) (h7 : turnT 6 T6 = T7) (h8 : turnT 7 T7 = T8) : D e = fT T8 := by
  have h : tab (D e) = T8 := by
    subst h0 h1 h2 h3 h4 h5 h6 h7 h8
    simp only [D, phs, tab_turn, Nat.reduceLT]
  funext i k
  by_cases hik : i < 8 ∧ k < 8
  · rw [fT, if_pos hik, ← h, tab_at _ hik.1 hik.2]
  · rw [fT, if_neg hik]; exact phs_out he 8 (Nat.le_refl _) i k hik
/-- The chain of the examples. -/
def smp (m : Int) : Ch := ⟨2, 5, [⟨0, 1⟩, ⟨1, 2⟩, ⟨2, 3⟩, ⟨0, 4⟩, ⟨4, 3⟩], [⟨0, 0, 1⟩, ⟨0, 2, 3⟩, ⟨1, 0, 4⟩, ⟨0, 3, 0⟩], m⟩
theorem smp_in (m but : Int) : ∀ a b, eF (smp m).kn but a b = true → a < 8 ∧ b < 8 := fun a b h => by
  simp only [eF, knowI, Bool.and_eq_true] at h
  obtain ⟨k, hk, hq⟩ := List.any_eq_true.1 h.2
  simp only [smp, List.mem_cons, List.not_mem_nil, or_false] at hk
  simp only [knowQ, Bool.or_eq_true, Bool.and_eq_true, decide_eq_true_eq] at hq
  rcases hk with rfl | rfl | rfl | rfl | rfl <;> simp only at hq <;> omega
def Tm : List Int := [0, 1, 2, 2, 1, 1048576, 1048576, 1048576, 1, 0, 1, 2, 2, 1048576, 1048576, 1048576, 2, 1, 0, 1, 2, 1048576, 1048576, 1048576, 2, 2, 1, 0, 1, 1048576, 1048576, 1048576, 1, 2, 2, 1, 0, 1048576, 1048576, 1048576, 1048576, 1048576, 1048576, 1048576, 1048576, 0, 1048576, 1048576, 1048576, 1048576, 1048576, 1048576, 1048576, 1048576, 0, 1048576, 1048576, 1048576, 1048576, 1048576, 1048576, 1048576, 1048576, 0]
theorem D_smpm (m : Int) : D (eF (smp m).kn (-1)) = fT Tm :=
  D_tab (smp_in m _) (T0 := [0, 1, 1048576, 1048576, 1, 1048576, 1048576, 1048576, 1, 0, 1, 1048576, 1048576, 1048576, 1048576, 1048576, 1048576, 1, 0, 1, 1048576, 1048576, 1048576, 1048576, 1048576, 1048576, 1, 0, 1, 1048576, 1048576, 1048576, 1, 1048576, 1048576, 1, 0, 1048576, 1048576, 1048576, 1048576, 1048576, 1048576, 1048576, 1048576, 0, 1048576, 1048576, 1048576, 1048576, 1048576, 1048576, 1048576, 1048576, 0, 1048576, 1048576, 1048576, 1048576, 1048576, 1048576, 1048576, 1048576, 0]) (T1 := [0, 1, 1048576, 1048576, 1, 1048576, 1048576, 1048576, 1, 0, 1, 1048576, 2, 1048576, 1048576, 1048576, 1048576, 1, 0, 1, 1048576, 1048576, 1048576, 1048576, 1048576, 1048576, 1, 0, 1, 1048576, 1048576, 1048576, 1, 2, 1048576, 1, 0, 1048576, 1048576, 1048576, 1048576, 1048576, 1048576, 1048576, 1048576, 0, 1048576, 1048576, 1048576, 1048576, 1048576, 1048576, 1048576, 1048576, 0, 1048576, 1048576, 1048576, 1048576, 1048576, 1048576, 1048576, 1048576, 0]) (T2 := [0, 1, 2, 1048576, 1, 1048576, 1048576, 1048576, 1, 0, 1, 1048576, 2, 1048576, 1048576, 1048576, 2, 1, 0, 1, 3, 1048576, 1048576, 1048576, 1048576, 1048576, 1, 0, 1, 1048576, 1048576, 1048576, 1, 2, 3, 1, 0, 1048576, 1048576, 1048576, 1048576, 1048576, 1048576, 1048576, 1048576, 0, 1048576, 1048576, 1048576, 1048576, 1048576, 1048576, 1048576, 1048576, 0, 1048576, 1048576, 1048576, 1048576, 1048576, 1048576, 1048576, 1048576, 0]) (T3 := [0, 1, 2, 3, 1, 1048576, 1048576, 1048576, 1, 0, 1, 2, 2, 1048576, 1048576, 1048576, 2, 1, 0, 1, 3, 1048576, 1048576, 1048576, 3, 2, 1, 0, 1, 1048576, 1048576, 1048576, 1, 2, 3, 1, 0, 1048576, 1048576, 1048576, 1048576, 1048576, 1048576, 1048576, 1048576, 0, 1048576, 1048576, 1048576, 1048576, 1048576, 1048576, 1048576, 1048576, 0, 1048576, 1048576, 1048576, 1048576, 1048576, 1048576, 1048576, 1048576, 0]) (T4 := [0, 1, 2, 3, 1, 1048576, 1048576, 1048576, 1, 0, 1, 2, 2, 1048576, 1048576, 1048576, 2, 1, 0, 1, 2, 1048576, 1048576, 1048576, 3, 2, 1, 0, 1, 1048576, 1048576, 1048576, 1, 2, 2, 1, 0, 1048576, 1048576, 1048576, 1048576, 1048576, 1048576, 1048576, 1048576, 0, 1048576, 1048576, 1048576, 1048576, 1048576, 1048576, 1048576, 1048576, 0, 1048576, 1048576, 1048576, 1048576, 1048576, 1048576, 1048576, 1048576, 0]) (T5 := [0, 1, 2, 2, 1, 1048576, 1048576, 1048576, 1, 0, 1, 2, 2, 1048576, 1048576, 1048576, 2, 1, 0, 1, 2, 1048576, 1048576, 1048576, 2, 2, 1, 0, 1, 1048576, 1048576, 1048576, 1, 2, 2, 1, 0, 1048576, 1048576, 1048576, 1048576, 1048576, 1048576, 1048576, 1048576, 0, 1048576, 1048576, 1048576, 1048576, 1048576, 1048576, 1048576, 1048576, 0, 1048576, 1048576, 1048576, 1048576, 1048576, 1048576, 1048576, 1048576, 0]) (T6 := [0, 1, 2, 2, 1, 1048576, 1048576, 1048576, 1, 0, 1, 2, 2, 1048576, 1048576, 1048576, 2, 1, 0, 1, 2, 1048576, 1048576, 1048576, 2, 2, 1, 0, 1, 1048576, 1048576, 1048576, 1, 2, 2, 1, 0, 1048576, 1048576, 1048576, 1048576, 1048576, 1048576, 1048576, 1048576, 0, 1048576, 1048576, 1048576, 1048576, 1048576, 1048576, 1048576, 1048576, 0, 1048576, 1048576, 1048576, 1048576, 1048576, 1048576, 1048576, 1048576, 0]) (T7 := [0, 1, 2, 2, 1, 1048576, 1048576, 1048576, 1, 0, 1, 2, 2, 1048576, 1048576, 1048576, 2, 1, 0, 1, 2, 1048576, 1048576, 1048576, 2, 2, 1, 0, 1, 1048576, 1048576, 1048576, 1, 2, 2, 1, 0, 1048576, 1048576, 1048576, 1048576, 1048576, 1048576, 1048576, 1048576, 0, 1048576, 1048576, 1048576, 1048576, 1048576, 1048576, 1048576, 1048576, 0, 1048576, 1048576, 1048576, 1048576, 1048576, 1048576, 1048576, 1048576, 0]) (T8 := Tm)
    (by show tab (ini (eF (smp 0).kn (-1))) = _; decide +kernel) (by decide +kernel) (by decide +kernel) (by decide +kernel) (by decide +kernel) (by decide +kernel) (by decide +kernel) (by decide +kernel) (by decide +kernel)
def T4 : List Int := [0, 1, 2, 3, 1048576, 1048576, 1048576, 1048576, 1, 0, 1, 2, 1048576, 1048576, 1048576, 1048576, 2, 1, 0, 1, 1048576, 1048576, 1048576, 1048576, 3, 2, 1, 0, 1048576, 1048576, 1048576, 1048576, 1048576, 1048576, 1048576, 1048576, 0, 1048576, 1048576, 1048576, 1048576, 1048576, 1048576, 1048576, 1048576, 0, 1048576, 1048576, 1048576, 1048576, 1048576, 1048576, 1048576, 1048576, 0, 1048576, 1048576, 1048576, 1048576, 1048576, 1048576, 1048576, 1048576, 0]
theorem D_smp4 (m : Int) : D (eF (smp m).kn ((4 : Nat) : Int)) = fT T4 :=
  D_tab (smp_in m _) (T0 := [0, 1, 1048576, 1048576, 1048576, 1048576, 1048576, 1048576, 1, 0, 1, 1048576, 1048576, 1048576, 1048576, 1048576, 1048576, 1, 0, 1, 1048576, 1048576, 1048576, 1048576, 1048576, 1048576, 1, 0, 1048576, 1048576, 1048576, 1048576, 1048576, 1048576, 1048576, 1048576, 0, 1048576, 1048576, 1048576, 1048576, 1048576, 1048576, 1048576, 1048576, 0, 1048576, 1048576, 1048576, 1048576, 1048576, 1048576, 1048576, 1048576, 0, 1048576, 1048576, 1048576, 1048576, 1048576, 1048576, 1048576, 1048576, 0]) (T1 := [0, 1, 1048576, 1048576, 1048576, 1048576, 1048576, 1048576, 1, 0, 1, 1048576, 1048576, 1048576, 1048576, 1048576, 1048576, 1, 0, 1, 1048576, 1048576, 1048576, 1048576, 1048576, 1048576, 1, 0, 1048576, 1048576, 1048576, 1048576, 1048576, 1048576, 1048576, 1048576, 0, 1048576, 1048576, 1048576, 1048576, 1048576, 1048576, 1048576, 1048576, 0, 1048576, 1048576, 1048576, 1048576, 1048576, 1048576, 1048576, 1048576, 0, 1048576, 1048576, 1048576, 1048576, 1048576, 1048576, 1048576, 1048576, 0]) (T2 := [0, 1, 2, 1048576, 1048576, 1048576, 1048576, 1048576, 1, 0, 1, 1048576, 1048576, 1048576, 1048576, 1048576, 2, 1, 0, 1, 1048576, 1048576, 1048576, 1048576, 1048576, 1048576, 1, 0, 1048576, 1048576, 1048576, 1048576, 1048576, 1048576, 1048576, 1048576, 0, 1048576, 1048576, 1048576, 1048576, 1048576, 1048576, 1048576, 1048576, 0, 1048576, 1048576, 1048576, 1048576, 1048576, 1048576, 1048576, 1048576, 0, 1048576, 1048576, 1048576, 1048576, 1048576, 1048576, 1048576, 1048576, 0]) (T3 := [0, 1, 2, 3, 1048576, 1048576, 1048576, 1048576, 1, 0, 1, 2, 1048576, 1048576, 1048576, 1048576, 2, 1, 0, 1, 1048576, 1048576, 1048576, 1048576, 3, 2, 1, 0, 1048576, 1048576, 1048576, 1048576, 1048576, 1048576, 1048576, 1048576, 0, 1048576, 1048576, 1048576, 1048576, 1048576, 1048576, 1048576, 1048576, 0, 1048576, 1048576, 1048576, 1048576, 1048576, 1048576, 1048576, 1048576, 0, 1048576, 1048576, 1048576, 1048576, 1048576, 1048576, 1048576, 1048576, 0]) (T4 := [0, 1, 2, 3, 1048576, 1048576, 1048576, 1048576, 1, 0, 1, 2, 1048576, 1048576, 1048576, 1048576, 2, 1, 0, 1, 1048576, 1048576, 1048576, 1048576, 3, 2, 1, 0, 1048576, 1048576, 1048576, 1048576, 1048576, 1048576, 1048576, 1048576, 0, 1048576, 1048576, 1048576, 1048576, 1048576, 1048576, 1048576, 1048576, 0, 1048576, 1048576, 1048576, 1048576, 1048576, 1048576, 1048576, 1048576, 0, 1048576, 1048576, 1048576, 1048576, 1048576, 1048576, 1048576, 1048576, 0]) (T5 := [0, 1, 2, 3, 1048576, 1048576, 1048576, 1048576, 1, 0, 1, 2, 1048576, 1048576, 1048576, 1048576, 2, 1, 0, 1, 1048576, 1048576, 1048576, 1048576, 3, 2, 1, 0, 1048576, 1048576, 1048576, 1048576, 1048576, 1048576, 1048576, 1048576, 0, 1048576, 1048576, 1048576, 1048576, 1048576, 1048576, 1048576, 1048576, 0, 1048576, 1048576, 1048576, 1048576, 1048576, 1048576, 1048576, 1048576, 0, 1048576, 1048576, 1048576, 1048576, 1048576, 1048576, 1048576, 1048576, 0]) (T6 := [0, 1, 2, 3, 1048576, 1048576, 1048576, 1048576, 1, 0, 1, 2, 1048576, 1048576, 1048576, 1048576, 2, 1, 0, 1, 1048576, 1048576, 1048576, 1048576, 3, 2, 1, 0, 1048576, 1048576, 1048576, 1048576, 1048576, 1048576, 1048576, 1048576, 0, 1048576, 1048576, 1048576, 1048576, 1048576, 1048576, 1048576, 1048576, 0, 1048576, 1048576, 1048576, 1048576, 1048576, 1048576, 1048576, 1048576, 0, 1048576, 1048576, 1048576, 1048576, 1048576, 1048576, 1048576, 1048576, 0]) (T7 := [0, 1, 2, 3, 1048576, 1048576, 1048576, 1048576, 1, 0, 1, 2, 1048576, 1048576, 1048576, 1048576, 2, 1, 0, 1, 1048576, 1048576, 1048576, 1048576, 3, 2, 1, 0, 1048576, 1048576, 1048576, 1048576, 1048576, 1048576, 1048576, 1048576, 0, 1048576, 1048576, 1048576, 1048576, 1048576, 1048576, 1048576, 1048576, 0, 1048576, 1048576, 1048576, 1048576, 1048576, 1048576, 1048576, 1048576, 0, 1048576, 1048576, 1048576, 1048576, 1048576, 1048576, 1048576, 1048576, 0]) (T8 := T4)
    (by show tab (ini (eF (smp 0).kn ((4 : Nat) : Int))) = _; decide +kernel) (by decide +kernel) (by decide +kernel) (by decide +kernel) (by decide +kernel) (by decide +kernel) (by decide +kernel) (by decide +kernel) (by decide +kernel)
end Go.Proofs.Ytagdholenfkeaaa

/- What the program says of the chain of the examples. -/
namespace Go.Proofs.Ytagdholenfkeaaa
set_option maxRecDepth 100000
theorem v_smp (m : Int) (h : 0 ≤ m ∧ m ≤ 20) : (smp m).valid = true := by
  have e : (smp m).valid = ((smp 0).valid && (decide (0 ≤ m) && decide (m ≤ 20))) := by
    simp [Ch.valid, Ch.head, smp]
    grind
  rw [e, decide_eq_true h.1, decide_eq_true h.2]
  decide +kernel
theorem inQ_t {x n : Int} (h : 0 ≤ x) (h2 : x < n) : inQ x n = true := by simp only [inQ]; rw [decide_eq_true h, decide_eq_true (by omega)]; rfl
theorem least_smp (m : Int) : leastC (smp m) = 1 := by
  have : leastC (smp m) = leastC (smp 0) := rfl
  rw [this]
  simp only [leastC, D_smpm]
  decide +kernel
theorem a_hold1 : holdA (smp 1) 0 2 = (3, 0) := by decide +kernel
theorem a_hold2 : holdA (smp 1) 1 2 = (0, 0) := by decide +kernel
theorem a_brk1 : brkA (smp 1) 0 = (1, 0) := by decide +kernel
theorem a_brk2 : brkA (smp 1) 1 = (0, 4) := by decide +kernel
theorem a_path1 : pathA (smp 1) 0 1 = ([1, 2], 0) := by simp only [pathA, D_smpm]; decide +kernel
theorem a_least1 : leastA (smp 1) = (1, 0) := by rw [leastA, v_smp 1 (by omega), least_smp]; rfl
theorem whr_smp (m x : Int) (h : 1 ≤ m ∧ m ≤ 20) (hx : 0 ≤ x ∧ x ≤ 1) : whrA (smp m) x = (whereN (fT Tm) (holN x (smp m).rs 4).toNat (m - 1) 5, 0) := by
  rw [whrA, if_pos (v_smp m (by omega)), if_pos (show inQ x (smp m).pl = true from inQ_t hx.1 (Int.lt_of_le_of_lt hx.2 (show (1 : Int) < 2 by decide))), if_pos (by rw [least_smp]; exact h.1), whereC, D_smpm, least_smp]; rfl
theorem a_where1 : whrA (smp 2) 0 = (19, 0) := by rw [whr_smp 2 0 (by omega) (by omega)]; decide +kernel
theorem a_where2 : whrA (smp 1) 0 = (1, 0) := by rw [whr_smp 1 0 (by omega) (by omega)]; decide +kernel
theorem a_where3 : whrA (smp 1) 1 = (16, 0) := by rw [whr_smp 1 1 (by omega) (by omega)]; decide +kernel
theorem a_where4 : whrA (smp 2) 1 = (25, 0) := by rw [whr_smp 2 1 (by omega) (by omega)]; decide +kernel
theorem sur_smp (m : Int) : surQ (smp m) 0 = fun u => (namedN (selN 0 15 (smp m).rs 4)).testBit u || decide (totV (D (eF (smp m).kn u)) (stepsL (selN 0 15 (smp m).rs 4)) > totV (fT Tm) (stepsL (selN 0 15 (smp m).rs 4)) + (m - 1)) := by
  funext u
  simp only [surQ, sureQ, D_smpm, least_smp]; rfl
theorem can_smp (m : Int) : canQ (smp m) 0 = fun u => (namedN (selN 0 15 (smp m).rs 4)).testBit u || (stepsL (selN 0 15 (smp m).rs 4)).any (viaQ (fT Tm) (m - 1) u) := by
  funext u
  simp only [canQ, D_smpm, least_smp]; rfl
theorem setN_congr {p q : Nat → Bool} : ∀ n, (∀ i, i < n → p i = q i) → setN p n = setN q n
  | 0, _ => rfl
  | n + 1, h => by rw [setN, setN, setN_congr n fun i hi => h i (by omega), h n (by omega)]
theorem han_smp (m : Int) (h : 1 ≤ m ∧ m ≤ 20) : hanA (smp m) 0 = ((setN (fun u => (namedN (selN 0 15 (smp m).rs 4)).testBit u || decide (totV (fT T4) (stepsL (selN 0 15 (smp m).rs 4)) > totV (fT Tm) (stepsL (selN 0 15 (smp m).rs 4)) + (m - 1))) 5, setN (canQ (smp m) 0) 5), 0) := by
  rw [hanA, if_pos (v_smp m (by omega)), if_pos (by simp [inQ, smp]), if_pos (by rw [least_smp]; exact h.1)]
  rw [sur_smp, show (smp m).ps.toNat = 5 from rfl]
  have h5 := setN_congr (p := fun u => (namedN (selN 0 15 (smp m).rs 4)).testBit u || decide (totV (D (eF (smp m).kn u)) (stepsL (selN 0 15 (smp m).rs 4)) > totV (fT Tm) (stepsL (selN 0 15 (smp m).rs 4)) + (m - 1))) (q := fun u => (namedN (selN 0 15 (smp m).rs 4)).testBit u || decide (totV (fT T4) (stepsL (selN 0 15 (smp m).rs 4)) > totV (fT Tm) (stepsL (selN 0 15 (smp m).rs 4)) + (m - 1))) 5 fun i hi => ?_
  · rw [h5]
  by_cases e : i = 4
  · subst e; simp only [D_smp4]
  · have : (namedN (selN 0 15 (smp m).rs 4)).testBit i = true := by
      have e2 : namedN (selN 0 15 (smp m).rs 4) = 15 := by show namedN (selN 0 15 (smp 0).rs 4) = 15; decide +kernel
      rw [e2]
      have : i = 0 ∨ i = 1 ∨ i = 2 ∨ i = 3 := by omega
      rcases this with rfl | rfl | rfl | rfl <;> decide
    rw [this, Bool.true_or, Bool.true_or]
theorem a_hands1 : hanA (smp 2) 0 = ((15, 31), 0) := by rw [han_smp 2 (by omega), can_smp]; decide +kernel
theorem a_hands2 : hanA (smp 1) 0 = ((15, 15), 0) := by rw [han_smp 1 (by omega), can_smp]; decide +kernel
theorem hld_smp (m x : Int) (h : 1 ≤ m ∧ m ≤ 20) (hx : 0 ≤ x ∧ x ≤ 4) : hldA (smp m) x = ((sureH (smp m) x.toNat 2, canH (smp m) x.toNat 2), 0) := by
  rw [hldA, if_pos (v_smp m (by omega)), if_pos (show inQ x (smp m).ps = true from inQ_t hx.1 (Int.lt_of_le_of_lt hx.2 (show (4 : Int) < 5 by decide))), if_pos (by rw [least_smp]; exact h.1)]; rfl
theorem a_holds1 : hldA (smp 1) 4 = ((2, 2), 0) := by
  rw [hld_smp 1 4 (by omega) (by omega)]
  simp only [sureH, canH, whereC, D_smpm, least_smp]
  decide +kernel
theorem a_holds2 : hldA (smp 2) 0 = ((0, 3), 0) := by
  rw [hld_smp 2 0 (by omega) (by omega)]
  simp only [sureH, canH, whereC, D_smpm, least_smp]
  decide +kernel
theorem isD_smp (k : Int) : isD (smp k) = fun m s => decide (pop s = m) && decide (allV (fT Tm) (smp k).rs (restS 4 s) 2 ≤ k) := by
  funext m s
  simp only [isD, okD, D_smpm]; rfl
theorem a_drop1 : drpA (smp 0) = (10, 0) := by rw [drpA, if_pos (v_smp 0 (by omega)), dropV, isD_smp]; decide +kernel
theorem a_drop2 : drpA (smp 1) = (0, 0) := by rw [drpA, if_pos (v_smp 1 (by omega)), dropV, isD_smp]; decide +kernel
end Go.Proofs.Ytagdholenfkeaaa

/- The document's Ints. -/
namespace Go.Proofs.Ytagdholenfkeaaa
open Go.Gh
set_option maxRecDepth 100000
set_option maxHeartbeats 4000000
structure kWi1 (c : Prop) : Prop where
  h : c := by (first | exact True.intro | (simp only [inI]; omega) | (simp [P.size, pr, pk, all_int, allOne_p, goods_p, allOne, goods, good, G.one, P.one, P.cells] <;> first | omega | assumption | simp_all))
theorem ent23 : Enters Try.prog 23 := Enters.mk Try.func23 (by kernel_rfl) rfl
theorem s_Ints (u v : List Int) (hu : u.length ≤ 2000000) (hv : v.length ≤ 2000000) : PSpec Try.prog 23 [.list (u.map (.int .i64)), .list (v.map (.int .i64))] (.ok (.bool (decide (u = v)))) := by
  refine pspec_of Try.func23 (rfl : Try.f23.body = some _) rfl ?_
  intro E A C hN hL
  replace hN : C.N = 26 := hN
  simp only [Gh.num, List.map_cons, List.map_nil, Nat.reduceAdd]
  repeat refine gwp_seq ?_
  refine gwp_region ?_
  refine v0 (k := ?_)
  refine nil0 ?_
  refine cl [0, 1] (k := ?_)
  repeat refine gwp_seq ?_
  refine gwp_region ?_
  refine v0 (k := ?_)
  refine v0 (k := ?_)
  refine v0 (k := ?_)
  refine v0 (k := ?_)
  refine v0 (k := ?_)
  refine nil0 ?_
  repeat refine gwp_seq ?_
  refine cB (k1 := fun hb1 => ?_) (k0 := fun hb1 => ?_)
  · replace hb1 := hB.h {} hb1
    repeat refine gwp_seq ?_
    refine gwp_region ?_
    refine v0 (k := ?_)
    refine nil0 ?_
    repeat refine gwp_seq ?_
    refine gwp_ret ?_
    repeat (first | refine gthen_ret ?_ | refine gblock_ret ?_ | refine gnoGoto_ret ?_)
    refine fin_ret ?_
    refine fp (hR := ?_)
    simp only [PRes.at, GRes.ok.injEq, G.p.injEq, P.bool.injEq, and_true]
    symm
    first
    | (simp only [decide_eq_false_iff_not]; rintro rfl; omega)
    | (simp only [decide_eq_false_iff_not]; rintro rfl; rw [hx] at hy; simp_all)
    | (simp only [decide_eq_true_eq]; refine List.ext_getElem? fun j => ?_; by_cases e : j < k
       · exact hj j e
       · rw [List.getElem?_eq_none (by omega), List.getElem?_eq_none (by omega)])
  · replace hb1 := hB.h {} hb1
    repeat refine gwp_seq ?_
    refine gwp_skip ?_
    refine cl [0, 1] (k := ?_)
    repeat refine gwp_seq ?_
    refine gwp_region ?_
    refine v0 (k := ?_)
    refine nil0 ?_
    refine cl [0, 1, 5] (k := ?_)
    repeat refine gwp_seq ?_
    refine gwp_block ?_
    repeat refine gwp_seq ?_
    refine gc_loop (fun mz σ => ∃ k : Nat, (k ≤ u.length) ∧ (k ≤ v.length) ∧ (∀ j, j < k → u[j]? = v[j]?) ∧ mz = u.length - k ∧ σ = (sg [(0, .p (.list (u.map (.int .i64)))), (1, .p (.list (v.map (.int .i64)))), (5, .p (.int .i64 k))] [] A [] : Sg E)) ?_ (fun mz σ hI => ?_)
    · refine lbeg [0, 1, 5] (hV := ?_)
      exact ⟨_, 0, by omega, by omega, fun j hj => by omega, rfl, rfl⟩
    obtain ⟨k, hk, hk2, hj, hn, rfl⟩ := hI
    repeat refine gwp_seq ?_
    refine gwp_region ?_
    refine v0 (k := ?_)
    refine v0 (k := ?_)
    refine v0 (k := ?_)
    refine v0 (k := ?_)
    refine nil0 ?_
    repeat refine gwp_seq ?_
    refine cB (k1 := fun hb2 => ?_) (k0 := fun hb2 => ?_)
    · replace hb2 := hB.h {} hb2
      repeat refine gwp_seq ?_
      refine gwp_skip ?_
      refine cl [0, 1, 5] (k := ?_)
      repeat refine gwp_seq ?_
      refine gwp_block ?_
      repeat refine gwp_seq ?_
      obtain ⟨x, hx⟩ := getE (l := u) (k := k) (by omega)
      obtain ⟨y, hy⟩ := getE (l := v) (k := k) (by omega)
      refine rd ?_
      refine d0 0 (k := ?_)
      refine d0 1 (k := ?_)
      refine d1 2 (hc := kWi1.h {}) (k := ?_)
      refine d0 3 (k := ?_)
      refine d0 4 (k := ?_)
      refine d0 5 (k := ?_)
      refine d1 6 (hc := kWi1.h {}) (k := ?_)
      refine d0 7 (k := ?_)
      refine d0 8 (k := ?_)
      refine dz 9 [0, 0, 3, 7, 0, 0, 48, 112, 255] (h := ?_)
      refine de 9 (h := ?_)
      repeat refine gwp_seq ?_
      refine cB (k1 := fun hb3 => ?_) (k0 := fun hb3 => ?_)
      · replace hb3 := hB.h {} hb3
        repeat refine gwp_seq ?_
        refine gwp_region ?_
        refine v0 (k := ?_)
        refine nil0 ?_
        repeat refine gwp_seq ?_
        refine gwp_ret ?_
        repeat (first | refine gthen_ret ?_ | refine gblock_ret ?_ | refine gnoGoto_ret ?_)
        refine fin_ret ?_
        refine fp (hR := ?_)
        simp only [PRes.at, GRes.ok.injEq, G.p.injEq, P.bool.injEq, and_true]
        symm
        first
        | (simp only [decide_eq_false_iff_not]; rintro rfl; omega)
        | (simp only [decide_eq_false_iff_not]; rintro rfl; rw [hx] at hy; simp_all)
        | (simp only [decide_eq_true_eq]; refine List.ext_getElem? fun j => ?_; by_cases e : j < k
           · exact hj j e
           · rw [List.getElem?_eq_none (by omega), List.getElem?_eq_none (by omega)])
      · replace hb3 := hB.h {} hb3
        repeat refine gwp_seq ?_
        refine gwp_skip ?_
        refine cl [0, 1, 5] (k := ?_)
        repeat refine gwp_seq ?_
        refine gwp_region ?_
        refine v0 (k := ?_)
        refine v1 (hc := kWi1.h {}) (k := ?_)
        refine v0 (k := ?_)
        refine nil0 ?_
        refine lend [0, 1, 5] (h := ?_) (hV := ?_) (n' := u.length - (k + 1))
        · omega
        exact ⟨k + 1, by omega, by omega, fun j hj2 => by
            by_cases e : j = k
            · subst e; rw [hx, hy]; simp_all
            · exact hj j (by omega), rfl, rfl⟩
    · replace hb2 := hB.h {} hb2
      repeat refine gwp_seq ?_
      refine gwp_exit ?_
      repeat (first | refine gthen_exit ?_ | refine gnoGoto_exit ?_ | refine gblock_here ?_ | refine gblock_out rfl ?_)
      refine cl [] (k := ?_)
      repeat refine gwp_seq ?_
      refine gwp_region ?_
      refine v0 (k := ?_)
      refine nil0 ?_
      repeat refine gwp_seq ?_
      refine gwp_ret ?_
      repeat (first | refine gthen_ret ?_ | refine gblock_ret ?_ | refine gnoGoto_ret ?_)
      refine fin_ret ?_
      refine fp (hR := ?_)
      simp only [PRes.at, GRes.ok.injEq, G.p.injEq, P.bool.injEq, and_true]
      symm
      first
      | (simp only [decide_eq_false_iff_not]; rintro rfl; omega)
      | (simp only [decide_eq_false_iff_not]; rintro rfl; rw [hx] at hy; simp_all)
      | (simp only [decide_eq_true_eq]; refine List.ext_getElem? fun j => ?_; by_cases e : j < k
         · exact hj j e
         · rw [List.getElem?_eq_none (by omega), List.getElem?_eq_none (by omega)])
end Go.Proofs.Ytagdholenfkeaaa

/- The statements: alive; ChainNames. -/
namespace Go.Proofs.Ytagdholenfkeaaa
open Go.Gh
set_option maxRecDepth 100000
set_option maxHeartbeats 4000000
structure kCd1 (c : Prop) : Prop where
  h : c := by (first | exact True.intro | (simp only [inI]; omega) | (simp [P.size, pr, pk, all_int, allOne_p, goods_p, allOne, goods, good, G.one, P.one, P.cells] <;> first | omega | assumption | simp_all))
/-- A chain as a value. -/
def chP (c : Ch) : P := .agg [.int .i64 c.pl, .int .i64 c.ps, .list (c.kn.map pk), .list (c.rs.map pr), .int .i64 c.ms]
theorem k_smp (m : Int) : (smp m).kn.length ≤ 1048576 := by show 5 ≤ 1048576; omega
theorem r_smp (m : Int) : (smp m).rs.length ≤ 1048576 := by show 4 ≤ 1048576; omega
theorem ent32 : Enters Try.prog 32 := Enters.mk Try.func32 (by kernel_rfl) rfl
theorem l_sample (m : Int) : PSpec Try.prog 32 [.int .i64 m] (.ok (chP (smp m))) := by
  refine pspec_of Try.func32 (rfl : Try.f32.body = some _) rfl ?_
  intro E A C hN hL
  replace hN : C.N = 16 := hN
  simp only [Gh.num, List.map_cons, List.map_nil, Nat.reduceAdd]
  repeat refine gwp_seq ?_
  refine gwp_region ?_
  refine n1 120 false (hc := kCd1.h {}) (k := ?_)
  refine nil0 ?_
  refine cl [0, 2] (k := ?_)
  repeat refine gwp_seq ?_
  refine gwp_region ?_
  refine v0 (k := ?_)
  refine v0 (k := ?_)
  refine v0 (k := ?_)
  refine v0 (k := ?_)
  refine v0 (k := ?_)
  refine n1 180 false (hc := kCd1.h {}) (k := ?_)
  refine v0 (k := ?_)
  refine v0 (k := ?_)
  refine v0 (k := ?_)
  refine v0 (k := ?_)
  refine n1 230 false (hc := kCd1.h {}) (k := ?_)
  refine v0 (k := ?_)
  refine v0 (k := ?_)
  refine s1 (hc := kCd1.h {}) (k := ?_)
  refine nil0 ?_
  repeat refine gwp_seq ?_
  refine gwp_ret ?_
  repeat (first | refine gthen_ret ?_ | refine gblock_ret ?_ | refine gnoGoto_ret ?_)
  refine fin_ret ?_
  refine fp (hR := ?_)
  rfl
theorem v_hold1 : PSpec Try.prog 15 [chP (smp 1), .int .i64 0, .int .i64 2] (.ok (.tuple [.int .i64 3, .int .i64 0])) := by
  have h := c_hold (smp 1) (k_smp _) (r_smp _) 0 2
  rw [a_hold1] at h
  exact h
theorem v_hold2 : PSpec Try.prog 15 [chP (smp 1), .int .i64 1, .int .i64 2] (.ok (.tuple [.int .i64 0, .int .i64 0])) := by
  have h := c_hold (smp 1) (k_smp _) (r_smp _) 1 2
  rw [a_hold2] at h
  exact h
theorem v_brk1 : PSpec Try.prog 17 [chP (smp 1), .int .i64 0] (.ok (.tuple [.int .i64 1, .int .i64 0])) := by
  have h := c_brk (smp 1) (k_smp _) (r_smp _) 0
  rw [a_brk1] at h
  exact h
theorem v_brk2 : PSpec Try.prog 17 [chP (smp 1), .int .i64 1] (.ok (.tuple [.int .i64 0, .int .i64 4])) := by
  have h := c_brk (smp 1) (k_smp _) (r_smp _) 1
  rw [a_brk2] at h
  exact h
theorem v_path1 : PSpec Try.prog 19 [chP (smp 1), .int .i64 0, .int .i64 1] (.ok (.tuple [.list [.int .i64 1, .int .i64 2], .int .i64 0])) := by
  have h := c_path (smp 1) (k_smp _) (r_smp _) 0 1
  rw [a_path1] at h
  exact h
theorem v_least1 : PSpec Try.prog 21 [chP (smp 1)] (.ok (.tuple [.int .i64 1, .int .i64 0])) := by
  have h := c_least (smp 1) (k_smp _) (r_smp _)
  rw [a_least1] at h
  exact h
theorem v_where1 : PSpec Try.prog 24 [chP (smp 2), .int .i64 0] (.ok (.tuple [.int .i64 19, .int .i64 0])) := by
  have h := c_where (smp 2) (k_smp _) (r_smp _) 0
  rw [a_where1] at h
  exact h
theorem v_where2 : PSpec Try.prog 24 [chP (smp 1), .int .i64 0] (.ok (.tuple [.int .i64 1, .int .i64 0])) := by
  have h := c_where (smp 1) (k_smp _) (r_smp _) 0
  rw [a_where2] at h
  exact h
theorem v_where3 : PSpec Try.prog 24 [chP (smp 1), .int .i64 1] (.ok (.tuple [.int .i64 16, .int .i64 0])) := by
  have h := c_where (smp 1) (k_smp _) (r_smp _) 1
  rw [a_where3] at h
  exact h
theorem v_where4 : PSpec Try.prog 24 [chP (smp 2), .int .i64 1] (.ok (.tuple [.int .i64 25, .int .i64 0])) := by
  have h := c_where (smp 2) (k_smp _) (r_smp _) 1
  rw [a_where4] at h
  exact h
theorem v_hands1 : PSpec Try.prog 26 [chP (smp 2), .int .i64 0] (.ok (.tuple [.int .i64 15, .int .i64 31, .int .i64 0])) := by
  have h := c_hands (smp 2) (k_smp _) (r_smp _) 0
  rw [a_hands1] at h
  exact h
theorem v_hands2 : PSpec Try.prog 26 [chP (smp 1), .int .i64 0] (.ok (.tuple [.int .i64 15, .int .i64 15, .int .i64 0])) := by
  have h := c_hands (smp 1) (k_smp _) (r_smp _) 0
  rw [a_hands2] at h
  exact h
theorem v_holds1 : PSpec Try.prog 28 [chP (smp 1), .int .i64 4] (.ok (.tuple [.int .i64 2, .int .i64 2, .int .i64 0])) := by
  have h := c_holds (smp 1) (k_smp _) (r_smp _) 4
  rw [a_holds1] at h
  exact h
theorem v_holds2 : PSpec Try.prog 28 [chP (smp 2), .int .i64 0] (.ok (.tuple [.int .i64 0, .int .i64 3, .int .i64 0])) := by
  have h := c_holds (smp 2) (k_smp _) (r_smp _) 0
  rw [a_holds2] at h
  exact h
theorem v_drop1 : PSpec Try.prog 30 [chP (smp 0)] (.ok (.tuple [.int .i64 10, .int .i64 0])) := by
  have h := c_drop (smp 0) (k_smp _) (r_smp _)
  rw [a_drop1] at h
  exact h
theorem v_drop2 : PSpec Try.prog 30 [chP (smp 1)] (.ok (.tuple [.int .i64 0, .int .i64 0])) := by
  have h := c_drop (smp 1) (k_smp _) (r_smp _)
  rw [a_drop2] at h
  exact h
theorem a_ints : PSpec Try.prog 23 [.list [.int .i64 1, .int .i64 2], .list [.int .i64 1, .int .i64 2]] (.ok (.bool true)) := by
  have h := s_Ints [1, 2] [1, 2] (by decide) (by decide)
  rw [show decide (([1, 2] : List Int) = [1, 2]) = true from by decide] at h
  exact h
theorem ent14 : Enters Try.prog 14 := Enters.mk Try.func14 (by kernel_rfl) rfl
theorem l_alive  : PSpec Try.prog 14 [] (.ok (.bool true)) := by
  refine pspec_of Try.func14 (rfl : Try.f14.body = some _) rfl ?_
  intro E A C hN hL
  replace hN : C.N = 132 := hN
  simp only [Gh.num, List.map_cons, List.map_nil, Nat.reduceAdd]
  have hdt : ∀ (i : Decidable True), @decide True i = true := fun i => decide_eq_true trivial
  repeat refine gwp_seq ?_
  refine gwp_region ?_
  refine v0 (k := ?_)
  refine nil0 ?_
  refine cl [] (k := ?_)
  repeat refine gwp_seq ?_
  refine gwp_region ?_
  refine pc0 (spec := l_sample 1) (hent := ent32) (k := ?_)
  refine pc0 (spec := v_hold1) (hent := ent15) (k := ?_)
  refine v0 (k := ?_)
  refine v0 (k := ?_)
  refine v0 (k := ?_)
  refine v0 (k := ?_)
  refine v0 (k := ?_)
  refine nil0 ?_
  refine cl [1, 2] (k := ?_)
  repeat refine gwp_seq ?_
  refine gwp_region ?_
  refine pc0 (spec := l_sample 1) (hent := ent32) (k := ?_)
  refine pc0 (spec := v_brk1) (hent := ent17) (k := ?_)
  refine v0 (k := ?_)
  refine v0 (k := ?_)
  refine v0 (k := ?_)
  refine v0 (k := ?_)
  refine v0 (k := ?_)
  refine nil0 ?_
  refine cl [1, 2, 3, 4] (k := ?_)
  repeat refine gwp_seq ?_
  refine gwp_region ?_
  refine pc0 (spec := l_sample 1) (hent := ent32) (k := ?_)
  refine pc0 (spec := v_path1) (hent := ent19) (k := ?_)
  refine v0 (k := ?_)
  refine v0 (k := ?_)
  refine v0 (k := ?_)
  refine v0 (k := ?_)
  refine v0 (k := ?_)
  refine nil0 ?_
  refine cl [1, 2, 3, 4, 5, 6] (k := ?_)
  repeat refine gwp_seq ?_
  refine gwp_region ?_
  refine pc0 (spec := l_sample 1) (hent := ent32) (k := ?_)
  refine pc0 (spec := v_least1) (hent := ent21) (k := ?_)
  refine v0 (k := ?_)
  refine v0 (k := ?_)
  refine v0 (k := ?_)
  refine v0 (k := ?_)
  refine v0 (k := ?_)
  refine nil0 ?_
  refine cl [1, 2, 3, 4, 5, 6, 7, 8] (k := ?_)
  repeat refine gwp_seq ?_
  refine gwp_region ?_
  refine pc0 (spec := l_sample 2) (hent := ent32) (k := ?_)
  refine pc0 (spec := v_where1) (hent := ent24) (k := ?_)
  refine v0 (k := ?_)
  refine v0 (k := ?_)
  refine v0 (k := ?_)
  refine v0 (k := ?_)
  refine v0 (k := ?_)
  refine nil0 ?_
  refine cl [1, 2, 3, 4, 5, 6, 7, 8, 9, 10] (k := ?_)
  repeat refine gwp_seq ?_
  refine gwp_region ?_
  refine pc0 (spec := l_sample 2) (hent := ent32) (k := ?_)
  refine pc0 (spec := v_hands1) (hent := ent26) (k := ?_)
  refine v0 (k := ?_)
  refine v0 (k := ?_)
  refine v0 (k := ?_)
  refine v0 (k := ?_)
  refine v0 (k := ?_)
  refine v0 (k := ?_)
  refine v0 (k := ?_)
  refine nil0 ?_
  refine cl [1, 2, 3, 4, 5, 6, 7, 8, 9, 10, 11, 12, 13] (k := ?_)
  repeat refine gwp_seq ?_
  refine gwp_region ?_
  refine pc0 (spec := l_sample 1) (hent := ent32) (k := ?_)
  refine pc0 (spec := v_holds1) (hent := ent28) (k := ?_)
  refine v0 (k := ?_)
  refine v0 (k := ?_)
  refine v0 (k := ?_)
  refine v0 (k := ?_)
  refine v0 (k := ?_)
  refine v0 (k := ?_)
  refine v0 (k := ?_)
  refine nil0 ?_
  refine cl [1, 2, 3, 4, 5, 6, 7, 8, 9, 10, 11, 12, 13, 14, 15, 16] (k := ?_)
  repeat refine gwp_seq ?_
  refine gwp_region ?_
  refine pc0 (spec := l_sample 0) (hent := ent32) (k := ?_)
  refine pc0 (spec := v_drop1) (hent := ent30) (k := ?_)
  refine v0 (k := ?_)
  refine v0 (k := ?_)
  refine v0 (k := ?_)
  refine v0 (k := ?_)
  refine v0 (k := ?_)
  refine nil0 ?_
  refine cl [1, 2, 3, 4, 5, 6, 7, 8, 9, 10, 11, 12, 13, 14, 15, 16, 17, 18] (k := ?_)
  repeat refine gwp_seq ?_
  refine gwp_region ?_
  refine v0 (k := ?_)
  refine v0 (k := ?_)
  refine rb 62 true (h := by (first | rfl | decide)) (k := ?_)
  refine v0 (k := ?_)
  refine w0 (k := ?_)
  refine w0 (k := ?_)
  refine rb 65 true (h := by (first | rfl | decide)) (k := ?_)
  refine v0 (k := ?_)
  refine v0 (k := ?_)
  refine w0 (k := ?_)
  refine w0 (k := ?_)
  refine rb 69 true (h := by (first | rfl | decide)) (k := ?_)
  refine v0 (k := ?_)
  refine v0 (k := ?_)
  refine w0 (k := ?_)
  refine w0 (k := ?_)
  refine rb 73 true (h := by (first | rfl | decide)) (k := ?_)
  refine v0 (k := ?_)
  refine v0 (k := ?_)
  refine w0 (k := ?_)
  refine nw 870 false (hc := kCd1.h {}) (k := ?_)
  refine pcw (spec := a_ints) (hent := ent23) (k := ?_)
  refine rb 78 true (h := by (rfl)) (k := ?_)
  refine v0 (k := ?_)
  refine v0 (k := ?_)
  refine w0 (k := ?_)
  refine w0 (k := ?_)
  refine rb 82 true (h := by (first | rfl | decide)) (k := ?_)
  refine v0 (k := ?_)
  refine v0 (k := ?_)
  refine w0 (k := ?_)
  refine w0 (k := ?_)
  refine rb 86 true (h := by (first | rfl | decide)) (k := ?_)
  refine v0 (k := ?_)
  refine v0 (k := ?_)
  refine w0 (k := ?_)
  refine w0 (k := ?_)
  refine rb 90 true (h := by (first | rfl | decide)) (k := ?_)
  refine v0 (k := ?_)
  refine v0 (k := ?_)
  refine w0 (k := ?_)
  refine w0 (k := ?_)
  refine rb 94 true (h := by (first | rfl | decide)) (k := ?_)
  refine v0 (k := ?_)
  refine v0 (k := ?_)
  refine w0 (k := ?_)
  refine w0 (k := ?_)
  refine rb 98 true (h := by (first | rfl | decide)) (k := ?_)
  refine v0 (k := ?_)
  refine v0 (k := ?_)
  refine w0 (k := ?_)
  refine w0 (k := ?_)
  refine rb 102 true (h := by (first | rfl | decide)) (k := ?_)
  refine v0 (k := ?_)
  refine v0 (k := ?_)
  refine w0 (k := ?_)
  refine w0 (k := ?_)
  refine rb 106 true (h := by (first | rfl | decide)) (k := ?_)
  refine v0 (k := ?_)
  refine v0 (k := ?_)
  refine w0 (k := ?_)
  refine w0 (k := ?_)
  refine rb 110 true (h := by (first | rfl | decide)) (k := ?_)
  refine v0 (k := ?_)
  refine v0 (k := ?_)
  refine w0 (k := ?_)
  refine w0 (k := ?_)
  refine rb 114 true (h := by (first | rfl | decide)) (k := ?_)
  refine v0 (k := ?_)
  refine v0 (k := ?_)
  refine w0 (k := ?_)
  refine w0 (k := ?_)
  refine rb 118 true (h := by (first | rfl | decide)) (k := ?_)
  refine v0 (k := ?_)
  refine v0 (k := ?_)
  refine w0 (k := ?_)
  refine w0 (k := ?_)
  refine rb 122 true (h := by (first | rfl | decide)) (k := ?_)
  refine v0 (k := ?_)
  refine v0 (k := ?_)
  refine w0 (k := ?_)
  refine w0 (k := ?_)
  refine rb 126 true (h := by (first | rfl | decide)) (k := ?_)
  refine v0 (k := ?_)
  refine v0 (k := ?_)
  refine w0 (k := ?_)
  refine w0 (k := ?_)
  refine rb 130 true (h := by (first | rfl | decide)) (k := ?_)
  refine v0 (k := ?_)
  refine v0 (k := ?_)
  refine nil0 ?_
  repeat refine gwp_seq ?_
  refine gwp_ret ?_
  repeat (first | refine gthen_ret ?_ | refine gblock_ret ?_ | refine gnoGoto_ret ?_)
  refine fin_ret ?_
  refine fp (hR := ?_)
  rfl
theorem ent5 : Enters Try.prog 5 := Enters.mk Try.func5 (by kernel_rfl) rfl
theorem l_names  : PSpec Try.prog 5 [] (.ok (.bool true)) := by
  refine pspec_of Try.func5 (rfl : Try.f5.body = some _) rfl ?_
  intro E A C hN hL
  replace hN : C.N = 132 := hN
  simp only [Gh.num, List.map_cons, List.map_nil, Nat.reduceAdd]
  have hdt : ∀ (i : Decidable True), @decide True i = true := fun i => decide_eq_true trivial
  repeat refine gwp_seq ?_
  refine gwp_region ?_
  refine v0 (k := ?_)
  refine nil0 ?_
  refine cl [] (k := ?_)
  repeat refine gwp_seq ?_
  refine gwp_region ?_
  refine pc0 (spec := l_sample 1) (hent := ent32) (k := ?_)
  refine pc0 (spec := v_hold2) (hent := ent15) (k := ?_)
  refine v0 (k := ?_)
  refine v0 (k := ?_)
  refine v0 (k := ?_)
  refine v0 (k := ?_)
  refine v0 (k := ?_)
  refine nil0 ?_
  refine cl [1, 2] (k := ?_)
  repeat refine gwp_seq ?_
  refine gwp_region ?_
  refine pc0 (spec := l_sample 1) (hent := ent32) (k := ?_)
  refine pc0 (spec := v_brk2) (hent := ent17) (k := ?_)
  refine v0 (k := ?_)
  refine v0 (k := ?_)
  refine v0 (k := ?_)
  refine v0 (k := ?_)
  refine v0 (k := ?_)
  refine nil0 ?_
  refine cl [1, 2, 4] (k := ?_)
  repeat refine gwp_seq ?_
  refine gwp_region ?_
  refine pc0 (spec := l_sample 1) (hent := ent32) (k := ?_)
  refine pc0 (spec := v_where2) (hent := ent24) (k := ?_)
  refine v0 (k := ?_)
  refine v0 (k := ?_)
  refine v0 (k := ?_)
  refine v0 (k := ?_)
  refine v0 (k := ?_)
  refine nil0 ?_
  refine cl [1, 2, 4, 5, 6] (k := ?_)
  repeat refine gwp_seq ?_
  refine gwp_region ?_
  refine pc0 (spec := l_sample 1) (hent := ent32) (k := ?_)
  refine pc0 (spec := v_where3) (hent := ent24) (k := ?_)
  refine v0 (k := ?_)
  refine v0 (k := ?_)
  refine v0 (k := ?_)
  refine v0 (k := ?_)
  refine v0 (k := ?_)
  refine nil0 ?_
  refine cl [1, 2, 4, 5, 6, 7, 8] (k := ?_)
  repeat refine gwp_seq ?_
  refine gwp_region ?_
  refine pc0 (spec := l_sample 2) (hent := ent32) (k := ?_)
  refine pc0 (spec := v_where4) (hent := ent24) (k := ?_)
  refine v0 (k := ?_)
  refine v0 (k := ?_)
  refine v0 (k := ?_)
  refine v0 (k := ?_)
  refine v0 (k := ?_)
  refine nil0 ?_
  refine cl [1, 2, 4, 5, 6, 7, 8, 9, 10] (k := ?_)
  repeat refine gwp_seq ?_
  refine gwp_region ?_
  refine pc0 (spec := l_sample 1) (hent := ent32) (k := ?_)
  refine pc0 (spec := v_hands2) (hent := ent26) (k := ?_)
  refine v0 (k := ?_)
  refine v0 (k := ?_)
  refine v0 (k := ?_)
  refine v0 (k := ?_)
  refine v0 (k := ?_)
  refine v0 (k := ?_)
  refine v0 (k := ?_)
  refine nil0 ?_
  refine cl [1, 2, 4, 5, 6, 7, 8, 9, 10, 11, 12, 13] (k := ?_)
  repeat refine gwp_seq ?_
  refine gwp_region ?_
  refine pc0 (spec := l_sample 2) (hent := ent32) (k := ?_)
  refine pc0 (spec := v_holds2) (hent := ent28) (k := ?_)
  refine v0 (k := ?_)
  refine v0 (k := ?_)
  refine v0 (k := ?_)
  refine v0 (k := ?_)
  refine v0 (k := ?_)
  refine v0 (k := ?_)
  refine v0 (k := ?_)
  refine nil0 ?_
  refine cl [1, 2, 4, 5, 6, 7, 8, 9, 10, 11, 12, 13, 14, 15, 16] (k := ?_)
  repeat refine gwp_seq ?_
  refine gwp_region ?_
  refine pc0 (spec := l_sample 1) (hent := ent32) (k := ?_)
  refine pc0 (spec := v_drop2) (hent := ent30) (k := ?_)
  refine v0 (k := ?_)
  refine v0 (k := ?_)
  refine v0 (k := ?_)
  refine v0 (k := ?_)
  refine v0 (k := ?_)
  refine nil0 ?_
  refine cl [1, 2, 4, 5, 6, 7, 8, 9, 10, 11, 12, 13, 14, 15, 16, 17, 18] (k := ?_)
  repeat refine gwp_seq ?_
  refine gwp_region ?_
  refine v0 (k := ?_)
  refine pcw (spec := l_alive) (hent := ent14) (k := ?_)
  refine rb 62 true (h := by (rfl)) (k := ?_)
  refine v0 (k := ?_)
  refine v0 (k := ?_)
  refine w0 (k := ?_)
  refine w0 (k := ?_)
  refine rb 66 true (h := by (first | rfl | decide)) (k := ?_)
  refine v0 (k := ?_)
  refine v0 (k := ?_)
  refine w0 (k := ?_)
  refine w0 (k := ?_)
  refine rb 70 true (h := by (first | rfl | decide)) (k := ?_)
  refine v0 (k := ?_)
  refine v0 (k := ?_)
  refine w0 (k := ?_)
  refine w0 (k := ?_)
  refine rb 74 true (h := by (first | rfl | decide)) (k := ?_)
  refine v0 (k := ?_)
  refine v0 (k := ?_)
  refine w0 (k := ?_)
  refine w0 (k := ?_)
  refine rb 78 true (h := by (first | rfl | decide)) (k := ?_)
  refine v0 (k := ?_)
  refine v0 (k := ?_)
  refine w0 (k := ?_)
  refine w0 (k := ?_)
  refine rb 82 true (h := by (first | rfl | decide)) (k := ?_)
  refine v0 (k := ?_)
  refine v0 (k := ?_)
  refine w0 (k := ?_)
  refine w0 (k := ?_)
  refine rb 86 true (h := by (first | rfl | decide)) (k := ?_)
  refine v0 (k := ?_)
  refine v0 (k := ?_)
  refine w0 (k := ?_)
  refine w0 (k := ?_)
  refine rb 90 true (h := by (first | rfl | decide)) (k := ?_)
  refine v0 (k := ?_)
  refine v0 (k := ?_)
  refine w0 (k := ?_)
  refine w0 (k := ?_)
  refine rb 94 true (h := by (first | rfl | decide)) (k := ?_)
  refine v0 (k := ?_)
  refine v0 (k := ?_)
  refine w0 (k := ?_)
  refine w0 (k := ?_)
  refine rb 98 true (h := by (first | rfl | decide)) (k := ?_)
  refine v0 (k := ?_)
  refine v0 (k := ?_)
  refine w0 (k := ?_)
  refine w0 (k := ?_)
  refine rb 102 true (h := by (first | rfl | decide)) (k := ?_)
  refine v0 (k := ?_)
  refine v0 (k := ?_)
  refine w0 (k := ?_)
  refine w0 (k := ?_)
  refine rb 106 true (h := by (first | rfl | decide)) (k := ?_)
  refine v0 (k := ?_)
  refine v0 (k := ?_)
  refine w0 (k := ?_)
  refine w0 (k := ?_)
  refine rb 110 true (h := by (first | rfl | decide)) (k := ?_)
  refine v0 (k := ?_)
  refine v0 (k := ?_)
  refine w0 (k := ?_)
  refine w0 (k := ?_)
  refine rb 114 true (h := by (first | rfl | decide)) (k := ?_)
  refine v0 (k := ?_)
  refine v0 (k := ?_)
  refine w0 (k := ?_)
  refine w0 (k := ?_)
  refine rb 118 true (h := by (first | rfl | decide)) (k := ?_)
  refine v0 (k := ?_)
  refine v0 (k := ?_)
  refine w0 (k := ?_)
  refine w0 (k := ?_)
  refine rb 122 true (h := by (first | rfl | decide)) (k := ?_)
  refine v0 (k := ?_)
  refine v0 (k := ?_)
  refine w0 (k := ?_)
  refine w0 (k := ?_)
  refine rb 126 true (h := by (first | rfl | decide)) (k := ?_)
  refine v0 (k := ?_)
  refine v0 (k := ?_)
  refine w0 (k := ?_)
  refine w0 (k := ?_)
  refine rb 130 true (h := by (first | rfl | decide)) (k := ?_)
  refine v0 (k := ?_)
  refine v0 (k := ?_)
  refine nil0 ?_
  repeat refine gwp_seq ?_
  refine gwp_ret ?_
  repeat (first | refine gthen_ret ?_ | refine gblock_ret ?_ | refine gnoGoto_ret ?_)
  refine fin_ret ?_
  refine fp (hR := ?_)
  rfl
end Go.Proofs.Ytagdholenfkeaaa

/- What the parameters of this seat's statements read as. -/
namespace Go.Proofs.Ytagdholenfkeaaa
open Go.Gh
theorem own : ownKnob Try.prog.godebug = none := by kernel_rfl
theorem laidOut : laidOutB Try.prog = true := by kernel_rfl
def chSS : List S := [.int .i64, .int .i64, .list [.int .i64, .int .i64] true, .list [.int .i64, .int .i64, .int .i64] true, .int .i64]
theorem list_of {α : Type} {f : α → P} {Q : α → Prop} : ∀ {xs : List P}, (∀ y ∈ xs, ∃ a, y = f a ∧ Q a) → ∃ l : List α, xs = l.map f ∧ ∀ a ∈ l, Q a
  | [], _ => ⟨[], rfl, fun a h => by simp at h⟩
  | x :: xs, h => by
    obtain ⟨l, rfl, hl⟩ := list_of (xs := xs) fun y hy => h y (List.mem_cons_of_mem _ hy)
    obtain ⟨a, rfl, ha⟩ := h x (by simp)
    exact ⟨a :: l, rfl, fun b hb => by
      rcases List.mem_cons.1 hb with rfl | hb
      · exact ha
      · exact hl b hb⟩
theorem wf_i64 {n : Int} (h : (Lit.int .i64 n).wf = true) : inI n := by
  simpa [Lit.wf, IntKind.min, IntKind.max, IntKind.signed, IntKind.bits, inI] using h
theorem ch_of {x : P} (h : FitA (true, chSS) x) : ∃ c : Ch, x = .agg [.int .i64 c.pl, .int .i64 c.ps, .list (c.kn.map pk), .list (c.rs.map pr), .int .i64 c.ms] ∧
    inI c.pl ∧ inI c.ps ∧ inI c.ms ∧ (∀ k ∈ c.kn, inI k.a ∧ inI k.b) ∧ (∀ r ∈ c.rs, inI r.p ∧ inI r.f ∧ inI r.t) ∧ c.kn.length ≤ maxLen ∧ c.rs.length ≤ maxLen := by
  simp only [FitA, chSS, Fitss, Fits] at h
  obtain ⟨cs, rfl, _, _, rfl, ⟨pl, rfl, h1⟩, _, _, rfl, ⟨ps, rfl, h2⟩, _, _, rfl, ⟨xs, rfl, hxl, hxs⟩, _, _, rfl, ⟨ys, rfl, hyl, hys⟩, _, _, rfl, ⟨ms, rfl, h3⟩, rfl⟩ := h
  obtain ⟨l, rfl, hl⟩ := list_of (f := pk) (Q := fun k => inI k.a ∧ inI k.b) (xs := xs) fun y hy => by
    obtain ⟨cs, ⟨_, _, rfl, ⟨a, rfl, ha⟩, _, _, rfl, ⟨b, rfl, hb⟩, rfl⟩, h, _⟩ := hxs y hy
    exact ⟨⟨a, b⟩, h trivial, wf_i64 ha, wf_i64 hb⟩
  obtain ⟨m, rfl, hm⟩ := list_of (f := pr) (Q := fun r => inI r.p ∧ inI r.f ∧ inI r.t) (xs := ys) fun y hy => by
    obtain ⟨cs, ⟨_, _, rfl, ⟨a, rfl, ha⟩, _, _, rfl, ⟨b, rfl, hb⟩, _, _, rfl, ⟨c, rfl, hc⟩, rfl⟩, h, _⟩ := hys y hy
    exact ⟨⟨a, b, c⟩, h trivial, wf_i64 ha, wf_i64 hb, wf_i64 hc⟩
  exact ⟨⟨pl, ps, l, m, ms⟩, rfl, wf_i64 h1, wf_i64 h2, wf_i64 h3, hl, hm, by simpa using hxl, by simpa using hyl⟩
theorem pair_of {x : P} (h : FitA (true, [.int .i64, .int .i64]) x) : ∃ k : Kw, x = pk k ∧ inI k.a ∧ inI k.b := by
  simp only [FitA, Fitss, Fits] at h
  obtain ⟨_, rfl, _, _, rfl, ⟨a, rfl, ha⟩, _, _, rfl, ⟨b, rfl, hb⟩, rfl⟩ := h
  exact ⟨⟨a, b⟩, rfl, wf_i64 ha, wf_i64 hb⟩
theorem int_of {x : P} (h : FitA (false, [.int .i64]) x) : ∃ n, x = .int .i64 n ∧ inI n := by
  simp only [FitA, Fitss, Fits] at h
  obtain ⟨_, _, e, ⟨n, rfl, h1⟩, rfl⟩ := h
  simp at e; subst e
  exact ⟨n, rfl, wf_i64 h1⟩
theorem wf_u8 {n : Int} (h : (Lit.int .u8 n).wf = true) : 0 ≤ n ∧ n ≤ 255 := by
  simpa [Lit.wf, IntKind.min, IntKind.max, IntKind.signed, IntKind.bits] using h
theorem wf_u16 {n : Int} (h : (Lit.int .u16 n).wf = true) : 0 ≤ n ∧ n ≤ 65535 := by
  simpa [Lit.wf, IntKind.min, IntKind.max, IntKind.signed, IntKind.bits] using h
theorem u8_of {x : P} (h : FitA (false, [.int .u8]) x) : ∃ n : Nat, x = .int .u8 (n : Nat) ∧ n ≤ 255 := by
  simp only [FitA, Fitss, Fits] at h
  obtain ⟨_, _, e, ⟨n, rfl, h1⟩, rfl⟩ := h
  simp at e; subst e
  have := wf_u8 h1
  exact ⟨n.toNat, by rw [Int.toNat_of_nonneg this.1], by omega⟩
theorem u16_of {x : P} (h : FitA (false, [.int .u16]) x) : ∃ n : Nat, x = .int .u16 (n : Nat) ∧ n ≤ 65535 := by
  simp only [FitA, Fitss, Fits] at h
  obtain ⟨_, _, e, ⟨n, rfl, h1⟩, rfl⟩ := h
  simp at e; subst e
  have := wf_u16 h1
  exact ⟨n.toNat, by rw [Int.toNat_of_nonneg this.1], by omega⟩
theorem bytes_of {x : P} (h : FitA (false, [.list [.int .u8] false]) x) : ∃ bs : List Int, x = .list (bs.map (.int .u8)) ∧ bs.length ≤ maxLen ∧ ∀ b ∈ bs, 0 ≤ b ∧ b ≤ 255 := by
  simp only [FitA, Fitss, Fits] at h
  obtain ⟨_, _, e, ⟨xs, rfl, hl, hxs⟩, rfl⟩ := h
  simp at e; subst e
  obtain ⟨l, rfl, hl'⟩ := list_of (f := fun n : Int => P.int .u8 n) (Q := fun n => 0 ≤ n ∧ n ≤ 255) (xs := xs) fun y hy => by
    obtain ⟨cs, ⟨_, _, rfl, ⟨n, rfl, hn⟩, rfl⟩, _, h⟩ := hxs y hy
    have := h trivial
    simp at this
    exact ⟨n, this.symm, wf_u8 hn⟩
  exact ⟨l, rfl, by simpa using hl, hl'⟩
theorem u16s_of {x : P} (h : FitA (false, [.list [.int .u16] false]) x) : ∃ bs : List Int, x = .list (bs.map (.int .u16)) ∧ bs.length ≤ maxLen ∧ ∀ b ∈ bs, 0 ≤ b ∧ b ≤ 65535 := by
  simp only [FitA, Fitss, Fits] at h
  obtain ⟨_, _, e, ⟨xs, rfl, hl, hxs⟩, rfl⟩ := h
  simp at e; subst e
  obtain ⟨l, rfl, hl'⟩ := list_of (f := fun n : Int => P.int .u16 n) (Q := fun n => 0 ≤ n ∧ n ≤ 65535) (xs := xs) fun y hy => by
    obtain ⟨cs, ⟨_, _, rfl, ⟨n, rfl, hn⟩, rfl⟩, _, h⟩ := hxs y hy
    have := h trivial
    simp at this
    exact ⟨n, this.symm, wf_u16 hn⟩
  exact ⟨l, rfl, by simpa using hl, hl'⟩
end Go.Proofs.Ytagdholenfkeaaa
