/- What functions of the program return, each for every input that its theorem names. -/
import Derived.Test.YtabeeaiilanmjaaB3
import Derived.Test.YtabeeaiilanmjaaRows
set_option linter.unusedVariables false
set_option linter.unusedSimpArgs false
/- The sample; what the program says of it; alive. -/
namespace Go.Proofs.Ytabeeaiilanmjaa
open Go.Gh
set_option maxRecDepth 100000
set_option maxHeartbeats 4000000
structure kCd1 (c : Prop) : Prop where
  h : c := by (first | exact True.intro | omega | (simp [P.size, all_int, allOne_p, goods_p, allOne, goods, good, G.one, P.one, P.cells]; intro y a b _ h; subst h; rfl) | (simp only [inI]; omega) | (simp [P.size, pS, all_int, allOne_p, goods_p, allOne, goods, good, G.one, P.one, P.cells] <;> first | omega | assumption | simp_all))
structure kCd2 (c : Prop) : Prop where
  h : c := by (first | exact True.intro | omega | (simp only [inI]; omega) | (simp [P.size, pS, all_int, allOne_p, goods_p, allOne, goods, good, G.one, P.one, P.cells] <;> first | omega | assumption | simp_all))
structure kCd3 (c : Prop) : Prop where
  h : c := by (first | exact True.intro | omega | (simp only [inI]; omega) | (simp only [inI]; omega) | (simp [P.size, pS, all_int, allOne_p, goods_p, allOne, goods, good, G.one, P.one, P.cells] <;> first | omega | assumption | simp_all))
theorem und51 : Try.prog.underlying 51 = some (.array 2 3) := by kernel_rfl
theorem geq_pair (d : Nat) (a b c e : Int) : geq Try.prog (d + 2) 51 (.agg [.int .i64 a, .int .i64 b]) (.agg [.int .i64 c, .int .i64 e]) = some (decide (a = c) && (decide (b = e) && true)) := by
  unfold geq
  rw [und51]
  simp only [ti_3]
  have p0 : ∀ u v : Int, ppart Try.prog 3 [.int .i64 u, .int .i64 v] 0 = some (.int .i64 u) := fun u v => by unfold ppart; rw [ti_3]; rfl
  have p1 : ∀ u v : Int, ppart Try.prog 3 [.int .i64 u, .int .i64 v] 1 = some (.int .i64 v) := fun u v => by unfold ppart; rw [ti_3]; rfl
  rw [show List.range 2 = [0, 1] from rfl]
  simp only [List.map_cons, List.map_nil, Nat.zero_mul, Nat.one_mul, p0, p1, geq_int3]
  rfl
theorem heg51 : Try.prog.eqGuardType Try.prog.depth 51 = false := by kernel_rfl
theorem ent28 : Enters Try.prog 28 := Enters.mk Try.func28 (by kernel_rfl) rfl
theorem r_places (l : List (Int × Int)) (hl : l.length ≤ 1048576) : PSpec Try.prog 28 [.list (l.map fun e : Int × Int => P.agg [.int .i64 e.1, .int .i64 e.2]), .list (l.map fun e : Int × Int => P.agg [.int .i64 e.1, .int .i64 e.2])] (.ok (.bool true)) := by
  refine pspec_of Try.func28 (rfl : Try.f28.body = some _) rfl ?_
  intro E A C hN hL
  replace hN : C.N = 26 := hN
  simp only [Gh.num, List.map_cons, List.map_nil, Nat.reduceAdd]
  have hdt : ∀ (i : Decidable True), @decide True i = true := fun i => decide_eq_true trivial
  have hdf : ∀ (i : Decidable False), @decide False i = false := fun i => decide_eq_false id
  have hgp : ∀ a b c e : Int, geq Try.prog 6 51 (.agg [.int .i64 a, .int .i64 b]) (.agg [.int .i64 c, .int .i64 e]) = some (decide (a = c) && (decide (b = e) && true)) := geq_pair 4
  have hbt : (true == true) = true := rfl
  have hbf : (false == false) = true := rfl
  have htf : (true == false) = false := rfl
  have hft : (false == true) = false := rfl
  repeat refine gwp_seq ?_
  refine gwp_region ?_
  refine v0 (k := ?_)
  refine nil0 ?_
  refine cl [0, 1] (k := ?_)
  repeat refine gwp_seq ?_
  refine gwp_region ?_
  refine v0 (k := ?_)
  refine v0 (k := ?_)
  refine v0 (k := ?_)
  refine v0 (k := ?_)
  refine v0 (k := ?_)
  refine rb 10 false (h := by (first | rfl | decide | simp)) (k := ?_)
  refine nil0 ?_
  repeat refine gwp_seq ?_
  refine cF (k := ?_)
  repeat refine gwp_seq ?_
  refine gwp_skip ?_
  refine cl [0, 1] (k := ?_)
  repeat refine gwp_seq ?_
  refine gwp_region ?_
  refine v0 (k := ?_)
  refine nil0 ?_
  refine cl [0, 1, 5] (k := ?_)
  repeat refine gwp_seq ?_
  refine gwp_block ?_
  repeat refine gwp_seq ?_
  refine gc_loop (fun mz σ => ∃ k : Nat, (k ≤ l.length) ∧ mz = l.length - k ∧ σ = (sg [(0, .p (.list (l.map fun e : Int × Int => P.agg [.int .i64 e.1, .int .i64 e.2]))), (1, .p (.list (l.map fun e : Int × Int => P.agg [.int .i64 e.1, .int .i64 e.2]))), (5, .p (.int .i64 (k : Nat)))] [] A [] : Sg E)) ?_ (fun mz σ hI => ?_)
  · refine lbeg [0, 1, 5] (hV := ?_)
    exact ⟨_, 0, by omega, rfl, rfl⟩
  obtain ⟨k, hk, hnn, rfl⟩ := hI
  repeat refine gwp_seq ?_
  refine gwp_region ?_
  refine v0 (k := ?_)
  refine v0 (k := ?_)
  refine v0 (k := ?_)
  refine v0 (k := ?_)
  refine nil0 ?_
  repeat refine gwp_seq ?_
  refine cB (k1 := fun hb1 => ?_) (k0 := fun hb1 => ?_)
  · replace hb1 := hB.h {} hb1
    repeat refine gwp_seq ?_
    refine gwp_skip ?_
    refine cl [0, 1, 5] (k := ?_)
    repeat refine gwp_seq ?_
    refine gwp_block ?_
    repeat refine gwp_seq ?_
    obtain ⟨e, he⟩ := getE (l := l) (k := k) (by omega)
    refine rd ?_
    refine d0 0 (k := ?_)
    refine d0 1 (k := ?_)
    refine d1 2 (hc := kCd1.h {}) (k := ?_)
    refine d0 3 (k := ?_)
    refine d0 4 (k := ?_)
    refine d0 5 (k := ?_)
    refine d1 6 (hc := kCd1.h {}) (k := ?_)
    refine d0 7 (k := ?_)
    refine d1 8 (hc := by (exact heg51)) (k := ?_)
    refine dz 9 [0, 0, 3, 7, 0, 0, 48, 112, 255] (h := ?_)
    refine de 9 (h := ?_)
    repeat refine gwp_seq ?_
    refine cB (k1 := fun hb2 => ?_) (k0 := fun hb2 => ?_)
    · replace hb2 := hB.h {} hb2
      repeat refine gwp_seq ?_
      refine gwp_region ?_
      refine v0 (k := ?_)
      refine nil0 ?_
      repeat refine gwp_seq ?_
      refine gwp_ret ?_
      repeat (first | refine gthen_ret ?_ | refine gblock_ret ?_ | refine gnoGoto_ret ?_)
      refine fin_ret ?_
      refine fp (hR := ?_)
      rfl
    · replace hb2 := hB.h {} hb2
      repeat refine gwp_seq ?_
      refine gwp_skip ?_
      refine cl [0, 1, 5] (k := ?_)
      repeat refine gwp_seq ?_
      refine gwp_region ?_
      refine v0 (k := ?_)
      refine v1 (hc := kCd1.h {}) (k := ?_)
      refine v0 (k := ?_)
      refine nil0 ?_
      refine lend [0, 1, 5] (h := ?_) (hV := ?_) (n' := l.length - (k + 1))
      · omega
      exact ⟨k + 1, by omega, rfl, rfl⟩
  · replace hb1 := hB.h {} hb1
    repeat refine gwp_seq ?_
    refine gwp_exit ?_
    repeat (first | refine gthen_exit ?_ | refine gnoGoto_exit ?_ | refine gblock_here ?_ | refine gblock_out rfl ?_)
    refine cl [] (k := ?_)
    repeat refine gwp_seq ?_
    refine gwp_region ?_
    refine v0 (k := ?_)
    refine nil0 ?_
    repeat refine gwp_seq ?_
    refine gwp_ret ?_
    repeat (first | refine gthen_ret ?_ | refine gblock_ret ?_ | refine gnoGoto_ret ?_)
    refine fin_ret ?_
    refine fp (hR := ?_)
    rfl
/-- A field as a value. -/
def fdP (f : Fd) : P := .agg [.list (f.ps.map pS), .int .i64 f.el, .int .i64 f.eh, .int .i64 f.nl, .int .i64 f.nh, .int .i64 f.dl, .int .i64 f.dh, .int .i64 f.dep, .int .i64 f.tm, .int .i64 f.gp]
def smp : Fd := ⟨[⟨0, 1, 0, 2, 120, 12⟩, ⟨1, 2, 0, 0, 150, 15⟩, ⟨2, 3, 0, 0, 250, 10⟩, ⟨0, 3, 0, 0, 99, 20⟩, ⟨3, 5, 0, 1, 300, 11⟩], 0, 3, 0, 0, 100, 300, 10, 1, 0⟩
def smp2 : Fd := { smp with tm := 2, gp := 30 }
theorem l_smp : smp.ps.length ≤ 1048576 := by show 5 ≤ 1048576; omega
theorem l_smp2 : smp2.ps.length ≤ 1048576 := by show 5 ≤ 1048576; omega
theorem ent67 : Enters Try.prog 67 := Enters.mk Try.func67 (by kernel_rfl) rfl
theorem l_span (a b : Int) : PSpec Try.prog 67 [.int .i64 a, .int .i64 b] (.ok (.agg [.int .i64 a, .int .i64 b])) := by
  refine pspec_of Try.func67 (rfl : Try.f67.body = some _) rfl ?_
  intro E A C hN hL
  replace hN : C.N = 8 := hN
  simp only [Gh.num, List.map_cons, List.map_nil, Nat.reduceAdd]
  repeat refine gwp_seq ?_
  refine gwp_region ?_
  refine n1 140 false (hc := kCd2.h {}) (k := ?_)
  refine nil0 ?_
  refine cl [0, 1, 4] (k := ?_)
  repeat refine gwp_seq ?_
  refine gwp_region ?_
  refine v0 (k := ?_)
  refine v0 (k := ?_)
  refine v0 (k := ?_)
  refine s1 (hc := kCd2.h {}) (k := ?_)
  refine nil0 ?_
  repeat refine gwp_seq ?_
  refine gwp_ret ?_
  repeat (first | refine gthen_ret ?_ | refine gblock_ret ?_ | refine gnoGoto_ret ?_)
  refine fin_ret ?_
  refine fp (hR := ?_)
  rfl
theorem ent66 : Enters Try.prog 66 := Enters.mk Try.func66 (by kernel_rfl) rfl
theorem l_sky (a b c d e g : Int) : PSpec Try.prog 66 [.int .i64 a, .int .i64 b, .int .i64 c, .int .i64 d, .int .i64 e, .int .i64 g] (.ok (.agg [.int .i64 a, .int .i64 b, .int .i64 c, .int .i64 d, .int .i64 e, .int .i64 g])) := by
  refine pspec_of Try.func66 (rfl : Try.f66.body = some _) rfl ?_
  intro E A C hN hL
  replace hN : C.N = 22 := hN
  simp only [Gh.num, List.map_cons, List.map_nil, Nat.reduceAdd]
  repeat refine gwp_seq ?_
  refine gwp_region ?_
  refine n1 220 false (hc := kCd2.h {}) (k := ?_)
  refine nil0 ?_
  refine cl [0, 1, 2, 3, 4, 5, 12] (k := ?_)
  repeat refine gwp_seq ?_
  refine gwp_region ?_
  refine v0 (k := ?_)
  refine v0 (k := ?_)
  refine pc0 (spec := l_span a b) (hent := ent67) (k := ?_)
  refine v0 (k := ?_)
  refine v0 (k := ?_)
  refine pc0 (spec := l_span c d) (hent := ent67) (k := ?_)
  refine v0 (k := ?_)
  refine v0 (k := ?_)
  refine v0 (k := ?_)
  refine s1 (hc := kCd2.h {}) (k := ?_)
  refine nil0 ?_
  repeat refine gwp_seq ?_
  refine gwp_ret ?_
  repeat (first | refine gthen_ret ?_ | refine gblock_ret ?_ | refine gnoGoto_ret ?_)
  refine fin_ret ?_
  refine fp (hR := ?_)
  rfl
theorem ent38 : Enters Try.prog 38 := Enters.mk Try.func38 (by kernel_rfl) rfl
theorem l_sample  : PSpec Try.prog 38 [] (.ok (fdP smp)) := by
  refine pspec_of Try.func38 (rfl : Try.f38.body = some _) rfl ?_
  intro E A C hN hL
  replace hN : C.N = 12 := hN
  simp only [Gh.num, List.map_cons, List.map_nil, Nat.reduceAdd]
  repeat refine gwp_seq ?_
  refine gwp_region ?_
  refine n1 100 false (hc := kCd2.h {}) (k := ?_)
  refine nil0 ?_
  refine cl [0] (k := ?_)
  repeat refine gwp_seq ?_
  refine gwp_region ?_
  refine pc0 (spec := l_sky 0 1 0 2 120 12) (hent := ent66) (k := ?_)
  refine pc0 (spec := l_sky 1 2 0 0 150 15) (hent := ent66) (k := ?_)
  refine pc0 (spec := l_sky 2 3 0 0 250 10) (hent := ent66) (k := ?_)
  refine pc0 (spec := l_sky 0 3 0 0 99 20) (hent := ent66) (k := ?_)
  refine pc0 (spec := l_sky 3 5 0 1 300 11) (hent := ent66) (k := ?_)
  refine n1 170 false (hc := kCd2.h {}) (k := ?_)
  refine v0 (k := ?_)
  refine nil0 ?_
  refine cl [0, 1] (k := ?_)
  repeat refine gwp_seq ?_
  refine gwp_region ?_
  refine v0 (k := ?_)
  refine pc0 (spec := l_span 0 3) (hent := ent67) (k := ?_)
  refine pc0 (spec := l_span 100 300) (hent := ent67) (k := ?_)
  refine v0 (k := ?_)
  refine s1 (hc := kCd2.h {}) (k := ?_)
  refine nil0 ?_
  repeat refine gwp_seq ?_
  refine gwp_ret ?_
  repeat (first | refine gthen_ret ?_ | refine gblock_ret ?_ | refine gnoGoto_ret ?_)
  refine fin_ret ?_
  refine fp (hR := ?_)
  rfl
theorem l_sample2 : PSpec Try.prog 38 [] (.ok (.agg [.list (smp.ps.map pS), .int .i64 0, .int .i64 3, .int .i64 0, .int .i64 0, .int .i64 100, .int .i64 300, .int .i64 10, .int .i64 1, .int .i64 0])) := l_sample
theorem v_use : PSpec Try.prog 14 [fdP smp] (.ok (.tuple [.int .i64 23, .int .i64 0])) := by
  have h := c_use smp l_smp
  rw [show useV smp = (23, 0) from by decide +kernel] at h
  exact h
theorem v_srv : PSpec Try.prog 16 [.agg [.list (smp.ps.map pS), .int .i64 0, .int .i64 3, .int .i64 0, .int .i64 0, .int .i64 100, .int .i64 300, .int .i64 10, .int .i64 2, .int .i64 30], .int .i64 3, .int .i64 1, .int .i64 0] (.ok (.tuple [.bool true, .int .i64 0])) := by
  have h := c_srv smp2 l_smp2 3 1 0
  rw [show srvV smp2 3 1 0 = (true, 0) from by decide +kernel] at h
  exact h
theorem v_mis : PSpec Try.prog 18 [fdP smp, .int .i64 3] (.ok (.tuple [.int .i64 3, .int .i64 0, .int .i64 1, .int .i64 0])) := by
  have h := c_mis smp l_smp 3
  rw [show misV smp 3 = ((3, 0), 1, 0) from by decide +kernel] at h
  exact h
theorem v_sho : PSpec Try.prog 20 [fdP smp] (.ok (.tuple [.int .i64 5, .int .i64 0])) := by
  have h := c_sho smp l_smp
  rw [show shoV smp = (5, 0) from by decide +kernel] at h
  exact h
theorem v_lst : PSpec Try.prog 22 [fdP smp] (.ok (.tuple [.int .i64 1, .int .i64 0])) := by
  have h := c_lst smp l_smp
  rw [show lstV smp = (1, 0) from by decide +kernel] at h
  exact h
theorem v_nee : PSpec Try.prog 24 [fdP smp] (.ok (.tuple [.int .i64 1, .int .i64 0])) := by
  have h := c_nee smp l_smp
  rw [show neeV smp = (1, 0) from by decide +kernel] at h
  exact h
theorem v_apt : PSpec Try.prog 26 [fdP smp] (.ok (.tuple [.list [.agg [.int .i64 0, .int .i64 0], .agg [.int .i64 2, .int .i64 0]], .int .i64 0])) := by
  have h := c_apt smp l_smp
  rw [show aptV smp = ([(0, 0), (2, 0)], 0) from by decide +kernel] at h
  exact h
theorem v_places : PSpec Try.prog 28 [.list [.agg [.int .i64 0, .int .i64 0], .agg [.int .i64 2, .int .i64 0]], .list [.agg [.int .i64 0, .int .i64 0], .agg [.int .i64 2, .int .i64 0]]] (.ok (.bool true)) := r_places [(0, 0), (2, 0)] (by decide)
theorem ent13 : Enters Try.prog 13 := Enters.mk Try.func13 (by kernel_rfl) rfl
theorem l_awake  : PSpec Try.prog 13 [] (.ok (.bool true)) := by
  refine pspec_of Try.func13 (rfl : Try.f13.body = some _) rfl ?_
  intro E A C hN hL
  replace hN : C.N = 121 := hN
  simp only [Gh.num, List.map_cons, List.map_nil, Nat.reduceAdd]
  have hdt : ∀ (i : Decidable True), @decide True i = true := fun i => decide_eq_true trivial
  have hdf : ∀ (i : Decidable False), @decide False i = false := fun i => decide_eq_false id
  repeat refine gwp_seq ?_
  refine gwp_region ?_
  refine v0 (k := ?_)
  refine nil0 ?_
  refine cl [] (k := ?_)
  repeat refine gwp_seq ?_
  refine gwp_region ?_
  refine pc0 (spec := l_sample) (hent := ent38) (k := ?_)
  refine pc0 (spec := v_use) (hent := ent14) (k := ?_)
  refine v0 (k := ?_)
  refine v0 (k := ?_)
  refine v0 (k := ?_)
  refine v0 (k := ?_)
  refine v0 (k := ?_)
  refine nil0 ?_
  refine cl [1, 2] (k := ?_)
  repeat refine gwp_seq ?_
  refine gwp_region ?_
  refine pc0 (spec := l_sample2) (hent := ent38) (k := ?_)
  refine n1 130 false (hc := kCd2.h {}) (k := ?_)
  refine s1 (hc := kCd2.h {}) (k := ?_)
  refine nil0 ?_
  refine cl [1, 2, 3] (k := ?_)
  repeat refine gwp_seq ?_
  refine gwp_region ?_
  refine v0 (k := ?_)
  refine s1 (hc := kCd2.h {}) (k := ?_)
  refine v0 (k := ?_)
  refine s1 (hc := kCd2.h {}) (k := ?_)
  refine nil0 ?_
  refine cl [1, 2, 3] (k := ?_)
  repeat refine gwp_seq ?_
  refine gwp_region ?_
  refine v0 (k := ?_)
  refine pc0 (spec := v_srv) (hent := ent16) (k := ?_)
  refine v0 (k := ?_)
  refine v0 (k := ?_)
  refine v0 (k := ?_)
  refine v0 (k := ?_)
  refine v0 (k := ?_)
  refine nil0 ?_
  refine cl [1, 2, 4, 5] (k := ?_)
  repeat refine gwp_seq ?_
  refine gwp_region ?_
  refine pc0 (spec := l_sample) (hent := ent38) (k := ?_)
  refine pc0 (spec := v_mis) (hent := ent18) (k := ?_)
  refine v0 (k := ?_)
  refine v0 (k := ?_)
  refine v0 (k := ?_)
  refine v0 (k := ?_)
  refine v0 (k := ?_)
  refine v0 (k := ?_)
  refine v0 (k := ?_)
  refine v0 (k := ?_)
  refine v0 (k := ?_)
  refine nil0 ?_
  refine cl [1, 2, 4, 5, 6, 7, 8, 9] (k := ?_)
  repeat refine gwp_seq ?_
  refine gwp_region ?_
  refine pc0 (spec := l_sample) (hent := ent38) (k := ?_)
  refine pc0 (spec := v_sho) (hent := ent20) (k := ?_)
  refine v0 (k := ?_)
  refine v0 (k := ?_)
  refine v0 (k := ?_)
  refine v0 (k := ?_)
  refine v0 (k := ?_)
  refine nil0 ?_
  refine cl [1, 2, 4, 5, 6, 7, 8, 9, 10, 11] (k := ?_)
  repeat refine gwp_seq ?_
  refine gwp_region ?_
  refine pc0 (spec := l_sample) (hent := ent38) (k := ?_)
  refine pc0 (spec := v_lst) (hent := ent22) (k := ?_)
  refine v0 (k := ?_)
  refine v0 (k := ?_)
  refine v0 (k := ?_)
  refine v0 (k := ?_)
  refine v0 (k := ?_)
  refine nil0 ?_
  refine cl [1, 2, 4, 5, 6, 7, 8, 9, 10, 11, 12, 13] (k := ?_)
  repeat refine gwp_seq ?_
  refine gwp_region ?_
  refine pc0 (spec := l_sample) (hent := ent38) (k := ?_)
  refine pc0 (spec := v_nee) (hent := ent24) (k := ?_)
  refine v0 (k := ?_)
  refine v0 (k := ?_)
  refine v0 (k := ?_)
  refine v0 (k := ?_)
  refine v0 (k := ?_)
  refine nil0 ?_
  refine cl [1, 2, 4, 5, 6, 7, 8, 9, 10, 11, 12, 13, 14, 15] (k := ?_)
  repeat refine gwp_seq ?_
  refine gwp_region ?_
  refine pc0 (spec := l_sample) (hent := ent38) (k := ?_)
  refine pc0 (spec := v_apt) (hent := ent26) (k := ?_)
  refine v0 (k := ?_)
  refine v0 (k := ?_)
  refine v0 (k := ?_)
  refine v0 (k := ?_)
  refine v0 (k := ?_)
  refine nil0 ?_
  refine cl [1, 2, 4, 5, 6, 7, 8, 9, 10, 11, 12, 13, 14, 15, 16, 17] (k := ?_)
  repeat refine gwp_seq ?_
  refine gwp_region ?_
  refine v0 (k := ?_)
  refine v0 (k := ?_)
  refine rb 59 false (h := by (first | rfl | decide)) (k := ?_)
  refine v0 (k := ?_)
  refine w0 (k := ?_)
  refine w0 (k := ?_)
  refine rb 62 false (h := by (first | rfl | decide)) (k := ?_)
  refine v0 (k := ?_)
  refine v0 (k := ?_)
  refine w0 (k := ?_)
  refine w0 (k := ?_)
  refine rb 66 false (h := by (first | rfl | decide)) (k := ?_)
  refine v0 (k := ?_)
  refine v0 (k := ?_)
  refine w0 (k := ?_)
  refine w0 (k := ?_)
  refine rb 70 false (h := by (first | rfl | decide)) (k := ?_)
  refine v0 (k := ?_)
  refine v0 (k := ?_)
  refine w0 (k := ?_)
  refine w0 (k := ?_)
  refine rb 74 false (h := by (first | rfl | decide)) (k := ?_)
  refine v0 (k := ?_)
  refine v0 (k := ?_)
  refine w0 (k := ?_)
  refine w0 (k := ?_)
  refine rb 78 false (h := by (first | rfl | decide)) (k := ?_)
  refine v0 (k := ?_)
  refine v0 (k := ?_)
  refine w0 (k := ?_)
  refine w0 (k := ?_)
  refine rb 82 false (h := by (first | rfl | decide)) (k := ?_)
  refine v0 (k := ?_)
  refine v0 (k := ?_)
  refine w0 (k := ?_)
  refine w0 (k := ?_)
  refine rb 86 false (h := by (first | rfl | decide)) (k := ?_)
  refine v0 (k := ?_)
  refine v0 (k := ?_)
  refine w0 (k := ?_)
  refine w0 (k := ?_)
  refine rb 90 false (h := by (first | rfl | decide)) (k := ?_)
  refine v0 (k := ?_)
  refine v0 (k := ?_)
  refine w0 (k := ?_)
  refine w0 (k := ?_)
  refine rb 94 false (h := by (first | rfl | decide)) (k := ?_)
  refine v0 (k := ?_)
  refine v0 (k := ?_)
  refine w0 (k := ?_)
  refine w0 (k := ?_)
  refine rb 98 false (h := by (first | rfl | decide)) (k := ?_)
  refine v0 (k := ?_)
  refine v0 (k := ?_)
  refine w0 (k := ?_)
  refine w0 (k := ?_)
  refine rb 102 false (h := by (first | rfl | decide)) (k := ?_)
  refine v0 (k := ?_)
  refine v0 (k := ?_)
  refine w0 (k := ?_)
  refine w0 (k := ?_)
  refine rb 106 false (h := by (first | rfl | decide)) (k := ?_)
  refine v0 (k := ?_)
  refine v0 (k := ?_)
  refine w0 (k := ?_)
  refine w0 (k := ?_)
  refine rb 110 false (h := by (first | rfl | decide)) (k := ?_)
  refine v0 (k := ?_)
  refine nil0 ?_
  repeat refine gwp_seq ?_
  refine cF (k := ?_)
  repeat refine gwp_seq ?_
  refine gwp_skip ?_
  refine cl [16, 17] (k := ?_)
  repeat refine gwp_seq ?_
  refine gwp_region ?_
  refine v0 (k := ?_)
  refine v0 (k := ?_)
  refine v0 (k := ?_)
  refine n1 1250 false (hc := kCd2.h {}) (k := ?_)
  refine pc0 (spec := v_places) (hent := ent28) (k := ?_)
  refine rb 116 true (h := by (rfl)) (k := ?_)
  refine v0 (k := ?_)
  refine w0 (k := ?_)
  refine w0 (k := ?_)
  refine rb 119 true (h := by (first | rfl | decide)) (k := ?_)
  refine v0 (k := ?_)
  refine v0 (k := ?_)
  refine nil0 ?_
  repeat refine gwp_seq ?_
  refine gwp_ret ?_
  repeat (first | refine gthen_ret ?_ | refine gblock_ret ?_ | refine gnoGoto_ret ?_)
  refine fin_ret ?_
  refine fp (hR := ?_)
  rfl
def hvyQ (f : Fd) (n m : Int) : Bool := decide (40 < (f.ps.length : Int)) || (f.valid && (decide (n < (f.ps.length : Int)) || decide (m < (f.eh - f.el + 1) * (f.nh - f.nl + 1))))
theorem mul_small {a b : Int} (ha : 0 ≤ a ∧ a ≤ 33) (hb : 0 ≤ b ∧ b ≤ 33) : 0 ≤ a * b ∧ a * b ≤ 1089 := by
  refine ⟨Int.mul_nonneg ha.1 hb.1, ?_⟩
  have h1 := Int.mul_le_mul ha.2 hb.2 hb.1 (by omega)
  omega
theorem hvy_len {f : Fd} {n m : Int} (h : hvyQ f n m = false) : f.ps.length ≤ 40 := by
  simp only [hvyQ, Bool.or_eq_false_iff, decide_eq_false_iff_not] at h
  omega
theorem ent12 : Enters Try.prog 12 := Enters.mk Try.func12 (by kernel_rfl) rfl
theorem l_heavy (f : Fd) (n m : Int) : PSpec Try.prog 12 [.agg [.list (f.ps.map pS), .int .i64 f.el, .int .i64 f.eh, .int .i64 f.nl, .int .i64 f.nh, .int .i64 f.dl, .int .i64 f.dh, .int .i64 f.dep, .int .i64 f.tm, .int .i64 f.gp], .int .i64 n, .int .i64 m] (.ok (.bool (hvyQ f n m))) := by
  refine pspec_of Try.func12 (rfl : Try.f12.body = some _) rfl ?_
  intro E A C hN hL
  replace hN : C.N = 41 := hN
  simp only [Gh.num, List.map_cons, List.map_nil, Nat.reduceAdd]
  have hpS : ∀ p : Sk, pS p = P.agg [.int .i64 p.el, .int .i64 p.eh, .int .i64 p.nl, .int .i64 p.nh, .int .i64 p.day, .int .i64 p.dep] := fun _ => rfl
  repeat refine gwp_seq ?_
  refine gwp_region ?_
  refine n1 130 false (hc := kCd3.h {}) (k := ?_)
  refine v0 (k := ?_)
  refine nil0 ?_
  refine cl [1, 2, 3] (k := ?_)
  repeat refine gwp_seq ?_
  refine gwp_region ?_
  refine v0 (k := ?_)
  refine v0 (k := ?_)
  refine v0 (k := ?_)
  refine v0 (k := ?_)
  refine nil0 ?_
  refine cl [1, 2, 3, 7] (k := ?_)
  repeat refine gwp_seq ?_
  refine gwp_region ?_
  refine v0 (k := ?_)
  refine v0 (k := ?_)
  refine nil0 ?_
  repeat refine gwp_seq ?_
  refine cB (k1 := fun hb1 => ?_) (k0 := fun hb1 => ?_)
  · replace hb1 := hB.h {} hb1
    repeat refine gwp_seq ?_
    refine gwp_region ?_
    refine v0 (k := ?_)
    refine nil0 ?_
    repeat refine gwp_seq ?_
    refine gwp_ret ?_
    repeat (first | refine gthen_ret ?_ | refine gblock_ret ?_ | refine gnoGoto_ret ?_)
    refine fin_ret ?_
    refine fp (hR := ?_)
    first
    | (simp only [hvyQ, hv] at *; simp_all [PRes.at]; done)
    | (simp only [hvyQ, hv] at *; simp_all [PRes.at] <;> (intros; omega))
    | (rw [show hvyQ f n m = decide (m < (f.eh - f.el + 1) * (f.nh - f.nl + 1)) by rw [hvyQ, hv, decide_eq_false (show ¬ (40 < (f.ps.length : Int)) by omega), decide_eq_false (show ¬ (n < (f.ps.length : Int)) by omega)]; rfl]; rfl)
    | (rw [show hvyQ f n m = true by rw [hvyQ, decide_eq_true (by omega)]; rfl]; rfl)
  · replace hb1 := hB.h {} hb1
    repeat refine gwp_seq ?_
    refine gwp_skip ?_
    refine cl [1, 2, 3, 7] (k := ?_)
    repeat refine gwp_seq ?_
    rcases hv : f.valid with _ | _
    · repeat refine gwp_seq ?_
      refine gwp_region ?_
      refine v0 (k := ?_)
      refine pc0 (spec := r_field f (by omega)) (hent := ent29) (k := ?_)
      refine v0 (k := ?_)
      refine rb 15 false (h := by (rfl)) (k := ?_)
      refine x0 (k := ?_)
      refine x0 (k := ?_)
      refine x0 (k := ?_)
      refine x0 (k := ?_)
      refine x1 (k := ?_)
      refine x1 (k := ?_)
      refine x1 (k := ?_)
      refine x1 (k := ?_)
      refine x1 (k := ?_)
      refine x1 (k := ?_)
      refine x1 (k := ?_)
      refine x1 (k := ?_)
      refine x1 (k := ?_)
      refine x1 (k := ?_)
      refine x1 (k := ?_)
      refine x1 (k := ?_)
      refine x1 (k := ?_)
      refine x1 (k := ?_)
      refine x1 (k := ?_)
      refine x1 (k := ?_)
      refine x1 (k := ?_)
      refine x1 (k := ?_)
      refine x1 (k := ?_)
      refine x0 (k := ?_)
      refine v0 (k := ?_)
      refine v0 (k := ?_)
      refine nil0 ?_
      repeat refine gwp_seq ?_
      refine gwp_ret ?_
      repeat (first | refine gthen_ret ?_ | refine gblock_ret ?_ | refine gnoGoto_ret ?_)
      refine fin_ret ?_
      refine fp (hR := ?_)
      first
      | (simp only [hvyQ, hv] at *; simp_all [PRes.at]; done)
      | (simp only [hvyQ, hv] at *; simp_all [PRes.at] <;> (intros; omega))
      | (rw [show hvyQ f n m = decide (m < (f.eh - f.el + 1) * (f.nh - f.nl + 1)) by rw [hvyQ, hv, decide_eq_false (show ¬ (40 < (f.ps.length : Int)) by omega), decide_eq_false (show ¬ (n < (f.ps.length : Int)) by omega)]; rfl]; rfl)
      | (rw [show hvyQ f n m = true by rw [hvyQ, decide_eq_true (by omega)]; rfl]; rfl)
    · have hn := valid_num hv
      have hmul := mul_small (a := f.eh - f.el + 1) (b := f.nh - f.nl + 1) (by omega) (by omega)
      repeat refine gwp_seq ?_
      refine gwp_region ?_
      refine v0 (k := ?_)
      refine pc0 (spec := r_field f (by omega)) (hent := ent29) (k := ?_)
      refine v0 (k := ?_)
      refine rb 15 true (h := by (rfl)) (k := ?_)
      refine w0 (k := ?_)
      refine w0 (k := ?_)
      refine w0 (k := ?_)
      refine w0 (k := ?_)
      refine b0 (k1 := fun hb2 => ?_) (k0 := fun hb2 => ?_)
      · replace hb2 := hB.h {} hb2
        refine x0 (k := ?_)
        refine x0 (k := ?_)
        refine x0 (k := ?_)
        refine x0 (k := ?_)
        refine x0 (k := ?_)
        refine x0 (k := ?_)
        refine x0 (k := ?_)
        refine x0 (k := ?_)
        refine x0 (k := ?_)
        refine x0 (k := ?_)
        refine x0 (k := ?_)
        refine x0 (k := ?_)
        refine x0 (k := ?_)
        refine x0 (k := ?_)
        refine x0 (k := ?_)
        refine x0 (k := ?_)
        refine x0 (k := ?_)
        refine x0 (k := ?_)
        refine x0 (k := ?_)
        refine w0 (k := ?_)
        refine v0 (k := ?_)
        refine v0 (k := ?_)
        refine nil0 ?_
        repeat refine gwp_seq ?_
        refine gwp_ret ?_
        repeat (first | refine gthen_ret ?_ | refine gblock_ret ?_ | refine gnoGoto_ret ?_)
        refine fin_ret ?_
        refine fp (hR := ?_)
        first
        | (simp only [hvyQ, hv] at *; simp_all [PRes.at]; done)
        | (simp only [hvyQ, hv] at *; simp_all [PRes.at] <;> (intros; omega))
        | (rw [show hvyQ f n m = decide (m < (f.eh - f.el + 1) * (f.nh - f.nl + 1)) by rw [hvyQ, hv, decide_eq_false (show ¬ (40 < (f.ps.length : Int)) by omega), decide_eq_false (show ¬ (n < (f.ps.length : Int)) by omega)]; rfl]; rfl)
        | (rw [show hvyQ f n m = true by rw [hvyQ, decide_eq_true (by omega)]; rfl]; rfl)
      · replace hb2 := hB.h {} hb2
        refine w0 (k := ?_)
        refine w0 (k := ?_)
        refine w0 (k := ?_)
        refine w0 (k := ?_)
        refine w0 (k := ?_)
        refine w0 (k := ?_)
        refine w1 (hc := kCd3.h {}) (k := ?_)
        refine w1 (hc := kCd3.h {}) (k := ?_)
        refine w0 (k := ?_)
        refine w0 (k := ?_)
        refine w0 (k := ?_)
        refine w0 (k := ?_)
        refine w0 (k := ?_)
        refine w0 (k := ?_)
        refine w1 (hc := kCd3.h {}) (k := ?_)
        refine w1 (hc := kCd3.h {}) (k := ?_)
        refine w1 (hc := kCd3.h {}) (k := ?_)
        refine w0 (k := ?_)
        refine w0 (k := ?_)
        refine w0 (k := ?_)
        refine v0 (k := ?_)
        refine v0 (k := ?_)
        refine nil0 ?_
        repeat refine gwp_seq ?_
        refine gwp_ret ?_
        repeat (first | refine gthen_ret ?_ | refine gblock_ret ?_ | refine gnoGoto_ret ?_)
        refine fin_ret ?_
        refine fp (hR := ?_)
        first
        | (simp only [hvyQ, hv] at *; simp_all [PRes.at]; done)
        | (simp only [hvyQ, hv] at *; simp_all [PRes.at] <;> (intros; omega))
        | (rw [show hvyQ f n m = decide (m < (f.eh - f.el + 1) * (f.nh - f.nl + 1)) by rw [hvyQ, hv, decide_eq_false (show ¬ (40 < (f.ps.length : Int)) by omega), decide_eq_false (show ¬ (n < (f.ps.length : Int)) by omega)]; rfl]; rfl)
        | (rw [show hvyQ f n m = true by rw [hvyQ, decide_eq_true (by omega)]; rfl]; rfl)
end Go.Proofs.Ytabeeaiilanmjaa

/- What the parameters of this seat's statements read as. -/
namespace Go.Proofs.Ytabeeaiilanmjaa
open Go.Gh
theorem own : ownKnob Try.prog.godebug = none := by kernel_rfl
theorem laidOut : laidOutB Try.prog = true := by kernel_rfl
def fdSS : List S := [.list [.int .i64, .int .i64, .int .i64, .int .i64, .int .i64, .int .i64] true, .int .i64, .int .i64, .int .i64, .int .i64, .int .i64, .int .i64, .int .i64, .int .i64, .int .i64]
theorem list_of {α : Type} {f : α → P} {Q : α → Prop} : ∀ {xs : List P}, (∀ y ∈ xs, ∃ a, y = f a ∧ Q a) → ∃ l : List α, xs = l.map f ∧ ∀ a ∈ l, Q a
  | [], _ => ⟨[], rfl, fun a h => by simp at h⟩
  | x :: xs, h => by
    obtain ⟨l, rfl, hl⟩ := list_of (xs := xs) fun y hy => h y (List.mem_cons_of_mem _ hy)
    obtain ⟨a, rfl, ha⟩ := h x (by simp)
    exact ⟨a :: l, rfl, fun b hb => by
      rcases List.mem_cons.1 hb with rfl | hb
      · exact ha
      · exact hl b hb⟩
theorem wf_i64 {n : Int} (h : (Lit.int .i64 n).wf = true) : inI n := by
  simpa [Lit.wf, IntKind.min, IntKind.max, IntKind.signed, IntKind.bits, inI] using h
theorem fd_of {x : P} (h : FitA (true, fdSS) x) : ∃ f : Fd, x = .agg [.list (f.ps.map pS), .int .i64 f.el, .int .i64 f.eh, .int .i64 f.nl, .int .i64 f.nh, .int .i64 f.dl, .int .i64 f.dh, .int .i64 f.dep, .int .i64 f.tm, .int .i64 f.gp] ∧ f.ps.length ≤ maxLen := by
  simp only [FitA, fdSS, Fitss, Fits] at h
  obtain ⟨cs, rfl, _, _, rfl, ⟨xs, rfl, hxl, hxs⟩, _, _, rfl, ⟨a1, rfl, _⟩, _, _, rfl, ⟨a2, rfl, _⟩, _, _, rfl, ⟨a3, rfl, _⟩, _, _, rfl, ⟨a4, rfl, _⟩, _, _, rfl, ⟨a5, rfl, _⟩, _, _, rfl, ⟨a6, rfl, _⟩, _, _, rfl, ⟨a7, rfl, _⟩, _, _, rfl, ⟨a8, rfl, _⟩, _, _, rfl, ⟨a9, rfl, _⟩, rfl⟩ := h
  obtain ⟨l, rfl, _⟩ := list_of (f := pS) (Q := fun _ => True) (xs := xs) fun y hy => by
    obtain ⟨cs, ⟨_, _, rfl, ⟨a, rfl, _⟩, _, _, rfl, ⟨b, rfl, _⟩, _, _, rfl, ⟨c, rfl, _⟩, _, _, rfl, ⟨d, rfl, _⟩, _, _, rfl, ⟨e, rfl, _⟩, _, _, rfl, ⟨g, rfl, _⟩, rfl⟩, h, _⟩ := hxs y hy
    exact ⟨⟨a, b, c, d, e, g⟩, h trivial, trivial⟩
  exact ⟨⟨l, a1, a2, a3, a4, a5, a6, a7, a8, a9⟩, rfl, by simpa using hxl⟩
theorem int_of {x : P} (h : FitA (false, [.int .i64]) x) : ∃ n, x = .int .i64 n ∧ inI n := by
  simp only [FitA, Fitss, Fits] at h
  obtain ⟨_, _, e, ⟨n, rfl, h1⟩, rfl⟩ := h
  simp at e; subst e
  exact ⟨n, rfl, wf_i64 h1⟩
theorem wf_u8 {n : Int} (h : (Lit.int .u8 n).wf = true) : 0 ≤ n ∧ n ≤ 255 := by
  simpa [Lit.wf, IntKind.min, IntKind.max, IntKind.signed, IntKind.bits] using h
theorem wf_u16 {n : Int} (h : (Lit.int .u16 n).wf = true) : 0 ≤ n ∧ n ≤ 65535 := by
  simpa [Lit.wf, IntKind.min, IntKind.max, IntKind.signed, IntKind.bits] using h
theorem u8_of {x : P} (h : FitA (false, [.int .u8]) x) : ∃ n : Nat, x = .int .u8 (n : Nat) ∧ n ≤ 255 := by
  simp only [FitA, Fitss, Fits] at h
  obtain ⟨_, _, e, ⟨n, rfl, h1⟩, rfl⟩ := h
  simp at e; subst e
  have := wf_u8 h1
  exact ⟨n.toNat, by rw [Int.toNat_of_nonneg this.1], by omega⟩
theorem u16_of {x : P} (h : FitA (false, [.int .u16]) x) : ∃ n : Nat, x = .int .u16 (n : Nat) ∧ n ≤ 65535 := by
  simp only [FitA, Fitss, Fits] at h
  obtain ⟨_, _, e, ⟨n, rfl, h1⟩, rfl⟩ := h
  simp at e; subst e
  have := wf_u16 h1
  exact ⟨n.toNat, by rw [Int.toNat_of_nonneg this.1], by omega⟩
theorem bytes_of {x : P} (h : FitA (false, [.list [.int .u8] false]) x) : ∃ bs : List Int, x = .list (bs.map (.int .u8)) ∧ bs.length ≤ maxLen ∧ ∀ b ∈ bs, 0 ≤ b ∧ b ≤ 255 := by
  simp only [FitA, Fitss, Fits] at h
  obtain ⟨_, _, e, ⟨xs, rfl, hl, hxs⟩, rfl⟩ := h
  simp at e; subst e
  obtain ⟨l, rfl, hl'⟩ := list_of (f := fun n : Int => P.int .u8 n) (Q := fun n => 0 ≤ n ∧ n ≤ 255) (xs := xs) fun y hy => by
    obtain ⟨cs, ⟨_, _, rfl, ⟨n, rfl, hn⟩, rfl⟩, _, h⟩ := hxs y hy
    have := h trivial
    simp at this
    exact ⟨n, this.symm, wf_u8 hn⟩
  exact ⟨l, rfl, by simpa using hl, hl'⟩
theorem u16s_of {x : P} (h : FitA (false, [.list [.int .u16] false]) x) : ∃ bs : List Int, x = .list (bs.map (.int .u16)) ∧ bs.length ≤ maxLen ∧ ∀ b ∈ bs, 0 ≤ b ∧ b ≤ 65535 := by
  simp only [FitA, Fitss, Fits] at h
  obtain ⟨_, _, e, ⟨xs, rfl, hl, hxs⟩, rfl⟩ := h
  simp at e; subst e
  obtain ⟨l, rfl, hl'⟩ := list_of (f := fun n : Int => P.int .u16 n) (Q := fun n => 0 ≤ n ∧ n ≤ 65535) (xs := xs) fun y hy => by
    obtain ⟨cs, ⟨_, _, rfl, ⟨n, rfl, hn⟩, rfl⟩, _, h⟩ := hxs y hy
    have := h trivial
    simp at this
    exact ⟨n, this.symm, wf_u16 hn⟩
  exact ⟨l, rfl, by simpa using hl, hl'⟩
end Go.Proofs.Ytabeeaiilanmjaa
