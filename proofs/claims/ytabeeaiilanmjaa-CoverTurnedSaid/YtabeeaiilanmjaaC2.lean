/- The statement CoverTurned: the call returns true for every input, and its arguments read as before; no condition. -/
import Derived.Test.YtabeeaiilanmjaaC1
set_option linter.unusedVariables false
set_option linter.unusedSimpArgs false
/- The statement CoverTurned. -/
namespace Go.Proofs.Ytabeeaiilanmjaa
open Go.Gh
set_option maxRecDepth 100000
set_option maxHeartbeats 4000000
structure kLo1 (c : Prop) : Prop where
  h : c := by (first | exact True.intro | omega | ((repeat' apply And.intro) <;> first | exact True.intro | omega | exact lp_size _ | with_reducible rfl | (simp only [allP1, P.one, Bool.and_true]; done) | exact lpt_size _ _ | (simp; done) | (simp; omega)) | (simp only [inI]; omega) | (simp [P.size, pS, all_int, allOne_p, goods_p, allOne, goods, good, G.one, P.one, P.cells] <;> first | omega | assumption | simp_all))
theorem und24 : Try.prog.underlying 24 = some (.struct #[{ name := "Lo", type := 3, offset := 0, embedded := false, tag := "", pkgPath := "", byteOffset := 0 }, { name := "Hi", type := 3, offset := 1, embedded := false, tag := "", pkgPath := "", byteOffset := 8 }]) := by kernel_rfl
theorem und44 : Try.prog.underlying 44 = some (.struct #[{ name := "East", type := 24, offset := 0, embedded := false, tag := "", pkgPath := "", byteOffset := 0 }, { name := "North", type := 24, offset := 2, embedded := false, tag := "", pkgPath := "", byteOffset := 16 }, { name := "Day", type := 3, offset := 4, embedded := false, tag := "", pkgPath := "", byteOffset := 32 }, { name := "Depth", type := 3, offset := 5, embedded := false, tag := "", pkgPath := "", byteOffset := 40 }]) := by kernel_rfl
theorem geq_span (d : Nat) (a b c e : Int) : geq Try.prog (d + 2) 24 (.agg [.int .i64 a, .int .i64 b]) (.agg [.int .i64 c, .int .i64 e]) = some (decide (a = c) && (decide (b = e) && true)) := by
  unfold geq
  rw [und24]
  have hst : Try.prog.stoodInHeld 24 = false := by kernel_rfl
  simp only [hst, Bool.false_eq_true, if_false, List.map_cons, List.map_nil]
  have p0 : ∀ (u v : Int), ppart Try.prog 3 [.int .i64 u, .int .i64 v] 0 = some (.int .i64 u) := fun u v => by unfold ppart; rw [ti_3]; rfl
  have p1 : ∀ (u v : Int), ppart Try.prog 3 [.int .i64 u, .int .i64 v] 1 = some (.int .i64 v) := fun u v => by unfold ppart; rw [ti_3]; rfl
  rw [p0, p0, p1, p1]
  rw [if_neg (by decide), if_neg (by decide)]
  simp only []
  rw [geq_int3, geq_int3]
  rfl
theorem geq_sky (p q : Sk) : geq Try.prog 6 44 (.agg [.int .i64 p.el, .int .i64 p.eh, .int .i64 p.nl, .int .i64 p.nh, .int .i64 p.day, .int .i64 p.dep]) (.agg [.int .i64 q.el, .int .i64 q.eh, .int .i64 q.nl, .int .i64 q.nh, .int .i64 q.day, .int .i64 q.dep]) = some ((decide (p.el = q.el) && (decide (p.eh = q.eh) && true)) && ((decide (p.nl = q.nl) && (decide (p.nh = q.nh) && true)) && (decide (p.day = q.day) && (decide (p.dep = q.dep) && true)))) := by
  unfold geq
  rw [und44]
  have hst : Try.prog.stoodInHeld 44 = false := by kernel_rfl
  simp only [hst, Bool.false_eq_true, if_false, List.map_cons, List.map_nil]
  have p0 : ∀ (p : Sk), ppart Try.prog 24 [.int .i64 p.el, .int .i64 p.eh, .int .i64 p.nl, .int .i64 p.nh, .int .i64 p.day, .int .i64 p.dep] 0 = some (.agg [.int .i64 p.el, .int .i64 p.eh]) := fun p => by unfold ppart; rw [ti_24]; rfl
  have p2 : ∀ (p : Sk), ppart Try.prog 24 [.int .i64 p.el, .int .i64 p.eh, .int .i64 p.nl, .int .i64 p.nh, .int .i64 p.day, .int .i64 p.dep] 2 = some (.agg [.int .i64 p.nl, .int .i64 p.nh]) := fun p => by unfold ppart; rw [ti_24]; rfl
  have p4 : ∀ (p : Sk), ppart Try.prog 3 [.int .i64 p.el, .int .i64 p.eh, .int .i64 p.nl, .int .i64 p.nh, .int .i64 p.day, .int .i64 p.dep] 4 = some (.int .i64 p.day) := fun p => by unfold ppart; rw [ti_3]; rfl
  have p5 : ∀ (p : Sk), ppart Try.prog 3 [.int .i64 p.el, .int .i64 p.eh, .int .i64 p.nl, .int .i64 p.nh, .int .i64 p.day, .int .i64 p.dep] 5 = some (.int .i64 p.dep) := fun p => by unfold ppart; rw [ti_3]; rfl
  rw [p0, p0, p2, p2, p4, p4, p5, p5]
  rw [if_neg (by decide), if_neg (by decide), if_neg (by decide), if_neg (by decide)]
  simp only []
  rw [geq_span, geq_span, geq_int3, geq_int3]
  rfl
def pcells (l : List Sk) : List P := (l.map pS).flatMap P.cells
theorem pc_flat (l : List Sk) : (pcells l).map G.p = l.flatMap skG := (flat_cells l).symm
theorem pc_len (l : List Sk) : (pcells l).length = l.length * 6 := by rw [← List.length_map (f := G.p), pc_flat, flat_len]
theorem make_pc (n : Nat) : ((List.range (n * 6)).map fun i => [G.p (.int .i64 0), G.p (.int .i64 0), G.p (.int .i64 0), G.p (.int .i64 0), G.p (.int .i64 0), G.p (.int .i64 0)].getD (i % 6) .undef) = (pcells (List.replicate n zSk)).map G.p := by rw [pc_flat, make_cells]
theorem x_put {ps : List Sk} {tu k : Nat} {p : Sk} (hp : ps[k]? = some p) : ((pcells (xK ps tu k)).map G.p).take (turnP ps.length tu k * 6) ++ [G.p (.int .i64 p.el), G.p (.int .i64 p.eh), G.p (.int .i64 p.nl), G.p (.int .i64 p.nh), G.p (.int .i64 p.day), G.p (.int .i64 p.dep)] ++ ((pcells (xK ps tu k)).map G.p).drop (turnP ps.length tu k * 6 + 6) = (pcells (xK ps tu (k + 1))).map G.p := by
  have hk := (List.getElem?_eq_some_iff.1 hp).1
  rw [pc_flat, pc_flat, xK_succ hp]
  exact flat_splice _ _ p (by rw [xK_len]; exact (turn_perm (by omega) tu).pl k hk)
theorem y_put {ps : List Sk} {k : Nat} {p : Sk} (hp : ps[k]? = some p) : ((pcells (yK ps k)).map G.p).take (k * 6) ++ [G.p (.int .i64 p.nl), G.p (.int .i64 p.nh), G.p (.int .i64 p.el), G.p (.int .i64 p.eh), G.p (.int .i64 p.day), G.p (.int .i64 p.dep)] ++ ((pcells (yK ps k)).map G.p).drop (k * 6 + 6) = (pcells (yK ps (k + 1))).map G.p := by
  have hk := (List.getElem?_eq_some_iff.1 hp).1
  rw [pc_flat, pc_flat, yK_succ hp]
  exact flat_splice _ _ (swS p) (by rw [yK_len]; exact hk)
theorem rot_used {f : Fd} (tu : Nat) {k : Nat} (hk : k < f.ps.length) : (usedN (turnF f tu) (turnF f tu).ps.length).testBit (turnP f.ps.length tu k) = (usedN f f.ps.length).testBit k := by
  have h := turn_rot f tu
  rw [h.used, mv_bit, decide_eq_true (h.hp.pl k hk), h.hp.qp k hk, Bool.true_and]
theorem all_flat (l : List Sk) (n : Nat) : allOne (((pcells l).map G.p).take n) = true := by
  have h : ∀ gs : List G, (∀ g ∈ gs, g.one = true) → allOne gs = true := fun gs => by
    induction gs with
    | nil => intro _; rfl
    | cons g gs ih => intro hg; rw [allOne, hg g (by simp), ih fun x hx => hg x (by simp [hx])]; rfl
  refine h _ fun g hg => ?_
  rw [pc_flat] at hg
  obtain ⟨p, _, hp⟩ := List.mem_flatMap.1 (List.mem_of_mem_take hg)
  simp only [skG, List.mem_cons, List.not_mem_nil, or_false] at hp
  rcases hp with rfl | rfl | rfl | rfl | rfl | rfl <;> rfl
theorem heg44 : Try.prog.eqGuardType Try.prog.depth 44 = false := by kernel_rfl
theorem l_turn_x (f : Fd) (tu : Nat) (ht : tu ≤ 255) (hh : hvyQ f 9 100 = true) : PSpec Try.prog 11 [.agg [.list (f.ps.map pS), .int .i64 f.el, .int .i64 f.eh, .int .i64 f.nl, .int .i64 f.nh, .int .i64 f.dl, .int .i64 f.dh, .int .i64 f.dep, .int .i64 f.tm, .int .i64 f.gp], .int .u8 (tu : Nat)] (.ok (.bool true)) := by
  refine pspec_of Try.func11 (rfl : Try.f11.body = some _) rfl ?_
  intro E A C hN hL
  replace hN : C.N = 300 := hN
  simp only [Gh.num, List.map_cons, List.map_nil, Nat.reduceAdd]
  have hdt : ∀ (i : Decidable True), @decide True i = true := fun i => decide_eq_true trivial
  have hdf : ∀ (i : Decidable False), @decide False i = false := fun i => decide_eq_false id
  have hbt : (true == true) = true := rfl
  have hbf : (false == false) = true := rfl
  have htf : (true == false) = false := rfl
  have hft : (false == true) = false := rfl
  have hpS : ∀ p : Sk, pS p = P.agg [.int .i64 p.el, .int .i64 p.eh, .int .i64 p.nl, .int .i64 p.nh, .int .i64 p.day, .int .i64 p.dep] := fun _ => rfl
  have hdv : ∀ i : Nat, i * 2 / 2 = i := fun i => Nat.mul_div_cancel i (by decide)
  have hgs := geq_sky
  repeat refine gwp_seq ?_
  refine gwp_region ?_
  refine n1 120 false (hc := kLo1.h {}) (k := ?_)
  refine n1 130 false (hc := kLo1.h {}) (k := ?_)
  refine v0 (k := ?_)
  refine nil0 ?_
  refine cl [2, 3] (k := ?_)
  repeat refine gwp_seq ?_
  refine gwp_region ?_
  refine v0 (k := ?_)
  refine v0 (k := ?_)
  refine v0 (k := ?_)
  refine n1 150 false (hc := kLo1.h {}) (k := ?_)
  refine s1 (hc := kLo1.h {}) (k := ?_)
  refine nil0 ?_
  refine cl [2, 3, 5] (k := ?_)
  repeat refine gwp_seq ?_
  repeat refine gwp_seq ?_
  refine gwp_region ?_
  refine v0 (k := ?_)
  refine pc0 (spec := l_heavy f 9 100) (hent := ent12) (k := ?_)
  refine rb 47 true (h := by (exact hh)) (k := ?_)
  refine v0 (k := ?_)
  refine x0 (k := ?_)
  refine x0 (k := ?_)
  refine x0 (k := ?_)
  refine v0 (k := ?_)
  refine rb 52 true (h := by (rfl)) (k := ?_)
  refine nil0 ?_
  repeat refine gwp_seq ?_
  refine cT (k := ?_)
  repeat refine gwp_seq ?_
  refine gwp_region ?_
  refine pc0 (spec := l_awake) (hent := ent13) (k := ?_)
  refine v0 (k := ?_)
  refine nil0 ?_
  repeat refine gwp_seq ?_
  refine gwp_ret ?_
  repeat (first | refine gthen_ret ?_ | refine gblock_ret ?_ | refine gnoGoto_ret ?_)
  refine fin_ret ?_
  refine fp (hR := ?_)
  rfl
theorem l_turn_a (f : Fd) (tu : Nat) (ht : tu ≤ 255) (hh : hvyQ f 9 100 = false) (hv : f.valid = false) : PSpec Try.prog 11 [.agg [.list (f.ps.map pS), .int .i64 f.el, .int .i64 f.eh, .int .i64 f.nl, .int .i64 f.nh, .int .i64 f.dl, .int .i64 f.dh, .int .i64 f.dep, .int .i64 f.tm, .int .i64 f.gp], .int .u8 (tu : Nat)] (.ok (.bool true)) := by
  refine pspec_of Try.func11 (rfl : Try.f11.body = some _) rfl ?_
  intro E A C hN hL
  replace hN : C.N = 300 := hN
  simp only [Gh.num, List.map_cons, List.map_nil, Nat.reduceAdd]
  have hdt : ∀ (i : Decidable True), @decide True i = true := fun i => decide_eq_true trivial
  have hdf : ∀ (i : Decidable False), @decide False i = false := fun i => decide_eq_false id
  have hbt : (true == true) = true := rfl
  have hbf : (false == false) = true := rfl
  have htf : (true == false) = false := rfl
  have hft : (false == true) = false := rfl
  have hpS : ∀ p : Sk, pS p = P.agg [.int .i64 p.el, .int .i64 p.eh, .int .i64 p.nl, .int .i64 p.nh, .int .i64 p.day, .int .i64 p.dep] := fun _ => rfl
  have hdv : ∀ i : Nat, i * 2 / 2 = i := fun i => Nat.mul_div_cancel i (by decide)
  have hgs := geq_sky
  repeat refine gwp_seq ?_
  refine gwp_region ?_
  refine n1 120 false (hc := kLo1.h {}) (k := ?_)
  refine n1 130 false (hc := kLo1.h {}) (k := ?_)
  refine v0 (k := ?_)
  refine nil0 ?_
  refine cl [2, 3] (k := ?_)
  repeat refine gwp_seq ?_
  refine gwp_region ?_
  refine v0 (k := ?_)
  refine v0 (k := ?_)
  refine v0 (k := ?_)
  refine n1 150 false (hc := kLo1.h {}) (k := ?_)
  refine s1 (hc := kLo1.h {}) (k := ?_)
  refine nil0 ?_
  refine cl [2, 3, 5] (k := ?_)
  repeat refine gwp_seq ?_
  have hl : f.ps.length ≤ 1048576 := by have := hvy_len hh; omega
  repeat refine gwp_seq ?_
  refine gwp_region ?_
  refine v0 (k := ?_)
  refine pc0 (spec := l_heavy f 9 100) (hent := ent12) (k := ?_)
  refine rb 47 false (h := by (exact hh)) (k := ?_)
  refine v0 (k := ?_)
  refine w0 (k := ?_)
  refine pcw (spec := r_field f hl) (hent := ent29) (k := ?_)
  refine w0 (k := ?_)
  refine rb 51 true (h := by (rfl)) (k := ?_)
  refine v0 (k := ?_)
  refine rb 52 true (h := by (rfl)) (k := ?_)
  refine nil0 ?_
  repeat refine gwp_seq ?_
  refine cT (k := ?_)
  repeat refine gwp_seq ?_
  refine gwp_region ?_
  refine pc0 (spec := l_awake) (hent := ent13) (k := ?_)
  refine v0 (k := ?_)
  refine nil0 ?_
  repeat refine gwp_seq ?_
  refine gwp_ret ?_
  repeat (first | refine gthen_ret ?_ | refine gblock_ret ?_ | refine gnoGoto_ret ?_)
  refine fin_ret ?_
  refine fp (hR := ?_)
  rfl
theorem l_turn_b (f : Fd) (tu : Nat) (ht : tu ≤ 255) (hh : hvyQ f 9 100 = false) (hv : f.valid = true) (hw : (setsL f).find? (listQ f) = none) : PSpec Try.prog 11 [.agg [.list (f.ps.map pS), .int .i64 f.el, .int .i64 f.eh, .int .i64 f.nl, .int .i64 f.nh, .int .i64 f.dl, .int .i64 f.dh, .int .i64 f.dep, .int .i64 f.tm, .int .i64 f.gp], .int .u8 (tu : Nat)] (.ok (.bool true)) := by
  refine pspec_of Try.func11 (rfl : Try.f11.body = some _) rfl ?_
  intro E A C hN hL
  replace hN : C.N = 300 := hN
  simp only [Gh.num, List.map_cons, List.map_nil, Nat.reduceAdd]
  have hdt : ∀ (i : Decidable True), @decide True i = true := fun i => decide_eq_true trivial
  have hdf : ∀ (i : Decidable False), @decide False i = false := fun i => decide_eq_false id
  have hbt : (true == true) = true := rfl
  have hbf : (false == false) = true := rfl
  have htf : (true == false) = false := rfl
  have hft : (false == true) = false := rfl
  have hpS : ∀ p : Sk, pS p = P.agg [.int .i64 p.el, .int .i64 p.eh, .int .i64 p.nl, .int .i64 p.nh, .int .i64 p.day, .int .i64 p.dep] := fun _ => rfl
  have hdv : ∀ i : Nat, i * 2 / 2 = i := fun i => Nat.mul_div_cancel i (by decide)
  have hgs := geq_sky
  repeat refine gwp_seq ?_
  refine gwp_region ?_
  refine n1 120 false (hc := kLo1.h {}) (k := ?_)
  refine n1 130 false (hc := kLo1.h {}) (k := ?_)
  refine v0 (k := ?_)
  refine nil0 ?_
  refine cl [2, 3] (k := ?_)
  repeat refine gwp_seq ?_
  refine gwp_region ?_
  refine v0 (k := ?_)
  refine v0 (k := ?_)
  refine v0 (k := ?_)
  refine n1 150 false (hc := kLo1.h {}) (k := ?_)
  refine s1 (hc := kLo1.h {}) (k := ?_)
  refine nil0 ?_
  refine cl [2, 3, 5] (k := ?_)
  repeat refine gwp_seq ?_
  have hl : f.ps.length ≤ 1048576 := by have := hvy_len hh; omega
  have hn := valid_num hv
  have hpos := Nat.two_pow_pos f.ps.length
  have h62 : 2 ^ f.ps.length ≤ 2 ^ 12 := Nat.pow_le_pow_right (by omega) (by omega)
  have hal := allS_i f.ps.length
  have hal1 := Int.le_of_eq hal
  have hal2 := Int.le_of_eq hal.symm
  have hs12 := allS_lt (n := f.ps.length) (by omega)
  have hvx := turn_valid hv tu
  have hvy := sw_valid hv
  have hrt := turn_rot f tu
  have hyu := sw_used f
  have hul := used_lt2 f
  have hul2 := used_lt2 (turnF f tu)
  have htl : (turnF f tu).ps.length = f.ps.length := turn_len _ _
  have htl1 := Nat.le_of_eq htl
  clear htl
  have hpx12 : 2 ^ (turnF f tu).ps.length ≤ 2 ^ 12 := Nat.pow_le_pow_right (by omega) (by omega)
  have hq := (sho_none hv).1 hw
  have hqx : listQ (turnF f tu) (usedN (turnF f tu) (turnF f tu).ps.length) = false := by rw [hrt.all]; exact hq
  have hwx := (sho_none hvx).2 hqx
  have hqy : listQ (swF f) (usedN (swF f) (swF f).ps.length) = false := by rw [sw_list, sw_used]; exact hq
  have hwy := (sho_none hvy).2 hqy
  repeat refine gwp_seq ?_
  refine gwp_region ?_
  refine v0 (k := ?_)
  refine pc0 (spec := l_heavy f 9 100) (hent := ent12) (k := ?_)
  refine rb 47 false (h := by (exact hh)) (k := ?_)
  refine v0 (k := ?_)
  refine w0 (k := ?_)
  refine pcw (spec := r_field f hl) (hent := ent29) (k := ?_)
  refine w0 (k := ?_)
  refine rb 51 false (h := by (rfl)) (k := ?_)
  refine v0 (k := ?_)
  refine rb 52 false (h := by (rfl)) (k := ?_)
  refine nil0 ?_
  repeat refine gwp_seq ?_
  refine cF (k := ?_)
  repeat refine gwp_seq ?_
  refine gwp_skip ?_
  refine cl [2, 3, 5] (k := ?_)
  repeat refine gwp_seq ?_
  refine rd ?_
  refine d0 0 (k := ?_)
  refine d0 1 (k := ?_)
  refine dn1 2 160 false (hc := kLo1.h {}) (k := ?_)
  refine dn1 3 170 false (hc := kLo1.h {}) (k := ?_)
  refine ds1 4 (hc := kLo1.h {}) (k := ?_)
  refine ds1 5 (hc := kLo1.h {}) (k := ?_)
  refine dz 6 [0, 0, 0, 0, 13, 31] (h := ?_)
  refine de 6 (h := ?_)
  refine cl [2, 3, 5, 6, 7] (k := ?_)
  repeat refine gwp_seq ?_
  refine rd ?_
  refine d0 0 (k := ?_)
  refine dn1 1 670 false (hc := kLo1.h {}) (k := ?_)
  refine d0 2 (k := ?_)
  refine dn1 3 690 false (hc := kLo1.h {}) (k := ?_)
  refine da0 4 (k := ?_)
  refine ds1 5 (hc := kLo1.h {}) (k := ?_)
  refine da0 6 (k := ?_)
  refine ds1 7 (hc := kLo1.h {}) (k := ?_)
  refine dz 8 [0, 1, 0, 4, 3, 19, 63, 127] (h := ?_)
  refine de 8 (h := ?_)
  rw [make_pc]
  refine cl [2, 3, 5, 6, 7] (k := ?_)
  repeat refine gwp_seq ?_
  refine fz 130 1 [.k] (k := ?_)
  refine fz 150 1 [.k] (k := ?_)
  refine gwp_region ?_
  refine v0 (k := ?_)
  refine v0 (k := ?_)
  refine nil0 ?_
  refine cl [2, 5, 6, 7, 8] (k := ?_)
  repeat refine gwp_seq ?_
  refine cv 8 (.f [.n [.k], .n [.k]]) (k := ?_)
  refine gwp_region ?_
  refine n1 730 false (hc := kLo1.h {}) (k := ?_)
  refine v0 (k := ?_)
  refine v0 (k := ?_)
  refine n1 760 false (hc := kLo1.h {}) (k := ?_)
  refine v0 (k := ?_)
  refine nil0 ?_
  refine cl [2, 5, 6, 7, 8, 9] (k := ?_)
  repeat refine gwp_seq ?_
  refine gwp_region ?_
  refine v0 (k := ?_)
  refine v0 (k := ?_)
  refine v0 (k := ?_)
  refine v0 (k := ?_)
  refine nil0 ?_
  refine cl [2, 5, 6, 7, 8, 9, 68, 69, 70] (k := ?_)
  repeat refine gwp_seq ?_
  refine gwp_block ?_
  repeat refine gwp_seq ?_
  refine gc_loop (fun mz σ => ∃ k : Nat, (k ≤ f.ps.length) ∧ mz = f.ps.length - k ∧ σ = (sg [(2, .ref 120 0), (5, .ref 150 0), (6, .ref 160 0), (7, .ref 170 0), (8, .fn (.func 37) [] [.ptr [.p (.int .u8 (tu : Nat))], .ptr [.p (.int .i64 (f.ps.length : Nat))]]), (9, .own 730 f.ps.length), (68, .p (.list (f.ps.map pS))), (69, .p (.int .i64 (f.ps.length : Nat))), (70, .p (.int .i64 (k : Nat)))] [(120, .cells [.p (.list (f.ps.map pS)), .p (.int .i64 f.el), .p (.int .i64 f.eh), .p (.int .i64 f.nl), .p (.int .i64 f.nh), .p (.int .i64 f.dl), .p (.int .i64 f.dh), .p (.int .i64 f.dep), .p (.int .i64 f.tm), .p (.int .i64 f.gp)] 0), (150, .cells [.p (.int .i64 (f.ps.length : Nat))] 1), (160, .cells [.fsl 670 0 f.ps.length, .p (.int .i64 f.el), .p (.int .i64 f.eh), .p (.int .i64 f.nl), .p (.int .i64 f.nh), .p (.int .i64 f.dl), .p (.int .i64 f.dh), .p (.int .i64 f.dep), .p (.int .i64 f.tm), .p (.int .i64 f.gp)] 0), (170, .cells [.fsl 690 0 f.ps.length, .p (.int .i64 f.el), .p (.int .i64 f.eh), .p (.int .i64 f.nl), .p (.int .i64 f.nh), .p (.int .i64 f.dl), .p (.int .i64 f.dh), .p (.int .i64 f.dep), .p (.int .i64 f.tm), .p (.int .i64 f.gp)] 0), (730, .arr 44 6 (f.ps.map pS) true), (670, .cells ((pcells (xK f.ps tu k)).map .p) 0), (690, .cells ((pcells (yK f.ps k)).map .p) 0)] A [] : Sg E)) ?_ (fun mz σ hI => ?_)
  · refine lbeg [2, 5, 6, 7, 8, 9, 68, 69, 70] (hV := ?_)
    exact ⟨_, 0, by omega, rfl, sgE rfl (by rw [xK_zero, yK_zero])⟩
  obtain ⟨k, hk, hnn, rfl⟩ := hI
  repeat refine gwp_seq ?_
  refine gwp_region ?_
  refine v0 (k := ?_)
  refine nil0 ?_
  repeat refine gwp_seq ?_
  refine cB (k1 := fun hb1 => ?_) (k0 := fun hb1 => ?_)
  · replace hb1 := hB.h {} hb1
    try rw [eqI] at hb1
    repeat refine gwp_seq ?_
    refine gwp_skip ?_
    refine cl [2, 5, 6, 7, 8, 9, 68, 69, 70] (k := ?_)
    repeat refine gwp_seq ?_
    refine gwp_block ?_
    repeat refine gwp_seq ?_
    obtain ⟨p, hp⟩ := getE (l := f.ps) (k := k) (by omega)
    have htk : (turnP f.ps.length tu k) < f.ps.length := Nat.mod_lt _ (by omega)
    have hxl : (pcells (xK f.ps tu k)).length = f.ps.length * 6 := by rw [pc_len, xK_len]
    have hyl : (pcells (yK f.ps k)).length = f.ps.length * 6 := by rw [pc_len, yK_len]
    refine gwp_region ?_
    refine v0 (k := ?_)
    refine v1 (hc := kLo1.h {}) (k := ?_)
    refine v0 (k := ?_)
    refine n1 210 false (hc := kLo1.h {}) (k := ?_)
    refine v0 (k := ?_)
    refine s1 (hc := kLo1.h {}) (k := ?_)
    refine nil0 ?_
    refine cl [2, 5, 6, 7, 8, 9, 10, 11, 68, 69, 70] (k := ?_)
    repeat refine gwp_seq ?_
    refine rd ?_
    refine da0 0 (k := ?_)
    refine d0 1 (k := ?_)
    refine da0 2 (k := ?_)
    refine da0 3 (k := ?_)
    refine doc0 4 [] [] [0, 0, 0] none (spec := q_37 f.ps.length tu k (by omega) ht (by omega)) (hent := ent37) (k := ?_)
    refine d0 5 (k := ?_)
    refine d1 6 (hc := kLo1.h {}) (k := ?_)
    refine ds1 7 (hc := kLo1.h {}) (k := ?_)
    refine dz 8 [0, 1, 0, 0, 12, 0, 63, 127] (h := ?_)
    refine de 8 (h := ?_)
    rw [x_put (tu := tu) hp]
    refine cl [2, 5, 6, 7, 8, 9, 10, 11, 68, 69, 70] (k := ?_)
    repeat refine gwp_seq ?_
    refine gwp_region ?_
    refine v0 (k := ?_)
    refine v0 (k := ?_)
    refine v0 (k := ?_)
    refine v0 (k := ?_)
    refine v0 (k := ?_)
    refine s1 (hc := kLo1.h {}) (k := ?_)
    refine v0 (k := ?_)
    refine s1 (hc := kLo1.h {}) (k := ?_)
    refine nil0 ?_
    refine cl [2, 5, 6, 7, 8, 9, 10, 11, 68, 69, 70] (k := ?_)
    repeat refine gwp_seq ?_
    refine gwp_region ?_
    refine v0 (k := ?_)
    refine v0 (k := ?_)
    refine v0 (k := ?_)
    refine v0 (k := ?_)
    refine v1 (hc := kLo1.h {}) (k := ?_)
    refine s1 (hc := kLo1.h {}) (k := ?_)
    refine nil0 ?_
    rw [y_put hp]
    refine cl [2, 5, 6, 7, 8, 9, 68, 69, 70] (k := ?_)
    repeat refine gwp_seq ?_
    refine gwp_region ?_
    refine v1 (hc := kLo1.h {}) (k := ?_)
    refine v0 (k := ?_)
    refine nil0 ?_
    refine lend [2, 5, 6, 7, 8, 9, 68, 69, 70] (h := ?_) (hV := ?_) (n' := f.ps.length - (k + 1))
    · omega
    exact ⟨k + 1, by omega, rfl, rfl⟩
  replace hb1 := hB.h {} hb1
  try rw [eqI] at hb1
  repeat refine gwp_seq ?_
  refine gwp_exit ?_
  repeat (first | refine gthen_exit ?_ | refine gnoGoto_exit ?_ | refine gblock_here ?_ | refine gblock_out rfl ?_)
  refine cl [2, 5, 6, 7, 8, 9] (k := ?_)
  repeat refine gwp_seq ?_
  refine rd ?_
  refine da0 0 (k := ?_)
  refine d0 1 (k := ?_)
  refine da0 2 (k := ?_)
  refine d0 3 (k := ?_)
  refine da0 4 (k := ?_)
  refine ds1 5 (hc := kLo1.h {}) (k := ?_)
  refine da0 6 (k := ?_)
  refine ds1 7 (hc := kLo1.h {}) (k := ?_)
  refine dz 8 [0, 1, 0, 4, 3, 19, 63, 127] (h := ?_)
  refine de 8 (h := ?_)
  refine cl [2, 5, 6, 7, 8, 9] (k := ?_)
  repeat refine gwp_seq ?_
  obtain rfl : k = f.ps.length := by omega
  have hxl2 : ((pcells (xK f.ps tu f.ps.length)).map G.p).length = f.ps.length * 6 := by rw [List.length_map, pc_len, xK_len]
  have hyl2 : ((pcells (yK f.ps f.ps.length)).map G.p).length = f.ps.length * 6 := by rw [List.length_map, pc_len, yK_len]
  refine gc_freezeK 670 (f.ps.length * 6) (cs := (pcells (xK f.ps tu f.ps.length)).map .p) (fz := 0) (by simp only [mkHp_cons, mkHp_nil, Nat.reduceEqDiff, reduceIte]) (by omega) (by omega) (all_flat _ _) ?_
  refine gc_freezeK 690 (f.ps.length * 6) (cs := (pcells (yK f.ps f.ps.length)).map .p) (fz := 0) (by simp only [mkHp_cons, mkHp_nil, Nat.reduceEqDiff, reduceIte]) (by omega) (by omega) (all_flat _ _) ?_
  refine gc_fslN 160 0 670 0 f.ps.length 6 (ds := [.fsl 670 0 f.ps.length, .p (.int .i64 f.el), .p (.int .i64 f.eh), .p (.int .i64 f.nl), .p (.int .i64 f.nh), .p (.int .i64 f.dl), .p (.int .i64 f.dh), .p (.int .i64 f.dep), .p (.int .i64 f.tm), .p (.int .i64 f.gp)]) (ds2 := [.p (.list ((turnF f tu).ps.map pS)), .p (.int .i64 f.el), .p (.int .i64 f.eh), .p (.int .i64 f.nl), .p (.int .i64 f.nh), .p (.int .i64 f.dl), .p (.int .i64 f.dh), .p (.int .i64 f.dep), .p (.int .i64 f.tm), .p (.int .i64 f.gp)]) (f1 := 0) (cs := (pcells (xK f.ps tu f.ps.length)).map .p) (fz := f.ps.length * 6) ((turnF f tu).ps.map pS) (by simp only [mkHp_cons, mkHp_nil, Nat.reduceEqDiff, reduceIte]) rfl (by simp only [mkHp_cons, mkHp_nil, Nat.reduceEqDiff, reduceIte]) (by omega) (by rw [List.drop_zero, List.take_of_length_le (by omega), xK_all]; rfl) (by rw [List.length_map]; exact turn_len _ _) rfl ?_
  refine gc_fslN 170 0 690 0 f.ps.length 6 (ds := [.fsl 690 0 f.ps.length, .p (.int .i64 f.nl), .p (.int .i64 f.nh), .p (.int .i64 f.el), .p (.int .i64 f.eh), .p (.int .i64 f.dl), .p (.int .i64 f.dh), .p (.int .i64 f.dep), .p (.int .i64 f.tm), .p (.int .i64 f.gp)]) (ds2 := [.p (.list ((swF f).ps.map pS)), .p (.int .i64 f.nl), .p (.int .i64 f.nh), .p (.int .i64 f.el), .p (.int .i64 f.eh), .p (.int .i64 f.dl), .p (.int .i64 f.dh), .p (.int .i64 f.dep), .p (.int .i64 f.tm), .p (.int .i64 f.gp)]) (f1 := 0) (cs := (pcells (yK f.ps f.ps.length)).map .p) (fz := f.ps.length * 6) ((swF f).ps.map pS) (by simp only [mkHp_cons, mkHp_nil, Nat.reduceEqDiff, reduceIte]) rfl (by simp only [mkHp_cons, mkHp_nil, Nat.reduceEqDiff, reduceIte]) (by omega) (by rw [List.drop_zero, List.take_of_length_le (by omega), yK_all]; rfl) (by rw [List.length_map]; exact sw_len _) rfl ?_
  refine gwp_region ?_
  refine v0 (k := ?_)
  refine pc0 (spec := us_t f hv) (hent := ent14) (k := ?_)
  refine v0 (k := ?_)
  refine v0 (k := ?_)
  refine v0 (k := ?_)
  refine v0 (k := ?_)
  refine v0 (k := ?_)
  refine nil0 ?_
  refine cl [2, 5, 6, 7, 8, 9, 12, 13] (k := ?_)
  repeat refine gwp_seq ?_
  refine gwp_region ?_
  refine v0 (k := ?_)
  refine pc0 (spec := us_t (turnF f tu) hvx) (hent := ent14) (k := ?_)
  refine v0 (k := ?_)
  refine v0 (k := ?_)
  refine v0 (k := ?_)
  refine v0 (k := ?_)
  refine v0 (k := ?_)
  refine nil0 ?_
  refine cl [2, 5, 6, 7, 8, 9, 12, 13, 14, 15] (k := ?_)
  repeat refine gwp_seq ?_
  refine gwp_region ?_
  refine v0 (k := ?_)
  refine pc0 (spec := us_t (swF f) hvy) (hent := ent14) (k := ?_)
  refine v0 (k := ?_)
  refine v0 (k := ?_)
  refine v0 (k := ?_)
  refine v0 (k := ?_)
  refine v0 (k := ?_)
  refine nil0 ?_
  refine cl [2, 5, 6, 7, 8, 9, 12, 13, 14, 15, 16, 17] (k := ?_)
  repeat refine gwp_seq ?_
  refine gwp_region ?_
  refine v0 (k := ?_)
  refine v0 (k := ?_)
  refine rb 116 false (h := by (first | rfl | decide | simp)) (k := ?_)
  refine v0 (k := ?_)
  refine w0 (k := ?_)
  refine w0 (k := ?_)
  refine w0 (k := ?_)
  refine rb 120 false (h := by (first | rfl | decide | simp)) (k := ?_)
  refine v0 (k := ?_)
  refine v0 (k := ?_)
  refine w0 (k := ?_)
  refine w0 (k := ?_)
  refine w0 (k := ?_)
  refine rb 125 false (h := by (first | rfl | decide | simp)) (k := ?_)
  refine v0 (k := ?_)
  refine v0 (k := ?_)
  refine w0 (k := ?_)
  refine w0 (k := ?_)
  refine w0 (k := ?_)
  refine rb 130 false (h := by (first | rfl | decide | simp)) (k := ?_)
  refine v0 (k := ?_)
  refine rb 131 false (h := by (rfl)) (k := ?_)
  refine nil0 ?_
  repeat refine gwp_seq ?_
  refine cF (k := ?_)
  repeat refine gwp_seq ?_
  refine gwp_skip ?_
  refine cl [2, 5, 6, 7, 8, 9, 12, 14] (k := ?_)
  repeat refine gwp_seq ?_
  refine gwp_region ?_
  refine v0 (k := ?_)
  refine pc0 (spec := sh_n f hv hw) (hent := ent20) (k := ?_)
  refine v0 (k := ?_)
  refine v0 (k := ?_)
  refine v0 (k := ?_)
  refine v0 (k := ?_)
  refine v0 (k := ?_)
  refine nil0 ?_
  refine cl [2, 5, 6, 7, 8, 9, 12, 14, 18, 19] (k := ?_)
  repeat refine gwp_seq ?_
  refine gwp_region ?_
  refine v0 (k := ?_)
  refine pc0 (spec := sh_n (turnF f tu) hvx hwx) (hent := ent20) (k := ?_)
  refine v0 (k := ?_)
  refine v0 (k := ?_)
  refine v0 (k := ?_)
  refine v0 (k := ?_)
  refine v0 (k := ?_)
  refine nil0 ?_
  refine cl [2, 5, 6, 7, 8, 9, 12, 14, 18, 19, 20, 21] (k := ?_)
  repeat refine gwp_seq ?_
  refine gwp_region ?_
  refine v0 (k := ?_)
  refine pc0 (spec := sh_n (swF f) hvy hwy) (hent := ent20) (k := ?_)
  refine v0 (k := ?_)
  refine v0 (k := ?_)
  refine v0 (k := ?_)
  refine v0 (k := ?_)
  refine v0 (k := ?_)
  refine nil0 ?_
  refine cl [2, 5, 6, 7, 8, 9, 12, 14, 18, 19, 20, 21, 22, 23] (k := ?_)
  repeat refine gwp_seq ?_
  refine gwp_region ?_
  refine v0 (k := ?_)
  refine pc0 (spec := li_n f hv hw) (hent := ent22) (k := ?_)
  refine v0 (k := ?_)
  refine v0 (k := ?_)
  refine v0 (k := ?_)
  refine v0 (k := ?_)
  refine v0 (k := ?_)
  refine nil0 ?_
  refine cl [2, 5, 6, 7, 8, 9, 12, 14, 18, 19, 20, 21, 22, 23, 24] (k := ?_)
  repeat refine gwp_seq ?_
  refine gwp_region ?_
  refine v0 (k := ?_)
  refine pc0 (spec := li_n (turnF f tu) hvx hwx) (hent := ent22) (k := ?_)
  refine v0 (k := ?_)
  refine v0 (k := ?_)
  refine v0 (k := ?_)
  refine v0 (k := ?_)
  refine v0 (k := ?_)
  refine nil0 ?_
  refine cl [2, 5, 6, 7, 8, 9, 12, 14, 18, 19, 20, 21, 22, 23, 24, 26] (k := ?_)
  repeat refine gwp_seq ?_
  refine gwp_region ?_
  refine v0 (k := ?_)
  refine pc0 (spec := ne_n f hv hq) (hent := ent24) (k := ?_)
  refine v0 (k := ?_)
  refine v0 (k := ?_)
  refine v0 (k := ?_)
  refine v0 (k := ?_)
  refine v0 (k := ?_)
  refine nil0 ?_
  refine cl [2, 5, 6, 7, 8, 9, 12, 14, 18, 19, 20, 21, 22, 23, 24, 26, 28] (k := ?_)
  repeat refine gwp_seq ?_
  refine gwp_region ?_
  refine v0 (k := ?_)
  refine pc0 (spec := ne_n (turnF f tu) hvx hqx) (hent := ent24) (k := ?_)
  refine v0 (k := ?_)
  refine v0 (k := ?_)
  refine v0 (k := ?_)
  refine v0 (k := ?_)
  refine v0 (k := ?_)
  refine nil0 ?_
  refine cl [2, 5, 6, 7, 8, 9, 12, 14, 18, 19, 20, 21, 22, 23, 24, 26, 28, 30] (k := ?_)
  repeat refine gwp_seq ?_
  refine gwp_region ?_
  refine v0 (k := ?_)
  refine pc0 (spec := ap_n f hv hq) (hent := ent26) (k := ?_)
  refine v0 (k := ?_)
  refine v0 (k := ?_)
  refine v0 (k := ?_)
  refine v0 (k := ?_)
  refine v0 (k := ?_)
  refine nil0 ?_
  refine cl [2, 5, 6, 7, 8, 9, 12, 14, 18, 19, 20, 21, 22, 23, 24, 26, 28, 30, 32, 33] (k := ?_)
  repeat refine gwp_seq ?_
  refine gwp_region ?_
  refine v0 (k := ?_)
  refine pc0 (spec := ap_n (turnF f tu) hvx hqx) (hent := ent26) (k := ?_)
  refine v0 (k := ?_)
  refine v0 (k := ?_)
  refine v0 (k := ?_)
  refine v0 (k := ?_)
  refine v0 (k := ?_)
  refine nil0 ?_
  refine cl [2, 5, 7, 8, 9, 12, 14, 18, 19, 20, 21, 22, 23, 24, 26, 28, 30, 32, 33, 34, 35] (k := ?_)
  repeat refine gwp_seq ?_
  refine gwp_region ?_
  refine v0 (k := ?_)
  refine pc0 (spec := ap_n (swF f) hvy hqy) (hent := ent26) (k := ?_)
  refine v0 (k := ?_)
  refine v0 (k := ?_)
  refine v0 (k := ?_)
  refine v0 (k := ?_)
  refine v0 (k := ?_)
  refine nil0 ?_
  refine cl [2, 5, 8, 9, 12, 14, 18, 19, 20, 21, 22, 23, 24, 26, 28, 30, 32, 33, 34, 35, 36, 37] (k := ?_)
  repeat refine gwp_seq ?_
  refine gwp_region ?_
  refine v0 (k := ?_)
  refine v0 (k := ?_)
  refine v0 (k := ?_)
  refine rb 184 false (h := by (first | rfl | decide | simp)) (k := ?_)
  refine v0 (k := ?_)
  refine w0 (k := ?_)
  refine w0 (k := ?_)
  refine w0 (k := ?_)
  refine rb 188 false (h := by (first | rfl | decide | simp)) (k := ?_)
  refine v0 (k := ?_)
  refine v0 (k := ?_)
  refine w0 (k := ?_)
  refine w0 (k := ?_)
  refine w0 (k := ?_)
  refine rb 193 false (h := by (first | rfl | decide | simp)) (k := ?_)
  refine v0 (k := ?_)
  refine v0 (k := ?_)
  refine w0 (k := ?_)
  refine w0 (k := ?_)
  refine w0 (k := ?_)
  refine rb 198 false (h := by (first | rfl | decide | simp)) (k := ?_)
  refine v0 (k := ?_)
  refine v0 (k := ?_)
  refine w0 (k := ?_)
  refine w0 (k := ?_)
  refine w0 (k := ?_)
  refine rb 203 false (h := by (first | rfl | decide | simp)) (k := ?_)
  refine v0 (k := ?_)
  refine v0 (k := ?_)
  refine w0 (k := ?_)
  refine pcw (spec := r_size 0 (by omega)) (hent := ent33) (k := ?_)
  refine w0 (k := ?_)
  refine pcw (spec := r_size 0 (by omega)) (hent := ent33) (k := ?_)
  refine w0 (k := ?_)
  refine rb 210 false (h := by (first | rfl | decide | simp)) (k := ?_)
  refine v0 (k := ?_)
  refine v0 (k := ?_)
  refine w0 (k := ?_)
  refine w0 (k := ?_)
  refine w0 (k := ?_)
  refine rb 215 false (h := by (first | rfl | decide | simp)) (k := ?_)
  refine v0 (k := ?_)
  refine v0 (k := ?_)
  refine w0 (k := ?_)
  refine w0 (k := ?_)
  refine w0 (k := ?_)
  refine rb 220 false (h := by (first | rfl | decide | simp)) (k := ?_)
  refine v0 (k := ?_)
  refine v0 (k := ?_)
  refine w0 (k := ?_)
  refine w0 (k := ?_)
  refine pcw (spec := r_places [] (by decide)) (hent := ent28) (k := ?_)
  refine rb 225 true (h := by (rfl)) (k := ?_)
  refine w0 (k := ?_)
  refine rb 226 false (h := by (rfl)) (k := ?_)
  refine v0 (k := ?_)
  refine v0 (k := ?_)
  refine w0 (k := ?_)
  refine w0 (k := ?_)
  refine w0 (k := ?_)
  refine w0 (k := ?_)
  refine w0 (k := ?_)
  refine rb 233 false (h := by (first | rfl | decide | simp)) (k := ?_)
  refine v0 (k := ?_)
  refine rb 234 false (h := by (rfl)) (k := ?_)
  refine nil0 ?_
  repeat refine gwp_seq ?_
  refine cF (k := ?_)
  repeat refine gwp_seq ?_
  refine gwp_skip ?_
  refine cl [2, 5, 8, 9, 12, 14, 28, 30, 32] (k := ?_)
  repeat refine gwp_seq ?_
  refine gwp_region ?_
  refine v0 (k := ?_)
  refine v0 (k := ?_)
  refine nil0 ?_
  refine cl [2, 8, 9, 12, 14, 28, 30, 32, 235, 236] (k := ?_)
  repeat refine gwp_seq ?_
  refine gwp_block ?_
  repeat refine gwp_seq ?_
  refine gc_loop (fun mz σ => ∃ k : Nat, (k ≤ f.ps.length) ∧ mz = f.ps.length - k ∧ σ = (sg [(2, .ref 120 0), (8, .fn (.func 37) [] [.ptr [.p (.int .u8 (tu : Nat))], .ptr [.p (.int .i64 (f.ps.length : Nat))]]), (9, .own 730 f.ps.length), (12, .p (.int .i64 (usedN f f.ps.length : Nat))), (14, .p (.int .i64 (usedN (turnF f tu) (turnF f tu).ps.length : Nat))), (28, .p (.int .i64 0)), (30, .p (.int .i64 0)), (32, .p (.list [])), (235, .p (.int .i64 (f.ps.length : Nat))), (236, .p (.int .i64 (k : Nat)))] [(120, .cells [.p (.list (f.ps.map pS)), .p (.int .i64 f.el), .p (.int .i64 f.eh), .p (.int .i64 f.nl), .p (.int .i64 f.nh), .p (.int .i64 f.dl), .p (.int .i64 f.dh), .p (.int .i64 f.dep), .p (.int .i64 f.tm), .p (.int .i64 f.gp)] 0), (730, .arr 44 6 (f.ps.map pS) true)] A [] : Sg E)) ?_ (fun mz σ hI => ?_)
  · refine lbeg [2, 8, 9, 12, 14, 28, 30, 32, 235, 236] (hV := ?_)
    exact ⟨_, 0, by omega, rfl, rfl⟩
  obtain ⟨k, hk, hnn, rfl⟩ := hI
  repeat refine gwp_seq ?_
  refine gwp_region ?_
  refine v0 (k := ?_)
  refine nil0 ?_
  repeat refine gwp_seq ?_
  refine cB (k1 := fun hb2 => ?_) (k0 := fun hb2 => ?_)
  · replace hb2 := hB.h {} hb2
    try rw [eqI] at hb2
    repeat refine gwp_seq ?_
    refine gwp_skip ?_
    refine cl [2, 8, 9, 12, 14, 28, 30, 32, 235, 236] (k := ?_)
    repeat refine gwp_seq ?_
    refine gwp_block ?_
    repeat refine gwp_seq ?_
    refine gwp_region ?_
    refine v0 (k := ?_)
    refine v0 (k := ?_)
    refine nil0 ?_
    refine cl [2, 8, 9, 12, 14, 28, 30, 32, 38, 235, 236] (k := ?_)
    repeat refine gwp_seq ?_
    obtain ⟨p, hp⟩ := getE (l := f.ps) (k := k) (by omega)
    have htk : (turnP f.ps.length tu k) < f.ps.length := Nat.mod_lt _ (by omega)
    have f20 := shr_b (usedN f f.ps.length) k (by omega)
    have f21 := and_b (usedN f f.ps.length) k (by omega)
    have f22 := shr_b (usedN (turnF f tu) (turnF f tu).ps.length) (turnP f.ps.length tu k) (by omega)
    have f23 := and_b (usedN (turnF f tu) (turnF f tu).ps.length) (turnP f.ps.length tu k) (by omega)
    have f24 := bitN_same (rot_used (f := f) tu (k := k) (by omega))
    have f30 : ∀ m : Int, (0 : Int).fdiv m = 0 := Int.zero_fdiv
    have f31 : bitop .and .i64 0 1 = 0 := by decide
    refine rd ?_
    refine da0 0 (k := ?_)
    refine da0 1 (k := ?_)
    refine d1 2 (hc := kLo1.h {}) (k := ?_)
    refine d0 3 (k := ?_)
    refine da0 4 (k := ?_)
    refine da0 5 (k := ?_)
    refine da0 6 (k := ?_)
    refine doc0 7 [] [] [0, 0, 0] none (spec := q_37 f.ps.length tu k (by omega) ht (by omega)) (hent := ent37) (k := ?_)
    refine d1 8 (hc := kLo1.h {}) (k := ?_)
    refine d0 9 (k := ?_)
    refine d0 10 (k := ?_)
    refine drb 249 false (h := by (first | rfl | decide | simp)) (k := ?_)
    refine da0 11 (k := ?_)
    refine dw0 12 (k := ?_)
    refine dw0 13 (k := ?_)
    refine dw1 14 (hc := kLo1.h {}) (k := ?_)
    refine dw0 15 (k := ?_)
    refine dw0 16 (k := ?_)
    refine dw0 17 (k := ?_)
    refine dw0 18 (k := ?_)
    refine docw 19 [] [] [0, 0, 0] none (spec := q_37 f.ps.length tu k (by omega) ht (by omega)) (hent := ent37) (j := 11) (b := false) (i' := 250) (k := ?_)
    refine dw1 20 (hc := kLo1.h {}) (k := ?_)
    refine dw0 21 (k := ?_)
    refine dw0 22 (k := ?_)
    refine drb 261 false (h := by (first | rfl | decide | simp)) (k := ?_)
    refine da0 23 (k := ?_)
    refine da0 24 (k := ?_)
    refine dw0 25 (k := ?_)
    refine dw0 26 (k := ?_)
    refine dw1 27 (hc := kLo1.h {}) (k := ?_)
    refine dw0 28 (k := ?_)
    refine dw0 29 (k := ?_)
    refine dw0 30 (k := ?_)
    refine dw0 31 (k := ?_)
    refine dw1 32 (hc := kLo1.h {}) (k := ?_)
    refine dw0 33 (k := ?_)
    refine dw1 34 (hc := by (exact heg44)) (k := ?_)
    refine drb 273 false (h := by (first | rfl | decide | simp)) (k := ?_)
    refine da0 35 (k := ?_)
    refine dz 36 [0, 0, 3, 7, 0, 0, 0, 96, 240, 496, 1023, 2047, 4095, 4095, 16383, 32767, 4095, 4095, 4095, 397311, 987135, 2035711, 4194303, 8388607, 16777215, 33554431, 33554431, 134217727, 268435455, 33554431, 570425343, 33554431, 3791650815, 8086618111, 17179869183, 34359738367] (h := ?_)
    refine de 36 (h := ?_)
    repeat refine gwp_seq ?_
    refine cF (k := ?_)
    repeat refine gwp_seq ?_
    refine gwp_skip ?_
    refine cl [2, 8, 9, 12, 14, 28, 30, 32, 235, 236] (k := ?_)
    repeat refine gwp_seq ?_
    refine gwp_region ?_
    refine v1 (hc := kLo1.h {}) (k := ?_)
    refine v0 (k := ?_)
    refine nil0 ?_
    refine lend [2, 8, 9, 12, 14, 28, 30, 32, 235, 236] (h := ?_) (hV := ?_) (n' := f.ps.length - (k + 1))
    · omega
    exact ⟨k + 1, by omega, rfl, rfl⟩
  replace hb2 := hB.h {} hb2
  try rw [eqI] at hb2
  repeat refine gwp_seq ?_
  refine gwp_exit ?_
  repeat (first | refine gthen_exit ?_ | refine gnoGoto_exit ?_ | refine gblock_here ?_ | refine gblock_out rfl ?_)
  refine cl [2, 32] (k := ?_)
  repeat refine gwp_seq ?_
  refine gwp_region ?_
  refine n1 2860 false (hc := kLo1.h {}) (k := ?_)
  refine v0 (k := ?_)
  refine n1 2880 false (hc := kLo1.h {}) (k := ?_)
  refine v0 (k := ?_)
  refine nil0 ?_
  refine cl [2, 32, 39] (k := ?_)
  repeat refine gwp_seq ?_
  refine gwp_region ?_
  refine v0 (k := ?_)
  refine v0 (k := ?_)
  refine v0 (k := ?_)
  refine nil0 ?_
  refine cl [2, 32, 39, 280, 281] (k := ?_)
  repeat refine gwp_seq ?_
  refine gwp_block ?_
  repeat refine gwp_seq ?_
  refine gc_loop (fun mz σ => ∃ k : Nat, (k ≤ 0) ∧ mz = 0 - k ∧ σ = (sg [(2, .ref 120 0), (32, .p (.list [])), (39, .own 2860 0), (280, .p (.int .i64 0)), (281, .p (.int .i64 (k : Nat)))] [(120, .cells [.p (.list (f.ps.map pS)), .p (.int .i64 f.el), .p (.int .i64 f.eh), .p (.int .i64 f.nl), .p (.int .i64 f.nh), .p (.int .i64 f.dl), .p (.int .i64 f.dh), .p (.int .i64 f.dep), .p (.int .i64 f.tm), .p (.int .i64 f.gp)] 0), (2860, .arr 51 2 [] true)] A [] : Sg E)) ?_ (fun mz σ hI => ?_)
  · refine lbeg [2, 32, 39, 280, 281] (hV := ?_)
    exact ⟨_, 0, by omega, rfl, rfl⟩
  obtain ⟨k, hk, hnn, rfl⟩ := hI
  repeat refine gwp_seq ?_
  refine gwp_region ?_
  refine v0 (k := ?_)
  refine rb 282 false (h := by (first | with_reducible rfl | exact decide_eq_false (by omega) | exact nd_f (by omega) | rfl | decide)) (k := ?_)
  refine nil0 ?_
  repeat refine gwp_seq ?_
  refine cF (k := ?_)
  repeat refine gwp_seq ?_
  refine gwp_exit ?_
  repeat (first | refine gthen_exit ?_ | refine gnoGoto_exit ?_ | refine gblock_here ?_ | refine gblock_out rfl ?_)
  refine cl [2, 39] (k := ?_)
  repeat refine gwp_seq ?_
  refine gwp_region ?_
  refine v0 (k := ?_)
  refine pc0 (spec := ap_n f hv hq) (hent := ent26) (k := ?_)
  refine v0 (k := ?_)
  refine v0 (k := ?_)
  refine v0 (k := ?_)
  refine v0 (k := ?_)
  refine v0 (k := ?_)
  refine nil0 ?_
  refine cl [39, 41] (k := ?_)
  repeat refine gwp_seq ?_
  refine gwp_region ?_
  refine v0 (k := ?_)
  refine v0 (k := ?_)
  refine pc0 (spec := r_places [] (by decide)) (hent := ent28) (k := ?_)
  refine rb 296 true (h := by (rfl)) (k := ?_)
  refine v0 (k := ?_)
  refine pcw (spec := l_awake) (hent := ent13) (k := ?_)
  refine v0 (k := ?_)
  refine rb 299 true (h := by (rfl)) (k := ?_)
  refine v0 (k := ?_)
  refine nil0 ?_
  repeat refine gwp_seq ?_
  refine gwp_ret ?_
  repeat (first | refine gthen_ret ?_ | refine gblock_ret ?_ | refine gnoGoto_ret ?_)
  refine fin_ret ?_
  refine fp (hR := ?_)
  rfl
theorem l_turn_c (f : Fd) (tu : Nat) (ht : tu ≤ 255) (hh : hvyQ f 9 100 = false) (hv : f.valid = true) (w : Nat) (hw : (setsL f).find? (listQ f) = some w) (hq : listQ f (usedN f f.ps.length) = true) (l : List Pl) (hl0 : apL f (allS f.ps.length) = l) (hl1 : 1 ≤ l.length) (hl2 : l.length ≤ 1089) : PSpec Try.prog 11 [.agg [.list (f.ps.map pS), .int .i64 f.el, .int .i64 f.eh, .int .i64 f.nl, .int .i64 f.nh, .int .i64 f.dl, .int .i64 f.dh, .int .i64 f.dep, .int .i64 f.tm, .int .i64 f.gp], .int .u8 (tu : Nat)] (.ok (.bool true)) := by
  refine pspec_of Try.func11 (rfl : Try.f11.body = some _) rfl ?_
  intro E A C hN hL
  replace hN : C.N = 300 := hN
  simp only [Gh.num, List.map_cons, List.map_nil, Nat.reduceAdd]
  have hdt : ∀ (i : Decidable True), @decide True i = true := fun i => decide_eq_true trivial
  have hdf : ∀ (i : Decidable False), @decide False i = false := fun i => decide_eq_false id
  have hbt : (true == true) = true := rfl
  have hbf : (false == false) = true := rfl
  have htf : (true == false) = false := rfl
  have hft : (false == true) = false := rfl
  have hpS : ∀ p : Sk, pS p = P.agg [.int .i64 p.el, .int .i64 p.eh, .int .i64 p.nl, .int .i64 p.nh, .int .i64 p.day, .int .i64 p.dep] := fun _ => rfl
  have hdv : ∀ i : Nat, i * 2 / 2 = i := fun i => Nat.mul_div_cancel i (by decide)
  have hgs := geq_sky
  repeat refine gwp_seq ?_
  refine gwp_region ?_
  refine n1 120 false (hc := kLo1.h {}) (k := ?_)
  refine n1 130 false (hc := kLo1.h {}) (k := ?_)
  refine v0 (k := ?_)
  refine nil0 ?_
  refine cl [2, 3] (k := ?_)
  repeat refine gwp_seq ?_
  refine gwp_region ?_
  refine v0 (k := ?_)
  refine v0 (k := ?_)
  refine v0 (k := ?_)
  refine n1 150 false (hc := kLo1.h {}) (k := ?_)
  refine s1 (hc := kLo1.h {}) (k := ?_)
  refine nil0 ?_
  refine cl [2, 3, 5] (k := ?_)
  repeat refine gwp_seq ?_
  have hl : f.ps.length ≤ 1048576 := by have := hvy_len hh; omega
  have hn := valid_num hv
  have hpos := Nat.two_pow_pos f.ps.length
  have h62 : 2 ^ f.ps.length ≤ 2 ^ 12 := Nat.pow_le_pow_right (by omega) (by omega)
  have hal := allS_i f.ps.length
  have hal1 := Int.le_of_eq hal
  have hal2 := Int.le_of_eq hal.symm
  have hs12 := allS_lt (n := f.ps.length) (by omega)
  have hvx := turn_valid hv tu
  have hvy := sw_valid hv
  have hrt := turn_rot f tu
  have hyu := sw_used f
  have hul := used_lt2 f
  have hul2 := used_lt2 (turnF f tu)
  have htl : (turnF f tu).ps.length = f.ps.length := turn_len _ _
  have htl1 := Nat.le_of_eq htl
  clear htl
  have hpx12 : 2 ^ (turnF f tu).ps.length ≤ 2 ^ 12 := Nat.pow_le_pow_right (by omega) (by omega)
  have hS := sho_some hv hw
  have hSl := hS.lt
  have hqx : listQ (turnF f tu) (usedN (turnF f tu) (turnF f tu).ps.length) = true := by rw [hrt.all]; exact hq
  obtain ⟨v, hwx⟩ : ∃ v, (setsL (turnF f tu)).find? (listQ (turnF f tu)) = some v := by cases h : (setsL (turnF f tu)).find? (listQ (turnF f tu)) with | some v => exact ⟨v, rfl⟩ | none => rw [(sho_none hvx).1 h] at hqx; cases hqx
  have hSx := sho_some hvx hwx
  have hSxl := hSx.lt
  have hqy : listQ (swF f) (usedN (swF f) (swF f).ps.length) = true := by rw [sw_list, sw_used]; exact hq
  have hwy : (setsL (swF f)).find? (listQ (swF f)) = some w := by rw [sw_find]; exact hw
  have hpop := hrt.sho (by omega) hS hSx
  have hcnt := hrt.cnt (by omega) hv hvx hS hSx
  have hapx := hrt.ap hv hvx hq
  have hapy := sw_ap hv hq
  rw [hl0] at hapy
  repeat refine gwp_seq ?_
  refine gwp_region ?_
  refine v0 (k := ?_)
  refine pc0 (spec := l_heavy f 9 100) (hent := ent12) (k := ?_)
  refine rb 47 false (h := by (exact hh)) (k := ?_)
  refine v0 (k := ?_)
  refine w0 (k := ?_)
  refine pcw (spec := r_field f hl) (hent := ent29) (k := ?_)
  refine w0 (k := ?_)
  refine rb 51 false (h := by (rfl)) (k := ?_)
  refine v0 (k := ?_)
  refine rb 52 false (h := by (rfl)) (k := ?_)
  refine nil0 ?_
  repeat refine gwp_seq ?_
  refine cF (k := ?_)
  repeat refine gwp_seq ?_
  refine gwp_skip ?_
  refine cl [2, 3, 5] (k := ?_)
  repeat refine gwp_seq ?_
  refine rd ?_
  refine d0 0 (k := ?_)
  refine d0 1 (k := ?_)
  refine dn1 2 160 false (hc := kLo1.h {}) (k := ?_)
  refine dn1 3 170 false (hc := kLo1.h {}) (k := ?_)
  refine ds1 4 (hc := kLo1.h {}) (k := ?_)
  refine ds1 5 (hc := kLo1.h {}) (k := ?_)
  refine dz 6 [0, 0, 0, 0, 13, 31] (h := ?_)
  refine de 6 (h := ?_)
  refine cl [2, 3, 5, 6, 7] (k := ?_)
  repeat refine gwp_seq ?_
  refine rd ?_
  refine d0 0 (k := ?_)
  refine dn1 1 670 false (hc := kLo1.h {}) (k := ?_)
  refine d0 2 (k := ?_)
  refine dn1 3 690 false (hc := kLo1.h {}) (k := ?_)
  refine da0 4 (k := ?_)
  refine ds1 5 (hc := kLo1.h {}) (k := ?_)
  refine da0 6 (k := ?_)
  refine ds1 7 (hc := kLo1.h {}) (k := ?_)
  refine dz 8 [0, 1, 0, 4, 3, 19, 63, 127] (h := ?_)
  refine de 8 (h := ?_)
  rw [make_pc]
  refine cl [2, 3, 5, 6, 7] (k := ?_)
  repeat refine gwp_seq ?_
  refine fz 130 1 [.k] (k := ?_)
  refine fz 150 1 [.k] (k := ?_)
  refine gwp_region ?_
  refine v0 (k := ?_)
  refine v0 (k := ?_)
  refine nil0 ?_
  refine cl [2, 5, 6, 7, 8] (k := ?_)
  repeat refine gwp_seq ?_
  refine cv 8 (.f [.n [.k], .n [.k]]) (k := ?_)
  refine gwp_region ?_
  refine n1 730 false (hc := kLo1.h {}) (k := ?_)
  refine v0 (k := ?_)
  refine v0 (k := ?_)
  refine n1 760 false (hc := kLo1.h {}) (k := ?_)
  refine v0 (k := ?_)
  refine nil0 ?_
  refine cl [2, 5, 6, 7, 8, 9] (k := ?_)
  repeat refine gwp_seq ?_
  refine gwp_region ?_
  refine v0 (k := ?_)
  refine v0 (k := ?_)
  refine v0 (k := ?_)
  refine v0 (k := ?_)
  refine nil0 ?_
  refine cl [2, 5, 6, 7, 8, 9, 68, 69, 70] (k := ?_)
  repeat refine gwp_seq ?_
  refine gwp_block ?_
  repeat refine gwp_seq ?_
  refine gc_loop (fun mz σ => ∃ k : Nat, (k ≤ f.ps.length) ∧ mz = f.ps.length - k ∧ σ = (sg [(2, .ref 120 0), (5, .ref 150 0), (6, .ref 160 0), (7, .ref 170 0), (8, .fn (.func 37) [] [.ptr [.p (.int .u8 (tu : Nat))], .ptr [.p (.int .i64 (f.ps.length : Nat))]]), (9, .own 730 f.ps.length), (68, .p (.list (f.ps.map pS))), (69, .p (.int .i64 (f.ps.length : Nat))), (70, .p (.int .i64 (k : Nat)))] [(120, .cells [.p (.list (f.ps.map pS)), .p (.int .i64 f.el), .p (.int .i64 f.eh), .p (.int .i64 f.nl), .p (.int .i64 f.nh), .p (.int .i64 f.dl), .p (.int .i64 f.dh), .p (.int .i64 f.dep), .p (.int .i64 f.tm), .p (.int .i64 f.gp)] 0), (150, .cells [.p (.int .i64 (f.ps.length : Nat))] 1), (160, .cells [.fsl 670 0 f.ps.length, .p (.int .i64 f.el), .p (.int .i64 f.eh), .p (.int .i64 f.nl), .p (.int .i64 f.nh), .p (.int .i64 f.dl), .p (.int .i64 f.dh), .p (.int .i64 f.dep), .p (.int .i64 f.tm), .p (.int .i64 f.gp)] 0), (170, .cells [.fsl 690 0 f.ps.length, .p (.int .i64 f.el), .p (.int .i64 f.eh), .p (.int .i64 f.nl), .p (.int .i64 f.nh), .p (.int .i64 f.dl), .p (.int .i64 f.dh), .p (.int .i64 f.dep), .p (.int .i64 f.tm), .p (.int .i64 f.gp)] 0), (730, .arr 44 6 (f.ps.map pS) true), (670, .cells ((pcells (xK f.ps tu k)).map .p) 0), (690, .cells ((pcells (yK f.ps k)).map .p) 0)] A [] : Sg E)) ?_ (fun mz σ hI => ?_)
  · refine lbeg [2, 5, 6, 7, 8, 9, 68, 69, 70] (hV := ?_)
    exact ⟨_, 0, by omega, rfl, sgE rfl (by rw [xK_zero, yK_zero])⟩
  obtain ⟨k, hk, hnn, rfl⟩ := hI
  repeat refine gwp_seq ?_
  refine gwp_region ?_
  refine v0 (k := ?_)
  refine nil0 ?_
  repeat refine gwp_seq ?_
  refine cB (k1 := fun hb1 => ?_) (k0 := fun hb1 => ?_)
  · replace hb1 := hB.h {} hb1
    try rw [eqI] at hb1
    repeat refine gwp_seq ?_
    refine gwp_skip ?_
    refine cl [2, 5, 6, 7, 8, 9, 68, 69, 70] (k := ?_)
    repeat refine gwp_seq ?_
    refine gwp_block ?_
    repeat refine gwp_seq ?_
    obtain ⟨p, hp⟩ := getE (l := f.ps) (k := k) (by omega)
    have htk : (turnP f.ps.length tu k) < f.ps.length := Nat.mod_lt _ (by omega)
    have hxl : (pcells (xK f.ps tu k)).length = f.ps.length * 6 := by rw [pc_len, xK_len]
    have hyl : (pcells (yK f.ps k)).length = f.ps.length * 6 := by rw [pc_len, yK_len]
    refine gwp_region ?_
    refine v0 (k := ?_)
    refine v1 (hc := kLo1.h {}) (k := ?_)
    refine v0 (k := ?_)
    refine n1 210 false (hc := kLo1.h {}) (k := ?_)
    refine v0 (k := ?_)
    refine s1 (hc := kLo1.h {}) (k := ?_)
    refine nil0 ?_
    refine cl [2, 5, 6, 7, 8, 9, 10, 11, 68, 69, 70] (k := ?_)
    repeat refine gwp_seq ?_
    refine rd ?_
    refine da0 0 (k := ?_)
    refine d0 1 (k := ?_)
    refine da0 2 (k := ?_)
    refine da0 3 (k := ?_)
    refine doc0 4 [] [] [0, 0, 0] none (spec := q_37 f.ps.length tu k (by omega) ht (by omega)) (hent := ent37) (k := ?_)
    refine d0 5 (k := ?_)
    refine d1 6 (hc := kLo1.h {}) (k := ?_)
    refine ds1 7 (hc := kLo1.h {}) (k := ?_)
    refine dz 8 [0, 1, 0, 0, 12, 0, 63, 127] (h := ?_)
    refine de 8 (h := ?_)
    rw [x_put (tu := tu) hp]
    refine cl [2, 5, 6, 7, 8, 9, 10, 11, 68, 69, 70] (k := ?_)
    repeat refine gwp_seq ?_
    refine gwp_region ?_
    refine v0 (k := ?_)
    refine v0 (k := ?_)
    refine v0 (k := ?_)
    refine v0 (k := ?_)
    refine v0 (k := ?_)
    refine s1 (hc := kLo1.h {}) (k := ?_)
    refine v0 (k := ?_)
    refine s1 (hc := kLo1.h {}) (k := ?_)
    refine nil0 ?_
    refine cl [2, 5, 6, 7, 8, 9, 10, 11, 68, 69, 70] (k := ?_)
    repeat refine gwp_seq ?_
    refine gwp_region ?_
    refine v0 (k := ?_)
    refine v0 (k := ?_)
    refine v0 (k := ?_)
    refine v0 (k := ?_)
    refine v1 (hc := kLo1.h {}) (k := ?_)
    refine s1 (hc := kLo1.h {}) (k := ?_)
    refine nil0 ?_
    rw [y_put hp]
    refine cl [2, 5, 6, 7, 8, 9, 68, 69, 70] (k := ?_)
    repeat refine gwp_seq ?_
    refine gwp_region ?_
    refine v1 (hc := kLo1.h {}) (k := ?_)
    refine v0 (k := ?_)
    refine nil0 ?_
    refine lend [2, 5, 6, 7, 8, 9, 68, 69, 70] (h := ?_) (hV := ?_) (n' := f.ps.length - (k + 1))
    · omega
    exact ⟨k + 1, by omega, rfl, rfl⟩
  replace hb1 := hB.h {} hb1
  try rw [eqI] at hb1
  repeat refine gwp_seq ?_
  refine gwp_exit ?_
  repeat (first | refine gthen_exit ?_ | refine gnoGoto_exit ?_ | refine gblock_here ?_ | refine gblock_out rfl ?_)
  refine cl [2, 5, 6, 7, 8, 9] (k := ?_)
  repeat refine gwp_seq ?_
  refine rd ?_
  refine da0 0 (k := ?_)
  refine d0 1 (k := ?_)
  refine da0 2 (k := ?_)
  refine d0 3 (k := ?_)
  refine da0 4 (k := ?_)
  refine ds1 5 (hc := kLo1.h {}) (k := ?_)
  refine da0 6 (k := ?_)
  refine ds1 7 (hc := kLo1.h {}) (k := ?_)
  refine dz 8 [0, 1, 0, 4, 3, 19, 63, 127] (h := ?_)
  refine de 8 (h := ?_)
  refine cl [2, 5, 6, 7, 8, 9] (k := ?_)
  repeat refine gwp_seq ?_
  obtain rfl : k = f.ps.length := by omega
  have hxl2 : ((pcells (xK f.ps tu f.ps.length)).map G.p).length = f.ps.length * 6 := by rw [List.length_map, pc_len, xK_len]
  have hyl2 : ((pcells (yK f.ps f.ps.length)).map G.p).length = f.ps.length * 6 := by rw [List.length_map, pc_len, yK_len]
  refine gc_freezeK 670 (f.ps.length * 6) (cs := (pcells (xK f.ps tu f.ps.length)).map .p) (fz := 0) (by simp only [mkHp_cons, mkHp_nil, Nat.reduceEqDiff, reduceIte]) (by omega) (by omega) (all_flat _ _) ?_
  refine gc_freezeK 690 (f.ps.length * 6) (cs := (pcells (yK f.ps f.ps.length)).map .p) (fz := 0) (by simp only [mkHp_cons, mkHp_nil, Nat.reduceEqDiff, reduceIte]) (by omega) (by omega) (all_flat _ _) ?_
  refine gc_fslN 160 0 670 0 f.ps.length 6 (ds := [.fsl 670 0 f.ps.length, .p (.int .i64 f.el), .p (.int .i64 f.eh), .p (.int .i64 f.nl), .p (.int .i64 f.nh), .p (.int .i64 f.dl), .p (.int .i64 f.dh), .p (.int .i64 f.dep), .p (.int .i64 f.tm), .p (.int .i64 f.gp)]) (ds2 := [.p (.list ((turnF f tu).ps.map pS)), .p (.int .i64 f.el), .p (.int .i64 f.eh), .p (.int .i64 f.nl), .p (.int .i64 f.nh), .p (.int .i64 f.dl), .p (.int .i64 f.dh), .p (.int .i64 f.dep), .p (.int .i64 f.tm), .p (.int .i64 f.gp)]) (f1 := 0) (cs := (pcells (xK f.ps tu f.ps.length)).map .p) (fz := f.ps.length * 6) ((turnF f tu).ps.map pS) (by simp only [mkHp_cons, mkHp_nil, Nat.reduceEqDiff, reduceIte]) rfl (by simp only [mkHp_cons, mkHp_nil, Nat.reduceEqDiff, reduceIte]) (by omega) (by rw [List.drop_zero, List.take_of_length_le (by omega), xK_all]; rfl) (by rw [List.length_map]; exact turn_len _ _) rfl ?_
  refine gc_fslN 170 0 690 0 f.ps.length 6 (ds := [.fsl 690 0 f.ps.length, .p (.int .i64 f.nl), .p (.int .i64 f.nh), .p (.int .i64 f.el), .p (.int .i64 f.eh), .p (.int .i64 f.dl), .p (.int .i64 f.dh), .p (.int .i64 f.dep), .p (.int .i64 f.tm), .p (.int .i64 f.gp)]) (ds2 := [.p (.list ((swF f).ps.map pS)), .p (.int .i64 f.nl), .p (.int .i64 f.nh), .p (.int .i64 f.el), .p (.int .i64 f.eh), .p (.int .i64 f.dl), .p (.int .i64 f.dh), .p (.int .i64 f.dep), .p (.int .i64 f.tm), .p (.int .i64 f.gp)]) (f1 := 0) (cs := (pcells (yK f.ps f.ps.length)).map .p) (fz := f.ps.length * 6) ((swF f).ps.map pS) (by simp only [mkHp_cons, mkHp_nil, Nat.reduceEqDiff, reduceIte]) rfl (by simp only [mkHp_cons, mkHp_nil, Nat.reduceEqDiff, reduceIte]) (by omega) (by rw [List.drop_zero, List.take_of_length_le (by omega), yK_all]; rfl) (by rw [List.length_map]; exact sw_len _) rfl ?_
  refine gwp_region ?_
  refine v0 (k := ?_)
  refine pc0 (spec := us_t f hv) (hent := ent14) (k := ?_)
  refine v0 (k := ?_)
  refine v0 (k := ?_)
  refine v0 (k := ?_)
  refine v0 (k := ?_)
  refine v0 (k := ?_)
  refine nil0 ?_
  refine cl [2, 5, 6, 7, 8, 9, 12, 13] (k := ?_)
  repeat refine gwp_seq ?_
  refine gwp_region ?_
  refine v0 (k := ?_)
  refine pc0 (spec := us_t (turnF f tu) hvx) (hent := ent14) (k := ?_)
  refine v0 (k := ?_)
  refine v0 (k := ?_)
  refine v0 (k := ?_)
  refine v0 (k := ?_)
  refine v0 (k := ?_)
  refine nil0 ?_
  refine cl [2, 5, 6, 7, 8, 9, 12, 13, 14, 15] (k := ?_)
  repeat refine gwp_seq ?_
  refine gwp_region ?_
  refine v0 (k := ?_)
  refine pc0 (spec := us_t (swF f) hvy) (hent := ent14) (k := ?_)
  refine v0 (k := ?_)
  refine v0 (k := ?_)
  refine v0 (k := ?_)
  refine v0 (k := ?_)
  refine v0 (k := ?_)
  refine nil0 ?_
  refine cl [2, 5, 6, 7, 8, 9, 12, 13, 14, 15, 16, 17] (k := ?_)
  repeat refine gwp_seq ?_
  refine gwp_region ?_
  refine v0 (k := ?_)
  refine v0 (k := ?_)
  refine rb 116 false (h := by (first | rfl | decide | simp)) (k := ?_)
  refine v0 (k := ?_)
  refine w0 (k := ?_)
  refine w0 (k := ?_)
  refine w0 (k := ?_)
  refine rb 120 false (h := by (first | rfl | decide | simp)) (k := ?_)
  refine v0 (k := ?_)
  refine v0 (k := ?_)
  refine w0 (k := ?_)
  refine w0 (k := ?_)
  refine w0 (k := ?_)
  refine rb 125 false (h := by (first | rfl | decide | simp)) (k := ?_)
  refine v0 (k := ?_)
  refine v0 (k := ?_)
  refine w0 (k := ?_)
  refine w0 (k := ?_)
  refine w0 (k := ?_)
  refine rb 130 false (h := by (first | rfl | decide | simp)) (k := ?_)
  refine v0 (k := ?_)
  refine rb 131 false (h := by (rfl)) (k := ?_)
  refine nil0 ?_
  repeat refine gwp_seq ?_
  refine cF (k := ?_)
  repeat refine gwp_seq ?_
  refine gwp_skip ?_
  refine cl [2, 5, 6, 7, 8, 9, 12, 14] (k := ?_)
  repeat refine gwp_seq ?_
  refine gwp_region ?_
  refine v0 (k := ?_)
  refine pc0 (spec := sh_t f hv w hw) (hent := ent20) (k := ?_)
  refine v0 (k := ?_)
  refine v0 (k := ?_)
  refine v0 (k := ?_)
  refine v0 (k := ?_)
  refine v0 (k := ?_)
  refine nil0 ?_
  refine cl [2, 5, 6, 7, 8, 9, 12, 14, 18, 19] (k := ?_)
  repeat refine gwp_seq ?_
  refine gwp_region ?_
  refine v0 (k := ?_)
  refine pc0 (spec := sh_t (turnF f tu) hvx v hwx) (hent := ent20) (k := ?_)
  refine v0 (k := ?_)
  refine v0 (k := ?_)
  refine v0 (k := ?_)
  refine v0 (k := ?_)
  refine v0 (k := ?_)
  refine nil0 ?_
  refine cl [2, 5, 6, 7, 8, 9, 12, 14, 18, 19, 20, 21] (k := ?_)
  repeat refine gwp_seq ?_
  refine gwp_region ?_
  refine v0 (k := ?_)
  refine pc0 (spec := sh_t (swF f) hvy w hwy) (hent := ent20) (k := ?_)
  refine v0 (k := ?_)
  refine v0 (k := ?_)
  refine v0 (k := ?_)
  refine v0 (k := ?_)
  refine v0 (k := ?_)
  refine nil0 ?_
  refine cl [2, 5, 6, 7, 8, 9, 12, 14, 18, 19, 20, 21, 22, 23] (k := ?_)
  repeat refine gwp_seq ?_
  refine gwp_region ?_
  refine v0 (k := ?_)
  refine pc0 (spec := li_t f hv w hw) (hent := ent22) (k := ?_)
  refine v0 (k := ?_)
  refine v0 (k := ?_)
  refine v0 (k := ?_)
  refine v0 (k := ?_)
  refine v0 (k := ?_)
  refine nil0 ?_
  refine cl [2, 5, 6, 7, 8, 9, 12, 14, 18, 19, 20, 21, 22, 23, 24] (k := ?_)
  repeat refine gwp_seq ?_
  refine gwp_region ?_
  refine v0 (k := ?_)
  refine pc0 (spec := li_t (turnF f tu) hvx v hwx) (hent := ent22) (k := ?_)
  refine v0 (k := ?_)
  refine v0 (k := ?_)
  refine v0 (k := ?_)
  refine v0 (k := ?_)
  refine v0 (k := ?_)
  refine nil0 ?_
  refine cl [2, 5, 6, 7, 8, 9, 12, 14, 18, 19, 20, 21, 22, 23, 24, 26] (k := ?_)
  repeat refine gwp_seq ?_
  refine gwp_region ?_
  refine v0 (k := ?_)
  refine pc0 (spec := ne_t f hv hq) (hent := ent24) (k := ?_)
  refine v0 (k := ?_)
  refine v0 (k := ?_)
  refine v0 (k := ?_)
  refine v0 (k := ?_)
  refine v0 (k := ?_)
  refine nil0 ?_
  refine cl [2, 5, 6, 7, 8, 9, 12, 14, 18, 19, 20, 21, 22, 23, 24, 26, 28] (k := ?_)
  repeat refine gwp_seq ?_
  refine gwp_region ?_
  refine v0 (k := ?_)
  refine pc0 (spec := ne_t (turnF f tu) hvx hqx) (hent := ent24) (k := ?_)
  refine v0 (k := ?_)
  refine v0 (k := ?_)
  refine v0 (k := ?_)
  refine v0 (k := ?_)
  refine v0 (k := ?_)
  refine nil0 ?_
  refine cl [2, 5, 6, 7, 8, 9, 12, 14, 18, 19, 20, 21, 22, 23, 24, 26, 28, 30] (k := ?_)
  repeat refine gwp_seq ?_
  refine gwp_region ?_
  refine v0 (k := ?_)
  refine oc0 [(6000, 6000)] [] [0] none (spec := (by have h := p_apart_o (E := E) (A := A) f hv hq (by rw [hl0]; exact hl1); rw [hl0] at h; exact h)) (hent := ent26) (k := ?_)
  refine v0 (k := ?_)
  refine v0 (k := ?_)
  refine v0 (k := ?_)
  refine v0 (k := ?_)
  refine v0 (k := ?_)
  refine nil0 ?_
  refine cl [2, 5, 6, 7, 8, 9, 12, 14, 18, 19, 20, 21, 22, 23, 24, 26, 28, 30, 32, 33] (k := ?_)
  repeat refine gwp_seq ?_
  refine gwp_region ?_
  refine v0 (k := ?_)
  refine pc0 (spec := (by have h := ap_t (turnF f tu) hvx hqx; rw [hapx, hl0] at h; exact h)) (hent := ent26) (k := ?_)
  refine v0 (k := ?_)
  refine v0 (k := ?_)
  refine v0 (k := ?_)
  refine v0 (k := ?_)
  refine v0 (k := ?_)
  refine nil0 ?_
  refine cl [2, 5, 7, 8, 9, 12, 14, 18, 19, 20, 21, 22, 23, 24, 26, 28, 30, 32, 33, 34, 35] (k := ?_)
  repeat refine gwp_seq ?_
  refine gwp_region ?_
  refine v0 (k := ?_)
  refine pc0 (spec := ap_t (swF f) hvy hqy) (hent := ent26) (k := ?_)
  refine v0 (k := ?_)
  refine v0 (k := ?_)
  refine v0 (k := ?_)
  refine v0 (k := ?_)
  refine v0 (k := ?_)
  refine nil0 ?_
  refine cl [2, 5, 8, 9, 12, 14, 18, 19, 20, 21, 22, 23, 24, 26, 28, 30, 32, 33, 34, 35, 36, 37] (k := ?_)
  repeat refine gwp_seq ?_
  refine gwp_region ?_
  refine v0 (k := ?_)
  refine v0 (k := ?_)
  refine v0 (k := ?_)
  refine rb 184 false (h := by (first | rfl | decide | simp)) (k := ?_)
  refine v0 (k := ?_)
  refine w0 (k := ?_)
  refine w0 (k := ?_)
  refine w0 (k := ?_)
  refine rb 188 false (h := by (first | rfl | decide | simp)) (k := ?_)
  refine v0 (k := ?_)
  refine v0 (k := ?_)
  refine w0 (k := ?_)
  refine w0 (k := ?_)
  refine w0 (k := ?_)
  refine rb 193 false (h := by (first | rfl | decide | simp)) (k := ?_)
  refine v0 (k := ?_)
  refine v0 (k := ?_)
  refine w0 (k := ?_)
  refine w0 (k := ?_)
  refine w0 (k := ?_)
  refine rb 198 false (h := by (first | rfl | decide | simp)) (k := ?_)
  refine v0 (k := ?_)
  refine v0 (k := ?_)
  refine w0 (k := ?_)
  refine w0 (k := ?_)
  refine w0 (k := ?_)
  refine rb 203 false (h := by (first | rfl | decide | simp)) (k := ?_)
  refine v0 (k := ?_)
  refine v0 (k := ?_)
  refine w0 (k := ?_)
  refine pcw (spec := r_size w (by omega)) (hent := ent33) (k := ?_)
  refine w0 (k := ?_)
  refine pcw (spec := r_size v (by omega)) (hent := ent33) (k := ?_)
  refine w0 (k := ?_)
  refine rb 210 false (h := by (first | rfl | decide | simp)) (k := ?_)
  refine v0 (k := ?_)
  refine v0 (k := ?_)
  refine w0 (k := ?_)
  refine w0 (k := ?_)
  refine w0 (k := ?_)
  refine rb 215 false (h := by (first | rfl | decide | simp)) (k := ?_)
  refine v0 (k := ?_)
  refine v0 (k := ?_)
  refine w0 (k := ?_)
  refine w0 (k := ?_)
  refine w0 (k := ?_)
  refine rb 220 false (h := by (first | rfl | decide | simp)) (k := ?_)
  refine v0 (k := ?_)
  refine v0 (k := ?_)
  refine w0 (k := ?_)
  refine w0 (k := ?_)
  refine ocw [(0, 6000)] [] [0, 0] none (spec := r_places_o l (by omega)) (hent := ent28) (k := ?_)
  refine rb 225 true (h := by (rfl)) (k := ?_)
  refine w0 (k := ?_)
  refine rb 226 false (h := by (rfl)) (k := ?_)
  refine v0 (k := ?_)
  refine v0 (k := ?_)
  refine w0 (k := ?_)
  refine w0 (k := ?_)
  refine w0 (k := ?_)
  refine w0 (k := ?_)
  refine w0 (k := ?_)
  refine rb 233 false (h := by (first | rfl | decide | simp)) (k := ?_)
  refine v0 (k := ?_)
  refine rb 234 false (h := by (rfl)) (k := ?_)
  refine nil0 ?_
  repeat refine gwp_seq ?_
  refine cF (k := ?_)
  repeat refine gwp_seq ?_
  refine gwp_skip ?_
  refine cl [2, 5, 8, 9, 12, 14, 28, 30, 32] (k := ?_)
  repeat refine gwp_seq ?_
  refine gwp_region ?_
  refine v0 (k := ?_)
  refine v0 (k := ?_)
  refine nil0 ?_
  refine cl [2, 8, 9, 12, 14, 28, 30, 32, 235, 236] (k := ?_)
  repeat refine gwp_seq ?_
  refine gwp_block ?_
  repeat refine gwp_seq ?_
  refine gc_loop (fun mz σ => ∃ k : Nat, (k ≤ f.ps.length) ∧ mz = f.ps.length - k ∧ σ = (sg [(2, .ref 120 0), (8, .fn (.func 37) [] [.ptr [.p (.int .u8 (tu : Nat))], .ptr [.p (.int .i64 (f.ps.length : Nat))]]), (9, .own 730 f.ps.length), (12, .p (.int .i64 (usedN f f.ps.length : Nat))), (14, .p (.int .i64 (usedN (turnF f tu) (turnF f tu).ps.length : Nat))), (28, .p (.int .i64 (needN f f.ps.length : Nat))), (30, .p (.int .i64 (needN (turnF f tu) (turnF f tu).ps.length : Nat))), (32, .own 6000 l.length), (235, .p (.int .i64 (f.ps.length : Nat))), (236, .p (.int .i64 (k : Nat)))] [(120, .cells [.p (.list (f.ps.map pS)), .p (.int .i64 f.el), .p (.int .i64 f.eh), .p (.int .i64 f.nl), .p (.int .i64 f.nh), .p (.int .i64 f.dl), .p (.int .i64 f.dh), .p (.int .i64 f.dep), .p (.int .i64 f.tm), .p (.int .i64 f.gp)] 0), (730, .arr 44 6 (f.ps.map pS) true), (6000, .arr 51 2 (l.map fun e : Int × Int => P.agg [.int .i64 e.1, .int .i64 e.2]) false)] A [] : Sg E)) ?_ (fun mz σ hI => ?_)
  · refine lbeg [2, 8, 9, 12, 14, 28, 30, 32, 235, 236] (hV := ?_)
    exact ⟨_, 0, by omega, rfl, rfl⟩
  obtain ⟨k, hk, hnn, rfl⟩ := hI
  repeat refine gwp_seq ?_
  refine gwp_region ?_
  refine v0 (k := ?_)
  refine nil0 ?_
  repeat refine gwp_seq ?_
  refine cB (k1 := fun hb2 => ?_) (k0 := fun hb2 => ?_)
  · replace hb2 := hB.h {} hb2
    try rw [eqI] at hb2
    repeat refine gwp_seq ?_
    refine gwp_skip ?_
    refine cl [2, 8, 9, 12, 14, 28, 30, 32, 235, 236] (k := ?_)
    repeat refine gwp_seq ?_
    refine gwp_block ?_
    repeat refine gwp_seq ?_
    refine gwp_region ?_
    refine v0 (k := ?_)
    refine v0 (k := ?_)
    refine nil0 ?_
    refine cl [2, 8, 9, 12, 14, 28, 30, 32, 38, 235, 236] (k := ?_)
    repeat refine gwp_seq ?_
    obtain ⟨p, hp⟩ := getE (l := f.ps) (k := k) (by omega)
    have htk : (turnP f.ps.length tu k) < f.ps.length := Nat.mod_lt _ (by omega)
    have f20 := shr_b (usedN f f.ps.length) k (by omega)
    have f21 := and_b (usedN f f.ps.length) k (by omega)
    have f22 := shr_b (usedN (turnF f tu) (turnF f tu).ps.length) (turnP f.ps.length tu k) (by omega)
    have f23 := and_b (usedN (turnF f tu) (turnF f tu).ps.length) (turnP f.ps.length tu k) (by omega)
    have f24 := bitN_same (rot_used (f := f) tu (k := k) (by omega))
    have hnl := setN_lt2 (needQ f) f.ps.length
    have hnl2 : needN f f.ps.length < 2 ^ f.ps.length := hnl
    have hnx := setN_lt2 (needQ (turnF f tu)) (turnF f tu).ps.length
    have hnx2 : needN (turnF f tu) (turnF f tu).ps.length < 2 ^ (turnF f tu).ps.length := hnx
    have hpx : 2 ^ (turnF f tu).ps.length ≤ 2 ^ f.ps.length := Nat.pow_le_pow_right (by omega) htl1
    have f30 := shr_b (needN f f.ps.length) k (by omega)
    have f31 := and_b (needN f f.ps.length) k (by omega)
    have f32 := shr_b (needN (turnF f tu) (turnF f tu).ps.length) (turnP f.ps.length tu k) (by omega)
    have f33 := and_b (needN (turnF f tu) (turnF f tu).ps.length) (turnP f.ps.length tu k) (by omega)
    have f34 := bitN_same (hrt.need hv hvx hq (show k < f.ps.length by omega))
    refine rd ?_
    refine da0 0 (k := ?_)
    refine da0 1 (k := ?_)
    refine d1 2 (hc := kLo1.h {}) (k := ?_)
    refine d0 3 (k := ?_)
    refine da0 4 (k := ?_)
    refine da0 5 (k := ?_)
    refine da0 6 (k := ?_)
    refine doc0 7 [] [] [0, 0, 0] none (spec := q_37 f.ps.length tu k (by omega) ht (by omega)) (hent := ent37) (k := ?_)
    refine d1 8 (hc := kLo1.h {}) (k := ?_)
    refine d0 9 (k := ?_)
    refine d0 10 (k := ?_)
    refine drb 249 false (h := by (first | rfl | decide | simp)) (k := ?_)
    refine da0 11 (k := ?_)
    refine dw0 12 (k := ?_)
    refine dw0 13 (k := ?_)
    refine dw1 14 (hc := kLo1.h {}) (k := ?_)
    refine dw0 15 (k := ?_)
    refine dw0 16 (k := ?_)
    refine dw0 17 (k := ?_)
    refine dw0 18 (k := ?_)
    refine docw 19 [] [] [0, 0, 0] none (spec := q_37 f.ps.length tu k (by omega) ht (by omega)) (hent := ent37) (j := 11) (b := false) (i' := 250) (k := ?_)
    refine dw1 20 (hc := kLo1.h {}) (k := ?_)
    refine dw0 21 (k := ?_)
    refine dw0 22 (k := ?_)
    refine drb 261 false (h := by (first | rfl | decide | simp)) (k := ?_)
    refine da0 23 (k := ?_)
    refine da0 24 (k := ?_)
    refine dw0 25 (k := ?_)
    refine dw0 26 (k := ?_)
    refine dw1 27 (hc := kLo1.h {}) (k := ?_)
    refine dw0 28 (k := ?_)
    refine dw0 29 (k := ?_)
    refine dw0 30 (k := ?_)
    refine dw0 31 (k := ?_)
    refine dw1 32 (hc := kLo1.h {}) (k := ?_)
    refine dw0 33 (k := ?_)
    refine dw1 34 (hc := by (exact heg44)) (k := ?_)
    refine drb 273 false (h := by (first | rfl | decide | simp)) (k := ?_)
    refine da0 35 (k := ?_)
    refine dz 36 [0, 0, 3, 7, 0, 0, 0, 96, 240, 496, 1023, 2047, 4095, 4095, 16383, 32767, 4095, 4095, 4095, 397311, 987135, 2035711, 4194303, 8388607, 16777215, 33554431, 33554431, 134217727, 268435455, 33554431, 570425343, 33554431, 3791650815, 8086618111, 17179869183, 34359738367] (h := ?_)
    refine de 36 (h := ?_)
    repeat refine gwp_seq ?_
    refine cF (k := ?_)
    repeat refine gwp_seq ?_
    refine gwp_skip ?_
    refine cl [2, 8, 9, 12, 14, 28, 30, 32, 235, 236] (k := ?_)
    repeat refine gwp_seq ?_
    refine gwp_region ?_
    refine v1 (hc := kLo1.h {}) (k := ?_)
    refine v0 (k := ?_)
    refine nil0 ?_
    refine lend [2, 8, 9, 12, 14, 28, 30, 32, 235, 236] (h := ?_) (hV := ?_) (n' := f.ps.length - (k + 1))
    · omega
    exact ⟨k + 1, by omega, rfl, rfl⟩
  replace hb2 := hB.h {} hb2
  try rw [eqI] at hb2
  repeat refine gwp_seq ?_
  refine gwp_exit ?_
  repeat (first | refine gthen_exit ?_ | refine gnoGoto_exit ?_ | refine gblock_here ?_ | refine gblock_out rfl ?_)
  refine cl [2, 32] (k := ?_)
  repeat refine gwp_seq ?_
  refine gwp_region ?_
  refine n1 2860 false (hc := kLo1.h {}) (k := ?_)
  refine v0 (k := ?_)
  refine n1 2880 false (hc := kLo1.h {}) (k := ?_)
  refine v0 (k := ?_)
  refine nil0 ?_
  refine cl [2, 32, 39] (k := ?_)
  repeat refine gwp_seq ?_
  refine gwp_region ?_
  refine v0 (k := ?_)
  refine v0 (k := ?_)
  refine v0 (k := ?_)
  refine nil0 ?_
  refine cl [2, 32, 39, 280, 281] (k := ?_)
  repeat refine gwp_seq ?_
  refine gwp_block ?_
  repeat refine gwp_seq ?_
  refine gc_loop (fun mz σ => ∃ (k : Nat) (z : List Pl), (k ≤ l.length) ∧ (z.length ≤ l.length ∧ l.length ≤ z.length) ∧ mz = l.length - k ∧ σ = (sg [(2, .ref 120 0), (32, .own 6000 l.length), (39, .own 2860 l.length), (280, .p (.int .i64 (l.length : Nat))), (281, .p (.int .i64 (k : Nat)))] [(120, .cells [.p (.list (f.ps.map pS)), .p (.int .i64 f.el), .p (.int .i64 f.eh), .p (.int .i64 f.nl), .p (.int .i64 f.nh), .p (.int .i64 f.dl), .p (.int .i64 f.dh), .p (.int .i64 f.dep), .p (.int .i64 f.tm), .p (.int .i64 f.gp)] 0), (6000, .arr 51 2 (z.map fun e : Int × Int => P.agg [.int .i64 e.1, .int .i64 e.2]) false), (2860, .arr 51 2 (l.map fun e : Int × Int => P.agg [.int .i64 e.1, .int .i64 e.2]) true)] A [] : Sg E)) ?_ (fun mz σ hI => ?_)
  · refine lbeg [2, 32, 39, 280, 281] (hV := ?_)
    exact ⟨_, 0, l, by omega, by omega, rfl, rfl⟩
  obtain ⟨k, z, hk, hzl, hnn, rfl⟩ := hI
  repeat refine gwp_seq ?_
  refine gwp_region ?_
  refine v0 (k := ?_)
  refine nil0 ?_
  repeat refine gwp_seq ?_
  refine cB (k1 := fun hb3 => ?_) (k0 := fun hb3 => ?_)
  · replace hb3 := hB.h {} hb3
    try rw [eqI] at hb3
    repeat refine gwp_seq ?_
    refine gwp_skip ?_
    refine cl [2, 32, 39, 280, 281] (k := ?_)
    repeat refine gwp_seq ?_
    refine gwp_block ?_
    repeat refine gwp_seq ?_
    refine gwp_region ?_
    refine v0 (k := ?_)
    refine v0 (k := ?_)
    refine nil0 ?_
    refine cl [2, 32, 39, 40, 280, 281] (k := ?_)
    repeat refine gwp_seq ?_
    refine gwp_region ?_
    refine v0 (k := ?_)
    refine v0 (k := ?_)
    refine v0 (k := ?_)
    refine v1 (hc := kLo1.h {}) (k := ?_)
    refine s1 (hc := kLo1.h {}) (k := ?_)
    refine nil0 ?_
    refine cl [2, 32, 39, 280, 281] (k := ?_)
    repeat refine gwp_seq ?_
    refine gwp_region ?_
    refine v1 (hc := kLo1.h {}) (k := ?_)
    refine v0 (k := ?_)
    refine nil0 ?_
    refine lend [2, 32, 39, 280, 281] (h := ?_) (hV := ?_) (n' := l.length - (k + 1))
    · omega
    exact ⟨k + 1, z.set k (-9, -9), by omega, by rw [List.length_set]; exact hzl, rfl, sgE rfl (by rw [List.map_set])⟩
  replace hb3 := hB.h {} hb3
  try rw [eqI] at hb3
  repeat refine gwp_seq ?_
  refine gwp_exit ?_
  repeat (first | refine gthen_exit ?_ | refine gnoGoto_exit ?_ | refine gblock_here ?_ | refine gblock_out rfl ?_)
  refine cl [2, 39] (k := ?_)
  repeat refine gwp_seq ?_
  refine gwp_region ?_
  refine v0 (k := ?_)
  refine pc0 (spec := (by have h := ap_t f hv hq; rw [hl0] at h; exact h)) (hent := ent26) (k := ?_)
  refine v0 (k := ?_)
  refine v0 (k := ?_)
  refine v0 (k := ?_)
  refine v0 (k := ?_)
  refine v0 (k := ?_)
  refine nil0 ?_
  refine cl [39, 41] (k := ?_)
  repeat refine gwp_seq ?_
  refine gwp_region ?_
  refine v0 (k := ?_)
  refine v0 (k := ?_)
  refine pc0 (spec := r_places l (by omega)) (hent := ent28) (k := ?_)
  refine rb 296 true (h := by (rfl)) (k := ?_)
  refine v0 (k := ?_)
  refine pcw (spec := l_awake) (hent := ent13) (k := ?_)
  refine v0 (k := ?_)
  refine rb 299 true (h := by (rfl)) (k := ?_)
  refine v0 (k := ?_)
  refine nil0 ?_
  repeat refine gwp_seq ?_
  refine gwp_ret ?_
  repeat (first | refine gthen_ret ?_ | refine gblock_ret ?_ | refine gnoGoto_ret ?_)
  refine fin_ret ?_
  refine fp (hR := ?_)
  rfl
theorem l_turned (f : Fd) (tu : Nat) (ht : tu ≤ 255) : PSpec Try.prog 11 [.agg [.list (f.ps.map pS), .int .i64 f.el, .int .i64 f.eh, .int .i64 f.nl, .int .i64 f.nh, .int .i64 f.dl, .int .i64 f.dh, .int .i64 f.dep, .int .i64 f.tm, .int .i64 f.gp], .int .u8 (tu : Nat)] (.ok (.bool true)) := by
  cases hh : hvyQ f 9 100 with
  | true => exact l_turn_x f tu ht hh
  | false =>
    cases hv : f.valid with
    | false => exact l_turn_a f tu ht hh hv
    | true =>
      cases hw : (setsL f).find? (listQ f) with
      | none => exact l_turn_b f tu ht hh hv hw
      | some w =>
        have hS := sho_some hv hw
        have ha := apl_ok hv hS.lt hS.ls
        exact l_turn_c f tu ht hh hv w hw (list_sub hv hS.sub hS.ls) _ rfl ha.one ha.len
end Go.Proofs.Ytabeeaiilanmjaa

/- The statement CoverTurned, for every input: the law returns true, and its arguments read as they did.  -/
namespace Go.Proofs.Ytabeeaiilanmjaa
open Go.Gh Go.ChangeShapes Go.WideShapes Go.ChangeAt Go.RowKit
set_option maxRecDepth 100000
theorem aj_turned : ∀ ps, FitAs [(true, fdSS), (false, [.int .u8])] ps → PSpec Try.prog 11 ps (.ok (.bool true)) := fun ps h => by
  simp only [FitAs] at h
  obtain ⟨_, _, rfl, q0, _, _, rfl, q1, rfl⟩ := h
  obtain ⟨f, rfl, hf⟩ := fd_of q0
  obtain ⟨tu, rfl, htu⟩ := u8_of q1
  exact l_turned f tu htu
theorem turned_lifted (os : Os) (started : os.Started) (H : Type) (enc : TypeId × Value → H) :
    ReturnsInHanded {} Try.checked os 11 .any (Rows.coverTurnedSpec.pre6 enc Try.prog Try.f11 Rows.coverTurnedRow.domain false) (Rows.coverTurnedSpec.post enc Try.prog Try.f11 false true false false) := by
  refine returnsInHanded_of_change (C := Try.checked) own started (by kernel_rfl) Try.func11
    (ChangeSpec.witness6 (enc := enc) (C := Try.checked) false ⟨#[], #[.agg #[.slice none 0 0, .int .i64 0, .int .i64 0, .int .i64 0, .int .i64 0, .int .i64 0, .int .i64 0, .int .i64 0, .int .i64 0, .int .i64 0], .int .u8 0], []⟩ 8 (by kernel_rfl) (by kernel_rfl) (by kernel_rfl) (by kernel_rfl)) ?_
  intro W base args ds gs before hval hW _ _
  exact law_post (n := 9) (ss := [(true, fdSS), (false, [.int .u8])]) (b := 4) laidOut (by kernel_rfl) (by kernel_rfl) (by kernel_rfl) (by kernel_rfl) rfl
    (fun ds hd => by
      have hd' : ds.length = 2 := hd
      match ds, hd' with
      | [a, b], _ => rfl) aj_turned hval hW
theorem turned_holds : Rows.CoverTurnedSaid :=
  OpenClaim.holds_of_wide 11 Try.f11 rfl rfl rfl rfl rfl rfl rfl ⟨rfl, rfl, rfl, rfl, rfl⟩ rfl rfl rfl rfl rfl (by kernel_rfl) Try.func11 (by kernel_rfl)
    (of_decide_eq_true (by kernel_rfl)) (by unfold Func.isWrapper; first | (rw [if_pos (by decide +kernel)]; kernel_rfl) | (rw [if_neg (by decide +kernel)]; exact ⟨rfl, rfl⟩))
    (fun os started H enc _ => turned_lifted os started H enc)
end Go.Proofs.Ytabeeaiilanmjaa
