/- The statement CoverReads: the call returns true for every input, and its arguments read as before; no condition. -/
import Derived.Test.YtabeeaiilanmjaaB4
set_option linter.unusedVariables false
set_option linter.unusedSimpArgs false
/- The statement CoverReads: what the program says is what the document says. -/
namespace Go.Proofs.Ytabeeaiilanmjaa
open Go.Gh
set_option maxRecDepth 100000
set_option maxHeartbeats 4000000
theorem ent3 : Enters Try.prog 3 := Enters.mk Try.func3 (by kernel_rfl) rfl
theorem l_reads (f : Fd) (s a b : Int) : PSpec Try.prog 3 [.agg [.list (f.ps.map pS), .int .i64 f.el, .int .i64 f.eh, .int .i64 f.nl, .int .i64 f.nh, .int .i64 f.dl, .int .i64 f.dh, .int .i64 f.dep, .int .i64 f.tm, .int .i64 f.gp], .int .i64 s, .int .i64 a, .int .i64 b] (.ok (.bool true)) := by
  refine pspec_of Try.func3 (rfl : Try.f3.body = some _) rfl ?_
  intro E A C hN hL
  replace hN : C.N = 111 := hN
  simp only [Gh.num, List.map_cons, List.map_nil, Nat.reduceAdd]
  have hdt : ∀ (i : Decidable True), @decide True i = true := fun i => decide_eq_true trivial
  have hdf : ∀ (i : Decidable False), @decide False i = false := fun i => decide_eq_false id
  repeat refine gwp_seq ?_
  refine gwp_region ?_
  refine n1 140 false (hc := by (first | exact True.intro | omega | (simp only [inI]; omega) | (simp [P.size, pS, all_int, allOne_p, goods_p, allOne, goods, good, G.one, P.one, P.cells] <;> first | omega | assumption | simp_all))) (k := ?_)
  refine v0 (k := ?_)
  refine nil0 ?_
  refine cl [1, 2, 3, 4] (k := ?_)
  repeat refine gwp_seq ?_
  refine gwp_region ?_
  refine v0 (k := ?_)
  refine pc0 (spec := l_heavy f 8 60) (hent := ent12) (k := ?_)
  refine nil0 ?_
  repeat refine gwp_seq ?_
  refine cB (k1 := fun hb1 => ?_) (k0 := fun hb1 => ?_)
  · replace hb1 := hB.h {} hb1
    repeat refine gwp_seq ?_
    refine gwp_region ?_
    refine pc0 (spec := l_awake) (hent := ent13) (k := ?_)
    refine v0 (k := ?_)
    refine nil0 ?_
    repeat refine gwp_seq ?_
    refine gwp_ret ?_
    repeat (first | refine gthen_ret ?_ | refine gblock_ret ?_ | refine gnoGoto_ret ?_)
    refine fin_ret ?_
    refine fp (hR := ?_)
    rfl
  · replace hb1 := hB.h {} hb1
    repeat refine gwp_seq ?_
    refine gwp_skip ?_
    refine cl [1, 2, 3, 4] (k := ?_)
    repeat refine gwp_seq ?_
    have hl : f.ps.length ≤ 1048576 := by have := hvy_len (by assumption); omega
    refine gwp_region ?_
    refine v0 (k := ?_)
    refine pc0 (spec := c_use f hl) (hent := ent14) (k := ?_)
    refine v0 (k := ?_)
    refine v0 (k := ?_)
    refine v0 (k := ?_)
    refine v0 (k := ?_)
    refine v0 (k := ?_)
    refine nil0 ?_
    refine cl [1, 2, 3, 4, 9, 10] (k := ?_)
    repeat refine gwp_seq ?_
    refine gwp_region ?_
    refine v0 (k := ?_)
    refine pc0 (spec := d_use f hl) (hent := ent15) (k := ?_)
    refine v0 (k := ?_)
    refine v0 (k := ?_)
    refine v0 (k := ?_)
    refine v0 (k := ?_)
    refine v0 (k := ?_)
    refine nil0 ?_
    refine cl [1, 2, 3, 4, 9, 10, 11, 12] (k := ?_)
    repeat refine gwp_seq ?_
    refine gwp_region ?_
    refine v0 (k := ?_)
    refine v0 (k := ?_)
    refine v0 (k := ?_)
    refine v0 (k := ?_)
    refine pc0 (spec := c_srv f hl s a b) (hent := ent16) (k := ?_)
    refine v0 (k := ?_)
    refine v0 (k := ?_)
    refine v0 (k := ?_)
    refine v0 (k := ?_)
    refine v0 (k := ?_)
    refine nil0 ?_
    refine cl [1, 2, 3, 4, 9, 10, 11, 12, 13, 14] (k := ?_)
    repeat refine gwp_seq ?_
    refine gwp_region ?_
    refine v0 (k := ?_)
    refine v0 (k := ?_)
    refine v0 (k := ?_)
    refine v0 (k := ?_)
    refine pc0 (spec := d_srv f hl s a b) (hent := ent17) (k := ?_)
    refine v0 (k := ?_)
    refine v0 (k := ?_)
    refine v0 (k := ?_)
    refine v0 (k := ?_)
    refine v0 (k := ?_)
    refine nil0 ?_
    refine cl [1, 4, 9, 10, 11, 12, 13, 14, 15, 16] (k := ?_)
    repeat refine gwp_seq ?_
    refine gwp_region ?_
    refine v0 (k := ?_)
    refine v0 (k := ?_)
    refine pc0 (spec := c_mis f hl s) (hent := ent18) (k := ?_)
    refine v0 (k := ?_)
    refine v0 (k := ?_)
    refine v0 (k := ?_)
    refine v0 (k := ?_)
    refine v0 (k := ?_)
    refine v0 (k := ?_)
    refine v0 (k := ?_)
    refine v0 (k := ?_)
    refine v0 (k := ?_)
    refine nil0 ?_
    refine cl [1, 4, 9, 10, 11, 12, 13, 14, 15, 16, 17, 18, 19, 20] (k := ?_)
    repeat refine gwp_seq ?_
    refine gwp_region ?_
    refine v0 (k := ?_)
    refine v0 (k := ?_)
    refine pc0 (spec := d_mis f hl s) (hent := ent19) (k := ?_)
    refine v0 (k := ?_)
    refine v0 (k := ?_)
    refine v0 (k := ?_)
    refine v0 (k := ?_)
    refine v0 (k := ?_)
    refine v0 (k := ?_)
    refine v0 (k := ?_)
    refine v0 (k := ?_)
    refine v0 (k := ?_)
    refine nil0 ?_
    refine cl [9, 10, 11, 12, 13, 14, 15, 16, 17, 18, 19, 20, 21, 22, 23, 24] (k := ?_)
    repeat refine gwp_seq ?_
    refine gwp_region ?_
    refine v0 (k := ?_)
    refine v0 (k := ?_)
    refine v0 (k := ?_)
    refine rb 72 true (h := by (first | rfl | decide | simp)) (k := ?_)
    refine v0 (k := ?_)
    refine w0 (k := ?_)
    refine w0 (k := ?_)
    refine w0 (k := ?_)
    refine rb 76 true (h := by (first | rfl | decide | simp)) (k := ?_)
    refine v0 (k := ?_)
    refine v0 (k := ?_)
    refine w0 (k := ?_)
    refine w0 (k := ?_)
    refine w0 (k := ?_)
    refine rb 81 true (h := by (first | rfl | decide | simp)) (k := ?_)
    refine v0 (k := ?_)
    refine v0 (k := ?_)
    refine w0 (k := ?_)
    refine w0 (k := ?_)
    refine w0 (k := ?_)
    refine rb 86 true (h := by (first | rfl | decide | simp)) (k := ?_)
    refine v0 (k := ?_)
    refine v0 (k := ?_)
    refine w0 (k := ?_)
    refine w0 (k := ?_)
    refine w0 (k := ?_)
    refine rb 91 true (h := by (first | rfl | decide | simp)) (k := ?_)
    refine v0 (k := ?_)
    refine v0 (k := ?_)
    refine w0 (k := ?_)
    refine w0 (k := ?_)
    refine w0 (k := ?_)
    refine rb 96 true (h := by (first | rfl | decide | simp)) (k := ?_)
    refine v0 (k := ?_)
    refine v0 (k := ?_)
    refine w0 (k := ?_)
    refine w0 (k := ?_)
    refine w0 (k := ?_)
    refine rb 101 true (h := by (first | rfl | decide | simp)) (k := ?_)
    refine v0 (k := ?_)
    refine v0 (k := ?_)
    refine w0 (k := ?_)
    refine w0 (k := ?_)
    refine w0 (k := ?_)
    refine rb 106 true (h := by (first | rfl | decide | simp)) (k := ?_)
    refine v0 (k := ?_)
    refine v0 (k := ?_)
    refine pcw (spec := l_awake) (hent := ent13) (k := ?_)
    refine rb 109 true (h := by (rfl)) (k := ?_)
    refine v0 (k := ?_)
    refine v0 (k := ?_)
    refine nil0 ?_
    repeat refine gwp_seq ?_
    refine gwp_ret ?_
    repeat (first | refine gthen_ret ?_ | refine gblock_ret ?_ | refine gnoGoto_ret ?_)
    refine fin_ret ?_
    refine fp (hR := ?_)
    rfl
end Go.Proofs.Ytabeeaiilanmjaa

/- The statement CoverReads, for every input: the law returns true, and its arguments read as they did.  -/
namespace Go.Proofs.Ytabeeaiilanmjaa
open Go.Gh Go.ChangeShapes Go.WideShapes Go.ChangeAt Go.RowKit
set_option maxRecDepth 100000
theorem aj_reads : ∀ ps, FitAs [(true, fdSS), (false, [.int .i64]), (false, [.int .i64]), (false, [.int .i64])] ps → PSpec Try.prog 3 ps (.ok (.bool true)) := fun ps h => by
  simp only [FitAs] at h
  obtain ⟨_, _, rfl, q0, _, _, rfl, q1, _, _, rfl, q2, _, _, rfl, q3, rfl⟩ := h
  obtain ⟨f, rfl, hf⟩ := fd_of q0
  obtain ⟨s, rfl, hs⟩ := int_of q1
  obtain ⟨a, rfl, ha⟩ := int_of q2
  obtain ⟨b, rfl, hb⟩ := int_of q3
  exact l_reads f s a b
theorem reads_lifted (os : Os) (started : os.Started) (H : Type) (enc : TypeId × Value → H) :
    ReturnsInHanded {} Try.checked os 3 .any (Rows.coverReadsSpec.pre6 enc Try.prog Try.f3 Rows.coverReadsRow.domain false) (Rows.coverReadsSpec.post enc Try.prog Try.f3 false true false false) := by
  refine returnsInHanded_of_change (C := Try.checked) own started (by kernel_rfl) Try.func3
    (ChangeSpec.witness6 (enc := enc) (C := Try.checked) false ⟨#[], #[.agg #[.slice none 0 0, .int .i64 0, .int .i64 0, .int .i64 0, .int .i64 0, .int .i64 0, .int .i64 0, .int .i64 0, .int .i64 0, .int .i64 0], .int .i64 0, .int .i64 0, .int .i64 0], []⟩ 8 (by kernel_rfl) (by kernel_rfl) (by kernel_rfl) (by kernel_rfl)) ?_
  intro W base args ds gs before hval hW _ _
  exact law_post (n := 9) (ss := [(true, fdSS), (false, [.int .i64]), (false, [.int .i64]), (false, [.int .i64])]) (b := 4) laidOut (by kernel_rfl) (by kernel_rfl) (by kernel_rfl) (by kernel_rfl) rfl
    (fun ds hd => by
      have hd' : ds.length = 4 := hd
      match ds, hd' with
      | [a, b, c, d], _ => rfl) aj_reads hval hW
theorem reads_holds : Rows.CoverReadsSaid :=
  OpenClaim.holds_of_wide 3 Try.f3 rfl rfl rfl rfl rfl rfl rfl ⟨rfl, rfl, rfl, rfl, rfl⟩ rfl rfl rfl rfl rfl (by kernel_rfl) Try.func3 (by kernel_rfl)
    (of_decide_eq_true (by kernel_rfl)) (by unfold Func.isWrapper; first | (rw [if_pos (by decide +kernel)]; kernel_rfl) | (rw [if_neg (by decide +kernel)]; exact ⟨rfl, rfl⟩))
    (fun os started H enc _ => reads_lifted os started H enc)
end Go.Proofs.Ytabeeaiilanmjaa
