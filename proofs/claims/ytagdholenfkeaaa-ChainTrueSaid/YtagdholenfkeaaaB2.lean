/- What functions of the program return, each for every input that its theorem names. -/
import Derived.Test.YtagdholenfkeaaaB1
set_option linter.unusedVariables false
set_option linter.unusedSimpArgs false
/- The program: the records of a plate, and who has it. -/
namespace Go.Proofs.Ytagdholenfkeaaa
open Go.Gh
set_option maxRecDepth 100000
set_option maxHeartbeats 4000000
structure kVe1 (c : Prop) : Prop where
  h : c := by (first | exact True.intro | (simp only [inI]; omega) | (simp [P.size, pr, pk, all_int, allOne_p, goods_p, allOne, goods, good, G.one, P.one, P.cells] <;> first | omega | assumption | simp_all))
theorem ent96 : Enters Try.prog 96 := Enters.mk Try.func96 (by kernel_rfl) rfl
theorem it_recs (g0 g1 g2 : P) (p : Int) (set : Nat) (rs : List Rc) (hset : set < 4096) (hrl : rs.length ≤ 12) :
    IterSpec Try.prog 96 [.abs, .ptr [.ptr [.p g0, .p g1, .p g2, .p (.list (rs.map pr))]], .ptr [.p (.int .i64 p)], .ptr [.p (.int .u64 set)]] ((selN p set rs rs.length).map fun e => [.int .i64 (e.1 : Nat), pr e.2]) := by
  intro E J Z hcan hy A hA
  refine spec_of Try.func96 (rfl : Try.f96.body = some _) (Nat.le_of_ble_eq_true rfl) (fun id h => ?_) (fun j id h => ?_) ?_
  · exact wf1x h
  · exact wf2x h
  intro C hN hL
  replace hN : C.N = 34 := hN
  simp only [Gh.num, List.map_cons, List.map_nil, Nat.reduceAdd]
  have hpk : ∀ k : Kw, pk k = P.agg [.int .i64 k.a, .int .i64 k.b] := fun _ => rfl
  have hpr : ∀ r : Rc, pr r = P.agg [.int .i64 r.p, .int .i64 r.f, .int .i64 r.t] := fun _ => rfl
  repeat refine gwp_seq ?_
  refine gwp_scope ?_
  repeat refine gwp_seq ?_
  refine gwp_label ?_
  repeat refine gwp_seq ?_
  refine gwp_region ?_
  refine v0 (k := ?_)
  refine v0 (k := ?_)
  refine v0 (k := ?_)
  refine v0 (k := ?_)
  refine v0 (k := ?_)
  refine v0 (k := ?_)
  refine v0 (k := ?_)
  refine nil0 ?_
  refine cl [0, 2, 3, 11, 12, 13] (k := ?_)
  repeat refine gwp_seq ?_
  refine gwp_block ?_
  repeat refine gwp_seq ?_
  refine gc_loop (fun mz σ => ∃ (k : Nat) (A2 : E.α), (k ≤ rs.length) ∧ (J (selN p set rs k).length A2) ∧ mz = rs.length - k ∧ σ = (sg [(0, .abs), (2, .ptr [.p (.int .i64 p)]), (3, .ptr [.p (.int .u64 set)]), (11, .p (.list (rs.map pr))), (12, .p (.int .i64 rs.length)), (13, .p (.int .i64 k))] [] A2 [] : Sg E)) ?_ (fun mz σ hI => ?_)
  · refine lbeg [0, 2, 3, 11, 12, 13] (hV := ?_)
    exact ⟨_, 0, A, by omega, hA, rfl, rfl⟩
  obtain ⟨k, A2, hk, hJ, hn, rfl⟩ := hI
  repeat refine gwp_seq ?_
  refine gwp_region ?_
  refine v0 (k := ?_)
  refine nil0 ?_
  repeat refine gwp_seq ?_
  refine cB (k1 := fun hb1 => ?_) (k0 := fun hb1 => ?_)
  · replace hb1 := hB.h {} hb1
    try rw [eqI] at hb1
    repeat refine gwp_seq ?_
    refine gwp_skip ?_
    refine cl [0, 2, 3, 11, 12, 13] (k := ?_)
    repeat refine gwp_seq ?_
    refine gwp_block ?_
    repeat refine gwp_seq ?_
    obtain ⟨r, hx⟩ := getE (l := rs) (k := k) (by omega)
    refine gwp_region ?_
    refine v0 (k := ?_)
    refine v1 (hc := kVe1.h {}) (k := ?_)
    refine v0 (k := ?_)
    refine n1 160 false (hc := kVe1.h {}) (k := ?_)
    refine v0 (k := ?_)
    refine s1 (hc := kVe1.h {}) (k := ?_)
    refine nil0 ?_
    refine cl [0, 2, 3, 5, 6, 11, 12, 13] (k := ?_)
    repeat refine gwp_seq ?_
    refine gwp_region ?_
    refine v0 (k := ?_)
    refine v0 (k := ?_)
    refine v0 (k := ?_)
    refine v0 (k := ?_)
    refine v0 (k := ?_)
    refine b0 (k1 := fun hb2 => ?_) (k0 := fun hb2 => ?_)
    · replace hb2 := hB.h {} hb2
      try rw [eqI] at hb2
      refine x0 (k := ?_)
      refine x0 (k := ?_)
      refine x0 (k := ?_)
      refine x0 (k := ?_)
      refine v0 (k := ?_)
      refine nil0 ?_
      repeat refine gwp_seq ?_
      refine cT (k := ?_)
      repeat refine gwp_seq ?_
      refine gwp_exit ?_
      repeat (first | refine gthen_exit ?_ | refine gnoGoto_exit ?_ | refine gblock_here ?_ | refine gblock_out rfl ?_)
      refine cl [0, 2, 3, 11, 12, 13] (k := ?_)
      repeat refine gwp_seq ?_
      refine gwp_region ?_
      refine v1 (hc := kVe1.h {}) (k := ?_)
      refine v0 (k := ?_)
      refine nil0 ?_
      refine lend [0, 2, 3, 11, 12, 13] (h := ?_) (hV := ?_) (n' := rs.length - (k + 1))
      · omega
      first
      | (obtain rfl : b = true := by simp_all
         exact ⟨k + 1, A3, by omega, by rw [sel_next hx (by omega) (by assumption), List.length_append]; exact hy2, rfl, rfl⟩)
      | exact ⟨k + 1, A2, by omega, by rw [sel_skip1 hx (by omega)]; exact hJ, rfl, rfl⟩
      | exact ⟨k + 1, A2, by omega, by rw [sel_skip2 hx (by assumption)]; exact hJ, rfl, rfl⟩
    · replace hb2 := hB.h {} hb2
      try rw [eqI] at hb2
      refine w0 (k := ?_)
      refine w0 (k := ?_)
      refine pcw (spec := s_has set k (by omega) (by omega)) (hent := ent97) (k := ?_)
      refine w0 (k := ?_)
      refine v0 (k := ?_)
      refine nil0 ?_
      repeat refine gwp_seq ?_
      refine cB (k1 := fun hb3 => ?_) (k0 := fun hb3 => ?_)
      · replace hb3 := hB.h {} hb3
        try rw [eqI] at hb3
        repeat refine gwp_seq ?_
        refine gwp_exit ?_
        repeat (first | refine gthen_exit ?_ | refine gnoGoto_exit ?_ | refine gblock_here ?_ | refine gblock_out rfl ?_)
        refine cl [0, 2, 3, 11, 12, 13] (k := ?_)
        repeat refine gwp_seq ?_
        refine gwp_region ?_
        refine v1 (hc := kVe1.h {}) (k := ?_)
        refine v0 (k := ?_)
        refine nil0 ?_
        refine lend [0, 2, 3, 11, 12, 13] (h := ?_) (hV := ?_) (n' := rs.length - (k + 1))
        · omega
        first
        | (obtain rfl : b = true := by simp_all
           exact ⟨k + 1, A3, by omega, by rw [sel_next hx (by omega) (by assumption), List.length_append]; exact hy2, rfl, rfl⟩)
        | exact ⟨k + 1, A2, by omega, by rw [sel_skip1 hx (by omega)]; exact hJ, rfl, rfl⟩
        | exact ⟨k + 1, A2, by omega, by rw [sel_skip2 hx (by assumption)]; exact hJ, rfl, rfl⟩
      · replace hb3 := hB.h {} hb3
        try rw [eqI] at hb3
        repeat refine gwp_seq ?_
        refine gwp_skip ?_
        refine cl [0, 2, 3, 5, 6, 11, 12, 13] (k := ?_)
        repeat refine gwp_seq ?_
        refine gwp_region ?_
        refine v0 (k := ?_)
        refine v0 (k := ?_)
        refine v0 (k := ?_)
        refine y0 (xs := [.int .i64 (k : Nat), pr r]) (hcan := ?_) (k := fun b A3 hY => ?_) (kp := fun p A3 hY => ?_)
        · exact hcan _ _ _ hJ (by rw [List.getElem?_map, sel_at hx (by omega) (by assumption)]; rfl)
        · have hy2 := hy _ _ _ _ _ hJ (by rw [List.getElem?_map, sel_at hx (by omega) (by assumption)]; rfl) hY
          refine v0 (k := ?_)
          refine nil0 ?_
          repeat refine gwp_seq ?_
          refine cB (k1 := fun hb4 => ?_) (k0 := fun hb4 => ?_)
          · replace hb4 := hB.h {} hb4
            try rw [eqI] at hb4
            repeat refine gwp_seq ?_
            refine gwp_ret ?_
            repeat (first | refine gthen_ret ?_ | refine gblock_ret ?_ | refine gnoGoto_ret ?_)
            refine fin_ret ?_
            refine fp0 (hR := ?_)
            first
            | (obtain rfl : b = false := by simp_all
               exact ⟨_, _, _, rfl, .inr hy2⟩)
            | (obtain rfl : k = rs.length := by omega
               exact ⟨_, _, _, rfl, .inl (by rw [List.length_map]; exact hJ)⟩)
          · replace hb4 := hB.h {} hb4
            try rw [eqI] at hb4
            repeat refine gwp_seq ?_
            refine gwp_skip ?_
            refine cl [0, 2, 3, 11, 12, 13] (k := ?_)
            repeat refine gwp_seq ?_
            refine gwp_region ?_
            refine v1 (hc := kVe1.h {}) (k := ?_)
            refine v0 (k := ?_)
            refine nil0 ?_
            refine lend [0, 2, 3, 11, 12, 13] (h := ?_) (hV := ?_) (n' := rs.length - (k + 1))
            · omega
            first
            | (obtain rfl : b = true := by simp_all
               exact ⟨k + 1, A3, by omega, by rw [sel_next hx (by omega) (by assumption), List.length_append]; exact hy2, rfl, rfl⟩)
            | exact ⟨k + 1, A2, by omega, by rw [sel_skip1 hx (by omega)]; exact hJ, rfl, rfl⟩
            | exact ⟨k + 1, A2, by omega, by rw [sel_skip2 hx (by assumption)]; exact hJ, rfl, rfl⟩
        · exact (hy _ _ _ _ _ hJ (by rw [List.getElem?_map, sel_at hx (by omega) (by assumption)]; rfl) hY).elim
  · replace hb1 := hB.h {} hb1
    try rw [eqI] at hb1
    repeat refine gwp_seq ?_
    refine gwp_exit ?_
    repeat (first | refine gthen_exit ?_ | refine gnoGoto_exit ?_ | refine gblock_here ?_ | refine gblock_out rfl ?_)
    try refine gnoGoto_normal ?_
    refine fin_normal ?_
    refine fp0 (hR := ?_)
    first
    | (obtain rfl : b = false := by simp_all
       exact ⟨_, _, _, rfl, .inr hy2⟩)
    | (obtain rfl : k = rs.length := by omega
       exact ⟨_, _, _, rfl, .inl (by rw [List.length_map]; exact hJ)⟩)
theorem ent54 : Enters Try.prog 54 := Enters.mk Try.func54 (by kernel_rfl) rfl
theorem s_recs {E : Env Try.prog} {A : E.α} (g0 g1 g2 : P) (p : Int) (set : Nat) (rs : List Rc) : Gh.Spec E 54 [.ptr [.p g0, .p g1, .p g2, .p (.list (rs.map pr))], .p (.int .i64 p), .p (.int .u64 set)] (mkHp []) A (fun y => y = .ok (.fn (.func 96) [] [.ptr [.ptr [.p g0, .p g1, .p g2, .p (.list (rs.map pr))]], .ptr [.p (.int .i64 p)], .ptr [.p (.int .u64 set)]]) (mkHp []) A) := by
  refine spec_of Try.func54 (rfl : Try.f54.body = some _) (Nat.le_of_ble_eq_true rfl) (fun id h => ?_) (fun j id h => ?_) ?_
  · exact wf1x h
  · exact wf2x h
  intro C hN hL
  replace hN : C.N = 8 := hN
  simp only [Gh.num, List.map_cons, List.map_nil, Nat.reduceAdd]
  repeat refine gwp_seq ?_
  refine gwp_region ?_
  refine n1 130 false (hc := kVe1.h {}) (k := ?_)
  refine n1 140 false (hc := kVe1.h {}) (k := ?_)
  refine n1 150 false (hc := kVe1.h {}) (k := ?_)
  refine v0 (k := ?_)
  refine nil0 ?_
  refine cl [3, 4, 5] (k := ?_)
  repeat refine gwp_seq ?_
  refine gwp_region ?_
  refine v0 (k := ?_)
  refine v0 (k := ?_)
  refine nil0 ?_
  repeat refine gwp_seq ?_
  refine fz 130 1 [.k] (k := ?_)
  refine fz 140 1 [.k] (k := ?_)
  refine fz 150 1 [.k] (k := ?_)
  refine cv 6 (.f [.n [.k], .n [.k], .n [.k]]) (k := ?_)
  refine gwp_ret ?_
  repeat (first | refine gthen_ret ?_ | refine gblock_ret ?_ | refine gnoGoto_ret ?_)
  refine fin_ret ?_
  refine fh [] (hR := ?_)
  rfl
theorem s_everyN {E : Env Try.prog} {A : E.α} (g0 g1 g2 : P) (rs : List Rc) (h : rs.length ≤ 12) : Gh.Spec E 55 [.ptr [.p g0, .p g1, .p g2, .p (.list (rs.map pr))]] (mkHp []) A (fun y => y = .ok (.p (.int .u64 (allS rs.length : Nat))) (mkHp []) A) := by
  have := s_every (E := E) (A := A) g0 g1 g2 (rs.map pr) (by simpa using h)
  rw [List.length_map, allS_i] at this
  exact this
theorem ent47 : Enters Try.prog 47 := Enters.mk Try.func47 (by kernel_rfl) rfl
theorem s_holder {E : Env Try.prog} {A : E.α} (g0 g1 g2 : P) (p : Int) (rs : List Rc) (n : Nat) (hrl : rs.length ≤ 12) (hn : n ≤ rs.length) : Gh.Spec E 47 [.ptr [.p g0, .p g1, .p g2, .p (.list (rs.map pr))], .p (.int .i64 p), .p (.int .i64 (n : Nat))] (mkHp []) A (fun y => y = .ok (.p (.int .i64 (holN p rs n))) (mkHp []) A) := by
  refine specD_of Try.func47 (rfl : Try.f47.body = some _) (Nat.le_of_ble_eq_true rfl) (fun id h => ?_) (fun j id h => ?_) ?_
  · exact wf1x h
  · exact wf2x h
  intro C hN hL
  replace hN : C.N = 23 := hN
  simp only [Gh.num, List.map_cons, List.map_nil, Nat.reduceAdd]
  have hpk : ∀ k : Kw, pk k = P.agg [.int .i64 k.a, .int .i64 k.b] := fun _ => rfl
  have hpr : ∀ r : Rc, pr r = P.agg [.int .i64 r.p, .int .i64 r.f, .int .i64 r.t] := fun _ => rfl
  repeat refine gwp_seq ?_
  refine gwp_region ?_
  refine n1 150 false (hc := kVe1.h {}) (k := ?_)
  refine v0 (k := ?_)
  refine nil0 ?_
  refine cl [0, 1, 5, 6] (k := ?_)
  repeat refine gwp_seq ?_
  refine gwp_region ?_
  refine n1 170 false (hc := kVe1.h {}) (k := ?_)
  refine s1 (hc := kVe1.h {}) (k := ?_)
  refine nil0 ?_
  refine cl [0, 1, 5, 6, 7] (k := ?_)
  repeat refine gwp_seq ?_
  refine gwp_region ?_
  refine v0 (k := ?_)
  refine v0 (k := ?_)
  refine v0 (k := ?_)
  refine oc0 [] [] [0] none (spec := s_everyN g0 g1 g2 rs hrl) (hent := ent55) (k := ?_)
  refine oc0 [] [] [0, 0, 0] none (spec := s_recs g0 g1 g2 p (allS rs.length) rs) (hent := ent54) (k := ?_)
  refine nil0 ?_
  refine cl [5, 6, 7, 14] (k := ?_)
  repeat refine gwp_seq ?_
  refine gwp_block ?_
  repeat refine gwp_seq ?_
  refine rf 10000 99001 [15, 16] (fun k (z : Int) A1 => z = lastT ((selN p (allS rs.length) rs rs.length).take k) ∧ (∀ e ∈ (selN p (allS rs.length) rs rs.length).take k, e.1 < n) ∧ A1 = A) (fun z => [(150, .cells [.p (.int .i64 (n : Nat))] 0), (170, .cells [.p (.int .i64 z)] 0)]) (fun e z A1 => e = .exit 0 ∧ z = holN p rs n ∧ A1 = A) (fun _ z => [(150, .cells [.p (.int .i64 (n : Nat))] 0), (170, .cells [.p (.int .i64 z)] 0)]) [] [.k, .k, .k] (it := it_recs g0 g1 g2 p (allS rs.length) rs (allS_lt hrl) hrl) (hent := ent96) (xs := ((selN p (allS rs.length) rs rs.length).map fun e => [.int .i64 (e.1 : Nat), pr e.2])) (hlen := fun x hx => by obtain ⟨w, _, rfl⟩ := List.mem_map.1 hx; rfl) (h0 := ?_) (round := fun k z A1 x hI hx lp bs C1 hN1 hL1 => ?_) (hK := fun e z A1 hK => ?_) (hI := fun z A1 hI => ?_)
  · exact ⟨0, ⟨by simp [lastT], fun e h => by simp at h, rfl⟩, rfl⟩
  · obtain ⟨hz, hl, rfl⟩ := hI
    rw [List.getElem?_map] at hx
    obtain ⟨e, he, rfl⟩ := Option.map_eq_some_iff.1 hx
    have hel := sel_mem _ e (List.mem_of_getElem? he)
    have he1 := hel.1
    replace hN1 : C1.N = 23 := hN1.trans hN
    refine (?_ : gwp C1 (some lp) _ _ (sg ((16, .p (pr e.2)) :: (15, .p (.int .i64 (e.1 : Nat))) :: _) [(150, .cells [.p (.int .i64 (n : Nat))] 0), (170, .cells [.p (.int .i64 z)] 0)] A1 []))
    repeat refine gwp_seq ?_
    refine gwp_region ?_
    refine v0 (k := ?_)
    refine nil0 ?_
    refine cl [5, 6, 7, 8, 16] (k := ?_)
    repeat refine gwp_seq ?_
    refine gwp_region ?_
    refine n1 10190 false (hc := kVe1.h {}) (k := ?_)
    refine s1 (hc := kVe1.h {}) (k := ?_)
    refine nil0 ?_
    refine ⟨rfl, fun bs2 C2 hN2 hL2 hr2 => ?_⟩
    replace hN2 : C2.N = 23 := hN2.trans hN
    refine (?_ : gwp C2 (some lp) _ _ (sg _ _ _ []))
    repeat refine gwp_seq ?_
    refine gwp_block ?_
    repeat refine gwp_seq ?_
    refine gwp_region ?_
    refine v0 (k := ?_)
    refine v0 (k := ?_)
    refine v0 (k := ?_)
    refine nil0 ?_
    repeat refine gwp_seq ?_
    refine cB (k1 := fun hb1 => ?_) (k0 := fun hb1 => ?_)
    · replace hb1 := hB.h {} hb1
      try rw [eqI] at hb1
      repeat refine gwp_seq ?_
      refine gwp_exit ?_
      repeat (first | refine gthen_exit ?_ | refine gnoGoto_exit ?_ | refine gblock_here ?_ | refine gblock_out rfl ?_)
      exact ⟨_, z, lc [150, 170], rfl, rfl, by rw [hz, sel_stop (n := n) (by omega) hl (fun e2 h2 => by rw [he] at h2; cases h2; omega), last_hol _ (fun i hi => all_bit (by omega))], rfl⟩
    · replace hb1 := hB.h {} hb1
      try rw [eqI] at hb1
      repeat refine gwp_seq ?_
      refine gwp_skip ?_
      refine cl [5, 6, 7, 9] (k := ?_)
      repeat refine gwp_seq ?_
      refine gwp_region ?_
      refine v0 (k := ?_)
      refine v0 (k := ?_)
      refine s1 (hc := kVe1.h {}) (k := ?_)
      refine nil0 ?_
      refine ⟨_, e.2.t, lc [150, 170], rfl, ?_, ?_, rfl⟩
      · rw [List.take_add_one, he, Option.toList_some, lastT_snoc]
      · intro e2 h2
        rw [List.take_add_one, he, Option.toList_some] at h2
        rcases List.mem_append.1 h2 with h2 | h2
        · exact hl e2 h2
        · simp at h2; subst h2; omega
  · obtain ⟨rfl, hzz, rfl⟩ := hK
    rw [hzz]
    clear hzz
    repeat (first | refine gthen_exit ?_ | refine gnoGoto_exit ?_ | refine gblock_here ?_ | refine gblock_out rfl ?_)
    refine cl [7] (k := ?_)
    repeat refine gwp_seq ?_
    refine gwp_region ?_
    refine v0 (k := ?_)
    refine v0 (k := ?_)
    refine nil0 ?_
    repeat refine gwp_seq ?_
    refine gwp_ret ?_
    repeat (first | refine gthen_ret ?_ | refine gblock_ret ?_ | refine gnoGoto_ret ?_)
    refine finD_ret ?_
    try refine om (h := ?_)
    refine out_nil ?_
    refine fp (hR := ?_)
    rfl
  · obtain ⟨hz, hl, rfl⟩ := hI
    rw [List.length_map] at hz hl
    rw [sel_stop (n := n) (by omega) hl (fun e2 h2 => by rw [List.getElem?_eq_none (Nat.le_refl _)] at h2; cases h2), last_hol _ (fun i hi => all_bit (by omega))] at hz
    rw [hz]
    clear hz hl
    refine cl [7] (k := ?_)
    repeat refine gwp_seq ?_
    refine gwp_region ?_
    refine v0 (k := ?_)
    refine v0 (k := ?_)
    refine nil0 ?_
    repeat refine gwp_seq ?_
    refine gwp_ret ?_
    repeat (first | refine gthen_ret ?_ | refine gblock_ret ?_ | refine gnoGoto_ret ?_)
    refine finD_ret ?_
    try refine om (h := ?_)
    refine out_nil ?_
    refine fp (hR := ?_)
    rfl
end Go.Proofs.Ytagdholenfkeaaa

/- What is known of a chain that is valid. -/
namespace Go.Proofs.Ytagdholenfkeaaa
open Go.Gh
theorem valid_num {c : Ch} (h : c.valid = true) : (1 ≤ c.pl ∧ c.pl ≤ 4) ∧ (1 ≤ c.ps ∧ c.ps ≤ 8) ∧ (0 ≤ c.ms ∧ c.ms ≤ 20) ∧ c.kn.length ≤ 28 ∧ c.rs.length ≤ 12 := by
  simp only [Ch.valid, Ch.head, Bool.and_eq_true, decide_eq_true_eq] at h
  omega
theorem valid_kn {c : Ch} (h : c.valid = true) {k : Kw} (hk : k ∈ c.kn) : 0 ≤ k.a ∧ k.a < c.ps ∧ 0 ≤ k.b ∧ k.b < c.ps ∧ k.a ≠ k.b := by
  simp only [Ch.valid, Bool.and_eq_true, Bool.not_eq_true'] at h
  have hb : badK c.ps k = false := by
    cases hb : badK c.ps k with
    | false => rfl
    | true =>
      have := List.any_eq_true.2 ⟨k, hk, hb⟩
      rw [h.1.2] at this; cases this
  simp only [badK, Bool.or_eq_false_iff, Bool.not_eq_false', Bool.and_eq_true, decide_eq_true_eq, decide_eq_false_iff_not] at hb
  omega
theorem valid_rs {c : Ch} (h : c.valid = true) {r : Rc} (hr : r ∈ c.rs) : 0 ≤ r.p ∧ r.p < c.pl ∧ 0 ≤ r.f ∧ r.f < c.ps ∧ 0 ≤ r.t ∧ r.t < c.ps ∧ r.f ≠ r.t := by
  simp only [Ch.valid, Bool.and_eq_true, Bool.not_eq_true'] at h
  have hb : badR c.pl c.ps r = false := by
    cases hb : badR c.pl c.ps r with
    | false => rfl
    | true =>
      have := List.any_eq_true.2 ⟨r, hr, hb⟩
      rw [h.2] at this; cases this
  simp only [badR, Bool.or_eq_false_iff, Bool.not_eq_false', Bool.and_eq_true, decide_eq_true_eq, decide_eq_false_iff_not] at hb
  omega
/-- Is a number from 0 to below another one? -/
def inQ (x n : Int) : Bool := decide (0 ≤ x) && decide (x ≤ n - 1)
def holdQ (c : Ch) (x y : Int) : Bool := inQ x c.pl && (decide (0 ≤ y) && decide (y ≤ c.rs.length))
def pathQ (c : Ch) (x y : Int) : Bool := inQ x c.pl && (decide (0 ≤ y) && decide (y ≤ c.rs.length - 1)) && (match c.rs[y.toNat]? with | some r => decide (r.p = x) | none => false)
theorem bb3 (p q : Bool) : p = false ∨ (p = true ∧ q = false) ∨ (p = true ∧ q = true) := by cases p <;> cases q <;> simp
end Go.Proofs.Ytagdholenfkeaaa

/- The program: a chain is opened. -/
namespace Go.Proofs.Ytagdholenfkeaaa
open Go.Gh
set_option maxRecDepth 100000
set_option maxHeartbeats 4000000
structure kVf1 (c : Prop) : Prop where
  h : c := by (first | exact True.intro | (simp only [inI]; omega) | (simp [P.size, pr, pk, all_int, allOne_p, goods_p, allOne, goods, good, G.one, P.one, P.cells] <;> first | omega | assumption | simp_all))
theorem ent53 : Enters Try.prog 53 := Enters.mk Try.func53 (by kernel_rfl) rfl
theorem q_53 {E : Env Try.prog} {A : E.α} (c : Ch) (hv : c.valid = true) (x : Int) : Gh.Spec E 53 [.ptr [.p (.int .i64 c.pl), .p (.int .i64 c.ps), .p (.list (c.kn.map pk)), .p (.list (c.rs.map pr)), .p (.int .i64 c.ms)], .ptr [.p (.int .i64 x)]] (mkHp []) A (fun y => y = .ok (.p (.bool (inQ x c.pl))) (mkHp []) A) := by
  refine spec_of Try.func53 (rfl : Try.f53.body = some _) (Nat.le_of_ble_eq_true rfl) (fun id h => ?_) (fun j id h => ?_) ?_
  · exact wf1x h
  · exact wf2x h
  intro C hN hL
  replace hN : C.N = 7 := hN
  simp only [Gh.num, List.map_cons, List.map_nil, Nat.reduceAdd]
  have hn := valid_num hv
  repeat refine gwp_seq ?_
  refine gwp_region ?_
  refine v0 (k := ?_)
  refine nil0 ?_
  refine cl [0, 1] (k := ?_)
  repeat refine gwp_seq ?_
  refine gwp_region ?_
  refine v0 (k := ?_)
  refine v0 (k := ?_)
  refine oc0 [] [] [4, 0] none (spec := s_isPlate c.pl x (by omega)) (hent := ent45) (k := ?_)
  refine v0 (k := ?_)
  refine nil0 ?_
  repeat refine gwp_seq ?_
  refine gwp_ret ?_
  repeat (first | refine gthen_ret ?_ | refine gblock_ret ?_ | refine gnoGoto_ret ?_)
  refine fin_ret ?_
  refine fp (hR := ?_)
  rfl
theorem ent69 : Enters Try.prog 69 := Enters.mk Try.func69 (by kernel_rfl) rfl
theorem q_69 {E : Env Try.prog} {A : E.α} (c : Ch) (hv : c.valid = true) (x : Int) : Gh.Spec E 69 [.ptr [.p (.int .i64 c.pl), .p (.int .i64 c.ps), .p (.list (c.kn.map pk)), .p (.list (c.rs.map pr)), .p (.int .i64 c.ms)], .ptr [.p (.int .i64 x)]] (mkHp []) A (fun y => y = .ok (.p (.bool (inQ x c.pl))) (mkHp []) A) := by
  refine spec_of Try.func69 (rfl : Try.f69.body = some _) (Nat.le_of_ble_eq_true rfl) (fun id h => ?_) (fun j id h => ?_) ?_
  · exact wf1x h
  · exact wf2x h
  intro C hN hL
  replace hN : C.N = 7 := hN
  simp only [Gh.num, List.map_cons, List.map_nil, Nat.reduceAdd]
  have hn := valid_num hv
  repeat refine gwp_seq ?_
  refine gwp_region ?_
  refine v0 (k := ?_)
  refine nil0 ?_
  refine cl [0, 1] (k := ?_)
  repeat refine gwp_seq ?_
  refine gwp_region ?_
  refine v0 (k := ?_)
  refine v0 (k := ?_)
  refine oc0 [] [] [4, 0] none (spec := s_isPlate c.pl x (by omega)) (hent := ent45) (k := ?_)
  refine v0 (k := ?_)
  refine nil0 ?_
  repeat refine gwp_seq ?_
  refine gwp_ret ?_
  repeat (first | refine gthen_ret ?_ | refine gblock_ret ?_ | refine gnoGoto_ret ?_)
  refine fin_ret ?_
  refine fp (hR := ?_)
  rfl
theorem ent74 : Enters Try.prog 74 := Enters.mk Try.func74 (by kernel_rfl) rfl
theorem q_74 {E : Env Try.prog} {A : E.α} (c : Ch) (hv : c.valid = true) (x : Int) : Gh.Spec E 74 [.ptr [.p (.int .i64 c.pl), .p (.int .i64 c.ps), .p (.list (c.kn.map pk)), .p (.list (c.rs.map pr)), .p (.int .i64 c.ms)], .ptr [.p (.int .i64 x)]] (mkHp []) A (fun y => y = .ok (.p (.bool (inQ x c.pl))) (mkHp []) A) := by
  refine spec_of Try.func74 (rfl : Try.f74.body = some _) (Nat.le_of_ble_eq_true rfl) (fun id h => ?_) (fun j id h => ?_) ?_
  · exact wf1x h
  · exact wf2x h
  intro C hN hL
  replace hN : C.N = 7 := hN
  simp only [Gh.num, List.map_cons, List.map_nil, Nat.reduceAdd]
  have hn := valid_num hv
  repeat refine gwp_seq ?_
  refine gwp_region ?_
  refine v0 (k := ?_)
  refine nil0 ?_
  refine cl [0, 1] (k := ?_)
  repeat refine gwp_seq ?_
  refine gwp_region ?_
  refine v0 (k := ?_)
  refine v0 (k := ?_)
  refine oc0 [] [] [4, 0] none (spec := s_isPlate c.pl x (by omega)) (hent := ent45) (k := ?_)
  refine v0 (k := ?_)
  refine nil0 ?_
  repeat refine gwp_seq ?_
  refine gwp_ret ?_
  repeat (first | refine gthen_ret ?_ | refine gblock_ret ?_ | refine gnoGoto_ret ?_)
  refine fin_ret ?_
  refine fp (hR := ?_)
  rfl
theorem ent87 : Enters Try.prog 87 := Enters.mk Try.func87 (by kernel_rfl) rfl
theorem q_87 {E : Env Try.prog} {A : E.α} (c : Ch) (hv : c.valid = true) (x : Int) : Gh.Spec E 87 [.ptr [.p (.int .i64 c.pl), .p (.int .i64 c.ps), .p (.list (c.kn.map pk)), .p (.list (c.rs.map pr)), .p (.int .i64 c.ms)], .ptr [.p (.int .i64 x)]] (mkHp []) A (fun y => y = .ok (.p (.bool (inQ x c.ps))) (mkHp []) A) := by
  refine spec_of Try.func87 (rfl : Try.f87.body = some _) (Nat.le_of_ble_eq_true rfl) (fun id h => ?_) (fun j id h => ?_) ?_
  · exact wf1x h
  · exact wf2x h
  intro C hN hL
  replace hN : C.N = 12 := hN
  simp only [Gh.num, List.map_cons, List.map_nil, Nat.reduceAdd]
  have hn := valid_num hv
  repeat refine gwp_seq ?_
  refine gwp_region ?_
  refine v0 (k := ?_)
  refine nil0 ?_
  refine cl [0, 1] (k := ?_)
  repeat refine gwp_seq ?_
  refine rd ?_
  refine d0 0 (k := ?_)
  refine d0 1 (k := ?_)
  refine d0 2 (k := ?_)
  refine d0 3 (k := ?_)
  refine d0 4 (k := ?_)
  refine d0 5 (k := ?_)
  refine d1 6 (hc := kVf1.h {}) (k := ?_)
  refine dpc0 7 (spec := s_within _ _ _) (hent := ent46) (k := ?_)
  refine d0 8 (k := ?_)
  refine dz 9 [0, 0, 2, 6, 14, 30, 62, 127, 255] (h := ?_)
  refine de 9 (h := ?_)
  repeat refine gwp_seq ?_
  refine gwp_ret ?_
  repeat (first | refine gthen_ret ?_ | refine gblock_ret ?_ | refine gnoGoto_ret ?_)
  refine fin_ret ?_
  refine fp (hR := ?_)
  rfl
theorem ent63 : Enters Try.prog 63 := Enters.mk Try.func63 (by kernel_rfl) rfl
theorem q_63 {E : Env Try.prog} {A : E.α} (c : Ch) (hv : c.valid = true) : Gh.Spec E 63 [.ptr [.p (.int .i64 c.pl), .p (.int .i64 c.ps), .p (.list (c.kn.map pk)), .p (.list (c.rs.map pr)), .p (.int .i64 c.ms)]] (mkHp []) A (fun y => y = .ok (.p (.bool true)) (mkHp []) A) := by
  refine spec_of Try.func63 (rfl : Try.f63.body = some _) (Nat.le_of_ble_eq_true rfl) (fun id h => ?_) (fun j id h => ?_) ?_
  · exact wf1x h
  · exact wf2x h
  intro C hN hL
  replace hN : C.N = 3 := hN
  simp only [Gh.num, List.map_cons, List.map_nil, Nat.reduceAdd]
  repeat refine gwp_seq ?_
  refine gwp_region ?_
  refine v0 (k := ?_)
  refine nil0 ?_
  refine cl [] (k := ?_)
  repeat refine gwp_seq ?_
  refine gwp_region ?_
  refine v0 (k := ?_)
  refine nil0 ?_
  repeat refine gwp_seq ?_
  refine gwp_ret ?_
  repeat (first | refine gthen_ret ?_ | refine gblock_ret ?_ | refine gnoGoto_ret ?_)
  refine fin_ret ?_
  refine fh [] (hR := ?_)
  rfl
theorem ent92 : Enters Try.prog 92 := Enters.mk Try.func92 (by kernel_rfl) rfl
theorem q_92 {E : Env Try.prog} {A : E.α} (c : Ch) (hv : c.valid = true) : Gh.Spec E 92 [.ptr [.p (.int .i64 c.pl), .p (.int .i64 c.ps), .p (.list (c.kn.map pk)), .p (.list (c.rs.map pr)), .p (.int .i64 c.ms)]] (mkHp []) A (fun y => y = .ok (.p (.bool true)) (mkHp []) A) := by
  refine spec_of Try.func92 (rfl : Try.f92.body = some _) (Nat.le_of_ble_eq_true rfl) (fun id h => ?_) (fun j id h => ?_) ?_
  · exact wf1x h
  · exact wf2x h
  intro C hN hL
  replace hN : C.N = 3 := hN
  simp only [Gh.num, List.map_cons, List.map_nil, Nat.reduceAdd]
  repeat refine gwp_seq ?_
  refine gwp_region ?_
  refine v0 (k := ?_)
  refine nil0 ?_
  refine cl [] (k := ?_)
  repeat refine gwp_seq ?_
  refine gwp_region ?_
  refine v0 (k := ?_)
  refine nil0 ?_
  repeat refine gwp_seq ?_
  refine gwp_ret ?_
  repeat (first | refine gthen_ret ?_ | refine gblock_ret ?_ | refine gnoGoto_ret ?_)
  refine fin_ret ?_
  refine fh [] (hR := ?_)
  rfl
theorem ent44 : Enters Try.prog 44 := Enters.mk Try.func44 (by kernel_rfl) rfl
theorem q_44 {E : Env Try.prog} {A : E.α} (c : Ch) (hv : c.valid = true) (x w : Int) : Gh.Spec E 44 [.ptr [.p (.int .i64 c.pl), .p (.int .i64 c.ps), .p (.list (c.kn.map pk)), .p (.list (c.rs.map pr)), .p (.int .i64 c.ms)], .ptr [.p (.int .i64 x)], .ptr [.p (.int .i64 w)]] (mkHp []) A (fun y => y = .ok (.p (.bool (holdQ c x w))) (mkHp []) A) := by
  refine spec_of Try.func44 (rfl : Try.f44.body = some _) (Nat.le_of_ble_eq_true rfl) (fun id h => ?_) (fun j id h => ?_) ?_
  · exact wf1x h
  · exact wf2x h
  intro C hN hL
  replace hN : C.N = 18 := hN
  simp only [Gh.num, List.map_cons, List.map_nil, Nat.reduceAdd]
  have hn := valid_num hv
  repeat refine gwp_seq ?_
  refine gwp_region ?_
  refine v0 (k := ?_)
  refine nil0 ?_
  refine cl [0, 1, 2] (k := ?_)
  repeat refine gwp_seq ?_
  rcases hq1 : (decide (0 ≤ x) && decide (x ≤ c.pl - 1)) with _ | _
  · repeat refine gwp_seq ?_
    refine rd ?_
    refine d0 0 (k := ?_)
    refine d0 1 (k := ?_)
    refine doc0 2 [] [] [4, 0] none (spec := s_isPlate c.pl x (by omega)) (hent := ent45) (k := ?_)
    refine d0 3 (k := ?_)
    refine dx0 4 (k := ?_)
    refine dx0 5 (k := ?_)
    refine dx0 6 (k := ?_)
    refine dx0 7 (k := ?_)
    refine dx0 8 (k := ?_)
    refine dx0 9 (k := ?_)
    refine dx0 10 (k := ?_)
    refine dx0 11 (k := ?_)
    refine d0 12 (k := ?_)
    refine d0 13 (k := ?_)
    refine dz 14 [0, 0, 3, 7, 15, 15, 47, 111, 239, 495, 1007, 2047, 4095, 8191] (h := ?_)
    refine de 14 (h := ?_)
    repeat refine gwp_seq ?_
    refine gwp_ret ?_
    repeat (first | refine gthen_ret ?_ | refine gblock_ret ?_ | refine gnoGoto_ret ?_)
    refine fin_ret ?_
    refine fp (hR := ?_)
    simp only [holdQ, inQ, hq1, Bool.true_and, Bool.false_and, List.length_map]
  · repeat refine gwp_seq ?_
    refine rd ?_
    refine d0 0 (k := ?_)
    refine d0 1 (k := ?_)
    refine doc0 2 [] [] [4, 0] none (spec := s_isPlate c.pl x (by omega)) (hent := ent45) (k := ?_)
    refine d0 3 (k := ?_)
    refine dw0 4 (k := ?_)
    refine dw0 5 (k := ?_)
    refine dw0 6 (k := ?_)
    refine dw0 7 (k := ?_)
    refine dw0 8 (k := ?_)
    refine dw0 9 (k := ?_)
    refine dw0 10 (k := ?_)
    refine dpcw 11 (spec := s_within _ _ _) (hent := ent46) (k := ?_)
    refine d0 12 (k := ?_)
    refine d0 13 (k := ?_)
    refine dz 14 [0, 0, 3, 7, 15, 15, 47, 111, 239, 495, 1007, 2047, 4095, 8191] (h := ?_)
    refine de 14 (h := ?_)
    repeat refine gwp_seq ?_
    refine gwp_ret ?_
    repeat (first | refine gthen_ret ?_ | refine gblock_ret ?_ | refine gnoGoto_ret ?_)
    refine fin_ret ?_
    refine fp (hR := ?_)
    simp only [holdQ, inQ, hq1, Bool.true_and, Bool.false_and, List.length_map]
theorem ent57 : Enters Try.prog 57 := Enters.mk Try.func57 (by kernel_rfl) rfl
theorem q_57 {E : Env Try.prog} {A : E.α} (c : Ch) (hv : c.valid = true) (x w : Int) : Gh.Spec E 57 [.ptr [.p (.int .i64 c.pl), .p (.int .i64 c.ps), .p (.list (c.kn.map pk)), .p (.list (c.rs.map pr)), .p (.int .i64 c.ms)], .ptr [.p (.int .i64 x)], .ptr [.p (.int .i64 w)]] (mkHp []) A (fun y => y = .ok (.p (.bool (pathQ c x w))) (mkHp []) A) := by
  refine spec_of Try.func57 (rfl : Try.f57.body = some _) (Nat.le_of_ble_eq_true rfl) (fun id h => ?_) (fun j id h => ?_) ?_
  · exact wf1x h
  · exact wf2x h
  intro C hN hL
  replace hN : C.N = 32 := hN
  simp only [Gh.num, List.map_cons, List.map_nil, Nat.reduceAdd]
  have hn := valid_num hv
  have hpk : ∀ k : Kw, pk k = P.agg [.int .i64 k.a, .int .i64 k.b] := fun _ => rfl
  have hpr : ∀ r : Rc, pr r = P.agg [.int .i64 r.p, .int .i64 r.f, .int .i64 r.t] := fun _ => rfl
  repeat refine gwp_seq ?_
  refine gwp_region ?_
  refine v0 (k := ?_)
  refine nil0 ?_
  refine cl [0, 1, 2] (k := ?_)
  repeat refine gwp_seq ?_
  rcases bb3 (decide (0 ≤ x) && decide (x ≤ c.pl - 1)) (decide (0 ≤ w) && decide (w ≤ (c.rs.length : Int) - 1)) with hq1 | ⟨hq1, hq2⟩ | ⟨hq1, hq2⟩
  · repeat refine gwp_seq ?_
    refine rd ?_
    refine d0 0 (k := ?_)
    refine d0 1 (k := ?_)
    refine doc0 2 [] [] [4, 0] none (spec := s_isPlate c.pl x (by omega)) (hent := ent45) (k := ?_)
    refine d0 3 (k := ?_)
    refine dx0 4 (k := ?_)
    refine dx0 5 (k := ?_)
    refine dx0 6 (k := ?_)
    refine dx0 7 (k := ?_)
    refine dx0 8 (k := ?_)
    refine dx0 9 (k := ?_)
    refine dx0 10 (k := ?_)
    refine dx0 11 (k := ?_)
    refine dx0 12 (k := ?_)
    refine d0 13 (k := ?_)
    refine d0 14 (k := ?_)
    refine dx0 15 (k := ?_)
    refine dx0 16 (k := ?_)
    refine dx0 17 (k := ?_)
    refine dx0 18 (k := ?_)
    refine dx0 19 (k := ?_)
    refine dx0 20 (k := ?_)
    refine dx0 21 (k := ?_)
    refine dx0 22 (k := ?_)
    refine dx0 23 (k := ?_)
    refine dx0 24 (k := ?_)
    refine dx0 25 (k := ?_)
    refine d0 26 (k := ?_)
    refine d0 27 (k := ?_)
    refine dz 28 [0, 0, 3, 7, 15, 15, 47, 111, 239, 495, 1007, 2031, 4095, 8191, 16383, 32767, 65535, 131071, 262143, 524287, 32767, 2097151, 4194303, 8388607, 32767, 33554431, 67108863, 134217727] (h := ?_)
    refine de 28 (h := ?_)
    repeat refine gwp_seq ?_
    refine gwp_ret ?_
    repeat (first | refine gthen_ret ?_ | refine gblock_ret ?_ | refine gnoGoto_ret ?_)
    refine fin_ret ?_
    refine fp (hR := ?_)
    first
    | (simp only [pathQ, inQ, hq1, hq2, Bool.true_and, Bool.false_and, Bool.and_false, Int.toNat_natCast, hr]; done)
    | (simp only [pathQ, inQ, hq1, hq2, Bool.true_and, Bool.false_and]; done)
    | (simp only [pathQ, inQ, hq1, Bool.true_and, Bool.false_and])
  · repeat refine gwp_seq ?_
    refine rd ?_
    refine d0 0 (k := ?_)
    refine d0 1 (k := ?_)
    refine doc0 2 [] [] [4, 0] none (spec := s_isPlate c.pl x (by omega)) (hent := ent45) (k := ?_)
    refine d0 3 (k := ?_)
    refine dw0 4 (k := ?_)
    refine dw0 5 (k := ?_)
    refine dw0 6 (k := ?_)
    refine dw0 7 (k := ?_)
    refine dw0 8 (k := ?_)
    refine dw0 9 (k := ?_)
    refine dw0 10 (k := ?_)
    refine dw1 11 (hc := kVf1.h {}) (k := ?_)
    refine dpcw 12 (spec := s_within _ _ _) (hent := ent46) (k := ?_)
    refine d0 13 (k := ?_)
    refine d0 14 (k := ?_)
    refine dx0 15 (k := ?_)
    refine dx0 16 (k := ?_)
    refine dx0 17 (k := ?_)
    refine dx0 18 (k := ?_)
    refine dx0 19 (k := ?_)
    refine dx0 20 (k := ?_)
    refine dx0 21 (k := ?_)
    refine dx0 22 (k := ?_)
    refine dx0 23 (k := ?_)
    refine dx0 24 (k := ?_)
    refine dx0 25 (k := ?_)
    refine d0 26 (k := ?_)
    refine d0 27 (k := ?_)
    refine dz 28 [0, 0, 3, 7, 15, 15, 47, 111, 239, 495, 1007, 2031, 4095, 8191, 16383, 32767, 65535, 131071, 262143, 524287, 32767, 2097151, 4194303, 8388607, 32767, 33554431, 67108863, 134217727] (h := ?_)
    refine de 28 (h := ?_)
    repeat refine gwp_seq ?_
    refine gwp_ret ?_
    repeat (first | refine gthen_ret ?_ | refine gblock_ret ?_ | refine gnoGoto_ret ?_)
    refine fin_ret ?_
    refine fp (hR := ?_)
    first
    | (simp only [pathQ, inQ, hq1, hq2, Bool.true_and, Bool.false_and, Bool.and_false, Int.toNat_natCast, hr]; done)
    | (simp only [pathQ, inQ, hq1, hq2, Bool.true_and, Bool.false_and]; done)
    | (simp only [pathQ, inQ, hq1, Bool.true_and, Bool.false_and])
  · have hq3 := hq2
    simp only [Bool.and_eq_true, decide_eq_true_eq] at hq3
    obtain ⟨n, rfl⟩ : ∃ n : Nat, w = n := ⟨w.toNat, by omega⟩
    obtain ⟨r, hr⟩ := getE (l := c.rs) (k := n) (by omega)
    have hnl := (List.getElem?_eq_some_iff.1 hr).1
    clear hq3
    repeat refine gwp_seq ?_
    refine rd ?_
    refine d0 0 (k := ?_)
    refine d0 1 (k := ?_)
    refine doc0 2 [] [] [4, 0] none (spec := s_isPlate c.pl x (by omega)) (hent := ent45) (k := ?_)
    refine d0 3 (k := ?_)
    refine dw0 4 (k := ?_)
    refine dw0 5 (k := ?_)
    refine dw0 6 (k := ?_)
    refine dw0 7 (k := ?_)
    refine dw0 8 (k := ?_)
    refine dw0 9 (k := ?_)
    refine dw0 10 (k := ?_)
    refine dw1 11 (hc := kVf1.h {}) (k := ?_)
    refine dpcw 12 (spec := s_within _ _ _) (hent := ent46) (k := ?_)
    refine d0 13 (k := ?_)
    refine d0 14 (k := ?_)
    refine dw0 15 (k := ?_)
    refine dw0 16 (k := ?_)
    refine dw0 17 (k := ?_)
    refine dw0 18 (k := ?_)
    refine dw0 19 (k := ?_)
    refine dw0 20 (k := ?_)
    refine dw1 21 (hc := kVf1.h {}) (k := ?_)
    refine dw0 22 (k := ?_)
    refine dw0 23 (k := ?_)
    refine dw0 24 (k := ?_)
    refine dw0 25 (k := ?_)
    refine d0 26 (k := ?_)
    refine d0 27 (k := ?_)
    refine dz 28 [0, 0, 3, 7, 15, 15, 47, 111, 239, 495, 1007, 2031, 4095, 8191, 16383, 32767, 65535, 131071, 262143, 524287, 32767, 2097151, 4194303, 8388607, 32767, 33554431, 67108863, 134217727] (h := ?_)
    refine de 28 (h := ?_)
    repeat refine gwp_seq ?_
    refine gwp_ret ?_
    repeat (first | refine gthen_ret ?_ | refine gblock_ret ?_ | refine gnoGoto_ret ?_)
    refine fin_ret ?_
    refine fp (hR := ?_)
    first
    | (simp only [pathQ, inQ, hq1, hq2, Bool.true_and, Bool.false_and, Bool.and_false, Int.toNat_natCast, hr]; done)
    | (simp only [pathQ, inQ, hq1, hq2, Bool.true_and, Bool.false_and]; done)
    | (simp only [pathQ, inQ, hq1, Bool.true_and, Bool.false_and])
theorem ent43 : Enters Try.prog 43 := Enters.mk Try.func43 (by kernel_rfl) rfl
theorem s_open_t0 {E : Env Try.prog} {A : E.α} (c : Ch) (fi : FuncId)  (q : Bool) (hsp : Gh.Spec E fi [.ptr [.p (.int .i64 c.pl), .p (.int .i64 c.ps), .p (.list (c.kn.map pk)), .p (.list (c.rs.map pr)), .p (.int .i64 c.ms)]] (mkHp []) A fun z => z = .ok (.p (.bool q)) (mkHp []) A) (entfi : Enters Try.prog fi) (hv : c.valid = true) (hq : q = true) : Gh.Spec E 43 [.p (.agg [.int .i64 c.pl, .int .i64 c.ps, .list (c.kn.map pk), .list (c.rs.map pr), .int .i64 c.ms]), .p (.fn (.func fi) [] [])] (mkHp []) A (fun y => y = .ok (.ptr [.p (.int .i64 c.pl), .p (.int .i64 c.ps), .p (.list (c.kn.map pk)), .p (.list (c.rs.map pr)), .p (.int .i64 c.ms), .ptr ((mat (D (eF c.kn (-1)))).map G.p), .map 200]) (mkHp [(200, .map [])]) A) := by
  refine spec_of Try.func43 (rfl : Try.f43.body = some _) (Nat.le_of_ble_eq_true rfl) (fun id h => ?_) (fun j id h => ?_) ?_
  · exact wf1x h
  · exact wf2x h
  intro C hN hL
  replace hN : C.N = 23 := hN
  simp only [Gh.num, List.map_cons, List.map_nil, Nat.reduceAdd]
  have hn := valid_num hv
  have h1 : c.kn.length ≤ 1048576 := by omega
  have h2 : c.rs.length ≤ 1048576 := by omega
  repeat refine gwp_seq ?_
  refine gwp_region ?_
  refine n1 120 false (hc := kVf1.h {}) (k := ?_)
  refine v0 (k := ?_)
  refine nil0 ?_
  refine cl [1, 2] (k := ?_)
  repeat refine gwp_seq ?_
  refine gwp_region ?_
  refine v0 (k := ?_)
  refine oc0 [] [] [0] none (spec := s_isChain c h1 h2) (hent := ent95) (k := ?_)
  refine rb 7 true (h := by (exact hv)) (k := ?_)
  refine pc0 (spec := s_need_t _) (hent := ent58) (k := ?_)
  refine nil0 ?_
  refine cl [1, 2] (k := ?_)
  repeat refine gwp_seq ?_
  refine gwp_region ?_
  refine v0 (k := ?_)
  refine n1 200 false (hc := kVf1.h {}) (k := ?_)
  refine v0 (k := ?_)
  refine n1 220 false (hc := kVf1.h {}) (k := ?_)
  refine v0 (k := ?_)
  refine nil0 ?_
  refine cl [1, 5] (k := ?_)
  repeat refine gwp_seq ?_
  refine fz 220 5 [.k, .k, .k, .k, .k] (k := ?_)
  refine gwp_region ?_
  refine v0 (k := ?_)
  refine v0 (k := ?_)
  refine oc0 [] [220] [8] none (spec := hsp) (hent := entfi) (k := ?_)
  refine rb 15 true (h := by (exact hq)) (k := ?_)
  refine pc0 (spec := s_need_t _) (hent := ent58) (k := ?_)
  refine nil0 ?_
  refine cl [5] (k := ?_)
  repeat refine gwp_seq ?_
  refine gwp_region ?_
  refine v0 (k := ?_)
  refine v0 (k := ?_)
  refine oc0 [] [220] [6, 0] none (spec := s_dist (.int .i64 c.pl) (.int .i64 c.ps) c.kn (by omega) (-1)) (hent := ent79) (hgr := by (simp only [G.ren, rens_p, Gh.look, Nat.reduceEqDiff, reduceIte] <;> rfl)) (k := ?_)
  refine v0 (k := ?_)
  refine v0 (k := ?_)
  refine s1 (hc := kVf1.h {}) (k := ?_)
  refine nil0 ?_
  refine cl [5] (k := ?_)
  repeat refine gwp_seq ?_
  refine gwp_region ?_
  refine v0 (k := ?_)
  refine v0 (k := ?_)
  refine nil0 ?_
  repeat refine gwp_seq ?_
  refine fz 220 7 [.k, .k, .k, .k, .k, .k, .k] (k := ?_)
  refine cv 4 (.n [.k, .k, .k, .k, .k, .k, .k]) (k := ?_)
  refine gwp_ret ?_
  repeat (first | refine gthen_ret ?_ | refine gblock_ret ?_ | refine gnoGoto_ret ?_)
  refine fin_ret ?_
  refine fh [200] (hR := ?_)
  rfl
theorem s_open_r0 {E : Env Try.prog} {A : E.α} (c : Ch) (fi : FuncId)  (q : Bool) (hsp : Gh.Spec E fi [.ptr [.p (.int .i64 c.pl), .p (.int .i64 c.ps), .p (.list (c.kn.map pk)), .p (.list (c.rs.map pr)), .p (.int .i64 c.ms)]] (mkHp []) A fun z => z = .ok (.p (.bool q)) (mkHp []) A) (entfi : Enters Try.prog fi) (hv : c.valid = true) (hq : q = false) : Gh.Spec E 43 [.p (.agg [.int .i64 c.pl, .int .i64 c.ps, .list (c.kn.map pk), .list (c.rs.map pr), .int .i64 c.ms]), .p (.fn (.func fi) [] [])] (mkHp []) A (fun y => y = .panic (.iface 113 (.agg [.int .i64 2])) (mkHp []) A) := by
  refine spec_of Try.func43 (rfl : Try.f43.body = some _) (Nat.le_of_ble_eq_true rfl) (fun id h => ?_) (fun j id h => ?_) ?_
  · exact wf1x h
  · exact wf2x h
  intro C hN hL
  replace hN : C.N = 23 := hN
  simp only [Gh.num, List.map_cons, List.map_nil, Nat.reduceAdd]
  have hn := valid_num hv
  have h1 : c.kn.length ≤ 1048576 := by omega
  have h2 : c.rs.length ≤ 1048576 := by omega
  repeat refine gwp_seq ?_
  refine gwp_region ?_
  refine n1 120 false (hc := kVf1.h {}) (k := ?_)
  refine v0 (k := ?_)
  refine nil0 ?_
  refine cl [1, 2] (k := ?_)
  repeat refine gwp_seq ?_
  refine gwp_region ?_
  refine v0 (k := ?_)
  refine oc0 [] [] [0] none (spec := s_isChain c h1 h2) (hent := ent95) (k := ?_)
  refine rb 7 true (h := by (exact hv)) (k := ?_)
  refine pc0 (spec := s_need_t _) (hent := ent58) (k := ?_)
  refine nil0 ?_
  refine cl [1, 2] (k := ?_)
  repeat refine gwp_seq ?_
  refine gwp_region ?_
  refine v0 (k := ?_)
  refine n1 200 false (hc := kVf1.h {}) (k := ?_)
  refine v0 (k := ?_)
  refine n1 220 false (hc := kVf1.h {}) (k := ?_)
  refine v0 (k := ?_)
  refine nil0 ?_
  refine cl [1, 5] (k := ?_)
  repeat refine gwp_seq ?_
  refine fz 220 5 [.k, .k, .k, .k, .k] (k := ?_)
  refine gwp_region ?_
  refine v0 (k := ?_)
  refine v0 (k := ?_)
  refine oc0 [] [220] [8] none (spec := hsp) (hent := entfi) (k := ?_)
  refine rb 15 false (h := by (exact hq)) (k := ?_)
  refine pp0 (spec := s_need_f _) (hent := ent58) (k := ?_)
  repeat (first | refine gthen_panic ?_ | refine gblock_panic ?_)
  refine fph [] (hR := ?_)
  rfl
theorem s_open_f0 {E : Env Try.prog} {A : E.α} (c : Ch) (h1 : c.kn.length ≤ 1048576) (h2 : c.rs.length ≤ 1048576) (fi : FuncId)  (hv : c.valid = false) : Gh.Spec E 43 [.p (.agg [.int .i64 c.pl, .int .i64 c.ps, .list (c.kn.map pk), .list (c.rs.map pr), .int .i64 c.ms]), .p (.fn (.func fi) [] [])] (mkHp []) A (fun y => y = .panic (.iface 113 (.agg [.int .i64 1])) (mkHp []) A) := by
  refine spec_of Try.func43 (rfl : Try.f43.body = some _) (Nat.le_of_ble_eq_true rfl) (fun id h => ?_) (fun j id h => ?_) ?_
  · exact wf1x h
  · exact wf2x h
  intro C hN hL
  replace hN : C.N = 23 := hN
  simp only [Gh.num, List.map_cons, List.map_nil, Nat.reduceAdd]
  repeat refine gwp_seq ?_
  refine gwp_region ?_
  refine n1 120 false (hc := kVf1.h {}) (k := ?_)
  refine v0 (k := ?_)
  refine nil0 ?_
  refine cl [1, 2] (k := ?_)
  repeat refine gwp_seq ?_
  refine gwp_region ?_
  refine v0 (k := ?_)
  refine oc0 [] [] [0] none (spec := s_isChain c h1 h2) (hent := ent95) (k := ?_)
  refine rb 7 false (h := by (exact hv)) (k := ?_)
  refine pp0 (spec := s_need_f _) (hent := ent58) (k := ?_)
  repeat (first | refine gthen_panic ?_ | refine gblock_panic ?_)
  refine fph [] (hR := ?_)
  rfl
theorem s_open_t1 {E : Env Try.prog} {A : E.α} (c : Ch) (fi : FuncId) (x : Int) (q : Bool) (hsp : Gh.Spec E fi [.ptr [.p (.int .i64 c.pl), .p (.int .i64 c.ps), .p (.list (c.kn.map pk)), .p (.list (c.rs.map pr)), .p (.int .i64 c.ms)], .ptr [.p (.int .i64 x)]] (mkHp []) A fun z => z = .ok (.p (.bool q)) (mkHp []) A) (entfi : Enters Try.prog fi) (hv : c.valid = true) (hq : q = true) : Gh.Spec E 43 [.p (.agg [.int .i64 c.pl, .int .i64 c.ps, .list (c.kn.map pk), .list (c.rs.map pr), .int .i64 c.ms]), .fn (.func fi) [] [.ptr [.p (.int .i64 x)]]] (mkHp []) A (fun y => y = .ok (.ptr [.p (.int .i64 c.pl), .p (.int .i64 c.ps), .p (.list (c.kn.map pk)), .p (.list (c.rs.map pr)), .p (.int .i64 c.ms), .ptr ((mat (D (eF c.kn (-1)))).map G.p), .map 200]) (mkHp [(200, .map [])]) A) := by
  refine spec_of Try.func43 (rfl : Try.f43.body = some _) (Nat.le_of_ble_eq_true rfl) (fun id h => ?_) (fun j id h => ?_) ?_
  · exact wf1x h
  · exact wf2x h
  intro C hN hL
  replace hN : C.N = 23 := hN
  simp only [Gh.num, List.map_cons, List.map_nil, Nat.reduceAdd]
  have hn := valid_num hv
  have h1 : c.kn.length ≤ 1048576 := by omega
  have h2 : c.rs.length ≤ 1048576 := by omega
  repeat refine gwp_seq ?_
  refine gwp_region ?_
  refine n1 120 false (hc := kVf1.h {}) (k := ?_)
  refine v0 (k := ?_)
  refine nil0 ?_
  refine cl [1, 2] (k := ?_)
  repeat refine gwp_seq ?_
  refine gwp_region ?_
  refine v0 (k := ?_)
  refine oc0 [] [] [0] none (spec := s_isChain c h1 h2) (hent := ent95) (k := ?_)
  refine rb 7 true (h := by (exact hv)) (k := ?_)
  refine pc0 (spec := s_need_t _) (hent := ent58) (k := ?_)
  refine nil0 ?_
  refine cl [1, 2] (k := ?_)
  repeat refine gwp_seq ?_
  refine gwp_region ?_
  refine v0 (k := ?_)
  refine n1 200 false (hc := kVf1.h {}) (k := ?_)
  refine v0 (k := ?_)
  refine n1 220 false (hc := kVf1.h {}) (k := ?_)
  refine v0 (k := ?_)
  refine nil0 ?_
  refine cl [1, 5] (k := ?_)
  repeat refine gwp_seq ?_
  refine fz 220 5 [.k, .k, .k, .k, .k] (k := ?_)
  refine gwp_region ?_
  refine v0 (k := ?_)
  refine v0 (k := ?_)
  refine oc0 [] [220] [8, 0] none (spec := hsp) (hent := entfi) (k := ?_)
  refine rb 15 true (h := by (exact hq)) (k := ?_)
  refine pc0 (spec := s_need_t _) (hent := ent58) (k := ?_)
  refine nil0 ?_
  refine cl [5] (k := ?_)
  repeat refine gwp_seq ?_
  refine gwp_region ?_
  refine v0 (k := ?_)
  refine v0 (k := ?_)
  refine oc0 [] [220] [6, 0] none (spec := s_dist (.int .i64 c.pl) (.int .i64 c.ps) c.kn (by omega) (-1)) (hent := ent79) (hgr := by (simp only [G.ren, rens_p, Gh.look, Nat.reduceEqDiff, reduceIte] <;> rfl)) (k := ?_)
  refine v0 (k := ?_)
  refine v0 (k := ?_)
  refine s1 (hc := kVf1.h {}) (k := ?_)
  refine nil0 ?_
  refine cl [5] (k := ?_)
  repeat refine gwp_seq ?_
  refine gwp_region ?_
  refine v0 (k := ?_)
  refine v0 (k := ?_)
  refine nil0 ?_
  repeat refine gwp_seq ?_
  refine fz 220 7 [.k, .k, .k, .k, .k, .k, .k] (k := ?_)
  refine cv 4 (.n [.k, .k, .k, .k, .k, .k, .k]) (k := ?_)
  refine gwp_ret ?_
  repeat (first | refine gthen_ret ?_ | refine gblock_ret ?_ | refine gnoGoto_ret ?_)
  refine fin_ret ?_
  refine fh [200] (hR := ?_)
  rfl
theorem s_open_r1 {E : Env Try.prog} {A : E.α} (c : Ch) (fi : FuncId) (x : Int) (q : Bool) (hsp : Gh.Spec E fi [.ptr [.p (.int .i64 c.pl), .p (.int .i64 c.ps), .p (.list (c.kn.map pk)), .p (.list (c.rs.map pr)), .p (.int .i64 c.ms)], .ptr [.p (.int .i64 x)]] (mkHp []) A fun z => z = .ok (.p (.bool q)) (mkHp []) A) (entfi : Enters Try.prog fi) (hv : c.valid = true) (hq : q = false) : Gh.Spec E 43 [.p (.agg [.int .i64 c.pl, .int .i64 c.ps, .list (c.kn.map pk), .list (c.rs.map pr), .int .i64 c.ms]), .fn (.func fi) [] [.ptr [.p (.int .i64 x)]]] (mkHp []) A (fun y => y = .panic (.iface 113 (.agg [.int .i64 2])) (mkHp []) A) := by
  refine spec_of Try.func43 (rfl : Try.f43.body = some _) (Nat.le_of_ble_eq_true rfl) (fun id h => ?_) (fun j id h => ?_) ?_
  · exact wf1x h
  · exact wf2x h
  intro C hN hL
  replace hN : C.N = 23 := hN
  simp only [Gh.num, List.map_cons, List.map_nil, Nat.reduceAdd]
  have hn := valid_num hv
  have h1 : c.kn.length ≤ 1048576 := by omega
  have h2 : c.rs.length ≤ 1048576 := by omega
  repeat refine gwp_seq ?_
  refine gwp_region ?_
  refine n1 120 false (hc := kVf1.h {}) (k := ?_)
  refine v0 (k := ?_)
  refine nil0 ?_
  refine cl [1, 2] (k := ?_)
  repeat refine gwp_seq ?_
  refine gwp_region ?_
  refine v0 (k := ?_)
  refine oc0 [] [] [0] none (spec := s_isChain c h1 h2) (hent := ent95) (k := ?_)
  refine rb 7 true (h := by (exact hv)) (k := ?_)
  refine pc0 (spec := s_need_t _) (hent := ent58) (k := ?_)
  refine nil0 ?_
  refine cl [1, 2] (k := ?_)
  repeat refine gwp_seq ?_
  refine gwp_region ?_
  refine v0 (k := ?_)
  refine n1 200 false (hc := kVf1.h {}) (k := ?_)
  refine v0 (k := ?_)
  refine n1 220 false (hc := kVf1.h {}) (k := ?_)
  refine v0 (k := ?_)
  refine nil0 ?_
  refine cl [1, 5] (k := ?_)
  repeat refine gwp_seq ?_
  refine fz 220 5 [.k, .k, .k, .k, .k] (k := ?_)
  refine gwp_region ?_
  refine v0 (k := ?_)
  refine v0 (k := ?_)
  refine oc0 [] [220] [8, 0] none (spec := hsp) (hent := entfi) (k := ?_)
  refine rb 15 false (h := by (exact hq)) (k := ?_)
  refine pp0 (spec := s_need_f _) (hent := ent58) (k := ?_)
  repeat (first | refine gthen_panic ?_ | refine gblock_panic ?_)
  refine fph [] (hR := ?_)
  rfl
theorem s_open_f1 {E : Env Try.prog} {A : E.α} (c : Ch) (h1 : c.kn.length ≤ 1048576) (h2 : c.rs.length ≤ 1048576) (fi : FuncId) (x : Int) (hv : c.valid = false) : Gh.Spec E 43 [.p (.agg [.int .i64 c.pl, .int .i64 c.ps, .list (c.kn.map pk), .list (c.rs.map pr), .int .i64 c.ms]), .fn (.func fi) [] [.ptr [.p (.int .i64 x)]]] (mkHp []) A (fun y => y = .panic (.iface 113 (.agg [.int .i64 1])) (mkHp []) A) := by
  refine spec_of Try.func43 (rfl : Try.f43.body = some _) (Nat.le_of_ble_eq_true rfl) (fun id h => ?_) (fun j id h => ?_) ?_
  · exact wf1x h
  · exact wf2x h
  intro C hN hL
  replace hN : C.N = 23 := hN
  simp only [Gh.num, List.map_cons, List.map_nil, Nat.reduceAdd]
  repeat refine gwp_seq ?_
  refine gwp_region ?_
  refine n1 120 false (hc := kVf1.h {}) (k := ?_)
  refine v0 (k := ?_)
  refine nil0 ?_
  refine cl [1, 2] (k := ?_)
  repeat refine gwp_seq ?_
  refine gwp_region ?_
  refine v0 (k := ?_)
  refine oc0 [] [] [0] none (spec := s_isChain c h1 h2) (hent := ent95) (k := ?_)
  refine rb 7 false (h := by (exact hv)) (k := ?_)
  refine pp0 (spec := s_need_f _) (hent := ent58) (k := ?_)
  repeat (first | refine gthen_panic ?_ | refine gblock_panic ?_)
  refine fph [] (hR := ?_)
  rfl
theorem s_open_t2 {E : Env Try.prog} {A : E.α} (c : Ch) (fi : FuncId) (x : Int) (w : Int) (q : Bool) (hsp : Gh.Spec E fi [.ptr [.p (.int .i64 c.pl), .p (.int .i64 c.ps), .p (.list (c.kn.map pk)), .p (.list (c.rs.map pr)), .p (.int .i64 c.ms)], .ptr [.p (.int .i64 x)], .ptr [.p (.int .i64 w)]] (mkHp []) A fun z => z = .ok (.p (.bool q)) (mkHp []) A) (entfi : Enters Try.prog fi) (hv : c.valid = true) (hq : q = true) : Gh.Spec E 43 [.p (.agg [.int .i64 c.pl, .int .i64 c.ps, .list (c.kn.map pk), .list (c.rs.map pr), .int .i64 c.ms]), .fn (.func fi) [] [.ptr [.p (.int .i64 x)], .ptr [.p (.int .i64 w)]]] (mkHp []) A (fun y => y = .ok (.ptr [.p (.int .i64 c.pl), .p (.int .i64 c.ps), .p (.list (c.kn.map pk)), .p (.list (c.rs.map pr)), .p (.int .i64 c.ms), .ptr ((mat (D (eF c.kn (-1)))).map G.p), .map 200]) (mkHp [(200, .map [])]) A) := by
  refine spec_of Try.func43 (rfl : Try.f43.body = some _) (Nat.le_of_ble_eq_true rfl) (fun id h => ?_) (fun j id h => ?_) ?_
  · exact wf1x h
  · exact wf2x h
  intro C hN hL
  replace hN : C.N = 23 := hN
  simp only [Gh.num, List.map_cons, List.map_nil, Nat.reduceAdd]
  have hn := valid_num hv
  have h1 : c.kn.length ≤ 1048576 := by omega
  have h2 : c.rs.length ≤ 1048576 := by omega
  repeat refine gwp_seq ?_
  refine gwp_region ?_
  refine n1 120 false (hc := kVf1.h {}) (k := ?_)
  refine v0 (k := ?_)
  refine nil0 ?_
  refine cl [1, 2] (k := ?_)
  repeat refine gwp_seq ?_
  refine gwp_region ?_
  refine v0 (k := ?_)
  refine oc0 [] [] [0] none (spec := s_isChain c h1 h2) (hent := ent95) (k := ?_)
  refine rb 7 true (h := by (exact hv)) (k := ?_)
  refine pc0 (spec := s_need_t _) (hent := ent58) (k := ?_)
  refine nil0 ?_
  refine cl [1, 2] (k := ?_)
  repeat refine gwp_seq ?_
  refine gwp_region ?_
  refine v0 (k := ?_)
  refine n1 200 false (hc := kVf1.h {}) (k := ?_)
  refine v0 (k := ?_)
  refine n1 220 false (hc := kVf1.h {}) (k := ?_)
  refine v0 (k := ?_)
  refine nil0 ?_
  refine cl [1, 5] (k := ?_)
  repeat refine gwp_seq ?_
  refine fz 220 5 [.k, .k, .k, .k, .k] (k := ?_)
  refine gwp_region ?_
  refine v0 (k := ?_)
  refine v0 (k := ?_)
  refine oc0 [] [220] [8, 0, 0] none (spec := hsp) (hent := entfi) (k := ?_)
  refine rb 15 true (h := by (exact hq)) (k := ?_)
  refine pc0 (spec := s_need_t _) (hent := ent58) (k := ?_)
  refine nil0 ?_
  refine cl [5] (k := ?_)
  repeat refine gwp_seq ?_
  refine gwp_region ?_
  refine v0 (k := ?_)
  refine v0 (k := ?_)
  refine oc0 [] [220] [6, 0] none (spec := s_dist (.int .i64 c.pl) (.int .i64 c.ps) c.kn (by omega) (-1)) (hent := ent79) (hgr := by (simp only [G.ren, rens_p, Gh.look, Nat.reduceEqDiff, reduceIte] <;> rfl)) (k := ?_)
  refine v0 (k := ?_)
  refine v0 (k := ?_)
  refine s1 (hc := kVf1.h {}) (k := ?_)
  refine nil0 ?_
  refine cl [5] (k := ?_)
  repeat refine gwp_seq ?_
  refine gwp_region ?_
  refine v0 (k := ?_)
  refine v0 (k := ?_)
  refine nil0 ?_
  repeat refine gwp_seq ?_
  refine fz 220 7 [.k, .k, .k, .k, .k, .k, .k] (k := ?_)
  refine cv 4 (.n [.k, .k, .k, .k, .k, .k, .k]) (k := ?_)
  refine gwp_ret ?_
  repeat (first | refine gthen_ret ?_ | refine gblock_ret ?_ | refine gnoGoto_ret ?_)
  refine fin_ret ?_
  refine fh [200] (hR := ?_)
  rfl
theorem s_open_r2 {E : Env Try.prog} {A : E.α} (c : Ch) (fi : FuncId) (x : Int) (w : Int) (q : Bool) (hsp : Gh.Spec E fi [.ptr [.p (.int .i64 c.pl), .p (.int .i64 c.ps), .p (.list (c.kn.map pk)), .p (.list (c.rs.map pr)), .p (.int .i64 c.ms)], .ptr [.p (.int .i64 x)], .ptr [.p (.int .i64 w)]] (mkHp []) A fun z => z = .ok (.p (.bool q)) (mkHp []) A) (entfi : Enters Try.prog fi) (hv : c.valid = true) (hq : q = false) : Gh.Spec E 43 [.p (.agg [.int .i64 c.pl, .int .i64 c.ps, .list (c.kn.map pk), .list (c.rs.map pr), .int .i64 c.ms]), .fn (.func fi) [] [.ptr [.p (.int .i64 x)], .ptr [.p (.int .i64 w)]]] (mkHp []) A (fun y => y = .panic (.iface 113 (.agg [.int .i64 2])) (mkHp []) A) := by
  refine spec_of Try.func43 (rfl : Try.f43.body = some _) (Nat.le_of_ble_eq_true rfl) (fun id h => ?_) (fun j id h => ?_) ?_
  · exact wf1x h
  · exact wf2x h
  intro C hN hL
  replace hN : C.N = 23 := hN
  simp only [Gh.num, List.map_cons, List.map_nil, Nat.reduceAdd]
  have hn := valid_num hv
  have h1 : c.kn.length ≤ 1048576 := by omega
  have h2 : c.rs.length ≤ 1048576 := by omega
  repeat refine gwp_seq ?_
  refine gwp_region ?_
  refine n1 120 false (hc := kVf1.h {}) (k := ?_)
  refine v0 (k := ?_)
  refine nil0 ?_
  refine cl [1, 2] (k := ?_)
  repeat refine gwp_seq ?_
  refine gwp_region ?_
  refine v0 (k := ?_)
  refine oc0 [] [] [0] none (spec := s_isChain c h1 h2) (hent := ent95) (k := ?_)
  refine rb 7 true (h := by (exact hv)) (k := ?_)
  refine pc0 (spec := s_need_t _) (hent := ent58) (k := ?_)
  refine nil0 ?_
  refine cl [1, 2] (k := ?_)
  repeat refine gwp_seq ?_
  refine gwp_region ?_
  refine v0 (k := ?_)
  refine n1 200 false (hc := kVf1.h {}) (k := ?_)
  refine v0 (k := ?_)
  refine n1 220 false (hc := kVf1.h {}) (k := ?_)
  refine v0 (k := ?_)
  refine nil0 ?_
  refine cl [1, 5] (k := ?_)
  repeat refine gwp_seq ?_
  refine fz 220 5 [.k, .k, .k, .k, .k] (k := ?_)
  refine gwp_region ?_
  refine v0 (k := ?_)
  refine v0 (k := ?_)
  refine oc0 [] [220] [8, 0, 0] none (spec := hsp) (hent := entfi) (k := ?_)
  refine rb 15 false (h := by (exact hq)) (k := ?_)
  refine pp0 (spec := s_need_f _) (hent := ent58) (k := ?_)
  repeat (first | refine gthen_panic ?_ | refine gblock_panic ?_)
  refine fph [] (hR := ?_)
  rfl
theorem s_open_f2 {E : Env Try.prog} {A : E.α} (c : Ch) (h1 : c.kn.length ≤ 1048576) (h2 : c.rs.length ≤ 1048576) (fi : FuncId) (x : Int) (w : Int) (hv : c.valid = false) : Gh.Spec E 43 [.p (.agg [.int .i64 c.pl, .int .i64 c.ps, .list (c.kn.map pk), .list (c.rs.map pr), .int .i64 c.ms]), .fn (.func fi) [] [.ptr [.p (.int .i64 x)], .ptr [.p (.int .i64 w)]]] (mkHp []) A (fun y => y = .panic (.iface 113 (.agg [.int .i64 1])) (mkHp []) A) := by
  refine spec_of Try.func43 (rfl : Try.f43.body = some _) (Nat.le_of_ble_eq_true rfl) (fun id h => ?_) (fun j id h => ?_) ?_
  · exact wf1x h
  · exact wf2x h
  intro C hN hL
  replace hN : C.N = 23 := hN
  simp only [Gh.num, List.map_cons, List.map_nil, Nat.reduceAdd]
  repeat refine gwp_seq ?_
  refine gwp_region ?_
  refine n1 120 false (hc := kVf1.h {}) (k := ?_)
  refine v0 (k := ?_)
  refine nil0 ?_
  refine cl [1, 2] (k := ?_)
  repeat refine gwp_seq ?_
  refine gwp_region ?_
  refine v0 (k := ?_)
  refine oc0 [] [] [0] none (spec := s_isChain c h1 h2) (hent := ent95) (k := ?_)
  refine rb 7 false (h := by (exact hv)) (k := ?_)
  refine pp0 (spec := s_need_f _) (hent := ent58) (k := ?_)
  repeat (first | refine gthen_panic ?_ | refine gblock_panic ?_)
  refine fph [] (hR := ?_)
  rfl
end Go.Proofs.Ytagdholenfkeaaa

/- The first shortest way, as the program looks for it. -/
namespace Go.Proofs.Ytagdholenfkeaaa
open Go.Gh
def nxtQ (kn : List Kw) (f : Mx) (dst at_ k : Nat) : Bool := knowI kn at_ k && decide (f k dst = f at_ dst - 1)
def pathL (kn : List Kw) (f : Mx) (P dst : Nat) : Nat → Nat → List Nat
  | 0, a => [a]
  | n + 1, a => match (List.range P).find? (nxtQ kn f dst a) with
    | some k => a :: pathL kn f P dst n k
    | none => [a]
section
variable {kn : List Kw} {f : Mx} {P dst : Nat}
theorem pathL_len : ∀ n a, 1 ≤ (pathL kn f P dst n a).length ∧ (pathL kn f P dst n a).length ≤ n + 1
  | 0, a => by simp [pathL]
  | n + 1, a => by
    simp only [pathL]
    split
    · rename_i k _
      have := pathL_len n k
      simp only [List.length_cons]; omega
    · simp
theorem find_first {p : Nat → Bool} {n s : Nat} (hs : s < n) (h : ∀ i, i < s → p i = false) (hp : p s = true) : (List.range n).find? p = some s := by
  have e : List.range n = List.range s ++ s :: (List.range n).drop (s + 1) := by
    have h1 : (List.range n).take s = List.range s := by rw [List.take_range, Nat.min_eq_left (by omega)]
    have hl : s < (List.range n).length := by rw [List.length_range]; exact hs
    have h2 : (List.range n).drop s = s :: (List.range n).drop (s + 1) := by rw [List.drop_eq_getElem_cons hl, List.getElem_range]
    rw [← h1, ← h2, List.take_append_drop]
  rw [e, List.find?_append, List.find?_eq_none.2 (fun x hx => by rw [h x (List.mem_range.1 hx)]; simp), Option.none_or, List.find?_cons_of_pos hp]
theorem pathL_some {n a k : Nat} (hk : k < P) (h : ∀ i, i < k → nxtQ kn f dst a i = false) (hp : nxtQ kn f dst a k = true) : pathL kn f P dst (n + 1) a = a :: pathL kn f P dst n k := by
  simp only [pathL, find_first hk h hp]
theorem pathL_none {n a : Nat} (h : ∀ i, i < P → nxtQ kn f dst a i = false) : pathL kn f P dst n a = [a] := by
  cases n with
  | zero => rfl
  | succ n =>
    have : (List.range P).find? (nxtQ kn f dst a) = none := List.find?_eq_none.2 fun x hx => by rw [h x (List.mem_range.1 hx)]; simp
    simp only [pathL, this]
theorem nxt_step {a k : Nat} (h : ∀ i, i < k → nxtQ kn f dst a i = false) (hk : nxtQ kn f dst a k = false) : ∀ i, i < k + 1 → nxtQ kn f dst a i = false := fun i hi => by
  by_cases e : i = k
  · subst e; exact hk
  · exact h i (by omega)
theorem nxt_f1 {a k : Nat} (h : knowI kn a k = false) : nxtQ kn f dst a k = false := by simp [nxtQ, h]
theorem nxt_f2 {a k : Nat} (h : ¬ f k dst = f a dst - 1) : nxtQ kn f dst a k = false := by simp [nxtQ, h]
theorem nxt_t {a k : Nat} (h : knowI kn a k = true) (h2 : f k dst = f a dst - 1) : nxtQ kn f dst a k = true := by simp [nxtQ, h, h2]
end
/-- The numbers of a list of persons. -/
def intL (l : List Nat) : List P := l.map fun x : Nat => .int .i64 (x : Nat)
theorem intL_len (l : List Nat) : (intL l).length = l.length := by simp [intL]
theorem intL_one (l : List Nat) : ∀ p ∈ intL l, p.one = true := fun p hp => by obtain ⟨x, _, rfl⟩ := List.mem_map.1 hp; rfl
theorem intL_size (l : List Nat) : ∀ p ∈ intL l, p.size = 1 := fun p hp => by obtain ⟨x, _, rfl⟩ := List.mem_map.1 hp; rfl
theorem cons_one (a : Int) (l : List Nat) : ∀ p ∈ P.int .i64 a :: intL l, p.one = true := fun p hp => by
  rcases List.mem_cons.1 hp with rfl | hp
  · rfl
  · exact intL_one _ p hp
theorem cons_all (a : Int) (l : List Nat) : allOne ((P.int .i64 a :: intL l).map G.p) = true := by
  rw [allOne_p, List.all_eq_true]; exact cons_one a l
theorem made_l (n : Nat) : ((List.range n).map fun i => [G.p (.int .i64 0)].getD (i % 1) .undef) = (List.replicate n (P.int .i64 0)).map .p := by
  apply List.ext_getElem?
  intro j
  by_cases h : j < n
  · rw [List.getElem?_map, List.getElem?_range h, List.getElem?_map, List.getElem?_replicate, if_pos h, Option.map_some, Nat.mod_one]; rfl
  · rw [List.getElem?_eq_none (by simp; omega), List.getElem?_eq_none (by simp; omega)]
theorem made_copy (a : P) (l : List P) : splice ((a :: List.replicate l.length (P.int .i64 0)).map G.p) 1 (l.map G.p) = (a :: l).map G.p := by
  simp [splice]; omega
end Go.Proofs.Ytagdholenfkeaaa

/- The steps of a plate; sets of persons. -/
namespace Go.Proofs.Ytagdholenfkeaaa
open Go.Gh
theorem bitop_or_u64 (x y : Nat) (hx : x < 2 ^ 62) (hy : y < 2 ^ 62) : bitop .or .u64 (x : Int) (y : Int) = ((x ||| y : Nat) : Int) := by
  have e1 : (BitVec.ofInt 64 (x : Int)).toNat = x := by rw [BitVec.toNat_ofInt]; omega
  have e2 : (BitVec.ofInt 64 (y : Int)).toNat = y := by rw [BitVec.toNat_ofInt]; omega
  have h : (x ||| y) < 2 ^ 62 := Nat.or_lt_two_pow hx hy
  show IntKind.u64.wrap ((BitVec.ofInt 64 (x : Int) ||| BitVec.ofInt 64 (y : Int)).toNat : Int) = _
  rw [BitVec.toNat_or, e1, e2]
  exact IntWalk.u64_in ((x ||| y : Nat) : Int) (by omega)
/-- A set with some more. -/
def withN (s : Nat) (l : List Nat) : Nat := l.foldl (fun s x => s ||| 2 ^ x) s
theorem withN_lt {s : Nat} {l : List Nat} (hs : s < 256) (hl : ∀ x ∈ l, x < 8) : withN s l < 256 := by
  induction l generalizing s with
  | nil => exact hs
  | cons x xs ih =>
    refine ih (s := s ||| 2 ^ x) ?_ fun y hy => hl y (by simp [hy])
    have hx : 2 ^ x < 2 ^ 8 := Nat.pow_lt_pow_right (by omega) (hl x (by simp))
    exact Nat.or_lt_two_pow (n := 8) hs hx
theorem withN_snoc {s : Nat} {l : List Nat} {k x : Nat} (h : l[k]? = some x) : withN s (l.take (k + 1)) = withN s (l.take k) ||| 2 ^ x := by
  rw [List.take_add_one, h, Option.toList_some, withN, List.foldl_append]; rfl
theorem with_or {s x : Nat} (hs : s < 256) (hx : x < 8) : bitop .or .u64 (s : Int) (IntKind.u64.wrap (1 * 2 ^ min x 64)) = ((s ||| 2 ^ x : Nat) : Int) := by
  rw [shl1_u64 x (by omega)]
  have : 2 ^ x < 2 ^ 8 := Nat.pow_lt_pow_right (by omega) hx
  exact bitop_or_u64 _ _ (by omega) (by omega)
structure St where
  a : Int
  b : Option Int
def stP (x : St) : P := match x.b with
  | some b => .iface 122 (.agg [.int .i64 x.a, .int .i64 b])
  | none => .iface 124 (.agg [.int .i64 x.a])
/-- From holder to holder. -/
def toL (h : Int) : List (Nat × Rc) → List St
  | [] => []
  | e :: l => ⟨h, some e.2.f⟩ :: toL e.2.t l
def lastH (h : Int) (l : List (Nat × Rc)) : Int := match l.getLast? with | some e => e.2.t | none => h
theorem lastH_snoc (h : Int) (l : List (Nat × Rc)) (e : Nat × Rc) : lastH h (l ++ [e]) = e.2.t := by simp [lastH]
theorem lastH_cons (h : Int) (e : Nat × Rc) (l : List (Nat × Rc)) : lastH h (e :: l) = lastH e.2.t l := by
  cases l with
  | nil => rfl
  | cons x xs => simp [lastH, List.getLast?_cons]
theorem toL_snoc : ∀ (h : Int) (l : List (Nat × Rc)) (e : Nat × Rc), toL h (l ++ [e]) = toL h l ++ [⟨lastH h l, some e.2.f⟩]
  | h, [], e => rfl
  | h, x :: l, e => by rw [List.cons_append, toL, toL, toL_snoc, lastH_cons]; rfl
theorem toL_len : ∀ (h : Int) (l : List (Nat × Rc)), (toL h l).length = l.length
  | _, [] => rfl
  | _, _ :: l => by rw [toL, List.length_cons, toL_len, List.length_cons]
def stepsL (l : List (Nat × Rc)) : List St := toL 0 l ++ [⟨lastH 0 l, none⟩]
/-- All who are named. -/
def namedN : List (Nat × Rc) → Nat
  | l => withN 1 (l.flatMap fun e => [e.2.f.toNat, e.2.t.toNat])
theorem namedN_snoc (l : List (Nat × Rc)) (e : Nat × Rc) : namedN (l ++ [e]) = withN (namedN l) [e.2.f.toNat, e.2.t.toNat] := by
  simp only [namedN, withN, List.flatMap_append, List.foldl_append, List.flatMap_cons, List.flatMap_nil, List.append_nil]
theorem namedN_lt {l : List (Nat × Rc)} (h : ∀ e ∈ l, (0 ≤ e.2.f ∧ e.2.f < 8) ∧ (0 ≤ e.2.t ∧ e.2.t < 8)) : namedN l < 256 := by
  refine withN_lt (by omega) fun x hx => ?_
  obtain ⟨e, he, hx⟩ := List.mem_flatMap.1 hx
  have := h e he
  simp at hx
  omega
/-- How many unwritten times a step takes. -/
def leastV (f : Mx) (x : St) : Int := match x.b with
  | some b => f x.a.toNat b.toNat
  | none => 0
def totV (f : Mx) : List St → Int
  | [] => 0
  | x :: l => leastV f x + totV f l
theorem totV_snoc (f : Mx) (x : St) : ∀ l, totV f (l ++ [x]) = totV f l + leastV f x
  | [] => by simp [totV]
  | y :: l => by rw [List.cons_append, totV, totV, totV_snoc]; omega
theorem totV_take {f : Mx} {l : List St} {k : Nat} {x : St} (h : l[k]? = some x) : totV f (l.take (k + 1)) = totV f (l.take k) + leastV f x := by
  rw [List.take_add_one, h, Option.toList_some, totV_snoc]
theorem leastV_in {f : Mx} (hf : MOk f) (x : St) : 0 ≤ leastV f x ∧ leastV f x ≤ 1048576 := by
  simp only [leastV]
  have := @MOk.le f hf
  have h2 := @MOk.nn f hf
  simp only [NEV] at this
  split
  · exact ⟨h2 _ _, this _ _⟩
  · omega
theorem totV_in {f : Mx} (hf : MOk f) : ∀ l : List St, 0 ≤ totV f l ∧ totV f l ≤ 1048576 * l.length
  | [] => by simp [totV]
  | x :: l => by
    have := totV_in hf l
    have := leastV_in hf x
    rw [totV, List.length_cons]; omega
theorem drop_get (f : Mx) {x y : Nat} (hx : x < 8) (hy : y < 8) : (List.drop y (List.drop (x * 8) (List.map G.p (mat f))))[0]? = some (.p (.int .i64 (f x y))) := by
  rw [List.drop_drop, List.getElem?_drop, List.getElem?_map, show x * 8 + y + 0 = x * 8 + y by omega, mat_get f hx hy]; rfl
end Go.Proofs.Ytagdholenfkeaaa

/- The program: the steps of a plate. -/
namespace Go.Proofs.Ytagdholenfkeaaa
open Go.Gh
set_option maxRecDepth 100000
set_option maxHeartbeats 4000000
structure kVh1 (c : Prop) : Prop where
  h : c := by (first | exact True.intro | omega | (simp only [List.length_map, List.length_drop, mat_len, inI]; omega) | (simp only [inI]; omega) | (simp [P.size, pr, pk, all_int, allOne_p, goods_p, allOne, goods, good, G.one, P.one, P.cells] <;> first | omega | assumption | simp_all))
theorem ent59 : Enters Try.prog 59 := Enters.mk Try.func59 (by kernel_rfl) rfl
theorem s_of {E : Env Try.prog} {A : E.α} (f : Mx) (x w : Nat) (hx : x < 8) (hw : w < 8) : Gh.Spec E 59 [.ptr ((mat (f)).map G.p), .p (.int .i64 (x : Nat)), .p (.int .i64 (w : Nat))] (mkHp []) A (fun y => y = .ok (.p (.int .i64 (f x w))) (mkHp []) A) := by
  refine spec_of Try.func59 (rfl : Try.f59.body = some _) (Nat.le_of_ble_eq_true rfl) (fun id h => ?_) (fun j id h => ?_) ?_
  · exact wf1x h
  · exact wf2x h
  intro C hN hL
  replace hN : C.N = 14 := hN
  simp only [Gh.num, List.map_cons, List.map_nil, Nat.reduceAdd]
  have hg := drop_get f hx hw
  repeat refine gwp_seq ?_
  refine gwp_region ?_
  refine v0 (k := ?_)
  refine nil0 ?_
  refine cl [0, 1, 2] (k := ?_)
  repeat refine gwp_seq ?_
  refine gwp_region ?_
  refine v0 (k := ?_)
  refine v0 (k := ?_)
  refine v0 (k := ?_)
  refine v0 (k := ?_)
  refine v1 (hc := kVh1.h {}) (k := ?_)
  refine v1 (hc := kVh1.h {}) (k := ?_)
  refine v0 (k := ?_)
  refine v0 (k := ?_)
  refine nil0 ?_
  repeat refine gwp_seq ?_
  refine gwp_ret ?_
  repeat (first | refine gthen_ret ?_ | refine gblock_ret ?_ | refine gnoGoto_ret ?_)
  refine fin_ret ?_
  refine fp (hR := ?_)
  rfl
theorem ent135 : Enters Try.prog 135 := Enters.mk Try.func135 (by kernel_rfl) rfl
theorem s_to_least {E : Env Try.prog} {A : E.α} (f : Mx) (a b : Nat) (ha : a < 8) (hb : b < 8) : Gh.Spec E 135 [.p (.agg [.int .i64 (a : Nat), .int .i64 (b : Nat)]), .ptr ((mat (f)).map G.p)] (mkHp []) A (fun y => y = .ok (.p (.int .i64 (f a b))) (mkHp []) A) := by
  refine spec_of Try.func135 (rfl : Try.f135.body = some _) (Nat.le_of_ble_eq_true rfl) (fun id h => ?_) (fun j id h => ?_) ?_
  · exact wf1x h
  · exact wf2x h
  intro C hN hL
  replace hN : C.N = 11 := hN
  simp only [Gh.num, List.map_cons, List.map_nil, Nat.reduceAdd]
  repeat refine gwp_seq ?_
  refine gwp_region ?_
  refine n1 120 false (hc := kVh1.h {}) (k := ?_)
  refine v0 (k := ?_)
  refine nil0 ?_
  refine cl [1, 2] (k := ?_)
  repeat refine gwp_seq ?_
  refine gwp_region ?_
  refine v0 (k := ?_)
  refine v0 (k := ?_)
  refine v0 (k := ?_)
  refine v0 (k := ?_)
  refine v0 (k := ?_)
  refine oc0 [] [] [0, 0, 0] none (spec := s_of f a b ha hb) (hent := ent59) (k := ?_)
  refine v0 (k := ?_)
  refine nil0 ?_
  repeat refine gwp_seq ?_
  refine gwp_ret ?_
  repeat (first | refine gthen_ret ?_ | refine gblock_ret ?_ | refine gnoGoto_ret ?_)
  refine fin_ret ?_
  refine fp (hR := ?_)
  rfl
theorem ent137 : Enters Try.prog 137 := Enters.mk Try.func137 (by kernel_rfl) rfl
theorem s_end_least {E : Env Try.prog} {A : E.α} (f : Mx) (a : Nat) : Gh.Spec E 137 [.p (.agg [.int .i64 (a : Nat)]), .ptr ((mat (f)).map G.p)] (mkHp []) A (fun y => y = .ok (.p (.int .i64 0)) (mkHp []) A) := by
  refine spec_of Try.func137 (rfl : Try.f137.body = some _) (Nat.le_of_ble_eq_true rfl) (fun id h => ?_) (fun j id h => ?_) ?_
  · exact wf1x h
  · exact wf2x h
  intro C hN hL
  replace hN : C.N = 5 := hN
  simp only [Gh.num, List.map_cons, List.map_nil, Nat.reduceAdd]
  repeat refine gwp_seq ?_
  refine gwp_region ?_
  refine n1 120 false (hc := kVh1.h {}) (k := ?_)
  refine v0 (k := ?_)
  refine nil0 ?_
  refine cl [] (k := ?_)
  repeat refine gwp_seq ?_
  refine gwp_region ?_
  refine v0 (k := ?_)
  refine nil0 ?_
  repeat refine gwp_seq ?_
  refine gwp_ret ?_
  repeat (first | refine gthen_ret ?_ | refine gblock_ret ?_ | refine gnoGoto_ret ?_)
  refine fin_ret ?_
  refine fh [] (hR := ?_)
  rfl
theorem ent134 : Enters Try.prog 134 := Enters.mk Try.func134 (by kernel_rfl) rfl
theorem s_to_by {E : Env Try.prog} {A : E.α} (f : Mx) (hf : MOk f) (a b u : Nat) (ha : a < 8) (hb : b < 8) (hu : u < 8) : Gh.Spec E 134 [.p (.agg [.int .i64 (a : Nat), .int .i64 (b : Nat)]), .ptr ((mat (f)).map G.p), .p (.int .i64 (u : Nat))] (mkHp []) A (fun y => y = .ok (.p (.int .i64 (f a u + f u b))) (mkHp []) A) := by
  refine spec_of Try.func134 (rfl : Try.f134.body = some _) (Nat.le_of_ble_eq_true rfl) (fun id h => ?_) (fun j id h => ?_) ?_
  · exact wf1x h
  · exact wf2x h
  intro C hN hL
  replace hN : C.N = 18 := hN
  simp only [Gh.num, List.map_cons, List.map_nil, Nat.reduceAdd]
  have h1 := hf.le a u
  have h2 := hf.le u b
  have h3 := hf.nn a u
  have h4 := hf.nn u b
  simp only [NEV] at h1 h2
  repeat refine gwp_seq ?_
  refine gwp_region ?_
  refine n1 130 false (hc := kVh1.h {}) (k := ?_)
  refine v0 (k := ?_)
  refine nil0 ?_
  refine cl [1, 2, 3] (k := ?_)
  repeat refine gwp_seq ?_
  refine rd ?_
  refine d0 0 (k := ?_)
  refine d0 1 (k := ?_)
  refine d0 2 (k := ?_)
  refine d0 3 (k := ?_)
  refine doc0 4 [] [] [0, 0, 0] none (spec := s_of f a u ha hu) (hent := ent59) (k := ?_)
  refine d0 5 (k := ?_)
  refine d0 6 (k := ?_)
  refine d0 7 (k := ?_)
  refine d0 8 (k := ?_)
  refine doc0 9 [] [] [0, 0, 0] none (spec := s_of f u b hu hb) (hent := ent59) (k := ?_)
  refine d1 10 (hc := kVh1.h {}) (k := ?_)
  refine d0 11 (k := ?_)
  refine dz 12 [0, 0, 2, 0, 15, 0, 0, 0, 128, 511, 1023, 2047] (h := ?_)
  refine de 12 (h := ?_)
  repeat refine gwp_seq ?_
  refine gwp_ret ?_
  repeat (first | refine gthen_ret ?_ | refine gblock_ret ?_ | refine gnoGoto_ret ?_)
  refine fin_ret ?_
  refine fp (hR := ?_)
  rfl
theorem ent136 : Enters Try.prog 136 := Enters.mk Try.func136 (by kernel_rfl) rfl
theorem s_end_by {E : Env Try.prog} {A : E.α} (f : Mx) (a u : Nat) (ha : a < 8) (hu : u < 8) : Gh.Spec E 136 [.p (.agg [.int .i64 (a : Nat)]), .ptr ((mat (f)).map G.p), .p (.int .i64 (u : Nat))] (mkHp []) A (fun y => y = .ok (.p (.int .i64 (f a u))) (mkHp []) A) := by
  refine spec_of Try.func136 (rfl : Try.f136.body = some _) (Nat.le_of_ble_eq_true rfl) (fun id h => ?_) (fun j id h => ?_) ?_
  · exact wf1x h
  · exact wf2x h
  intro C hN hL
  replace hN : C.N = 12 := hN
  simp only [Gh.num, List.map_cons, List.map_nil, Nat.reduceAdd]
  repeat refine gwp_seq ?_
  refine gwp_region ?_
  refine n1 130 false (hc := kVh1.h {}) (k := ?_)
  refine v0 (k := ?_)
  refine nil0 ?_
  refine cl [1, 2, 3] (k := ?_)
  repeat refine gwp_seq ?_
  refine gwp_region ?_
  refine v0 (k := ?_)
  refine v0 (k := ?_)
  refine v0 (k := ?_)
  refine v0 (k := ?_)
  refine oc0 [] [] [0, 0, 0] none (spec := s_of f a u ha hu) (hent := ent59) (k := ?_)
  refine v0 (k := ?_)
  refine nil0 ?_
  repeat refine gwp_seq ?_
  refine gwp_ret ?_
  repeat (first | refine gthen_ret ?_ | refine gblock_ret ?_ | refine gnoGoto_ret ?_)
  refine fin_ret ?_
  refine fp (hR := ?_)
  rfl
theorem ent83 : Enters Try.prog 83 := Enters.mk Try.func83 (by kernel_rfl) rfl
theorem s_with (s : Nat) (l : List Nat) (hs : s < 256) (hl : ∀ x ∈ l, x < 8) (hll : l.length ≤ 1000) : PSpec Try.prog 83 [.int .u64 (s : Nat), .list (l.map fun x : Nat => .int .i64 (x : Nat))] (.ok (.int .u64 (withN s l : Nat))) := by
  refine pspec_of Try.func83 (rfl : Try.f83.body = some _) rfl ?_
  intro E A C hN hL
  replace hN : C.N = 19 := hN
  simp only [Gh.num, List.map_cons, List.map_nil, Nat.reduceAdd]
  repeat refine gwp_seq ?_
  refine gwp_region ?_
  refine v0 (k := ?_)
  refine nil0 ?_
  refine cl [0, 1] (k := ?_)
  repeat refine gwp_seq ?_
  refine gwp_region ?_
  refine v0 (k := ?_)
  refine v0 (k := ?_)
  refine v0 (k := ?_)
  refine nil0 ?_
  refine cl [0, 7, 8, 9] (k := ?_)
  repeat refine gwp_seq ?_
  refine gwp_block ?_
  repeat refine gwp_seq ?_
  refine gc_loop (fun mz σ => ∃ k : Nat, (k ≤ l.length) ∧ mz = l.length - k ∧ σ = (sg [(0, .p (.int .u64 (withN s (l.take k) : Nat))), (7, .p (.list (l.map fun x : Nat => .int .i64 (x : Nat)))), (8, .p (.int .i64 (l.length : Nat))), (9, .p (.int .i64 (k : Nat)))] [] A [] : Sg E)) ?_ (fun mz σ hI => ?_)
  · refine lbeg [0, 7, 8, 9] (hV := ?_)
    exact ⟨_, 0, by omega, rfl, rfl⟩
  obtain ⟨k, hk, hn, rfl⟩ := hI
  repeat refine gwp_seq ?_
  refine gwp_region ?_
  refine v0 (k := ?_)
  refine nil0 ?_
  repeat refine gwp_seq ?_
  refine cB (k1 := fun hb1 => ?_) (k0 := fun hb1 => ?_)
  · replace hb1 := hB.h {} hb1
    repeat refine gwp_seq ?_
    refine gwp_skip ?_
    refine cl [0, 7, 8, 9] (k := ?_)
    repeat refine gwp_seq ?_
    refine gwp_block ?_
    repeat refine gwp_seq ?_
    obtain ⟨x, hx⟩ := getE (l := l) (k := k) (by omega)
    have hx8 := hl x (List.mem_of_getElem? hx)
    have hw8 := withN_lt (l := l.take k) hs (fun y hy => hl y (List.mem_of_mem_take hy))
    refine gwp_region ?_
    refine v1 (hc := kVh1.h {}) (k := ?_)
    refine v0 (k := ?_)
    refine v0 (k := ?_)
    refine nil0 ?_
    refine cl [0, 6, 7, 8, 9] (k := ?_)
    repeat refine gwp_seq ?_
    refine gwp_region ?_
    refine v0 (k := ?_)
    refine v0 (k := ?_)
    refine v1 (hc := kVh1.h {}) (k := ?_)
    refine v0 (k := ?_)
    refine v0 (k := ?_)
    refine nil0 ?_
    refine cl [0, 7, 8, 9] (k := ?_)
    repeat refine gwp_seq ?_
    refine gwp_region ?_
    refine v1 (hc := kVh1.h {}) (k := ?_)
    refine v0 (k := ?_)
    refine nil0 ?_
    refine lend [0, 7, 8, 9] (h := ?_) (hV := ?_) (n' := l.length - (k + 1))
    · omega
    exact ⟨k + 1, by omega, rfl, sgE (by rw [withN_snoc hx, ← with_or hw8 hx8]; rfl) rfl⟩
  · replace hb1 := hB.h {} hb1
    repeat refine gwp_seq ?_
    refine gwp_exit ?_
    repeat (first | refine gthen_exit ?_ | refine gnoGoto_exit ?_ | refine gblock_here ?_ | refine gblock_out rfl ?_)
    refine cl [0] (k := ?_)
    repeat refine gwp_seq ?_
    refine gwp_region ?_
    refine v0 (k := ?_)
    refine v0 (k := ?_)
    refine nil0 ?_
    repeat refine gwp_seq ?_
    refine gwp_ret ?_
    repeat (first | refine gthen_ret ?_ | refine gblock_ret ?_ | refine gnoGoto_ret ?_)
    refine fin_ret ?_
    refine fp (hR := ?_)
    obtain rfl : k = l.length := by omega
    rw [List.take_length]
    rfl
end Go.Proofs.Ytagdholenfkeaaa

/- Rules for sums that are wrapped. -/
namespace Go.Proofs.Ytagdholenfkeaaa
open Go.Gh
set_option maxRecDepth 100000
variable {E : Env Try.prog} {C : Cx E} {r : Option Nat} {ops : Array Oper} {Q : GE → Sg E → Prop} {rest lst : List Oper} {l l' : List (Nat × G)} {m : List (Nat × Ob)} {A : E.α} {df : List GD}
variable {t : Nat} {op : Op} {ty : TypeId} {pos : String} {af : Array Edge} {c : Prop} {g : G} {ob : Ob} {i j : Nat} {gd : Option (Nat × Bool)} {b x : Bool} {cd : Code} {J : List Nat}
section
variable {lo : Nat} {σ0 : Sg E} {ids ids' : List (List Nat × List Nat)}
/-- A sum or a difference, wrapped. -/
theorem dq0 (n : Nat) {bo : BinOp} {t1 t2 : TypeId} {x y : Operand} {u v z : Int} (hn : ids.length = n := by rfl) (ho : ops[lo + n]? = some ⟨some t, .binOp bo t1 x y t2, ty, pos, af, none⟩ := by rfl)
    (hx : gev (mkFr l) x = .p (.int .i64 u) := by (simp only [gev, ofV, mkFr_cons, Nat.reduceEqDiff, reduceIte] <;> rfl)) (hy : gev (mkFr l) y = .p (.int .i64 v) := by (simp only [gev, ofV, mkFr_cons, Nat.reduceEqDiff, reduceIte] <;> rfl)) (hb : (bo = .add ∧ z = u + v) ∨ (bo = .sub ∧ z = u - v) := by first | exact .inl ⟨rfl, rfl⟩ | exact .inr ⟨rfl, rfl⟩)
    (hd : mkHp m 99999 = .none := by (simp only [mkHp_cons, mkHp_nil, Nat.reduceEqDiff, reduceIte])) (ht : t < C.N := by omega)
    (hids : ids ++ [([99999], [])] = ids' := by (simp only [List.cons_append, List.nil_append] <;> rfl)) (k : segK C r ops (GPost C Q) lo σ0 ids' (sg ((t, .p (.int .i64 (IntKind.i64.wrap z))) :: l) m A df)) : segK C r ops (GPost C Q) lo σ0 ids (sg l m A df) :=
  segK.step (pi := []) hn ho (eff_wrap rfl hb (gwant_plain rfl) hx hy hd (by have := C.limOk; omega) (fun t' e => by cases e; exact ht)) rfl (by rw [hids]; exact k)
theorem dqw (n : Nat) {b' : Bool} {bo : BinOp} {t1 t2 : TypeId} {x y : Operand} {u v z : Int} (hn : ids.length = n := by rfl) (ho : ops[lo + n]? = some ⟨some t, .binOp bo t1 x y t2, ty, pos, af, some (j, b)⟩ := by rfl) (hj : (ops[j]?).bind (·.dst) = some i := by rfl) (hg : mkFr l i = .p (.bool b') := by (simp only [mkFr_cons, Nat.reduceEqDiff, reduceIte] <;> rfl)) (hbb : (b' == b) = true := by rfl)
    (hx : gev (mkFr l) x = .p (.int .i64 u) := by (simp only [gev, ofV, mkFr_cons, Nat.reduceEqDiff, reduceIte] <;> rfl)) (hy : gev (mkFr l) y = .p (.int .i64 v) := by (simp only [gev, ofV, mkFr_cons, Nat.reduceEqDiff, reduceIte] <;> rfl)) (hb : (bo = .add ∧ z = u + v) ∨ (bo = .sub ∧ z = u - v) := by first | exact .inl ⟨rfl, rfl⟩ | exact .inr ⟨rfl, rfl⟩)
    (hd : mkHp m 99999 = .none := by (simp only [mkHp_cons, mkHp_nil, Nat.reduceEqDiff, reduceIte])) (ht : t < C.N := by omega)
    (hids : ids ++ [([99999], [])] = ids' := by (simp only [List.cons_append, List.nil_append] <;> rfl)) (k : segK C r ops (GPost C Q) lo σ0 ids' (sg ((t, .p (.int .i64 (IntKind.i64.wrap z))) :: l) m A df)) : segK C r ops (GPost C Q) lo σ0 ids (sg l m A df) :=
  segK.step (pi := []) hn ho (eff_wrap rfl hb ((gwant_at rfl hj hg).trans (by rw [hbb])) hx hy hd (by have := C.limOk; omega) (fun t' e => by cases e; exact ht)) rfl (by rw [hids]; exact k)
end
end Go.Proofs.Ytagdholenfkeaaa

/- More rules of written-out states: a region's ways brought together; objects that hold slices of the call's own. -/
namespace Go.Proofs.Ytagdholenfkeaaa
open Go.Gh
set_option maxRecDepth 100000
structure eF1 {α : Type} (a b : α) : Prop where
  h : a = b := by (simp only [reach, frIds, dfIds, gdIdl, obIdl, hpIds, restrictL, dedupL, pickL, subB, G.idl, G.idls, idls_p, List.nil_append, List.append_nil, List.cons_append, mkHp_cons, mkHp_nil, Nat.reduceEqDiff, reduceIte, List.mem_cons, List.not_mem_nil, or_false, or_true, true_or, false_or, List.filter_cons, List.filter_nil, ne_eq, not_true_eq_false, not_false_eq_true, decide_true, decide_false, Bool.false_eq_true, List.all_cons, List.all_nil, Bool.and_true, idls_told, idls_nil1] <;> rfl)
structure eF2 {α : Type} (a b : α) : Prop where
  h : a = b := by (simp only [frIds, dfIds, gdIdl, obIdl, hpIds, restrictL, dedupL, pickL, subB, G.idl, G.idls, idls_p, List.nil_append, List.append_nil, List.cons_append, mkHp_cons, mkHp_nil, Nat.reduceEqDiff, reduceIte, List.mem_cons, List.not_mem_nil, or_false, or_true, true_or, false_or, List.filter_cons, List.filter_nil, ne_eq, not_true_eq_false, not_false_eq_true, decide_true, decide_false, Bool.false_eq_true, List.all_cons, List.all_nil, Bool.and_true, idls_told, idls_nil1] <;> rfl)
variable {E : Env Try.prog} {C : Cx E} {r : Option Nat} {ops : Array Oper} {Q : GE → Sg E → Prop} {rest lst : List Oper} {l l' : List (Nat × G)} {m : List (Nat × Ob)} {A : E.α} {df : List GD} {c : Prop} {g : G} {cd : Code}
theorem lcut (vs : List Nat) {m' : List (Nat × Ob)} {I : List Nat} (hl : (vs.map fun v => (v, mkFr l v)) = l' := by (simp only [List.map_cons, List.map_nil, mkFr_cons, mkFr_nil, Nat.reduceEqDiff, reduceIte] <;> rfl)) (hI : reach l' m df = I := by exact eF1.h {}) (hm : restrictL I m = m' := by exact eF2.h {}) (h1 : subB (frIds l') I = true := by exact eF2.h {}) (h2 : subB (dfIds df) I = true := by exact eF2.h {}) (h3 : subB (hpIds m I) I = true := by exact eF2.h {}) : gthen (fun σ' => Le C σ' (sg l' m' A df)) Q .normal (sg l m A df : Sg E) := le_clean2 vs hl hm h1 h2 h3
theorem lce (vs : List Nat) {m' : List (Nat × Ob)} {I : List Nat} (hl : (vs.map fun v => (v, mkFr l v)) = l' := by (simp only [List.map_cons, List.map_nil, mkFr_cons, mkFr_nil, Nat.reduceEqDiff, reduceIte] <;> rfl)) (hI : reach l' m df = I := by exact eF1.h {}) (hm : restrictL I m = m' := by exact eF2.h {}) (h1 : subB (frIds l') I = true := by exact eF2.h {}) (h2 : subB (dfIds df) I = true := by exact eF2.h {}) (h3 : subB (hpIds m I) I = true := by exact eF2.h {}) : Le C (sg l m A df : Sg E) (sg l' m' A df) := le_clean2 vs hl hm h1 h2 h3
theorem clx (vs : List Nat) {m' : List (Nat × Ob)} {I : List Nat} (hl : (vs.map fun v => (v, mkFr l v)) = l' := by (simp only [List.map_cons, List.map_nil, mkFr_cons, mkFr_nil, Nat.reduceEqDiff, reduceIte] <;> rfl)) (hI : reach l' m df = I := by exact eF1.h {}) (hm : restrictL I m = m' := by exact eF2.h {}) (h1 : subB (frIds l') I = true := by exact eF2.h {}) (h2 : subB (dfIds df) I = true := by exact eF2.h {}) (h3 : subB (hpIds m I) I = true := by exact eF2.h {}) (k : gwp C r cd Q (sg l' m' A df)) : gwp C r cd Q (sg l m A df) := gc_clean2 vs hl hm h1 h2 h3 k
theorem lendx (vs : List Nat) {m' : List (Nat × Ob)} {n n' : Nat} {IV : Nat → Sg E → Prop} {I : List Nat} (hl : (vs.map fun v => (v, mkFr l v)) = l' := by (simp only [List.map_cons, List.map_nil, mkFr_cons, mkFr_nil, Nat.reduceEqDiff, reduceIte] <;> rfl)) (hI : reach l' m df = I := by exact eF1.h {}) (hm : restrictL I m = m' := by exact eF2.h {}) (h1 : subB (frIds l') I = true := by exact eF2.h {}) (h2 : subB (dfIds df) I = true := by exact eF2.h {}) (h3 : subB (hpIds m I) I = true := by exact eF2.h {}) (h : n' < n) (hV : IV n' (sg l' m' A df)) :
    gthen (fun σ' => ∃ n' σ'', n' < n ∧ Le C σ' σ'' ∧ IV n' σ'') Q .normal (sg l m A df : Sg E) := ⟨n', _, h, le_clean2 vs hl hm h1 h2 h3, hV⟩
theorem lbegx (vs : List Nat) {m' : List (Nat × Ob)} {IV : Nat → Sg E → Prop} {I : List Nat} (hl : (vs.map fun v => (v, mkFr l v)) = l' := by (simp only [List.map_cons, List.map_nil, mkFr_cons, mkFr_nil, Nat.reduceEqDiff, reduceIte] <;> rfl)) (hI : reach l' m df = I := by exact eF1.h {}) (hm : restrictL I m = m' := by exact eF2.h {}) (h1 : subB (frIds l') I = true := by exact eF2.h {}) (h2 : subB (dfIds df) I = true := by exact eF2.h {}) (h3 : subB (hpIds m I) I = true := by exact eF2.h {}) (hV : ∃ n, IV n (sg l' m' A df)) :
    ∃ n σ'', Le C (sg l m A df : Sg E) σ'' ∧ IV n σ'' := by
  obtain ⟨n, hV⟩ := hV
  exact ⟨n, _, le_clean2 vs hl hm h1 h2 h3, hV⟩
end Go.Proofs.Ytagdholenfkeaaa

/- A rule of written-out states: leaving with a value that nobody turns, and objects. -/
namespace Go.Proofs.Ytagdholenfkeaaa
open Go.Gh
set_option maxRecDepth 100000
structure eG1 {α : Type} (a b : α) : Prop where
  h : a = b := by (simp only [gresult, gresL, gres1, tup_nil, tup_one, tup_two, gsem, gev, ofV, mkFr_cons, mkFr_nil, mkHp_cons, mkHp_nil, upd, yes, lift, gbinAt, gnilEq, gbin, gint, gshift, arith, gpick, gload, gstore, splice, gbox, gfill, placesL, gbuildSlice, gfieldAddr, gfield, gelem, gindexAddr, gindex, gbound, gslice, glen, gsource, gappend, gmin, gminL, gmax, gmaxL, mapGet, mapPut, zeroG, orZero, glookup, gmapUpdate, gconvert, gtypeAssert, gextract, isConst, gnilCheck, gunOp, gmakeSlice, intOf, mkAgg, mkFn, mkIface, mkTuple, allP, G.cells, good, goods, allOne, G.one, P.one, allP_p, allOne_p, goods_p, toPs_p, all_int, take_all, isAggD, isIfaceD, toP, toPs, P.size, P.cells, List.map_cons, List.map_nil, List.take_succ_cons, List.take_zero, List.drop_succ_cons, List.drop_zero, List.take_nil, List.drop_nil, List.cons_append, List.nil_append, List.append_nil, List.length_cons, List.length_nil, List.getElem?_cons_zero, List.getElem?_cons_succ, List.getElem?_nil, List.set_cons_zero, List.set_cons_succ, List.flatMap_cons, List.flatMap_nil, List.getElem?_toArray, List.getElem?_map, List.length_map, Option.map_some, Option.map_none, Nat.mul_one, List.length_set, set_map_p, set_map_int, Nat.reduceEqDiff, Nat.reduceAdd, Nat.reduceMul, Nat.reduceSub, Nat.reduceLeDiff, Nat.add_zero, Nat.zero_add, Int.toNat_natCast, Int.reduceToNat, reduceIte, reduceCtorEq, eq_self, if_true, if_false, and_true, true_and, true_or, or_true, or_false, false_or, Bool.false_eq_true, ne_eq, not_true_eq_false, not_false_eq_true, cond_true, cond_false, Bool.and_true, Bool.true_and, Bool.and_false, Bool.false_and, Bool.or_true, Bool.true_or, Bool.or_false, Bool.false_or, Bool.not_true, Bool.not_false, ti_1, ti_3, ti_4, ti_5, ti_9, ti_20, ti_22, ti_23, ti_25, ti_28, ti_32, ti_41, ti_44, ti_47, ti_49, ti_50, ti_52, ti_55, ti_57, ti_61, ti_62, ti_65, ti_66, ti_68, ti_69, ti_70, ti_74, ti_75, ti_77, ti_78, ti_81, ti_89, ti_92, ti_96, ti_100, ti_101, ti_102, ti_103, ti_105, ti_108, ti_113, ti_115, ti_116, ti_117, ti_118, ti_122, ti_124, ti_126, ti_128, ti_132, ti_133, ti_138, ti_140] <;> rfl)
structure eG2 {α : Type} (a b : α) : Prop where
  h : a = b := by (simp only [frIds, dfIds, gdIdl, obIdl, hpIds, restrictL, dedupL, pickL, subB, G.idl, G.idls, idls_p, List.nil_append, List.append_nil, List.cons_append, mkHp_cons, mkHp_nil, Nat.reduceEqDiff, reduceIte, List.mem_cons, List.not_mem_nil, or_false, or_true, true_or, false_or, List.filter_cons, List.filter_nil, ne_eq, not_true_eq_false, not_false_eq_true, decide_true, decide_false, Bool.false_eq_true, List.all_cons, List.all_nil, Bool.and_true] <;> rfl)
variable {E : Env Try.prog} {l : List (Nat × G)} {m : List (Nat × Ob)} {A : E.α} {g : G}
theorem fk2 (I : List Nat) {fn : Func} {R : GRes E → Prop} {d d' : Prop} {v : P} {m' : List (Nat × Ob)} {x1 x2 : ResultVar} (hrs : fn.results.toList = [x1, x2] := by rfl) (hg : gresult Try.prog (mkHp m) (mkFr l) [x1, x2] = some (d, g) := by exact eG1.h {})
    (hp : toP (mkHp m) g = some (d', v) := by (simp only [toP, toPs, mkHp_cons, mkHp_nil, Nat.reduceEqDiff, reduceIte, and_true, true_and] <;> rfl)) (hm : restrictL I m = m' := by exact eG2.h {}) (h3 : subB (hpIds m I) I = true := by exact eG2.h {}) (hne : ∀ i ∈ I, mkHp m i ≠ .none := by simp [mkHp_cons, mkHp_nil])
    (hR : R (.ok (.p v) (mkHp m') A)) (hd : d := by simp) (hd' : d' := by simp) : Fin Try.prog fn R (sg l m A []) := fin_pk (by rw [hrs]; exact hg) hd hp hd' hm h3 hne hR
end Go.Proofs.Ytagdholenfkeaaa

/- Rules of written-out states: copy; leaving with a value that nobody turns, and objects. -/
namespace Go.Proofs.Ytagdholenfkeaaa
open Go.Gh
set_option maxRecDepth 100000
structure eI1 {α : Type} (a b : α) : Prop where
  h : a = b := by (simp only [gresult, gresL, gres1, tup_nil, tup_one, tup_two, gsem, gev, ofV, mkFr_cons, mkFr_nil, mkHp_cons, mkHp_nil, upd, yes, lift, gbinAt, gnilEq, gbin, gint, gshift, arith, gpick, gload, gstore, splice, gbox, gfill, placesL, gbuildSlice, gfieldAddr, gfield, gelem, gindexAddr, gindex, gbound, gslice, glen, gsource, gappend, gmin, gminL, gmax, gmaxL, mapGet, mapPut, zeroG, orZero, glookup, gmapUpdate, gconvert, gtypeAssert, gextract, isConst, gnilCheck, gunOp, gmakeSlice, intOf, mkAgg, mkFn, mkIface, mkTuple, allP, G.cells, good, goods, allOne, G.one, P.one, allP_p, allOne_p, goods_p, toPs_p, all_int, take_all, isAggD, isIfaceD, toP, toPs, P.size, P.cells, List.map_cons, List.map_nil, List.take_succ_cons, List.take_zero, List.drop_succ_cons, List.drop_zero, List.take_nil, List.drop_nil, List.cons_append, List.nil_append, List.append_nil, List.length_cons, List.length_nil, List.getElem?_cons_zero, List.getElem?_cons_succ, List.getElem?_nil, List.set_cons_zero, List.set_cons_succ, List.flatMap_cons, List.flatMap_nil, List.getElem?_toArray, List.getElem?_map, List.length_map, Option.map_some, Option.map_none, Nat.mul_one, List.length_set, set_map_p, set_map_int, Nat.reduceEqDiff, Nat.reduceAdd, Nat.reduceMul, Nat.reduceSub, Nat.reduceLeDiff, Nat.add_zero, Nat.zero_add, Int.toNat_natCast, Int.reduceToNat, reduceIte, reduceCtorEq, eq_self, if_true, if_false, and_true, true_and, true_or, or_true, or_false, false_or, Bool.false_eq_true, ne_eq, not_true_eq_false, not_false_eq_true, cond_true, cond_false, Bool.and_true, Bool.true_and, Bool.and_false, Bool.false_and, Bool.or_true, Bool.true_or, Bool.or_false, Bool.false_or, Bool.not_true, Bool.not_false, ti_1, ti_3, ti_4, ti_5, ti_9, ti_20, ti_22, ti_23, ti_25, ti_28, ti_32, ti_41, ti_44, ti_47, ti_49, ti_50, ti_52, ti_55, ti_57, ti_61, ti_62, ti_65, ti_66, ti_68, ti_69, ti_70, ti_74, ti_75, ti_77, ti_78, ti_81, ti_89, ti_92, ti_96, ti_100, ti_101, ti_102, ti_103, ti_105, ti_108, ti_113, ti_115, ti_116, ti_117, ti_118, ti_122, ti_124, ti_126, ti_128, ti_132, ti_133, ti_138, ti_140] <;> rfl)
structure eI2 {α : Type} (a b : α) : Prop where
  h : a = b := by (simp only [frIds, dfIds, gdIdl, obIdl, hpIds, restrictL, dedupL, pickL, subB, G.idl, G.idls, idls_p, List.nil_append, List.append_nil, List.cons_append, mkHp_cons, mkHp_nil, Nat.reduceEqDiff, reduceIte, List.mem_cons, List.not_mem_nil, or_false, or_true, true_or, false_or, List.filter_cons, List.filter_nil, ne_eq, not_true_eq_false, not_false_eq_true, decide_true, decide_false, Bool.false_eq_true, List.all_cons, List.all_nil, Bool.and_true] <;> rfl)
structure eI3 {α : Type} (a b : α) : Prop where
  h : a = b := by (simp only [ti_1, ti_3, ti_4, ti_5, ti_9, ti_20, ti_22, ti_23, ti_25, ti_28, ti_32, ti_41, ti_44, ti_47, ti_49, ti_50, ti_52, ti_55, ti_57, ti_61, ti_62, ti_65, ti_66, ti_68, ti_69, ti_70, ti_74, ti_75, ti_77, ti_78, ti_81, ti_89, ti_92, ti_96, ti_100, ti_101, ti_102, ti_103, ti_105, ti_108, ti_113, ti_115, ti_116, ti_117, ti_118, ti_122, ti_124, ti_126, ti_128, ti_132, ti_133, ti_138, ti_140] <;> rfl)
variable {E : Env Try.prog} {C : Cx E} {r : Option Nat} {ops : Array Oper} {Q : GE → Sg E → Prop} {rest lst : List Oper} {l : List (Nat × G)} {m : List (Nat × Ob)} {A : E.α} {df : List GD} {g : G}
theorem fk1 (I : List Nat) {fn : Func} {R : GRes E → Prop} {d d' : Prop} {v : P} {m' : List (Nat × Ob)} {x1 : ResultVar} (hrs : fn.results.toList = [x1] := by rfl) (hg : gresult Try.prog (mkHp m) (mkFr l) [x1] = some (d, g) := by exact eI1.h {})
    (hp : toP (mkHp m) g = some (d', v) := by (simp only [toP, toPs, mkHp_cons, mkHp_nil, Nat.reduceEqDiff, reduceIte, and_true, true_and] <;> rfl)) (hm : restrictL I m = m' := by exact eI2.h {}) (h3 : subB (hpIds m I) I = true := by exact eI2.h {}) (hne : ∀ i ∈ I, mkHp m i ≠ .none := by simp [mkHp_cons, mkHp_nil])
    (hR : R (.ok (.p v) (mkHp m') A)) (hd : d := by simp) (hd' : d' := by simp) : Fin Try.prog fn R (sg l m A []) := fin_pk (by rw [hrs]; exact hg) hd hp hd' hm h3 hne hR
theorem cp0 {ty tt t2 e : TypeId} {i j : TI} {x z : Operand} {t : Nat} {pos : String} {af : Array Edge} {id off len fz : Nat} {cs : List G} {ps : List P}
    (hi : ti Try.prog tt = some i := by exact eI3.h {}) (hd : i.desc = .slice e := by rfl) (hj : ti Try.prog e = some j := by exact eI3.h {}) (hsz : j.size = 1 := by rfl) (hx : gev (mkFr l) x = .fsl id off len := by (simp only [gev, mkFr_cons, Nat.reduceEqDiff, reduceIte] <;> rfl)) (ho : mkHp m id = .cells cs fz := by (simp only [mkHp_cons, mkHp_nil, Nat.reduceEqDiff, reduceIte] <;> rfl)) (hz : gev (mkFr l) z = .p (.list ps) := by (simp only [gev, mkFr_cons, Nat.reduceEqDiff, reduceIte] <;> rfl)) (hle : ps.length ≤ len) (hfit : off + ps.length ≤ cs.length) (hf : fz ≤ off := by omega) (h1 : ∀ p ∈ ps, p.one = true) (ht : t < C.N := by omega)
    (k : gops C r ops Q rest (sg ((t, .p (.int .i64 ps.length)) :: l) ((id, .cells (splice cs off (ps.map .p)) fz) :: m) A df)) : gops C r ops Q (⟨some t, .call ⟨.builtin .copy, #[x, z], #[tt, t2]⟩, ty, pos, af, none⟩ :: rest) (sg l m A df) :=
  go_copy hi hd hj hsz hx ho hz hle hfit hf h1 ht k
end Go.Proofs.Ytagdholenfkeaaa

/- The program: the first shortest way. -/
namespace Go.Proofs.Ytagdholenfkeaaa
open Go.Gh
set_option maxRecDepth 100000
set_option maxHeartbeats 4000000
structure kVr1 (c : Prop) : Prop where
  h : c := by (first | exact True.intro | exact keys_pair PK_nil | exact keys_pair hpk | exact ⟨trivial, keys_pair hpk⟩ | exact ⟨trivial, keys_pair PK_nil⟩ | exact ⟨rfl, keys_pair PK_nil⟩ | omega | (simp only [intL_len, inI]; omega) | (simp only [inI]; omega) | (simp [P.size, pr, pk, all_int, allOne_p, goods_p, allOne, goods, good, G.one, P.one, P.cells] <;> first | omega | assumption | simp_all))
theorem und118 : Try.prog.underlying 118 = some (.array 2 70) := by kernel_rfl
theorem und70 : Try.prog.underlying 70 = some (.int .i64) := by kernel_rfl
theorem geq_int70 (d : Nat) (a c : Int) : geq Try.prog (d + 1) 70 (.int .i64 a) (.int .i64 c) = some (decide (a = c)) := by
  unfold geq
  rw [und70]
  rfl
theorem geq_key (d : Nat) (a b c e : Int) : geq Try.prog (d + 2) 118 (.agg [.int .i64 a, .int .i64 b]) (.agg [.int .i64 c, .int .i64 e]) = some (decide (a = c) && (decide (b = e) && true)) := by
  unfold geq
  rw [und118]
  simp only [ti_70]
  have p0 : ∀ u v : Int, ppart Try.prog 70 [.int .i64 u, .int .i64 v] 0 = some (.int .i64 u) := fun u v => by unfold ppart; rw [ti_70]; rfl
  have p1 : ∀ u v : Int, ppart Try.prog 70 [.int .i64 u, .int .i64 v] 1 = some (.int .i64 v) := fun u v => by unfold ppart; rw [ti_70]; rfl
  rw [show List.range 2 = [0, 1] from rfl]
  simp only [List.map_cons, List.map_nil, Nat.zero_mul, Nat.one_mul, p0, p1, geq_int70]
  rfl
/-- All keys are pairs. -/
def PK (es : List (P × P)) : Prop := ∀ x ∈ es, ∃ a b : Int, x.1 = .agg [.int .i64 a, .int .i64 b]
theorem keys_pair {a b : Int} {es : List (P × P)} (h : PK es) : keysOk (geq Try.prog 6 118) (.agg [.int .i64 a, .int .i64 b]) es := by
  refine ⟨by rw [geq_key]; rfl, fun x hx => ?_⟩
  obtain ⟨c, e, hc⟩ := h x hx
  rw [hc, geq_key]
  refine ⟨rfl, fun hh => ?_⟩
  simp only [Option.some.injEq, Bool.and_true, Bool.and_eq_true, decide_eq_true_eq] at hh
  rw [hh.1, hh.2]
theorem PK_nil : PK [] := fun x hx => by cases hx
theorem PK_put {q : P → P → Option Bool} {a b : Int} {v : P} : ∀ {es : List (P × P)}, PK es → PK (mapPut q (.agg [.int .i64 a, .int .i64 b]) v es)
  | [], _ => fun x hx => by simp only [mapPut, List.mem_singleton] at hx; subst hx; exact ⟨a, b, rfl⟩
  | (k', v') :: es, h => fun x hx => by
    simp only [mapPut] at hx
    split at hx
    · rcases List.mem_cons.1 hx with rfl | hx
      · exact ⟨a, b, rfl⟩
      · exact h x (List.mem_cons_of_mem _ hx)
    · rcases List.mem_cons.1 hx with rfl | hx
      · exact h _ List.mem_cons_self
      · exact PK_put (fun y hy => h y (List.mem_cons_of_mem _ hy)) x hx
theorem PK_one (a b : Int) (v : P) : PK [(.agg [.int .i64 a, .int .i64 b], v)] := PK_put (q := fun _ _ => none) PK_nil
theorem ent98 : Enters Try.prog 98 := Enters.mk Try.func98 (by kernel_rfl) rfl
theorem s_on_step {E : Env Try.prog} {A : E.α} (c : Ch) (hv : c.valid = true) (b : Nat) (hb : b < 8) (n a : Nat) (ha : a < 8) (hn0 : (D (eF c.kn (-1))) a b = (n : Nat)) (ih : ∀ m k, m + 1 = n → k < 8 → (D (eF c.kn (-1))) k b = (m : Nat) → Gh.Spec E 98 [.p (.int .i64 (k : Nat)), .ptr [.ptr [.p (.int .i64 c.pl), .p (.int .i64 c.ps), .p (.list (c.kn.map pk)), .p (.list (c.rs.map pr)), .p (.int .i64 c.ms), .ptr ((mat (D (eF c.kn (-1)))).map G.p), .map 1]], .ptr [.p (.int .i64 (b : Nat))], .ref 0 0] (mkHp [(0, .cells [.fn (.func 98) [] [.ptr [.ptr [.p (.int .i64 c.pl), .p (.int .i64 c.ps), .p (.list (c.kn.map pk)), .p (.list (c.rs.map pr)), .p (.int .i64 c.ms), .ptr ((mat (D (eF c.kn (-1)))).map G.p), .map 1]], .ptr [.p (.int .i64 (b : Nat))], .ref 0 0]] 0), (1, .map [])]) A (fun y => ∃ es : List (P × P), PK es ∧ y = .ok (.p (.list (intL (pathL c.kn (D (eF c.kn (-1))) c.ps.toNat b m k)))) (mkHp [(0, .cells [.fn (.func 98) [] [.ptr [.ptr [.p (.int .i64 c.pl), .p (.int .i64 c.ps), .p (.list (c.kn.map pk)), .p (.list (c.rs.map pr)), .p (.int .i64 c.ms), .ptr ((mat (D (eF c.kn (-1)))).map G.p), .map 1]], .ptr [.p (.int .i64 (b : Nat))], .ref 0 0]] 0), (1, .map es)]) A)) : Gh.Spec E 98 [.p (.int .i64 (a : Nat)), .ptr [.ptr [.p (.int .i64 c.pl), .p (.int .i64 c.ps), .p (.list (c.kn.map pk)), .p (.list (c.rs.map pr)), .p (.int .i64 c.ms), .ptr ((mat (D (eF c.kn (-1)))).map G.p), .map 1]], .ptr [.p (.int .i64 (b : Nat))], .ref 0 0] (mkHp [(0, .cells [.fn (.func 98) [] [.ptr [.ptr [.p (.int .i64 c.pl), .p (.int .i64 c.ps), .p (.list (c.kn.map pk)), .p (.list (c.rs.map pr)), .p (.int .i64 c.ms), .ptr ((mat (D (eF c.kn (-1)))).map G.p), .map 1]], .ptr [.p (.int .i64 (b : Nat))], .ref 0 0]] 0), (1, .map [])]) A (fun y => ∃ es : List (P × P), PK es ∧ y = .ok (.p (.list (intL (pathL c.kn (D (eF c.kn (-1))) c.ps.toNat b n a)))) (mkHp [(0, .cells [.fn (.func 98) [] [.ptr [.ptr [.p (.int .i64 c.pl), .p (.int .i64 c.ps), .p (.list (c.kn.map pk)), .p (.list (c.rs.map pr)), .p (.int .i64 c.ms), .ptr ((mat (D (eF c.kn (-1)))).map G.p), .map 1]], .ptr [.p (.int .i64 (b : Nat))], .ref 0 0]] 0), (1, .map es)]) A) := by
  refine spec_of Try.func98 (rfl : Try.f98.body = some _) (Nat.le_of_ble_eq_true rfl) (fun id h => ?_) (fun j id h => ?_) ?_
  · exact wf1x h
  · exact wf2x h
  intro C hN hL
  replace hN : C.N = 82 := hN
  simp only [Gh.num, List.map_cons, List.map_nil, Nat.reduceAdd]
  have hn := valid_num hv
  have hdn := (D_ok (eF c.kn (-1))).nn
  have hdl := (D_ok (eF c.kn (-1))).le
  simp only [NEV] at hdl
  have hab := hdl a b
  repeat refine gwp_seq ?_
  refine gwp_region ?_
  refine v0 (k := ?_)
  refine nil0 ?_
  refine cl [0, 1, 2, 3] (k := ?_)
  repeat refine gwp_seq ?_
  refine rd ?_
  refine d0 0 (k := ?_)
  refine d0 1 (k := ?_)
  refine d0 2 (k := ?_)
  refine d0 3 (k := ?_)
  refine d0 4 (k := ?_)
  refine d0 5 (k := ?_)
  refine d0 6 (k := ?_)
  refine d1 7 (hc := kVr1.h {}) (k := ?_)
  refine d0 8 (k := ?_)
  refine d0 9 (k := ?_)
  refine d0 10 (k := ?_)
  refine d0 11 (k := ?_)
  refine d0 12 (k := ?_)
  refine dz 13 [0, 1, 3, 7, 0, 0, 48, 127, 255, 511, 511, 1023, 4095] (h := ?_)
  refine de 13 (h := ?_)
  refine cl [0, 1, 2, 3, 6, 7] (k := ?_)
  repeat refine gwp_seq ?_
  refine gwp_region ?_
  refine v0 (k := ?_)
  refine nil0 ?_
  repeat refine gwp_seq ?_
  refine cF (k := ?_)
  repeat refine gwp_seq ?_
  refine gwp_skip ?_
  refine cl [0, 1, 2, 3] (k := ?_)
  repeat refine gwp_seq ?_
  refine gwp_region ?_
  refine v0 (k := ?_)
  refine n1 360 false (hc := kVr1.h {}) (k := ?_)
  refine v0 (k := ?_)
  refine nil0 ?_
  refine cl [0, 1, 2, 3, 8] (k := ?_)
  repeat refine gwp_seq ?_
  refine gwp_region ?_
  refine v0 (k := ?_)
  refine v0 (k := ?_)
  refine v0 (k := ?_)
  refine v0 (k := ?_)
  refine v0 (k := ?_)
  refine v0 (k := ?_)
  refine nil0 ?_
  refine cl [0, 1, 2, 3, 8, 31, 32] (k := ?_)
  repeat refine gwp_seq ?_
  refine gwp_block ?_
  repeat refine gwp_seq ?_
  refine gc_loop (fun mz σ => ∃ k : Nat, ((k : Int) ≤ c.ps) ∧ (∀ i, i < k → nxtQ c.kn (D (eF c.kn (-1))) b a i = false) ∧ mz = c.ps.toNat - k ∧ σ = (sg [(0, .p (.int .i64 (a : Nat))), (1, .ptr [.ptr [.p (.int .i64 c.pl), .p (.int .i64 c.ps), .p (.list (c.kn.map pk)), .p (.list (c.rs.map pr)), .p (.int .i64 c.ms), .ptr ((mat (D (eF c.kn (-1)))).map G.p), .map 1]]), (2, .ptr [.p (.int .i64 (b : Nat))]), (3, .ref 0 0), (8, .own 360 1), (31, .p (.int .i64 c.ps)), (32, .p (.int .i64 (k : Nat)))] [(1, .map []), (0, .cells [.fn (.func 98) [] [.ptr [.ptr [.p (.int .i64 c.pl), .p (.int .i64 c.ps), .p (.list (c.kn.map pk)), .p (.list (c.rs.map pr)), .p (.int .i64 c.ms), .ptr ((mat (D (eF c.kn (-1)))).map G.p), .map 1]], .ptr [.p (.int .i64 (b : Nat))], .ref 0 0]] 0), (360, .arr 3 1 [.int .i64 (a : Nat)] true)] A [] : Sg E)) ?_ (fun mz σ hI => ?_)
  · refine lbeg [0, 1, 2, 3, 8, 31, 32] (hV := ?_)
    exact ⟨_, 0, by omega, fun i hi => by omega, rfl, rfl⟩
  obtain ⟨k, hk, hf, hnn, rfl⟩ := hI
  repeat refine gwp_seq ?_
  refine gwp_region ?_
  refine v0 (k := ?_)
  refine nil0 ?_
  repeat refine gwp_seq ?_
  refine cB (k1 := fun hb1 => ?_) (k0 := fun hb1 => ?_)
  · replace hb1 := hB.h {} hb1
    try rw [eqI] at hb1
    repeat refine gwp_seq ?_
    refine gwp_skip ?_
    refine cl [0, 1, 2, 3, 8, 31, 32] (k := ?_)
    repeat refine gwp_seq ?_
    refine gwp_block ?_
    repeat refine gwp_seq ?_
    refine gwp_region ?_
    refine v0 (k := ?_)
    refine v0 (k := ?_)
    refine nil0 ?_
    refine cl [0, 1, 2, 3, 8, 9, 31, 32] (k := ?_)
    repeat refine gwp_seq ?_
    have hkb := hdn k b
    have hkb2 := hdl k b
    refine rd ?_
    refine d0 0 (k := ?_)
    refine d0 1 (k := ?_)
    refine d0 2 (k := ?_)
    refine doc0 3 [] [] [6, 0, 0] none (spec := s_know (.int .i64 c.pl) (.int .i64 c.ps) c.kn (by omega) a k) (hent := ent99) (k := ?_)
    refine d0 4 (k := ?_)
    refine db0 5 39 (k1 := fun hb2 => ?_) (k0 := fun hb2 => ?_)
    · replace hb2 := hB.h {} hb2
      try rw [eqI] at hb2
      refine dw0 5 (k := ?_)
      refine dw0 6 (k := ?_)
      refine dw0 7 (k := ?_)
      refine dw0 8 (k := ?_)
      refine dw0 9 (k := ?_)
      refine dw0 10 (k := ?_)
      refine docw 11 [] [] [0, 0, 0] none (spec := s_of (D (eF c.kn (-1))) k b (by omega) hb) (hent := ent59) (j := 4) (b := true) (i' := 39) (k := ?_)
      refine dw0 12 (k := ?_)
      refine dw0 13 (k := ?_)
      refine dw0 14 (k := ?_)
      refine dw0 15 (k := ?_)
      refine dw0 16 (k := ?_)
      refine dw0 17 (k := ?_)
      refine docw 18 [] [] [0, 0, 0] none (spec := s_of (D (eF c.kn (-1))) a b ha hb) (hent := ent59) (j := 4) (b := true) (i' := 39) (k := ?_)
      refine dw1 19 (hc := kVr1.h {}) (k := ?_)
      refine dw0 20 (k := ?_)
      refine d0 21 (k := ?_)
      refine dz 22 [0, 0, 0, 7, 15, 31, 63, 127, 255, 31, 31, 2047, 31, 4127, 12319, 28703, 31, 31, 262143, 524287, 1048575, 2097151] (h := ?_)
      refine de 22 (h := ?_)
      repeat refine gwp_seq ?_
      refine cB (k1 := fun hb3 => ?_) (k0 := fun hb3 => ?_)
      · replace hb3 := hB.h {} hb3
        try rw [eqI] at hb3
        repeat refine gwp_seq ?_
        obtain ⟨m, rfl⟩ : ∃ m, n = m + 1 := ⟨n - 1, by omega⟩
        have hpt : nxtQ c.kn (D (eF c.kn (-1))) b a k = true := nxt_t (by assumption) (by omega)
        have hpl := pathL_some (n := m) (show k < c.ps.toNat by omega) hf hpt
        have hml := pathL_len (kn := c.kn) (f := (D (eF c.kn (-1)))) (P := c.ps.toNat) (dst := b) m k
        refine gwp_region ?_
        refine v0 (k := ?_)
        refine v0 (k := ?_)
        refine on0 [(0, 0), (1, 1)] [] [0, 0, 0, 0] none (X := List (P × P)) (spec := ih m k rfl (by omega) (by omega)) (hent := ent98) (k := fun x hX => ?_)
        obtain ⟨es3, hes⟩ : ∃ e : List (P × P), e = x := ⟨_, rfl⟩
        subst hes
        have hpk : PK es3 := hX
        refine v0 (k := ?_)
        refine nil0 ?_
        refine cl [0, 1, 2, 3, 10] (k := ?_)
        repeat refine gwp_seq ?_
        obtain ⟨q, hq⟩ : ∃ q, (pathL c.kn (D (eF c.kn (-1))) c.ps.toNat b m k) = q := ⟨_, rfl⟩
        rw [hq] at hpl hml
        try rw [hq]
        have hql := intL_len q
        have htn : (1 + (q.length : Int)).toNat = q.length + 1 := by omega
        have hmk := made_l (q.length + 1)
        refine gwp_region ?_
        refine v0 (k := ?_)
        refine v0 (k := ?_)
        refine v1 (hc := kVr1.h {}) (k := ?_)
        refine n1 730 false (hc := kVr1.h {}) (k := ?_)
        refine v0 (k := ?_)
        refine nil0 ?_
        refine cl [0, 1, 2, 3, 10, 11] (k := ?_)
        repeat refine gwp_seq ?_
        refine gwp_region ?_
        refine v0 (k := ?_)
        refine v0 (k := ?_)
        refine v1 (hc := kVr1.h {}) (k := ?_)
        refine s1 (hc := kVr1.h {}) (k := ?_)
        refine nil0 ?_
        refine cl [0, 1, 2, 3, 10, 11] (k := ?_)
        repeat refine gwp_seq ?_
        refine gwp_region ?_
        refine v0 (k := ?_)
        refine v1 (hc := kVr1.h {}) (k := ?_)
        refine v0 (k := ?_)
        refine cp0 (hle := by (first | omega | (simp [intL_len] <;> omega))) (hfit := by (first | omega | (simp [intL_len] <;> omega))) (h1 := intL_one _) (k := ?_)
        have hmc := made_copy (.int .i64 (a : Nat)) (intL q)
        rw [intL_len] at hmc
        rw [show (List.replicate (q.length + 1) (P.int .i64 0)).set 0 (P.int .i64 (a : Nat)) = P.int .i64 (a : Nat) :: List.replicate q.length (P.int .i64 0) from rfl, hmc]
        refine nil0 ?_
        refine cl [0, 1, 2, 3, 11] (k := ?_)
        repeat refine gwp_seq ?_
        refine gwp_region ?_
        refine ofk 730 (q.length + 1) (hn2 := by simp [intL_len]) (h1 := by rw [List.take_of_length_le (by simp [intL_len])]; exact cons_all _ _) (k := ?_)
        refine ofs 11 (P.int .i64 (a : Nat) :: intL q) (h1 := by omega) (hps := by rw [List.drop_zero, List.take_of_length_le (by simp [intL_len])]) (h2 := by simp [intL_len]) (h3 := cons_one _ _) (k := ?_)
        refine v0 (k := ?_)
        refine v0 (k := ?_)
        refine nil0 ?_
        refine cl [0, 1, 2, 3, 8] (k := ?_)
        repeat refine gwp_seq ?_
        refine gwp_exit ?_
        repeat (first | refine gthen_exit ?_ | refine gnoGoto_exit ?_ | refine gblock_here ?_ | refine gblock_out rfl ?_)
        refine cl [0, 1, 2, 3, 8] (k := ?_)
        repeat refine gwp_seq ?_
        refine rd ?_
        refine d0 0 (k := ?_)
        refine d0 1 (k := ?_)
        refine d0 2 (k := ?_)
        refine d0 3 (k := ?_)
        refine d0 4 (k := ?_)
        refine d0 5 (k := ?_)
        refine d0 6 (k := ?_)
        refine d0 7 (k := ?_)
        refine ds1 8 (hc := kVr1.h {}) (k := ?_)
        refine dz 9 [0, 1, 3, 7, 0, 0, 48, 0, 255] (h := ?_)
        refine de 9 (h := ?_)
        refine cl [1, 3, 8] (k := ?_)
        repeat refine gwp_seq ?_
        refine gwp_region ?_
        refine v0 (k := ?_)
        refine v0 (k := ?_)
        refine nil0 ?_
        repeat refine gwp_seq ?_
        refine gwp_ret ?_
        repeat (first | refine gthen_ret ?_ | refine gblock_ret ?_ | refine gnoGoto_ret ?_)
        refine fin_ret ?_
        refine fk1 [0, 1] (hR := ?_)
        first
        | exact ⟨_, PK_put hpk, by rw [hpl]; rfl⟩
        | exact ⟨_, PK_one _ _ _, by rw [pathL_none (fun i hi => hf i (by omega))]; rfl⟩
      · replace hb3 := hB.h {} hb3
        try rw [eqI] at hb3
        repeat refine gwp_seq ?_
        refine gwp_skip ?_
        refine cl [0, 1, 2, 3, 8, 31, 32] (k := ?_)
        repeat refine gwp_seq ?_
        refine gwp_region ?_
        refine v1 (hc := kVr1.h {}) (k := ?_)
        refine v0 (k := ?_)
        refine nil0 ?_
        refine lend [0, 1, 2, 3, 8, 31, 32] (h := ?_) (hV := ?_) (n' := c.ps.toNat - (k + 1))
        · omega
        first
        | exact ⟨k + 1, by omega, nxt_step hf (nxt_f1 (by assumption)), rfl, rfl⟩
        | exact ⟨k + 1, by omega, nxt_step hf (nxt_f2 (by omega)), rfl, rfl⟩
    · replace hb2 := hB.h {} hb2
      try rw [eqI] at hb2
      refine dx0 5 (k := ?_)
      refine dx0 6 (k := ?_)
      refine dx0 7 (k := ?_)
      refine dx0 8 (k := ?_)
      refine dx0 9 (k := ?_)
      refine dx0 10 (k := ?_)
      refine dx0 11 (k := ?_)
      refine dx0 12 (k := ?_)
      refine dx0 13 (k := ?_)
      refine dx0 14 (k := ?_)
      refine dx0 15 (k := ?_)
      refine dx0 16 (k := ?_)
      refine dx0 17 (k := ?_)
      refine dx0 18 (k := ?_)
      refine dx0 19 (k := ?_)
      refine dx0 20 (k := ?_)
      refine d0 21 (k := ?_)
      refine dz 22 [0, 0, 0, 7, 15, 31, 63, 127, 255, 31, 31, 2047, 31, 4127, 12319, 28703, 31, 31, 262143, 524287, 1048575, 2097151] (h := ?_)
      refine de 22 (h := ?_)
      repeat refine gwp_seq ?_
      refine cF (k := ?_)
      repeat refine gwp_seq ?_
      refine gwp_skip ?_
      refine cl [0, 1, 2, 3, 8, 31, 32] (k := ?_)
      repeat refine gwp_seq ?_
      refine gwp_region ?_
      refine v1 (hc := kVr1.h {}) (k := ?_)
      refine v0 (k := ?_)
      refine nil0 ?_
      refine lend [0, 1, 2, 3, 8, 31, 32] (h := ?_) (hV := ?_) (n' := c.ps.toNat - (k + 1))
      · omega
      first
      | exact ⟨k + 1, by omega, nxt_step hf (nxt_f1 (by assumption)), rfl, rfl⟩
      | exact ⟨k + 1, by omega, nxt_step hf (nxt_f2 (by omega)), rfl, rfl⟩
  · replace hb1 := hB.h {} hb1
    try rw [eqI] at hb1
    repeat refine gwp_seq ?_
    refine gwp_exit ?_
    repeat (first | refine gthen_exit ?_ | refine gnoGoto_exit ?_ | refine gblock_here ?_ | refine gblock_out rfl ?_)
    refine cl [0, 1, 2, 3, 8] (k := ?_)
    repeat refine gwp_seq ?_
    refine rd ?_
    refine d0 0 (k := ?_)
    refine d0 1 (k := ?_)
    refine d0 2 (k := ?_)
    refine d0 3 (k := ?_)
    refine d0 4 (k := ?_)
    refine d0 5 (k := ?_)
    refine d0 6 (k := ?_)
    refine d0 7 (k := ?_)
    refine ds1 8 (hc := kVr1.h {}) (k := ?_)
    refine dz 9 [0, 1, 3, 7, 0, 0, 48, 0, 255] (h := ?_)
    refine de 9 (h := ?_)
    refine cl [1, 3, 8] (k := ?_)
    repeat refine gwp_seq ?_
    refine gwp_region ?_
    refine v0 (k := ?_)
    refine v0 (k := ?_)
    refine nil0 ?_
    repeat refine gwp_seq ?_
    refine gwp_ret ?_
    repeat (first | refine gthen_ret ?_ | refine gblock_ret ?_ | refine gnoGoto_ret ?_)
    refine fin_ret ?_
    refine fk1 [0, 1] (hR := ?_)
    first
    | exact ⟨_, PK_put hpk, by rw [hpl]; rfl⟩
    | exact ⟨_, PK_one _ _ _, by rw [pathL_none (fun i hi => hf i (by omega))]; rfl⟩
end Go.Proofs.Ytagdholenfkeaaa

/- The program: Path. -/
namespace Go.Proofs.Ytagdholenfkeaaa
open Go.Gh
set_option maxRecDepth 100000
set_option maxHeartbeats 4000000
structure kVs1 (c : Prop) : Prop where
  h : c := by (first | exact True.intro | exact ⟨intL_size _, by rw [intL_len]; omega⟩ | (simp only [intL_len]; omega) | (refine ⟨?_, ?_⟩ <;> (try exact intL_size _) <;> (try (simp [intL_len] <;> omega))) | (simp [intL_len] <;> omega) | (simp only [inI]; omega) | (simp [P.size, pr, pk, all_int, allOne_p, goods_p, allOne, goods, good, G.one, P.one, P.cells] <;> first | omega | assumption | simp_all))
structure kVs2 (c : Prop) : Prop where
  h : c := by (first | exact True.intro | (simp only [inI]; omega) | (simp [P.size, pr, pk, all_int, allOne_p, goods_p, allOne, goods, good, G.one, P.one, P.cells] <;> first | omega | assumption | simp_all))
theorem s_on {E : Env Try.prog} {A : E.α} (c : Ch) (hv : c.valid = true) (b : Nat) (hb : b < 8) : ∀ (n a : Nat), a < 8 → (D (eF c.kn (-1))) a b = (n : Nat) → Gh.Spec E 98 [.p (.int .i64 (a : Nat)), .ptr [.ptr [.p (.int .i64 c.pl), .p (.int .i64 c.ps), .p (.list (c.kn.map pk)), .p (.list (c.rs.map pr)), .p (.int .i64 c.ms), .ptr ((mat (D (eF c.kn (-1)))).map G.p), .map 1]], .ptr [.p (.int .i64 (b : Nat))], .ref 0 0] (mkHp [(0, .cells [.fn (.func 98) [] [.ptr [.ptr [.p (.int .i64 c.pl), .p (.int .i64 c.ps), .p (.list (c.kn.map pk)), .p (.list (c.rs.map pr)), .p (.int .i64 c.ms), .ptr ((mat (D (eF c.kn (-1)))).map G.p), .map 1]], .ptr [.p (.int .i64 (b : Nat))], .ref 0 0]] 0), (1, .map [])]) A (fun y => ∃ es : List (P × P), PK es ∧ y = .ok (.p (.list (intL (pathL c.kn (D (eF c.kn (-1))) c.ps.toNat b n a)))) (mkHp [(0, .cells [.fn (.func 98) [] [.ptr [.ptr [.p (.int .i64 c.pl), .p (.int .i64 c.ps), .p (.list (c.kn.map pk)), .p (.list (c.rs.map pr)), .p (.int .i64 c.ms), .ptr ((mat (D (eF c.kn (-1)))).map G.p), .map 1]], .ptr [.p (.int .i64 (b : Nat))], .ref 0 0]] 0), (1, .map es)]) A)
  | 0, a, ha, hn => s_on_step c hv b hb 0 a ha hn fun m k hm => by omega
  | n + 1, a, ha, hn => s_on_step c hv b hb (n + 1) a ha hn fun m k hm hk hd => by
    obtain rfl : m = n := by omega
    exact s_on c hv b hb m k hk hd
theorem ent100 : Enters Try.prog 100 := Enters.mk Try.func100 (by kernel_rfl) rfl
theorem s_clone (l : List Nat) (hl : l.length ≤ 2000000) : PSpec Try.prog 100 [.list (intL l)] (.ok (.list (intL l))) := by
  refine pspec_of Try.func100 (rfl : Try.f100.body = some _) rfl ?_
  intro E A C hN hL
  replace hN : C.N = 8 := hN
  simp only [Gh.num, List.map_cons, List.map_nil, Nat.reduceAdd]
  have hsz := intL_size l
  have hln := intL_len l
  repeat refine gwp_seq ?_
  refine gwp_region ?_
  refine v0 (k := ?_)
  refine nil0 ?_
  refine cl [0] (k := ?_)
  repeat refine gwp_seq ?_
  refine gwp_region ?_
  refine v0 (k := ?_)
  refine nq0 (k := fun bq hq => ?_)
  refine nil0 ?_
  repeat refine gwp_seq ?_
  refine cB (k1 := fun hb1 => ?_) (k0 := fun hb1 => ?_)
  · replace hb1 := hB.h {} hb1
    repeat refine gwp_seq ?_
    refine gwp_region ?_
    refine v0 (k := ?_)
    refine nil0 ?_
    repeat refine gwp_seq ?_
    refine gwp_ret ?_
    repeat (first | refine gthen_ret ?_ | refine gblock_ret ?_ | refine gnoGoto_ret ?_)
    refine fin_ret ?_
    refine fp (hR := ?_) (hd' := by first | exact hln | simp)
    first
    | (have he := hq (by assumption)
       rw [he]
       rfl)
    | rfl
  · replace hb1 := hB.h {} hb1
    repeat refine gwp_seq ?_
    refine gwp_skip ?_
    refine cl [0] (k := ?_)
    repeat refine gwp_seq ?_
    refine gwp_region ?_
    refine n1 150 false (hc := kVs1.h {}) (k := ?_)
    refine v0 (k := ?_)
    refine n1 170 false (hc := kVs1.h {}) (k := ?_)
    refine v0 (k := ?_)
    refine nil0 ?_
    repeat refine gwp_seq ?_
    refine gwp_ret ?_
    repeat (first | refine gthen_ret ?_ | refine gblock_ret ?_ | refine gnoGoto_ret ?_)
    refine fin_ret ?_
    refine fp (hR := ?_) (hd' := by first | exact hln | simp)
    first
    | (have he := hq (by assumption)
       rw [he]
       rfl)
    | rfl
theorem ent60 : Enters Try.prog 60 := Enters.mk Try.func60 (by kernel_rfl) rfl
theorem s_way {E : Env Try.prog} {A : E.α} (c : Ch) (hv : c.valid = true) (a b : Nat) (ha : a < 8) (hb : b < 8) (n : Nat) (hn0 : (D (eF c.kn (-1))) a b = (n : Nat)) (hn1 : n ≤ 1048576) : Gh.Spec E 60 [.ptr [.p (.int .i64 c.pl), .p (.int .i64 c.ps), .p (.list (c.kn.map pk)), .p (.list (c.rs.map pr)), .p (.int .i64 c.ms), .ptr ((mat (D (eF c.kn (-1)))).map G.p), .map 0], .p (.int .i64 (a : Nat)), .p (.int .i64 (b : Nat))] (mkHp [(0, .map [])]) A (fun y => ∃ es : List (P × P), PK es ∧ y = .ok (.p (.list (intL (pathL c.kn (D (eF c.kn (-1))) c.ps.toNat b n a)))) (mkHp [(0, .map es)]) A) := by
  refine spec_of Try.func60 (rfl : Try.f60.body = some _) (Nat.le_of_ble_eq_true rfl) (fun id h => ?_) (fun j id h => ?_) ?_
  · exact wf1x h
  · exact wf2x h
  intro C hN hL
  replace hN : C.N = 13 := hN
  simp only [Gh.num, List.map_cons, List.map_nil, Nat.reduceAdd]
  have hpl := pathL_len (kn := c.kn) (f := (D (eF c.kn (-1)))) (P := c.ps.toNat) (dst := b) n a
  repeat refine gwp_seq ?_
  refine gwp_region ?_
  refine n1 130 false (hc := kVs2.h {}) (k := ?_)
  refine n1 150 false (hc := kVs2.h {}) (k := ?_)
  refine v0 (k := ?_)
  refine nil0 ?_
  refine cl [0, 1, 3, 5] (k := ?_)
  repeat refine gwp_seq ?_
  refine gwp_region ?_
  refine n1 170 false (hc := kVs2.h {}) (k := ?_)
  refine nil0 ?_
  refine cl [0, 1, 3, 5, 7] (k := ?_)
  repeat refine gwp_seq ?_
  refine fz 130 1 [.k] (k := ?_)
  refine fz 150 1 [.k] (k := ?_)
  refine cv 3 (.n [.k]) (k := ?_)
  refine cv 5 (.n [.k]) (k := ?_)
  refine gwp_region ?_
  refine v0 (k := ?_)
  refine s1 (hc := kVs2.h {}) (k := ?_)
  refine nil0 ?_
  refine cl [0, 1, 7] (k := ?_)
  repeat refine gwp_seq ?_
  refine gwp_region ?_
  refine v0 (k := ?_)
  refine v0 (k := ?_)
  refine on0 [(0, 170), (1, 0)] [] [0, 0, 0, 0] none (X := List (P × P)) (spec := s_on c hv b hb n a ha hn0) (hent := ent98) (k := fun x hX => ?_)
  obtain ⟨es3, hes⟩ : ∃ e : List (P × P), e = x := ⟨_, rfl⟩
  subst hes
  have hpk : PK es3 := hX
  refine pc0 (spec := s_clone (pathL c.kn (D (eF c.kn (-1))) c.ps.toNat b n a) (by omega)) (hent := ent100) (k := ?_)
  refine v0 (k := ?_)
  refine nil0 ?_
  repeat refine gwp_seq ?_
  refine gwp_ret ?_
  repeat (first | refine gthen_ret ?_ | refine gblock_ret ?_ | refine gnoGoto_ret ?_)
  refine fin_ret ?_
  refine fk1 [0] (hR := ?_)
  exact ⟨_, hpk, rfl⟩
end Go.Proofs.Ytagdholenfkeaaa

/- The program: Path. -/
namespace Go.Proofs.Ytagdholenfkeaaa
open Go.Gh
set_option maxRecDepth 100000
set_option maxHeartbeats 4000000
structure kVt1 (c : Prop) : Prop where
  h : c := by (first | exact True.intro | (simp only [inI]; omega) | (simp [P.size, pr, pk, all_int, allOne_p, goods_p, allOne, goods, good, G.one, P.one, P.cells] <;> first | omega | assumption | simp_all))
theorem ent19 : Enters Try.prog 19 := Enters.mk Try.func19 (by kernel_rfl) rfl
theorem p_path_r {E : Env Try.prog} {A : E.α} (c : Ch) (hv : c.valid = true) (x w : Int) (hq : (pathQ c x w) = false) : Gh.Spec E 19 [.p (.agg [.int .i64 c.pl, .int .i64 c.ps, .list (c.kn.map pk), .list (c.rs.map pr), .int .i64 c.ms]), .p (.int .i64 x), .p (.int .i64 w)] (mkHp []) A (fun y => y = .ok (.p (.tuple [.list [], .int .i64 2])) (mkHp []) A) := by
  refine specD_of Try.func19 (rfl : Try.f19.body = some _) (Nat.le_of_ble_eq_true rfl) (fun id h => ?_) (fun j id h => ?_) ?_
  · exact wf1x h
  · exact wf2x h
  intro C hN hL
  replace hN : C.N = 41 := hN
  simp only [Gh.num, List.map_cons, List.map_nil, Nat.reduceAdd]
  repeat refine gwp_seq ?_
  refine gwp_region ?_
  refine n1 130 false (hc := kVt1.h {}) (k := ?_)
  refine n1 140 false (hc := kVt1.h {}) (k := ?_)
  refine n1 150 false (hc := kVt1.h {}) (k := ?_)
  refine v0 (k := ?_)
  refine n1 170 false (hc := kVt1.h {}) (k := ?_)
  refine nil0 ?_
  refine cl [3, 4, 5, 6, 7] (k := ?_)
  repeat refine gwp_seq ?_
  refine gwp_region ?_
  refine v0 (k := ?_)
  refine df0 (k := ?_)
  refine nil0 ?_
  refine cl [3, 4, 5, 6, 7] (k := ?_)
  repeat refine gwp_seq ?_
  refine fz 140 1 [.k] (k := ?_)
  refine fz 150 1 [.k] (k := ?_)
  refine gwp_region ?_
  refine v0 (k := ?_)
  refine v0 (k := ?_)
  refine ocv 13 (.f [.n [.k], .n [.k]]) (k := ?_)
  refine op0 [] [] [1, 0] none (spec := s_open_r2 c 57 x w (pathQ c x w) (q_57 c hv x w) ent57 hv hq) (hent := ent43) (k := ?_)
  repeat (first | refine gthen_panic ?_ | refine gblock_panic ?_)
  refine finD_panic ?_
  refine ocall [170] [(0, 170)] (spec := d_some56 0 2) (hent := ent56) (h := ?_)
  refine out_nil ?_
  refine fp2 (hR := ?_)
  rfl
theorem p_path_f {E : Env Try.prog} {A : E.α} (c : Ch) (h1 : c.kn.length ≤ 1048576) (h2 : c.rs.length ≤ 1048576) (hv : c.valid = false) (x w : Int) : Gh.Spec E 19 [.p (.agg [.int .i64 c.pl, .int .i64 c.ps, .list (c.kn.map pk), .list (c.rs.map pr), .int .i64 c.ms]), .p (.int .i64 x), .p (.int .i64 w)] (mkHp []) A (fun y => y = .ok (.p (.tuple [.list [], .int .i64 1])) (mkHp []) A) := by
  refine specD_of Try.func19 (rfl : Try.f19.body = some _) (Nat.le_of_ble_eq_true rfl) (fun id h => ?_) (fun j id h => ?_) ?_
  · exact wf1x h
  · exact wf2x h
  intro C hN hL
  replace hN : C.N = 41 := hN
  simp only [Gh.num, List.map_cons, List.map_nil, Nat.reduceAdd]
  repeat refine gwp_seq ?_
  refine gwp_region ?_
  refine n1 130 false (hc := kVt1.h {}) (k := ?_)
  refine n1 140 false (hc := kVt1.h {}) (k := ?_)
  refine n1 150 false (hc := kVt1.h {}) (k := ?_)
  refine v0 (k := ?_)
  refine n1 170 false (hc := kVt1.h {}) (k := ?_)
  refine nil0 ?_
  refine cl [3, 4, 5, 6, 7] (k := ?_)
  repeat refine gwp_seq ?_
  refine gwp_region ?_
  refine v0 (k := ?_)
  refine df0 (k := ?_)
  refine nil0 ?_
  refine cl [3, 4, 5, 6, 7] (k := ?_)
  repeat refine gwp_seq ?_
  refine fz 140 1 [.k] (k := ?_)
  refine fz 150 1 [.k] (k := ?_)
  refine gwp_region ?_
  refine v0 (k := ?_)
  refine v0 (k := ?_)
  refine ocv 13 (.f [.n [.k], .n [.k]]) (k := ?_)
  refine op0 [] [] [1, 0] none (spec := s_open_f2 c h1 h2 57 x w hv) (hent := ent43) (k := ?_)
  repeat (first | refine gthen_panic ?_ | refine gblock_panic ?_)
  refine finD_panic ?_
  refine ocall [170] [(0, 170)] (spec := d_some56 0 1) (hent := ent56) (h := ?_)
  refine out_nil ?_
  refine fp2 (hR := ?_)
  rfl
theorem p_path_t {E : Env Try.prog} {A : E.α} (c : Ch) (hv : c.valid = true) (p0 : Int) (n : Nat) (hq : (pathQ c p0 (n : Nat)) = true) (a b : Nat) (r : Rc) (hr : c.rs[n]? = some r) (ha : holN p0 c.rs n = a) (hb : r.f = b) (ha8 : a < 8) (hb8 : b < 8) (hd : (D (eF c.kn (-1))) a b < 1048576) : Gh.Spec E 19 [.p (.agg [.int .i64 c.pl, .int .i64 c.ps, .list (c.kn.map pk), .list (c.rs.map pr), .int .i64 c.ms]), .p (.int .i64 p0), .p (.int .i64 (n : Nat))] (mkHp []) A (fun y => y = .ok (.p (.tuple [.list (intL (pathL c.kn (D (eF c.kn (-1))) c.ps.toNat b ((D (eF c.kn (-1))) a b).toNat a)), .int .i64 0])) (mkHp []) A) := by
  refine specD_of Try.func19 (rfl : Try.f19.body = some _) (Nat.le_of_ble_eq_true rfl) (fun id h => ?_) (fun j id h => ?_) ?_
  · exact wf1x h
  · exact wf2x h
  intro C hN hL
  replace hN : C.N = 41 := hN
  simp only [Gh.num, List.map_cons, List.map_nil, Nat.reduceAdd]
  have hn := valid_num hv
  have hpk : ∀ k : Kw, pk k = P.agg [.int .i64 k.a, .int .i64 k.b] := fun _ => rfl
  have hpr : ∀ r : Rc, pr r = P.agg [.int .i64 r.p, .int .i64 r.f, .int .i64 r.t] := fun _ => rfl
  obtain ⟨rp, rf, rt⟩ := r
  simp only at hb
  subst hb
  have hnl := (List.getElem?_eq_some_iff.1 hr).1
  have hdn := (D_ok (eF c.kn (-1))).nn a b
  have hdl := (D_ok (eF c.kn (-1))).le a b
  simp only [NEV] at hdl
  repeat refine gwp_seq ?_
  refine gwp_region ?_
  refine n1 130 false (hc := kVt1.h {}) (k := ?_)
  refine n1 140 false (hc := kVt1.h {}) (k := ?_)
  refine n1 150 false (hc := kVt1.h {}) (k := ?_)
  refine v0 (k := ?_)
  refine n1 170 false (hc := kVt1.h {}) (k := ?_)
  refine nil0 ?_
  refine cl [3, 4, 5, 6, 7] (k := ?_)
  repeat refine gwp_seq ?_
  refine gwp_region ?_
  refine v0 (k := ?_)
  refine df0 (k := ?_)
  refine nil0 ?_
  refine cl [3, 4, 5, 6, 7] (k := ?_)
  repeat refine gwp_seq ?_
  refine fz 140 1 [.k] (k := ?_)
  refine fz 150 1 [.k] (k := ?_)
  refine gwp_region ?_
  refine v0 (k := ?_)
  refine v0 (k := ?_)
  refine ocv 13 (.f [.n [.k], .n [.k]]) (k := ?_)
  refine oc0 [(200, 5000)] [] [1, 0] none (spec := s_open_t2 c 57 p0 (n : Nat) (pathQ c p0 (n : Nat)) (q_57 c hv p0 (n : Nat)) ent57 hv hq) (hent := ent43) (hgr := by (simp only [G.ren, G.rens, rens_p, Gh.look, Nat.reduceEqDiff, reduceIte] <;> rfl)) (k := ?_)
  refine v0 (k := ?_)
  refine nil0 ?_
  refine cl [4, 5, 6, 7, 8] (k := ?_)
  repeat refine gwp_seq ?_
  refine rd ?_
  refine d0 0 (k := ?_)
  refine d0 1 (k := ?_)
  refine d0 2 (k := ?_)
  refine doc0 3 [] [] [7, 0, 0] none (spec := s_holder (.int .i64 c.pl) (.int .i64 c.ps) (.list (c.kn.map pk)) p0 c.rs n (by omega) (by omega)) (hent := ent47) (k := ?_)
  refine d0 4 (k := ?_)
  refine d0 5 (k := ?_)
  refine d0 6 (k := ?_)
  refine d0 7 (k := ?_)
  refine d0 8 (k := ?_)
  refine d0 9 (k := ?_)
  refine d1 10 (hc := kVt1.h {}) (k := ?_)
  refine d0 11 (k := ?_)
  refine d0 12 (k := ?_)
  refine d0 13 (k := ?_)
  refine d0 14 (k := ?_)
  refine dz 15 [0, 0, 0, 7, 0, 16, 48, 112, 240, 0, 1008, 2032, 4080, 15, 16383] (h := ?_)
  refine de 15 (h := ?_)
  refine cl [6, 7, 8, 9, 10] (k := ?_)
  repeat refine gwp_seq ?_
  try rw [ha]
  refine gwp_region ?_
  refine v0 (k := ?_)
  refine v0 (k := ?_)
  refine v0 (k := ?_)
  refine v0 (k := ?_)
  refine v0 (k := ?_)
  refine v0 (k := ?_)
  refine oc0 [] [] [0, 0, 0] none (spec := s_of (D (eF c.kn (-1))) a b ha8 hb8) (hent := ent59) (k := ?_)
  refine v0 (k := ?_)
  refine rb 35 true (h := by (first | exact decide_eq_true hd | exact decide_eq_true trivial)) (k := ?_)
  refine pc0 (spec := s_need_t _) (hent := ent58) (k := ?_)
  refine nil0 ?_
  refine cl [6, 7, 8, 9, 10] (k := ?_)
  repeat refine gwp_seq ?_
  refine gwp_region ?_
  refine v0 (k := ?_)
  refine v0 (k := ?_)
  refine v0 (k := ?_)
  refine on0 [(0, 5000)] [] [0, 0, 0] none (X := List (P × P)) (spec := s_way c hv a b ha8 hb8 ((D (eF c.kn (-1))) a b).toNat (by omega) (by omega)) (hent := ent60) (k := fun x hX => ?_)
  obtain ⟨es3, hes⟩ : ∃ e : List (P × P), e = x := ⟨_, rfl⟩
  subst hes
  have hpk : PK es3 := hX
  refine v0 (k := ?_)
  refine s1 (hc := kVt1.h {}) (k := ?_)
  refine nil0 ?_
  repeat refine gwp_seq ?_
  refine gwp_ret ?_
  repeat (first | refine gthen_ret ?_ | refine gblock_ret ?_ | refine gnoGoto_ret ?_)
  refine finD_ret ?_
  refine ocall [170] [(0, 170)] (spec := d_none56 0) (hent := ent56) (h := ?_)
  refine out_nil ?_
  refine fp2 (hR := ?_)
  rfl
theorem p_path_n {E : Env Try.prog} {A : E.α} (c : Ch) (hv : c.valid = true) (p0 : Int) (n : Nat) (hq : (pathQ c p0 (n : Nat)) = true) (a b : Nat) (r : Rc) (hr : c.rs[n]? = some r) (ha : holN p0 c.rs n = a) (hb : r.f = b) (ha8 : a < 8) (hb8 : b < 8) (hd : ¬ (D (eF c.kn (-1))) a b < 1048576) : Gh.Spec E 19 [.p (.agg [.int .i64 c.pl, .int .i64 c.ps, .list (c.kn.map pk), .list (c.rs.map pr), .int .i64 c.ms]), .p (.int .i64 p0), .p (.int .i64 (n : Nat))] (mkHp []) A (fun y => y = .ok (.p (.tuple [.list [], .int .i64 4])) (mkHp []) A) := by
  refine specD_of Try.func19 (rfl : Try.f19.body = some _) (Nat.le_of_ble_eq_true rfl) (fun id h => ?_) (fun j id h => ?_) ?_
  · exact wf1x h
  · exact wf2x h
  intro C hN hL
  replace hN : C.N = 41 := hN
  simp only [Gh.num, List.map_cons, List.map_nil, Nat.reduceAdd]
  have hn := valid_num hv
  have hpk : ∀ k : Kw, pk k = P.agg [.int .i64 k.a, .int .i64 k.b] := fun _ => rfl
  have hpr : ∀ r : Rc, pr r = P.agg [.int .i64 r.p, .int .i64 r.f, .int .i64 r.t] := fun _ => rfl
  obtain ⟨rp, rf, rt⟩ := r
  simp only at hb
  subst hb
  have hnl := (List.getElem?_eq_some_iff.1 hr).1
  have hdn := (D_ok (eF c.kn (-1))).nn a b
  have hdl := (D_ok (eF c.kn (-1))).le a b
  simp only [NEV] at hdl
  repeat refine gwp_seq ?_
  refine gwp_region ?_
  refine n1 130 false (hc := kVt1.h {}) (k := ?_)
  refine n1 140 false (hc := kVt1.h {}) (k := ?_)
  refine n1 150 false (hc := kVt1.h {}) (k := ?_)
  refine v0 (k := ?_)
  refine n1 170 false (hc := kVt1.h {}) (k := ?_)
  refine nil0 ?_
  refine cl [3, 4, 5, 6, 7] (k := ?_)
  repeat refine gwp_seq ?_
  refine gwp_region ?_
  refine v0 (k := ?_)
  refine df0 (k := ?_)
  refine nil0 ?_
  refine cl [3, 4, 5, 6, 7] (k := ?_)
  repeat refine gwp_seq ?_
  refine fz 140 1 [.k] (k := ?_)
  refine fz 150 1 [.k] (k := ?_)
  refine gwp_region ?_
  refine v0 (k := ?_)
  refine v0 (k := ?_)
  refine ocv 13 (.f [.n [.k], .n [.k]]) (k := ?_)
  refine oc0 [(200, 5000)] [] [1, 0] none (spec := s_open_t2 c 57 p0 (n : Nat) (pathQ c p0 (n : Nat)) (q_57 c hv p0 (n : Nat)) ent57 hv hq) (hent := ent43) (hgr := by (simp only [G.ren, G.rens, rens_p, Gh.look, Nat.reduceEqDiff, reduceIte] <;> rfl)) (k := ?_)
  refine v0 (k := ?_)
  refine nil0 ?_
  refine cl [4, 5, 6, 7, 8] (k := ?_)
  repeat refine gwp_seq ?_
  refine rd ?_
  refine d0 0 (k := ?_)
  refine d0 1 (k := ?_)
  refine d0 2 (k := ?_)
  refine doc0 3 [] [] [7, 0, 0] none (spec := s_holder (.int .i64 c.pl) (.int .i64 c.ps) (.list (c.kn.map pk)) p0 c.rs n (by omega) (by omega)) (hent := ent47) (k := ?_)
  refine d0 4 (k := ?_)
  refine d0 5 (k := ?_)
  refine d0 6 (k := ?_)
  refine d0 7 (k := ?_)
  refine d0 8 (k := ?_)
  refine d0 9 (k := ?_)
  refine d1 10 (hc := kVt1.h {}) (k := ?_)
  refine d0 11 (k := ?_)
  refine d0 12 (k := ?_)
  refine d0 13 (k := ?_)
  refine d0 14 (k := ?_)
  refine dz 15 [0, 0, 0, 7, 0, 16, 48, 112, 240, 0, 1008, 2032, 4080, 15, 16383] (h := ?_)
  refine de 15 (h := ?_)
  refine cl [6, 7, 8, 9, 10] (k := ?_)
  repeat refine gwp_seq ?_
  try rw [ha]
  refine gwp_region ?_
  refine v0 (k := ?_)
  refine v0 (k := ?_)
  refine v0 (k := ?_)
  refine v0 (k := ?_)
  refine v0 (k := ?_)
  refine v0 (k := ?_)
  refine oc0 [] [] [0, 0, 0] none (spec := s_of (D (eF c.kn (-1))) a b ha8 hb8) (hent := ent59) (k := ?_)
  refine v0 (k := ?_)
  refine rb 35 false (h := by (first | exact decide_eq_false hd | exact decide_eq_false id)) (k := ?_)
  refine pp0 (spec := s_need_f _) (hent := ent58) (k := ?_)
  repeat (first | refine gthen_panic ?_ | refine gblock_panic ?_)
  refine finD_panic ?_
  refine ocall [170] [(0, 170)] (spec := d_some56 0 4) (hent := ent56) (h := ?_)
  refine out_nil ?_
  refine fp2 (hR := ?_)
  rfl
end Go.Proofs.Ytagdholenfkeaaa

/- What the steps of a plate take. -/
namespace Go.Proofs.Ytagdholenfkeaaa
open Go.Gh
theorem stP_size (x : St) : (stP x).size = 1 := by obtain ⟨a, _ | b⟩ := x <;> rfl
theorem stP_one (x : St) : (stP x).one = true := by obtain ⟨a, _ | b⟩ := x <;> rfl
def stIn (x : St) : Prop := (0 ≤ x.a ∧ x.a < 8) ∧ ∀ b, x.b = some b → 0 ≤ b ∧ b < 8
theorem toL_in : ∀ (h : Int) (l : List (Nat × Rc)), 0 ≤ h → h < 8 → (∀ e ∈ l, (0 ≤ e.2.f ∧ e.2.f < 8) ∧ (0 ≤ e.2.t ∧ e.2.t < 8)) → (∀ x ∈ toL h l, stIn x) ∧ 0 ≤ lastH h l ∧ lastH h l < 8
  | h, [], h0, h8, _ => ⟨fun x hx => by simp [toL] at hx, h0, h8⟩
  | h, e :: l, h0, h8, hl => by
    have he := hl e (by simp)
    obtain ⟨i1, i2⟩ := toL_in e.2.t l he.2.1 he.2.2 fun x hx => hl x (by simp [hx])
    rw [lastH_cons]
    refine ⟨fun x hx => ?_, i2⟩
    rcases List.mem_cons.1 hx with rfl | hx
    · exact ⟨⟨h0, h8⟩, fun b hb => by cases hb; exact he.1⟩
    · exact i1 x hx
theorem steps_in {l : List (Nat × Rc)} (hl : ∀ e ∈ l, (0 ≤ e.2.f ∧ e.2.f < 8) ∧ (0 ≤ e.2.t ∧ e.2.t < 8)) : ∀ x ∈ stepsL l, stIn x := fun x hx => by
  obtain ⟨h1, h2⟩ := toL_in 0 l (by omega) (by omega) hl
  rcases List.mem_append.1 hx with hx | hx
  · exact h1 x hx
  · simp at hx; subst hx; exact ⟨h2, fun b hb => by cases hb⟩
theorem steps_len (l : List (Nat × Rc)) : (stepsL l).length = l.length + 1 := by rw [stepsL, List.length_append, toL_len]; rfl
def rsIn (rs : List Rc) : Prop := ∀ r ∈ rs, (0 ≤ r.f ∧ r.f < 8) ∧ (0 ≤ r.t ∧ r.t < 8)
theorem sel_in {p : Int} {set : Nat} {rs : List Rc} (h : rsIn rs) {k : Nat} : ∀ e ∈ selN p set rs k, (0 ≤ e.2.f ∧ e.2.f < 8) ∧ (0 ≤ e.2.t ∧ e.2.t < 8) := fun e he => h _ (List.mem_of_getElem? (sel_mem k e he).2.1)
theorem valid_in {c : Ch} (h : c.valid = true) : rsIn c.rs := fun r hr => by
  have := valid_rs h hr
  have := valid_num h
  omega
/-- The least number of unwritten times, of the first plates. -/
def allV (f : Mx) (rs : List Rc) (set : Nat) : Nat → Int
  | 0 => 0
  | n + 1 => allV f rs set n + totV f (stepsL (selN n set rs rs.length))
theorem allV_in {f : Mx} (hf : MOk f) (rs : List Rc) (set : Nat) (hrl : rs.length ≤ 12) : ∀ n, 0 ≤ allV f rs set n ∧ allV f rs set n ≤ 13631488 * n
  | 0 => by simp [allV]
  | n + 1 => by
    have h1 := allV_in hf rs set hrl n
    have h2 := totV_in hf (stepsL (selN n set rs rs.length))
    have h3 := steps_len (selN n set rs rs.length)
    have h4 := sel_le (p := n) (set := set) (rs := rs) rs.length
    have h5 : ((stepsL (selN n set rs rs.length)).length : Int) ≤ 13 := by omega
    simp only [allV]
    omega
end Go.Proofs.Ytagdholenfkeaaa

/- The program: what the steps of a plate take. -/
namespace Go.Proofs.Ytagdholenfkeaaa
open Go.Gh
set_option maxRecDepth 100000
set_option maxHeartbeats 4000000
structure kVi1 (c : Prop) : Prop where
  h : c := by (first | exact True.intro | omega | exact ⟨by omega, hsz⟩ | (simp only [List.length_map, inI]; omega) | (simp [stP_size, stP_one, toL_len]; done) | (simp [stP_size, stP_one, toL_len] <;> omega) | (simp only [inI]; omega) | (simp [P.size, stP_size, stP_one, toL_len, pr, pk, all_int, allOne_p, goods_p, allOne, goods, good, G.one, P.one, P.cells] <;> first | omega | assumption | simp_all))
theorem ent75 : Enters Try.prog 75 := Enters.mk Try.func75 (by kernel_rfl) rfl
theorem s_steps {E : Env Try.prog} {A : E.α} (g0 g1 g2 : P) (p : Int) (set : Nat) (rs : List Rc) (hset : set < 4096) (hrl : rs.length ≤ 12) (hri : rsIn rs) : Gh.Spec E 75 [.ptr [.p g0, .p g1, .p g2, .p (.list (rs.map pr))], .p (.int .i64 p), .p (.int .u64 (set : Nat))] (mkHp []) A (fun y => y = .ok (.p (.tuple [.list ((stepsL (selN p set rs rs.length)).map stP), .int .u64 (namedN (selN p set rs rs.length) : Nat)])) (mkHp []) A) := by
  refine specD_of Try.func75 (rfl : Try.f75.body = some _) (Nat.le_of_ble_eq_true rfl) (fun id h => ?_) (fun j id h => ?_) ?_
  · exact wf1x h
  · exact wf2x h
  intro C hN hL
  replace hN : C.N = 44 := hN
  simp only [Gh.num, List.map_cons, List.map_nil, Nat.reduceAdd]
  have hpk : ∀ k : Kw, pk k = P.agg [.int .i64 k.a, .int .i64 k.b] := fun _ => rfl
  have hpr : ∀ r : Rc, pr r = P.agg [.int .i64 r.p, .int .i64 r.f, .int .i64 r.t] := fun _ => rfl
  have hst1 : ∀ a b : Int, stP ⟨a, some b⟩ = P.iface 122 (.agg [.int .i64 a, .int .i64 b]) := fun _ _ => rfl
  have hst0 : ∀ a : Int, stP ⟨a, none⟩ = P.iface 124 (.agg [.int .i64 a]) := fun _ => rfl
  have hsl := sel_le (p := p) (set := set) (rs := rs) rs.length
  repeat refine gwp_seq ?_
  refine gwp_region ?_
  refine n1 160 false (hc := kVi1.h {}) (k := ?_)
  refine n1 170 false (hc := kVi1.h {}) (k := ?_)
  refine nil0 ?_
  refine cl [0, 1, 2, 6, 7] (k := ?_)
  repeat refine gwp_seq ?_
  refine gwp_region ?_
  refine n1 180 false (hc := kVi1.h {}) (k := ?_)
  refine s1 (hc := kVi1.h {}) (k := ?_)
  refine nil0 ?_
  refine cl [0, 1, 2, 6, 7, 8] (k := ?_)
  repeat refine gwp_seq ?_
  refine gwp_region ?_
  refine v0 (k := ?_)
  refine v0 (k := ?_)
  refine n1 230 false (hc := kVi1.h {}) (k := ?_)
  refine pc0 (spec := s_with 0 [0] (by omega) (by simp) (by simp)) (hent := ent83) (k := ?_)
  refine s1 (hc := kVi1.h {}) (k := ?_)
  refine nil0 ?_
  refine cl [0, 1, 2, 6, 7, 8] (k := ?_)
  repeat refine gwp_seq ?_
  refine ad 160 0 2000 100 1 true (k := ?_)
  refine gwp_region ?_
  refine v0 (k := ?_)
  refine v0 (k := ?_)
  refine v0 (k := ?_)
  refine oc0 [] [] [0, 0, 0] none (spec := s_recs g0 g1 g2 p set rs) (hent := ent54) (k := ?_)
  refine nil0 ?_
  refine cl [6, 7, 8, 18] (k := ?_)
  repeat refine gwp_seq ?_
  refine gwp_block ?_
  repeat refine gwp_seq ?_
  refine rf 10000 99001 [19, 20] (fun k (z : Nat) A1 => z = k ∧ z ≤ (selN p set rs rs.length).length ∧ A1 = A) (fun z => [(160, .cells [.own 2000 z] 0), (170, .cells [.p (.int .u64 (namedN ((selN p set rs rs.length).take z) : Nat))] 0), (180, .cells [.p (.int .i64 (lastH 0 ((selN p set rs rs.length).take z)))] 0), (2000, .arr 100 1 ((toL 0 ((selN p set rs rs.length).take z)).map stP) true)]) (fun _ _ _ => False) (fun _ _ => []) [] [.k, .k, .k] (it := it_recs g0 g1 g2 p set rs hset hrl) (hent := ent96) (xs := ((selN p set rs rs.length).map fun e => [.int .i64 (e.1 : Nat), pr e.2])) (hlen := fun x hx => by obtain ⟨w, _, rfl⟩ := List.mem_map.1 hx; rfl) (h0 := ?_) (round := fun k z A1 x hI hx lp bs C1 hN1 hL1 => ?_) (hK := fun e z A1 hK => ?_) (hI := fun z A1 hI => ?_)
  · exact ⟨0, ⟨rfl, Nat.zero_le _, rfl⟩, rfl⟩
  · obtain ⟨rfl, hz0, rfl⟩ := hI
    rw [List.getElem?_map] at hx
    obtain ⟨e, he, rfl⟩ := Option.map_eq_some_iff.1 hx
    have hzl := (List.getElem?_eq_some_iff.1 he).1
    have hei := sel_in hri e (List.mem_of_getElem? he)
    have hnl := namedN_lt (l := (selN p set rs rs.length).take z) (fun e h => sel_in hri e (List.mem_of_mem_take h))
    have htl := toL_len 0 ((selN p set rs rs.length).take z)
    rw [List.length_take, Nat.min_eq_left hz0] at htl
    obtain ⟨i, rp, rf, rt⟩ := e
    simp only at hei
    obtain ⟨a, rfl⟩ : ∃ a : Nat, rf = a := ⟨rf.toNat, by omega⟩
    obtain ⟨b, rfl⟩ : ∃ b : Nat, rt = b := ⟨rt.toNat, by omega⟩
    have htl1 := Nat.le_of_eq htl
    have htl2 := Nat.le_of_eq htl.symm
    clear htl
    replace hN1 : C1.N = 44 := hN1.trans hN
    refine (?_ : gwp C1 (some lp) _ _ (sg ((20, .p (pr ⟨rp, (a : Nat), (b : Nat)⟩)) :: (19, .p (.int .i64 (i : Nat))) :: _) [(160, .cells [.own 2000 z] 0), (170, .cells [.p (.int .u64 (namedN ((selN p set rs rs.length).take z) : Nat))] 0), (180, .cells [.p (.int .i64 (lastH 0 ((selN p set rs rs.length).take z)))] 0), (2000, .arr 100 1 ((toL 0 ((selN p set rs rs.length).take z)).map stP) true)] A1 []))
    repeat refine gwp_seq ?_
    refine gwp_region ?_
    refine n1 10200 false (hc := kVi1.h {}) (k := ?_)
    refine s1 (hc := kVi1.h {}) (k := ?_)
    refine nil0 ?_
    refine ⟨rfl, fun bs2 C2 hN2 hL2 hr2 => ?_⟩
    replace hN2 : C2.N = 44 := hN2.trans hN
    refine (?_ : gwp C2 (some lp) _ _ (sg _ _ _ []))
    repeat refine gwp_seq ?_
    refine gwp_block ?_
    repeat refine gwp_seq ?_
    refine gwp_region ?_
    refine v0 (k := ?_)
    refine v0 (k := ?_)
    refine v0 (k := ?_)
    refine v0 (k := ?_)
    refine v0 (k := ?_)
    refine v0 (k := ?_)
    refine n1 10370 false (hc := kVi1.h {}) (k := ?_)
    refine n1 10380 false (hc := kVi1.h {}) (k := ?_)
    refine s1 (hc := kVi1.h {}) (k := ?_)
    refine nil0 ?_
    refine cl [6, 7, 8, 10] (k := ?_)
    repeat refine gwp_seq ?_
    refine gwp_region ?_
    refine v0 (k := ?_)
    refine v0 (k := ?_)
    refine s1 (hc := kVi1.h {}) (k := ?_)
    refine nil0 ?_
    refine cl [6, 7, 8, 10] (k := ?_)
    repeat refine gwp_seq ?_
    refine gwp_region ?_
    refine v0 (k := ?_)
    refine v0 (k := ?_)
    refine v0 (k := ?_)
    refine v0 (k := ?_)
    refine n1 10450 false (hc := kVi1.h {}) (k := ?_)
    refine pc0 (spec := s_with (namedN ((selN p set rs rs.length).take z)) [a, b] hnl (by simp; omega) (by simp)) (hent := ent83) (k := ?_)
    refine s1 (hc := kVi1.h {}) (k := ?_)
    refine nil0 ?_
    refine ⟨_, z + 1, lc [160, 170, 180, 2000], ?_, rfl, by omega, rfl⟩
    rw [List.take_add_one, he, Option.toList_some, toL_snoc, namedN_snoc, lastH_snoc, List.map_append]
    rfl
  · exact hK.elim
  · obtain ⟨hz, hz0, rfl⟩ := hI
    rw [List.length_map] at hz
    subst hz
    rw [List.take_length]
    have htl := toL_len 0 (selN p set rs rs.length)
    refine cl [6, 7, 8] (k := ?_)
    repeat refine gwp_seq ?_
    refine rd ?_
    refine d0 0 (k := ?_)
    refine d0 1 (k := ?_)
    refine d0 2 (k := ?_)
    refine d0 3 (k := ?_)
    refine dn1 4 510 false (hc := kVi1.h {}) (k := ?_)
    refine dn1 5 520 false (hc := kVi1.h {}) (k := ?_)
    refine d0 6 (k := ?_)
    refine ds1 7 (hc := kVi1.h {}) (k := ?_)
    refine ds1 8 (hc := kVi1.h {}) (k := ?_)
    refine dz 9 [0, 0, 2, 6, 14, 31, 0, 63, 255] (h := ?_)
    refine de 9 (h := ?_)
    repeat refine gwp_seq ?_
    refine gwp_ret ?_
    repeat (first | refine gthen_ret ?_ | refine gblock_ret ?_ | refine gnoGoto_ret ?_)
    refine finD_ret ?_
    try refine om (h3 := by simp [hpIds, obIdl, G.idl, G.idls, idls_p, mkHp_cons, mkHp_nil]) (h := ?_)
    refine out_nil ?_
    refine fp2 (hd' := by simp [toL_len]) (hR := ?_)
    simp only [stepsL, List.map_append, List.map_cons, List.map_nil]
    rfl
theorem ent76 : Enters Try.prog 76 := Enters.mk Try.func76 (by kernel_rfl) rfl
theorem s_total {E : Env Try.prog} {A : E.α} (f : Mx) (hf : MOk f) (g0 g1 g2 : P) (p : Int) (set : Nat) (rs : List Rc) (hset : set < 4096) (hrl : rs.length ≤ 12) (hri : rsIn rs) : Gh.Spec E 76 [.ptr [.p g0, .p g1, .p g2, .p (.list (rs.map pr))], .p (.int .i64 p), .p (.int .u64 (set : Nat)), .ptr ((mat (f)).map G.p)] (mkHp []) A (fun y => y = .ok (.p (.int .i64 (totV f (stepsL (selN p set rs rs.length))))) (mkHp []) A) := by
  refine spec_of Try.func76 (rfl : Try.f76.body = some _) (Nat.le_of_ble_eq_true rfl) (fun id h => ?_) (fun j id h => ?_) ?_
  · exact wf1x h
  · exact wf2x h
  intro C hN hL
  replace hN : C.N = 33 := hN
  simp only [Gh.num, List.map_cons, List.map_nil, Nat.reduceAdd]
  have hst1 : ∀ a b : Int, stP ⟨a, some b⟩ = P.iface 122 (.agg [.int .i64 a, .int .i64 b]) := fun _ _ => rfl
  have hst0 : ∀ a : Int, stP ⟨a, none⟩ = P.iface 124 (.agg [.int .i64 a]) := fun _ => rfl
  have hsl := sel_le (p := p) (set := set) (rs := rs) rs.length
  have hss := steps_len (selN p set rs rs.length)
  have hss1 := Nat.le_of_eq hss
  clear hss
  have hsz : ∀ x ∈ (stepsL (selN p set rs rs.length)).map stP, x.size = 1 := fun x hx => by obtain ⟨y, _, rfl⟩ := List.mem_map.1 hx; exact stP_size y
  repeat refine gwp_seq ?_
  refine gwp_region ?_
  refine v0 (k := ?_)
  refine nil0 ?_
  refine cl [0, 1, 2, 3, 8] (k := ?_)
  repeat refine gwp_seq ?_
  refine gwp_region ?_
  refine v0 (k := ?_)
  refine v0 (k := ?_)
  refine v0 (k := ?_)
  refine oc0 [] [] [0, 0, 0] none (spec := s_steps g0 g1 g2 p set rs hset hrl hri) (hent := ent75) (k := ?_)
  refine v0 (k := ?_)
  refine v0 (k := ?_)
  refine v0 (k := ?_)
  refine v0 (k := ?_)
  refine v0 (k := ?_)
  refine nil0 ?_
  refine cl [3, 8, 9] (k := ?_)
  repeat refine gwp_seq ?_
  refine gwp_region ?_
  refine v0 (k := ?_)
  refine v0 (k := ?_)
  refine v0 (k := ?_)
  refine nil0 ?_
  refine cl [3, 8, 20, 21, 22] (k := ?_)
  repeat refine gwp_seq ?_
  refine gwp_block ?_
  repeat refine gwp_seq ?_
  refine gc_loop (fun mz σ => ∃ k : Nat, (k ≤ (stepsL (selN p set rs rs.length)).length) ∧ mz = (stepsL (selN p set rs rs.length)).length - k ∧ σ = (sg [(3, .ptr ((mat (f)).map G.p)), (8, .p (.int .i64 (totV f ((stepsL (selN p set rs rs.length)).take k)))), (20, .p (.list ((stepsL (selN p set rs rs.length)).map stP))), (21, .p (.int .i64 ((stepsL (selN p set rs rs.length)).length : Nat))), (22, .p (.int .i64 (k : Nat)))] [] A [] : Sg E)) ?_ (fun mz σ hI => ?_)
  · refine lbeg [3, 8, 20, 21, 22] (hV := ?_)
    exact ⟨_, 0, by omega, rfl, rfl⟩
  obtain ⟨k, hk, hn, rfl⟩ := hI
  have htv := totV_in hf ((stepsL (selN p set rs rs.length)).take k)
  have htl := List.length_take_le k (stepsL (selN p set rs rs.length))
  repeat refine gwp_seq ?_
  refine gwp_region ?_
  refine v0 (k := ?_)
  refine nil0 ?_
  repeat refine gwp_seq ?_
  refine cB (k1 := fun hb1 => ?_) (k0 := fun hb1 => ?_)
  · replace hb1 := hB.h {} hb1
    repeat refine gwp_seq ?_
    refine gwp_skip ?_
    refine cl [3, 8, 20, 21, 22] (k := ?_)
    repeat refine gwp_seq ?_
    refine gwp_block ?_
    repeat refine gwp_seq ?_
    obtain ⟨x, hx⟩ := getE (l := (stepsL (selN p set rs rs.length))) (k := k) (by omega)
    have hxi := steps_in (sel_in hri) x (List.mem_of_getElem? hx)
    have hlv := leastV_in hf x
    obtain ⟨xa, xb⟩ := x
    obtain ⟨hxa, hxb⟩ := hxi
    simp only at hxa
    obtain ⟨a, rfl⟩ : ∃ a : Nat, xa = a := ⟨xa.toNat, by omega⟩
    rcases xb with _ | b
    · repeat refine gwp_seq ?_
      refine gwp_region ?_
      refine v1 (hc := kVi1.h {}) (k := ?_)
      refine v0 (k := ?_)
      refine v0 (k := ?_)
      refine nil0 ?_
      refine cl [3, 8, 12, 20, 21, 22] (k := ?_)
      repeat refine gwp_seq ?_
      refine gwp_region ?_
      refine v0 (k := ?_)
      refine v0 (k := ?_)
      refine v0 (k := ?_)
      refine oc0 [] [] [0, 0] none (spec := s_end_least f a) (hent := ent137) (k := ?_)
      refine v1 (hc := kVi1.h {}) (k := ?_)
      refine v0 (k := ?_)
      refine nil0 ?_
      refine cl [3, 8, 20, 21, 22] (k := ?_)
      repeat refine gwp_seq ?_
      refine gwp_region ?_
      refine v1 (hc := kVi1.h {}) (k := ?_)
      refine v0 (k := ?_)
      refine nil0 ?_
      refine lend [3, 8, 20, 21, 22] (h := ?_) (hV := ?_) (n' := (stepsL (selN p set rs rs.length)).length - (k + 1))
      · omega
      exact ⟨k + 1, by omega, rfl, sgE (by rw [totV_take hx]; rfl) rfl⟩
    · have hb2 := hxb b rfl
      obtain ⟨b, rfl⟩ : ∃ b2 : Nat, b = b2 := ⟨b.toNat, by omega⟩
      have hd1 := hf.le a b
      have hd2 := hf.nn a b
      simp only [NEV] at hd1
      repeat refine gwp_seq ?_
      refine gwp_region ?_
      refine v1 (hc := kVi1.h {}) (k := ?_)
      refine v0 (k := ?_)
      refine v0 (k := ?_)
      refine nil0 ?_
      refine cl [3, 8, 12, 20, 21, 22] (k := ?_)
      repeat refine gwp_seq ?_
      refine gwp_region ?_
      refine v0 (k := ?_)
      refine v0 (k := ?_)
      refine v0 (k := ?_)
      refine oc0 [] [] [0, 0] none (spec := s_to_least f a b (by omega) (by omega)) (hent := ent135) (k := ?_)
      refine v1 (hc := kVi1.h {}) (k := ?_)
      refine v0 (k := ?_)
      refine nil0 ?_
      refine cl [3, 8, 20, 21, 22] (k := ?_)
      repeat refine gwp_seq ?_
      refine gwp_region ?_
      refine v1 (hc := kVi1.h {}) (k := ?_)
      refine v0 (k := ?_)
      refine nil0 ?_
      refine lend [3, 8, 20, 21, 22] (h := ?_) (hV := ?_) (n' := (stepsL (selN p set rs rs.length)).length - (k + 1))
      · omega
      exact ⟨k + 1, by omega, rfl, sgE (by rw [totV_take hx]; rfl) rfl⟩
  · replace hb1 := hB.h {} hb1
    repeat refine gwp_seq ?_
    refine gwp_exit ?_
    repeat (first | refine gthen_exit ?_ | refine gnoGoto_exit ?_ | refine gblock_here ?_ | refine gblock_out rfl ?_)
    refine cl [8] (k := ?_)
    repeat refine gwp_seq ?_
    refine gwp_region ?_
    refine v0 (k := ?_)
    refine v0 (k := ?_)
    refine nil0 ?_
    repeat refine gwp_seq ?_
    refine gwp_ret ?_
    repeat (first | refine gthen_ret ?_ | refine gblock_ret ?_ | refine gnoGoto_ret ?_)
    refine fin_ret ?_
    refine fp (hR := ?_)
    obtain rfl : k = (stepsL (selN p set rs rs.length)).length := by omega
    rw [List.take_length]
theorem ent64 : Enters Try.prog 64 := Enters.mk Try.func64 (by kernel_rfl) rfl
theorem s_all {E : Env Try.prog} {A : E.α} (f : Mx) (hf : MOk f) (pl : Nat) (hpl : pl ≤ 4) (g1 g2 g4 : P) (set : Nat) (rs : List Rc) (hset : set < 4096) (hrl : rs.length ≤ 12) (hri : rsIn rs) : Gh.Spec E 64 [.ptr [.p (.int .i64 (pl : Nat)), .p g1, .p g2, .p (.list (rs.map pr)), .p g4, .ptr ((mat (f)).map G.p)], .p (.int .u64 (set : Nat))] (mkHp []) A (fun y => y = .ok (.p (.int .i64 (allV f rs set pl))) (mkHp []) A) := by
  refine spec_of Try.func64 (rfl : Try.f64.body = some _) (Nat.le_of_ble_eq_true rfl) (fun id h => ?_) (fun j id h => ?_) ?_
  · exact wf1x h
  · exact wf2x h
  intro C hN hL
  replace hN : C.N = 26 := hN
  simp only [Gh.num, List.map_cons, List.map_nil, Nat.reduceAdd]
  repeat refine gwp_seq ?_
  refine gwp_region ?_
  refine v0 (k := ?_)
  refine nil0 ?_
  refine cl [0, 1, 4] (k := ?_)
  repeat refine gwp_seq ?_
  refine gwp_region ?_
  refine v0 (k := ?_)
  refine v0 (k := ?_)
  refine v0 (k := ?_)
  refine v0 (k := ?_)
  refine v0 (k := ?_)
  refine v0 (k := ?_)
  refine nil0 ?_
  refine cl [0, 1, 4, 10, 11] (k := ?_)
  repeat refine gwp_seq ?_
  refine gwp_block ?_
  repeat refine gwp_seq ?_
  refine gc_loop (fun mz σ => ∃ k : Nat, (k ≤ pl) ∧ mz = pl - k ∧ σ = (sg [(0, .ptr [.p (.int .i64 (pl : Nat)), .p g1, .p g2, .p (.list (rs.map pr)), .p g4, .ptr ((mat (f)).map G.p)]), (1, .p (.int .u64 (set : Nat))), (4, .p (.int .i64 (allV f rs set k))), (10, .p (.int .i64 (pl : Nat))), (11, .p (.int .i64 (k : Nat)))] [] A [] : Sg E)) ?_ (fun mz σ hI => ?_)
  · refine lbeg [0, 1, 4, 10, 11] (hV := ?_)
    exact ⟨_, 0, by omega, rfl, rfl⟩
  obtain ⟨k, hk, hn, rfl⟩ := hI
  have htv := allV_in hf rs set hrl k
  repeat refine gwp_seq ?_
  refine gwp_region ?_
  refine v0 (k := ?_)
  refine nil0 ?_
  repeat refine gwp_seq ?_
  refine cB (k1 := fun hb1 => ?_) (k0 := fun hb1 => ?_)
  · replace hb1 := hB.h {} hb1
    repeat refine gwp_seq ?_
    refine gwp_skip ?_
    refine cl [0, 1, 4, 10, 11] (k := ?_)
    repeat refine gwp_seq ?_
    refine gwp_block ?_
    repeat refine gwp_seq ?_
    refine gwp_region ?_
    refine v0 (k := ?_)
    refine v0 (k := ?_)
    refine nil0 ?_
    refine cl [0, 1, 4, 5, 10, 11] (k := ?_)
    repeat refine gwp_seq ?_
    have htw := allV_in hf rs set hrl (k + 1)
    simp only [allV] at htw
    refine gwp_region ?_
    refine v0 (k := ?_)
    refine v0 (k := ?_)
    refine v0 (k := ?_)
    refine v0 (k := ?_)
    refine v0 (k := ?_)
    refine v0 (k := ?_)
    refine v0 (k := ?_)
    refine v0 (k := ?_)
    refine oc0 [] [] [7, 0, 0, 0] none (spec := s_total f hf (.int .i64 (pl : Nat)) g1 g2 (k : Nat) set rs hset hrl hri) (hent := ent76) (k := ?_)
    refine v1 (hc := kVi1.h {}) (k := ?_)
    refine v0 (k := ?_)
    refine nil0 ?_
    refine cl [0, 1, 4, 10, 11] (k := ?_)
    repeat refine gwp_seq ?_
    refine gwp_region ?_
    refine v1 (hc := kVi1.h {}) (k := ?_)
    refine v0 (k := ?_)
    refine nil0 ?_
    refine lend [0, 1, 4, 10, 11] (h := ?_) (hV := ?_) (n' := pl - (k + 1))
    · omega
    exact ⟨k + 1, by omega, rfl, rfl⟩
  · replace hb1 := hB.h {} hb1
    repeat refine gwp_seq ?_
    refine gwp_exit ?_
    repeat (first | refine gthen_exit ?_ | refine gnoGoto_exit ?_ | refine gblock_here ?_ | refine gblock_out rfl ?_)
    refine cl [4] (k := ?_)
    repeat refine gwp_seq ?_
    refine gwp_region ?_
    refine v0 (k := ?_)
    refine v0 (k := ?_)
    refine nil0 ?_
    repeat refine gwp_seq ?_
    refine gwp_ret ?_
    repeat (first | refine gthen_ret ?_ | refine gblock_ret ?_ | refine gnoGoto_ret ?_)
    refine fin_ret ?_
    refine fp (hR := ?_)
    obtain rfl : k = pl := by omega
    rfl
end Go.Proofs.Ytagdholenfkeaaa

/- The program: Least; chains that have a truth. -/
namespace Go.Proofs.Ytagdholenfkeaaa
open Go.Gh
set_option maxRecDepth 100000
set_option maxHeartbeats 4000000
structure kVj1 (c : Prop) : Prop where
  h : c := by (first | exact True.intro | (simp only [inI]; omega) | (simp [P.size, pr, pk, all_int, allOne_p, goods_p, allOne, goods, good, G.one, P.one, P.cells] <;> first | omega | assumption | simp_all))
/-- The least number of unwritten times of a chain. -/
def leastC (c : Ch) : Int := allV (D (eF c.kn (-1))) c.rs (allS c.rs.length) c.pl.toNat
theorem leastC_in {c : Ch} (h : c.valid = true) : 0 ≤ leastC c ∧ leastC c ≤ 54525952 := by
  have hn := valid_num h
  have := allV_in (D_ok (eF c.kn (-1))) c.rs (allS c.rs.length) (by omega) c.pl.toNat
  simp only [leastC]; omega
theorem s_allC {E : Env Try.prog} {A : E.α} (c : Ch) (hv : c.valid = true) : Gh.Spec E 64 [.ptr [.p (.int .i64 c.pl), .p (.int .i64 c.ps), .p (.list (c.kn.map pk)), .p (.list (c.rs.map pr)), .p (.int .i64 c.ms), .ptr ((mat (D (eF c.kn (-1)))).map G.p)], .p (.int .u64 (allS c.rs.length : Nat))] (mkHp []) A (fun y => y = .ok (.p (.int .i64 (leastC c))) (mkHp []) A) := by
  have hn := valid_num hv
  have := s_all (E := E) (A := A) (D (eF c.kn (-1))) (D_ok _) c.pl.toNat (by omega) (.int .i64 c.ps) (.list (c.kn.map pk)) (.int .i64 c.ms) (allS c.rs.length) c.rs (allS_lt (by omega)) (by omega) (valid_in hv)
  rw [show ((c.pl.toNat : Nat) : Int) = c.pl by omega] at this
  exact this
theorem ent21 : Enters Try.prog 21 := Enters.mk Try.func21 (by kernel_rfl) rfl
theorem p_least_f {E : Env Try.prog} {A : E.α} (c : Ch) (h1 : c.kn.length ≤ 1048576) (h2 : c.rs.length ≤ 1048576) (hv : c.valid = false)  : Gh.Spec E 21 [.p (.agg [.int .i64 c.pl, .int .i64 c.ps, .list (c.kn.map pk), .list (c.rs.map pr), .int .i64 c.ms])] (mkHp []) A (fun y => y = .ok (.p (.tuple [.int .i64 0, .int .i64 1])) (mkHp []) A) := by
  refine specD_of Try.func21 (rfl : Try.f21.body = some _) (Nat.le_of_ble_eq_true rfl) (fun id h => ?_) (fun j id h => ?_) ?_
  · exact wf1x h
  · exact wf2x h
  intro C hN hL
  replace hN : C.N = 17 := hN
  simp only [Gh.num, List.map_cons, List.map_nil, Nat.reduceAdd]
  repeat refine gwp_seq ?_
  refine gwp_region ?_
  refine n1 110 false (hc := kVj1.h {}) (k := ?_)
  refine v0 (k := ?_)
  refine n1 130 false (hc := kVj1.h {}) (k := ?_)
  refine nil0 ?_
  refine cl [1, 2, 3] (k := ?_)
  repeat refine gwp_seq ?_
  refine gwp_region ?_
  refine v0 (k := ?_)
  refine df0 (k := ?_)
  refine nil0 ?_
  refine cl [1, 2, 3] (k := ?_)
  repeat refine gwp_seq ?_
  refine gwp_region ?_
  refine v0 (k := ?_)
  refine op0 [] [] [1, 0] none (spec := s_open_f0 c h1 h2 63  hv) (hent := ent43) (k := ?_)
  repeat (first | refine gthen_panic ?_ | refine gblock_panic ?_)
  refine finD_panic ?_
  refine ocall [130] [(0, 130)] (spec := d_some62 0 1) (hent := ent62) (h := ?_)
  refine out_nil ?_
  refine fp2 (hR := ?_)
  rfl
theorem p_least_t {E : Env Try.prog} {A : E.α} (c : Ch) (hv : c.valid = true)   (hc : leastC c < 1048576) : Gh.Spec E 21 [.p (.agg [.int .i64 c.pl, .int .i64 c.ps, .list (c.kn.map pk), .list (c.rs.map pr), .int .i64 c.ms])] (mkHp []) A (fun y => y = .ok (.p (.tuple [.int .i64 (leastC c), .int .i64 0])) (mkHp []) A) := by
  refine specD_of Try.func21 (rfl : Try.f21.body = some _) (Nat.le_of_ble_eq_true rfl) (fun id h => ?_) (fun j id h => ?_) ?_
  · exact wf1x h
  · exact wf2x h
  intro C hN hL
  replace hN : C.N = 17 := hN
  simp only [Gh.num, List.map_cons, List.map_nil, Nat.reduceAdd]
  have hn := valid_num hv
  have hlc := leastC_in hv
  repeat refine gwp_seq ?_
  refine gwp_region ?_
  refine n1 110 false (hc := kVj1.h {}) (k := ?_)
  refine v0 (k := ?_)
  refine n1 130 false (hc := kVj1.h {}) (k := ?_)
  refine nil0 ?_
  refine cl [1, 2, 3] (k := ?_)
  repeat refine gwp_seq ?_
  refine gwp_region ?_
  refine v0 (k := ?_)
  refine df0 (k := ?_)
  refine nil0 ?_
  refine cl [1, 2, 3] (k := ?_)
  repeat refine gwp_seq ?_
  refine gwp_region ?_
  refine v0 (k := ?_)
  refine oc0 [(200, 5000)] [] [1, 0] none (spec := s_open_t0 c 63  true (q_63 c hv ) ent63 hv rfl) (hent := ent43) (hgr := by (simp only [G.ren, G.rens, rens_p, Gh.look, Nat.reduceEqDiff, reduceIte] <;> rfl)) (k := ?_)
  refine v0 (k := ?_)
  refine nil0 ?_
  refine cl [2, 3, 4] (k := ?_)
  repeat refine gwp_seq ?_
  refine gwp_region ?_
  refine v0 (k := ?_)
  refine v0 (k := ?_)
  refine oc0 [] [] [7] none (spec := s_everyN (.int .i64 c.pl) (.int .i64 c.ps) (.list (c.kn.map pk)) c.rs (by omega)) (hent := ent55) (k := ?_)
  refine oc0 [] [] [9, 0] none (spec := s_allC c hv) (hent := ent64) (k := ?_)
  refine v0 (k := ?_)
  refine nil0 ?_
  refine cl [2, 3, 5] (k := ?_)
  repeat refine gwp_seq ?_
  refine gwp_region ?_
  refine v0 (k := ?_)
  refine v0 (k := ?_)
  refine rb 14 true (h := by (first | exact decide_eq_true hc | exact decide_eq_true trivial)) (k := ?_)
  refine pc0 (spec := s_need_t _) (hent := ent58) (k := ?_)
  refine nil0 ?_
  refine cl [2, 3, 5] (k := ?_)
  repeat refine gwp_seq ?_
  refine gwp_region ?_
  refine v0 (k := ?_)
  refine v0 (k := ?_)
  refine s1 (hc := kVj1.h {}) (k := ?_)
  refine nil0 ?_
  repeat refine gwp_seq ?_
  refine gwp_ret ?_
  repeat (first | refine gthen_ret ?_ | refine gblock_ret ?_ | refine gnoGoto_ret ?_)
  refine finD_ret ?_
  refine ocall [130] [(0, 130)] (spec := d_none62 0) (hent := ent62) (h := ?_)
  refine out_nil ?_
  refine fp2 (hR := ?_)
  rfl
theorem p_least_c {E : Env Try.prog} {A : E.α} (c : Ch) (hv : c.valid = true) (hc : ¬ leastC c < 1048576) : Gh.Spec E 21 [.p (.agg [.int .i64 c.pl, .int .i64 c.ps, .list (c.kn.map pk), .list (c.rs.map pr), .int .i64 c.ms])] (mkHp []) A (fun y => y = .ok (.p (.tuple [.int .i64 0, .int .i64 10])) (mkHp []) A) := by
  refine specD_of Try.func21 (rfl : Try.f21.body = some _) (Nat.le_of_ble_eq_true rfl) (fun id h => ?_) (fun j id h => ?_) ?_
  · exact wf1x h
  · exact wf2x h
  intro C hN hL
  replace hN : C.N = 17 := hN
  simp only [Gh.num, List.map_cons, List.map_nil, Nat.reduceAdd]
  have hn := valid_num hv
  have hlc := leastC_in hv
  repeat refine gwp_seq ?_
  refine gwp_region ?_
  refine n1 110 false (hc := kVj1.h {}) (k := ?_)
  refine v0 (k := ?_)
  refine n1 130 false (hc := kVj1.h {}) (k := ?_)
  refine nil0 ?_
  refine cl [1, 2, 3] (k := ?_)
  repeat refine gwp_seq ?_
  refine gwp_region ?_
  refine v0 (k := ?_)
  refine df0 (k := ?_)
  refine nil0 ?_
  refine cl [1, 2, 3] (k := ?_)
  repeat refine gwp_seq ?_
  refine gwp_region ?_
  refine v0 (k := ?_)
  refine oc0 [(200, 5000)] [] [1, 0] none (spec := s_open_t0 c 63 true (q_63 c hv) ent63 hv rfl) (hent := ent43) (hgr := by (simp only [G.ren, G.rens, rens_p, Gh.look, Nat.reduceEqDiff, reduceIte] <;> rfl)) (k := ?_)
  refine v0 (k := ?_)
  refine nil0 ?_
  refine cl [2, 3, 4] (k := ?_)
  repeat refine gwp_seq ?_
  refine gwp_region ?_
  refine v0 (k := ?_)
  refine v0 (k := ?_)
  refine oc0 [] [] [7] none (spec := s_everyN (.int .i64 c.pl) (.int .i64 c.ps) (.list (c.kn.map pk)) c.rs (by omega)) (hent := ent55) (k := ?_)
  refine oc0 [] [] [9, 0] none (spec := s_allC c hv) (hent := ent64) (k := ?_)
  refine v0 (k := ?_)
  refine nil0 ?_
  refine cl [2, 3, 5] (k := ?_)
  repeat refine gwp_seq ?_
  refine gwp_region ?_
  refine v0 (k := ?_)
  refine v0 (k := ?_)
  refine rb 14 false (h := by (first | exact decide_eq_false hc | exact decide_eq_false id)) (k := ?_)
  refine pp0 (spec := s_need_f _) (hent := ent58) (k := ?_)
  repeat (first | refine gthen_panic ?_ | refine gblock_panic ?_)
  refine finD_panic ?_
  refine ocall [130] [(0, 130)] (spec := d_some62 0 10) (hent := ent62) (h := ?_)
  refine out_nil ?_
  refine fp2 (hR := ?_)
  rfl
theorem ent68 : Enters Try.prog 68 := Enters.mk Try.func68 (by kernel_rfl) rfl
theorem s_truth_t1 {E : Env Try.prog} {A : E.α} (c : Ch) (fi : FuncId) (x : Int) (q : Bool) (hsp : Gh.Spec E fi [.ptr [.p (.int .i64 c.pl), .p (.int .i64 c.ps), .p (.list (c.kn.map pk)), .p (.list (c.rs.map pr)), .p (.int .i64 c.ms)], .ptr [.p (.int .i64 x)]] (mkHp []) A fun z => z = .ok (.p (.bool q)) (mkHp []) A) (entfi : Enters Try.prog fi) (hv : c.valid = true) (hq : q = true) (hc : leastC c ≤ c.ms) : Gh.Spec E 68 [.p (.agg [.int .i64 c.pl, .int .i64 c.ps, .list (c.kn.map pk), .list (c.rs.map pr), .int .i64 c.ms]), .fn (.func fi) [] [.ptr [.p (.int .i64 x)]]] (mkHp []) A (fun y => y = .ok (.tuple [.ptr [.p (.int .i64 c.pl), .p (.int .i64 c.ps), .p (.list (c.kn.map pk)), .p (.list (c.rs.map pr)), .p (.int .i64 c.ms), .ptr ((mat (D (eF c.kn (-1)))).map G.p), .map 300], .p (.int .i64 (c.ms - leastC c))]) (mkHp [(300, .map [])]) A) := by
  refine spec_of Try.func68 (rfl : Try.f68.body = some _) (Nat.le_of_ble_eq_true rfl) (fun id h => ?_) (fun j id h => ?_) ?_
  · exact wf1x h
  · exact wf2x h
  intro C hN hL
  replace hN : C.N = 24 := hN
  simp only [Gh.num, List.map_cons, List.map_nil, Nat.reduceAdd]
  have hn := valid_num hv
  have hlc := leastC_in hv
  repeat refine gwp_seq ?_
  refine gwp_region ?_
  refine n1 120 false (hc := kVj1.h {}) (k := ?_)
  refine v0 (k := ?_)
  refine v0 (k := ?_)
  refine nil0 ?_
  refine cl [1, 2] (k := ?_)
  repeat refine gwp_seq ?_
  refine gwp_region ?_
  refine v0 (k := ?_)
  refine v0 (k := ?_)
  refine oc0 [(200, 300)] [] [1, 0] none (spec := s_open_t1 c fi x q hsp entfi hv hq) (hent := ent43) (hgr := by (simp only [G.ren, G.rens, rens_p, Gh.look, Nat.reduceEqDiff, reduceIte] <;> rfl)) (k := ?_)
  refine v0 (k := ?_)
  refine nil0 ?_
  refine cl [4] (k := ?_)
  repeat refine gwp_seq ?_
  refine rd ?_
  refine d0 0 (k := ?_)
  refine d0 1 (k := ?_)
  refine d0 2 (k := ?_)
  refine d0 3 (k := ?_)
  refine d0 4 (k := ?_)
  refine d0 5 (k := ?_)
  refine d0 6 (k := ?_)
  refine doc0 7 [] [] [7] none (spec := s_everyN (.int .i64 c.pl) (.int .i64 c.ps) (.list (c.kn.map pk)) c.rs (by omega)) (hent := ent55) (k := ?_)
  refine doc0 8 [] [] [9, 0] none (spec := s_allC c hv) (hent := ent64) (k := ?_)
  refine d1 9 (hc := kVj1.h {}) (k := ?_)
  refine d0 10 (k := ?_)
  refine dz 11 [0, 1, 3, 7, 15, 0, 0, 64, 224, 511, 1023] (h := ?_)
  refine de 11 (h := ?_)
  refine cl [4, 5] (k := ?_)
  repeat refine gwp_seq ?_
  refine gwp_region ?_
  refine v0 (k := ?_)
  refine v0 (k := ?_)
  refine rb 20 true (h := by (exact decide_eq_true (by omega))) (k := ?_)
  refine pc0 (spec := s_need_t _) (hent := ent58) (k := ?_)
  refine nil0 ?_
  refine cl [4, 5] (k := ?_)
  repeat refine gwp_seq ?_
  refine gwp_region ?_
  refine v0 (k := ?_)
  refine v0 (k := ?_)
  refine v0 (k := ?_)
  refine v0 (k := ?_)
  refine nil0 ?_
  repeat refine gwp_seq ?_
  refine gwp_ret ?_
  repeat (first | refine gthen_ret ?_ | refine gblock_ret ?_ | refine gnoGoto_ret ?_)
  refine fin_ret ?_
  refine fh2 [300] (hR := ?_)
  rfl
theorem s_truth_c1 {E : Env Try.prog} {A : E.α} (c : Ch) (fi : FuncId) (x : Int) (q : Bool) (hsp : Gh.Spec E fi [.ptr [.p (.int .i64 c.pl), .p (.int .i64 c.ps), .p (.list (c.kn.map pk)), .p (.list (c.rs.map pr)), .p (.int .i64 c.ms)], .ptr [.p (.int .i64 x)]] (mkHp []) A fun z => z = .ok (.p (.bool q)) (mkHp []) A) (entfi : Enters Try.prog fi) (hv : c.valid = true) (hq : q = true) (hc : ¬ leastC c ≤ c.ms) : Gh.Spec E 68 [.p (.agg [.int .i64 c.pl, .int .i64 c.ps, .list (c.kn.map pk), .list (c.rs.map pr), .int .i64 c.ms]), .fn (.func fi) [] [.ptr [.p (.int .i64 x)]]] (mkHp []) A (fun y => y = .panic (.iface 113 (.agg [.int .i64 10])) (mkHp []) A) := by
  refine spec_of Try.func68 (rfl : Try.f68.body = some _) (Nat.le_of_ble_eq_true rfl) (fun id h => ?_) (fun j id h => ?_) ?_
  · exact wf1x h
  · exact wf2x h
  intro C hN hL
  replace hN : C.N = 24 := hN
  simp only [Gh.num, List.map_cons, List.map_nil, Nat.reduceAdd]
  have hn := valid_num hv
  have hlc := leastC_in hv
  repeat refine gwp_seq ?_
  refine gwp_region ?_
  refine n1 120 false (hc := kVj1.h {}) (k := ?_)
  refine v0 (k := ?_)
  refine v0 (k := ?_)
  refine nil0 ?_
  refine cl [1, 2] (k := ?_)
  repeat refine gwp_seq ?_
  refine gwp_region ?_
  refine v0 (k := ?_)
  refine v0 (k := ?_)
  refine oc0 [(200, 300)] [] [1, 0] none (spec := s_open_t1 c fi x q hsp entfi hv hq) (hent := ent43) (hgr := by (simp only [G.ren, G.rens, rens_p, Gh.look, Nat.reduceEqDiff, reduceIte] <;> rfl)) (k := ?_)
  refine v0 (k := ?_)
  refine nil0 ?_
  refine cl [4] (k := ?_)
  repeat refine gwp_seq ?_
  refine rd ?_
  refine d0 0 (k := ?_)
  refine d0 1 (k := ?_)
  refine d0 2 (k := ?_)
  refine d0 3 (k := ?_)
  refine d0 4 (k := ?_)
  refine d0 5 (k := ?_)
  refine d0 6 (k := ?_)
  refine doc0 7 [] [] [7] none (spec := s_everyN (.int .i64 c.pl) (.int .i64 c.ps) (.list (c.kn.map pk)) c.rs (by omega)) (hent := ent55) (k := ?_)
  refine doc0 8 [] [] [9, 0] none (spec := s_allC c hv) (hent := ent64) (k := ?_)
  refine d1 9 (hc := kVj1.h {}) (k := ?_)
  refine d0 10 (k := ?_)
  refine dz 11 [0, 1, 3, 7, 15, 0, 0, 64, 224, 511, 1023] (h := ?_)
  refine de 11 (h := ?_)
  refine cl [4, 5] (k := ?_)
  repeat refine gwp_seq ?_
  refine gwp_region ?_
  refine v0 (k := ?_)
  refine v0 (k := ?_)
  refine rb 20 false (h := by (exact decide_eq_false (by omega))) (k := ?_)
  refine pp0 (spec := s_need_f _) (hent := ent58) (k := ?_)
  repeat (first | refine gthen_panic ?_ | refine gblock_panic ?_)
  refine fph [] (hR := ?_)
  rfl
theorem s_truth_r1 {E : Env Try.prog} {A : E.α} (c : Ch) (fi : FuncId) (x : Int) (q : Bool) (hsp : Gh.Spec E fi [.ptr [.p (.int .i64 c.pl), .p (.int .i64 c.ps), .p (.list (c.kn.map pk)), .p (.list (c.rs.map pr)), .p (.int .i64 c.ms)], .ptr [.p (.int .i64 x)]] (mkHp []) A fun z => z = .ok (.p (.bool q)) (mkHp []) A) (entfi : Enters Try.prog fi) (hv : c.valid = true) (hq : q = false) : Gh.Spec E 68 [.p (.agg [.int .i64 c.pl, .int .i64 c.ps, .list (c.kn.map pk), .list (c.rs.map pr), .int .i64 c.ms]), .fn (.func fi) [] [.ptr [.p (.int .i64 x)]]] (mkHp []) A (fun y => y = .panic (.iface 113 (.agg [.int .i64 2])) (mkHp []) A) := by
  refine spec_of Try.func68 (rfl : Try.f68.body = some _) (Nat.le_of_ble_eq_true rfl) (fun id h => ?_) (fun j id h => ?_) ?_
  · exact wf1x h
  · exact wf2x h
  intro C hN hL
  replace hN : C.N = 24 := hN
  simp only [Gh.num, List.map_cons, List.map_nil, Nat.reduceAdd]
  have hn := valid_num hv
  repeat refine gwp_seq ?_
  refine gwp_region ?_
  refine n1 120 false (hc := kVj1.h {}) (k := ?_)
  refine v0 (k := ?_)
  refine v0 (k := ?_)
  refine nil0 ?_
  refine cl [1, 2] (k := ?_)
  repeat refine gwp_seq ?_
  refine gwp_region ?_
  refine v0 (k := ?_)
  refine v0 (k := ?_)
  refine op0 [] [] [1, 0] none (spec := s_open_r1 c fi x q hsp entfi hv hq) (hent := ent43) (k := ?_)
  repeat (first | refine gthen_panic ?_ | refine gblock_panic ?_)
  refine fph [] (hR := ?_)
  rfl
theorem s_truth_f1 {E : Env Try.prog} {A : E.α} (c : Ch) (h1 : c.kn.length ≤ 1048576) (h2 : c.rs.length ≤ 1048576) (fi : FuncId) (x : Int) (hv : c.valid = false) : Gh.Spec E 68 [.p (.agg [.int .i64 c.pl, .int .i64 c.ps, .list (c.kn.map pk), .list (c.rs.map pr), .int .i64 c.ms]), .fn (.func fi) [] [.ptr [.p (.int .i64 x)]]] (mkHp []) A (fun y => y = .panic (.iface 113 (.agg [.int .i64 1])) (mkHp []) A) := by
  refine spec_of Try.func68 (rfl : Try.f68.body = some _) (Nat.le_of_ble_eq_true rfl) (fun id h => ?_) (fun j id h => ?_) ?_
  · exact wf1x h
  · exact wf2x h
  intro C hN hL
  replace hN : C.N = 24 := hN
  simp only [Gh.num, List.map_cons, List.map_nil, Nat.reduceAdd]
  repeat refine gwp_seq ?_
  refine gwp_region ?_
  refine n1 120 false (hc := kVj1.h {}) (k := ?_)
  refine v0 (k := ?_)
  refine v0 (k := ?_)
  refine nil0 ?_
  refine cl [1, 2] (k := ?_)
  repeat refine gwp_seq ?_
  refine gwp_region ?_
  refine v0 (k := ?_)
  refine v0 (k := ?_)
  refine op0 [] [] [1, 0] none (spec := s_open_f1 c h1 h2 fi x hv) (hent := ent43) (k := ?_)
  repeat (first | refine gthen_panic ?_ | refine gblock_panic ?_)
  refine fph [] (hR := ?_)
  rfl
end Go.Proofs.Ytagdholenfkeaaa

/- The program: what is asked of a person. -/
namespace Go.Proofs.Ytagdholenfkeaaa
open Go.Gh
set_option maxRecDepth 100000
set_option maxHeartbeats 4000000
/-- Has a person surely had a plate? -/
def sureQ (c : Ch) (x : Int) (named : Nat) (lim : Int) (u : Nat) : Bool := named.testBit u || decide ((totV (D (eF c.kn (u : Nat))) (stepsL (selN x (allS c.rs.length) c.rs c.rs.length))) > lim)
theorem ent77 : Enters Try.prog 77 := Enters.mk Try.func77 (by kernel_rfl) rfl
theorem s_surely {E : Env Try.prog} {A : E.α} (c : Ch) (hv : c.valid = true) (x own more : Int) (ho : 0 ≤ own ∧ own ≤ 13631488) (hm : 0 ≤ more ∧ more ≤ 20) (named u : Nat) (hnm : named < 256) (hu : u < 8) : Gh.Spec E 77 [.p (.int .i64 (u : Nat)), .ptr [.p (.int .u64 (named : Nat))], .ptr [.ptr [.p (.int .i64 c.pl), .p (.int .i64 c.ps), .p (.list (c.kn.map pk)), .p (.list (c.rs.map pr)), .p (.int .i64 c.ms), .ptr ((mat (D (eF c.kn (-1)))).map G.p)]], .ptr [.p (.int .i64 x)], .ptr [.p (.int .i64 own)], .ptr [.p (.int .i64 more)]] (mkHp []) A (fun y => y = .ok (.p (.bool (sureQ c x named (own + more) u))) (mkHp []) A) := by
  refine spec_of Try.func77 (rfl : Try.f77.body = some _) (Nat.le_of_ble_eq_true rfl) (fun id h => ?_) (fun j id h => ?_) ?_
  · exact wf1x h
  · exact wf2x h
  intro C hN hL
  replace hN : C.N = 25 := hN
  simp only [Gh.num, List.map_cons, List.map_nil, Nat.reduceAdd]
  have hn := valid_num hv
  have hal := allS_lt (n := c.rs.length) (by omega)
  repeat refine gwp_seq ?_
  refine gwp_region ?_
  refine v0 (k := ?_)
  refine nil0 ?_
  refine cl [0, 1, 2, 3, 4, 5] (k := ?_)
  repeat refine gwp_seq ?_
  rcases hq1 : named.testBit u with _ | _
  · repeat refine gwp_seq ?_
    refine rd ?_
    refine d0 0 (k := ?_)
    refine d0 1 (k := ?_)
    refine dpc0 2 (spec := s_hasp named u (by omega) (by omega)) (hent := ent78) (k := ?_)
    refine d0 3 (k := ?_)
    refine dw0 4 (k := ?_)
    refine dw0 5 (k := ?_)
    refine dw0 6 (k := ?_)
    refine docw 7 [] [] [7] none (spec := s_everyN (.int .i64 c.pl) (.int .i64 c.ps) (.list (c.kn.map pk)) c.rs (by omega)) (hent := ent55) (j := 3) (b := false) (i' := 11) (k := ?_)
    refine dw0 8 (k := ?_)
    refine dw0 9 (k := ?_)
    refine docw 10 [] [] [6, 0] none (spec := s_dist (.int .i64 c.pl) (.int .i64 c.ps) c.kn (by omega) (u : Nat)) (hent := ent79) (hgr := by (simp only [G.ren, G.rens, rens_p, Gh.look, Nat.reduceEqDiff, reduceIte] <;> rfl)) (j := 3) (b := false) (i' := 11) (k := ?_)
    refine docw 11 [] [] [7, 0, 0, 0] none (spec := s_total (D (eF c.kn (u : Nat))) (D_ok _) (.int .i64 c.pl) (.int .i64 c.ps) (.list (c.kn.map pk)) x (allS c.rs.length) c.rs hal (by omega) (valid_in hv)) (hent := ent76) (j := 3) (b := false) (i' := 11) (k := ?_)
    refine dw0 12 (k := ?_)
    refine dw0 13 (k := ?_)
    refine dw1 14 (hc := by (first | exact True.intro | (simp only [inI]; omega) | (simp [P.size, pr, pk, all_int, allOne_p, goods_p, allOne, goods, good, G.one, P.one, P.cells] <;> first | omega | assumption | simp_all))) (k := ?_)
    refine dw0 15 (k := ?_)
    refine d0 16 (k := ?_)
    refine d0 17 (k := ?_)
    refine dz 18 [0, 0, 3, 7, 15, 15, 15, 79, 15, 15, 975, 2047, 15, 15, 12303, 32767, 65535, 131071] (h := ?_)
    refine de 18 (h := ?_)
    repeat refine gwp_seq ?_
    refine gwp_ret ?_
    repeat (first | refine gthen_ret ?_ | refine gblock_ret ?_ | refine gnoGoto_ret ?_)
    refine fin_ret ?_
    refine fp (hR := ?_)
    simp only [sureQ, hq1, Bool.true_or, Bool.false_or]
  · repeat refine gwp_seq ?_
    refine rd ?_
    refine d0 0 (k := ?_)
    refine d0 1 (k := ?_)
    refine dpc0 2 (spec := s_hasp named u (by omega) (by omega)) (hent := ent78) (k := ?_)
    refine d0 3 (k := ?_)
    refine dx0 4 (k := ?_)
    refine dx0 5 (k := ?_)
    refine dx0 6 (k := ?_)
    refine dx0 7 (k := ?_)
    refine dx0 8 (k := ?_)
    refine dx0 9 (k := ?_)
    refine dx0 10 (k := ?_)
    refine dx0 11 (k := ?_)
    refine dx0 12 (k := ?_)
    refine dx0 13 (k := ?_)
    refine dx0 14 (k := ?_)
    refine dx0 15 (k := ?_)
    refine d0 16 (k := ?_)
    refine d0 17 (k := ?_)
    refine dz 18 [0, 0, 3, 7, 15, 15, 15, 79, 15, 15, 975, 2047, 15, 15, 12303, 32767, 65535, 131071] (h := ?_)
    refine de 18 (h := ?_)
    repeat refine gwp_seq ?_
    refine gwp_ret ?_
    repeat (first | refine gthen_ret ?_ | refine gblock_ret ?_ | refine gnoGoto_ret ?_)
    refine fin_ret ?_
    refine fp (hR := ?_)
    simp only [sureQ, hq1, Bool.true_or, Bool.false_or]
end Go.Proofs.Ytagdholenfkeaaa

/- The program: by way of whom a plate can have gone. -/
namespace Go.Proofs.Ytagdholenfkeaaa
open Go.Gh
set_option maxRecDepth 100000
set_option maxHeartbeats 4000000
structure kVo1 (c : Prop) : Prop where
  h : c := by (first | exact True.intro | (simp only [inI]; omega) | (simp [P.size, pr, pk, all_int, allOne_p, goods_p, allOne, goods, good, G.one, P.one, P.cells] <;> first | omega | assumption | simp_all))
/-- A step by way of a person. -/
def byV (f : Mx) (x : St) (u : Nat) : Int := match x.b with
  | some b => f x.a.toNat u + f u b.toNat
  | none => f x.a.toNat u
def viaQ (f : Mx) (more : Int) (u : Nat) (x : St) : Bool := decide (byV f x u - leastV f x ≤ more)
theorem nk1 : nilOk Try.prog 122 "zoneworks/chain.by" = true := by kernel_rfl
theorem nk2 : nilOk Try.prog 122 "zoneworks/chain.least" = true := by kernel_rfl
theorem nk3 : nilOk Try.prog 124 "zoneworks/chain.by" = true := by kernel_rfl
theorem nk4 : nilOk Try.prog 124 "zoneworks/chain.least" = true := by kernel_rfl
theorem ent82 : Enters Try.prog 82 := Enters.mk Try.func82 (by kernel_rfl) rfl
theorem s_via {E : Env Try.prog} {A : E.α} (c : Ch) (f : Mx) (hf : MOk f) (more : Int) (hm : 0 ≤ more ∧ more ≤ 20) (u : Nat) (hu : u < 8) (s : St) (hs : stIn s) : Gh.Spec E 82 [.p (stP s), .ptr [.ptr [.p (.int .i64 c.pl), .p (.int .i64 c.ps), .p (.list (c.kn.map pk)), .p (.list (c.rs.map pr)), .p (.int .i64 c.ms), .ptr ((mat f).map G.p)]], .ptr [.p (.int .i64 (u : Nat))], .ptr [.p (.int .i64 more)]] (mkHp []) A (fun y => y = .ok (.p (.bool (viaQ f more u s))) (mkHp []) A) := by
  refine spec_of Try.func82 (rfl : Try.f82.body = some _) (Nat.le_of_ble_eq_true rfl) (fun id h => ?_) (fun j id h => ?_) ?_
  · exact wf1x h
  · exact wf2x h
  intro C hN hL
  replace hN : C.N = 28 := hN
  simp only [Gh.num, List.map_cons, List.map_nil, Nat.reduceAdd]
  have hst1 : ∀ a b : Int, stP ⟨a, some b⟩ = P.iface 122 (.agg [.int .i64 a, .int .i64 b]) := fun _ _ => rfl
  have hst0 : ∀ a : Int, stP ⟨a, none⟩ = P.iface 124 (.agg [.int .i64 a]) := fun _ => rfl
  repeat refine gwp_seq ?_
  refine gwp_region ?_
  refine v0 (k := ?_)
  refine nil0 ?_
  refine cl [0, 1, 2, 3] (k := ?_)
  repeat refine gwp_seq ?_
  obtain ⟨xa, xb⟩ := s
  obtain ⟨hxa, hxb⟩ := hs
  simp only at hxa
  obtain ⟨a, rfl⟩ : ∃ a : Nat, xa = a := ⟨xa.toNat, by omega⟩
  have h1 := hf.le a u
  have h2 := hf.nn a u
  simp only [NEV] at h1
  rcases xb with _ | b
  · repeat refine gwp_seq ?_
    refine rd ?_
    refine d0 0 (k := ?_)
    refine d0 1 (k := ?_)
    refine d0 2 (k := ?_)
    refine d0 3 (k := ?_)
    refine d0 4 (k := ?_)
    refine d0 5 (k := ?_)
    refine d0 6 (k := ?_)
    refine d1 7 (hc := by (first | exact nk1 | exact nk2 | exact nk3 | exact nk4)) (k := ?_)
    refine d0 8 (k := ?_)
    refine doc0 9 [] [] [0, 0, 0] none (spec := s_end_by f a u (by omega) hu) (hent := ent136) (k := ?_)
    refine d0 10 (k := ?_)
    refine d0 11 (k := ?_)
    refine d0 12 (k := ?_)
    refine d0 13 (k := ?_)
    refine d0 14 (k := ?_)
    refine d0 15 (k := ?_)
    refine d1 16 (hc := by (first | exact nk1 | exact nk2 | exact nk3 | exact nk4)) (k := ?_)
    refine d0 17 (k := ?_)
    refine doc0 18 [] [] [0, 0] none (spec := s_end_least f a) (hent := ent137) (k := ?_)
    refine d1 19 (hc := kVo1.h {}) (k := ?_)
    refine d0 20 (k := ?_)
    refine d0 21 (k := ?_)
    refine d0 22 (k := ?_)
    refine dz 23 [0, 0, 2, 6, 14, 0, 1, 65, 193, 511, 0, 0, 2048, 6144, 14336, 1024, 33792, 99328, 262143, 524287, 0, 2097151, 4194303] (h := ?_)
    refine de 23 (h := ?_)
    repeat refine gwp_seq ?_
    refine gwp_ret ?_
    repeat (first | refine gthen_ret ?_ | refine gblock_ret ?_ | refine gnoGoto_ret ?_)
    refine fin_ret ?_
    refine fp (hR := ?_)
    first
    | (simp only [viaQ, byV, leastV, Int.toNat_natCast]; done)
    | (simp [viaQ, byV, leastV] <;> congr)
  · have hb2 := hxb b rfl
    obtain ⟨b, rfl⟩ : ∃ b2 : Nat, b = b2 := ⟨b.toNat, by omega⟩
    have h3 := hf.le u b
    have h4 := hf.nn u b
    have h5 := hf.le a b
    have h6 := hf.nn a b
    simp only [NEV] at h3 h5
    repeat refine gwp_seq ?_
    refine rd ?_
    refine d0 0 (k := ?_)
    refine d0 1 (k := ?_)
    refine d0 2 (k := ?_)
    refine d0 3 (k := ?_)
    refine d0 4 (k := ?_)
    refine d0 5 (k := ?_)
    refine d0 6 (k := ?_)
    refine d1 7 (hc := by (first | exact nk1 | exact nk2 | exact nk3 | exact nk4)) (k := ?_)
    refine d0 8 (k := ?_)
    refine doc0 9 [] [] [0, 0, 0] none (spec := s_to_by f hf a b u (by omega) (by omega) hu) (hent := ent134) (k := ?_)
    refine d0 10 (k := ?_)
    refine d0 11 (k := ?_)
    refine d0 12 (k := ?_)
    refine d0 13 (k := ?_)
    refine d0 14 (k := ?_)
    refine d0 15 (k := ?_)
    refine d1 16 (hc := by (first | exact nk1 | exact nk2 | exact nk3 | exact nk4)) (k := ?_)
    refine d0 17 (k := ?_)
    refine doc0 18 [] [] [0, 0] none (spec := s_to_least f a b (by omega) (by omega)) (hent := ent135) (k := ?_)
    refine d1 19 (hc := kVo1.h {}) (k := ?_)
    refine d0 20 (k := ?_)
    refine d0 21 (k := ?_)
    refine d0 22 (k := ?_)
    refine dz 23 [0, 0, 2, 6, 14, 0, 1, 65, 193, 511, 0, 0, 2048, 6144, 14336, 1024, 33792, 99328, 262143, 524287, 0, 2097151, 4194303] (h := ?_)
    refine de 23 (h := ?_)
    repeat refine gwp_seq ?_
    refine gwp_ret ?_
    repeat (first | refine gthen_ret ?_ | refine gblock_ret ?_ | refine gnoGoto_ret ?_)
    refine fin_ret ?_
    refine fp (hR := ?_)
    first
    | (simp only [viaQ, byV, leastV, Int.toNat_natCast]; done)
    | (simp [viaQ, byV, leastV] <;> congr)
end Go.Proofs.Ytagdholenfkeaaa

/- The program: can a plate have gone by way of a person? -/
namespace Go.Proofs.Ytagdholenfkeaaa
open Go.Gh
set_option maxRecDepth 100000
set_option maxHeartbeats 4000000
structure kVp1 (c : Prop) : Prop where
  h : c := by (first | exact True.intro | omega | exact ⟨by omega, hsz⟩ | (simp only [List.length_map, inI]; omega) | (simp only [List.length_map]; exact ⟨by omega, by omega, hsz⟩) | (refine ⟨by omega, ?_, ?_⟩ <;> first | (simp only [List.length_map]; omega) | exact ⟨by simp only [List.length_map]; omega, hsz⟩) | (simp only [inI]; omega) | (simp [P.size, pr, pk, all_int, allOne_p, goods_p, allOne, goods, good, G.one, P.one, P.cells] <;> first | omega | assumption | simp_all))
theorem ent103 : Enters Try.prog 103 := Enters.mk Try.func103 (by kernel_rfl) rfl
theorem s_via_i {E : Env Try.prog} {A : E.α} (c : Ch) (f : Mx) (hf : MOk f) (more : Int) (hm : 0 ≤ more ∧ more ≤ 20) (u : Nat) (hu : u < 8) (l : List St) (hl : l.length ≤ 13) (hst : ∀ x ∈ l, stIn x) : Gh.Spec E 103 [.p (.list (l.map stP)), .fn (.func 82) [] [.ptr [.ptr [.p (.int .i64 c.pl), .p (.int .i64 c.ps), .p (.list (c.kn.map pk)), .p (.list (c.rs.map pr)), .p (.int .i64 c.ms), .ptr ((mat f).map G.p)]], .ptr [.p (.int .i64 (u : Nat))], .ptr [.p (.int .i64 more)]]] (mkHp []) A (fun y => y = .ok (.p (.int .i64 (idxP (viaQ f more u) l 0))) (mkHp []) A) := by
  refine spec_of Try.func103 (rfl : Try.f103.body = some _) (Nat.le_of_ble_eq_true rfl) (fun id h => ?_) (fun j id h => ?_) ?_
  · exact wf1x h
  · exact wf2x h
  intro C hN hL
  replace hN : C.N = 19 := hN
  simp only [Gh.num, List.map_cons, List.map_nil, Nat.reduceAdd]
  have hsz : ∀ x ∈ l.map stP, x.size = 1 := fun x hx => by obtain ⟨y, _, rfl⟩ := List.mem_map.1 hx; exact stP_size y
  have hst1 : ∀ a b : Int, stP ⟨a, some b⟩ = P.iface 122 (.agg [.int .i64 a, .int .i64 b]) := fun _ _ => rfl
  have hst0 : ∀ a : Int, stP ⟨a, none⟩ = P.iface 124 (.agg [.int .i64 a]) := fun _ => rfl
  repeat refine gwp_seq ?_
  refine gwp_region ?_
  refine v0 (k := ?_)
  refine nil0 ?_
  refine cl [0, 1] (k := ?_)
  repeat refine gwp_seq ?_
  refine gwp_region ?_
  refine v0 (k := ?_)
  refine v0 (k := ?_)
  refine v0 (k := ?_)
  refine nil0 ?_
  refine cl [0, 1, 7, 8] (k := ?_)
  repeat refine gwp_seq ?_
  refine gwp_block ?_
  repeat refine gwp_seq ?_
  refine gc_loop (fun mz σ => ∃ k : Nat, (k ≤ l.length) ∧ (idxP (viaQ f more u) l 0 = idxP (viaQ f more u) (l.drop k) k) ∧ mz = l.length - k ∧ σ = (sg [(0, .p (.list (l.map stP))), (1, .fn (.func 82) [] [.ptr [.ptr [.p (.int .i64 c.pl), .p (.int .i64 c.ps), .p (.list (c.kn.map pk)), .p (.list (c.rs.map pr)), .p (.int .i64 c.ms), .ptr ((mat f).map G.p)]], .ptr [.p (.int .i64 (u : Nat))], .ptr [.p (.int .i64 more)]]), (7, .p (.int .i64 l.length)), (8, .p (.int .i64 k))] [] A [] : Sg E)) ?_ (fun mz σ hI => ?_)
  · refine lbeg [0, 1, 7, 8] (hV := ?_)
    exact ⟨_, 0, by omega, by simp, rfl, rfl⟩
  obtain ⟨k, hk, hi, hn, rfl⟩ := hI
  repeat refine gwp_seq ?_
  refine gwp_region ?_
  refine v0 (k := ?_)
  refine nil0 ?_
  repeat refine gwp_seq ?_
  refine cB (k1 := fun hb1 => ?_) (k0 := fun hb1 => ?_)
  · replace hb1 := hB.h {} hb1
    repeat refine gwp_seq ?_
    refine gwp_skip ?_
    refine cl [0, 1, 7, 8] (k := ?_)
    repeat refine gwp_seq ?_
    refine gwp_block ?_
    repeat refine gwp_seq ?_
    refine gwp_region ?_
    refine v0 (k := ?_)
    refine v0 (k := ?_)
    refine nil0 ?_
    refine cl [0, 1, 5, 7, 8] (k := ?_)
    repeat refine gwp_seq ?_
    obtain ⟨x, hx⟩ := getE (l := l) (k := k) (by omega)
    obtain ⟨xa, xb⟩ := x
    rcases xb with _ | b
    · repeat refine gwp_seq ?_
      refine gwp_region ?_
      refine v0 (k := ?_)
      refine v0 (k := ?_)
      refine v0 (k := ?_)
      refine v1 (hc := kVp1.h {}) (k := ?_)
      refine v0 (k := ?_)
      refine oc0 [] [] [0, 0, 0, 0] none (spec := s_via c f hf more hm u hu ⟨xa, none⟩ (hst _ (List.mem_of_getElem? hx))) (hent := ent82) (k := ?_)
      refine nil0 ?_
      repeat refine gwp_seq ?_
      refine cB (k1 := fun hb2 => ?_) (k0 := fun hb2 => ?_)
      · replace hb2 := hB.h {} hb2
        repeat refine gwp_seq ?_
        refine gwp_region ?_
        refine v0 (k := ?_)
        refine v0 (k := ?_)
        refine nil0 ?_
        repeat refine gwp_seq ?_
        refine gwp_ret ?_
        repeat (first | refine gthen_ret ?_ | refine gblock_ret ?_ | refine gnoGoto_ret ?_)
        refine fin_ret ?_
        refine fp (hR := ?_)
        simp only [PRes.at, GRes.ok.injEq, G.p.injEq, P.int.injEq, true_and, and_true]
        first
        | (rw [hi, idxP_at hx]; simp_all; done)
        | (rw [hi, List.drop_eq_nil_of_le (by omega)]; rfl)
      · replace hb2 := hB.h {} hb2
        repeat refine gwp_seq ?_
        refine gwp_skip ?_
        refine cl [0, 1, 7, 8] (k := ?_)
        repeat refine gwp_seq ?_
        refine gwp_region ?_
        refine v1 (hc := kVp1.h {}) (k := ?_)
        refine v0 (k := ?_)
        refine nil0 ?_
        refine lend [0, 1, 7, 8] (h := ?_) (hV := ?_) (n' := l.length - (k + 1))
        · omega
        exact ⟨k + 1, by omega, by rw [hi, idxP_at hx]; simp_all, rfl, rfl⟩
    · repeat refine gwp_seq ?_
      refine gwp_region ?_
      refine v0 (k := ?_)
      refine v0 (k := ?_)
      refine v0 (k := ?_)
      refine v1 (hc := kVp1.h {}) (k := ?_)
      refine v0 (k := ?_)
      refine oc0 [] [] [0, 0, 0, 0] none (spec := s_via c f hf more hm u hu ⟨xa, some b⟩ (hst _ (List.mem_of_getElem? hx))) (hent := ent82) (k := ?_)
      refine nil0 ?_
      repeat refine gwp_seq ?_
      refine cB (k1 := fun hb3 => ?_) (k0 := fun hb3 => ?_)
      · replace hb3 := hB.h {} hb3
        repeat refine gwp_seq ?_
        refine gwp_region ?_
        refine v0 (k := ?_)
        refine v0 (k := ?_)
        refine nil0 ?_
        repeat refine gwp_seq ?_
        refine gwp_ret ?_
        repeat (first | refine gthen_ret ?_ | refine gblock_ret ?_ | refine gnoGoto_ret ?_)
        refine fin_ret ?_
        refine fp (hR := ?_)
        simp only [PRes.at, GRes.ok.injEq, G.p.injEq, P.int.injEq, true_and, and_true]
        first
        | (rw [hi, idxP_at hx]; simp_all; done)
        | (rw [hi, List.drop_eq_nil_of_le (by omega)]; rfl)
      · replace hb3 := hB.h {} hb3
        repeat refine gwp_seq ?_
        refine gwp_skip ?_
        refine cl [0, 1, 7, 8] (k := ?_)
        repeat refine gwp_seq ?_
        refine gwp_region ?_
        refine v1 (hc := kVp1.h {}) (k := ?_)
        refine v0 (k := ?_)
        refine nil0 ?_
        refine lend [0, 1, 7, 8] (h := ?_) (hV := ?_) (n' := l.length - (k + 1))
        · omega
        exact ⟨k + 1, by omega, by rw [hi, idxP_at hx]; simp_all, rfl, rfl⟩
  · replace hb1 := hB.h {} hb1
    repeat refine gwp_seq ?_
    refine gwp_exit ?_
    repeat (first | refine gthen_exit ?_ | refine gnoGoto_exit ?_ | refine gblock_here ?_ | refine gblock_out rfl ?_)
    refine cl [] (k := ?_)
    repeat refine gwp_seq ?_
    refine gwp_region ?_
    refine v0 (k := ?_)
    refine nil0 ?_
    repeat refine gwp_seq ?_
    refine gwp_ret ?_
    repeat (first | refine gthen_ret ?_ | refine gblock_ret ?_ | refine gnoGoto_ret ?_)
    refine fin_ret ?_
    refine fp (hR := ?_)
    simp only [PRes.at, GRes.ok.injEq, G.p.injEq, P.int.injEq, true_and, and_true]
    first
    | (rw [hi, idxP_at hx]; simp_all; done)
    | (rw [hi, List.drop_eq_nil_of_le (by omega)]; rfl)
theorem ent81 : Enters Try.prog 81 := Enters.mk Try.func81 (by kernel_rfl) rfl
theorem s_via_c {E : Env Try.prog} {A : E.α} (c : Ch) (f : Mx) (hf : MOk f) (more : Int) (hm : 0 ≤ more ∧ more ≤ 20) (u : Nat) (hu : u < 8) (l : List St) (hl : l.length ≤ 13) (hst : ∀ x ∈ l, stIn x) : Gh.Spec E 81 [.p (.list (l.map stP)), .fn (.func 82) [] [.ptr [.ptr [.p (.int .i64 c.pl), .p (.int .i64 c.ps), .p (.list (c.kn.map pk)), .p (.list (c.rs.map pr)), .p (.int .i64 c.ms), .ptr ((mat f).map G.p)]], .ptr [.p (.int .i64 (u : Nat))], .ptr [.p (.int .i64 more)]]] (mkHp []) A (fun y => y = .ok (.p (.bool (l.any (viaQ f more u)))) (mkHp []) A) := by
  refine spec_of Try.func81 (rfl : Try.f81.body = some _) (Nat.le_of_ble_eq_true rfl) (fun id h => ?_) (fun j id h => ?_) ?_
  · exact wf1x h
  · exact wf2x h
  intro C hN hL
  replace hN : C.N = 9 := hN
  simp only [Gh.num, List.map_cons, List.map_nil, Nat.reduceAdd]
  repeat refine gwp_seq ?_
  refine gwp_region ?_
  refine v0 (k := ?_)
  refine nil0 ?_
  refine cl [0, 1] (k := ?_)
  repeat refine gwp_seq ?_
  refine gwp_region ?_
  refine v0 (k := ?_)
  refine v0 (k := ?_)
  refine oc0 [] [] [0, 0] none (spec := s_via_i c f hf more hm u hu l hl hst) (hent := ent103) (k := ?_)
  refine v0 (k := ?_)
  refine v0 (k := ?_)
  refine nil0 ?_
  repeat refine gwp_seq ?_
  refine gwp_ret ?_
  repeat (first | refine gthen_ret ?_ | refine gblock_ret ?_ | refine gnoGoto_ret ?_)
  refine fin_ret ?_
  refine fp (hR := ?_)
  rw [← idxP_sign (viaQ f more u) l 0]
theorem ent80 : Enters Try.prog 80 := Enters.mk Try.func80 (by kernel_rfl) rfl
theorem s_can {E : Env Try.prog} {A : E.α} (c : Ch) (f : Mx) (hf : MOk f) (more : Int) (hm : 0 ≤ more ∧ more ≤ 20) (u : Nat) (hu : u < 8) (l : List St) (hl : l.length ≤ 13) (hst : ∀ x ∈ l, stIn x) : Gh.Spec E 80 [.p (.int .i64 (u : Nat)), .ptr [.p (.list (l.map stP))], .ptr [.ptr [.p (.int .i64 c.pl), .p (.int .i64 c.ps), .p (.list (c.kn.map pk)), .p (.list (c.rs.map pr)), .p (.int .i64 c.ms), .ptr ((mat f).map G.p)]], .ptr [.p (.int .i64 more)]] (mkHp []) A (fun y => y = .ok (.p (.bool (l.any (viaQ f more u)))) (mkHp []) A) := by
  refine spec_of Try.func80 (rfl : Try.f80.body = some _) (Nat.le_of_ble_eq_true rfl) (fun id h => ?_) (fun j id h => ?_) ?_
  · exact wf1x h
  · exact wf2x h
  intro C hN hL
  replace hN : C.N = 9 := hN
  simp only [Gh.num, List.map_cons, List.map_nil, Nat.reduceAdd]
  repeat refine gwp_seq ?_
  refine gwp_region ?_
  refine n1 140 false (hc := by (first | exact True.intro | (simp only [inI]; omega) | (simp [P.size, pr, pk, all_int, allOne_p, goods_p, allOne, goods, good, G.one, P.one, P.cells] <;> first | omega | assumption | simp_all))) (k := ?_)
  refine v0 (k := ?_)
  refine nil0 ?_
  refine cl [1, 2, 3, 4] (k := ?_)
  repeat refine gwp_seq ?_
  refine fz 140 1 [.k] (k := ?_)
  refine gwp_region ?_
  refine v0 (k := ?_)
  refine v0 (k := ?_)
  refine ocv 7 (.f [.k, .n [.k], .k]) (k := ?_)
  refine oc0 [] [] [0, 0] none (spec := s_via_c c f hf more hm u hu l hl hst) (hent := ent81) (k := ?_)
  refine v0 (k := ?_)
  refine nil0 ?_
  repeat refine gwp_seq ?_
  refine gwp_ret ?_
  repeat (first | refine gthen_ret ?_ | refine gblock_ret ?_ | refine gnoGoto_ret ?_)
  refine fin_ret ?_
  refine fp (hR := ?_)
  rfl
end Go.Proofs.Ytagdholenfkeaaa

/- The program: Where. -/
namespace Go.Proofs.Ytagdholenfkeaaa
open Go.Gh
set_option maxRecDepth 100000
set_option maxHeartbeats 4000000
structure kVk1 (c : Prop) : Prop where
  h : c := by (first | exact True.intro | omega | (simp only [inI]; omega) | (simp only [inI]; omega) | (simp [P.size, pr, pk, all_int, allOne_p, goods_p, allOne, goods, good, G.one, P.one, P.cells] <;> first | omega | assumption | simp_all))
structure kVk2 (c : Prop) : Prop where
  h : c := by (first | exact True.intro | (simp only [inI]; omega) | (simp [P.size, pr, pk, all_int, allOne_p, goods_p, allOne, goods, good, G.one, P.one, P.cells] <;> first | omega | assumption | simp_all))
/-- Who can have a plate, of the first persons. -/
def whereN (f : Mx) (h : Nat) (more : Int) : Nat → Nat
  | 0 => 0
  | k + 1 => if f h k ≤ more then whereN f h more k ||| 2 ^ k else whereN f h more k
theorem whereN_lt (f : Mx) (h : Nat) (more : Int) : ∀ k, k ≤ 8 → whereN f h more k < 256
  | 0, _ => by simp [whereN]
  | k + 1, hk => by
    have := whereN_lt f h more k (by omega)
    have hx : 2 ^ k < 2 ^ 8 := Nat.pow_lt_pow_right (by omega) (by omega)
    simp only [whereN]; split
    · exact Nat.or_lt_two_pow (n := 8) this hx
    · exact this
theorem hol_in {p : Int} {rs : List Rc} (h : rsIn rs) : ∀ k, 0 ≤ holN p rs k ∧ holN p rs k < 8
  | 0 => by simp [holN]
  | k + 1 => by
    simp only [holN]
    split
    · rename_i r hr
      split
      · exact (h r (List.mem_of_getElem? hr)).2
      · exact hol_in h k
    · exact hol_in h k
theorem ent70 : Enters Try.prog 70 := Enters.mk Try.func70 (by kernel_rfl) rfl
theorem s_where {E : Env Try.prog} {A : E.α} (f : Mx) (hf : MOk f) (g0 : P) (ps : Int) (hps : 0 ≤ ps ∧ ps ≤ 8) (g2 g4 : P) (rs : List Rc) (p more : Int) (h : Nat) (hh : holN p rs rs.length = h) (hrl : rs.length ≤ 12) (hri : rsIn rs) : Gh.Spec E 70 [.ptr [.p g0, .p (.int .i64 ps), .p g2, .p (.list (rs.map pr)), .p g4, .ptr ((mat f).map G.p)], .p (.int .i64 p), .p (.int .i64 more)] (mkHp []) A (fun y => y = .ok (.p (.int .u64 (whereN f h more ps.toNat : Nat))) (mkHp []) A) := by
  refine spec_of Try.func70 (rfl : Try.f70.body = some _) (Nat.le_of_ble_eq_true rfl) (fun id h => ?_) (fun j id h => ?_) ?_
  · exact wf1x h
  · exact wf2x h
  intro C hN hL
  replace hN : C.N = 44 := hN
  simp only [Gh.num, List.map_cons, List.map_nil, Nat.reduceAdd]
  have hin := hol_in (p := p) hri rs.length
  rw [hh] at hin
  repeat refine gwp_seq ?_
  refine gwp_region ?_
  refine v0 (k := ?_)
  refine nil0 ?_
  refine cl [0, 1, 2, 6] (k := ?_)
  repeat refine gwp_seq ?_
  refine gwp_region ?_
  refine v0 (k := ?_)
  refine v0 (k := ?_)
  refine v0 (k := ?_)
  refine v0 (k := ?_)
  refine v0 (k := ?_)
  refine v0 (k := ?_)
  refine v0 (k := ?_)
  refine v0 (k := ?_)
  refine oc0 [] [] [7, 0, 0] none (spec := s_holder g0 (.int .i64 ps) g2 p rs rs.length hrl (Nat.le_refl _)) (hent := ent47) (k := ?_)
  refine v0 (k := ?_)
  refine nil0 ?_
  refine cl [0, 2, 6, 7] (k := ?_)
  repeat refine gwp_seq ?_
  try rw [hh]
  clear hh
  refine gwp_region ?_
  refine v0 (k := ?_)
  refine v0 (k := ?_)
  refine v0 (k := ?_)
  refine v0 (k := ?_)
  refine v0 (k := ?_)
  refine v0 (k := ?_)
  refine nil0 ?_
  refine cl [0, 2, 6, 7, 8] (k := ?_)
  repeat refine gwp_seq ?_
  refine gwp_region ?_
  refine v0 (k := ?_)
  refine v0 (k := ?_)
  refine v0 (k := ?_)
  refine v0 (k := ?_)
  refine v0 (k := ?_)
  refine v0 (k := ?_)
  refine nil0 ?_
  refine cl [2, 6, 7, 8, 28, 29] (k := ?_)
  repeat refine gwp_seq ?_
  refine gwp_block ?_
  repeat refine gwp_seq ?_
  refine gc_loop (fun mz σ => ∃ k : Nat, ((k : Int) ≤ ps) ∧ mz = ps.toNat - k ∧ σ = (sg [(2, .p (.int .i64 more)), (6, .p (.int .u64 (whereN f h more k : Nat))), (7, .p (.int .i64 (h : Nat))), (8, .fn (.func 59) [.ptr ((mat f).map G.p)] []), (28, .p (.int .i64 ps)), (29, .p (.int .i64 (k : Nat)))] [] A [] : Sg E)) ?_ (fun mz σ hI => ?_)
  · refine lbeg [2, 6, 7, 8, 28, 29] (hV := ?_)
    exact ⟨_, 0, by omega, rfl, rfl⟩
  obtain ⟨k, hk, hn, rfl⟩ := hI
  have hwl := whereN_lt f h more k (by omega)
  repeat refine gwp_seq ?_
  refine gwp_region ?_
  refine v0 (k := ?_)
  refine nil0 ?_
  repeat refine gwp_seq ?_
  refine cB (k1 := fun hb1 => ?_) (k0 := fun hb1 => ?_)
  · replace hb1 := hB.h {} hb1
    try rw [eqI] at hb1
    repeat refine gwp_seq ?_
    refine gwp_skip ?_
    refine cl [2, 6, 7, 8, 28, 29] (k := ?_)
    repeat refine gwp_seq ?_
    refine gwp_block ?_
    repeat refine gwp_seq ?_
    refine gwp_region ?_
    refine v0 (k := ?_)
    refine v0 (k := ?_)
    refine nil0 ?_
    refine cl [2, 6, 7, 8, 9, 28, 29] (k := ?_)
    repeat refine gwp_seq ?_
    refine gwp_region ?_
    refine v0 (k := ?_)
    refine v0 (k := ?_)
    refine v0 (k := ?_)
    refine oc0 [] [] [0, 0, 0] none (spec := s_of f h k (by omega) (by omega)) (hent := ent59) (k := ?_)
    refine v0 (k := ?_)
    refine v0 (k := ?_)
    refine nil0 ?_
    repeat refine gwp_seq ?_
    refine cB (k1 := fun hb2 => ?_) (k0 := fun hb2 => ?_)
    · replace hb2 := hB.h {} hb2
      try rw [eqI] at hb2
      repeat refine gwp_seq ?_
      refine gwp_region ?_
      refine v0 (k := ?_)
      refine v0 (k := ?_)
      refine n1 500 false (hc := kVk1.h {}) (k := ?_)
      refine pc0 (spec := s_with (whereN f h more k) [k] hwl (by simp; omega) (by simp)) (hent := ent83) (k := ?_)
      refine v0 (k := ?_)
      refine nil0 ?_
      refine cl [2, 6, 7, 8, 28, 29] (k := ?_)
      repeat refine gwp_seq ?_
      refine gwp_region ?_
      refine v1 (hc := kVk1.h {}) (k := ?_)
      refine v0 (k := ?_)
      refine nil0 ?_
      refine lend [2, 6, 7, 8, 28, 29] (h := ?_) (hV := ?_) (n' := ps.toNat - (k + 1))
      · omega
      first
      | exact ⟨k + 1, by omega, rfl, sgE (by rw [whereN, if_pos (by omega)]; rfl) rfl⟩
      | exact ⟨k + 1, by omega, rfl, sgE (by rw [whereN, if_neg (by omega)]; rfl) rfl⟩
    · replace hb2 := hB.h {} hb2
      try rw [eqI] at hb2
      repeat refine gwp_seq ?_
      refine gwp_skip ?_
      refine cl [2, 6, 7, 8, 28, 29] (k := ?_)
      repeat refine gwp_seq ?_
      refine gwp_region ?_
      refine v1 (hc := kVk1.h {}) (k := ?_)
      refine v0 (k := ?_)
      refine nil0 ?_
      refine lend [2, 6, 7, 8, 28, 29] (h := ?_) (hV := ?_) (n' := ps.toNat - (k + 1))
      · omega
      first
      | exact ⟨k + 1, by omega, rfl, sgE (by rw [whereN, if_pos (by omega)]; rfl) rfl⟩
      | exact ⟨k + 1, by omega, rfl, sgE (by rw [whereN, if_neg (by omega)]; rfl) rfl⟩
  · replace hb1 := hB.h {} hb1
    try rw [eqI] at hb1
    repeat refine gwp_seq ?_
    refine gwp_exit ?_
    repeat (first | refine gthen_exit ?_ | refine gnoGoto_exit ?_ | refine gblock_here ?_ | refine gblock_out rfl ?_)
    refine cl [6] (k := ?_)
    repeat refine gwp_seq ?_
    refine gwp_region ?_
    refine v0 (k := ?_)
    refine v0 (k := ?_)
    refine nil0 ?_
    repeat refine gwp_seq ?_
    refine gwp_ret ?_
    repeat (first | refine gthen_ret ?_ | refine gblock_ret ?_ | refine gnoGoto_ret ?_)
    refine fin_ret ?_
    refine fp (hR := ?_)
    obtain rfl : k = ps.toNat := by omega
    rfl
def whereC (c : Ch) (p : Int) : Nat := whereN (D (eF c.kn (-1))) (holN p c.rs c.rs.length).toNat (c.ms - leastC c) c.ps.toNat
theorem whereC_lt {c : Ch} (h : c.valid = true) (p : Int) : whereC c p < 256 := by
  have := valid_num h
  exact whereN_lt _ _ _ _ (by omega)
theorem s_whereC {E : Env Try.prog} {A : E.α} (c : Ch) (hv : c.valid = true) (p : Int) : Gh.Spec E 70 [.ptr [.p (.int .i64 c.pl), .p (.int .i64 c.ps), .p (.list (c.kn.map pk)), .p (.list (c.rs.map pr)), .p (.int .i64 c.ms), .ptr ((mat (D (eF c.kn (-1)))).map G.p)], .p (.int .i64 p), .p (.int .i64 (c.ms - leastC c))] (mkHp []) A (fun y => y = .ok (.p (.int .u64 (whereC c p : Nat))) (mkHp []) A) := by
  have hn := valid_num hv
  have := hol_in (p := p) (valid_in hv) c.rs.length
  exact s_where (E := E) (A := A) (D (eF c.kn (-1))) (D_ok _) (.int .i64 c.pl) c.ps (by omega) (.list (c.kn.map pk)) (.int .i64 c.ms) c.rs p (c.ms - leastC c) (holN p c.rs c.rs.length).toNat (by omega) (by omega) (valid_in hv)
theorem ent24 : Enters Try.prog 24 := Enters.mk Try.func24 (by kernel_rfl) rfl
theorem p_where_r {E : Env Try.prog} {A : E.α} (c : Ch) (hv : c.valid = true) (x : Int) (hq : (inQ x c.pl) = false) : Gh.Spec E 24 [.p (.agg [.int .i64 c.pl, .int .i64 c.ps, .list (c.kn.map pk), .list (c.rs.map pr), .int .i64 c.ms]), .p (.int .i64 x)] (mkHp []) A (fun y => y = .ok (.p (.tuple [.int .i64 0, .int .i64 2])) (mkHp []) A) := by
  refine specD_of Try.func24 (rfl : Try.f24.body = some _) (Nat.le_of_ble_eq_true rfl) (fun id h => ?_) (fun j id h => ?_) ?_
  · exact wf1x h
  · exact wf2x h
  intro C hN hL
  replace hN : C.N = 20 := hN
  simp only [Gh.num, List.map_cons, List.map_nil, Nat.reduceAdd]
  repeat refine gwp_seq ?_
  refine gwp_region ?_
  refine n1 120 false (hc := kVk2.h {}) (k := ?_)
  refine n1 130 false (hc := kVk2.h {}) (k := ?_)
  refine v0 (k := ?_)
  refine n1 150 false (hc := kVk2.h {}) (k := ?_)
  refine nil0 ?_
  refine cl [2, 3, 4, 5] (k := ?_)
  repeat refine gwp_seq ?_
  refine gwp_region ?_
  refine v0 (k := ?_)
  refine df0 (k := ?_)
  refine nil0 ?_
  refine cl [2, 3, 4, 5] (k := ?_)
  repeat refine gwp_seq ?_
  refine fz 130 1 [.k] (k := ?_)
  refine gwp_region ?_
  refine v0 (k := ?_)
  refine v0 (k := ?_)
  refine ocv 11 (.f [.n [.k]]) (k := ?_)
  refine op0 [] [] [1, 0] none (spec := s_truth_r1 c 69 x (inQ x c.pl) (q_69 c hv x) ent69 hv hq) (hent := ent68) (k := ?_)
  repeat (first | refine gthen_panic ?_ | refine gblock_panic ?_)
  refine finD_panic ?_
  refine ocall [150] [(0, 150)] (spec := d_some67 0 2) (hent := ent67) (h := ?_)
  refine out_nil ?_
  refine fp2 (hR := ?_)
  rfl
theorem p_where_f {E : Env Try.prog} {A : E.α} (c : Ch) (h1 : c.kn.length ≤ 1048576) (h2 : c.rs.length ≤ 1048576) (hv : c.valid = false) (x : Int) : Gh.Spec E 24 [.p (.agg [.int .i64 c.pl, .int .i64 c.ps, .list (c.kn.map pk), .list (c.rs.map pr), .int .i64 c.ms]), .p (.int .i64 x)] (mkHp []) A (fun y => y = .ok (.p (.tuple [.int .i64 0, .int .i64 1])) (mkHp []) A) := by
  refine specD_of Try.func24 (rfl : Try.f24.body = some _) (Nat.le_of_ble_eq_true rfl) (fun id h => ?_) (fun j id h => ?_) ?_
  · exact wf1x h
  · exact wf2x h
  intro C hN hL
  replace hN : C.N = 20 := hN
  simp only [Gh.num, List.map_cons, List.map_nil, Nat.reduceAdd]
  repeat refine gwp_seq ?_
  refine gwp_region ?_
  refine n1 120 false (hc := kVk2.h {}) (k := ?_)
  refine n1 130 false (hc := kVk2.h {}) (k := ?_)
  refine v0 (k := ?_)
  refine n1 150 false (hc := kVk2.h {}) (k := ?_)
  refine nil0 ?_
  refine cl [2, 3, 4, 5] (k := ?_)
  repeat refine gwp_seq ?_
  refine gwp_region ?_
  refine v0 (k := ?_)
  refine df0 (k := ?_)
  refine nil0 ?_
  refine cl [2, 3, 4, 5] (k := ?_)
  repeat refine gwp_seq ?_
  refine fz 130 1 [.k] (k := ?_)
  refine gwp_region ?_
  refine v0 (k := ?_)
  refine v0 (k := ?_)
  refine ocv 11 (.f [.n [.k]]) (k := ?_)
  refine op0 [] [] [1, 0] none (spec := s_truth_f1 c h1 h2 69 x hv) (hent := ent68) (k := ?_)
  repeat (first | refine gthen_panic ?_ | refine gblock_panic ?_)
  refine finD_panic ?_
  refine ocall [150] [(0, 150)] (spec := d_some67 0 1) (hent := ent67) (h := ?_)
  refine out_nil ?_
  refine fp2 (hR := ?_)
  rfl
theorem p_where_c {E : Env Try.prog} {A : E.α} (c : Ch) (hv : c.valid = true) (x : Int) (hq : (inQ x c.pl) = true) (hc : ¬ leastC c ≤ c.ms) : Gh.Spec E 24 [.p (.agg [.int .i64 c.pl, .int .i64 c.ps, .list (c.kn.map pk), .list (c.rs.map pr), .int .i64 c.ms]), .p (.int .i64 x)] (mkHp []) A (fun y => y = .ok (.p (.tuple [.int .i64 0, .int .i64 10])) (mkHp []) A) := by
  refine specD_of Try.func24 (rfl : Try.f24.body = some _) (Nat.le_of_ble_eq_true rfl) (fun id h => ?_) (fun j id h => ?_) ?_
  · exact wf1x h
  · exact wf2x h
  intro C hN hL
  replace hN : C.N = 20 := hN
  simp only [Gh.num, List.map_cons, List.map_nil, Nat.reduceAdd]
  repeat refine gwp_seq ?_
  refine gwp_region ?_
  refine n1 120 false (hc := kVk2.h {}) (k := ?_)
  refine n1 130 false (hc := kVk2.h {}) (k := ?_)
  refine v0 (k := ?_)
  refine n1 150 false (hc := kVk2.h {}) (k := ?_)
  refine nil0 ?_
  refine cl [2, 3, 4, 5] (k := ?_)
  repeat refine gwp_seq ?_
  refine gwp_region ?_
  refine v0 (k := ?_)
  refine df0 (k := ?_)
  refine nil0 ?_
  refine cl [2, 3, 4, 5] (k := ?_)
  repeat refine gwp_seq ?_
  refine fz 130 1 [.k] (k := ?_)
  refine gwp_region ?_
  refine v0 (k := ?_)
  refine v0 (k := ?_)
  refine ocv 11 (.f [.n [.k]]) (k := ?_)
  refine op0 [] [] [1, 0] none (spec := s_truth_c1 c 69 x (inQ x c.pl) (q_69 c hv x) ent69 hv hq hc) (hent := ent68) (k := ?_)
  repeat (first | refine gthen_panic ?_ | refine gblock_panic ?_)
  refine finD_panic ?_
  refine ocall [150] [(0, 150)] (spec := d_some67 0 10) (hent := ent67) (h := ?_)
  refine out_nil ?_
  refine fp2 (hR := ?_)
  rfl
theorem p_where_t {E : Env Try.prog} {A : E.α} (c : Ch) (hv : c.valid = true) (x : Int) (hq : (inQ x c.pl) = true) (hc : leastC c ≤ c.ms) : Gh.Spec E 24 [.p (.agg [.int .i64 c.pl, .int .i64 c.ps, .list (c.kn.map pk), .list (c.rs.map pr), .int .i64 c.ms]), .p (.int .i64 x)] (mkHp []) A (fun y => y = .ok (.p (.tuple [.int .i64 (whereC c x : Nat), .int .i64 0])) (mkHp []) A) := by
  refine specD_of Try.func24 (rfl : Try.f24.body = some _) (Nat.le_of_ble_eq_true rfl) (fun id h => ?_) (fun j id h => ?_) ?_
  · exact wf1x h
  · exact wf2x h
  intro C hN hL
  replace hN : C.N = 20 := hN
  simp only [Gh.num, List.map_cons, List.map_nil, Nat.reduceAdd]
  have hn := valid_num hv
  have hwl := whereC_lt hv x
  repeat refine gwp_seq ?_
  refine gwp_region ?_
  refine n1 120 false (hc := kVk2.h {}) (k := ?_)
  refine n1 130 false (hc := kVk2.h {}) (k := ?_)
  refine v0 (k := ?_)
  refine n1 150 false (hc := kVk2.h {}) (k := ?_)
  refine nil0 ?_
  refine cl [2, 3, 4, 5] (k := ?_)
  repeat refine gwp_seq ?_
  refine gwp_region ?_
  refine v0 (k := ?_)
  refine df0 (k := ?_)
  refine nil0 ?_
  refine cl [2, 3, 4, 5] (k := ?_)
  repeat refine gwp_seq ?_
  refine fz 130 1 [.k] (k := ?_)
  refine gwp_region ?_
  refine v0 (k := ?_)
  refine v0 (k := ?_)
  refine ocv 11 (.f [.n [.k]]) (k := ?_)
  refine oc0 [(300, 5000)] [] [1, 0] none (spec := s_truth_t1 c 69 x (inQ x c.pl) (q_69 c hv x) ent69 hv hq hc) (hent := ent68) (hgr := by (simp only [G.ren, G.rens, rens_p, Gh.look, Nat.reduceEqDiff, reduceIte] <;> rfl)) (k := ?_)
  refine v0 (k := ?_)
  refine v0 (k := ?_)
  refine v0 (k := ?_)
  refine v0 (k := ?_)
  refine v0 (k := ?_)
  refine nil0 ?_
  refine cl [3, 4, 5, 6, 7] (k := ?_)
  repeat refine gwp_seq ?_
  refine gwp_region ?_
  refine v0 (k := ?_)
  refine v0 (k := ?_)
  refine v0 (k := ?_)
  refine oc0 [] [] [9, 0, 0] none (spec := s_whereC c hv x) (hent := ent70) (k := ?_)
  refine v1 (hc := kVk2.h {}) (k := ?_)
  refine v0 (k := ?_)
  refine s1 (hc := kVk2.h {}) (k := ?_)
  refine nil0 ?_
  repeat refine gwp_seq ?_
  refine gwp_ret ?_
  repeat (first | refine gthen_ret ?_ | refine gblock_ret ?_ | refine gnoGoto_ret ?_)
  refine finD_ret ?_
  refine ocall [150] [(0, 150)] (spec := d_none67 0) (hent := ent67) (h := ?_)
  refine out_nil ?_
  refine fp2 (hR := ?_)
  rfl
end Go.Proofs.Ytagdholenfkeaaa

/- A rule of written-out states: leaving with three results. -/
namespace Go.Proofs.Ytagdholenfkeaaa
open Go.Gh
set_option maxRecDepth 100000
structure eH1 {α : Type} (a b : α) : Prop where
  h : a = b := by (simp only [gresult, gresL, gres1, tup_nil, tup_one, tup_two, gsem, gev, ofV, mkFr_cons, mkFr_nil, mkHp_cons, mkHp_nil, upd, yes, lift, gbinAt, gnilEq, gbin, gint, gshift, arith, gpick, gload, gstore, splice, gbox, gfill, placesL, gbuildSlice, gfieldAddr, gfield, gelem, gindexAddr, gindex, gbound, gslice, glen, gsource, gappend, gmin, gminL, gmax, gmaxL, mapGet, mapPut, zeroG, orZero, glookup, gmapUpdate, gconvert, gtypeAssert, gextract, isConst, gnilCheck, gunOp, gmakeSlice, intOf, mkAgg, mkFn, mkIface, mkTuple, allP, G.cells, good, goods, allOne, G.one, P.one, allP_p, allOne_p, goods_p, toPs_p, all_int, take_all, isAggD, isIfaceD, toP, toPs, P.size, P.cells, List.map_cons, List.map_nil, List.take_succ_cons, List.take_zero, List.drop_succ_cons, List.drop_zero, List.take_nil, List.drop_nil, List.cons_append, List.nil_append, List.append_nil, List.length_cons, List.length_nil, List.getElem?_cons_zero, List.getElem?_cons_succ, List.getElem?_nil, List.set_cons_zero, List.set_cons_succ, List.flatMap_cons, List.flatMap_nil, List.getElem?_toArray, List.getElem?_map, List.length_map, Option.map_some, Option.map_none, Nat.mul_one, List.length_set, set_map_p, set_map_int, Nat.reduceEqDiff, Nat.reduceAdd, Nat.reduceMul, Nat.reduceSub, Nat.reduceLeDiff, Nat.add_zero, Nat.zero_add, Int.toNat_natCast, Int.reduceToNat, reduceIte, reduceCtorEq, eq_self, if_true, if_false, and_true, true_and, true_or, or_true, or_false, false_or, Bool.false_eq_true, ne_eq, not_true_eq_false, not_false_eq_true, cond_true, cond_false, Bool.and_true, Bool.true_and, Bool.and_false, Bool.false_and, Bool.or_true, Bool.true_or, Bool.or_false, Bool.false_or, Bool.not_true, Bool.not_false, ti_1, ti_3, ti_4, ti_5, ti_9, ti_20, ti_22, ti_23, ti_25, ti_28, ti_32, ti_41, ti_44, ti_47, ti_49, ti_50, ti_52, ti_55, ti_57, ti_61, ti_62, ti_65, ti_66, ti_68, ti_69, ti_70, ti_74, ti_75, ti_77, ti_78, ti_81, ti_89, ti_92, ti_96, ti_100, ti_101, ti_102, ti_103, ti_105, ti_108, ti_113, ti_115, ti_116, ti_117, ti_118, ti_122, ti_124, ti_126, ti_128, ti_132, ti_133, ti_138, ti_140] <;> rfl)
variable {E : Env Try.prog} {l : List (Nat × G)} {m : List (Nat × Ob)} {A : E.α} {g : G}
theorem fp3 {fn : Func} {R : GRes E → Prop} {d d' : Prop} {v : P} {x1 x2 x3 : ResultVar} (hrs : fn.results.toList = [x1, x2, x3] := by rfl) (hg : gresult Try.prog (mkHp m) (mkFr l) [x1, x2, x3] = some (d, g) := by exact eH1.h {})
    (hp : toP (mkHp m) g = some (d', v) := by (simp only [toP, toPs, mkHp_cons, mkHp_nil, Nat.reduceEqDiff, reduceIte, and_true, true_and] <;> rfl)) (hR : R (.ok (.p v) (mkHp []) A)) (hd : d := by simp) (hd' : d' := by simp) : Fin Try.prog fn R (sg l m A []) := fin_p (by rw [hrs]; exact hg) hd hp hd' hR
end Go.Proofs.Ytagdholenfkeaaa
