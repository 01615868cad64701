/- What functions of the program return, each for every input that its theorem names. -/
import Derived.Test.YtabeeaiilanmjaaB2
import Derived.Test.YtabeeaiilanmjaaRows
set_option linter.unusedVariables false
set_option linter.unusedSimpArgs false
/- The program: Missing. -/
namespace Go.Proofs.Ytabeeaiilanmjaa
open Go.Gh
set_option maxRecDepth 100000
set_option maxHeartbeats 4000000
structure kVj1 (c : Prop) : Prop where
  h : c := by (first | exact True.intro | omega | (simp only [inI]; omega) | (simp [P.size, pS, all_int, allOne_p, goods_p, allOne, goods, good, G.one, P.one, P.cells] <;> first | omega | assumption | simp_all))
theorem len_ne {α : Type} {l : List α} (h : l ≠ []) : ¬ ((l.length : Nat) : Int) = 0 := by cases l with | nil => exact absurd rfl h | cons _ _ => simp; omega
theorem ent18 : Enters Try.prog 18 := Enters.mk Try.func18 (by kernel_rfl) rfl
theorem p_miss_t {E : Env Try.prog} {A : E.α} (f : Fd) (hv : f.valid = true) (s : Nat) (h1 : (inB (s : Nat) 0 (allS f.ps.length : Nat)) = true) (hm : misL f s ≠ []) : Gh.Spec E 18 [.p (.agg [.list (f.ps.map pS), .int .i64 f.el, .int .i64 f.eh, .int .i64 f.nl, .int .i64 f.nh, .int .i64 f.dl, .int .i64 f.dh, .int .i64 f.dep, .int .i64 f.tm, .int .i64 f.gp]), .p (.int .i64 (s : Nat))] (mkHp []) A (fun y => y = .ok (.p (.tuple [.int .i64 (hdL (misL f s)).1, .int .i64 (hdL (misL f s)).2, .int .i64 ((misL f s).length : Nat), .int .i64 0])) (mkHp []) A) := by
  refine specD_of Try.func18 (rfl : Try.f18.body = some _) (Nat.le_of_ble_eq_true rfl) (fun id h => ?_) (fun j id h => ?_) ?_
  · exact wf1x h
  · exact wf2x h
  intro C hN hL
  replace hN : C.N = 43 := hN
  simp only [Gh.num, List.map_cons, List.map_nil, Nat.reduceAdd]
  have hn := valid_num hv
  have hs12 := allS_lt (n := f.ps.length) (by omega)
  have hq1 := h1
  simp only [inB, Bool.and_eq_true, decide_eq_true_eq] at hq1
  have hcw : IntKind.u64.wrap ((s : Nat) : Int) = ((s : Nat) : Int) := IntWalk.u64_in _ (by omega)
  have hpm : MK (plM f f.ps.length) := MK.pl _ (by omega)
  have hpl := pls_len hv
  repeat refine gwp_seq ?_
  refine gwp_region ?_
  refine n1 120 false (hc := kVj1.h {}) (k := ?_)
  refine n1 130 false (hc := kVj1.h {}) (k := ?_)
  refine n1 140 false (hc := kVj1.h {}) (k := ?_)
  refine n1 150 false (hc := kVj1.h {}) (k := ?_)
  refine n1 160 false (hc := kVj1.h {}) (k := ?_)
  refine n1 170 false (hc := kVj1.h {}) (k := ?_)
  refine nil0 ?_
  refine cl [2, 3, 4, 5, 6, 7] (k := ?_)
  repeat refine gwp_seq ?_
  refine gwp_region ?_
  refine df0 (k := ?_)
  refine nil0 ?_
  refine cl [2, 3, 4, 5, 6, 7] (k := ?_)
  repeat refine gwp_seq ?_
  refine gwp_region ?_
  refine v0 (k := ?_)
  refine oc0 [(220, 5000)] [] [0] none (spec := s_open_t f hv) (hent := ent40) (hgr := by (simp only [G.ren, G.rens, rens_p, Gh.look, Nat.reduceEqDiff, reduceIte] <;> rfl)) (k := ?_)
  refine n1 180 false (hc := kVj1.h {}) (k := ?_)
  refine s1 (hc := kVj1.h {}) (k := ?_)
  refine nil0 ?_
  refine cl [3, 4, 5, 6, 7, 8] (k := ?_)
  repeat refine gwp_seq ?_
  refine gwp_region ?_
  refine v0 (k := ?_)
  refine v0 (k := ?_)
  refine oc0 [] [] [4, 0] none (spec := s_isSet f (by omega) (s : Nat)) (hent := ent44) (k := ?_)
  refine rb 14 true (h := by (exact h1)) (k := ?_)
  refine pc0 (spec := s_must_t _) (hent := ent43) (k := ?_)
  refine nil0 ?_
  refine cl [3, 4, 5, 6, 7, 8] (k := ?_)
  repeat refine gwp_seq ?_
  refine gwp_region ?_
  refine v0 (k := ?_)
  refine oc0 [] [] [13] none (spec := s_places f) (hent := ent48) (k := ?_)
  refine nil0 ?_
  refine cl [3, 4, 5, 6, 7, 8, 17] (k := ?_)
  repeat refine gwp_seq ?_
  refine gwp_block ?_
  repeat refine gwp_seq ?_
  refine cl [3, 4, 5, 6, 7, 8, 17] (k := ?_)
  refine rf 10000 99001 [18] (fun k (z : List (Int × Int)) A1 => misK f s k = z ∧ A1 = A) (fun z => [(130, .cells [.p (.int .i64 (s : Nat))] 0), (140, .cells [.p (.int .i64 (hdL z).1)] 0), (150, .cells [.p (.int .i64 (hdL z).2)] 0), (160, .cells [.p (.int .i64 (z.length : Nat))] 0), (170, .cells [.p (.int .i64 0)] 0), (180, .cells [.ptr [.p (.list (f.ps.map pS)), .p (.int .i64 f.el), .p (.int .i64 f.eh), .p (.int .i64 f.nl), .p (.int .i64 f.nh), .p (.int .i64 f.dl), .p (.int .i64 f.dh), .p (.int .i64 f.dep), .p (.int .i64 f.tm), .p (.int .i64 f.gp), .p (.int .u64 (usedN f f.ps.length : Nat)), .map 5000]] 0), (5000, .map (plM f f.ps.length))]) (fun _ _ _ => False) (fun _ z => [(130, .cells [.p (.int .i64 (s : Nat))] 0), (140, .cells [.p (.int .i64 (hdL z).1)] 0), (150, .cells [.p (.int .i64 (hdL z).2)] 0), (160, .cells [.p (.int .i64 (z.length : Nat))] 0), (170, .cells [.p (.int .i64 0)] 0), (180, .cells [.ptr [.p (.list (f.ps.map pS)), .p (.int .i64 f.el), .p (.int .i64 f.eh), .p (.int .i64 f.nl), .p (.int .i64 f.nh), .p (.int .i64 f.dl), .p (.int .i64 f.dh), .p (.int .i64 f.dep), .p (.int .i64 f.tm), .p (.int .i64 f.gp), .p (.int .u64 (usedN f f.ps.length : Nat)), .map 5000]] 0), (5000, .map (plM f f.ps.length))]) [] [.k] (it := it_places f hv) (hent := ent76) (xs := ((plsL f).map fun e => [P.agg [.int .i64 e.1, .int .i64 e.2]])) (hlen := fun x hx => by obtain ⟨w, _, rfl⟩ := List.mem_map.1 hx; rfl) (h0 := ?_) (round := fun k z A1 x hI hx lp bs C1 hN1 hL1 => ?_) (hK := fun e z A1 hK => ?_) (hI := fun z A1 hI => ?_)
  · exact ⟨[], ⟨rfl, rfl⟩, rfl⟩
  · obtain ⟨hz, rfl⟩ := hI
    rw [List.getElem?_map] at hx
    obtain ⟨e, he, rfl⟩ := Option.map_eq_some_iff.1 hx
    have hem := pls_mem (List.mem_of_getElem? he)
    have hat := look_at hv hem.1 hem.2
    have hlk := look_or hpm e.1 e.2
    have hko := hpm.ok e.1 e.2
    rw [hat] at hlk
    have hzl : z.length ≤ 1089 := by rw [← hz]; exact Nat.le_trans (mis_len f s k) hpl
    have hal := at_lt (f := f) (by omega) e.1 e.2
    have hba := bitop_and_u64 (atN f e.1 e.2) s (by omega) (by omega)
    replace hN1 : C1.N = 43 := hN1.trans hN
    refine (?_ : gwp C1 (some lp) _ _ (sg ((18, .p (.agg [.int .i64 e.1, .int .i64 e.2])) :: _) [(130, .cells [.p (.int .i64 (s : Nat))] 0), (140, .cells [.p (.int .i64 (hdL z).1)] 0), (150, .cells [.p (.int .i64 (hdL z).2)] 0), (160, .cells [.p (.int .i64 (z.length : Nat))] 0), (170, .cells [.p (.int .i64 0)] 0), (180, .cells [.ptr [.p (.list (f.ps.map pS)), .p (.int .i64 f.el), .p (.int .i64 f.eh), .p (.int .i64 f.nl), .p (.int .i64 f.nh), .p (.int .i64 f.dl), .p (.int .i64 f.dh), .p (.int .i64 f.dep), .p (.int .i64 f.tm), .p (.int .i64 f.gp), .p (.int .u64 (usedN f f.ps.length : Nat)), .map 5000]] 0), (5000, .map (plM f f.ps.length))] A1 []))
    repeat refine gwp_seq ?_
    refine gwp_region ?_
    refine n1 10190 false (hc := kVj1.h {}) (k := ?_)
    refine s1 (hc := kVj1.h {}) (k := ?_)
    refine nil0 ?_
    refine ⟨rfl, fun bs2 C2 hN2 hL2 hr2 => ?_⟩
    replace hN2 : C2.N = 43 := hN2.trans hN
    refine (?_ : gwp C2 (some lp) _ _ (sg _ _ _ []))
    repeat refine gwp_seq ?_
    refine gwp_block ?_
    repeat refine gwp_seq ?_
    refine rd ?_
    refine d0 0 (k := ?_)
    refine d0 1 (k := ?_)
    refine d0 2 (k := ?_)
    refine d0 3 (k := ?_)
    refine d0 4 (k := ?_)
    refine d0 5 (k := ?_)
    refine dl 6 (hv := hlk) (hkk := hko) (k := ?_)
    refine d0 7 (k := ?_)
    refine d1 8 (hc := kVj1.h {}) (k := ?_)
    refine d0 9 (k := ?_)
    refine doc0 10 [] [] [13, 0] none (spec := s_serves f hv (atN f e.1 e.2 &&& s) (and_lt (by omega))) (hent := ent46) (k := ?_)
    refine dz 11 [0, 0, 2, 6, 14, 0, 62, 0, 128, 510, 1023] (h := ?_)
    refine de 11 (h := ?_)
    repeat refine gwp_seq ?_
    refine cB (k1 := fun hb1 => ?_) (k0 := fun hb1 => ?_)
    · replace hb1 := hB.h {} hb1
      try rw [eqI] at hb1
      repeat refine gwp_seq ?_
      refine gwp_exit ?_
      repeat (first | refine gthen_exit ?_ | refine gnoGoto_exit ?_ | refine gblock_here ?_ | refine gblock_out rfl ?_)
      first
      | (refine ⟨_, z, lc [130, 140, 150, 160, 170, 180, 5000], rfl, ?_, rfl⟩
         rw [mis_f he (by assumption), hz])
      | (refine ⟨_, z ++ [e], lc [130, 140, 150, 160, 170, 180, 5000], ?_, ?_, rfl⟩
         · rw [(hd_nil (z := z) (e := e) (by omega)).1, List.length_append]; rfl
         rw [mis_t he (by assumption), hz])
      | (refine ⟨_, z ++ [e], lc [130, 140, 150, 160, 170, 180, 5000], ?_, ?_, rfl⟩
         · rw [hd_app (z := z) (e := e) (by omega), List.length_append]; rfl
         rw [mis_t he (by assumption), hz])
    replace hb1 := hB.h {} hb1
    try rw [eqI] at hb1
    repeat refine gwp_seq ?_
    refine gwp_skip ?_
    refine cl [3, 4, 5, 6, 7, 8, 9] (k := ?_)
    repeat refine gwp_seq ?_
    refine gwp_region ?_
    refine v0 (k := ?_)
    refine v0 (k := ?_)
    refine nil0 ?_
    repeat refine gwp_seq ?_
    refine cB (k1 := fun hb2 => ?_) (k0 := fun hb2 => ?_)
    · replace hb2 := hB.h {} hb2
      try rw [eqI] at hb2
      repeat refine gwp_seq ?_
      refine rd ?_
      refine d0 0 (k := ?_)
      refine d0 1 (k := ?_)
      refine d0 2 (k := ?_)
      refine d0 3 (k := ?_)
      refine ds1 4 (hc := kVj1.h {}) (k := ?_)
      refine ds1 5 (hc := kVj1.h {}) (k := ?_)
      refine dz 6 [0, 1, 0, 4, 3, 31] (h := ?_)
      refine de 6 (h := ?_)
      refine cl [3, 4, 5, 6, 7, 8] (k := ?_)
      repeat refine gwp_seq ?_
      refine gwp_region ?_
      refine v0 (k := ?_)
      refine v1 (hc := kVj1.h {}) (k := ?_)
      refine s1 (hc := kVj1.h {}) (k := ?_)
      refine nil0 ?_
      first
      | (refine ⟨_, z, lc [130, 140, 150, 160, 170, 180, 5000], rfl, ?_, rfl⟩
         rw [mis_f he (by assumption), hz])
      | (refine ⟨_, z ++ [e], lc [130, 140, 150, 160, 170, 180, 5000], ?_, ?_, rfl⟩
         · rw [(hd_nil (z := z) (e := e) (by omega)).1, List.length_append]; rfl
         rw [mis_t he (by assumption), hz])
      | (refine ⟨_, z ++ [e], lc [130, 140, 150, 160, 170, 180, 5000], ?_, ?_, rfl⟩
         · rw [hd_app (z := z) (e := e) (by omega), List.length_append]; rfl
         rw [mis_t he (by assumption), hz])
    replace hb2 := hB.h {} hb2
    try rw [eqI] at hb2
    repeat refine gwp_seq ?_
    refine gwp_skip ?_
    refine cl [3, 4, 5, 6, 7, 8] (k := ?_)
    repeat refine gwp_seq ?_
    refine gwp_region ?_
    refine v0 (k := ?_)
    refine v1 (hc := kVj1.h {}) (k := ?_)
    refine s1 (hc := kVj1.h {}) (k := ?_)
    refine nil0 ?_
    first
    | (refine ⟨_, z, lc [130, 140, 150, 160, 170, 180, 5000], rfl, ?_, rfl⟩
       rw [mis_f he (by assumption), hz])
    | (refine ⟨_, z ++ [e], lc [130, 140, 150, 160, 170, 180, 5000], ?_, ?_, rfl⟩
       · rw [(hd_nil (z := z) (e := e) (by omega)).1, List.length_append]; rfl
       rw [mis_t he (by assumption), hz])
    | (refine ⟨_, z ++ [e], lc [130, 140, 150, 160, 170, 180, 5000], ?_, ?_, rfl⟩
       · rw [hd_app (z := z) (e := e) (by omega), List.length_append]; rfl
       rw [mis_t he (by assumption), hz])
  · exact hK.elim
  obtain ⟨hz, rfl⟩ := hI
  rw [List.length_map, mis_all] at hz
  rw [← hz]
  clear hz
  refine cl [4, 5, 6, 7] (k := ?_)
  repeat refine gwp_seq ?_
  refine gwp_region ?_
  refine v0 (k := ?_)
  refine v0 (k := ?_)
  refine rb 39 false (h := by (simp only [decide_eq_false_iff_not, beq_eq_false_iff_ne, ne_eq]; exact len_ne hm)) (k := ?_)
  refine nil0 ?_
  repeat refine gwp_seq ?_
  refine cF (k := ?_)
  repeat refine gwp_seq ?_
  refine gwp_skip ?_
  refine cl [4, 5, 6, 7] (k := ?_)
  repeat refine gwp_seq ?_
  refine rd ?_
  refine d0 0 (k := ?_)
  refine d0 1 (k := ?_)
  refine d0 2 (k := ?_)
  refine ds1 3 (hc := kVj1.h {}) (k := ?_)
  refine ds1 4 (hc := kVj1.h {}) (k := ?_)
  refine ds1 5 (hc := kVj1.h {}) (k := ?_)
  refine ds1 6 (hc := kVj1.h {}) (k := ?_)
  refine dz 7 [0, 0, 0, 1, 11, 31, 63] (h := ?_)
  refine de 7 (h := ?_)
  repeat refine gwp_seq ?_
  refine gwp_ret ?_
  repeat (first | refine gthen_ret ?_ | refine gblock_ret ?_ | refine gnoGoto_ret ?_)
  refine finD_ret ?_
  try refine om (h3 := by simp [hpIds, obIdl, G.idl, G.idls, idls_p, mkHp_cons, mkHp_nil]) (h := ?_)
  refine ocall [170] [(0, 170)] (spec := d_none 0) (hent := ent39) (h := ?_)
  refine out_nil ?_
  refine fp4 (hR := ?_)
  rfl
theorem p_miss_n {E : Env Try.prog} {A : E.α} (f : Fd) (hv : f.valid = true) (s : Nat) (h1 : (inB (s : Nat) 0 (allS f.ps.length : Nat)) = true) (hm : misL f s = []) : Gh.Spec E 18 [.p (.agg [.list (f.ps.map pS), .int .i64 f.el, .int .i64 f.eh, .int .i64 f.nl, .int .i64 f.nh, .int .i64 f.dl, .int .i64 f.dh, .int .i64 f.dep, .int .i64 f.tm, .int .i64 f.gp]), .p (.int .i64 (s : Nat))] (mkHp []) A (fun y => y = .ok (.p (.tuple [.int .i64 0, .int .i64 0, .int .i64 0, .int .i64 4])) (mkHp []) A) := by
  refine specD_of Try.func18 (rfl : Try.f18.body = some _) (Nat.le_of_ble_eq_true rfl) (fun id h => ?_) (fun j id h => ?_) ?_
  · exact wf1x h
  · exact wf2x h
  intro C hN hL
  replace hN : C.N = 43 := hN
  simp only [Gh.num, List.map_cons, List.map_nil, Nat.reduceAdd]
  have hn := valid_num hv
  have hs12 := allS_lt (n := f.ps.length) (by omega)
  have hq1 := h1
  simp only [inB, Bool.and_eq_true, decide_eq_true_eq] at hq1
  have hcw : IntKind.u64.wrap ((s : Nat) : Int) = ((s : Nat) : Int) := IntWalk.u64_in _ (by omega)
  have hpm : MK (plM f f.ps.length) := MK.pl _ (by omega)
  have hpl := pls_len hv
  repeat refine gwp_seq ?_
  refine gwp_region ?_
  refine n1 120 false (hc := kVj1.h {}) (k := ?_)
  refine n1 130 false (hc := kVj1.h {}) (k := ?_)
  refine n1 140 false (hc := kVj1.h {}) (k := ?_)
  refine n1 150 false (hc := kVj1.h {}) (k := ?_)
  refine n1 160 false (hc := kVj1.h {}) (k := ?_)
  refine n1 170 false (hc := kVj1.h {}) (k := ?_)
  refine nil0 ?_
  refine cl [2, 3, 4, 5, 6, 7] (k := ?_)
  repeat refine gwp_seq ?_
  refine gwp_region ?_
  refine df0 (k := ?_)
  refine nil0 ?_
  refine cl [2, 3, 4, 5, 6, 7] (k := ?_)
  repeat refine gwp_seq ?_
  refine gwp_region ?_
  refine v0 (k := ?_)
  refine oc0 [(220, 5000)] [] [0] none (spec := s_open_t f hv) (hent := ent40) (hgr := by (simp only [G.ren, G.rens, rens_p, Gh.look, Nat.reduceEqDiff, reduceIte] <;> rfl)) (k := ?_)
  refine n1 180 false (hc := kVj1.h {}) (k := ?_)
  refine s1 (hc := kVj1.h {}) (k := ?_)
  refine nil0 ?_
  refine cl [3, 4, 5, 6, 7, 8] (k := ?_)
  repeat refine gwp_seq ?_
  refine gwp_region ?_
  refine v0 (k := ?_)
  refine v0 (k := ?_)
  refine oc0 [] [] [4, 0] none (spec := s_isSet f (by omega) (s : Nat)) (hent := ent44) (k := ?_)
  refine rb 14 true (h := by (exact h1)) (k := ?_)
  refine pc0 (spec := s_must_t _) (hent := ent43) (k := ?_)
  refine nil0 ?_
  refine cl [3, 4, 5, 6, 7, 8] (k := ?_)
  repeat refine gwp_seq ?_
  refine gwp_region ?_
  refine v0 (k := ?_)
  refine oc0 [] [] [13] none (spec := s_places f) (hent := ent48) (k := ?_)
  refine nil0 ?_
  refine cl [3, 4, 5, 6, 7, 8, 17] (k := ?_)
  repeat refine gwp_seq ?_
  refine gwp_block ?_
  repeat refine gwp_seq ?_
  refine cl [3, 4, 5, 6, 7, 8, 17] (k := ?_)
  refine rf 10000 99001 [18] (fun k (z : List (Int × Int)) A1 => misK f s k = z ∧ A1 = A) (fun z => [(130, .cells [.p (.int .i64 (s : Nat))] 0), (140, .cells [.p (.int .i64 (hdL z).1)] 0), (150, .cells [.p (.int .i64 (hdL z).2)] 0), (160, .cells [.p (.int .i64 (z.length : Nat))] 0), (170, .cells [.p (.int .i64 0)] 0), (180, .cells [.ptr [.p (.list (f.ps.map pS)), .p (.int .i64 f.el), .p (.int .i64 f.eh), .p (.int .i64 f.nl), .p (.int .i64 f.nh), .p (.int .i64 f.dl), .p (.int .i64 f.dh), .p (.int .i64 f.dep), .p (.int .i64 f.tm), .p (.int .i64 f.gp), .p (.int .u64 (usedN f f.ps.length : Nat)), .map 5000]] 0), (5000, .map (plM f f.ps.length))]) (fun _ _ _ => False) (fun _ z => [(130, .cells [.p (.int .i64 (s : Nat))] 0), (140, .cells [.p (.int .i64 (hdL z).1)] 0), (150, .cells [.p (.int .i64 (hdL z).2)] 0), (160, .cells [.p (.int .i64 (z.length : Nat))] 0), (170, .cells [.p (.int .i64 0)] 0), (180, .cells [.ptr [.p (.list (f.ps.map pS)), .p (.int .i64 f.el), .p (.int .i64 f.eh), .p (.int .i64 f.nl), .p (.int .i64 f.nh), .p (.int .i64 f.dl), .p (.int .i64 f.dh), .p (.int .i64 f.dep), .p (.int .i64 f.tm), .p (.int .i64 f.gp), .p (.int .u64 (usedN f f.ps.length : Nat)), .map 5000]] 0), (5000, .map (plM f f.ps.length))]) [] [.k] (it := it_places f hv) (hent := ent76) (xs := ((plsL f).map fun e => [P.agg [.int .i64 e.1, .int .i64 e.2]])) (hlen := fun x hx => by obtain ⟨w, _, rfl⟩ := List.mem_map.1 hx; rfl) (h0 := ?_) (round := fun k z A1 x hI hx lp bs C1 hN1 hL1 => ?_) (hK := fun e z A1 hK => ?_) (hI := fun z A1 hI => ?_)
  · exact ⟨[], ⟨rfl, rfl⟩, rfl⟩
  · obtain ⟨hz, rfl⟩ := hI
    rw [List.getElem?_map] at hx
    obtain ⟨e, he, rfl⟩ := Option.map_eq_some_iff.1 hx
    have hem := pls_mem (List.mem_of_getElem? he)
    have hat := look_at hv hem.1 hem.2
    have hlk := look_or hpm e.1 e.2
    have hko := hpm.ok e.1 e.2
    rw [hat] at hlk
    have hzl : z.length ≤ 1089 := by rw [← hz]; exact Nat.le_trans (mis_len f s k) hpl
    have hal := at_lt (f := f) (by omega) e.1 e.2
    have hba := bitop_and_u64 (atN f e.1 e.2) s (by omega) (by omega)
    replace hN1 : C1.N = 43 := hN1.trans hN
    refine (?_ : gwp C1 (some lp) _ _ (sg ((18, .p (.agg [.int .i64 e.1, .int .i64 e.2])) :: _) [(130, .cells [.p (.int .i64 (s : Nat))] 0), (140, .cells [.p (.int .i64 (hdL z).1)] 0), (150, .cells [.p (.int .i64 (hdL z).2)] 0), (160, .cells [.p (.int .i64 (z.length : Nat))] 0), (170, .cells [.p (.int .i64 0)] 0), (180, .cells [.ptr [.p (.list (f.ps.map pS)), .p (.int .i64 f.el), .p (.int .i64 f.eh), .p (.int .i64 f.nl), .p (.int .i64 f.nh), .p (.int .i64 f.dl), .p (.int .i64 f.dh), .p (.int .i64 f.dep), .p (.int .i64 f.tm), .p (.int .i64 f.gp), .p (.int .u64 (usedN f f.ps.length : Nat)), .map 5000]] 0), (5000, .map (plM f f.ps.length))] A1 []))
    repeat refine gwp_seq ?_
    refine gwp_region ?_
    refine n1 10190 false (hc := kVj1.h {}) (k := ?_)
    refine s1 (hc := kVj1.h {}) (k := ?_)
    refine nil0 ?_
    refine ⟨rfl, fun bs2 C2 hN2 hL2 hr2 => ?_⟩
    replace hN2 : C2.N = 43 := hN2.trans hN
    refine (?_ : gwp C2 (some lp) _ _ (sg _ _ _ []))
    repeat refine gwp_seq ?_
    refine gwp_block ?_
    repeat refine gwp_seq ?_
    refine rd ?_
    refine d0 0 (k := ?_)
    refine d0 1 (k := ?_)
    refine d0 2 (k := ?_)
    refine d0 3 (k := ?_)
    refine d0 4 (k := ?_)
    refine d0 5 (k := ?_)
    refine dl 6 (hv := hlk) (hkk := hko) (k := ?_)
    refine d0 7 (k := ?_)
    refine d1 8 (hc := kVj1.h {}) (k := ?_)
    refine d0 9 (k := ?_)
    refine doc0 10 [] [] [13, 0] none (spec := s_serves f hv (atN f e.1 e.2 &&& s) (and_lt (by omega))) (hent := ent46) (k := ?_)
    refine dz 11 [0, 0, 2, 6, 14, 0, 62, 0, 128, 510, 1023] (h := ?_)
    refine de 11 (h := ?_)
    repeat refine gwp_seq ?_
    refine cB (k1 := fun hb1 => ?_) (k0 := fun hb1 => ?_)
    · replace hb1 := hB.h {} hb1
      try rw [eqI] at hb1
      repeat refine gwp_seq ?_
      refine gwp_exit ?_
      repeat (first | refine gthen_exit ?_ | refine gnoGoto_exit ?_ | refine gblock_here ?_ | refine gblock_out rfl ?_)
      first
      | (refine ⟨_, z, lc [130, 140, 150, 160, 170, 180, 5000], rfl, ?_, rfl⟩
         rw [mis_f he (by assumption), hz])
      | (refine ⟨_, z ++ [e], lc [130, 140, 150, 160, 170, 180, 5000], ?_, ?_, rfl⟩
         · rw [(hd_nil (z := z) (e := e) (by omega)).1, List.length_append]; rfl
         rw [mis_t he (by assumption), hz])
      | (refine ⟨_, z ++ [e], lc [130, 140, 150, 160, 170, 180, 5000], ?_, ?_, rfl⟩
         · rw [hd_app (z := z) (e := e) (by omega), List.length_append]; rfl
         rw [mis_t he (by assumption), hz])
    replace hb1 := hB.h {} hb1
    try rw [eqI] at hb1
    repeat refine gwp_seq ?_
    refine gwp_skip ?_
    refine cl [3, 4, 5, 6, 7, 8, 9] (k := ?_)
    repeat refine gwp_seq ?_
    refine gwp_region ?_
    refine v0 (k := ?_)
    refine v0 (k := ?_)
    refine nil0 ?_
    repeat refine gwp_seq ?_
    refine cB (k1 := fun hb2 => ?_) (k0 := fun hb2 => ?_)
    · replace hb2 := hB.h {} hb2
      try rw [eqI] at hb2
      repeat refine gwp_seq ?_
      refine rd ?_
      refine d0 0 (k := ?_)
      refine d0 1 (k := ?_)
      refine d0 2 (k := ?_)
      refine d0 3 (k := ?_)
      refine ds1 4 (hc := kVj1.h {}) (k := ?_)
      refine ds1 5 (hc := kVj1.h {}) (k := ?_)
      refine dz 6 [0, 1, 0, 4, 3, 31] (h := ?_)
      refine de 6 (h := ?_)
      refine cl [3, 4, 5, 6, 7, 8] (k := ?_)
      repeat refine gwp_seq ?_
      refine gwp_region ?_
      refine v0 (k := ?_)
      refine v1 (hc := kVj1.h {}) (k := ?_)
      refine s1 (hc := kVj1.h {}) (k := ?_)
      refine nil0 ?_
      first
      | (refine ⟨_, z, lc [130, 140, 150, 160, 170, 180, 5000], rfl, ?_, rfl⟩
         rw [mis_f he (by assumption), hz])
      | (refine ⟨_, z ++ [e], lc [130, 140, 150, 160, 170, 180, 5000], ?_, ?_, rfl⟩
         · rw [(hd_nil (z := z) (e := e) (by omega)).1, List.length_append]; rfl
         rw [mis_t he (by assumption), hz])
      | (refine ⟨_, z ++ [e], lc [130, 140, 150, 160, 170, 180, 5000], ?_, ?_, rfl⟩
         · rw [hd_app (z := z) (e := e) (by omega), List.length_append]; rfl
         rw [mis_t he (by assumption), hz])
    replace hb2 := hB.h {} hb2
    try rw [eqI] at hb2
    repeat refine gwp_seq ?_
    refine gwp_skip ?_
    refine cl [3, 4, 5, 6, 7, 8] (k := ?_)
    repeat refine gwp_seq ?_
    refine gwp_region ?_
    refine v0 (k := ?_)
    refine v1 (hc := kVj1.h {}) (k := ?_)
    refine s1 (hc := kVj1.h {}) (k := ?_)
    refine nil0 ?_
    first
    | (refine ⟨_, z, lc [130, 140, 150, 160, 170, 180, 5000], rfl, ?_, rfl⟩
       rw [mis_f he (by assumption), hz])
    | (refine ⟨_, z ++ [e], lc [130, 140, 150, 160, 170, 180, 5000], ?_, ?_, rfl⟩
       · rw [(hd_nil (z := z) (e := e) (by omega)).1, List.length_append]; rfl
       rw [mis_t he (by assumption), hz])
    | (refine ⟨_, z ++ [e], lc [130, 140, 150, 160, 170, 180, 5000], ?_, ?_, rfl⟩
       · rw [hd_app (z := z) (e := e) (by omega), List.length_append]; rfl
       rw [mis_t he (by assumption), hz])
  · exact hK.elim
  obtain ⟨hz, rfl⟩ := hI
  rw [List.length_map, mis_all, hm] at hz
  rw [← hz]
  clear hz
  refine cl [4, 5, 6, 7] (k := ?_)
  repeat refine gwp_seq ?_
  refine gwp_region ?_
  refine v0 (k := ?_)
  refine v0 (k := ?_)
  refine rb 39 true (h := by (rfl)) (k := ?_)
  refine nil0 ?_
  repeat refine gwp_seq ?_
  refine cT (k := ?_)
  repeat refine gwp_seq ?_
  refine gwp_region ?_
  refine s1 (hc := kVj1.h {}) (k := ?_)
  refine s1 (hc := kVj1.h {}) (k := ?_)
  refine s1 (hc := kVj1.h {}) (k := ?_)
  refine s1 (hc := kVj1.h {}) (k := ?_)
  refine nil0 ?_
  repeat refine gwp_seq ?_
  refine gwp_ret ?_
  repeat (first | refine gthen_ret ?_ | refine gblock_ret ?_ | refine gnoGoto_ret ?_)
  refine finD_ret ?_
  try refine om (h3 := by simp [hpIds, obIdl, G.idl, G.idls, idls_p, mkHp_cons, mkHp_nil]) (h := ?_)
  refine ocall [170] [(0, 170)] (spec := d_none 4) (hent := ent39) (h := ?_)
  refine out_nil ?_
  refine fp4 (hR := ?_)
  rfl
theorem p_miss_r {E : Env Try.prog} {A : E.α} (f : Fd) (hv : f.valid = true) (s : Int) (h1 : (inB s 0 (allS f.ps.length : Nat)) = false) : Gh.Spec E 18 [.p (.agg [.list (f.ps.map pS), .int .i64 f.el, .int .i64 f.eh, .int .i64 f.nl, .int .i64 f.nh, .int .i64 f.dl, .int .i64 f.dh, .int .i64 f.dep, .int .i64 f.tm, .int .i64 f.gp]), .p (.int .i64 s)] (mkHp []) A (fun y => y = .ok (.p (.tuple [.int .i64 0, .int .i64 0, .int .i64 0, .int .i64 2])) (mkHp []) A) := by
  refine specD_of Try.func18 (rfl : Try.f18.body = some _) (Nat.le_of_ble_eq_true rfl) (fun id h => ?_) (fun j id h => ?_) ?_
  · exact wf1x h
  · exact wf2x h
  intro C hN hL
  replace hN : C.N = 43 := hN
  simp only [Gh.num, List.map_cons, List.map_nil, Nat.reduceAdd]
  have hn := valid_num hv
  repeat refine gwp_seq ?_
  refine gwp_region ?_
  refine n1 120 false (hc := kVj1.h {}) (k := ?_)
  refine n1 130 false (hc := kVj1.h {}) (k := ?_)
  refine n1 140 false (hc := kVj1.h {}) (k := ?_)
  refine n1 150 false (hc := kVj1.h {}) (k := ?_)
  refine n1 160 false (hc := kVj1.h {}) (k := ?_)
  refine n1 170 false (hc := kVj1.h {}) (k := ?_)
  refine nil0 ?_
  refine cl [2, 3, 4, 5, 6, 7] (k := ?_)
  repeat refine gwp_seq ?_
  refine gwp_region ?_
  refine df0 (k := ?_)
  refine nil0 ?_
  refine cl [2, 3, 4, 5, 6, 7] (k := ?_)
  repeat refine gwp_seq ?_
  refine gwp_region ?_
  refine v0 (k := ?_)
  refine oc0 [(220, 5000)] [] [0] none (spec := s_open_t f hv) (hent := ent40) (hgr := by (simp only [G.ren, G.rens, rens_p, Gh.look, Nat.reduceEqDiff, reduceIte] <;> rfl)) (k := ?_)
  refine n1 180 false (hc := kVj1.h {}) (k := ?_)
  refine s1 (hc := kVj1.h {}) (k := ?_)
  refine nil0 ?_
  refine cl [3, 4, 5, 6, 7, 8] (k := ?_)
  repeat refine gwp_seq ?_
  refine gwp_region ?_
  refine v0 (k := ?_)
  refine v0 (k := ?_)
  refine oc0 [] [] [4, 0] none (spec := s_isSet f (by omega) s) (hent := ent44) (k := ?_)
  refine rb 14 false (h := by (exact h1)) (k := ?_)
  refine pp0 (spec := s_must_f _) (hent := ent43) (k := ?_)
  repeat (first | refine gthen_panic ?_ | refine gblock_panic ?_)
  refine finD_panic ?_
  refine ocall [170] [(0, 170)] (spec := d_some 0 2) (hent := ent39) (h := ?_)
  refine out_nil ?_
  refine fp4 (hR := ?_)
  rfl
theorem p_miss_f {E : Env Try.prog} {A : E.α} (f : Fd) (hl : f.ps.length ≤ 1048576) (hv : f.valid = false) (s : Int) : Gh.Spec E 18 [.p (.agg [.list (f.ps.map pS), .int .i64 f.el, .int .i64 f.eh, .int .i64 f.nl, .int .i64 f.nh, .int .i64 f.dl, .int .i64 f.dh, .int .i64 f.dep, .int .i64 f.tm, .int .i64 f.gp]), .p (.int .i64 s)] (mkHp []) A (fun y => y = .ok (.p (.tuple [.int .i64 0, .int .i64 0, .int .i64 0, .int .i64 1])) (mkHp []) A) := by
  refine specD_of Try.func18 (rfl : Try.f18.body = some _) (Nat.le_of_ble_eq_true rfl) (fun id h => ?_) (fun j id h => ?_) ?_
  · exact wf1x h
  · exact wf2x h
  intro C hN hL
  replace hN : C.N = 43 := hN
  simp only [Gh.num, List.map_cons, List.map_nil, Nat.reduceAdd]
  repeat refine gwp_seq ?_
  refine gwp_region ?_
  refine n1 120 false (hc := kVj1.h {}) (k := ?_)
  refine n1 130 false (hc := kVj1.h {}) (k := ?_)
  refine n1 140 false (hc := kVj1.h {}) (k := ?_)
  refine n1 150 false (hc := kVj1.h {}) (k := ?_)
  refine n1 160 false (hc := kVj1.h {}) (k := ?_)
  refine n1 170 false (hc := kVj1.h {}) (k := ?_)
  refine nil0 ?_
  refine cl [2, 3, 4, 5, 6, 7] (k := ?_)
  repeat refine gwp_seq ?_
  refine gwp_region ?_
  refine df0 (k := ?_)
  refine nil0 ?_
  refine cl [2, 3, 4, 5, 6, 7] (k := ?_)
  repeat refine gwp_seq ?_
  refine gwp_region ?_
  refine v0 (k := ?_)
  refine op0 [] [] [0] none (spec := s_open_f f hl hv) (hent := ent40) (k := ?_)
  repeat (first | refine gthen_panic ?_ | refine gblock_panic ?_)
  refine finD_panic ?_
  refine ocall [170] [(0, 170)] (spec := d_some 0 1) (hent := ent39) (h := ?_)
  refine out_nil ?_
  refine fp4 (hR := ?_)
  rfl
end Go.Proofs.Ytabeeaiilanmjaa

/- The most kinds apart, worked out with what was worked out before; the places that are apart. -/
namespace Go.Proofs.Ytabeeaiilanmjaa
open Go.Gh
set_option maxRecDepth 100000
def offN (x y : Nat) : Nat := x &&& (2 ^ 64 - 1 - y)
theorem offN_le (x y : Nat) : offN x y ≤ x := Nat.and_le_left
theorem offN_bit {x y : Nat} (hx : x < 4096) (hy : y < 4096) (i : Nat) : (offN x y).testBit i = (x.testBit i && !y.testBit i) := by
  rw [offN, Nat.testBit_and]
  by_cases hi : i < 12
  · rw [show 2 ^ 64 - 1 - y = 2 ^ 64 - (y + 1) by omega, Nat.testBit_two_pow_sub_succ (by omega), decide_eq_true (show i < 64 by omega), Bool.true_and]
  have h2 : 2 ^ 12 ≤ 2 ^ i := Nat.pow_le_pow_right (by omega) (by omega)
  rw [Nat.testBit_lt_two_pow (show x < 2 ^ i by omega)]
  rfl
/-- Without what it has there is less of a set. -/
theorem off_less {s k : Nat} (hs : s < 4096) (hk : k < 4096) (h0 : k ≠ 0) (h : offN k s = 0) : offN s k < s := by
  refine Nat.lt_of_le_of_ne (offN_le s k) fun e => h0 ?_
  refine Nat.eq_of_testBit_eq fun i => ?_
  rw [Nat.zero_testBit]
  have h1 := offN_bit hs hk i
  have h2 := offN_bit hk hs i
  rw [e] at h1
  rw [h, Nat.zero_testBit] at h2
  cases hx : k.testBit i with
  | false => rfl
  | true =>
    rw [hx] at h1 h2
    cases hy : s.testBit i with
    | false => rw [hy] at h2; cases h2
    | true => rw [hy] at h1; cases h1
def stepF (ks : List Nat) : Nat → Nat → Nat
  | 0, _ => 0
  | n + 1, s => ks.foldl (fun b k => if offN k s = 0 then max b (1 + stepF ks n (offN s k)) else b) 0
/-- The most kinds of a set that are apart. -/
def best (ks : List Nat) (s : Nat) : Nat := stepF ks (s + 1) s
def bestI (ks : List Nat) (s i : Nat) : Nat := (ks.take i).foldl (fun b k => if offN k s = 0 then max b (1 + best ks (offN s k)) else b) 0
/-- Kinds that are fit: none is empty. -/
def Kok (ks : List Nat) : Prop := ∀ k ∈ ks, k ≠ 0 ∧ k < 4096
theorem foldl_same {α β : Type} {f g : β → α → β} : ∀ {l : List α} {b : β}, (∀ b, ∀ x ∈ l, f b x = g b x) → l.foldl f b = l.foldl g b
  | [], _, _ => rfl
  | x :: l, b, h => by rw [List.foldl_cons, List.foldl_cons, h b x List.mem_cons_self]; exact foldl_same fun b y hy => h b y (List.mem_cons_of_mem _ hy)
theorem step_any {ks : List Nat} (hk : Kok ks) : ∀ (n m s : Nat), s < 4096 → s < n → s < m → stepF ks n s = stepF ks m s
  | 0, _, _, _, h, _ => by omega
  | _, 0, _, _, _, h => by omega
  | n + 1, m + 1, s, hs, h1, h2 => by
    rw [stepF, stepF]
    refine foldl_same fun b k hkm => ?_
    obtain ⟨hk0, hk1⟩ := hk k hkm
    split
    · rename_i h
      have := off_less hs hk1 hk0 h
      rw [step_any hk n m (offN s k) (by omega) (by omega) (by omega)]
    rfl
theorem best_eq {ks : List Nat} (hk : Kok ks) {s : Nat} (hs : s < 4096) : best ks s = bestI ks s ks.length := by
  rw [best, stepF, bestI, List.take_length]
  refine foldl_same fun b k hkm => ?_
  obtain ⟨hk0, hk1⟩ := hk k hkm
  split
  · rename_i h
    have := off_less hs hk1 hk0 h
    rw [best, step_any hk s (offN s k + 1) (offN s k) (by omega) (by omega) (by omega)]
  rfl
theorem bestI_t {ks : List Nat} {s i k : Nat} (hi : ks[i]? = some k) (h : offN k s = 0) : bestI ks s (i + 1) = max (bestI ks s i) (1 + best ks (offN s k)) := by
  rw [bestI, List.take_add_one, hi, Option.toList_some, List.foldl_append, List.foldl_cons, List.foldl_nil, if_pos h]; rfl
theorem bestI_f {ks : List Nat} {s i k : Nat} (hi : ks[i]? = some k) (h : offN k s ≠ 0) : bestI ks s (i + 1) = bestI ks s i := by
  rw [bestI, List.take_add_one, hi, Option.toList_some, List.foldl_append, List.foldl_cons, List.foldl_nil, if_neg h]; rfl
theorem max_step {a b : Nat} {s : Nat} (h1 : a ≤ s) (h2 : b < s) : max a (1 + b) ≤ s := by rw [Nat.max_def]; split <;> omega
/-- No more kinds are apart than the set is large. -/
theorem step_le {ks : List Nat} (hk : Kok ks) : ∀ (n s : Nat), s < 4096 → s < n → stepF ks n s ≤ s
  | 0, _, _, h => by omega
  | n + 1, s, hs, h => by
    rw [stepF]
    have : ∀ (l : List Nat) (b : Nat), (∀ k ∈ l, k ∈ ks) → b ≤ s → l.foldl (fun b k => if offN k s = 0 then max b (1 + stepF ks n (offN s k)) else b) b ≤ s := fun l => by
      induction l with
      | nil => intro b _ hb; exact hb
      | cons k l ih =>
        intro b hl hb
        rw [List.foldl_cons]
        refine ih _ (fun k' hk' => hl k' (List.mem_cons_of_mem _ hk')) ?_
        obtain ⟨hk0, hk1⟩ := hk k (hl k List.mem_cons_self)
        split
        · rename_i h0
          have h1 := off_less hs hk1 hk0 h0
          have h2 := step_le hk n (offN s k) (by omega) (by omega)
          exact max_step hb (by omega)
        exact hb
    exact this ks 0 (fun _ h => h) (Nat.zero_le _)
theorem best_le {ks : List Nat} (hk : Kok ks) {s : Nat} (hs : s < 4096) : best ks s ≤ s := step_le hk _ _ hs (by omega)
theorem bestI_le {ks : List Nat} (hk : Kok ks) {s : Nat} (hs : s < 4096) (i : Nat) : bestI ks s i ≤ s := by
  have : ∀ (l : List Nat) (b : Nat), (∀ k ∈ l, k ∈ ks) → b ≤ s → l.foldl (fun b k => if offN k s = 0 then max b (1 + best ks (offN s k)) else b) b ≤ s := fun l => by
    induction l with
    | nil => intro b _ hb; exact hb
    | cons k l ih =>
      intro b hl hb
      rw [List.foldl_cons]
      refine ih _ (fun k' hk' => hl k' (List.mem_cons_of_mem _ hk')) ?_
      obtain ⟨hk0, hk1⟩ := hk k (hl k List.mem_cons_self)
      split
      · rename_i h0
        have h1 := off_less hs hk1 hk0 h0
        have h2 := best_le hk (show offN s k < 4096 by omega)
        exact max_step hb (by omega)
      exact hb
  exact this _ 0 (fun _ h => List.mem_of_mem_take h) (Nat.zero_le _)
/-! What was worked out before -/
def getL (s : Nat) : List (Nat × Nat) → Option Nat
  | [] => none
  | (a, b) :: L => if s = a then some b else getL s L
def putL (s v : Nat) : List (Nat × Nat) → List (Nat × Nat)
  | [] => [(s, v)]
  | (a, b) :: L => if s = a then (s, v) :: L else (a, b) :: putL s v L
def memL (L : List (Nat × Nat)) : List (P × P) := L.map fun e => (P.int .u64 (e.1 : Nat), P.int .i64 (e.2 : Nat))
theorem mem_get (s : Nat) : ∀ L, mapGet (geq Try.prog 6 62) (.int .u64 (s : Nat)) (memL L) = (getL s L).map fun v : Nat => P.int .i64 (v : Nat)
  | [] => rfl
  | (a, b) :: L => by
    simp only [memL, List.map_cons, mapGet, getL, geq_set, Option.some.injEq, decide_eq_true_eq, Int.ofNat_inj]
    by_cases h : s = a
    · rw [if_pos h, if_pos h]; rfl
    rw [if_neg h, if_neg h]; exact mem_get s L
theorem mem_put (s v : Nat) : ∀ L, mapPut (geq Try.prog 6 62) (.int .u64 (s : Nat)) (.int .i64 (v : Nat)) (memL L) = memL (putL s v L)
  | [] => rfl
  | (a, b) :: L => by
    have ih := mem_put s v L
    simp only [memL] at ih
    simp only [memL, List.map_cons, mapPut, putL, geq_set, Option.some.injEq, decide_eq_true_eq, Int.ofNat_inj]
    by_cases h : s = a
    · rw [if_pos h, if_pos h]; rfl
    rw [if_neg h, if_neg h, List.map_cons, ih]
theorem mem_ok (s : Nat) (L : List (Nat × Nat)) : keysOk (geq Try.prog 6 62) (.int .u64 (s : Nat)) (memL L) := by
  refine ⟨by rw [geq_set]; rfl, fun x hx => ?_⟩
  obtain ⟨e, _, rfl⟩ := List.mem_map.1 hx
  refine ⟨by rw [geq_set]; rfl, fun h => ?_⟩
  rw [geq_set] at h
  simp only [Option.some.injEq, decide_eq_true_eq] at h
  rw [h]
theorem gl_put (t s v : Nat) : ∀ L, getL t (putL s v L) = if t = s then some v else getL t L
  | [] => rfl
  | (a, b) :: L => by
    by_cases h : s = a
    · rw [putL, if_pos h, getL, getL]
      by_cases h2 : t = s
      · rw [if_pos h2, if_pos h2]
      rw [if_neg h2, if_neg h2, if_neg (by omega)]
    rw [putL, if_neg h, getL, getL, gl_put t s v L]
    by_cases h2 : t = a
    · rw [if_pos h2, if_pos h2, if_neg (by omega)]
    rw [if_neg h2, if_neg h2]
/-- All that is known is right. -/
def Mok (ks : List Nat) (L : List (Nat × Nat)) : Prop := ∀ s v, getL s L = some v → v = best ks s
theorem Mok.nil {ks : List Nat} : Mok ks [] := fun _ _ h => by cases h
theorem Mok.put {ks : List Nat} {L : List (Nat × Nat)} (h : Mok ks L) (s : Nat) : Mok ks (putL s (best ks s) L) := fun t v e => by
  rw [gl_put] at e
  split at e
  · rename_i h2; cases e; rw [h2]
  exact h t v e
def memoF (ks : List Nat) : Nat → List (Nat × Nat) → Nat → List (Nat × Nat)
  | 0, L, _ => L
  | n + 1, L, s => match getL s L with
    | some _ => L
    | none => putL s (best ks s) (ks.foldl (fun L k => if offN k s = 0 then memoF ks n L (offN s k) else L) L)
def memoI (ks : List Nat) (n : Nat) (L : List (Nat × Nat)) (s i : Nat) : List (Nat × Nat) := (ks.take i).foldl (fun L k => if offN k s = 0 then memoF ks n L (offN s k) else L) L
theorem memo_some {ks : List Nat} {n : Nat} {L : List (Nat × Nat)} {s v : Nat} (h : getL s L = some v) : memoF ks (n + 1) L s = L := by rw [memoF, h]
theorem memo_none {ks : List Nat} {n : Nat} {L : List (Nat × Nat)} {s : Nat} (h : getL s L = none) : memoF ks (n + 1) L s = putL s (best ks s) (memoI ks n L s ks.length) := by rw [memoF, h, memoI, List.take_length]
theorem memoI_t {ks : List Nat} {n : Nat} {L : List (Nat × Nat)} {s i k : Nat} (hi : ks[i]? = some k) (h : offN k s = 0) : memoI ks n L s (i + 1) = memoF ks n (memoI ks n L s i) (offN s k) := by
  rw [memoI, List.take_add_one, hi, Option.toList_some, List.foldl_append, List.foldl_cons, List.foldl_nil, if_pos h]; rfl
theorem memoI_f {ks : List Nat} {n : Nat} {L : List (Nat × Nat)} {s i k : Nat} (hi : ks[i]? = some k) (h : offN k s ≠ 0) : memoI ks n L s (i + 1) = memoI ks n L s i := by
  rw [memoI, List.take_add_one, hi, Option.toList_some, List.foldl_append, List.foldl_cons, List.foldl_nil, if_neg h]; rfl
theorem memo_ok {ks : List Nat} : ∀ (n : Nat) (L : List (Nat × Nat)) (s : Nat), Mok ks L → Mok ks (memoF ks n L s)
  | 0, _, _, h => h
  | n + 1, L, s, h => by
    rw [memoF]
    split
    · exact h
    refine Mok.put ?_ s
    have : ∀ (l : List Nat) (L : List (Nat × Nat)), Mok ks L → Mok ks (l.foldl (fun L k => if offN k s = 0 then memoF ks n L (offN s k) else L) L) := fun l => by
      induction l with
      | nil => intro L h; exact h
      | cons k l ih =>
        intro L h
        rw [List.foldl_cons]
        refine ih _ ?_
        split
        · exact memo_ok n L _ h
        exact h
    exact this ks L h
theorem memoI_ok {ks : List Nat} (n : Nat) {L : List (Nat × Nat)} (s : Nat) (h : Mok ks L) : ∀ i, Mok ks (memoI ks n L s i)
  | 0 => h
  | i + 1 => by
    have ih := memoI_ok n s h i
    by_cases hi : i < ks.length
    · have hk : ks[i]? = some ks[i] := List.getElem?_eq_getElem hi
      by_cases h0 : offN ks[i] s = 0
      · rw [memoI_t hk h0]; exact memo_ok n _ _ ih
      rw [memoI_f hk h0]; exact ih
    rw [memoI, List.take_of_length_le (by omega)]
    rwa [memoI, List.take_of_length_le (by omega)] at ih
/-! The places that are apart -/
structure Ap where
  z : List (Int × Int)
  s : Nat
  L : List (Nat × Nat)
def apF (f : Fd) (a : Ap) (e : Int × Int) : Ap :=
  if offN (atN f e.1 e.2) a.s = 0 then
    (if best (kindsL f) (offN a.s (atN f e.1 e.2)) + 1 = best (kindsL f) a.s then ⟨a.z ++ [e], offN a.s (atN f e.1 e.2), memoF (kindsL f) 5000 (memoF (kindsL f) 5000 a.L (offN a.s (atN f e.1 e.2))) a.s⟩
     else ⟨a.z, a.s, memoF (kindsL f) 5000 (memoF (kindsL f) 5000 a.L (offN a.s (atN f e.1 e.2))) a.s⟩)
  else a
def apI (f : Fd) (s0 k : Nat) : Ap := ((plsL f).take k).foldl (apF f) ⟨[], s0, []⟩
def apL (f : Fd) (s0 : Nat) : List (Int × Int) := (apI f s0 (plsL f).length).z
theorem ap_next {f : Fd} {s0 k : Nat} {e : Int × Int} (he : (plsL f)[k]? = some e) : apI f s0 (k + 1) = apF f (apI f s0 k) e := by
  rw [apI, List.take_add_one, he, Option.toList_some, List.foldl_append]; rfl
theorem apF_ok {f : Fd} {a : Ap} {e : Int × Int} (h : Mok (kindsL f) a.L) : (apF f a e).s ≤ a.s ∧ Mok (kindsL f) (apF f a e).L ∧ (apF f a e).z.length ≤ a.z.length + 1 := by
  have h2 := memo_ok 5000 _ a.s (memo_ok 5000 a.L (offN a.s (atN f e.1 e.2)) h)
  unfold apF
  split
  · split
    · exact ⟨offN_le _ _, h2, by simp⟩
    exact ⟨Nat.le_refl _, h2, by simp⟩
  exact ⟨Nat.le_refl _, h, by omega⟩
theorem ap_ok {f : Fd} {s0 : Nat} : ∀ k, (apI f s0 k).s ≤ s0 ∧ Mok (kindsL f) (apI f s0 k).L ∧ (apI f s0 k).z.length ≤ k
  | 0 => ⟨Nat.le_refl _, Mok.nil, Nat.le_refl _⟩
  | k + 1 => by
    obtain ⟨h1, h2, h3⟩ := ap_ok (f := f) (s0 := s0) k
    by_cases hk : k < (plsL f).length
    · rw [ap_next (List.getElem?_eq_getElem hk)]
      obtain ⟨g1, g2, g3⟩ := apF_ok (e := (plsL f)[k]) h2
      exact ⟨by omega, g2, by omega⟩
    have : apI f s0 (k + 1) = apI f s0 k := by rw [apI, apI, List.take_of_length_le (by omega), List.take_of_length_le (by omega)]
    rw [this]
    exact ⟨h1, h2, by omega⟩
/-- Kinds are fit if all plates are a list. -/
theorem kinds_ok {f : Fd} (hv : f.valid = true) (s : Nat) (h : listQ f s = true) : Kok (kindsL f) := fun k hk => by
  obtain ⟨e, he, rfl⟩ := kinds_mem.1 hk
  have hn := valid_num hv
  refine ⟨fun h0 => ?_, at_lt (by omega) e.1 e.2⟩
  have := (List.all_eq_true.1 h) e he
  rw [h0, Nat.zero_and, servQ, decide_eq_true_eq] at this
  have hd : ∀ n, daysN f.ps 0 n = [] := fun n => by
    induction n with
    | zero => rfl
    | succ n ih => rw [daysN]; split <;> simp [ih]
  rw [hd] at this
  have h2 : (grd f.gp (sortI [])).1 = 0 := rfl
  rw [h2] at this
  omega
end Go.Proofs.Ytabeeaiilanmjaa

/- The program: how many kinds are apart; a stack of places. -/
namespace Go.Proofs.Ytabeeaiilanmjaa
open Go.Gh
set_option maxRecDepth 100000
set_option maxHeartbeats 4000000
structure kVk1 (c : Prop) : Prop where
  h : c := by (first | exact True.intro | omega | exact mem_ok _ _ | exact ⟨trivial, mem_ok _ _⟩ | (simp only [inI]; omega) | (simp [P.size, pS, all_int, allOne_p, goods_p, allOne, goods, good, G.one, P.one, P.cells] <;> first | omega | assumption | simp_all))
structure kVk2 (c : Prop) : Prop where
  h : c := by (first | exact True.intro | omega | (simp only [inI]; omega) | (simp [P.size, pS, all_int, allOne_p, goods_p, allOne, goods, good, G.one, P.one, P.cells] <;> first | omega | assumption | simp_all))
structure kVk3 (c : Prop) : Prop where
  h : c := by (first | exact True.intro | omega | (simp [P.size, all_int, allOne_p, goods_p, allOne, goods, good, G.one, P.one, P.cells]; exact ⟨fun y a b _ h => by subst h; rfl, by omega, by omega⟩) | (simp only [inI]; omega) | (simp [P.size, pS, all_int, allOne_p, goods_p, allOne, goods, good, G.one, P.one, P.cells] <;> first | omega | assumption | simp_all))
theorem max_c (a b : Nat) : ((max a (1 + b) : Nat) : Int) = max (a : Int) (1 + (b : Int)) := by omega
theorem ent57 : Enters Try.prog 57 := Enters.mk Try.func57 (by kernel_rfl) rfl
theorem s_steps {E : Env Try.prog} {A : E.α} (ks : List Nat) (hK : Kok ks) (hl : ks.length ≤ 2000) (n s : Nat) (L : List (Nat × Nat)) (hsn : s < n) (hs : s < 4096) (hM : Mok ks L) : Gh.Spec E 57 [.p (.int .u64 (s : Nat)), .ref 0 0, .ref 1 0, .ref 2 0] (mkHp [(0, .cells [.map 3] 0), (1, .cells [.p (.list (ks.map fun s : Nat => P.int .u64 (s : Int)))] 0), (2, .cells [.fn (.func 57) [] [.ref 0 0, .ref 1 0, .ref 2 0]] 0), (3, .map (memL (L)))]) A (fun y => y = .ok (.p (.int .i64 (best ks s : Nat))) (mkHp [(0, .cells [.map 3] 0), (1, .cells [.p (.list (ks.map fun s : Nat => P.int .u64 (s : Int)))] 0), (2, .cells [.fn (.func 57) [] [.ref 0 0, .ref 1 0, .ref 2 0]] 0), (3, .map (memL (memoF ks n L s)))]) A) := by
  induction n generalizing s L with
  | zero => omega
  | succ n ih => ?_
  refine spec_of Try.func57 (rfl : Try.f57.body = some _) (Nat.le_of_ble_eq_true rfl) (fun id h => ?_) (fun j id h => ?_) ?_
  · exact wf1x h
  · exact wf2x h
  intro C hN hL
  replace hN : C.N = 42 := hN
  simp only [Gh.num, List.map_cons, List.map_nil, Nat.reduceAdd]
  repeat refine gwp_seq ?_
  refine gwp_region ?_
  refine v0 (k := ?_)
  refine nil0 ?_
  refine cl [0, 1, 2, 3] (k := ?_)
  repeat refine gwp_seq ?_
  rcases hg : getL s L with _ | v
  · repeat refine gwp_seq ?_
    refine gwp_region ?_
    refine v0 (k := ?_)
    refine v0 (k := ?_)
    refine vl (hv := by rw [mem_get, hg]; rfl) (hkk := mem_ok s L) (k := ?_)
    refine v0 (k := ?_)
    refine v0 (k := ?_)
    refine v0 (k := ?_)
    refine v0 (k := ?_)
    refine v0 (k := ?_)
    refine nil0 ?_
    refine cl [0, 1, 2, 3, 6, 7] (k := ?_)
    repeat refine gwp_seq ?_
    refine gwp_region ?_
    refine v0 (k := ?_)
    refine rb 17 false (h := by (rfl)) (k := ?_)
    refine nil0 ?_
    repeat refine gwp_seq ?_
    refine cF (k := ?_)
    repeat refine gwp_seq ?_
    refine gwp_skip ?_
    refine cl [0, 1, 2, 3] (k := ?_)
    repeat refine gwp_seq ?_
    refine gwp_region ?_
    refine v0 (k := ?_)
    refine nil0 ?_
    refine cl [0, 1, 2, 3, 8] (k := ?_)
    repeat refine gwp_seq ?_
    refine gwp_region ?_
    refine v0 (k := ?_)
    refine v0 (k := ?_)
    refine v0 (k := ?_)
    refine nil0 ?_
    refine cl [0, 1, 2, 3, 8, 19, 20, 21] (k := ?_)
    repeat refine gwp_seq ?_
    refine gwp_block ?_
    repeat refine gwp_seq ?_
    refine gc_loop (fun mz σ => ∃ i : Nat, (i ≤ ks.length) ∧ mz = ks.length - i ∧ σ = (sg [(0, .p (.int .u64 (s : Nat))), (1, .ref 0 0), (2, .ref 1 0), (3, .ref 2 0), (8, .p (.int .i64 (bestI ks s i : Nat))), (19, .p (.list (ks.map fun s : Nat => P.int .u64 (s : Int)))), (20, .p (.int .i64 (ks.length : Nat))), (21, .p (.int .i64 (i : Nat)))] [(0, .cells [.map 3] 0), (1, .cells [.p (.list (ks.map fun s : Nat => P.int .u64 (s : Int)))] 0), (2, .cells [.fn (.func 57) [] [.ref 0 0, .ref 1 0, .ref 2 0]] 0), (3, .map (memL (memoI ks n L s i)))] A [] : Sg E)) ?_ (fun mz σ hI => ?_)
    · refine lbeg [0, 1, 2, 3, 8, 19, 20, 21] (hV := ?_)
      exact ⟨_, 0, by omega, rfl, rfl⟩
    obtain ⟨i, hi, hnn, rfl⟩ := hI
    repeat refine gwp_seq ?_
    refine gwp_region ?_
    refine v0 (k := ?_)
    refine nil0 ?_
    repeat refine gwp_seq ?_
    refine cB (k1 := fun hb1 => ?_) (k0 := fun hb1 => ?_)
    · replace hb1 := hB.h {} hb1
      try rw [eqI] at hb1
      repeat refine gwp_seq ?_
      refine gwp_skip ?_
      refine cl [0, 1, 2, 3, 8, 19, 20, 21] (k := ?_)
      repeat refine gwp_seq ?_
      refine gwp_block ?_
      repeat refine gwp_seq ?_
      obtain ⟨k, hk⟩ := getE (l := ks) (k := i) (by omega)
      obtain ⟨hk0, hk1⟩ := hK k (List.mem_of_getElem? hk)
      have han : bitop .andNot .u64 (k : Nat) (s : Nat) = (offN k s : Nat) := bitop_andNot_u64 k s (by omega) (by omega)
      have han2 : bitop .andNot .u64 (s : Nat) (k : Nat) = (offN s k : Nat) := bitop_andNot_u64 s k (by omega) (by omega)
      refine gwp_region ?_
      refine v1 (hc := kVk1.h {}) (k := ?_)
      refine v0 (k := ?_)
      refine v0 (k := ?_)
      refine nil0 ?_
      refine cl [0, 1, 2, 3, 8, 10, 19, 20, 21] (k := ?_)
      repeat refine gwp_seq ?_
      refine gwp_region ?_
      refine v0 (k := ?_)
      refine v0 (k := ?_)
      refine v0 (k := ?_)
      refine v0 (k := ?_)
      refine nil0 ?_
      repeat refine gwp_seq ?_
      refine cB (k1 := fun hb2 => ?_) (k0 := fun hb2 => ?_)
      · replace hb2 := hB.h {} hb2
        try rw [eqI] at hb2
        repeat refine gwp_seq ?_
        have h0 : offN k s = 0 := by omega
        have hls := off_less hs hk1 hk0 h0
        have hbl := best_le hK (show offN s k < 4096 by omega)
        have hbi := bestI_le hK hs i
        refine gwp_region ?_
        refine v0 (k := ?_)
        refine v0 (k := ?_)
        refine v0 (k := ?_)
        refine v0 (k := ?_)
        refine v0 (k := ?_)
        refine oc0 [(0, 0), (1, 1), (2, 2), (3, 3)] [] [0, 0, 0, 0] none (spec := ih (offN s k) (memoI ks n L s i) (by omega) (by omega) (memoI_ok n s hM i)) (hent := ent57) (k := ?_)
        refine v1 (hc := kVk1.h {}) (k := ?_)
        refine v0 (k := ?_)
        refine v0 (k := ?_)
        refine nil0 ?_
        refine cl [0, 1, 2, 3, 8, 19, 20, 21] (k := ?_)
        repeat refine gwp_seq ?_
        refine gwp_region ?_
        refine v1 (hc := kVk1.h {}) (k := ?_)
        refine v0 (k := ?_)
        refine nil0 ?_
        refine lend [0, 1, 2, 3, 8, 19, 20, 21] (h := ?_) (hV := ?_) (n' := ks.length - (i + 1))
        · omega
        first
        | exact ⟨i + 1, by omega, rfl, sgE (by rw [bestI_t hk h0, max_c]; rfl) (by rw [memoI_t hk h0])⟩
        | exact ⟨i + 1, by omega, rfl, sgE (by rw [bestI_f hk (by omega)]; rfl) (by rw [memoI_f hk (by omega)])⟩
      replace hb2 := hB.h {} hb2
      try rw [eqI] at hb2
      repeat refine gwp_seq ?_
      refine gwp_skip ?_
      refine cl [0, 1, 2, 3, 8, 19, 20, 21] (k := ?_)
      repeat refine gwp_seq ?_
      refine gwp_region ?_
      refine v1 (hc := kVk1.h {}) (k := ?_)
      refine v0 (k := ?_)
      refine nil0 ?_
      refine lend [0, 1, 2, 3, 8, 19, 20, 21] (h := ?_) (hV := ?_) (n' := ks.length - (i + 1))
      · omega
      first
      | exact ⟨i + 1, by omega, rfl, sgE (by rw [bestI_t hk h0, max_c]; rfl) (by rw [memoI_t hk h0])⟩
      | exact ⟨i + 1, by omega, rfl, sgE (by rw [bestI_f hk (by omega)]; rfl) (by rw [memoI_f hk (by omega)])⟩
    replace hb1 := hB.h {} hb1
    try rw [eqI] at hb1
    repeat refine gwp_seq ?_
    refine gwp_exit ?_
    repeat (first | refine gthen_exit ?_ | refine gnoGoto_exit ?_ | refine gblock_here ?_ | refine gblock_out rfl ?_)
    refine cl [0, 1, 2, 3, 8] (k := ?_)
    repeat refine gwp_seq ?_
    obtain rfl : i = ks.length := by omega
    refine gwp_region ?_
    refine v0 (k := ?_)
    refine v0 (k := ?_)
    refine v0 (k := ?_)
    refine s1 (hc := kVk1.h {}) (k := ?_)
    refine nil0 ?_
    refine cl [1, 2, 3, 8] (k := ?_)
    repeat refine gwp_seq ?_
    refine gwp_region ?_
    refine v0 (k := ?_)
    refine v0 (k := ?_)
    refine nil0 ?_
    repeat refine gwp_seq ?_
    refine gwp_ret ?_
    repeat (first | refine gthen_ret ?_ | refine gblock_ret ?_ | refine gnoGoto_ret ?_)
    refine fin_ret ?_
    refine fh [0, 1, 2, 3] (hR := ?_)
    first
    | (rw [memo_some hg, ← hM s v hg]; done)
    | (rw [memo_none hg, best_eq hK hs, ← mem_put]; rfl)
    | (rw [memo_none hg, best_eq hK hs, ← mem_put])
    | (rw [memo_some hg, ← hM s v hg]; rfl)
  repeat refine gwp_seq ?_
  refine gwp_region ?_
  refine v0 (k := ?_)
  refine v0 (k := ?_)
  refine vl (hv := by rw [mem_get, hg]; rfl) (hkk := mem_ok s L) (k := ?_)
  refine v0 (k := ?_)
  refine v0 (k := ?_)
  refine v0 (k := ?_)
  refine v0 (k := ?_)
  refine v0 (k := ?_)
  refine nil0 ?_
  refine cl [0, 1, 2, 3, 6, 7] (k := ?_)
  repeat refine gwp_seq ?_
  refine gwp_region ?_
  refine v0 (k := ?_)
  refine rb 17 true (h := by (rfl)) (k := ?_)
  refine nil0 ?_
  repeat refine gwp_seq ?_
  refine cT (k := ?_)
  repeat refine gwp_seq ?_
  refine gwp_region ?_
  refine v0 (k := ?_)
  refine v0 (k := ?_)
  refine nil0 ?_
  repeat refine gwp_seq ?_
  refine gwp_ret ?_
  repeat (first | refine gthen_ret ?_ | refine gblock_ret ?_ | refine gnoGoto_ret ?_)
  refine fin_ret ?_
  refine fh [0, 1, 2, 3] (hR := ?_)
  first
  | (rw [memo_some hg, ← hM s v hg]; done)
  | (rw [memo_none hg, best_eq hK hs, ← mem_put]; rfl)
  | (rw [memo_none hg, best_eq hK hs, ← mem_put])
  | (rw [memo_some hg, ← hM s v hg]; rfl)
theorem ent59 : Enters Try.prog 59 := Enters.mk Try.func59 (by kernel_rfl) rfl
theorem s_push {E : Env Try.prog} {A : E.α} (zs : List (Int × Int)) (e : Int × Int) (hl : zs.length ≤ 100000) : Gh.Spec E 59 [.ref 0 0, .p (.agg [.int .i64 e.1, .int .i64 e.2])] (mkHp [(0, .cells [.own 1 zs.length] 0), (1, .arr 51 2 (zs.map fun e : Int × Int => P.agg [.int .i64 e.1, .int .i64 e.2]) true)]) A (fun y => y = .ok (.p (.tuple [])) (mkHp [(0, .cells [.own 1 (zs ++ [e]).length] 0), (1, .arr 51 2 ((zs ++ [e]).map fun e : Int × Int => P.agg [.int .i64 e.1, .int .i64 e.2]) true)]) A) := by
  refine spec_of Try.func59 (rfl : Try.f59.body = some _) (Nat.le_of_ble_eq_true rfl) (fun id h => ?_) (fun j id h => ?_) ?_
  · exact wf1x h
  · exact wf2x h
  intro C hN hL
  replace hN : C.N = 14 := hN
  simp only [Gh.num, List.map_cons, List.map_nil, Nat.reduceAdd]
  repeat refine gwp_seq ?_
  refine gwp_region ?_
  refine n1 130 false (hc := kVk2.h {}) (k := ?_)
  refine nil0 ?_
  refine cl [0, 3] (k := ?_)
  repeat refine gwp_seq ?_
  refine rd ?_
  refine d0 0 (k := ?_)
  refine d0 1 (k := ?_)
  refine d0 2 (k := ?_)
  refine d0 3 (k := ?_)
  refine d0 4 (k := ?_)
  refine d0 5 (k := ?_)
  refine dn1 6 200 false (hc := kVk2.h {}) (k := ?_)
  refine dn1 7 210 false (hc := kVk2.h {}) (k := ?_)
  refine d0 8 (k := ?_)
  refine d0 9 (k := ?_)
  refine ds1 10 (hc := kVk2.h {}) (k := ?_)
  refine dz 11 [0, 0, 2, 6, 14, 0, 32, 126, 255, 511, 1023] (h := ?_)
  refine de 11 (h := ?_)
  try refine gnoGoto_normal ?_
  refine fin_normal ?_
  refine fh0 [0, 1] (hR := ?_)
  first
  | rfl
  | (rw [List.map_append, List.length_append]; rfl)
theorem ent82 : Enters Try.prog 82 := Enters.mk Try.func82 (by kernel_rfl) rfl
theorem s_clone (l : List (Int × Int)) (hl : l.length ≤ 100000) : PSpec Try.prog 82 [.list (l.map fun e : Int × Int => P.agg [.int .i64 e.1, .int .i64 e.2])] (.ok (.list (l.map fun e : Int × Int => P.agg [.int .i64 e.1, .int .i64 e.2]))) := by
  refine pspec_of Try.func82 (rfl : Try.f82.body = some _) rfl ?_
  intro E A C hN hL
  replace hN : C.N = 8 := hN
  simp only [Gh.num, List.map_cons, List.map_nil, Nat.reduceAdd]
  repeat refine gwp_seq ?_
  refine gwp_region ?_
  refine v0 (k := ?_)
  refine nil0 ?_
  refine cl [0] (k := ?_)
  repeat refine gwp_seq ?_
  refine gwp_region ?_
  refine v0 (k := ?_)
  refine nq0 (k := fun bq hq => ?_)
  refine nil0 ?_
  repeat refine gwp_seq ?_
  refine cB (k1 := fun hb1 => ?_) (k0 := fun hb1 => ?_)
  · replace hb1 := hB.h {} hb1
    repeat refine gwp_seq ?_
    refine gwp_region ?_
    refine v0 (k := ?_)
    refine nil0 ?_
    repeat refine gwp_seq ?_
    refine gwp_ret ?_
    repeat (first | refine gthen_ret ?_ | refine gblock_ret ?_ | refine gnoGoto_ret ?_)
    refine fin_ret ?_
    refine fp (hR := ?_)
    first
    | rfl
    | (have he := hq (by assumption)
       rw [he]
       rfl)
  replace hb1 := hB.h {} hb1
  repeat refine gwp_seq ?_
  refine gwp_skip ?_
  refine cl [0] (k := ?_)
  repeat refine gwp_seq ?_
  refine gwp_region ?_
  refine n1 150 false (hc := kVk3.h {}) (k := ?_)
  refine v0 (k := ?_)
  refine n1 170 false (hc := kVk3.h {}) (k := ?_)
  refine v0 (k := ?_)
  refine nil0 ?_
  repeat refine gwp_seq ?_
  refine gwp_ret ?_
  repeat (first | refine gthen_ret ?_ | refine gblock_ret ?_ | refine gnoGoto_ret ?_)
  refine fin_ret ?_
  refine fp (hR := ?_)
  first
  | rfl
  | (have he := hq (by assumption)
     rw [he]
     rfl)
theorem ent60 : Enters Try.prog 60 := Enters.mk Try.func60 (by kernel_rfl) rfl
theorem s_popall {E : Env Try.prog} {A : E.α} (zs : List (Int × Int)) (hl : zs.length ≤ 100000) : Gh.Spec E 60 [.ref 0 0] (mkHp [(0, .cells [.own 1 zs.length] 0), (1, .arr 51 2 (zs.map fun e : Int × Int => P.agg [.int .i64 e.1, .int .i64 e.2]) true)]) A (fun y => y = .ok (.p (.list (zs.map fun e : Int × Int => P.agg [.int .i64 e.1, .int .i64 e.2]))) (mkHp [(0, .cells [.own 1 zs.length] 0), (1, .arr 51 2 (zs.map fun e : Int × Int => P.agg [.int .i64 e.1, .int .i64 e.2]) true)]) A) := by
  refine spec_of Try.func60 (rfl : Try.f60.body = some _) (Nat.le_of_ble_eq_true rfl) (fun id h => ?_) (fun j id h => ?_) ?_
  · exact wf1x h
  · exact wf2x h
  intro C hN hL
  replace hN : C.N = 8 := hN
  simp only [Gh.num, List.map_cons, List.map_nil, Nat.reduceAdd]
  repeat refine gwp_seq ?_
  refine gwp_region ?_
  refine v0 (k := ?_)
  refine nil0 ?_
  refine cl [0] (k := ?_)
  repeat refine gwp_seq ?_
  refine gwp_region ?_
  refine v0 (k := ?_)
  refine v0 (k := ?_)
  refine v0 (k := ?_)
  refine v0 (k := ?_)
  refine pc0 (spec := s_clone zs hl) (hent := ent82) (k := ?_)
  refine v0 (k := ?_)
  refine nil0 ?_
  repeat refine gwp_seq ?_
  refine gwp_ret ?_
  repeat (first | refine gthen_ret ?_ | refine gblock_ret ?_ | refine gnoGoto_ret ?_)
  refine fin_ret ?_
  refine fk1 [0, 1] (hR := ?_)
  rfl
end Go.Proofs.Ytabeeaiilanmjaa

/- Rules of written-out states: a call in a region in any order that leaves some objects as they are. -/
namespace Go.Proofs.Ytabeeaiilanmjaa
open Go.Gh
set_option maxRecDepth 100000
structure eP1 {α : Type} (a b : α) : Prop where
  h : a = b := by (simp only [gcallee, gev, mkFr_cons, Nat.reduceEqDiff, reduceIte, List.map_cons, List.map_nil, List.cons_append, List.nil_append, List.append_nil, toP, toPs, toPs_p, ofV, rhp, mkHp_cons, mkHp_nil, List.mem_cons, List.not_mem_nil, or_false, and_true, true_and] <;> rfl)
structure eP2 {α : Type} (a b : α) : Prop where
  h : a = b := by (simp only [cvtsM, cvtM, Option.map_some, Option.map_none, G.rens, G.ren, rens_p, Gh.look, Nat.reduceAdd, Nat.zero_add, List.take_succ_cons, List.take_zero, List.drop_succ_cons, List.drop_zero, gev, mkFr_cons, Nat.reduceEqDiff, reduceIte, List.map_cons, List.map_nil, List.cons_append, List.nil_append, List.append_nil, toP, toPs, toPs_p, ofV, rhp, mkHp_cons, mkHp_nil, List.mem_cons, List.not_mem_nil, or_false, and_true, true_and] <;> rfl)
structure eP3 {α : Type} (a b : α) : Prop where
  h : a = b := by (simp only [lessP, List.filter_cons, List.filter_nil, List.contains_eq_mem, List.mem_cons, List.not_mem_nil, Nat.reduceEqDiff, or_false, false_or, or_true, true_or, decide_true, decide_false, Bool.not_true, Bool.not_false, Bool.false_eq_true, reduceIte, eq_self] <;> rfl)
variable {E : Env Try.prog} {C : Cx E} {r : Option Nat} {ops : Array Oper} {Q : GE → Sg E → Prop} {l l' : List (Nat × G)} {m : List (Nat × Ob)} {A : E.α} {df : List GD}
variable {t : Nat} {op : Op} {ty : TypeId} {pos : String} {af : Array Edge} {c : Prop} {g : G} {ob : Ob} {i j : Nat} {b : Bool} {f : FuncId} {gs : List G}
variable {lo : Nat} {σ0 : Sg E} {ids ids' : List (List Nat × List Nat)} {I : List Nat}
theorem docwu (n : Nat) (U : List Nat) (L : List (Nat × Nat)) (J : List Nat) (ks : List Nat) (ad : Option (Nat × Ob)) {b' : Bool} {i' : Nat} {cc : Call} {gargs : List G} {mc mr m2 ps ps2 : List (Nat × Ob)} {g2 : G} (spec : Gh.Spec E f gargs (mkHp mc) A fun x => x = .ok g (mkHp mr) A) (hent : Enters Try.prog f) (hj : (ops[j]?).bind (·.dst) = some i' := by rfl) (hx : mkFr l i' = .p (.bool b') := by (simp only [mkFr_cons, Nat.reduceEqDiff, reduceIte] <;> rfl)) (hb : (b' == b) = true := by rfl) (hn : ids.length = n := by rfl) (ho : ops[lo + n]? = some ⟨some t, .call cc, ty, pos, af, some (j, b)⟩ := by rfl) (hg : gcallee Try.prog (mkFr l) cc = some (f, gs) := by exact eP1.h {})
    (ha : AdoptOk C.lim (mkHp m) L ad := by (first | exact True.intro | (refine ⟨by (simp only [mkHp_cons, mkHp_nil, Nat.reduceEqDiff, reduceIte]), by omega, ⟨_, _, _, rfl⟩, by simp⟩))) (hcv : cvtsM (rhp (mkHp m) J) (ad.map (·.1)) ks gs = some (c, G.rens (Gh.look L) gargs) := by exact eP2.h {}) (hc : c := by simp)
    (n1 : (L.map (·.1)).Nodup := by decide) (n2 : (L.map (·.2)).Nodup := by decide) (n3 : (mc.map (·.1)).Nodup := by simp) (hp1 : pairsP L (adoptH (mkHp m) ad) mc := by (simp only [pairsP, adoptH, Gh.look, Ob.ren, G.rens, G.ren, rens_p, upd, mkHp_cons, mkHp_nil, Nat.reduceEqDiff, reduceIte] <;> simp)) (hp2 : newP C.lim (adoptH (mkHp m) ad) mc L := by (simp [newP, adoptH, upd, mkHp_cons, mkHp_nil] <;> omega))
    (hdis : ∀ d ob, ad = some (d, ob) → d ∉ J := by (intro d ob e; simp at e <;> simp [← e.1])) (hk : keysP L mr := by simp [keysP, Gh.look]) (hs : stayP mr mc := by simp [stayP, mkHp_cons, mkHp_nil]) (ht : t < C.N := by omega) (hgr : g.ren (Gh.look L) = g2 := by (simp only [G.ren, G.rens, Gh.look, Nat.reduceEqDiff, reduceIte] <;> rfl)) (hps : putsOf L (mkHp mr) = ps := by (simp only [putsOf, List.map_cons, List.map_nil, mkHp_cons, mkHp_nil, Nat.reduceEqDiff, reduceIte, Ob.ren, G.ren, G.rens, rens_p, Gh.look] <;> rfl))
    (hsm : sameP (mkHp m) (L.map (·.2) ++ J) U ps := by (simp [sameP, mkHp_cons, mkHp_nil])) (hps2 : lessP U ps = ps2 := by exact eP3.h {})
    (hm2 : ps2.reverse ++ m = m2 := by (simp only [List.reverse_cons, List.reverse_nil, List.nil_append, List.cons_append] <;> rfl)) (hids : ids ++ [(L.map (·.2) ++ J, ps2.map (·.1))] = ids' := by (simp only [List.cons_append, List.nil_append, List.map_cons, List.map_nil] <;> rfl)) (k : segK C r ops (GPost C Q) lo σ0 ids' (sg ((t, g2) :: l) m2 A df)) : segK C r ops (GPost C Q) lo σ0 ids (sg l m A df) :=
  segK.step (I := L.map (·.2) ++ J) (g := g2) (pi := ps2.map (·.1)) (ps := ps2) hn ho (Eff.less2 (U := U) hsm hps hps2 hgr (eff_call2 rfl ((gwant_at rfl hj hx).trans (by rw [hb])) hg hent ha hcv hc (pairs_mk n1 n2 n3 hp1 hp2) hdis spec (pairsB_mk hk hs) (fun t' e => by cases e; exact ht))) rfl (by rw [hids]; show segK C r ops (GPost C Q) lo σ0 ids' (⟨upd (mkFr l) t g2, putsH (mkHp m) ps2, A, df⟩ : Sg E); rw [putsH_mk, hm2]; exact k)
end Go.Proofs.Ytabeeaiilanmjaa

/- The program: Apart. -/
namespace Go.Proofs.Ytabeeaiilanmjaa
open Go.Gh
set_option maxRecDepth 100000
set_option maxHeartbeats 4000000
structure kVl1 (c : Prop) : Prop where
  h : c := by (first | exact True.intro | omega | (simp only [inI]; omega) | (simp [P.size, pS, all_int, allOne_p, goods_p, allOne, goods, good, G.one, P.one, P.cells] <;> first | omega | assumption | simp_all))
theorem ent26 : Enters Try.prog 26 := Enters.mk Try.func26 (by kernel_rfl) rfl
theorem p_apart_t {E : Env Try.prog} {A : E.α} (f : Fd) (hv : f.valid = true) (hq : (listQ f (usedN f f.ps.length)) = true) : Gh.Spec E 26 [.p (.agg [.list (f.ps.map pS), .int .i64 f.el, .int .i64 f.eh, .int .i64 f.nl, .int .i64 f.nh, .int .i64 f.dl, .int .i64 f.dh, .int .i64 f.dep, .int .i64 f.tm, .int .i64 f.gp])] (mkHp []) A (fun y => y = .ok (.p (.tuple [.list ((apL f (allS f.ps.length)).map fun e : Int × Int => P.agg [.int .i64 e.1, .int .i64 e.2]), .int .i64 0])) (mkHp []) A) := by
  refine specD_of Try.func26 (rfl : Try.f26.body = some _) (Nat.le_of_ble_eq_true rfl) (fun id h => ?_) (fun j id h => ?_) ?_
  · exact wf1x h
  · exact wf2x h
  intro C hN hL
  replace hN : C.N = 63 := hN
  simp only [Gh.num, List.map_cons, List.map_nil, Nat.reduceAdd]
  have hn := valid_num hv
  have hu := used_lt f (k := f.ps.length) (by omega)
  have hs12 := allS_lt (n := f.ps.length) (by omega)
  have hpm : MK (plM f f.ps.length) := MK.pl _ (by omega)
  have hpl := pls_len hv
  have hK := kinds_ok hv _ hq
  have hkl : (kindsL f).length ≤ 2000 := by have h1 := kindK_len f (plsL f) []; simp only [List.length_nil, Nat.zero_add] at h1; exact Nat.le_trans h1 (by omega)
  repeat refine gwp_seq ?_
  refine gwp_region ?_
  refine n1 110 false (hc := kVl1.h {}) (k := ?_)
  refine v0 (k := ?_)
  refine n1 130 false (hc := kVl1.h {}) (k := ?_)
  refine nil0 ?_
  refine cl [1, 2, 3] (k := ?_)
  repeat refine gwp_seq ?_
  refine gwp_region ?_
  refine df0 (k := ?_)
  refine nil0 ?_
  refine cl [1, 2, 3] (k := ?_)
  repeat refine gwp_seq ?_
  refine gwp_region ?_
  refine v0 (k := ?_)
  refine oc0 [(220, 5000)] [] [0] none (spec := s_open_t f hv) (hent := ent40) (hgr := by (simp only [G.ren, G.rens, rens_p, Gh.look, Nat.reduceEqDiff, reduceIte] <;> rfl)) (k := ?_)
  refine n1 140 false (hc := kVl1.h {}) (k := ?_)
  refine s1 (hc := kVl1.h {}) (k := ?_)
  refine nil0 ?_
  refine cl [2, 3, 4] (k := ?_)
  repeat refine gwp_seq ?_
  refine rd ?_
  refine d0 0 (k := ?_)
  refine doc0 1 [(0, 5000)] [] [0] none (spec := s_mkList f hv) (hent := ent51) (k := ?_)
  refine d0 2 (k := ?_)
  refine da0 3 (k := ?_)
  refine da0 4 (k := ?_)
  refine da0 5 (k := ?_)
  refine doc0 6 [] [] [0, 0, 0] none (spec := (by have := s_isList (E := E) (A := A) f hv (usedN f f.ps.length) hu; rw [hq] at this; exact this)) (hent := ent78) (k := ?_)
  refine dpc0 7 (spec := s_must_t _) (hent := ent43) (k := ?_)
  refine dz 8 [0, 1, 0, 4, 12, 28, 63, 127] (h := ?_)
  refine de 8 (h := ?_)
  refine cl [2, 3, 4] (k := ?_)
  repeat refine gwp_seq ?_
  refine gwp_region ?_
  refine v0 (k := ?_)
  refine oc0 [(0, 5000)] [] [0] none (spec := s_kinds f hv) (hent := ent56) (k := ?_)
  refine n1 340 false (hc := kVl1.h {}) (k := ?_)
  refine n1 150 false (hc := kVl1.h {}) (k := ?_)
  refine n1 160 false (hc := kVl1.h {}) (k := ?_)
  refine s1 (hc := kVl1.h {}) (k := ?_)
  refine s1 (hc := kVl1.h {}) (k := ?_)
  refine nil0 ?_
  refine cl [2, 3, 4, 5, 6] (k := ?_)
  repeat refine gwp_seq ?_
  refine gwp_region ?_
  refine n1 170 false (hc := kVl1.h {}) (k := ?_)
  refine nil0 ?_
  refine cl [2, 3, 4, 5, 6, 7] (k := ?_)
  repeat refine gwp_seq ?_
  refine gwp_region ?_
  refine v0 (k := ?_)
  refine s1 (hc := kVl1.h {}) (k := ?_)
  refine nil0 ?_
  refine cl [2, 3, 4, 7] (k := ?_)
  repeat refine gwp_seq ?_
  refine gwp_region ?_
  refine v0 (k := ?_)
  refine oc0 [] [] [4] none (spec := s_all f (by omega)) (hent := ent58) (k := ?_)
  refine n1 180 false (hc := kVl1.h {}) (k := ?_)
  refine s1 (hc := kVl1.h {}) (k := ?_)
  refine nil0 ?_
  refine cl [2, 3, 4, 7, 8] (k := ?_)
  repeat refine gwp_seq ?_
  refine gwp_region ?_
  refine n1 190 false (hc := kVl1.h {}) (k := ?_)
  refine nil0 ?_
  refine cl [2, 3, 4, 7, 8, 9] (k := ?_)
  repeat refine gwp_seq ?_
  refine gwp_region ?_
  refine v0 (k := ?_)
  refine oc0 [] [] [13] none (spec := s_places f) (hent := ent48) (k := ?_)
  refine nil0 ?_
  refine cl [2, 3, 4, 7, 8, 9, 29] (k := ?_)
  repeat refine gwp_seq ?_
  refine gwp_block ?_
  repeat refine gwp_seq ?_
  refine ad 190 0 3000 51 2 true (k := ?_)
  refine cl [3, 4, 7, 8, 9, 29] (k := ?_)
  refine rf 10000 99001 [30] (fun k (z : Ap) A1 => apI f (allS f.ps.length) k = z ∧ A1 = A) (fun z => [(130, .cells [.p (.int .i64 0)] 0), (140, .cells [.ptr [.p (.list (f.ps.map pS)), .p (.int .i64 f.el), .p (.int .i64 f.eh), .p (.int .i64 f.nl), .p (.int .i64 f.nh), .p (.int .i64 f.dl), .p (.int .i64 f.dh), .p (.int .i64 f.dep), .p (.int .i64 f.tm), .p (.int .i64 f.gp), .p (.int .u64 (usedN f f.ps.length : Nat)), .map 5000]] 0), (170, .cells [.fn (.func 57) [] [.ref 160 0, .ref 150 0, .ref 170 0]] 0), (180, .cells [.p (.int .u64 (z.s : Nat))] 0), (190, .cells [.own 3000 z.z.length] 0), (5000, .map (plM f f.ps.length)), (160, .cells [.map 340] 0), (150, .cells [.p (.list ((kindsL f).map fun s : Nat => P.int .u64 (s : Int)))] 0), (3000, .arr 51 2 (z.z.map fun e : Int × Int => P.agg [.int .i64 e.1, .int .i64 e.2]) true), (340, .map (memL z.L))]) (fun _ _ _ => False) (fun _ z => [(130, .cells [.p (.int .i64 0)] 0), (140, .cells [.ptr [.p (.list (f.ps.map pS)), .p (.int .i64 f.el), .p (.int .i64 f.eh), .p (.int .i64 f.nl), .p (.int .i64 f.nh), .p (.int .i64 f.dl), .p (.int .i64 f.dh), .p (.int .i64 f.dep), .p (.int .i64 f.tm), .p (.int .i64 f.gp), .p (.int .u64 (usedN f f.ps.length : Nat)), .map 5000]] 0), (170, .cells [.fn (.func 57) [] [.ref 160 0, .ref 150 0, .ref 170 0]] 0), (180, .cells [.p (.int .u64 (z.s : Nat))] 0), (190, .cells [.own 3000 z.z.length] 0), (5000, .map (plM f f.ps.length)), (160, .cells [.map 340] 0), (150, .cells [.p (.list ((kindsL f).map fun s : Nat => P.int .u64 (s : Int)))] 0), (3000, .arr 51 2 (z.z.map fun e : Int × Int => P.agg [.int .i64 e.1, .int .i64 e.2]) true), (340, .map (memL z.L))]) [] [.k] (it := it_places f hv) (hent := ent76) (xs := ((plsL f).map fun e => [P.agg [.int .i64 e.1, .int .i64 e.2]])) (hlen := fun x hx => by obtain ⟨w, _, rfl⟩ := List.mem_map.1 hx; rfl) (h0 := ?_) (round := fun k z A1 x hI hx lp bs C1 hN1 hL1 => ?_) (hK := fun e z A1 hK => ?_) (hI := fun z A1 hI => ?_)
  · exact ⟨⟨[], (allS f.ps.length), []⟩, ⟨rfl, rfl⟩, rfl⟩
  · obtain ⟨hz, rfl⟩ := hI
    rw [List.getElem?_map] at hx
    obtain ⟨e, he, rfl⟩ := Option.map_eq_some_iff.1 hx
    have hem := pls_mem (List.mem_of_getElem? he)
    have hat := look_at hv hem.1 hem.2
    have hlk := look_or hpm e.1 e.2
    have hko := hpm.ok e.1 e.2
    rw [hat] at hlk
    have hal := at_lt (f := f) (by omega) e.1 e.2
    obtain ⟨hs1, hM, hzl⟩ : z.s ≤ (allS f.ps.length) ∧ Mok (kindsL f) z.L ∧ z.z.length ≤ k := by rw [← hz]; exact ap_ok k
    have hkk := (List.getElem?_eq_some_iff.1 he).1
    obtain ⟨hk0, hk1⟩ := hK (atN f e.1 e.2) (kinds_mem.2 ⟨e, List.mem_of_getElem? he, rfl⟩)
    have han : bitop .andNot .u64 ((atN f e.1 e.2) : Nat) (z.s : Nat) = (offN (atN f e.1 e.2) z.s : Nat) := bitop_andNot_u64 (atN f e.1 e.2) z.s (by omega) (by omega)
    have han2 : bitop .andNot .u64 (z.s : Nat) ((atN f e.1 e.2) : Nat) = ((offN z.s (atN f e.1 e.2)) : Nat) := bitop_andNot_u64 z.s (atN f e.1 e.2) (by omega) (by omega)
    have hol := offN_le z.s (atN f e.1 e.2)
    have hb1 := best_le hK (show (offN z.s (atN f e.1 e.2)) < 4096 by omega)
    have hb2 := best_le hK (show z.s < 4096 by omega)
    replace hN1 : C1.N = 63 := hN1.trans hN
    refine (?_ : gwp C1 (some lp) _ _ (sg ((30, .p (.agg [.int .i64 e.1, .int .i64 e.2])) :: _) [(130, .cells [.p (.int .i64 0)] 0), (140, .cells [.ptr [.p (.list (f.ps.map pS)), .p (.int .i64 f.el), .p (.int .i64 f.eh), .p (.int .i64 f.nl), .p (.int .i64 f.nh), .p (.int .i64 f.dl), .p (.int .i64 f.dh), .p (.int .i64 f.dep), .p (.int .i64 f.tm), .p (.int .i64 f.gp), .p (.int .u64 (usedN f f.ps.length : Nat)), .map 5000]] 0), (170, .cells [.fn (.func 57) [] [.ref 160 0, .ref 150 0, .ref 170 0]] 0), (180, .cells [.p (.int .u64 (z.s : Nat))] 0), (190, .cells [.own 3000 z.z.length] 0), (5000, .map (plM f f.ps.length)), (160, .cells [.map 340] 0), (150, .cells [.p (.list ((kindsL f).map fun s : Nat => P.int .u64 (s : Int)))] 0), (3000, .arr 51 2 (z.z.map fun e : Int × Int => P.agg [.int .i64 e.1, .int .i64 e.2]) true), (340, .map (memL z.L))] A1 []))
    repeat refine gwp_seq ?_
    refine gwp_region ?_
    refine n1 10200 false (hc := kVl1.h {}) (k := ?_)
    refine s1 (hc := kVl1.h {}) (k := ?_)
    refine nil0 ?_
    refine ⟨rfl, fun bs2 C2 hN2 hL2 hr2 => ?_⟩
    replace hN2 : C2.N = 63 := hN2.trans hN
    refine (?_ : gwp C2 (some lp) _ _ (sg _ _ _ []))
    repeat refine gwp_seq ?_
    refine gwp_block ?_
    repeat refine gwp_seq ?_
    refine rd ?_
    refine d0 0 (k := ?_)
    refine da0 1 (k := ?_)
    refine da0 2 (k := ?_)
    refine d0 3 (k := ?_)
    refine d0 4 (k := ?_)
    refine dl 5 (hv := hlk) (hkk := hko) (k := ?_)
    refine da0 6 (k := ?_)
    refine dz 7 [0, 1, 3, 7, 0, 31, 63] (h := ?_)
    refine de 7 (h := ?_)
    refine cl [2, 3, 4, 7, 8, 9, 10, 11] (k := ?_)
    repeat refine gwp_seq ?_
    refine rd ?_
    refine d0 0 (k := ?_)
    refine d0 1 (k := ?_)
    refine d0 2 (k := ?_)
    refine d0 3 (k := ?_)
    refine d0 4 (k := ?_)
    refine db0 5 41 (k1 := fun hb1 => ?_) (k0 := fun hb1 => ?_)
    · replace hb1 := hB.h {} hb1
      try rw [eqI] at hb1
      refine dw0 5 (k := ?_)
      refine dw0 6 (k := ?_)
      refine dw0 7 (k := ?_)
      refine dw0 8 (k := ?_)
      refine docwu 9 [160, 150, 170] [(0, 160), (1, 150), (2, 170), (3, 340)] [] [0, 0, 0, 0] none (spec := s_steps (kindsL f) hK hkl 5000 (offN z.s (atN f e.1 e.2)) z.L (by omega) (by omega) hM) (hent := ent57) (j := 4) (b := true) (i' := 41) (k := ?_)
      refine dw1 10 (hc := kVl1.h {}) (k := ?_)
      refine dw0 11 (k := ?_)
      refine dw0 12 (k := ?_)
      refine docwu 13 [160, 150, 170] [(0, 160), (1, 150), (2, 170), (3, 340)] [] [0, 0, 0, 0] none (spec := s_steps (kindsL f) hK hkl 5000 z.s (memoF (kindsL f) 5000 z.L (offN z.s (atN f e.1 e.2))) (by omega) (by omega) (memo_ok _ _ _ hM)) (hent := ent57) (j := 4) (b := true) (i' := 41) (k := ?_)
      refine dw0 14 (k := ?_)
      refine d0 15 (k := ?_)
      refine dz 16 [0, 0, 3, 7, 15, 31, 31, 31, 223, 511, 1023, 31, 31, 7167, 16383, 32767] (h := ?_)
      refine de 16 (h := ?_)
      repeat refine gwp_seq ?_
      refine cB (k1 := fun hb2 => ?_) (k0 := fun hb2 => ?_)
      · replace hb2 := hB.h {} hb2
        try rw [eqI] at hb2
        repeat refine gwp_seq ?_
        refine gwp_region ?_
        refine v0 (k := ?_)
        refine v0 (k := ?_)
        refine v0 (k := ?_)
        refine v0 (k := ?_)
        refine v0 (k := ?_)
        refine oc0 [(0, 190), (1, 3000)] [] [0, 0] none (spec := s_push z.z e (by omega)) (hent := ent59) (k := ?_)
        refine nil0 ?_
        refine cl [2, 3, 4, 7, 8, 9, 11] (k := ?_)
        repeat refine gwp_seq ?_
        refine gwp_region ?_
        refine v0 (k := ?_)
        refine v0 (k := ?_)
        refine v0 (k := ?_)
        refine s1 (hc := kVl1.h {}) (k := ?_)
        refine nil0 ?_
        first
        | (refine ⟨_, ⟨z.z ++ [e], (offN z.s (atN f e.1 e.2)), (memoF (kindsL f) 5000 (memoF (kindsL f) 5000 z.L (offN z.s (atN f e.1 e.2))) z.s)⟩, lc [130, 140, 170, 180, 190, 5000, 160, 150, 3000, 340], rfl, ?_, rfl⟩
           rw [ap_next he, hz, apF, if_pos (by omega), if_pos (by omega)])
        | (refine ⟨_, ⟨z.z, z.s, (memoF (kindsL f) 5000 (memoF (kindsL f) 5000 z.L (offN z.s (atN f e.1 e.2))) z.s)⟩, lc [130, 140, 170, 180, 190, 5000, 160, 150, 3000, 340], rfl, ?_, rfl⟩
           rw [ap_next he, hz, apF, if_pos (by omega), if_neg (by omega)])
        | (refine ⟨_, z, lc [130, 140, 170, 180, 190, 5000, 160, 150, 3000, 340], rfl, ?_, rfl⟩
           rw [ap_next he, hz, apF, if_neg (by omega)])
      replace hb2 := hB.h {} hb2
      try rw [eqI] at hb2
      repeat refine gwp_seq ?_
      refine gwp_skip ?_
      first
      | (refine ⟨_, ⟨z.z ++ [e], (offN z.s (atN f e.1 e.2)), (memoF (kindsL f) 5000 (memoF (kindsL f) 5000 z.L (offN z.s (atN f e.1 e.2))) z.s)⟩, lc [130, 140, 170, 180, 190, 5000, 160, 150, 3000, 340], rfl, ?_, rfl⟩
         rw [ap_next he, hz, apF, if_pos (by omega), if_pos (by omega)])
      | (refine ⟨_, ⟨z.z, z.s, (memoF (kindsL f) 5000 (memoF (kindsL f) 5000 z.L (offN z.s (atN f e.1 e.2))) z.s)⟩, lc [130, 140, 170, 180, 190, 5000, 160, 150, 3000, 340], rfl, ?_, rfl⟩
         rw [ap_next he, hz, apF, if_pos (by omega), if_neg (by omega)])
      | (refine ⟨_, z, lc [130, 140, 170, 180, 190, 5000, 160, 150, 3000, 340], rfl, ?_, rfl⟩
         rw [ap_next he, hz, apF, if_neg (by omega)])
    replace hb1 := hB.h {} hb1
    try rw [eqI] at hb1
    refine dx0 5 (k := ?_)
    refine dx0 6 (k := ?_)
    refine dx0 7 (k := ?_)
    refine dx0 8 (k := ?_)
    refine dx0 9 (k := ?_)
    refine dx0 10 (k := ?_)
    refine dx0 11 (k := ?_)
    refine dx0 12 (k := ?_)
    refine dx0 13 (k := ?_)
    refine dx0 14 (k := ?_)
    refine d0 15 (k := ?_)
    refine dz 16 [0, 0, 3, 7, 15, 31, 31, 31, 223, 511, 1023, 31, 31, 7167, 16383, 32767] (h := ?_)
    refine de 16 (h := ?_)
    repeat refine gwp_seq ?_
    refine cF (k := ?_)
    repeat refine gwp_seq ?_
    refine gwp_skip ?_
    first
    | (refine ⟨_, ⟨z.z ++ [e], (offN z.s (atN f e.1 e.2)), (memoF (kindsL f) 5000 (memoF (kindsL f) 5000 z.L (offN z.s (atN f e.1 e.2))) z.s)⟩, lc [130, 140, 170, 180, 190, 5000, 160, 150, 3000, 340], rfl, ?_, rfl⟩
       rw [ap_next he, hz, apF, if_pos (by omega), if_pos (by omega)])
    | (refine ⟨_, ⟨z.z, z.s, (memoF (kindsL f) 5000 (memoF (kindsL f) 5000 z.L (offN z.s (atN f e.1 e.2))) z.s)⟩, lc [130, 140, 170, 180, 190, 5000, 160, 150, 3000, 340], rfl, ?_, rfl⟩
       rw [ap_next he, hz, apF, if_pos (by omega), if_neg (by omega)])
    | (refine ⟨_, z, lc [130, 140, 170, 180, 190, 5000, 160, 150, 3000, 340], rfl, ?_, rfl⟩
       rw [ap_next he, hz, apF, if_neg (by omega)])
  · exact hK.elim
  obtain ⟨hz, rfl⟩ := hI
  rw [List.length_map] at hz
  have hzl : z.z.length ≤ (plsL f).length := by rw [← hz]; exact (ap_ok _).2.2
  subst hz
  refine cl [2, 3, 9] (k := ?_)
  repeat refine gwp_seq ?_
  refine gwp_region ?_
  refine oc0 [(0, 190), (1, 3000)] [] [0] none (spec := s_popall (apI f (allS f.ps.length) (plsL f).length).z (by omega)) (hent := ent60) (k := ?_)
  refine v0 (k := ?_)
  refine s1 (hc := kVl1.h {}) (k := ?_)
  refine nil0 ?_
  repeat refine gwp_seq ?_
  refine gwp_ret ?_
  repeat (first | refine gthen_ret ?_ | refine gblock_ret ?_ | refine gnoGoto_ret ?_)
  refine finD_ret ?_
  try refine om (h3 := by simp [hpIds, obIdl, G.idl, G.idls, idls_p, mkHp_cons, mkHp_nil]) (h := ?_)
  refine ocall [130] [(0, 130)] (spec := d_none 0) (hent := ent39) (h := ?_)
  refine out_nil ?_
  refine fp2 (hR := ?_)
  rfl
theorem p_apart_n {E : Env Try.prog} {A : E.α} (f : Fd) (hv : f.valid = true) (hq : (listQ f (usedN f f.ps.length)) = false) : Gh.Spec E 26 [.p (.agg [.list (f.ps.map pS), .int .i64 f.el, .int .i64 f.eh, .int .i64 f.nl, .int .i64 f.nh, .int .i64 f.dl, .int .i64 f.dh, .int .i64 f.dep, .int .i64 f.tm, .int .i64 f.gp])] (mkHp []) A (fun y => y = .ok (.p (.tuple [.list [], .int .i64 4])) (mkHp []) A) := by
  refine specD_of Try.func26 (rfl : Try.f26.body = some _) (Nat.le_of_ble_eq_true rfl) (fun id h => ?_) (fun j id h => ?_) ?_
  · exact wf1x h
  · exact wf2x h
  intro C hN hL
  replace hN : C.N = 63 := hN
  simp only [Gh.num, List.map_cons, List.map_nil, Nat.reduceAdd]
  have hn := valid_num hv
  have hu := used_lt f (k := f.ps.length) (by omega)
  have hs12 := allS_lt (n := f.ps.length) (by omega)
  have hpm : MK (plM f f.ps.length) := MK.pl _ (by omega)
  have hpl := pls_len hv
  repeat refine gwp_seq ?_
  refine gwp_region ?_
  refine n1 110 false (hc := kVl1.h {}) (k := ?_)
  refine v0 (k := ?_)
  refine n1 130 false (hc := kVl1.h {}) (k := ?_)
  refine nil0 ?_
  refine cl [1, 2, 3] (k := ?_)
  repeat refine gwp_seq ?_
  refine gwp_region ?_
  refine df0 (k := ?_)
  refine nil0 ?_
  refine cl [1, 2, 3] (k := ?_)
  repeat refine gwp_seq ?_
  refine gwp_region ?_
  refine v0 (k := ?_)
  refine oc0 [(220, 5000)] [] [0] none (spec := s_open_t f hv) (hent := ent40) (hgr := by (simp only [G.ren, G.rens, rens_p, Gh.look, Nat.reduceEqDiff, reduceIte] <;> rfl)) (k := ?_)
  refine n1 140 false (hc := kVl1.h {}) (k := ?_)
  refine s1 (hc := kVl1.h {}) (k := ?_)
  refine nil0 ?_
  refine cl [2, 3, 4] (k := ?_)
  repeat refine gwp_seq ?_
  refine rd ?_
  refine d0 0 (k := ?_)
  refine doc0 1 [(0, 5000)] [] [0] none (spec := s_mkList f hv) (hent := ent51) (k := ?_)
  refine d0 2 (k := ?_)
  refine da0 3 (k := ?_)
  refine da0 4 (k := ?_)
  refine da0 5 (k := ?_)
  refine doc0 6 [] [] [0, 0, 0] none (spec := (by have := s_isList (E := E) (A := A) f hv (usedN f f.ps.length) hu; rw [hq] at this; exact this)) (hent := ent78) (k := ?_)
  refine dz 7 [0, 1, 0, 4, 12, 28, 63, 127] (h := ?_)
  refine dpg 7 [0, 1, 0, 4, 12, 28, 63, 127] (k := fun K => ?_)
  refine dpe [] [] [0, 0] none (spec := (s_must_f _) E A) (hent := ent43) (k := ?_)
  repeat (first | refine gthen_panic ?_ | refine gblock_panic ?_)
  refine finD_panic ?_
  refine ocall [130] [(0, 130)] (spec := d_some 0 4) (hent := ent39) (h := ?_)
  refine out_nil ?_
  refine fp2 (hR := ?_)
  rfl
theorem p_apart_f {E : Env Try.prog} {A : E.α} (f : Fd) (hl : f.ps.length ≤ 1048576) (hv : f.valid = false) : Gh.Spec E 26 [.p (.agg [.list (f.ps.map pS), .int .i64 f.el, .int .i64 f.eh, .int .i64 f.nl, .int .i64 f.nh, .int .i64 f.dl, .int .i64 f.dh, .int .i64 f.dep, .int .i64 f.tm, .int .i64 f.gp])] (mkHp []) A (fun y => y = .ok (.p (.tuple [.list [], .int .i64 1])) (mkHp []) A) := by
  refine specD_of Try.func26 (rfl : Try.f26.body = some _) (Nat.le_of_ble_eq_true rfl) (fun id h => ?_) (fun j id h => ?_) ?_
  · exact wf1x h
  · exact wf2x h
  intro C hN hL
  replace hN : C.N = 63 := hN
  simp only [Gh.num, List.map_cons, List.map_nil, Nat.reduceAdd]
  repeat refine gwp_seq ?_
  refine gwp_region ?_
  refine n1 110 false (hc := kVl1.h {}) (k := ?_)
  refine v0 (k := ?_)
  refine n1 130 false (hc := kVl1.h {}) (k := ?_)
  refine nil0 ?_
  refine cl [1, 2, 3] (k := ?_)
  repeat refine gwp_seq ?_
  refine gwp_region ?_
  refine df0 (k := ?_)
  refine nil0 ?_
  refine cl [1, 2, 3] (k := ?_)
  repeat refine gwp_seq ?_
  refine gwp_region ?_
  refine v0 (k := ?_)
  refine op0 [] [] [0] none (spec := s_open_f f hl hv) (hent := ent40) (k := ?_)
  repeat (first | refine gthen_panic ?_ | refine gblock_panic ?_)
  refine finD_panic ?_
  refine ocall [130] [(0, 130)] (spec := d_some 0 1) (hent := ent39) (h := ?_)
  refine out_nil ?_
  refine fp2 (hR := ?_)
  rfl
end Go.Proofs.Ytabeeaiilanmjaa

/- What the program, and the document, say of any field. -/
namespace Go.Proofs.Ytabeeaiilanmjaa
open Go.Gh
set_option maxRecDepth 100000
set_option maxHeartbeats 4000000
/-- The answers, with their errors. -/
def useV (f : Fd) : Int × Int := if f.valid = true then ((usedN f f.ps.length : Nat), 0) else (0, 1)
def srvV (f : Fd) (s a b : Int) : Bool × Int := if f.valid = true then if (inB s 0 (allS f.ps.length : Nat) && (inB a f.el f.eh && inB b f.nl f.nh)) = true then (servQ f (atN f a b &&& s.toNat), 0) else (false, 2) else (false, 1)
def misV (f : Fd) (s : Int) : (Int × Int) × Int × Int := if f.valid = true then if inB s 0 (allS f.ps.length : Nat) = true then match misL f s.toNat with | [] => ((0, 0), 0, 4) | e :: l => (e, ((l.length + 1 : Nat), 0)) else ((0, 0), 0, 2) else ((0, 0), 0, 1)
def shoV (f : Fd) : Int × Int := if f.valid = true then match (setsL f).find? (listQ f) with | some w => ((w : Nat), 0) | none => (0, 4) else (0, 1)
def lstV (f : Fd) : Int × Int := if f.valid = true then match (setsL f).find? (listQ f) with | some w => ((cntA f w : Nat), 0) | none => (0, 4) else (0, 1)
def neeV (f : Fd) : Int × Int := if f.valid = true then if listQ f (usedN f f.ps.length) = true then ((needN f f.ps.length : Nat), 0) else (0, 4) else (0, 1)
def aptV (f : Fd) : List (Int × Int) × Int := if f.valid = true then if listQ f (usedN f f.ps.length) = true then (apL f (allS f.ps.length), 0) else ([], 4) else ([], 1)
theorem c_use (f : Fd) (hl : f.ps.length ≤ 1048576) : PSpec Try.prog 14 [.agg [.list (f.ps.map pS), .int .i64 f.el, .int .i64 f.eh, .int .i64 f.nl, .int .i64 f.nh, .int .i64 f.dl, .int .i64 f.dh, .int .i64 f.dep, .int .i64 f.tm, .int .i64 f.gp]] (.ok (.tuple [.int .i64 (useV f).1, .int .i64 (useV f).2])) := by
  by_cases hv : f.valid = true
  · rw [useV, if_pos hv]
    exact fun E A => p_useful_t f hv
  rw [useV, if_neg hv]
  exact fun E A => p_useful_f f hl (by simpa using hv)
theorem c_srv (f : Fd) (hl : f.ps.length ≤ 1048576) (s a b : Int) : PSpec Try.prog 16 [.agg [.list (f.ps.map pS), .int .i64 f.el, .int .i64 f.eh, .int .i64 f.nl, .int .i64 f.nh, .int .i64 f.dl, .int .i64 f.dh, .int .i64 f.dep, .int .i64 f.tm, .int .i64 f.gp], .int .i64 s, .int .i64 a, .int .i64 b] (.ok (.tuple [.bool (srvV f s a b).1, .int .i64 (srvV f s a b).2])) := by
  by_cases hv : f.valid = true
  · by_cases hq : (inB s 0 (allS f.ps.length : Nat) && (inB a f.el f.eh && inB b f.nl f.nh)) = true
    · rw [srvV, if_pos hv, if_pos hq]
      simp only [Bool.and_eq_true] at hq
      obtain ⟨h1, h2, h3⟩ := hq
      obtain ⟨n, rfl⟩ : ∃ n : Nat, s = n := ⟨s.toNat, by simp only [inB, Bool.and_eq_true, decide_eq_true_eq] at h1; omega⟩
      exact fun E A => p_served_t f hv n a b h1 h2 h3
    rw [srvV, if_pos hv, if_neg hq]
    exact fun E A => p_served_r f hv s a b (by simpa using hq)
  rw [srvV, if_neg hv]
  exact fun E A => p_served_f f hl (by simpa using hv) s a b
theorem c_mis (f : Fd) (hl : f.ps.length ≤ 1048576) (s : Int) : PSpec Try.prog 18 [.agg [.list (f.ps.map pS), .int .i64 f.el, .int .i64 f.eh, .int .i64 f.nl, .int .i64 f.nh, .int .i64 f.dl, .int .i64 f.dh, .int .i64 f.dep, .int .i64 f.tm, .int .i64 f.gp], .int .i64 s] (.ok (.tuple [.int .i64 (misV f s).1.1, .int .i64 (misV f s).1.2, .int .i64 (misV f s).2.1, .int .i64 (misV f s).2.2])) := by
  by_cases hv : f.valid = true
  · by_cases h1 : inB s 0 (allS f.ps.length : Nat) = true
    · rw [misV, if_pos hv, if_pos h1]
      obtain ⟨n, rfl⟩ : ∃ n : Nat, s = n := ⟨s.toNat, by simp only [inB, Bool.and_eq_true, decide_eq_true_eq] at h1; omega⟩
      rw [Int.toNat_natCast]
      rcases hm : misL f n with _ | ⟨e, l⟩
      · exact fun E A => p_miss_n f hv n h1 hm
      have h := fun (E : Env Try.prog) (A : E.α) => p_miss_t (E := E) (A := A) f hv n h1 (by rw [hm]; simp)
      rw [hm] at h
      exact fun E A => h E A
    rw [misV, if_pos hv, if_neg h1]
    exact fun E A => p_miss_r f hv s (by simpa using h1)
  rw [misV, if_neg hv]
  exact fun E A => p_miss_f f hl (by simpa using hv) s
theorem c_sho (f : Fd) (hl : f.ps.length ≤ 1048576) : PSpec Try.prog 20 [.agg [.list (f.ps.map pS), .int .i64 f.el, .int .i64 f.eh, .int .i64 f.nl, .int .i64 f.nh, .int .i64 f.dl, .int .i64 f.dh, .int .i64 f.dep, .int .i64 f.tm, .int .i64 f.gp]] (.ok (.tuple [.int .i64 (shoV f).1, .int .i64 (shoV f).2])) := by
  by_cases hv : f.valid = true
  · rw [shoV, if_pos hv]
    rcases hw : (setsL f).find? (listQ f) with _ | w
    · exact fun E A => p_short_n f hv hw
    exact fun E A => p_short_t f hv w hw
  rw [shoV, if_neg hv]
  exact fun E A => p_short_f f hl (by simpa using hv)
theorem c_lst (f : Fd) (hl : f.ps.length ≤ 1048576) : PSpec Try.prog 22 [.agg [.list (f.ps.map pS), .int .i64 f.el, .int .i64 f.eh, .int .i64 f.nl, .int .i64 f.nh, .int .i64 f.dl, .int .i64 f.dh, .int .i64 f.dep, .int .i64 f.tm, .int .i64 f.gp]] (.ok (.tuple [.int .i64 (lstV f).1, .int .i64 (lstV f).2])) := by
  by_cases hv : f.valid = true
  · rw [lstV, if_pos hv]
    rcases hw : (setsL f).find? (listQ f) with _ | w
    · exact fun E A => p_lists_n f hv hw
    exact fun E A => p_lists_t f hv w hw
  rw [lstV, if_neg hv]
  exact fun E A => p_lists_f f hl (by simpa using hv)
theorem c_nee (f : Fd) (hl : f.ps.length ≤ 1048576) : PSpec Try.prog 24 [.agg [.list (f.ps.map pS), .int .i64 f.el, .int .i64 f.eh, .int .i64 f.nl, .int .i64 f.nh, .int .i64 f.dl, .int .i64 f.dh, .int .i64 f.dep, .int .i64 f.tm, .int .i64 f.gp]] (.ok (.tuple [.int .i64 (neeV f).1, .int .i64 (neeV f).2])) := by
  by_cases hv : f.valid = true
  · rw [neeV, if_pos hv]
    by_cases hq : listQ f (usedN f f.ps.length) = true
    · rw [if_pos hq]
      exact fun E A => p_need_t f hv hq
    rw [if_neg hq]
    exact fun E A => p_need_n f hv (by simpa using hq)
  rw [neeV, if_neg hv]
  exact fun E A => p_need_f f hl (by simpa using hv)
theorem c_apt (f : Fd) (hl : f.ps.length ≤ 1048576) : PSpec Try.prog 26 [.agg [.list (f.ps.map pS), .int .i64 f.el, .int .i64 f.eh, .int .i64 f.nl, .int .i64 f.nh, .int .i64 f.dl, .int .i64 f.dh, .int .i64 f.dep, .int .i64 f.tm, .int .i64 f.gp]] (.ok (.tuple [.list (((aptV f).1).map fun e : Int × Int => P.agg [.int .i64 e.1, .int .i64 e.2]), .int .i64 (aptV f).2])) := by
  by_cases hv : f.valid = true
  · rw [aptV, if_pos hv]
    by_cases hq : listQ f (usedN f f.ps.length) = true
    · rw [if_pos hq]
      exact fun E A => p_apart_t f hv hq
    rw [if_neg hq]
    exact fun E A => p_apart_n f hv (by simpa using hq)
  rw [aptV, if_neg hv]
  exact fun E A => p_apart_f f hl (by simpa using hv)
end Go.Proofs.Ytabeeaiilanmjaa

/- The sample; what the program says of it; alive. -/
namespace Go.Proofs.Ytabeeaiilanmjaa
open Go.Gh
set_option maxRecDepth 100000
set_option maxHeartbeats 4000000
structure kCd1 (c : Prop) : Prop where
  h : c := by (first | exact True.intro | omega | (simp [P.size, all_int, allOne_p, goods_p, allOne, goods, good, G.one, P.one, P.cells]; intro y a b _ h; subst h; rfl) | (simp only [inI]; omega) | (simp [P.size, pS, all_int, allOne_p, goods_p, allOne, goods, good, G.one, P.one, P.cells] <;> first | omega | assumption | simp_all))
structure kCd2 (c : Prop) : Prop where
  h : c := by (first | exact True.intro | omega | (simp only [inI]; omega) | (simp [P.size, pS, all_int, allOne_p, goods_p, allOne, goods, good, G.one, P.one, P.cells] <;> first | omega | assumption | simp_all))
structure kCd3 (c : Prop) : Prop where
  h : c := by (first | exact True.intro | omega | (simp only [inI]; omega) | (simp only [inI]; omega) | (simp [P.size, pS, all_int, allOne_p, goods_p, allOne, goods, good, G.one, P.one, P.cells] <;> first | omega | assumption | simp_all))
theorem und51 : Try.prog.underlying 51 = some (.array 2 3) := by kernel_rfl
theorem geq_pair (d : Nat) (a b c e : Int) : geq Try.prog (d + 2) 51 (.agg [.int .i64 a, .int .i64 b]) (.agg [.int .i64 c, .int .i64 e]) = some (decide (a = c) && (decide (b = e) && true)) := by
  unfold geq
  rw [und51]
  simp only [ti_3]
  have p0 : ∀ u v : Int, ppart Try.prog 3 [.int .i64 u, .int .i64 v] 0 = some (.int .i64 u) := fun u v => by unfold ppart; rw [ti_3]; rfl
  have p1 : ∀ u v : Int, ppart Try.prog 3 [.int .i64 u, .int .i64 v] 1 = some (.int .i64 v) := fun u v => by unfold ppart; rw [ti_3]; rfl
  rw [show List.range 2 = [0, 1] from rfl]
  simp only [List.map_cons, List.map_nil, Nat.zero_mul, Nat.one_mul, p0, p1, geq_int3]
  rfl
theorem heg51 : Try.prog.eqGuardType Try.prog.depth 51 = false := by kernel_rfl
theorem ent28 : Enters Try.prog 28 := Enters.mk Try.func28 (by kernel_rfl) rfl
theorem r_places (l : List (Int × Int)) (hl : l.length ≤ 1048576) : PSpec Try.prog 28 [.list (l.map fun e : Int × Int => P.agg [.int .i64 e.1, .int .i64 e.2]), .list (l.map fun e : Int × Int => P.agg [.int .i64 e.1, .int .i64 e.2])] (.ok (.bool true)) := by
  refine pspec_of Try.func28 (rfl : Try.f28.body = some _) rfl ?_
  intro E A C hN hL
  replace hN : C.N = 26 := hN
  simp only [Gh.num, List.map_cons, List.map_nil, Nat.reduceAdd]
  have hdt : ∀ (i : Decidable True), @decide True i = true := fun i => decide_eq_true trivial
  have hdf : ∀ (i : Decidable False), @decide False i = false := fun i => decide_eq_false id
  have hgp : ∀ a b c e : Int, geq Try.prog 6 51 (.agg [.int .i64 a, .int .i64 b]) (.agg [.int .i64 c, .int .i64 e]) = some (decide (a = c) && (decide (b = e) && true)) := geq_pair 4
  have hbt : (true == true) = true := rfl
  have hbf : (false == false) = true := rfl
  have htf : (true == false) = false := rfl
  have hft : (false == true) = false := rfl
  repeat refine gwp_seq ?_
  refine gwp_region ?_
  refine v0 (k := ?_)
  refine nil0 ?_
  refine cl [0, 1] (k := ?_)
  repeat refine gwp_seq ?_
  refine gwp_region ?_
  refine v0 (k := ?_)
  refine v0 (k := ?_)
  refine v0 (k := ?_)
  refine v0 (k := ?_)
  refine v0 (k := ?_)
  refine rb 10 false (h := by (first | rfl | decide | simp)) (k := ?_)
  refine nil0 ?_
  repeat refine gwp_seq ?_
  refine cF (k := ?_)
  repeat refine gwp_seq ?_
  refine gwp_skip ?_
  refine cl [0, 1] (k := ?_)
  repeat refine gwp_seq ?_
  refine gwp_region ?_
  refine v0 (k := ?_)
  refine nil0 ?_
  refine cl [0, 1, 5] (k := ?_)
  repeat refine gwp_seq ?_
  refine gwp_block ?_
  repeat refine gwp_seq ?_
  refine gc_loop (fun mz σ => ∃ k : Nat, (k ≤ l.length) ∧ mz = l.length - k ∧ σ = (sg [(0, .p (.list (l.map fun e : Int × Int => P.agg [.int .i64 e.1, .int .i64 e.2]))), (1, .p (.list (l.map fun e : Int × Int => P.agg [.int .i64 e.1, .int .i64 e.2]))), (5, .p (.int .i64 (k : Nat)))] [] A [] : Sg E)) ?_ (fun mz σ hI => ?_)
  · refine lbeg [0, 1, 5] (hV := ?_)
    exact ⟨_, 0, by omega, rfl, rfl⟩
  obtain ⟨k, hk, hnn, rfl⟩ := hI
  repeat refine gwp_seq ?_
  refine gwp_region ?_
  refine v0 (k := ?_)
  refine v0 (k := ?_)
  refine v0 (k := ?_)
  refine v0 (k := ?_)
  refine nil0 ?_
  repeat refine gwp_seq ?_
  refine cB (k1 := fun hb1 => ?_) (k0 := fun hb1 => ?_)
  · replace hb1 := hB.h {} hb1
    repeat refine gwp_seq ?_
    refine gwp_skip ?_
    refine cl [0, 1, 5] (k := ?_)
    repeat refine gwp_seq ?_
    refine gwp_block ?_
    repeat refine gwp_seq ?_
    obtain ⟨e, he⟩ := getE (l := l) (k := k) (by omega)
    refine rd ?_
    refine d0 0 (k := ?_)
    refine d0 1 (k := ?_)
    refine d1 2 (hc := kCd1.h {}) (k := ?_)
    refine d0 3 (k := ?_)
    refine d0 4 (k := ?_)
    refine d0 5 (k := ?_)
    refine d1 6 (hc := kCd1.h {}) (k := ?_)
    refine d0 7 (k := ?_)
    refine d1 8 (hc := by (exact heg51)) (k := ?_)
    refine dz 9 [0, 0, 3, 7, 0, 0, 48, 112, 255] (h := ?_)
    refine de 9 (h := ?_)
    repeat refine gwp_seq ?_
    refine cB (k1 := fun hb2 => ?_) (k0 := fun hb2 => ?_)
    · replace hb2 := hB.h {} hb2
      repeat refine gwp_seq ?_
      refine gwp_region ?_
      refine v0 (k := ?_)
      refine nil0 ?_
      repeat refine gwp_seq ?_
      refine gwp_ret ?_
      repeat (first | refine gthen_ret ?_ | refine gblock_ret ?_ | refine gnoGoto_ret ?_)
      refine fin_ret ?_
      refine fp (hR := ?_)
      rfl
    replace hb2 := hB.h {} hb2
    repeat refine gwp_seq ?_
    refine gwp_skip ?_
    refine cl [0, 1, 5] (k := ?_)
    repeat refine gwp_seq ?_
    refine gwp_region ?_
    refine v0 (k := ?_)
    refine v1 (hc := kCd1.h {}) (k := ?_)
    refine v0 (k := ?_)
    refine nil0 ?_
    refine lend [0, 1, 5] (h := ?_) (hV := ?_) (n' := l.length - (k + 1))
    · omega
    exact ⟨k + 1, by omega, rfl, rfl⟩
  replace hb1 := hB.h {} hb1
  repeat refine gwp_seq ?_
  refine gwp_exit ?_
  repeat (first | refine gthen_exit ?_ | refine gnoGoto_exit ?_ | refine gblock_here ?_ | refine gblock_out rfl ?_)
  refine cl [] (k := ?_)
  repeat refine gwp_seq ?_
  refine gwp_region ?_
  refine v0 (k := ?_)
  refine nil0 ?_
  repeat refine gwp_seq ?_
  refine gwp_ret ?_
  repeat (first | refine gthen_ret ?_ | refine gblock_ret ?_ | refine gnoGoto_ret ?_)
  refine fin_ret ?_
  refine fp (hR := ?_)
  rfl
/-- A field as a value. -/
def fdP (f : Fd) : P := .agg [.list (f.ps.map pS), .int .i64 f.el, .int .i64 f.eh, .int .i64 f.nl, .int .i64 f.nh, .int .i64 f.dl, .int .i64 f.dh, .int .i64 f.dep, .int .i64 f.tm, .int .i64 f.gp]
def smp : Fd := ⟨[⟨0, 1, 0, 2, 120, 12⟩, ⟨1, 2, 0, 0, 150, 15⟩, ⟨2, 3, 0, 0, 250, 10⟩, ⟨0, 3, 0, 0, 99, 20⟩, ⟨3, 5, 0, 1, 300, 11⟩], 0, 3, 0, 0, 100, 300, 10, 1, 0⟩
def smp2 : Fd := { smp with tm := 2, gp := 30 }
theorem l_smp : smp.ps.length ≤ 1048576 := by show 5 ≤ 1048576; omega
theorem l_smp2 : smp2.ps.length ≤ 1048576 := by show 5 ≤ 1048576; omega
theorem ent67 : Enters Try.prog 67 := Enters.mk Try.func67 (by kernel_rfl) rfl
theorem l_span (a b : Int) : PSpec Try.prog 67 [.int .i64 a, .int .i64 b] (.ok (.agg [.int .i64 a, .int .i64 b])) := by
  refine pspec_of Try.func67 (rfl : Try.f67.body = some _) rfl ?_
  intro E A C hN hL
  replace hN : C.N = 8 := hN
  simp only [Gh.num, List.map_cons, List.map_nil, Nat.reduceAdd]
  repeat refine gwp_seq ?_
  refine gwp_region ?_
  refine n1 140 false (hc := kCd2.h {}) (k := ?_)
  refine nil0 ?_
  refine cl [0, 1, 4] (k := ?_)
  repeat refine gwp_seq ?_
  refine gwp_region ?_
  refine v0 (k := ?_)
  refine v0 (k := ?_)
  refine v0 (k := ?_)
  refine s1 (hc := kCd2.h {}) (k := ?_)
  refine nil0 ?_
  repeat refine gwp_seq ?_
  refine gwp_ret ?_
  repeat (first | refine gthen_ret ?_ | refine gblock_ret ?_ | refine gnoGoto_ret ?_)
  refine fin_ret ?_
  refine fp (hR := ?_)
  rfl
theorem ent66 : Enters Try.prog 66 := Enters.mk Try.func66 (by kernel_rfl) rfl
theorem l_sky (a b c d e g : Int) : PSpec Try.prog 66 [.int .i64 a, .int .i64 b, .int .i64 c, .int .i64 d, .int .i64 e, .int .i64 g] (.ok (.agg [.int .i64 a, .int .i64 b, .int .i64 c, .int .i64 d, .int .i64 e, .int .i64 g])) := by
  refine pspec_of Try.func66 (rfl : Try.f66.body = some _) rfl ?_
  intro E A C hN hL
  replace hN : C.N = 22 := hN
  simp only [Gh.num, List.map_cons, List.map_nil, Nat.reduceAdd]
  repeat refine gwp_seq ?_
  refine gwp_region ?_
  refine n1 220 false (hc := kCd2.h {}) (k := ?_)
  refine nil0 ?_
  refine cl [0, 1, 2, 3, 4, 5, 12] (k := ?_)
  repeat refine gwp_seq ?_
  refine gwp_region ?_
  refine v0 (k := ?_)
  refine v0 (k := ?_)
  refine pc0 (spec := l_span a b) (hent := ent67) (k := ?_)
  refine v0 (k := ?_)
  refine v0 (k := ?_)
  refine pc0 (spec := l_span c d) (hent := ent67) (k := ?_)
  refine v0 (k := ?_)
  refine v0 (k := ?_)
  refine v0 (k := ?_)
  refine s1 (hc := kCd2.h {}) (k := ?_)
  refine nil0 ?_
  repeat refine gwp_seq ?_
  refine gwp_ret ?_
  repeat (first | refine gthen_ret ?_ | refine gblock_ret ?_ | refine gnoGoto_ret ?_)
  refine fin_ret ?_
  refine fp (hR := ?_)
  rfl
theorem ent38 : Enters Try.prog 38 := Enters.mk Try.func38 (by kernel_rfl) rfl
theorem l_sample  : PSpec Try.prog 38 [] (.ok (fdP smp)) := by
  refine pspec_of Try.func38 (rfl : Try.f38.body = some _) rfl ?_
  intro E A C hN hL
  replace hN : C.N = 12 := hN
  simp only [Gh.num, List.map_cons, List.map_nil, Nat.reduceAdd]
  repeat refine gwp_seq ?_
  refine gwp_region ?_
  refine n1 100 false (hc := kCd2.h {}) (k := ?_)
  refine nil0 ?_
  refine cl [0] (k := ?_)
  repeat refine gwp_seq ?_
  refine gwp_region ?_
  refine pc0 (spec := l_sky 0 1 0 2 120 12) (hent := ent66) (k := ?_)
  refine pc0 (spec := l_sky 1 2 0 0 150 15) (hent := ent66) (k := ?_)
  refine pc0 (spec := l_sky 2 3 0 0 250 10) (hent := ent66) (k := ?_)
  refine pc0 (spec := l_sky 0 3 0 0 99 20) (hent := ent66) (k := ?_)
  refine pc0 (spec := l_sky 3 5 0 1 300 11) (hent := ent66) (k := ?_)
  refine n1 170 false (hc := kCd2.h {}) (k := ?_)
  refine v0 (k := ?_)
  refine nil0 ?_
  refine cl [0, 1] (k := ?_)
  repeat refine gwp_seq ?_
  refine gwp_region ?_
  refine v0 (k := ?_)
  refine pc0 (spec := l_span 0 3) (hent := ent67) (k := ?_)
  refine pc0 (spec := l_span 100 300) (hent := ent67) (k := ?_)
  refine v0 (k := ?_)
  refine s1 (hc := kCd2.h {}) (k := ?_)
  refine nil0 ?_
  repeat refine gwp_seq ?_
  refine gwp_ret ?_
  repeat (first | refine gthen_ret ?_ | refine gblock_ret ?_ | refine gnoGoto_ret ?_)
  refine fin_ret ?_
  refine fp (hR := ?_)
  rfl
theorem l_sample2 : PSpec Try.prog 38 [] (.ok (.agg [.list (smp.ps.map pS), .int .i64 0, .int .i64 3, .int .i64 0, .int .i64 0, .int .i64 100, .int .i64 300, .int .i64 10, .int .i64 1, .int .i64 0])) := l_sample
theorem v_use : PSpec Try.prog 14 [fdP smp] (.ok (.tuple [.int .i64 23, .int .i64 0])) := by
  have h := c_use smp l_smp
  rw [show useV smp = (23, 0) from by decide +kernel] at h
  exact h
theorem v_srv : PSpec Try.prog 16 [.agg [.list (smp.ps.map pS), .int .i64 0, .int .i64 3, .int .i64 0, .int .i64 0, .int .i64 100, .int .i64 300, .int .i64 10, .int .i64 2, .int .i64 30], .int .i64 3, .int .i64 1, .int .i64 0] (.ok (.tuple [.bool true, .int .i64 0])) := by
  have h := c_srv smp2 l_smp2 3 1 0
  rw [show srvV smp2 3 1 0 = (true, 0) from by decide +kernel] at h
  exact h
theorem v_mis : PSpec Try.prog 18 [fdP smp, .int .i64 3] (.ok (.tuple [.int .i64 3, .int .i64 0, .int .i64 1, .int .i64 0])) := by
  have h := c_mis smp l_smp 3
  rw [show misV smp 3 = ((3, 0), 1, 0) from by decide +kernel] at h
  exact h
theorem v_sho : PSpec Try.prog 20 [fdP smp] (.ok (.tuple [.int .i64 5, .int .i64 0])) := by
  have h := c_sho smp l_smp
  rw [show shoV smp = (5, 0) from by decide +kernel] at h
  exact h
theorem v_lst : PSpec Try.prog 22 [fdP smp] (.ok (.tuple [.int .i64 1, .int .i64 0])) := by
  have h := c_lst smp l_smp
  rw [show lstV smp = (1, 0) from by decide +kernel] at h
  exact h
theorem v_nee : PSpec Try.prog 24 [fdP smp] (.ok (.tuple [.int .i64 1, .int .i64 0])) := by
  have h := c_nee smp l_smp
  rw [show neeV smp = (1, 0) from by decide +kernel] at h
  exact h
theorem v_apt : PSpec Try.prog 26 [fdP smp] (.ok (.tuple [.list [.agg [.int .i64 0, .int .i64 0], .agg [.int .i64 2, .int .i64 0]], .int .i64 0])) := by
  have h := c_apt smp l_smp
  rw [show aptV smp = ([(0, 0), (2, 0)], 0) from by decide +kernel] at h
  exact h
theorem v_places : PSpec Try.prog 28 [.list [.agg [.int .i64 0, .int .i64 0], .agg [.int .i64 2, .int .i64 0]], .list [.agg [.int .i64 0, .int .i64 0], .agg [.int .i64 2, .int .i64 0]]] (.ok (.bool true)) := r_places [(0, 0), (2, 0)] (by decide)
theorem ent13 : Enters Try.prog 13 := Enters.mk Try.func13 (by kernel_rfl) rfl
theorem l_awake  : PSpec Try.prog 13 [] (.ok (.bool true)) := by
  refine pspec_of Try.func13 (rfl : Try.f13.body = some _) rfl ?_
  intro E A C hN hL
  replace hN : C.N = 121 := hN
  simp only [Gh.num, List.map_cons, List.map_nil, Nat.reduceAdd]
  have hdt : ∀ (i : Decidable True), @decide True i = true := fun i => decide_eq_true trivial
  have hdf : ∀ (i : Decidable False), @decide False i = false := fun i => decide_eq_false id
  repeat refine gwp_seq ?_
  refine gwp_region ?_
  refine v0 (k := ?_)
  refine nil0 ?_
  refine cl [] (k := ?_)
  repeat refine gwp_seq ?_
  refine gwp_region ?_
  refine pc0 (spec := l_sample) (hent := ent38) (k := ?_)
  refine pc0 (spec := v_use) (hent := ent14) (k := ?_)
  refine v0 (k := ?_)
  refine v0 (k := ?_)
  refine v0 (k := ?_)
  refine v0 (k := ?_)
  refine v0 (k := ?_)
  refine nil0 ?_
  refine cl [1, 2] (k := ?_)
  repeat refine gwp_seq ?_
  refine gwp_region ?_
  refine pc0 (spec := l_sample2) (hent := ent38) (k := ?_)
  refine n1 130 false (hc := kCd2.h {}) (k := ?_)
  refine s1 (hc := kCd2.h {}) (k := ?_)
  refine nil0 ?_
  refine cl [1, 2, 3] (k := ?_)
  repeat refine gwp_seq ?_
  refine gwp_region ?_
  refine v0 (k := ?_)
  refine s1 (hc := kCd2.h {}) (k := ?_)
  refine v0 (k := ?_)
  refine s1 (hc := kCd2.h {}) (k := ?_)
  refine nil0 ?_
  refine cl [1, 2, 3] (k := ?_)
  repeat refine gwp_seq ?_
  refine gwp_region ?_
  refine v0 (k := ?_)
  refine pc0 (spec := v_srv) (hent := ent16) (k := ?_)
  refine v0 (k := ?_)
  refine v0 (k := ?_)
  refine v0 (k := ?_)
  refine v0 (k := ?_)
  refine v0 (k := ?_)
  refine nil0 ?_
  refine cl [1, 2, 4, 5] (k := ?_)
  repeat refine gwp_seq ?_
  refine gwp_region ?_
  refine pc0 (spec := l_sample) (hent := ent38) (k := ?_)
  refine pc0 (spec := v_mis) (hent := ent18) (k := ?_)
  refine v0 (k := ?_)
  refine v0 (k := ?_)
  refine v0 (k := ?_)
  refine v0 (k := ?_)
  refine v0 (k := ?_)
  refine v0 (k := ?_)
  refine v0 (k := ?_)
  refine v0 (k := ?_)
  refine v0 (k := ?_)
  refine nil0 ?_
  refine cl [1, 2, 4, 5, 6, 7, 8, 9] (k := ?_)
  repeat refine gwp_seq ?_
  refine gwp_region ?_
  refine pc0 (spec := l_sample) (hent := ent38) (k := ?_)
  refine pc0 (spec := v_sho) (hent := ent20) (k := ?_)
  refine v0 (k := ?_)
  refine v0 (k := ?_)
  refine v0 (k := ?_)
  refine v0 (k := ?_)
  refine v0 (k := ?_)
  refine nil0 ?_
  refine cl [1, 2, 4, 5, 6, 7, 8, 9, 10, 11] (k := ?_)
  repeat refine gwp_seq ?_
  refine gwp_region ?_
  refine pc0 (spec := l_sample) (hent := ent38) (k := ?_)
  refine pc0 (spec := v_lst) (hent := ent22) (k := ?_)
  refine v0 (k := ?_)
  refine v0 (k := ?_)
  refine v0 (k := ?_)
  refine v0 (k := ?_)
  refine v0 (k := ?_)
  refine nil0 ?_
  refine cl [1, 2, 4, 5, 6, 7, 8, 9, 10, 11, 12, 13] (k := ?_)
  repeat refine gwp_seq ?_
  refine gwp_region ?_
  refine pc0 (spec := l_sample) (hent := ent38) (k := ?_)
  refine pc0 (spec := v_nee) (hent := ent24) (k := ?_)
  refine v0 (k := ?_)
  refine v0 (k := ?_)
  refine v0 (k := ?_)
  refine v0 (k := ?_)
  refine v0 (k := ?_)
  refine nil0 ?_
  refine cl [1, 2, 4, 5, 6, 7, 8, 9, 10, 11, 12, 13, 14, 15] (k := ?_)
  repeat refine gwp_seq ?_
  refine gwp_region ?_
  refine pc0 (spec := l_sample) (hent := ent38) (k := ?_)
  refine pc0 (spec := v_apt) (hent := ent26) (k := ?_)
  refine v0 (k := ?_)
  refine v0 (k := ?_)
  refine v0 (k := ?_)
  refine v0 (k := ?_)
  refine v0 (k := ?_)
  refine nil0 ?_
  refine cl [1, 2, 4, 5, 6, 7, 8, 9, 10, 11, 12, 13, 14, 15, 16, 17] (k := ?_)
  repeat refine gwp_seq ?_
  refine gwp_region ?_
  refine v0 (k := ?_)
  refine v0 (k := ?_)
  refine rb 59 false (h := by (first | rfl | decide)) (k := ?_)
  refine v0 (k := ?_)
  refine w0 (k := ?_)
  refine w0 (k := ?_)
  refine rb 62 false (h := by (first | rfl | decide)) (k := ?_)
  refine v0 (k := ?_)
  refine v0 (k := ?_)
  refine w0 (k := ?_)
  refine w0 (k := ?_)
  refine rb 66 false (h := by (first | rfl | decide)) (k := ?_)
  refine v0 (k := ?_)
  refine v0 (k := ?_)
  refine w0 (k := ?_)
  refine w0 (k := ?_)
  refine rb 70 false (h := by (first | rfl | decide)) (k := ?_)
  refine v0 (k := ?_)
  refine v0 (k := ?_)
  refine w0 (k := ?_)
  refine w0 (k := ?_)
  refine rb 74 false (h := by (first | rfl | decide)) (k := ?_)
  refine v0 (k := ?_)
  refine v0 (k := ?_)
  refine w0 (k := ?_)
  refine w0 (k := ?_)
  refine rb 78 false (h := by (first | rfl | decide)) (k := ?_)
  refine v0 (k := ?_)
  refine v0 (k := ?_)
  refine w0 (k := ?_)
  refine w0 (k := ?_)
  refine rb 82 false (h := by (first | rfl | decide)) (k := ?_)
  refine v0 (k := ?_)
  refine v0 (k := ?_)
  refine w0 (k := ?_)
  refine w0 (k := ?_)
  refine rb 86 false (h := by (first | rfl | decide)) (k := ?_)
  refine v0 (k := ?_)
  refine v0 (k := ?_)
  refine w0 (k := ?_)
  refine w0 (k := ?_)
  refine rb 90 false (h := by (first | rfl | decide)) (k := ?_)
  refine v0 (k := ?_)
  refine v0 (k := ?_)
  refine w0 (k := ?_)
  refine w0 (k := ?_)
  refine rb 94 false (h := by (first | rfl | decide)) (k := ?_)
  refine v0 (k := ?_)
  refine v0 (k := ?_)
  refine w0 (k := ?_)
  refine w0 (k := ?_)
  refine rb 98 false (h := by (first | rfl | decide)) (k := ?_)
  refine v0 (k := ?_)
  refine v0 (k := ?_)
  refine w0 (k := ?_)
  refine w0 (k := ?_)
  refine rb 102 false (h := by (first | rfl | decide)) (k := ?_)
  refine v0 (k := ?_)
  refine v0 (k := ?_)
  refine w0 (k := ?_)
  refine w0 (k := ?_)
  refine rb 106 false (h := by (first | rfl | decide)) (k := ?_)
  refine v0 (k := ?_)
  refine v0 (k := ?_)
  refine w0 (k := ?_)
  refine w0 (k := ?_)
  refine rb 110 false (h := by (first | rfl | decide)) (k := ?_)
  refine v0 (k := ?_)
  refine nil0 ?_
  repeat refine gwp_seq ?_
  refine cF (k := ?_)
  repeat refine gwp_seq ?_
  refine gwp_skip ?_
  refine cl [16, 17] (k := ?_)
  repeat refine gwp_seq ?_
  refine gwp_region ?_
  refine v0 (k := ?_)
  refine v0 (k := ?_)
  refine v0 (k := ?_)
  refine n1 1250 false (hc := kCd2.h {}) (k := ?_)
  refine pc0 (spec := v_places) (hent := ent28) (k := ?_)
  refine rb 116 true (h := by (rfl)) (k := ?_)
  refine v0 (k := ?_)
  refine w0 (k := ?_)
  refine w0 (k := ?_)
  refine rb 119 true (h := by (first | rfl | decide)) (k := ?_)
  refine v0 (k := ?_)
  refine v0 (k := ?_)
  refine nil0 ?_
  repeat refine gwp_seq ?_
  refine gwp_ret ?_
  repeat (first | refine gthen_ret ?_ | refine gblock_ret ?_ | refine gnoGoto_ret ?_)
  refine fin_ret ?_
  refine fp (hR := ?_)
  rfl
def hvyQ (f : Fd) (n m : Int) : Bool := decide (40 < (f.ps.length : Int)) || (f.valid && (decide (n < (f.ps.length : Int)) || decide (m < (f.eh - f.el + 1) * (f.nh - f.nl + 1))))
theorem mul_small {a b : Int} (ha : 0 ≤ a ∧ a ≤ 33) (hb : 0 ≤ b ∧ b ≤ 33) : 0 ≤ a * b ∧ a * b ≤ 1089 := by
  refine ⟨Int.mul_nonneg ha.1 hb.1, ?_⟩
  have h1 := Int.mul_le_mul ha.2 hb.2 hb.1 (by omega)
  omega
theorem hvy_len {f : Fd} {n m : Int} (h : hvyQ f n m = false) : f.ps.length ≤ 40 := by
  simp only [hvyQ, Bool.or_eq_false_iff, decide_eq_false_iff_not] at h
  omega
theorem ent12 : Enters Try.prog 12 := Enters.mk Try.func12 (by kernel_rfl) rfl
theorem l_heavy (f : Fd) (n m : Int) : PSpec Try.prog 12 [.agg [.list (f.ps.map pS), .int .i64 f.el, .int .i64 f.eh, .int .i64 f.nl, .int .i64 f.nh, .int .i64 f.dl, .int .i64 f.dh, .int .i64 f.dep, .int .i64 f.tm, .int .i64 f.gp], .int .i64 n, .int .i64 m] (.ok (.bool (hvyQ f n m))) := by
  refine pspec_of Try.func12 (rfl : Try.f12.body = some _) rfl ?_
  intro E A C hN hL
  replace hN : C.N = 41 := hN
  simp only [Gh.num, List.map_cons, List.map_nil, Nat.reduceAdd]
  have hpS : ∀ p : Sk, pS p = P.agg [.int .i64 p.el, .int .i64 p.eh, .int .i64 p.nl, .int .i64 p.nh, .int .i64 p.day, .int .i64 p.dep] := fun _ => rfl
  repeat refine gwp_seq ?_
  refine gwp_region ?_
  refine n1 130 false (hc := kCd3.h {}) (k := ?_)
  refine v0 (k := ?_)
  refine nil0 ?_
  refine cl [1, 2, 3] (k := ?_)
  repeat refine gwp_seq ?_
  refine gwp_region ?_
  refine v0 (k := ?_)
  refine v0 (k := ?_)
  refine v0 (k := ?_)
  refine v0 (k := ?_)
  refine nil0 ?_
  refine cl [1, 2, 3, 7] (k := ?_)
  repeat refine gwp_seq ?_
  refine gwp_region ?_
  refine v0 (k := ?_)
  refine v0 (k := ?_)
  refine nil0 ?_
  repeat refine gwp_seq ?_
  refine cB (k1 := fun hb1 => ?_) (k0 := fun hb1 => ?_)
  · replace hb1 := hB.h {} hb1
    repeat refine gwp_seq ?_
    refine gwp_region ?_
    refine v0 (k := ?_)
    refine nil0 ?_
    repeat refine gwp_seq ?_
    refine gwp_ret ?_
    repeat (first | refine gthen_ret ?_ | refine gblock_ret ?_ | refine gnoGoto_ret ?_)
    refine fin_ret ?_
    refine fp (hR := ?_)
    first
    | (simp only [hvyQ, hv] at *; simp_all [PRes.at]; done)
    | (simp only [hvyQ, hv] at *; simp_all [PRes.at] <;> (intros; omega))
    | (rw [show hvyQ f n m = decide (m < (f.eh - f.el + 1) * (f.nh - f.nl + 1)) by rw [hvyQ, hv, decide_eq_false (show ¬ (40 < (f.ps.length : Int)) by omega), decide_eq_false (show ¬ (n < (f.ps.length : Int)) by omega)]; rfl]; rfl)
    | (rw [show hvyQ f n m = true by rw [hvyQ, decide_eq_true (by omega)]; rfl]; rfl)
  replace hb1 := hB.h {} hb1
  repeat refine gwp_seq ?_
  refine gwp_skip ?_
  refine cl [1, 2, 3, 7] (k := ?_)
  repeat refine gwp_seq ?_
  rcases hv : f.valid with _ | _
  · repeat refine gwp_seq ?_
    refine gwp_region ?_
    refine v0 (k := ?_)
    refine pc0 (spec := r_field f (by omega)) (hent := ent29) (k := ?_)
    refine v0 (k := ?_)
    refine rb 15 false (h := by (rfl)) (k := ?_)
    refine x0 (k := ?_)
    refine x0 (k := ?_)
    refine x0 (k := ?_)
    refine x0 (k := ?_)
    refine x1 (k := ?_)
    refine x1 (k := ?_)
    refine x1 (k := ?_)
    refine x1 (k := ?_)
    refine x1 (k := ?_)
    refine x1 (k := ?_)
    refine x1 (k := ?_)
    refine x1 (k := ?_)
    refine x1 (k := ?_)
    refine x1 (k := ?_)
    refine x1 (k := ?_)
    refine x1 (k := ?_)
    refine x1 (k := ?_)
    refine x1 (k := ?_)
    refine x1 (k := ?_)
    refine x1 (k := ?_)
    refine x1 (k := ?_)
    refine x1 (k := ?_)
    refine x1 (k := ?_)
    refine x0 (k := ?_)
    refine v0 (k := ?_)
    refine v0 (k := ?_)
    refine nil0 ?_
    repeat refine gwp_seq ?_
    refine gwp_ret ?_
    repeat (first | refine gthen_ret ?_ | refine gblock_ret ?_ | refine gnoGoto_ret ?_)
    refine fin_ret ?_
    refine fp (hR := ?_)
    first
    | (simp only [hvyQ, hv] at *; simp_all [PRes.at]; done)
    | (simp only [hvyQ, hv] at *; simp_all [PRes.at] <;> (intros; omega))
    | (rw [show hvyQ f n m = decide (m < (f.eh - f.el + 1) * (f.nh - f.nl + 1)) by rw [hvyQ, hv, decide_eq_false (show ¬ (40 < (f.ps.length : Int)) by omega), decide_eq_false (show ¬ (n < (f.ps.length : Int)) by omega)]; rfl]; rfl)
    | (rw [show hvyQ f n m = true by rw [hvyQ, decide_eq_true (by omega)]; rfl]; rfl)
  have hn := valid_num hv
  have hmul := mul_small (a := f.eh - f.el + 1) (b := f.nh - f.nl + 1) (by omega) (by omega)
  repeat refine gwp_seq ?_
  refine gwp_region ?_
  refine v0 (k := ?_)
  refine pc0 (spec := r_field f (by omega)) (hent := ent29) (k := ?_)
  refine v0 (k := ?_)
  refine rb 15 true (h := by (rfl)) (k := ?_)
  refine w0 (k := ?_)
  refine w0 (k := ?_)
  refine w0 (k := ?_)
  refine w0 (k := ?_)
  refine b0 (k1 := fun hb2 => ?_) (k0 := fun hb2 => ?_)
  · replace hb2 := hB.h {} hb2
    refine x0 (k := ?_)
    refine x0 (k := ?_)
    refine x0 (k := ?_)
    refine x0 (k := ?_)
    refine x0 (k := ?_)
    refine x0 (k := ?_)
    refine x0 (k := ?_)
    refine x0 (k := ?_)
    refine x0 (k := ?_)
    refine x0 (k := ?_)
    refine x0 (k := ?_)
    refine x0 (k := ?_)
    refine x0 (k := ?_)
    refine x0 (k := ?_)
    refine x0 (k := ?_)
    refine x0 (k := ?_)
    refine x0 (k := ?_)
    refine x0 (k := ?_)
    refine x0 (k := ?_)
    refine w0 (k := ?_)
    refine v0 (k := ?_)
    refine v0 (k := ?_)
    refine nil0 ?_
    repeat refine gwp_seq ?_
    refine gwp_ret ?_
    repeat (first | refine gthen_ret ?_ | refine gblock_ret ?_ | refine gnoGoto_ret ?_)
    refine fin_ret ?_
    refine fp (hR := ?_)
    first
    | (simp only [hvyQ, hv] at *; simp_all [PRes.at]; done)
    | (simp only [hvyQ, hv] at *; simp_all [PRes.at] <;> (intros; omega))
    | (rw [show hvyQ f n m = decide (m < (f.eh - f.el + 1) * (f.nh - f.nl + 1)) by rw [hvyQ, hv, decide_eq_false (show ¬ (40 < (f.ps.length : Int)) by omega), decide_eq_false (show ¬ (n < (f.ps.length : Int)) by omega)]; rfl]; rfl)
    | (rw [show hvyQ f n m = true by rw [hvyQ, decide_eq_true (by omega)]; rfl]; rfl)
  replace hb2 := hB.h {} hb2
  refine w0 (k := ?_)
  refine w0 (k := ?_)
  refine w0 (k := ?_)
  refine w0 (k := ?_)
  refine w0 (k := ?_)
  refine w0 (k := ?_)
  refine w1 (hc := kCd3.h {}) (k := ?_)
  refine w1 (hc := kCd3.h {}) (k := ?_)
  refine w0 (k := ?_)
  refine w0 (k := ?_)
  refine w0 (k := ?_)
  refine w0 (k := ?_)
  refine w0 (k := ?_)
  refine w0 (k := ?_)
  refine w1 (hc := kCd3.h {}) (k := ?_)
  refine w1 (hc := kCd3.h {}) (k := ?_)
  refine w1 (hc := kCd3.h {}) (k := ?_)
  refine w0 (k := ?_)
  refine w0 (k := ?_)
  refine w0 (k := ?_)
  refine v0 (k := ?_)
  refine v0 (k := ?_)
  refine nil0 ?_
  repeat refine gwp_seq ?_
  refine gwp_ret ?_
  repeat (first | refine gthen_ret ?_ | refine gblock_ret ?_ | refine gnoGoto_ret ?_)
  refine fin_ret ?_
  refine fp (hR := ?_)
  first
  | (simp only [hvyQ, hv] at *; simp_all [PRes.at]; done)
  | (simp only [hvyQ, hv] at *; simp_all [PRes.at] <;> (intros; omega))
  | (rw [show hvyQ f n m = decide (m < (f.eh - f.el + 1) * (f.nh - f.nl + 1)) by rw [hvyQ, hv, decide_eq_false (show ¬ (40 < (f.ps.length : Int)) by omega), decide_eq_false (show ¬ (n < (f.ps.length : Int)) by omega)]; rfl]; rfl)
  | (rw [show hvyQ f n m = true by rw [hvyQ, decide_eq_true (by omega)]; rfl]; rfl)
end Go.Proofs.Ytabeeaiilanmjaa

/- What the parameters of this seat's statements read as. -/
namespace Go.Proofs.Ytabeeaiilanmjaa
open Go.Gh
theorem own : ownKnob Try.prog.godebug = none := by kernel_rfl
theorem laidOut : laidOutB Try.prog = true := by kernel_rfl
def fdSS : List S := [.list [.int .i64, .int .i64, .int .i64, .int .i64, .int .i64, .int .i64] true, .int .i64, .int .i64, .int .i64, .int .i64, .int .i64, .int .i64, .int .i64, .int .i64, .int .i64]
theorem list_of {α : Type} {f : α → P} {Q : α → Prop} : ∀ {xs : List P}, (∀ y ∈ xs, ∃ a, y = f a ∧ Q a) → ∃ l : List α, xs = l.map f ∧ ∀ a ∈ l, Q a
  | [], _ => ⟨[], rfl, fun a h => by simp at h⟩
  | x :: xs, h => by
    obtain ⟨l, rfl, hl⟩ := list_of (xs := xs) fun y hy => h y (List.mem_cons_of_mem _ hy)
    obtain ⟨a, rfl, ha⟩ := h x (by simp)
    exact ⟨a :: l, rfl, fun b hb => by
      rcases List.mem_cons.1 hb with rfl | hb
      · exact ha
      exact hl b hb⟩
theorem fd_of {x : P} (h : FitA (true, fdSS) x) : ∃ f : Fd, x = .agg [.list (f.ps.map pS), .int .i64 f.el, .int .i64 f.eh, .int .i64 f.nl, .int .i64 f.nh, .int .i64 f.dl, .int .i64 f.dh, .int .i64 f.dep, .int .i64 f.tm, .int .i64 f.gp] ∧ f.ps.length ≤ maxLen := by
  simp only [FitA, fdSS, Fitss, Fits] at h
  obtain ⟨cs, rfl, _, _, rfl, ⟨xs, rfl, hxl, hxs⟩, _, _, rfl, ⟨a1, rfl, _⟩, _, _, rfl, ⟨a2, rfl, _⟩, _, _, rfl, ⟨a3, rfl, _⟩, _, _, rfl, ⟨a4, rfl, _⟩, _, _, rfl, ⟨a5, rfl, _⟩, _, _, rfl, ⟨a6, rfl, _⟩, _, _, rfl, ⟨a7, rfl, _⟩, _, _, rfl, ⟨a8, rfl, _⟩, _, _, rfl, ⟨a9, rfl, _⟩, rfl⟩ := h
  obtain ⟨l, rfl, _⟩ := list_of (f := pS) (Q := fun _ => True) (xs := xs) fun y hy => by
    obtain ⟨cs, ⟨_, _, rfl, ⟨a, rfl, _⟩, _, _, rfl, ⟨b, rfl, _⟩, _, _, rfl, ⟨c, rfl, _⟩, _, _, rfl, ⟨d, rfl, _⟩, _, _, rfl, ⟨e, rfl, _⟩, _, _, rfl, ⟨g, rfl, _⟩, rfl⟩, h, _⟩ := hxs y hy
    exact ⟨⟨a, b, c, d, e, g⟩, h trivial, trivial⟩
  exact ⟨⟨l, a1, a2, a3, a4, a5, a6, a7, a8, a9⟩, rfl, by simpa using hxl⟩
theorem wf_u8 {n : Int} (h : (Lit.int .u8 n).wf = true) : 0 ≤ n ∧ n ≤ 255 := by
  simpa [Lit.wf, IntKind.min, IntKind.max, IntKind.signed, IntKind.bits] using h
theorem u8_of {x : P} (h : FitA (false, [.int .u8]) x) : ∃ n : Nat, x = .int .u8 (n : Nat) ∧ n ≤ 255 := by
  simp only [FitA, Fitss, Fits] at h
  obtain ⟨_, _, e, ⟨n, rfl, h1⟩, rfl⟩ := h
  simp at e; subst e
  have := wf_u8 h1
  exact ⟨n.toNat, by rw [Int.toNat_of_nonneg this.1], by omega⟩
end Go.Proofs.Ytabeeaiilanmjaa
